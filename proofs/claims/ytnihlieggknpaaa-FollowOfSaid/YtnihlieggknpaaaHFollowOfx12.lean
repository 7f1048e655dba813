-- Written by plus.py for this claim.
import Derived.Test.YtnihlieggknpaaaHFollowOfx0
namespace Go.Proofs.Ytnihlieggknpaaa.HFollowOf
open Go.RowKit Go.Proofs.YtnihlieggknpaaaW.PrintWords Go.Proofs.YtnihlieggknpaaaW.PrintLast Go.Proofs.YtnihlieggknpaaaW.PrintMore
attribute [local go_sem] yj yk yw yx ya yb yl ym   -- for this text's walks alone
set_option linter.unusedVariables false
set_option linter.unusedSimpArgs false
mutual
def zK.j0 : Nat → Bool → Int → Int → List Int → List (S61) → Option (Int)
 | 0, _, _, _, _, _ => none
 | k + 1, x39, x303000, x303001, x303002, x303003 => if x39 = true then (some 8) else (zK.l0 k 0 x303000 x303001 x303002 x303003)
def zK.l0 : Nat → Int → Int → Int → List Int → List (S61) → Option (Int)
 | 0, _, _, _, _, _ => none
 | k + 1, x3, x303000, x303001, x303002, x303003 => if x3 < (x303003.length : Int) then (if 0 ≤ x3 then (if (((zM x303003 x3).f1).length : Int) > 500 then (some 8) else (zK.l0 k (wrap64 (x3 + 1)) x303000 x303001 x303002 x303003)) else (none)) else (if x303001 < 1 then (zK.j2 k true x303000 x303001 x303002 x303003) else (zK.j2 k (decide (x303001 > 4)) x303000 x303001 x303002 x303003))
def zK.j2 : Nat → Bool → Int → Int → List Int → List (S61) → Option (Int)
 | 0, _, _, _, _, _ => none
 | k + 1, x62, x303000, x303001, x303002, x303003 => if x62 = true then (some 11) else (zK.l1 k 0 x303000 x303001 x303002 x303003)
def zK.l1 : Nat → Int → Int → Int → List Int → List (S61) → Option (Int)
 | 0, _, _, _, _, _ => none
 | k + 1, x4, x303000, x303001, x303002, x303003 => if x4 < (x303003.length : Int) then (if 0 ≤ x4 then (if ((zM x303003 x4).f0) < 0 then (zK.j4 k x4 true x303000 x303001 x303002 x303003 ((zM x303003 x4).f0) ((zM x303003 x4).f1)) else (zK.j4 k x4 (decide (((zM x303003 x4).f0) ≥ (x303002.length : Int))) x303000 x303001 x303002 x303003 ((zM x303003 x4).f0) ((zM x303003 x4).f1))) else (none)) else (some 0)
def zK.j4 : Nat → Int → Bool → Int → Int → List Int → List (S61) → Int → List (S71) → Option (Int)
 | 0, _, _, _, _, _, _, _, _ => none
 | k + 1, x4, x85, x303000, x303001, x303002, x303003, x306000, x306001 => if x85 = true then (some 4) else (zK.l2 k x4 0 x303000 x303001 x303002 x303003 x306000 x306001)
def zK.l2 : Nat → Int → Int → Int → Int → List Int → List (S61) → Int → List (S71) → Option (Int)
 | 0, _, _, _, _, _, _, _, _ => none
 | k + 1, x4, x6, x303000, x303001, x303002, x303003, x306000, x306001 => if x6 < (x306001.length : Int) then (if 0 ≤ x6 then (if (zf x306001 x6).f0 = true then (if ((zf x306001 x6).f1) < 1 then (some 4) else (if ((zf x306001 x6).f1) > x303000 then (some 4) else (zK.l2 k x4 (wrap64 (x6 + 1)) x303000 x303001 x303002 x303003 x306000 x306001))) else (if ((zf x306001 x6).f1) < 0 then (some 4) else (if ((zf x306001 x6).f1) ≥ (x303002.length : Int) then (some 4) else (zK.l2 k x4 (wrap64 (x6 + 1)) x303000 x303001 x303002 x303003 x306000 x306001)))) else (none)) else (zK.l1 k (wrap64 (x4 + 1)) x303000 x303001 x303002 x303003)
end
def zK.f (k : Nat) (a0_0 : Int) (a0_1 : Int) (l0_2 : List Int) (l0_3 : List (S61)) : Option (Int) := if a0_0 < 1 then (zK.j0 k true a0_0 a0_1 l0_2 l0_3) else (if a0_0 > 60 then (zK.j0 k true a0_0 a0_1 l0_2 l0_3) else (if (l0_2.length : Int) < 1 then (zK.j0 k true a0_0 a0_1 l0_2 l0_3) else (if (l0_2.length : Int) > 500 then (zK.j0 k true a0_0 a0_1 l0_2 l0_3) else (if (l0_3.length : Int) < 1 then (zK.j0 k true a0_0 a0_1 l0_2 l0_3) else (zK.j0 k (decide ((l0_3.length : Int) > 2000)) a0_0 a0_1 l0_2 l0_3)))))
theorem zK.mono_l : ∀ k, (∀ y0 y1 y2 y3 y4, LeO (zK.j0 k y0 y1 y2 y3 y4) (zK.j0 (k + 1) y0 y1 y2 y3 y4)) ∧ (∀ y0 y1 y2 y3 y4, LeO (zK.l0 k y0 y1 y2 y3 y4) (zK.l0 (k + 1) y0 y1 y2 y3 y4)) ∧ (∀ y0 y1 y2 y3 y4, LeO (zK.j2 k y0 y1 y2 y3 y4) (zK.j2 (k + 1) y0 y1 y2 y3 y4)) ∧ (∀ y0 y1 y2 y3 y4, LeO (zK.l1 k y0 y1 y2 y3 y4) (zK.l1 (k + 1) y0 y1 y2 y3 y4)) ∧ (∀ y0 y1 y2 y3 y4 y5 y6 y7, LeO (zK.j4 k y0 y1 y2 y3 y4 y5 y6 y7) (zK.j4 (k + 1) y0 y1 y2 y3 y4 y5 y6 y7)) ∧ (∀ y0 y1 y2 y3 y4 y5 y6 y7, LeO (zK.l2 k y0 y1 y2 y3 y4 y5 y6 y7) (zK.l2 (k + 1) y0 y1 y2 y3 y4 y5 y6 y7))
 | 0 => ⟨fun _ _ _ _ _ r h => by simp [zK.j0] at h, fun _ _ _ _ _ r h => by simp [zK.l0] at h, fun _ _ _ _ _ r h => by simp [zK.j2] at h, fun _ _ _ _ _ r h => by simp [zK.l1] at h, fun _ _ _ _ _ _ _ _ r h => by simp [zK.j4] at h, fun _ _ _ _ _ _ _ _ r h => by simp [zK.l2] at h⟩
 | k + 1 => by
  obtain ⟨ih0, ih1, ih2, ih3, ih4, ih5⟩ := zK.mono_l k
  refine ⟨?_, ?_, ?_, ?_, ?_, ?_⟩
  ·intro y0 y1 y2 y3 y4
   unfold zK.j0
   repeat' first
   | (with_reducible exact ih0 _ _ _ _ _)
   | (with_reducible exact ih1 _ _ _ _ _)
   | (with_reducible exact ih2 _ _ _ _ _)
   | (with_reducible exact ih3 _ _ _ _ _)
   | (with_reducible exact ih4 _ _ _ _ _ _ _ _)
   | (with_reducible exact ih5 _ _ _ _ _ _ _ _)
   | (with_reducible exact LeO.refl _)
   | (with_reducible exact LeO.none _)
   | (with_reducible refine LeO.ite ?_ ?_)
   | (with_reducible refine LeO.bind ?_ (fun _ => ?_))
   | exact ih0 _ _ _ _ _
   | exact ih1 _ _ _ _ _
   | exact ih2 _ _ _ _ _
   | exact ih3 _ _ _ _ _
   | exact ih4 _ _ _ _ _ _ _ _
   | exact ih5 _ _ _ _ _ _ _ _
   | exact LeO.none _
   | refine LeO.ite ?_ ?_
   | refine LeO.bind ?_ (fun _ => ?_)
  ·intro y0 y1 y2 y3 y4
   unfold zK.l0
   repeat' first
   | (with_reducible exact ih0 _ _ _ _ _)
   | (with_reducible exact ih1 _ _ _ _ _)
   | (with_reducible exact ih2 _ _ _ _ _)
   | (with_reducible exact ih3 _ _ _ _ _)
   | (with_reducible exact ih4 _ _ _ _ _ _ _ _)
   | (with_reducible exact ih5 _ _ _ _ _ _ _ _)
   | (with_reducible exact LeO.refl _)
   | (with_reducible exact LeO.none _)
   | (with_reducible refine LeO.ite ?_ ?_)
   | (with_reducible refine LeO.bind ?_ (fun _ => ?_))
   | exact ih0 _ _ _ _ _
   | exact ih1 _ _ _ _ _
   | exact ih2 _ _ _ _ _
   | exact ih3 _ _ _ _ _
   | exact ih4 _ _ _ _ _ _ _ _
   | exact ih5 _ _ _ _ _ _ _ _
   | exact LeO.none _
   | refine LeO.ite ?_ ?_
   | refine LeO.bind ?_ (fun _ => ?_)
  ·intro y0 y1 y2 y3 y4
   unfold zK.j2
   repeat' first
   | (with_reducible exact ih0 _ _ _ _ _)
   | (with_reducible exact ih1 _ _ _ _ _)
   | (with_reducible exact ih2 _ _ _ _ _)
   | (with_reducible exact ih3 _ _ _ _ _)
   | (with_reducible exact ih4 _ _ _ _ _ _ _ _)
   | (with_reducible exact ih5 _ _ _ _ _ _ _ _)
   | (with_reducible exact LeO.refl _)
   | (with_reducible exact LeO.none _)
   | (with_reducible refine LeO.ite ?_ ?_)
   | (with_reducible refine LeO.bind ?_ (fun _ => ?_))
   | exact ih0 _ _ _ _ _
   | exact ih1 _ _ _ _ _
   | exact ih2 _ _ _ _ _
   | exact ih3 _ _ _ _ _
   | exact ih4 _ _ _ _ _ _ _ _
   | exact ih5 _ _ _ _ _ _ _ _
   | exact LeO.none _
   | refine LeO.ite ?_ ?_
   | refine LeO.bind ?_ (fun _ => ?_)
  ·intro y0 y1 y2 y3 y4
   unfold zK.l1
   repeat' first
   | (with_reducible exact ih0 _ _ _ _ _)
   | (with_reducible exact ih1 _ _ _ _ _)
   | (with_reducible exact ih2 _ _ _ _ _)
   | (with_reducible exact ih3 _ _ _ _ _)
   | (with_reducible exact ih4 _ _ _ _ _ _ _ _)
   | (with_reducible exact ih5 _ _ _ _ _ _ _ _)
   | (with_reducible exact LeO.refl _)
   | (with_reducible exact LeO.none _)
   | (with_reducible refine LeO.ite ?_ ?_)
   | (with_reducible refine LeO.bind ?_ (fun _ => ?_))
   | exact ih0 _ _ _ _ _
   | exact ih1 _ _ _ _ _
   | exact ih2 _ _ _ _ _
   | exact ih3 _ _ _ _ _
   | exact ih4 _ _ _ _ _ _ _ _
   | exact ih5 _ _ _ _ _ _ _ _
   | exact LeO.none _
   | refine LeO.ite ?_ ?_
   | refine LeO.bind ?_ (fun _ => ?_)
  ·intro y0 y1 y2 y3 y4 y5 y6 y7
   unfold zK.j4
   repeat' first
   | (with_reducible exact ih0 _ _ _ _ _)
   | (with_reducible exact ih1 _ _ _ _ _)
   | (with_reducible exact ih2 _ _ _ _ _)
   | (with_reducible exact ih3 _ _ _ _ _)
   | (with_reducible exact ih4 _ _ _ _ _ _ _ _)
   | (with_reducible exact ih5 _ _ _ _ _ _ _ _)
   | (with_reducible exact LeO.refl _)
   | (with_reducible exact LeO.none _)
   | (with_reducible refine LeO.ite ?_ ?_)
   | (with_reducible refine LeO.bind ?_ (fun _ => ?_))
   | exact ih0 _ _ _ _ _
   | exact ih1 _ _ _ _ _
   | exact ih2 _ _ _ _ _
   | exact ih3 _ _ _ _ _
   | exact ih4 _ _ _ _ _ _ _ _
   | exact ih5 _ _ _ _ _ _ _ _
   | exact LeO.none _
   | refine LeO.ite ?_ ?_
   | refine LeO.bind ?_ (fun _ => ?_)
  ·intro y0 y1 y2 y3 y4 y5 y6 y7
   unfold zK.l2
   repeat' first
   | (with_reducible exact ih0 _ _ _ _ _)
   | (with_reducible exact ih1 _ _ _ _ _)
   | (with_reducible exact ih2 _ _ _ _ _)
   | (with_reducible exact ih3 _ _ _ _ _)
   | (with_reducible exact ih4 _ _ _ _ _ _ _ _)
   | (with_reducible exact ih5 _ _ _ _ _ _ _ _)
   | (with_reducible exact LeO.refl _)
   | (with_reducible exact LeO.none _)
   | (with_reducible refine LeO.ite ?_ ?_)
   | (with_reducible refine LeO.bind ?_ (fun _ => ?_))
   | exact ih0 _ _ _ _ _
   | exact ih1 _ _ _ _ _
   | exact ih2 _ _ _ _ _
   | exact ih3 _ _ _ _ _
   | exact ih4 _ _ _ _ _ _ _ _
   | exact ih5 _ _ _ _ _ _ _ _
   | exact LeO.none _
   | refine LeO.ite ?_ ?_
   | refine LeO.bind ?_ (fun _ => ?_)
theorem zK.mono : ∀ a0 a1 a2 a3 k, LeO (zK.f k a0 a1 a2 a3) (zK.f (k + 1) a0 a1 a2 a3) := by
 intro a0 a1 a2 a3 k
 obtain ⟨ih0, ih1, ih2, ih3, ih4, ih5⟩ := zK.mono_l k
 unfold zK.f
 repeat' first
   | (with_reducible exact ih0 _ _ _ _ _)
   | (with_reducible exact ih1 _ _ _ _ _)
   | (with_reducible exact ih2 _ _ _ _ _)
   | (with_reducible exact ih3 _ _ _ _ _)
   | (with_reducible exact ih4 _ _ _ _ _ _ _ _)
   | (with_reducible exact ih5 _ _ _ _ _ _ _ _)
   | (with_reducible exact LeO.refl _)
   | (with_reducible exact LeO.none _)
   | (with_reducible refine LeO.ite ?_ ?_)
   | (with_reducible refine LeO.bind ?_ (fun _ => ?_))
   | exact ih0 _ _ _ _ _
   | exact ih1 _ _ _ _ _
   | exact ih2 _ _ _ _ _
   | exact ih3 _ _ _ _ _
   | exact ih4 _ _ _ _ _ _ _ _
   | exact ih5 _ _ _ _ _ _ _ _
   | exact LeO.none _
   | refine LeO.ite ?_ ?_
   | refine LeO.bind ?_ (fun _ => ?_)
set_option maxHeartbeats 8000000 in
set_option maxRecDepth 100000 in
theorem zK.calls (k : Nat) (a0_0 : Int) (a0_1 : Int) (A0_2 : Option Addr) (c0_2 : Nat) (l0_2 : List Int) (A0_3 : Option Addr) (c0_3 : Nat) (l0_3 : List (S61)) (r : Int) (w : World) (hr0_2 : Kd.C (Kd.int .i64) w A0_2 l0_2.length l0_2) (hc0_2 : l0_2.length ≤ c0_2) (hr0_3 : Kd.C k61 w A0_3 l0_3.length l0_3) (hc0_3 : l0_3.length ≤ c0_3) (h : zK.f k a0_0 a0_1 l0_2 l0_3 = some r) :
  Calls Try.prog 10 #[.agg #[.int .i64 a0_0, .int .i64 a0_1, .slice A0_2 l0_2.length c0_2, .slice A0_3 l0_3.length c0_3]] w fun e w' => e = .returned (.int .i64 r) ∧ Below w.heap.size w w' := by
 have hu25 := Try.underlying25
 have hu61 := Try.underlying61
 have hu71 := Try.underlying71
 have HR0_2 := zA.mk hr0_2
 have HC0_2 := zA.mk hc0_2
 clear hr0_2 hc0_2
 have HR0_3 := zA.mk hr0_3
 have HC0_3 := zA.mk hc0_3
 clear hr0_3 hc0_3
 have HB := zA.mk (Below.refl w.heap.size w)
 have H : (if a0_0 < 1 then (zK.j0 k true a0_0 a0_1 l0_2 l0_3) else (if a0_0 > 60 then (zK.j0 k true a0_0 a0_1 l0_2 l0_3) else (if (l0_2.length : Int) < 1 then (zK.j0 k true a0_0 a0_1 l0_2 l0_3) else (if (l0_2.length : Int) > 500 then (zK.j0 k true a0_0 a0_1 l0_2 l0_3) else (if (l0_3.length : Int) < 1 then (zK.j0 k true a0_0 a0_1 l0_2 l0_3) else (zK.j0 k (decide ((l0_3.length : Int) > 2000)) a0_0 a0_1 l0_2 l0_3)))))) = some r := h
 clear h
 have HC2 := zA.mk H
 clear H
 go_enter Try.func10, Try.ntmps10
 go_upto_region 1 with (first | ((with_reducible refine zr (N := 1) rfl ?_); (try (refine yK (by rfl) ?_; dsimp only)); refine zz ?hg (N := 1) ?hd (cs := #[.int .i64 a0_0, .int .i64 a0_1, .slice A0_2 l0_2.length c0_2, .slice A0_3 l0_3.length c0_3]) (t := 25) ?hr ?_; (case hd => rfl); (case hg => rfl); (case hr => first | (go_simp; done) | (go_simp; rfl)); intro gb302 hg w3 hbox hb; have n0_ := zA.mk (zL (by repeat (first | (with_reducible first | exact HB.out | apply zD | apply zB | apply zC) | exact HB.out)) hb); have n1_ := zA.mk (hbox); have n2_ := zA.mk ((by rw [hg]; exact (zN (by repeat (first | (with_reducible first | exact HB.out | apply zD | apply zB | apply zC) | exact HB.out))) : w.heap.size ≤ gb302)); have n3_ := zA.mk ((by rw [hg]; exact (zN (by repeat (first | (with_reducible first | exact HB.out | apply zD | apply zB | apply zC) | exact HB.out))) : w.heap.size ≤ gb302)); clear HB; have HB := n0_; have BK302 := n1_; have GW302 := n2_; have GE302 := n3_; clear n0_ n1_ n2_ n3_; clear hb hbox hg))
 (try simp only [Act.put, List.setIfInBounds_toArray, List.set_cons_zero, List.set_cons_succ])
 go_cut [39] (fun v39 wc => ∃ (kq : Nat) (x39_1 : Bool), v39 = .bool x39_1 ∧ zA (zK.j0 kq x39_1 a0_0 a0_1 l0_2 l0_3 = some r) ∧ zA (kq ≤ k) ∧ zA (wc.heap[gb302]? = some (.cells #[.int .i64 a0_0, .int .i64 a0_1, (.slice A0_2 l0_2.length c0_2), (.slice A0_3 l0_3.length c0_3)] 25 (0, 0))) ∧ zA (Below w.heap.size w wc))
 case first =>
  have H := HC2.out
  clear HC2
  by_cases c4 : a0_0 < 1
  ·rw [if_pos c4] at H
   have c4b0 : decide (a0_0 < 1) = true := decide_eq_true c4
   clear c4
   (first | rw [c4b0] | (simp only [zv, zw]; rw [c4b0]) | skip)
   have H' := zA.mk H
   clear H
   have hcz5_0 : w3.cell? ⟨gb302, 0, none⟩ = some (.int .i64 a0_0) := (zG BK302.out 0).trans rfl
   have hcz5_1 : w3.cell? ⟨gb302, 1, none⟩ = some (.int .i64 a0_1) := (zG BK302.out 1).trans rfl
   have hcz5_2 : w3.cell? ⟨gb302, 2, none⟩ = some (.slice A0_2 l0_2.length c0_2) := (zG BK302.out 2).trans rfl
   have hcz5_3 : w3.cell? ⟨gb302, 3, none⟩ = some (.slice A0_3 l0_3.length c0_3) := (zG BK302.out 3).trans rfl
   have hfz5_0 := zF BK302.out 0
   have hfz5_1 := zF BK302.out 1
   have hfz5_2 := zF BK302.out 2
   have hfz5_3 := zF BK302.out 3
   go_wp2
   go_meet
   case rel => exact ⟨_, (true), (by first | rfl | (simp; done) | (simp [*]; done)), H', ⟨by first | omega | exact Nat.le_refl _⟩, ⟨by (with_reducible repeat (first | refine zI ?_ _ | refine zJ ?_ | refine zH ?_ _)); exact BK302.out⟩, ⟨by repeat (first | (with_reducible first | exact HB.out | apply zD | apply zB | apply zC | refine zE ?_ GE302.out) | exact HB.out)⟩⟩
  ·rw [if_neg c4] at H
   have c4b0 : decide (a0_0 < 1) = false := decide_eq_false c4
   clear c4
   (first | rw [c4b0] | (simp only [zv, zw]; rw [c4b0]) | skip)
   by_cases c6 : a0_0 > 60
   ·rw [if_pos c6] at H
    have c6b0 : decide (60 < a0_0) = true := decide_eq_true c6
    clear c6
    have H' := zA.mk H
    clear H
    have hcz7_0 : w3.cell? ⟨gb302, 0, none⟩ = some (.int .i64 a0_0) := (zG BK302.out 0).trans rfl
    have hcz7_1 : w3.cell? ⟨gb302, 1, none⟩ = some (.int .i64 a0_1) := (zG BK302.out 1).trans rfl
    have hcz7_2 : w3.cell? ⟨gb302, 2, none⟩ = some (.slice A0_2 l0_2.length c0_2) := (zG BK302.out 2).trans rfl
    have hcz7_3 : w3.cell? ⟨gb302, 3, none⟩ = some (.slice A0_3 l0_3.length c0_3) := (zG BK302.out 3).trans rfl
    have hfz7_0 := zF BK302.out 0
    have hfz7_1 := zF BK302.out 1
    have hfz7_2 := zF BK302.out 2
    have hfz7_3 := zF BK302.out 3
    go_wp2
    go_meet
    case rel => exact ⟨_, (true), (by first | rfl | (simp; done) | (simp [*]; done)), H', ⟨by first | omega | exact Nat.le_refl _⟩, ⟨by (with_reducible repeat (first | refine zI ?_ _ | refine zJ ?_ | refine zH ?_ _)); exact BK302.out⟩, ⟨by repeat (first | (with_reducible first | exact HB.out | apply zD | apply zB | apply zC | refine zE ?_ GE302.out) | exact HB.out)⟩⟩
   ·rw [if_neg c6] at H
    have c6b0 : decide (60 < a0_0) = false := decide_eq_false c6
    clear c6
    by_cases c8 : (l0_2.length : Int) < 1
    ·rw [if_pos c8] at H
     have c8b0 : decide ((l0_2.length : Int) < 1) = true := decide_eq_true c8
     have c8b1 : decide (l0_2.length < 1) = true := decide_eq_true (by omega)
     clear c8
     have H' := zA.mk H
     clear H
     have hcz9_0 : w3.cell? ⟨gb302, 0, none⟩ = some (.int .i64 a0_0) := (zG BK302.out 0).trans rfl
     have hcz9_1 : w3.cell? ⟨gb302, 1, none⟩ = some (.int .i64 a0_1) := (zG BK302.out 1).trans rfl
     have hcz9_2 : w3.cell? ⟨gb302, 2, none⟩ = some (.slice A0_2 l0_2.length c0_2) := (zG BK302.out 2).trans rfl
     have hcz9_3 : w3.cell? ⟨gb302, 3, none⟩ = some (.slice A0_3 l0_3.length c0_3) := (zG BK302.out 3).trans rfl
     have hfz9_0 := zF BK302.out 0
     have hfz9_1 := zF BK302.out 1
     have hfz9_2 := zF BK302.out 2
     have hfz9_3 := zF BK302.out 3
     go_wp2
     go_meet
     case rel => exact ⟨_, (true), (by first | rfl | (simp; done) | (simp [*]; done)), H', ⟨by first | omega | exact Nat.le_refl _⟩, ⟨by (with_reducible repeat (first | refine zI ?_ _ | refine zJ ?_ | refine zH ?_ _)); exact BK302.out⟩, ⟨by repeat (first | (with_reducible first | exact HB.out | apply zD | apply zB | apply zC | refine zE ?_ GE302.out) | exact HB.out)⟩⟩
    ·rw [if_neg c8] at H
     have c8b0 : decide ((l0_2.length : Int) < 1) = false := decide_eq_false c8
     have c8b1 : decide (l0_2.length < 1) = false := decide_eq_false (by omega)
     clear c8
     by_cases c10 : (l0_2.length : Int) > 500
     ·rw [if_pos c10] at H
      have c10b0 : decide (500 < (l0_2.length : Int)) = true := decide_eq_true c10
      have c10b1 : decide (500 < l0_2.length) = true := decide_eq_true (by omega)
      clear c10
      have H' := zA.mk H
      clear H
      have hcz11_0 : w3.cell? ⟨gb302, 0, none⟩ = some (.int .i64 a0_0) := (zG BK302.out 0).trans rfl
      have hcz11_1 : w3.cell? ⟨gb302, 1, none⟩ = some (.int .i64 a0_1) := (zG BK302.out 1).trans rfl
      have hcz11_2 : w3.cell? ⟨gb302, 2, none⟩ = some (.slice A0_2 l0_2.length c0_2) := (zG BK302.out 2).trans rfl
      have hcz11_3 : w3.cell? ⟨gb302, 3, none⟩ = some (.slice A0_3 l0_3.length c0_3) := (zG BK302.out 3).trans rfl
      have hfz11_0 := zF BK302.out 0
      have hfz11_1 := zF BK302.out 1
      have hfz11_2 := zF BK302.out 2
      have hfz11_3 := zF BK302.out 3
      go_wp2
      go_meet
      case rel => exact ⟨_, (true), (by first | rfl | (simp; done) | (simp [*]; done)), H', ⟨by first | omega | exact Nat.le_refl _⟩, ⟨by (with_reducible repeat (first | refine zI ?_ _ | refine zJ ?_ | refine zH ?_ _)); exact BK302.out⟩, ⟨by repeat (first | (with_reducible first | exact HB.out | apply zD | apply zB | apply zC | refine zE ?_ GE302.out) | exact HB.out)⟩⟩
     ·rw [if_neg c10] at H
      have c10b0 : decide (500 < (l0_2.length : Int)) = false := decide_eq_false c10
      have c10b1 : decide (500 < l0_2.length) = false := decide_eq_false (by omega)
      clear c10
      by_cases c12 : (l0_3.length : Int) < 1
      ·rw [if_pos c12] at H
       have c12b0 : decide ((l0_3.length : Int) < 1) = true := decide_eq_true c12
       have c12b1 : decide (l0_3.length < 1) = true := decide_eq_true (by omega)
       clear c12
       have H' := zA.mk H
       clear H
       have hcz13_0 : w3.cell? ⟨gb302, 0, none⟩ = some (.int .i64 a0_0) := (zG BK302.out 0).trans rfl
       have hcz13_1 : w3.cell? ⟨gb302, 1, none⟩ = some (.int .i64 a0_1) := (zG BK302.out 1).trans rfl
       have hcz13_2 : w3.cell? ⟨gb302, 2, none⟩ = some (.slice A0_2 l0_2.length c0_2) := (zG BK302.out 2).trans rfl
       have hcz13_3 : w3.cell? ⟨gb302, 3, none⟩ = some (.slice A0_3 l0_3.length c0_3) := (zG BK302.out 3).trans rfl
       have hfz13_0 := zF BK302.out 0
       have hfz13_1 := zF BK302.out 1
       have hfz13_2 := zF BK302.out 2
       have hfz13_3 := zF BK302.out 3
       go_wp2
       go_meet
       case rel => exact ⟨_, (true), (by first | rfl | (simp; done) | (simp [*]; done)), H', ⟨by first | omega | exact Nat.le_refl _⟩, ⟨by (with_reducible repeat (first | refine zI ?_ _ | refine zJ ?_ | refine zH ?_ _)); exact BK302.out⟩, ⟨by repeat (first | (with_reducible first | exact HB.out | apply zD | apply zB | apply zC | refine zE ?_ GE302.out) | exact HB.out)⟩⟩
      ·rw [if_neg c12] at H
       have c12b0 : decide ((l0_3.length : Int) < 1) = false := decide_eq_false c12
       have c12b1 : decide (l0_3.length < 1) = false := decide_eq_false (by omega)
       clear c12
       have H' := zA.mk H
       clear H
       have hcz14_0 : w3.cell? ⟨gb302, 0, none⟩ = some (.int .i64 a0_0) := (zG BK302.out 0).trans rfl
       have hcz14_1 : w3.cell? ⟨gb302, 1, none⟩ = some (.int .i64 a0_1) := (zG BK302.out 1).trans rfl
       have hcz14_2 : w3.cell? ⟨gb302, 2, none⟩ = some (.slice A0_2 l0_2.length c0_2) := (zG BK302.out 2).trans rfl
       have hcz14_3 : w3.cell? ⟨gb302, 3, none⟩ = some (.slice A0_3 l0_3.length c0_3) := (zG BK302.out 3).trans rfl
       have hfz14_0 := zF BK302.out 0
       have hfz14_1 := zF BK302.out 1
       have hfz14_2 := zF BK302.out 2
       have hfz14_3 := zF BK302.out 3
       go_wp2
       go_meet
       case rel => exact ⟨_, (decide ((l0_3.length : Int) > 2000)), (by first | rfl | (simp; done) | (simp [*]; done)), H', ⟨by first | omega | exact Nat.le_refl _⟩, ⟨by (with_reducible repeat (first | refine zI ?_ _ | refine zJ ?_ | refine zH ?_ _)); exact BK302.out⟩, ⟨by repeat (first | (with_reducible first | exact HB.out | apply zD | apply zB | apply zC | refine zE ?_ GE302.out) | exact HB.out)⟩⟩
 case rest =>
  clear HC2
  try clear c1
  try clear p2
  try clear c4
  try clear c4b0
  try clear c6
  try clear c6b0
  try clear c8
  try clear c8b0
  try clear c8b1
  try clear c10
  try clear c10b0
  try clear c10b1
  try clear c12
  try clear c12b0
  try clear c12b1
  try clear hcz11_0
  try clear hcz11_1
  try clear hcz11_2
  try clear hcz11_3
  try clear hcz13_0
  try clear hcz13_1
  try clear hcz13_2
  try clear hcz13_3
  try clear hcz14_0
  try clear hcz14_1
  try clear hcz14_2
  try clear hcz14_3
  try clear hcz5_0
  try clear hcz5_1
  try clear hcz5_2
  try clear hcz5_3
  try clear hcz7_0
  try clear hcz7_1
  try clear hcz7_2
  try clear hcz7_3
  try clear hcz9_0
  try clear hcz9_1
  try clear hcz9_2
  try clear hcz9_3
  try clear hfz11_0
  try clear hfz11_1
  try clear hfz11_2
  try clear hfz11_3
  try clear hfz13_0
  try clear hfz13_1
  try clear hfz13_2
  try clear hfz13_3
  try clear hfz14_0
  try clear hfz14_1
  try clear hfz14_2
  try clear hfz14_3
  try clear hfz5_0
  try clear hfz5_1
  try clear hfz5_2
  try clear hfz5_3
  try clear hfz7_0
  try clear hfz7_1
  try clear hfz7_2
  try clear hfz7_3
  try clear hfz9_0
  try clear hfz9_1
  try clear hfz9_2
  try clear hfz9_3
  obtain ⟨kq, x39_1, rfl, HA, HJ1, BK302, HB⟩ := hcut
  cases kq with
  | zero => exact absurd HA.out (by simp [zK.j0])
  | succ kj1 =>
   have H := HA.out
   clear HA
   simp only [zK.j0] at H
   by_cases c15 : x39_1 = true
   ·subst c15
    have H1 : (some 8) = some r := by rw [if_pos rfl] at H; exact H
    clear H
    have H := H1
    clear H1
    obtain rfl := Option.some.inj H
    go_wp2
    go_ret
    exact ⟨by first | rfl | (simp [zX, zY] <;> rfl) | (simp [*, zX, zY] <;> rfl), by repeat (first | (with_reducible first | exact HB.out | apply zD | apply zB | apply zC | refine zE ?_ GE302.out) | exact HB.out)⟩
   ·replace c15 := Bool.eq_false_iff.mpr c15
    subst c15
    have H1 : (zK.l0 kj1 0 a0_0 a0_1 l0_2 l0_3) = some r := by rw [if_neg (show ¬ (false = true) by decide)] at H; exact H
    clear H
    have H := H1
    clear H1
    have H' := zA.mk H
    clear H
    go_wp2
    go_loopg [3] kj1 (fun kq v3 w' => ∃ (x3_2 : Int), v3 = .int .i64 x3_2 ∧ zA (zK.l0 kq x3_2 a0_0 a0_1 l0_2 l0_3 = some r) ∧ zA (kq ≤ kj1) ∧ zA (w'.heap[gb302]? = some (.cells #[.int .i64 a0_0, .int .i64 a0_1, (.slice A0_2 l0_2.length c0_2), (.slice A0_3 l0_3.length c0_3)] 25 (0, 0))) ∧ zA (Below w.heap.size w w'))
    case atStart => exact ⟨(0), (by first | rfl | (simp; done) | (simp [*]; done)), H', ⟨Nat.le_refl _⟩, ⟨by (with_reducible repeat (first | refine zI ?_ _ | refine zJ ?_ | refine zH ?_ _)); exact BK302.out⟩, ⟨by repeat (first | (with_reducible first | exact HB.out | apply zD | apply zB | apply zC | refine zE ?_ GE302.out) | exact HB.out)⟩⟩
    case round =>
     clear H'
     try clear c1
     try clear p2
     try clear c4
     try clear c4b0
     try clear c6
     try clear c6b0
     try clear c8
     try clear c8b0
     try clear c8b1
     try clear c10
     try clear c10b0
     try clear c10b1
     try clear c12
     try clear c12b0
     try clear c12b1
     try clear c15
     try clear hcz11_0
     try clear hcz11_1
     try clear hcz11_2
     try clear hcz11_3
     try clear hcz13_0
     try clear hcz13_1
     try clear hcz13_2
     try clear hcz13_3
     try clear hcz14_0
     try clear hcz14_1
     try clear hcz14_2
     try clear hcz14_3
     try clear hcz5_0
     try clear hcz5_1
     try clear hcz5_2
     try clear hcz5_3
     try clear hcz7_0
     try clear hcz7_1
     try clear hcz7_2
     try clear hcz7_3
     try clear hcz9_0
     try clear hcz9_1
     try clear hcz9_2
     try clear hcz9_3
     try clear hfz11_0
     try clear hfz11_1
     try clear hfz11_2
     try clear hfz11_3
     try clear hfz13_0
     try clear hfz13_1
     try clear hfz13_2
     try clear hfz13_3
     try clear hfz14_0
     try clear hfz14_1
     try clear hfz14_2
     try clear hfz14_3
     try clear hfz5_0
     try clear hfz5_1
     try clear hfz5_2
     try clear hfz5_3
     try clear hfz7_0
     try clear hfz7_1
     try clear hfz7_2
     try clear hfz7_3
     try clear hfz9_0
     try clear hfz9_1
     try clear hfz9_2
     try clear hfz9_3
     try clear p2
     obtain ⟨x3_2, rfl, HA, HK2, BK302, HB⟩ := hrel
     cases gk with
     | zero => exact absurd HA.out (by simp [zK.l0])
     | succ k2 =>
      have H := HA.out
      clear HA
      simp only [zK.l0] at H
      by_cases c16 : x3_2 < (l0_3.length : Int)
      ·rw [if_pos c16] at H
       have c16b0 : decide (x3_2 < (l0_3.length : Int)) = true := decide_eq_true c16
       clear c16
       by_cases c17 : 0 ≤ x3_2
       ·rw [if_pos c17] at H
        have c17b0 : decide (0 ≤ x3_2) = true := decide_eq_true c17
        clear c17
        by_cases c18 : (((zM l0_3 x3_2).f1).length : Int) > 500
        ·rw [if_pos c18] at H
         have c18b0 : decide (500 < (((zM l0_3 x3_2).f1).length : Int)) = true := decide_eq_true c18
         have c18b1 : decide (500 < ((zM l0_3 x3_2).f1).length) = true := decide_eq_true (by omega)
         clear c18
         obtain rfl := Option.some.inj H
         have hcz19_0 : wr.cell? ⟨gb302, 0, none⟩ = some (.int .i64 a0_0) := (zG BK302.out 0).trans rfl
         have hcz19_1 : wr.cell? ⟨gb302, 1, none⟩ = some (.int .i64 a0_1) := (zG BK302.out 1).trans rfl
         have hcz19_2 : wr.cell? ⟨gb302, 2, none⟩ = some (.slice A0_2 l0_2.length c0_2) := (zG BK302.out 2).trans rfl
         have hcz19_3 : wr.cell? ⟨gb302, 3, none⟩ = some (.slice A0_3 l0_3.length c0_3) := (zG BK302.out 3).trans rfl
         have hfz19_0 := zF BK302.out 0
         have hfz19_1 := zF BK302.out 1
         have hfz19_2 := zF BK302.out 2
         have hfz19_3 := zF BK302.out 3
         have p303 : 0 ≤ (x3_2 : Int) := of_decide_eq_true (by first | (with_reducible assumption) | assumption)
         have q303 : x3_2 < (l0_3.length : Int) := of_decide_eq_true (by first | (with_reducible assumption) | assumption)
         obtain ⟨ad303, A303_1, c303_1, e303, hx303_0, hx303_1, hl303_1, hi303_1⟩ := yy HR0_3.out x3_2 p303 q303
         cases e303
         replace hx303_0 := (HB.out.cell (World.block_lt_of_cell? w _ hx303_0)).trans hx303_0
         replace hx303_1 := (HB.out.cell (World.block_lt_of_cell? w _ hx303_1)).trans hx303_1
         have HR303_1 := zA.mk hi303_1
         have HC303_1 := zA.mk hl303_1
         clear hi303_1 hl303_1
         replace p303 := eq_true p303
         replace q303 := eq_true q303
         go_wp2
         go_ret
         exact ⟨by first | rfl | (simp [zX, zY] <;> rfl) | (simp [*, zX, zY] <;> rfl), by repeat (first | (with_reducible first | exact HB.out | apply zD | apply zB | apply zC | refine zE ?_ GE302.out) | exact HB.out)⟩
        ·rw [if_neg c18] at H
         have c18b0 : decide (500 < (((zM l0_3 x3_2).f1).length : Int)) = false := decide_eq_false c18
         have c18b1 : decide (500 < ((zM l0_3 x3_2).f1).length) = false := decide_eq_false (by omega)
         clear c18
         have H' := zA.mk H
         clear H
         have hcz20_0 : wr.cell? ⟨gb302, 0, none⟩ = some (.int .i64 a0_0) := (zG BK302.out 0).trans rfl
         have hcz20_1 : wr.cell? ⟨gb302, 1, none⟩ = some (.int .i64 a0_1) := (zG BK302.out 1).trans rfl
         have hcz20_2 : wr.cell? ⟨gb302, 2, none⟩ = some (.slice A0_2 l0_2.length c0_2) := (zG BK302.out 2).trans rfl
         have hcz20_3 : wr.cell? ⟨gb302, 3, none⟩ = some (.slice A0_3 l0_3.length c0_3) := (zG BK302.out 3).trans rfl
         have hfz20_0 := zF BK302.out 0
         have hfz20_1 := zF BK302.out 1
         have hfz20_2 := zF BK302.out 2
         have hfz20_3 := zF BK302.out 3
         have p303 : 0 ≤ (x3_2 : Int) := of_decide_eq_true (by first | (with_reducible assumption) | assumption)
         have q303 : x3_2 < (l0_3.length : Int) := of_decide_eq_true (by first | (with_reducible assumption) | assumption)
         obtain ⟨ad303, A303_1, c303_1, e303, hx303_0, hx303_1, hl303_1, hi303_1⟩ := yy HR0_3.out x3_2 p303 q303
         cases e303
         replace hx303_0 := (HB.out.cell (World.block_lt_of_cell? w _ hx303_0)).trans hx303_0
         replace hx303_1 := (HB.out.cell (World.block_lt_of_cell? w _ hx303_1)).trans hx303_1
         have HR303_1 := zA.mk hi303_1
         have HC303_1 := zA.mk hl303_1
         clear hi303_1 hl303_1
         replace p303 := eq_true p303
         replace q303 := eq_true q303
         go_wp2
         go_roundg k2
         case measure => have := HJ1.out; have := HK2.out; omega
         case rel => exact ⟨(wrap64 (x3_2 + 1)), (by first | rfl | (simp; done) | (simp [*]; done)), H', ⟨by have := HJ1.out; have := HK2.out; omega⟩, ⟨by (with_reducible repeat (first | refine zI ?_ _ | refine zJ ?_ | refine zH ?_ _)); exact BK302.out⟩, ⟨by repeat (first | (with_reducible first | exact HB.out | apply zD | apply zB | apply zC | refine zE ?_ GE302.out) | exact HB.out)⟩⟩
       ·rw [if_neg c17] at H
        exact absurd H (by simp)
      ·rw [if_neg c16] at H
       have c16b0 : decide (x3_2 < (l0_3.length : Int)) = false := decide_eq_false c16
       clear c16
       have HC21 := zA.mk H
       clear H
       have hcz22_0 : wr.cell? ⟨gb302, 0, none⟩ = some (.int .i64 a0_0) := (zG BK302.out 0).trans rfl
       have hcz22_1 : wr.cell? ⟨gb302, 1, none⟩ = some (.int .i64 a0_1) := (zG BK302.out 1).trans rfl
       have hcz22_2 : wr.cell? ⟨gb302, 2, none⟩ = some (.slice A0_2 l0_2.length c0_2) := (zG BK302.out 2).trans rfl
       have hcz22_3 : wr.cell? ⟨gb302, 3, none⟩ = some (.slice A0_3 l0_3.length c0_3) := (zG BK302.out 3).trans rfl
       have hfz22_0 := zF BK302.out 0
       have hfz22_1 := zF BK302.out 1
       have hfz22_2 := zF BK302.out 2
       have hfz22_3 := zF BK302.out 3
       go_upto_region 8 with (fail)
       go_cut [62] (fun v62 wc => ∃ (kq : Nat) (x62_20 : Bool), v62 = .bool x62_20 ∧ zA (zK.j2 kq x62_20 a0_0 a0_1 l0_2 l0_3 = some r) ∧ zA (kq ≤ k2) ∧ zA (wc.heap[gb302]? = some (.cells #[.int .i64 a0_0, .int .i64 a0_1, (.slice A0_2 l0_2.length c0_2), (.slice A0_3 l0_3.length c0_3)] 25 (0, 0))) ∧ zA (Below w.heap.size w wc))
       case first =>
        have H := HC21.out
        clear HC21
        by_cases c23 : a0_1 < 1
        ·rw [if_pos c23] at H
         have c23b0 : decide (a0_1 < 1) = true := decide_eq_true c23
         clear c23
         (first | rw [c23b0] | (simp only [zv, zw]; rw [c23b0]) | skip)
         have H' := zA.mk H
         clear H
         have hcz24_0 : wr.cell? ⟨gb302, 0, none⟩ = some (.int .i64 a0_0) := (zG BK302.out 0).trans rfl
         have hcz24_1 : wr.cell? ⟨gb302, 1, none⟩ = some (.int .i64 a0_1) := (zG BK302.out 1).trans rfl
         have hcz24_2 : wr.cell? ⟨gb302, 2, none⟩ = some (.slice A0_2 l0_2.length c0_2) := (zG BK302.out 2).trans rfl
         have hcz24_3 : wr.cell? ⟨gb302, 3, none⟩ = some (.slice A0_3 l0_3.length c0_3) := (zG BK302.out 3).trans rfl
         have hfz24_0 := zF BK302.out 0
         have hfz24_1 := zF BK302.out 1
         have hfz24_2 := zF BK302.out 2
         have hfz24_3 := zF BK302.out 3
         go_wp2
         go_meet
         case rel => exact ⟨_, (true), (by first | rfl | (simp; done) | (simp [*]; done)), H', ⟨by have := HJ1.out; have := HK2.out; first | omega | exact Nat.le_refl _⟩, ⟨by (with_reducible repeat (first | refine zI ?_ _ | refine zJ ?_ | refine zH ?_ _)); exact BK302.out⟩, ⟨by repeat (first | (with_reducible first | exact HB.out | apply zD | apply zB | apply zC | refine zE ?_ GE302.out) | exact HB.out)⟩⟩
        ·rw [if_neg c23] at H
         have c23b0 : decide (a0_1 < 1) = false := decide_eq_false c23
         clear c23
         (first | rw [c23b0] | (simp only [zv, zw]; rw [c23b0]) | skip)
         have H' := zA.mk H
         clear H
         have hcz25_0 : wr.cell? ⟨gb302, 0, none⟩ = some (.int .i64 a0_0) := (zG BK302.out 0).trans rfl
         have hcz25_1 : wr.cell? ⟨gb302, 1, none⟩ = some (.int .i64 a0_1) := (zG BK302.out 1).trans rfl
         have hcz25_2 : wr.cell? ⟨gb302, 2, none⟩ = some (.slice A0_2 l0_2.length c0_2) := (zG BK302.out 2).trans rfl
         have hcz25_3 : wr.cell? ⟨gb302, 3, none⟩ = some (.slice A0_3 l0_3.length c0_3) := (zG BK302.out 3).trans rfl
         have hfz25_0 := zF BK302.out 0
         have hfz25_1 := zF BK302.out 1
         have hfz25_2 := zF BK302.out 2
         have hfz25_3 := zF BK302.out 3
         go_wp2
         go_meet
         case rel => exact ⟨_, (decide (a0_1 > 4)), (by first | rfl | (simp; done) | (simp [*]; done)), H', ⟨by have := HJ1.out; have := HK2.out; first | omega | exact Nat.le_refl _⟩, ⟨by (with_reducible repeat (first | refine zI ?_ _ | refine zJ ?_ | refine zH ?_ _)); exact BK302.out⟩, ⟨by repeat (first | (with_reducible first | exact HB.out | apply zD | apply zB | apply zC | refine zE ?_ GE302.out) | exact HB.out)⟩⟩
       case rest =>
        clear HC21
        try clear c1
        try clear c2
        try clear p2
        try clear c3
        try clear p3
        try clear q3
        try clear hx3
        try clear c4
        try clear c4b0
        try clear c6
        try clear c6b0
        try clear p6
        try clear c8
        try clear c8b0
        try clear c8b1
        try clear c10
        try clear c10b0
        try clear c10b1
        try clear c12
        try clear c12b0
        try clear c12b1
        try clear c15
        try clear c16
        try clear c16b0
        try clear c17
        try clear c17b0
        try clear c18
        try clear c18b0
        try clear c18b1
        try clear c23
        try clear c23b0
        try clear hcz11_0
        try clear hcz11_1
        try clear hcz11_2
        try clear hcz11_3
        try clear hcz13_0
        try clear hcz13_1
        try clear hcz13_2
        try clear hcz13_3
        try clear hcz14_0
        try clear hcz14_1
        try clear hcz14_2
        try clear hcz14_3
        try clear hcz19_0
        try clear hcz19_1
        try clear hcz19_2
        try clear hcz19_3
        try clear hcz20_0
        try clear hcz20_1
        try clear hcz20_2
        try clear hcz20_3
        try clear hcz22_0
        try clear hcz22_1
        try clear hcz22_2
        try clear hcz22_3
        try clear hcz24_0
        try clear hcz24_1
        try clear hcz24_2
        try clear hcz24_3
        try clear hcz25_0
        try clear hcz25_1
        try clear hcz25_2
        try clear hcz25_3
        try clear hcz5_0
        try clear hcz5_1
        try clear hcz5_2
        try clear hcz5_3
        try clear hcz7_0
        try clear hcz7_1
        try clear hcz7_2
        try clear hcz7_3
        try clear hcz9_0
        try clear hcz9_1
        try clear hcz9_2
        try clear hcz9_3
        try clear hfz11_0
        try clear hfz11_1
        try clear hfz11_2
        try clear hfz11_3
        try clear hfz13_0
        try clear hfz13_1
        try clear hfz13_2
        try clear hfz13_3
        try clear hfz14_0
        try clear hfz14_1
        try clear hfz14_2
        try clear hfz14_3
        try clear hfz19_0
        try clear hfz19_1
        try clear hfz19_2
        try clear hfz19_3
        try clear hfz20_0
        try clear hfz20_1
        try clear hfz20_2
        try clear hfz20_3
        try clear hfz22_0
        try clear hfz22_1
        try clear hfz22_2
        try clear hfz22_3
        try clear hfz24_0
        try clear hfz24_1
        try clear hfz24_2
        try clear hfz24_3
        try clear hfz25_0
        try clear hfz25_1
        try clear hfz25_2
        try clear hfz25_3
        try clear hfz5_0
        try clear hfz5_1
        try clear hfz5_2
        try clear hfz5_3
        try clear hfz7_0
        try clear hfz7_1
        try clear hfz7_2
        try clear hfz7_3
        try clear hfz9_0
        try clear hfz9_1
        try clear hfz9_2
        try clear hfz9_3
        try clear hx303_0
        try clear hx303_1
        try clear p2
        try clear p303
        try clear q303
        obtain ⟨kq, x62_20, rfl, HA, HJ20, BK302, HB⟩ := hcut
        cases kq with
        | zero => exact absurd HA.out (by simp [zK.j2])
        | succ kj20 =>
         have H := HA.out
         clear HA
         simp only [zK.j2] at H
         by_cases c26 : x62_20 = true
         ·subst c26
          have H1 : (some 11) = some r := by rw [if_pos rfl] at H; exact H
          clear H
          have H := H1
          clear H1
          obtain rfl := Option.some.inj H
          go_wp2
          go_ret
          exact ⟨by first | rfl | (simp [zX, zY] <;> rfl) | (simp [*, zX, zY] <;> rfl), by repeat (first | (with_reducible first | exact HB.out | apply zD | apply zB | apply zC | refine zE ?_ GE302.out) | exact HB.out)⟩
         ·replace c26 := Bool.eq_false_iff.mpr c26
          subst c26
          have H1 : (zK.l1 kj20 0 a0_0 a0_1 l0_2 l0_3) = some r := by rw [if_neg (show ¬ (false = true) by decide)] at H; exact H
          clear H
          have H := H1
          clear H1
          have H' := zA.mk H
          clear H
          go_wp2
          go_loopg [4] kj20 (fun kq v4 w' => ∃ (x4_4 : Int), v4 = .int .i64 x4_4 ∧ zA (zK.l1 kq x4_4 a0_0 a0_1 l0_2 l0_3 = some r) ∧ zA (kq ≤ kj20) ∧ zA (w'.heap[gb302]? = some (.cells #[.int .i64 a0_0, .int .i64 a0_1, (.slice A0_2 l0_2.length c0_2), (.slice A0_3 l0_3.length c0_3)] 25 (0, 0))) ∧ zA (Below w.heap.size w w'))
          case atStart => exact ⟨(0), (by first | rfl | (simp; done) | (simp [*]; done)), H', ⟨Nat.le_refl _⟩, ⟨by (with_reducible repeat (first | refine zI ?_ _ | refine zJ ?_ | refine zH ?_ _)); exact BK302.out⟩, ⟨by repeat (first | (with_reducible first | exact HB.out | apply zD | apply zB | apply zC | refine zE ?_ GE302.out) | exact HB.out)⟩⟩
          case round =>
           clear H'
           try clear c1
           try clear c2
           try clear p2
           try clear c3
           try clear p3
           try clear q3
           try clear hx3
           try clear c4
           try clear c4b0
           try clear c6
           try clear c6b0
           try clear p6
           try clear c8
           try clear c8b0
           try clear c8b1
           try clear c10
           try clear c10b0
           try clear c10b1
           try clear c12
           try clear c12b0
           try clear c12b1
           try clear c15
           try clear c16
           try clear c16b0
           try clear c17
           try clear c17b0
           try clear c18
           try clear c18b0
           try clear c18b1
           try clear c23
           try clear c23b0
           try clear c26
           try clear hcz11_0
           try clear hcz11_1
           try clear hcz11_2
           try clear hcz11_3
           try clear hcz13_0
           try clear hcz13_1
           try clear hcz13_2
           try clear hcz13_3
           try clear hcz14_0
           try clear hcz14_1
           try clear hcz14_2
           try clear hcz14_3
           try clear hcz19_0
           try clear hcz19_1
           try clear hcz19_2
           try clear hcz19_3
           try clear hcz20_0
           try clear hcz20_1
           try clear hcz20_2
           try clear hcz20_3
           try clear hcz22_0
           try clear hcz22_1
           try clear hcz22_2
           try clear hcz22_3
           try clear hcz24_0
           try clear hcz24_1
           try clear hcz24_2
           try clear hcz24_3
           try clear hcz25_0
           try clear hcz25_1
           try clear hcz25_2
           try clear hcz25_3
           try clear hcz5_0
           try clear hcz5_1
           try clear hcz5_2
           try clear hcz5_3
           try clear hcz7_0
           try clear hcz7_1
           try clear hcz7_2
           try clear hcz7_3
           try clear hcz9_0
           try clear hcz9_1
           try clear hcz9_2
           try clear hcz9_3
           try clear hfz11_0
           try clear hfz11_1
           try clear hfz11_2
           try clear hfz11_3
           try clear hfz13_0
           try clear hfz13_1
           try clear hfz13_2
           try clear hfz13_3
           try clear hfz14_0
           try clear hfz14_1
           try clear hfz14_2
           try clear hfz14_3
           try clear hfz19_0
           try clear hfz19_1
           try clear hfz19_2
           try clear hfz19_3
           try clear hfz20_0
           try clear hfz20_1
           try clear hfz20_2
           try clear hfz20_3
           try clear hfz22_0
           try clear hfz22_1
           try clear hfz22_2
           try clear hfz22_3
           try clear hfz24_0
           try clear hfz24_1
           try clear hfz24_2
           try clear hfz24_3
           try clear hfz25_0
           try clear hfz25_1
           try clear hfz25_2
           try clear hfz25_3
           try clear hfz5_0
           try clear hfz5_1
           try clear hfz5_2
           try clear hfz5_3
           try clear hfz7_0
           try clear hfz7_1
           try clear hfz7_2
           try clear hfz7_3
           try clear hfz9_0
           try clear hfz9_1
           try clear hfz9_2
           try clear hfz9_3
           try clear hx303_0
           try clear hx303_1
           try clear p2
           try clear p3
           try clear p303
           try clear p6
           try clear q3
           try clear q303
           obtain ⟨x4_4, rfl, HA, HK4, BK302, HB⟩ := hrel
           cases gk with
           | zero => exact absurd HA.out (by simp [zK.l1])
           | succ k4 =>
            have H := HA.out
            clear HA
            simp only [zK.l1] at H
            by_cases c27 : x4_4 < (l0_3.length : Int)
            ·rw [if_pos c27] at H
             have c27b0 : decide (x4_4 < (l0_3.length : Int)) = true := decide_eq_true c27
             clear c27
             by_cases c28 : 0 ≤ x4_4
             ·rw [if_pos c28] at H
              have c28b0 : decide (0 ≤ x4_4) = true := decide_eq_true c28
              clear c28
              have HC29 := zA.mk H
              clear H
              have hcz30_0 : wr.cell? ⟨gb302, 0, none⟩ = some (.int .i64 a0_0) := (zG BK302.out 0).trans rfl
              have hcz30_1 : wr.cell? ⟨gb302, 1, none⟩ = some (.int .i64 a0_1) := (zG BK302.out 1).trans rfl
              have hcz30_2 : wr.cell? ⟨gb302, 2, none⟩ = some (.slice A0_2 l0_2.length c0_2) := (zG BK302.out 2).trans rfl
              have hcz30_3 : wr.cell? ⟨gb302, 3, none⟩ = some (.slice A0_3 l0_3.length c0_3) := (zG BK302.out 3).trans rfl
              have hfz30_0 := zF BK302.out 0
              have hfz30_1 := zF BK302.out 1
              have hfz30_2 := zF BK302.out 2
              have hfz30_3 := zF BK302.out 3
              have p304 : 0 ≤ (x4_4 : Int) := of_decide_eq_true (by first | (with_reducible assumption) | assumption)
              have q304 : x4_4 < (l0_3.length : Int) := of_decide_eq_true (by first | (with_reducible assumption) | assumption)
              obtain ⟨ad304, A304_1, c304_1, e304, hx304_0, hx304_1, hl304_1, hi304_1⟩ := yy HR0_3.out x4_4 p304 q304
              cases e304
              replace hx304_0 := (HB.out.cell (World.block_lt_of_cell? w _ hx304_0)).trans hx304_0
              replace hx304_1 := (HB.out.cell (World.block_lt_of_cell? w _ hx304_1)).trans hx304_1
              have HR304_1 := zA.mk hi304_1
              have HC304_1 := zA.mk hl304_1
              clear hi304_1 hl304_1
              replace p304 := eq_true p304
              replace q304 := eq_true q304
              go_upto_region 14 with (first | ((with_reducible refine zr (N := 5) rfl ?_); (try (refine yK (by rfl) ?_; dsimp only)); refine zz ?hg (N := 5) ?hd (cs := #[.int .i64 0, .slice none 0 0]) (t := 61) ?hr ?_; (case hd => rfl); (case hg => rfl); (case hr => first | (go_simp; done) | (go_simp; rfl)); intro gb305 hg w31 hbox hb; have n0_ := zA.mk (zn (g := gb302) (o := .cells #[.int .i64 a0_0, .int .i64 a0_1, .slice A0_2 l0_2.length c0_2, .slice (some ad304) l0_3.length c0_3] 25 (0, 0)) (by (with_reducible repeat (first | refine zI ?_ _ | refine zJ ?_ | refine zH ?_ _)); exact BK302.out) hb); have n1_ := zA.mk (zL (by repeat (first | (with_reducible first | exact HB.out | apply zD | apply zB | apply zC | refine zE ?_ GE302.out) | exact HB.out)) hb); have n2_ := zA.mk (hbox); have n3_ := zA.mk ((by rw [hg]; exact (zN (by repeat (first | (with_reducible first | exact HB.out | apply zD | apply zB | apply zC | refine zE ?_ GE302.out) | exact HB.out))) : w.heap.size ≤ gb305)); have n4_ := zA.mk ((by rw [hg]; exact (zN (by repeat (first | (with_reducible first | exact HB.out | apply zD | apply zB | apply zC | refine zE ?_ GE302.out) | exact HB.out))) : w.heap.size ≤ gb305)); have n5_ := zA.mk ((by rw [hg]; exact Nat.ne_of_lt (yA (g := gb302) (o := .cells #[.int .i64 a0_0, .int .i64 a0_1, .slice A0_2 l0_2.length c0_2, .slice (some ad304) l0_3.length c0_3] 25 (0, 0)) (by (with_reducible repeat (first | refine zI ?_ _ | refine zJ ?_ | refine zH ?_ _)); exact BK302.out)) : gb302 ≠ gb305)); have n6_ := zA.mk ((by rw [hg]; exact Nat.ne_of_gt (yA (g := gb302) (o := .cells #[.int .i64 a0_0, .int .i64 a0_1, .slice A0_2 l0_2.length c0_2, .slice (some ad304) l0_3.length c0_3] 25 (0, 0)) (by (with_reducible repeat (first | refine zI ?_ _ | refine zJ ?_ | refine zH ?_ _)); exact BK302.out)) : gb305 ≠ gb302)); clear BK302; clear HB; have BK302 := n0_; have HB := n1_; have BK305 := n2_; have GW305 := n3_; have GE305 := n4_; have NB302_305 := n5_; have NB305_302 := n6_; clear n0_ n1_ n2_ n3_ n4_ n5_ n6_; clear hb hbox hg; have hnb32 := NB305_302.out; have hnc32 := NB302_305.out; have hcz33_0 : w31.cell? ⟨gb305, 0, none⟩ = some (.int .i64 0) := (zG BK305.out 0).trans rfl; have hcz33_1 : w31.cell? ⟨gb305, 1, none⟩ = some (.slice none 0 0) := (zG BK305.out 1).trans rfl; have hfz33_0 := zF BK305.out 0; have hfz33_1 := zF BK305.out 1))
              (try simp only [Act.put, List.setIfInBounds_toArray, List.set_cons_zero, List.set_cons_succ])
              go_cut [85] (fun v85 wc => ∃ (kq : Nat) (x85_28 : Bool), v85 = .bool x85_28 ∧ zA (zK.j4 kq x4_4 x85_28 a0_0 a0_1 l0_2 l0_3 ((zM l0_3 x4_4).f0) ((zM l0_3 x4_4).f1) = some r) ∧ zA (kq ≤ k4) ∧ zA (wc.heap[gb302]? = some (.cells #[.int .i64 a0_0, .int .i64 a0_1, (.slice A0_2 l0_2.length c0_2), (.slice (some ad304) l0_3.length c0_3)] 25 (0, 0))) ∧ zA (wc.heap[gb305]? = some (.cells #[.int .i64 ((zM l0_3 x4_4).f0), (.slice A304_1 ((zM l0_3 x4_4).f1).length c304_1)] 61 (0, 0))) ∧ zA (Below w.heap.size w wc))
              case first =>
               have H := HC29.out
               clear HC29
               by_cases c34 : ((zM l0_3 x4_4).f0) < 0
               ·rw [if_pos c34] at H
                have c34b0 : decide (((zM l0_3 x4_4).f0) < 0) = true := decide_eq_true c34
                clear c34
                (first | rw [c34b0] | (simp only [zv, zw]; rw [c34b0]) | skip)
                have H' := zA.mk H
                clear H
                have hnb35 := NB305_302.out
                have hnc35 := NB302_305.out
                have hcz36_0 : w31.cell? ⟨gb305, 0, none⟩ = some (.int .i64 0) := (zG BK305.out 0).trans rfl
                have hcz36_1 : w31.cell? ⟨gb305, 1, none⟩ = some (.slice none 0 0) := (zG BK305.out 1).trans rfl
                have hfz36_0 := zF BK305.out 0
                have hfz36_1 := zF BK305.out 1
                go_wp2
                go_meet
                case rel => exact ⟨_, (true), (by first | rfl | (simp; done) | (simp [*]; done)), H', ⟨by have := HJ1.out; have := HK2.out; have := HJ20.out; have := HK4.out; first | omega | exact Nat.le_refl _⟩, ⟨by (with_reducible repeat (first | refine zI ?_ _ | refine zJ ?_ | refine zH ?_ _)); refine yC ?_ NB302_305.out _; (with_reducible repeat (first | refine zI ?_ _ | refine zJ ?_ | refine zH ?_ _)); refine yC ?_ NB302_305.out _; (with_reducible repeat (first | refine zI ?_ _ | refine zJ ?_ | refine zH ?_ _)); exact BK302.out⟩, ⟨by (with_reducible repeat (first | refine zI ?_ _ | refine zJ ?_ | refine zH ?_ _)); refine yL (cs := #[.int .i64 ((zM l0_3 x4_4).f0), .slice none 0 0]) ?_ 1 _ rfl; (with_reducible repeat (first | refine zI ?_ _ | refine zJ ?_ | refine zH ?_ _)); refine yL (cs := #[.int .i64 0, .slice none 0 0]) ?_ 0 _ rfl; (with_reducible repeat (first | refine zI ?_ _ | refine zJ ?_ | refine zH ?_ _)); exact BK305.out⟩, ⟨by repeat (first | (with_reducible first | exact HB.out | apply zD | apply zB | apply zC | refine zE ?_ GE302.out | refine zE ?_ GE305.out) | exact HB.out)⟩⟩
               ·rw [if_neg c34] at H
                have c34b0 : decide (((zM l0_3 x4_4).f0) < 0) = false := decide_eq_false c34
                clear c34
                (first | rw [c34b0] | (simp only [zv, zw]; rw [c34b0]) | skip)
                have H' := zA.mk H
                clear H
                have hnb37 := NB305_302.out
                have hnc37 := NB302_305.out
                have hcz38_0 : w31.cell? ⟨gb305, 0, none⟩ = some (.int .i64 0) := (zG BK305.out 0).trans rfl
                have hcz38_1 : w31.cell? ⟨gb305, 1, none⟩ = some (.slice none 0 0) := (zG BK305.out 1).trans rfl
                have hfz38_0 := zF BK305.out 0
                have hfz38_1 := zF BK305.out 1
                have hcz39_0 : w31.cell? ⟨gb302, 0, none⟩ = some (.int .i64 a0_0) := (zG BK302.out 0).trans rfl
                have hcz39_1 : w31.cell? ⟨gb302, 1, none⟩ = some (.int .i64 a0_1) := (zG BK302.out 1).trans rfl
                have hcz39_2 : w31.cell? ⟨gb302, 2, none⟩ = some (.slice A0_2 l0_2.length c0_2) := (zG BK302.out 2).trans rfl
                have hcz39_3 : w31.cell? ⟨gb302, 3, none⟩ = some (.slice (some ad304) l0_3.length c0_3) := (zG BK302.out 3).trans rfl
                have hfz39_0 := zF BK302.out 0
                have hfz39_1 := zF BK302.out 1
                have hfz39_2 := zF BK302.out 2
                have hfz39_3 := zF BK302.out 3
                go_wp2
                go_meet
                case rel => exact ⟨_, (decide (((zM l0_3 x4_4).f0) ≥ (l0_2.length : Int))), (by first | rfl | (simp; done) | (simp [*]; done)), H', ⟨by have := HJ1.out; have := HK2.out; have := HJ20.out; have := HK4.out; first | omega | exact Nat.le_refl _⟩, ⟨by (with_reducible repeat (first | refine zI ?_ _ | refine zJ ?_ | refine zH ?_ _)); refine yC ?_ NB302_305.out _; (with_reducible repeat (first | refine zI ?_ _ | refine zJ ?_ | refine zH ?_ _)); refine yC ?_ NB302_305.out _; (with_reducible repeat (first | refine zI ?_ _ | refine zJ ?_ | refine zH ?_ _)); exact BK302.out⟩, ⟨by (with_reducible repeat (first | refine zI ?_ _ | refine zJ ?_ | refine zH ?_ _)); refine yL (cs := #[.int .i64 ((zM l0_3 x4_4).f0), .slice none 0 0]) ?_ 1 _ rfl; (with_reducible repeat (first | refine zI ?_ _ | refine zJ ?_ | refine zH ?_ _)); refine yL (cs := #[.int .i64 0, .slice none 0 0]) ?_ 0 _ rfl; (with_reducible repeat (first | refine zI ?_ _ | refine zJ ?_ | refine zH ?_ _)); exact BK305.out⟩, ⟨by repeat (first | (with_reducible first | exact HB.out | apply zD | apply zB | apply zC | refine zE ?_ GE302.out | refine zE ?_ GE305.out) | exact HB.out)⟩⟩
              case rest =>
               clear HC29
               try clear c1
               try clear c2
               try clear p2
               try clear c3
               try clear p3
               try clear q3
               try clear hx3
               try clear c4
               try clear c4b0
               try clear c6
               try clear c6b0
               try clear p6
               try clear c8
               try clear c8b0
               try clear c8b1
               try clear c10
               try clear c10b0
               try clear c10b1
               try clear c12
               try clear c12b0
               try clear c12b1
               try clear c15
               try clear c16
               try clear c16b0
               try clear c17
               try clear c17b0
               try clear c18
               try clear c18b0
               try clear c18b1
               try clear c23
               try clear c23b0
               try clear c26
               try clear c27
               try clear c27b0
               try clear c28
               try clear c28b0
               try clear c30
               try clear p30
               try clear q30
               try clear hx30
               try clear c32
               try clear c34
               try clear c34b0
               try clear c35
               try clear c37
               try clear hcz11_0
               try clear hcz11_1
               try clear hcz11_2
               try clear hcz11_3
               try clear hcz13_0
               try clear hcz13_1
               try clear hcz13_2
               try clear hcz13_3
               try clear hcz14_0
               try clear hcz14_1
               try clear hcz14_2
               try clear hcz14_3
               try clear hcz19_0
               try clear hcz19_1
               try clear hcz19_2
               try clear hcz19_3
               try clear hcz20_0
               try clear hcz20_1
               try clear hcz20_2
               try clear hcz20_3
               try clear hcz22_0
               try clear hcz22_1
               try clear hcz22_2
               try clear hcz22_3
               try clear hcz24_0
               try clear hcz24_1
               try clear hcz24_2
               try clear hcz24_3
               try clear hcz25_0
               try clear hcz25_1
               try clear hcz25_2
               try clear hcz25_3
               try clear hcz30_0
               try clear hcz30_1
               try clear hcz30_2
               try clear hcz30_3
               try clear hcz33_0
               try clear hcz33_1
               try clear hcz36_0
               try clear hcz36_1
               try clear hcz38_0
               try clear hcz38_1
               try clear hcz39_0
               try clear hcz39_1
               try clear hcz39_2
               try clear hcz39_3
               try clear hcz5_0
               try clear hcz5_1
               try clear hcz5_2
               try clear hcz5_3
               try clear hcz7_0
               try clear hcz7_1
               try clear hcz7_2
               try clear hcz7_3
               try clear hcz9_0
               try clear hcz9_1
               try clear hcz9_2
               try clear hcz9_3
               try clear hfz11_0
               try clear hfz11_1
               try clear hfz11_2
               try clear hfz11_3
               try clear hfz13_0
               try clear hfz13_1
               try clear hfz13_2
               try clear hfz13_3
               try clear hfz14_0
               try clear hfz14_1
               try clear hfz14_2
               try clear hfz14_3
               try clear hfz19_0
               try clear hfz19_1
               try clear hfz19_2
               try clear hfz19_3
               try clear hfz20_0
               try clear hfz20_1
               try clear hfz20_2
               try clear hfz20_3
               try clear hfz22_0
               try clear hfz22_1
               try clear hfz22_2
               try clear hfz22_3
               try clear hfz24_0
               try clear hfz24_1
               try clear hfz24_2
               try clear hfz24_3
               try clear hfz25_0
               try clear hfz25_1
               try clear hfz25_2
               try clear hfz25_3
               try clear hfz30_0
               try clear hfz30_1
               try clear hfz30_2
               try clear hfz30_3
               try clear hfz33_0
               try clear hfz33_1
               try clear hfz36_0
               try clear hfz36_1
               try clear hfz38_0
               try clear hfz38_1
               try clear hfz39_0
               try clear hfz39_1
               try clear hfz39_2
               try clear hfz39_3
               try clear hfz5_0
               try clear hfz5_1
               try clear hfz5_2
               try clear hfz5_3
               try clear hfz7_0
               try clear hfz7_1
               try clear hfz7_2
               try clear hfz7_3
               try clear hfz9_0
               try clear hfz9_1
               try clear hfz9_2
               try clear hfz9_3
               try clear hx303_0
               try clear hx303_1
               try clear hx304_0
               try clear hx304_1
               try clear p2
               try clear p3
               try clear p303
               try clear p304
               try clear p6
               try clear q3
               try clear q303
               try clear q304
               obtain ⟨kq, x85_28, rfl, HA, HJ28, BK302, BK305, HB⟩ := hcut
               cases kq with
               | zero => exact absurd HA.out (by simp [zK.j4])
               | succ kj28 =>
                have H := HA.out
                clear HA
                simp only [zK.j4] at H
                by_cases c40 : x85_28 = true
                ·subst c40
                 have H1 : (some 4) = some r := by rw [if_pos rfl] at H; exact H
                 clear H
                 have H := H1
                 clear H1
                 obtain rfl := Option.some.inj H
                 go_wp2
                 go_ret
                 exact ⟨by first | rfl | (simp [zX, zY] <;> rfl) | (simp [*, zX, zY] <;> rfl), by repeat (first | (with_reducible first | exact HB.out | apply zD | apply zB | apply zC | refine zE ?_ GE302.out | refine zE ?_ GE305.out) | exact HB.out)⟩
                ·replace c40 := Bool.eq_false_iff.mpr c40
                 subst c40
                 have H1 : (zK.l2 kj28 x4_4 0 a0_0 a0_1 l0_2 l0_3 ((zM l0_3 x4_4).f0) ((zM l0_3 x4_4).f1)) = some r := by rw [if_neg (show ¬ (false = true) by decide)] at H; exact H
                 clear H
                 have H := H1
                 clear H1
                 have H' := zA.mk H
                 clear H
                 go_wp2
                 go_loopg [6] kj28 (fun kq v6 w' => ∃ (x6_6 : Int), v6 = .int .i64 x6_6 ∧ zA (zK.l2 kq x4_4 x6_6 a0_0 a0_1 l0_2 l0_3 ((zM l0_3 x4_4).f0) ((zM l0_3 x4_4).f1) = some r) ∧ zA (kq ≤ kj28) ∧ zA (w'.heap[gb302]? = some (.cells #[.int .i64 a0_0, .int .i64 a0_1, (.slice A0_2 l0_2.length c0_2), (.slice (some ad304) l0_3.length c0_3)] 25 (0, 0))) ∧ zA (w'.heap[gb305]? = some (.cells #[.int .i64 ((zM l0_3 x4_4).f0), (.slice A304_1 ((zM l0_3 x4_4).f1).length c304_1)] 61 (0, 0))) ∧ zA (Below w.heap.size w w'))
                 case atStart => exact ⟨(0), (by first | rfl | (simp; done) | (simp [*]; done)), H', ⟨Nat.le_refl _⟩, ⟨by (with_reducible repeat (first | refine zI ?_ _ | refine zJ ?_ | refine zH ?_ _)); exact BK302.out⟩, ⟨by (with_reducible repeat (first | refine zI ?_ _ | refine zJ ?_ | refine zH ?_ _)); exact BK305.out⟩, ⟨by repeat (first | (with_reducible first | exact HB.out | apply zD | apply zB | apply zC | refine zE ?_ GE302.out | refine zE ?_ GE305.out) | exact HB.out)⟩⟩
                 case round =>
                  clear H'
                  try clear c1
                  try clear c2
                  try clear p2
                  try clear c3
                  try clear p3
                  try clear q3
                  try clear hx3
                  try clear c4
                  try clear c4b0
                  try clear c6
                  try clear c6b0
                  try clear p6
                  try clear c8
                  try clear c8b0
                  try clear c8b1
                  try clear c10
                  try clear c10b0
                  try clear c10b1
                  try clear c12
                  try clear c12b0
                  try clear c12b1
                  try clear c15
                  try clear c16
                  try clear c16b0
                  try clear c17
                  try clear c17b0
                  try clear c18
                  try clear c18b0
                  try clear c18b1
                  try clear c23
                  try clear c23b0
                  try clear c26
                  try clear c27
                  try clear c27b0
                  try clear c28
                  try clear c28b0
                  try clear c30
                  try clear p30
                  try clear q30
                  try clear hx30
                  try clear c32
                  try clear c34
                  try clear c34b0
                  try clear c35
                  try clear c37
                  try clear c40
                  try clear hcz11_0
                  try clear hcz11_1
                  try clear hcz11_2
                  try clear hcz11_3
                  try clear hcz13_0
                  try clear hcz13_1
                  try clear hcz13_2
                  try clear hcz13_3
                  try clear hcz14_0
                  try clear hcz14_1
                  try clear hcz14_2
                  try clear hcz14_3
                  try clear hcz19_0
                  try clear hcz19_1
                  try clear hcz19_2
                  try clear hcz19_3
                  try clear hcz20_0
                  try clear hcz20_1
                  try clear hcz20_2
                  try clear hcz20_3
                  try clear hcz22_0
                  try clear hcz22_1
                  try clear hcz22_2
                  try clear hcz22_3
                  try clear hcz24_0
                  try clear hcz24_1
                  try clear hcz24_2
                  try clear hcz24_3
                  try clear hcz25_0
                  try clear hcz25_1
                  try clear hcz25_2
                  try clear hcz25_3
                  try clear hcz30_0
                  try clear hcz30_1
                  try clear hcz30_2
                  try clear hcz30_3
                  try clear hcz33_0
                  try clear hcz33_1
                  try clear hcz36_0
                  try clear hcz36_1
                  try clear hcz38_0
                  try clear hcz38_1
                  try clear hcz39_0
                  try clear hcz39_1
                  try clear hcz39_2
                  try clear hcz39_3
                  try clear hcz5_0
                  try clear hcz5_1
                  try clear hcz5_2
                  try clear hcz5_3
                  try clear hcz7_0
                  try clear hcz7_1
                  try clear hcz7_2
                  try clear hcz7_3
                  try clear hcz9_0
                  try clear hcz9_1
                  try clear hcz9_2
                  try clear hcz9_3
                  try clear hfz11_0
                  try clear hfz11_1
                  try clear hfz11_2
                  try clear hfz11_3
                  try clear hfz13_0
                  try clear hfz13_1
                  try clear hfz13_2
                  try clear hfz13_3
                  try clear hfz14_0
                  try clear hfz14_1
                  try clear hfz14_2
                  try clear hfz14_3
                  try clear hfz19_0
                  try clear hfz19_1
                  try clear hfz19_2
                  try clear hfz19_3
                  try clear hfz20_0
                  try clear hfz20_1
                  try clear hfz20_2
                  try clear hfz20_3
                  try clear hfz22_0
                  try clear hfz22_1
                  try clear hfz22_2
                  try clear hfz22_3
                  try clear hfz24_0
                  try clear hfz24_1
                  try clear hfz24_2
                  try clear hfz24_3
                  try clear hfz25_0
                  try clear hfz25_1
                  try clear hfz25_2
                  try clear hfz25_3
                  try clear hfz30_0
                  try clear hfz30_1
                  try clear hfz30_2
                  try clear hfz30_3
                  try clear hfz33_0
                  try clear hfz33_1
                  try clear hfz36_0
                  try clear hfz36_1
                  try clear hfz38_0
                  try clear hfz38_1
                  try clear hfz39_0
                  try clear hfz39_1
                  try clear hfz39_2
                  try clear hfz39_3
                  try clear hfz5_0
                  try clear hfz5_1
                  try clear hfz5_2
                  try clear hfz5_3
                  try clear hfz7_0
                  try clear hfz7_1
                  try clear hfz7_2
                  try clear hfz7_3
                  try clear hfz9_0
                  try clear hfz9_1
                  try clear hfz9_2
                  try clear hfz9_3
                  try clear hx303_0
                  try clear hx303_1
                  try clear hx304_0
                  try clear hx304_1
                  try clear p2
                  try clear p3
                  try clear p30
                  try clear p303
                  try clear p304
                  try clear p6
                  try clear q3
                  try clear q30
                  try clear q303
                  try clear q304
                  obtain ⟨x6_6, rfl, HA, HK6, BK302, BK305, HB⟩ := hrel
                  cases gk with
                  | zero => exact absurd HA.out (by simp [zK.l2])
                  | succ k6 =>
                   have H := HA.out
                   clear HA
                   simp only [zK.l2] at H
                   by_cases c41 : x6_6 < (((zM l0_3 x4_4).f1).length : Int)
                   ·rw [if_pos c41] at H
                    have c41b0 : decide (x6_6 < (((zM l0_3 x4_4).f1).length : Int)) = true := decide_eq_true c41
                    clear c41
                    by_cases c42 : 0 ≤ x6_6
                    ·rw [if_pos c42] at H
                     have c42b0 : decide (0 ≤ x6_6) = true := decide_eq_true c42
                     clear c42
                     obtain ⟨bq43, hbq43⟩ : ∃ b_ : Bool, b_ = ((zf ((zM l0_3 x4_4).f1) x6_6).f0) := ⟨_, rfl⟩
                     replace H : (if bq43 = true then (if ((zf ((zM l0_3 x4_4).f1) x6_6).f1) < 1 then (some 4) else (if ((zf ((zM l0_3 x4_4).f1) x6_6).f1) > a0_0 then (some 4) else (zK.l2 k6 x4_4 (wrap64 (x6_6 + 1)) a0_0 a0_1 l0_2 l0_3 ((zM l0_3 x4_4).f0) ((zM l0_3 x4_4).f1)))) else (if ((zf ((zM l0_3 x4_4).f1) x6_6).f1) < 0 then (some 4) else (if ((zf ((zM l0_3 x4_4).f1) x6_6).f1) ≥ (l0_2.length : Int) then (some 4) else (zK.l2 k6 x4_4 (wrap64 (x6_6 + 1)) a0_0 a0_1 l0_2 l0_3 ((zM l0_3 x4_4).f0) ((zM l0_3 x4_4).f1))))) = some r := by rw [← hbq43] at H; exact H
                     have Nbq43 := zA.mk hbq43
                     clear hbq43
                     by_cases c44 : bq43 = true
                     ·subst c44
                      have H1 : (if ((zf ((zM l0_3 x4_4).f1) x6_6).f1) < 1 then (some 4) else (if ((zf ((zM l0_3 x4_4).f1) x6_6).f1) > a0_0 then (some 4) else (zK.l2 k6 x4_4 (wrap64 (x6_6 + 1)) a0_0 a0_1 l0_2 l0_3 ((zM l0_3 x4_4).f0) ((zM l0_3 x4_4).f1)))) = some r := by rw [if_pos rfl] at H; exact H
                      clear H
                      have H := H1
                      clear H1
                      by_cases c45 : ((zf ((zM l0_3 x4_4).f1) x6_6).f1) < 1
                      ·rw [if_pos c45] at H
                       have c45b0 : decide (((zf ((zM l0_3 x4_4).f1) x6_6).f1) < 1) = true := decide_eq_true c45
                       clear c45
                       obtain rfl := Option.some.inj H
                       have hnb46 := NB305_302.out
                       have hnc46 := NB302_305.out
                       have hcz47_0 : wr.cell? ⟨gb305, 0, none⟩ = some (.int .i64 ((zM l0_3 x4_4).f0)) := (zG BK305.out 0).trans rfl
                       have hcz47_1 : wr.cell? ⟨gb305, 1, none⟩ = some (.slice A304_1 ((zM l0_3 x4_4).f1).length c304_1) := (zG BK305.out 1).trans rfl
                       have hfz47_0 := zF BK305.out 0
                       have hfz47_1 := zF BK305.out 1
                       have p306 : 0 ≤ (x6_6 : Int) := of_decide_eq_true (by first | (with_reducible assumption) | assumption)
                       have q306 : x6_6 < (((zM l0_3 x4_4).f1).length : Int) := of_decide_eq_true (by first | (with_reducible assumption) | assumption)
                       obtain ⟨ad306, e306, hx306_0, hx306_1⟩ := yo HR304_1.out x6_6 p306 q306
                       (try rw [← Nbq43.out] at hx306_0)
                       cases e306
                       replace hx306_0 := (HB.out.cell (World.block_lt_of_cell? w _ hx306_0)).trans hx306_0
                       replace hx306_1 := (HB.out.cell (World.block_lt_of_cell? w _ hx306_1)).trans hx306_1
                       replace p306 := eq_true p306
                       replace q306 := eq_true q306
                       go_wp2_with (first | ((with_reducible refine zr (N := 7) rfl ?_); (try (refine yK (by rfl) ?_; dsimp only)); refine zz ?hg (N := 7) ?hd (cs := #[.bool false, .int .i64 0]) (t := 71) ?hr ?_; (case hd => rfl); (case hg => rfl); (case hr => first | (go_simp; done) | (go_simp; rfl)); intro gb307 hg w48 hbox hb; have n2_ := zA.mk (zL (by repeat (first | (with_reducible first | exact HB.out | apply zD | apply zB | apply zC | refine zE ?_ GE302.out | refine zE ?_ GE305.out) | exact HB.out)) hb); have n3_ := zA.mk (hbox); have n4_ := zA.mk ((by rw [hg]; exact (zN (by repeat (first | (with_reducible first | exact HB.out | apply zD | apply zB | apply zC | refine zE ?_ GE302.out | refine zE ?_ GE305.out) | exact HB.out))) : w.heap.size ≤ gb307)); have n5_ := zA.mk ((by rw [hg]; exact (zN (by repeat (first | (with_reducible first | exact HB.out | apply zD | apply zB | apply zC | refine zE ?_ GE302.out | refine zE ?_ GE305.out) | exact HB.out))) : w.heap.size ≤ gb307)); have n6_ := zA.mk ((by rw [hg]; exact Nat.ne_of_lt (yA (g := gb302) (o := .cells #[.int .i64 a0_0, .int .i64 a0_1, .slice A0_2 l0_2.length c0_2, .slice (some ad304) l0_3.length c0_3] 25 (0, 0)) (by (with_reducible repeat (first | refine zI ?_ _ | refine zJ ?_ | refine zH ?_ _)); exact BK302.out)) : gb302 ≠ gb307)); have n7_ := zA.mk ((by rw [hg]; exact Nat.ne_of_gt (yA (g := gb302) (o := .cells #[.int .i64 a0_0, .int .i64 a0_1, .slice A0_2 l0_2.length c0_2, .slice (some ad304) l0_3.length c0_3] 25 (0, 0)) (by (with_reducible repeat (first | refine zI ?_ _ | refine zJ ?_ | refine zH ?_ _)); exact BK302.out)) : gb307 ≠ gb302)); have n8_ := zA.mk ((by rw [hg]; exact Nat.ne_of_lt (yA (g := gb305) (o := .cells #[.int .i64 ((zM l0_3 x4_4).f0), .slice (some ad306) ((zM l0_3 x4_4).f1).length c304_1] 61 (0, 0)) (by (with_reducible repeat (first | refine zI ?_ _ | refine zJ ?_ | refine zH ?_ _)); exact BK305.out)) : gb305 ≠ gb307)); have n9_ := zA.mk ((by rw [hg]; exact Nat.ne_of_gt (yA (g := gb305) (o := .cells #[.int .i64 ((zM l0_3 x4_4).f0), .slice (some ad306) ((zM l0_3 x4_4).f1).length c304_1] 61 (0, 0)) (by (with_reducible repeat (first | refine zI ?_ _ | refine zJ ?_ | refine zH ?_ _)); exact BK305.out)) : gb307 ≠ gb305)); clear HB; have HB := n2_; have BK307 := n3_; have GW307 := n4_; have GE307 := n5_; have NB302_307 := n6_; have NB307_302 := n7_; have NB305_307 := n8_; have NB307_305 := n9_; clear n2_ n3_ n4_ n5_ n6_ n7_ n8_ n9_; clear hb hbox hg; have hnb49 := NB307_302.out; have hnc49 := NB302_307.out; have hnb50 := NB307_305.out; have hnc50 := NB305_307.out; have hcz51_0 : w48.cell? ⟨gb307, 0, none⟩ = some (.bool false) := (zG BK307.out 0).trans rfl; have hcz51_1 : w48.cell? ⟨gb307, 1, none⟩ = some (.int .i64 0) := (zG BK307.out 1).trans rfl; have hfz51_0 := zF BK307.out 0; have hfz51_1 := zF BK307.out 1))
                       go_ret
                       exact ⟨by first | rfl | (simp [zX, zY] <;> rfl) | (simp [*, zX, zY] <;> rfl), by repeat (first | (with_reducible first | exact HB.out | apply zD | apply zB | apply zC | refine zE ?_ GE302.out | refine zE ?_ GE305.out | refine zE ?_ GE307.out) | exact HB.out)⟩
                      ·rw [if_neg c45] at H
                       have c45b0 : decide (((zf ((zM l0_3 x4_4).f1) x6_6).f1) < 1) = false := decide_eq_false c45
                       clear c45
                       by_cases c52 : ((zf ((zM l0_3 x4_4).f1) x6_6).f1) > a0_0
                       ·rw [if_pos c52] at H
                        have c52b0 : decide (a0_0 < ((zf ((zM l0_3 x4_4).f1) x6_6).f1)) = true := decide_eq_true c52
                        clear c52
                        obtain rfl := Option.some.inj H
                        have hnb53 := NB305_302.out
                        have hnc53 := NB302_305.out
                        have hcz54_0 : wr.cell? ⟨gb305, 0, none⟩ = some (.int .i64 ((zM l0_3 x4_4).f0)) := (zG BK305.out 0).trans rfl
                        have hcz54_1 : wr.cell? ⟨gb305, 1, none⟩ = some (.slice A304_1 ((zM l0_3 x4_4).f1).length c304_1) := (zG BK305.out 1).trans rfl
                        have hfz54_0 := zF BK305.out 0
                        have hfz54_1 := zF BK305.out 1
                        have p306 : 0 ≤ (x6_6 : Int) := of_decide_eq_true (by first | (with_reducible assumption) | assumption)
                        have q306 : x6_6 < (((zM l0_3 x4_4).f1).length : Int) := of_decide_eq_true (by first | (with_reducible assumption) | assumption)
                        obtain ⟨ad306, e306, hx306_0, hx306_1⟩ := yo HR304_1.out x6_6 p306 q306
                        (try rw [← Nbq43.out] at hx306_0)
                        cases e306
                        replace hx306_0 := (HB.out.cell (World.block_lt_of_cell? w _ hx306_0)).trans hx306_0
                        replace hx306_1 := (HB.out.cell (World.block_lt_of_cell? w _ hx306_1)).trans hx306_1
                        replace p306 := eq_true p306
                        replace q306 := eq_true q306
                        go_wp2_with (first | ((with_reducible refine zr (N := 7) rfl ?_); (try (refine yK (by rfl) ?_; dsimp only)); refine zz ?hg (N := 7) ?hd (cs := #[.bool false, .int .i64 0]) (t := 71) ?hr ?_; (case hd => rfl); (case hg => rfl); (case hr => first | (go_simp; done) | (go_simp; rfl)); intro gb307 hg w55 hbox hb; have n0_ := zA.mk (zn (g := gb302) (o := .cells #[.int .i64 a0_0, .int .i64 a0_1, .slice A0_2 l0_2.length c0_2, .slice (some ad304) l0_3.length c0_3] 25 (0, 0)) (by (with_reducible repeat (first | refine zI ?_ _ | refine zJ ?_ | refine zH ?_ _)); exact BK302.out) hb); have n2_ := zA.mk (zL (by repeat (first | (with_reducible first | exact HB.out | apply zD | apply zB | apply zC | refine zE ?_ GE302.out | refine zE ?_ GE305.out) | exact HB.out)) hb); have n3_ := zA.mk (hbox); have n4_ := zA.mk ((by rw [hg]; exact (zN (by repeat (first | (with_reducible first | exact HB.out | apply zD | apply zB | apply zC | refine zE ?_ GE302.out | refine zE ?_ GE305.out) | exact HB.out))) : w.heap.size ≤ gb307)); have n5_ := zA.mk ((by rw [hg]; exact (zN (by repeat (first | (with_reducible first | exact HB.out | apply zD | apply zB | apply zC | refine zE ?_ GE302.out | refine zE ?_ GE305.out) | exact HB.out))) : w.heap.size ≤ gb307)); have n6_ := zA.mk ((by rw [hg]; exact Nat.ne_of_lt (yA (g := gb302) (o := .cells #[.int .i64 a0_0, .int .i64 a0_1, .slice A0_2 l0_2.length c0_2, .slice (some ad304) l0_3.length c0_3] 25 (0, 0)) (by (with_reducible repeat (first | refine zI ?_ _ | refine zJ ?_ | refine zH ?_ _)); exact BK302.out)) : gb302 ≠ gb307)); have n7_ := zA.mk ((by rw [hg]; exact Nat.ne_of_gt (yA (g := gb302) (o := .cells #[.int .i64 a0_0, .int .i64 a0_1, .slice A0_2 l0_2.length c0_2, .slice (some ad304) l0_3.length c0_3] 25 (0, 0)) (by (with_reducible repeat (first | refine zI ?_ _ | refine zJ ?_ | refine zH ?_ _)); exact BK302.out)) : gb307 ≠ gb302)); have n8_ := zA.mk ((by rw [hg]; exact Nat.ne_of_lt (yA (g := gb305) (o := .cells #[.int .i64 ((zM l0_3 x4_4).f0), .slice (some ad306) ((zM l0_3 x4_4).f1).length c304_1] 61 (0, 0)) (by (with_reducible repeat (first | refine zI ?_ _ | refine zJ ?_ | refine zH ?_ _)); exact BK305.out)) : gb305 ≠ gb307)); have n9_ := zA.mk ((by rw [hg]; exact Nat.ne_of_gt (yA (g := gb305) (o := .cells #[.int .i64 ((zM l0_3 x4_4).f0), .slice (some ad306) ((zM l0_3 x4_4).f1).length c304_1] 61 (0, 0)) (by (with_reducible repeat (first | refine zI ?_ _ | refine zJ ?_ | refine zH ?_ _)); exact BK305.out)) : gb307 ≠ gb305)); clear BK302; clear HB; have BK302 := n0_; have HB := n2_; have BK307 := n3_; have GW307 := n4_; have GE307 := n5_; have NB302_307 := n6_; have NB307_302 := n7_; have NB305_307 := n8_; have NB307_305 := n9_; clear n0_ n2_ n3_ n4_ n5_ n6_ n7_ n8_ n9_; clear hb hbox hg; have hnb56 := NB307_302.out; have hnc56 := NB302_307.out; have hnb57 := NB307_305.out; have hnc57 := NB305_307.out; have hcz58_0 : w55.cell? ⟨gb307, 0, none⟩ = some (.bool false) := (zG BK307.out 0).trans rfl; have hcz58_1 : w55.cell? ⟨gb307, 1, none⟩ = some (.int .i64 0) := (zG BK307.out 1).trans rfl; have hfz58_0 := zF BK307.out 0; have hfz58_1 := zF BK307.out 1; have hcz59_0 : w55.cell? ⟨gb302, 0, none⟩ = some (.int .i64 a0_0) := (zG BK302.out 0).trans rfl; have hcz59_1 : w55.cell? ⟨gb302, 1, none⟩ = some (.int .i64 a0_1) := (zG BK302.out 1).trans rfl; have hcz59_2 : w55.cell? ⟨gb302, 2, none⟩ = some (.slice A0_2 l0_2.length c0_2) := (zG BK302.out 2).trans rfl; have hcz59_3 : w55.cell? ⟨gb302, 3, none⟩ = some (.slice (some ad304) l0_3.length c0_3) := (zG BK302.out 3).trans rfl; have hfz59_0 := zF BK302.out 0; have hfz59_1 := zF BK302.out 1; have hfz59_2 := zF BK302.out 2; have hfz59_3 := zF BK302.out 3))
                        go_ret
                        exact ⟨by first | rfl | (simp [zX, zY] <;> rfl) | (simp [*, zX, zY] <;> rfl), by repeat (first | (with_reducible first | exact HB.out | apply zD | apply zB | apply zC | refine zE ?_ GE302.out | refine zE ?_ GE305.out | refine zE ?_ GE307.out) | exact HB.out)⟩
                       ·rw [if_neg c52] at H
                        have c52b0 : decide (a0_0 < ((zf ((zM l0_3 x4_4).f1) x6_6).f1)) = false := decide_eq_false c52
                        clear c52
                        have H' := zA.mk H
                        clear H
                        have hnb60 := NB305_302.out
                        have hnc60 := NB302_305.out
                        have hcz61_0 : wr.cell? ⟨gb305, 0, none⟩ = some (.int .i64 ((zM l0_3 x4_4).f0)) := (zG BK305.out 0).trans rfl
                        have hcz61_1 : wr.cell? ⟨gb305, 1, none⟩ = some (.slice A304_1 ((zM l0_3 x4_4).f1).length c304_1) := (zG BK305.out 1).trans rfl
                        have hfz61_0 := zF BK305.out 0
                        have hfz61_1 := zF BK305.out 1
                        have p306 : 0 ≤ (x6_6 : Int) := of_decide_eq_true (by first | (with_reducible assumption) | assumption)
                        have q306 : x6_6 < (((zM l0_3 x4_4).f1).length : Int) := of_decide_eq_true (by first | (with_reducible assumption) | assumption)
                        obtain ⟨ad306, e306, hx306_0, hx306_1⟩ := yo HR304_1.out x6_6 p306 q306
                        (try rw [← Nbq43.out] at hx306_0)
                        cases e306
                        replace hx306_0 := (HB.out.cell (World.block_lt_of_cell? w _ hx306_0)).trans hx306_0
                        replace hx306_1 := (HB.out.cell (World.block_lt_of_cell? w _ hx306_1)).trans hx306_1
                        replace p306 := eq_true p306
                        replace q306 := eq_true q306
                        go_wp2_with (first | ((with_reducible refine zr (N := 7) rfl ?_); (try (refine yK (by rfl) ?_; dsimp only)); refine zz ?hg (N := 7) ?hd (cs := #[.bool false, .int .i64 0]) (t := 71) ?hr ?_; (case hd => rfl); (case hg => rfl); (case hr => first | (go_simp; done) | (go_simp; rfl)); intro gb307 hg w62 hbox hb; have n0_ := zA.mk (zn (g := gb302) (o := .cells #[.int .i64 a0_0, .int .i64 a0_1, .slice A0_2 l0_2.length c0_2, .slice (some ad304) l0_3.length c0_3] 25 (0, 0)) (by (with_reducible repeat (first | refine zI ?_ _ | refine zJ ?_ | refine zH ?_ _)); exact BK302.out) hb); have n1_ := zA.mk (zn (g := gb305) (o := .cells #[.int .i64 ((zM l0_3 x4_4).f0), .slice (some ad306) ((zM l0_3 x4_4).f1).length c304_1] 61 (0, 0)) (by (with_reducible repeat (first | refine zI ?_ _ | refine zJ ?_ | refine zH ?_ _)); exact BK305.out) hb); have n2_ := zA.mk (zL (by repeat (first | (with_reducible first | exact HB.out | apply zD | apply zB | apply zC | refine zE ?_ GE302.out | refine zE ?_ GE305.out) | exact HB.out)) hb); have n3_ := zA.mk (hbox); have n4_ := zA.mk ((by rw [hg]; exact (zN (by repeat (first | (with_reducible first | exact HB.out | apply zD | apply zB | apply zC | refine zE ?_ GE302.out | refine zE ?_ GE305.out) | exact HB.out))) : w.heap.size ≤ gb307)); have n5_ := zA.mk ((by rw [hg]; exact (zN (by repeat (first | (with_reducible first | exact HB.out | apply zD | apply zB | apply zC | refine zE ?_ GE302.out | refine zE ?_ GE305.out) | exact HB.out))) : w.heap.size ≤ gb307)); have n6_ := zA.mk ((by rw [hg]; exact Nat.ne_of_lt (yA (g := gb302) (o := .cells #[.int .i64 a0_0, .int .i64 a0_1, .slice A0_2 l0_2.length c0_2, .slice (some ad304) l0_3.length c0_3] 25 (0, 0)) (by (with_reducible repeat (first | refine zI ?_ _ | refine zJ ?_ | refine zH ?_ _)); exact BK302.out)) : gb302 ≠ gb307)); have n7_ := zA.mk ((by rw [hg]; exact Nat.ne_of_gt (yA (g := gb302) (o := .cells #[.int .i64 a0_0, .int .i64 a0_1, .slice A0_2 l0_2.length c0_2, .slice (some ad304) l0_3.length c0_3] 25 (0, 0)) (by (with_reducible repeat (first | refine zI ?_ _ | refine zJ ?_ | refine zH ?_ _)); exact BK302.out)) : gb307 ≠ gb302)); have n8_ := zA.mk ((by rw [hg]; exact Nat.ne_of_lt (yA (g := gb305) (o := .cells #[.int .i64 ((zM l0_3 x4_4).f0), .slice (some ad306) ((zM l0_3 x4_4).f1).length c304_1] 61 (0, 0)) (by (with_reducible repeat (first | refine zI ?_ _ | refine zJ ?_ | refine zH ?_ _)); exact BK305.out)) : gb305 ≠ gb307)); have n9_ := zA.mk ((by rw [hg]; exact Nat.ne_of_gt (yA (g := gb305) (o := .cells #[.int .i64 ((zM l0_3 x4_4).f0), .slice (some ad306) ((zM l0_3 x4_4).f1).length c304_1] 61 (0, 0)) (by (with_reducible repeat (first | refine zI ?_ _ | refine zJ ?_ | refine zH ?_ _)); exact BK305.out)) : gb307 ≠ gb305)); clear BK302; clear BK305; clear HB; have BK302 := n0_; have BK305 := n1_; have HB := n2_; have BK307 := n3_; have GW307 := n4_; have GE307 := n5_; have NB302_307 := n6_; have NB307_302 := n7_; have NB305_307 := n8_; have NB307_305 := n9_; clear n0_ n1_ n2_ n3_ n4_ n5_ n6_ n7_ n8_ n9_; clear hb hbox hg; have hnb63 := NB307_302.out; have hnc63 := NB302_307.out; have hnb64 := NB307_305.out; have hnc64 := NB305_307.out; have hcz65_0 : w62.cell? ⟨gb307, 0, none⟩ = some (.bool false) := (zG BK307.out 0).trans rfl; have hcz65_1 : w62.cell? ⟨gb307, 1, none⟩ = some (.int .i64 0) := (zG BK307.out 1).trans rfl; have hfz65_0 := zF BK307.out 0; have hfz65_1 := zF BK307.out 1; have hcz66_0 : w62.cell? ⟨gb302, 0, none⟩ = some (.int .i64 a0_0) := (zG BK302.out 0).trans rfl; have hcz66_1 : w62.cell? ⟨gb302, 1, none⟩ = some (.int .i64 a0_1) := (zG BK302.out 1).trans rfl; have hcz66_2 : w62.cell? ⟨gb302, 2, none⟩ = some (.slice A0_2 l0_2.length c0_2) := (zG BK302.out 2).trans rfl; have hcz66_3 : w62.cell? ⟨gb302, 3, none⟩ = some (.slice (some ad304) l0_3.length c0_3) := (zG BK302.out 3).trans rfl; have hfz66_0 := zF BK302.out 0; have hfz66_1 := zF BK302.out 1; have hfz66_2 := zF BK302.out 2; have hfz66_3 := zF BK302.out 3))
                        go_roundg k6
                        case measure => have := HJ1.out; have := HK2.out; have := HJ20.out; have := HK4.out; have := HJ28.out; have := HK6.out; omega
                        case rel => exact ⟨(wrap64 (x6_6 + 1)), (by first | rfl | (simp; done) | (simp [*]; done)), H', ⟨by have := HJ1.out; have := HK2.out; have := HJ20.out; have := HK4.out; have := HJ28.out; have := HK6.out; omega⟩, ⟨by (with_reducible repeat (first | refine zI ?_ _ | refine zJ ?_ | refine zH ?_ _)); refine yC ?_ NB302_307.out _; (with_reducible repeat (first | refine zI ?_ _ | refine zJ ?_ | refine zH ?_ _)); refine yC ?_ NB302_307.out _; (with_reducible repeat (first | refine zI ?_ _ | refine zJ ?_ | refine zH ?_ _)); exact BK302.out⟩, ⟨by (with_reducible repeat (first | refine zI ?_ _ | refine zJ ?_ | refine zH ?_ _)); refine yC ?_ NB305_307.out _; (with_reducible repeat (first | refine zI ?_ _ | refine zJ ?_ | refine zH ?_ _)); refine yC ?_ NB305_307.out _; (with_reducible repeat (first | refine zI ?_ _ | refine zJ ?_ | refine zH ?_ _)); exact BK305.out⟩, ⟨by repeat (first | (with_reducible first | exact HB.out | apply zD | apply zB | apply zC | refine zE ?_ GE302.out | refine zE ?_ GE305.out | refine zE ?_ GE307.out) | exact HB.out)⟩⟩
                     ·replace c44 := Bool.eq_false_iff.mpr c44
                      subst c44
                      have H1 : (if ((zf ((zM l0_3 x4_4).f1) x6_6).f1) < 0 then (some 4) else (if ((zf ((zM l0_3 x4_4).f1) x6_6).f1) ≥ (l0_2.length : Int) then (some 4) else (zK.l2 k6 x4_4 (wrap64 (x6_6 + 1)) a0_0 a0_1 l0_2 l0_3 ((zM l0_3 x4_4).f0) ((zM l0_3 x4_4).f1)))) = some r := by rw [if_neg (show ¬ (false = true) by decide)] at H; exact H
                      clear H
                      have H := H1
                      clear H1
                      by_cases c67 : ((zf ((zM l0_3 x4_4).f1) x6_6).f1) < 0
                      ·rw [if_pos c67] at H
                       have c67b0 : decide (((zf ((zM l0_3 x4_4).f1) x6_6).f1) < 0) = true := decide_eq_true c67
                       clear c67
                       obtain rfl := Option.some.inj H
                       have hnb68 := NB305_302.out
                       have hnc68 := NB302_305.out
                       have hcz69_0 : wr.cell? ⟨gb305, 0, none⟩ = some (.int .i64 ((zM l0_3 x4_4).f0)) := (zG BK305.out 0).trans rfl
                       have hcz69_1 : wr.cell? ⟨gb305, 1, none⟩ = some (.slice A304_1 ((zM l0_3 x4_4).f1).length c304_1) := (zG BK305.out 1).trans rfl
                       have hfz69_0 := zF BK305.out 0
                       have hfz69_1 := zF BK305.out 1
                       have p306 : 0 ≤ (x6_6 : Int) := of_decide_eq_true (by first | (with_reducible assumption) | assumption)
                       have q306 : x6_6 < (((zM l0_3 x4_4).f1).length : Int) := of_decide_eq_true (by first | (with_reducible assumption) | assumption)
                       obtain ⟨ad306, e306, hx306_0, hx306_1⟩ := yo HR304_1.out x6_6 p306 q306
                       (try rw [← Nbq43.out] at hx306_0)
                       cases e306
                       replace hx306_0 := (HB.out.cell (World.block_lt_of_cell? w _ hx306_0)).trans hx306_0
                       replace hx306_1 := (HB.out.cell (World.block_lt_of_cell? w _ hx306_1)).trans hx306_1
                       replace p306 := eq_true p306
                       replace q306 := eq_true q306
                       go_wp2_with (first | ((with_reducible refine zr (N := 7) rfl ?_); (try (refine yK (by rfl) ?_; dsimp only)); refine zz ?hg (N := 7) ?hd (cs := #[.bool false, .int .i64 0]) (t := 71) ?hr ?_; (case hd => rfl); (case hg => rfl); (case hr => first | (go_simp; done) | (go_simp; rfl)); intro gb307 hg w70 hbox hb; have n2_ := zA.mk (zL (by repeat (first | (with_reducible first | exact HB.out | apply zD | apply zB | apply zC | refine zE ?_ GE302.out | refine zE ?_ GE305.out) | exact HB.out)) hb); have n3_ := zA.mk (hbox); have n4_ := zA.mk ((by rw [hg]; exact (zN (by repeat (first | (with_reducible first | exact HB.out | apply zD | apply zB | apply zC | refine zE ?_ GE302.out | refine zE ?_ GE305.out) | exact HB.out))) : w.heap.size ≤ gb307)); have n5_ := zA.mk ((by rw [hg]; exact (zN (by repeat (first | (with_reducible first | exact HB.out | apply zD | apply zB | apply zC | refine zE ?_ GE302.out | refine zE ?_ GE305.out) | exact HB.out))) : w.heap.size ≤ gb307)); have n6_ := zA.mk ((by rw [hg]; exact Nat.ne_of_lt (yA (g := gb302) (o := .cells #[.int .i64 a0_0, .int .i64 a0_1, .slice A0_2 l0_2.length c0_2, .slice (some ad304) l0_3.length c0_3] 25 (0, 0)) (by (with_reducible repeat (first | refine zI ?_ _ | refine zJ ?_ | refine zH ?_ _)); exact BK302.out)) : gb302 ≠ gb307)); have n7_ := zA.mk ((by rw [hg]; exact Nat.ne_of_gt (yA (g := gb302) (o := .cells #[.int .i64 a0_0, .int .i64 a0_1, .slice A0_2 l0_2.length c0_2, .slice (some ad304) l0_3.length c0_3] 25 (0, 0)) (by (with_reducible repeat (first | refine zI ?_ _ | refine zJ ?_ | refine zH ?_ _)); exact BK302.out)) : gb307 ≠ gb302)); have n8_ := zA.mk ((by rw [hg]; exact Nat.ne_of_lt (yA (g := gb305) (o := .cells #[.int .i64 ((zM l0_3 x4_4).f0), .slice (some ad306) ((zM l0_3 x4_4).f1).length c304_1] 61 (0, 0)) (by (with_reducible repeat (first | refine zI ?_ _ | refine zJ ?_ | refine zH ?_ _)); exact BK305.out)) : gb305 ≠ gb307)); have n9_ := zA.mk ((by rw [hg]; exact Nat.ne_of_gt (yA (g := gb305) (o := .cells #[.int .i64 ((zM l0_3 x4_4).f0), .slice (some ad306) ((zM l0_3 x4_4).f1).length c304_1] 61 (0, 0)) (by (with_reducible repeat (first | refine zI ?_ _ | refine zJ ?_ | refine zH ?_ _)); exact BK305.out)) : gb307 ≠ gb305)); clear HB; have HB := n2_; have BK307 := n3_; have GW307 := n4_; have GE307 := n5_; have NB302_307 := n6_; have NB307_302 := n7_; have NB305_307 := n8_; have NB307_305 := n9_; clear n2_ n3_ n4_ n5_ n6_ n7_ n8_ n9_; clear hb hbox hg; have hnb71 := NB307_302.out; have hnc71 := NB302_307.out; have hnb72 := NB307_305.out; have hnc72 := NB305_307.out; have hcz73_0 : w70.cell? ⟨gb307, 0, none⟩ = some (.bool false) := (zG BK307.out 0).trans rfl; have hcz73_1 : w70.cell? ⟨gb307, 1, none⟩ = some (.int .i64 0) := (zG BK307.out 1).trans rfl; have hfz73_0 := zF BK307.out 0; have hfz73_1 := zF BK307.out 1))
                       go_ret
                       exact ⟨by first | rfl | (simp [zX, zY] <;> rfl) | (simp [*, zX, zY] <;> rfl), by repeat (first | (with_reducible first | exact HB.out | apply zD | apply zB | apply zC | refine zE ?_ GE302.out | refine zE ?_ GE305.out | refine zE ?_ GE307.out) | exact HB.out)⟩
                      ·rw [if_neg c67] at H
                       have c67b0 : decide (((zf ((zM l0_3 x4_4).f1) x6_6).f1) < 0) = false := decide_eq_false c67
                       clear c67
                       by_cases c74 : ((zf ((zM l0_3 x4_4).f1) x6_6).f1) ≥ (l0_2.length : Int)
                       ·rw [if_pos c74] at H
                        have c74b0 : decide ((l0_2.length : Int) ≤ ((zf ((zM l0_3 x4_4).f1) x6_6).f1)) = true := decide_eq_true c74
                        clear c74
                        obtain rfl := Option.some.inj H
                        have hnb75 := NB305_302.out
                        have hnc75 := NB302_305.out
                        have hcz76_0 : wr.cell? ⟨gb305, 0, none⟩ = some (.int .i64 ((zM l0_3 x4_4).f0)) := (zG BK305.out 0).trans rfl
                        have hcz76_1 : wr.cell? ⟨gb305, 1, none⟩ = some (.slice A304_1 ((zM l0_3 x4_4).f1).length c304_1) := (zG BK305.out 1).trans rfl
                        have hfz76_0 := zF BK305.out 0
                        have hfz76_1 := zF BK305.out 1
                        have p306 : 0 ≤ (x6_6 : Int) := of_decide_eq_true (by first | (with_reducible assumption) | assumption)
                        have q306 : x6_6 < (((zM l0_3 x4_4).f1).length : Int) := of_decide_eq_true (by first | (with_reducible assumption) | assumption)
                        obtain ⟨ad306, e306, hx306_0, hx306_1⟩ := yo HR304_1.out x6_6 p306 q306
                        (try rw [← Nbq43.out] at hx306_0)
                        cases e306
                        replace hx306_0 := (HB.out.cell (World.block_lt_of_cell? w _ hx306_0)).trans hx306_0
                        replace hx306_1 := (HB.out.cell (World.block_lt_of_cell? w _ hx306_1)).trans hx306_1
                        replace p306 := eq_true p306
                        replace q306 := eq_true q306
                        go_wp2_with (first | ((with_reducible refine zr (N := 7) rfl ?_); (try (refine yK (by rfl) ?_; dsimp only)); refine zz ?hg (N := 7) ?hd (cs := #[.bool false, .int .i64 0]) (t := 71) ?hr ?_; (case hd => rfl); (case hg => rfl); (case hr => first | (go_simp; done) | (go_simp; rfl)); intro gb307 hg w77 hbox hb; have n0_ := zA.mk (zn (g := gb302) (o := .cells #[.int .i64 a0_0, .int .i64 a0_1, .slice A0_2 l0_2.length c0_2, .slice (some ad304) l0_3.length c0_3] 25 (0, 0)) (by (with_reducible repeat (first | refine zI ?_ _ | refine zJ ?_ | refine zH ?_ _)); exact BK302.out) hb); have n2_ := zA.mk (zL (by repeat (first | (with_reducible first | exact HB.out | apply zD | apply zB | apply zC | refine zE ?_ GE302.out | refine zE ?_ GE305.out) | exact HB.out)) hb); have n3_ := zA.mk (hbox); have n4_ := zA.mk ((by rw [hg]; exact (zN (by repeat (first | (with_reducible first | exact HB.out | apply zD | apply zB | apply zC | refine zE ?_ GE302.out | refine zE ?_ GE305.out) | exact HB.out))) : w.heap.size ≤ gb307)); have n5_ := zA.mk ((by rw [hg]; exact (zN (by repeat (first | (with_reducible first | exact HB.out | apply zD | apply zB | apply zC | refine zE ?_ GE302.out | refine zE ?_ GE305.out) | exact HB.out))) : w.heap.size ≤ gb307)); have n6_ := zA.mk ((by rw [hg]; exact Nat.ne_of_lt (yA (g := gb302) (o := .cells #[.int .i64 a0_0, .int .i64 a0_1, .slice A0_2 l0_2.length c0_2, .slice (some ad304) l0_3.length c0_3] 25 (0, 0)) (by (with_reducible repeat (first | refine zI ?_ _ | refine zJ ?_ | refine zH ?_ _)); exact BK302.out)) : gb302 ≠ gb307)); have n7_ := zA.mk ((by rw [hg]; exact Nat.ne_of_gt (yA (g := gb302) (o := .cells #[.int .i64 a0_0, .int .i64 a0_1, .slice A0_2 l0_2.length c0_2, .slice (some ad304) l0_3.length c0_3] 25 (0, 0)) (by (with_reducible repeat (first | refine zI ?_ _ | refine zJ ?_ | refine zH ?_ _)); exact BK302.out)) : gb307 ≠ gb302)); have n8_ := zA.mk ((by rw [hg]; exact Nat.ne_of_lt (yA (g := gb305) (o := .cells #[.int .i64 ((zM l0_3 x4_4).f0), .slice (some ad306) ((zM l0_3 x4_4).f1).length c304_1] 61 (0, 0)) (by (with_reducible repeat (first | refine zI ?_ _ | refine zJ ?_ | refine zH ?_ _)); exact BK305.out)) : gb305 ≠ gb307)); have n9_ := zA.mk ((by rw [hg]; exact Nat.ne_of_gt (yA (g := gb305) (o := .cells #[.int .i64 ((zM l0_3 x4_4).f0), .slice (some ad306) ((zM l0_3 x4_4).f1).length c304_1] 61 (0, 0)) (by (with_reducible repeat (first | refine zI ?_ _ | refine zJ ?_ | refine zH ?_ _)); exact BK305.out)) : gb307 ≠ gb305)); clear BK302; clear HB; have BK302 := n0_; have HB := n2_; have BK307 := n3_; have GW307 := n4_; have GE307 := n5_; have NB302_307 := n6_; have NB307_302 := n7_; have NB305_307 := n8_; have NB307_305 := n9_; clear n0_ n2_ n3_ n4_ n5_ n6_ n7_ n8_ n9_; clear hb hbox hg; have hnb78 := NB307_302.out; have hnc78 := NB302_307.out; have hnb79 := NB307_305.out; have hnc79 := NB305_307.out; have hcz80_0 : w77.cell? ⟨gb307, 0, none⟩ = some (.bool false) := (zG BK307.out 0).trans rfl; have hcz80_1 : w77.cell? ⟨gb307, 1, none⟩ = some (.int .i64 0) := (zG BK307.out 1).trans rfl; have hfz80_0 := zF BK307.out 0; have hfz80_1 := zF BK307.out 1; have hcz81_0 : w77.cell? ⟨gb302, 0, none⟩ = some (.int .i64 a0_0) := (zG BK302.out 0).trans rfl; have hcz81_1 : w77.cell? ⟨gb302, 1, none⟩ = some (.int .i64 a0_1) := (zG BK302.out 1).trans rfl; have hcz81_2 : w77.cell? ⟨gb302, 2, none⟩ = some (.slice A0_2 l0_2.length c0_2) := (zG BK302.out 2).trans rfl; have hcz81_3 : w77.cell? ⟨gb302, 3, none⟩ = some (.slice (some ad304) l0_3.length c0_3) := (zG BK302.out 3).trans rfl; have hfz81_0 := zF BK302.out 0; have hfz81_1 := zF BK302.out 1; have hfz81_2 := zF BK302.out 2; have hfz81_3 := zF BK302.out 3))
                        go_ret
                        exact ⟨by first | rfl | (simp [zX, zY] <;> rfl) | (simp [*, zX, zY] <;> rfl), by repeat (first | (with_reducible first | exact HB.out | apply zD | apply zB | apply zC | refine zE ?_ GE302.out | refine zE ?_ GE305.out | refine zE ?_ GE307.out) | exact HB.out)⟩
                       ·rw [if_neg c74] at H
                        have c74b0 : decide ((l0_2.length : Int) ≤ ((zf ((zM l0_3 x4_4).f1) x6_6).f1)) = false := decide_eq_false c74
                        clear c74
                        have H' := zA.mk H
                        clear H
                        have hnb82 := NB305_302.out
                        have hnc82 := NB302_305.out
                        have hcz83_0 : wr.cell? ⟨gb305, 0, none⟩ = some (.int .i64 ((zM l0_3 x4_4).f0)) := (zG BK305.out 0).trans rfl
                        have hcz83_1 : wr.cell? ⟨gb305, 1, none⟩ = some (.slice A304_1 ((zM l0_3 x4_4).f1).length c304_1) := (zG BK305.out 1).trans rfl
                        have hfz83_0 := zF BK305.out 0
                        have hfz83_1 := zF BK305.out 1
                        have p306 : 0 ≤ (x6_6 : Int) := of_decide_eq_true (by first | (with_reducible assumption) | assumption)
                        have q306 : x6_6 < (((zM l0_3 x4_4).f1).length : Int) := of_decide_eq_true (by first | (with_reducible assumption) | assumption)
                        obtain ⟨ad306, e306, hx306_0, hx306_1⟩ := yo HR304_1.out x6_6 p306 q306
                        (try rw [← Nbq43.out] at hx306_0)
                        cases e306
                        replace hx306_0 := (HB.out.cell (World.block_lt_of_cell? w _ hx306_0)).trans hx306_0
                        replace hx306_1 := (HB.out.cell (World.block_lt_of_cell? w _ hx306_1)).trans hx306_1
                        replace p306 := eq_true p306
                        replace q306 := eq_true q306
                        go_wp2_with (first | ((with_reducible refine zr (N := 7) rfl ?_); (try (refine yK (by rfl) ?_; dsimp only)); refine zz ?hg (N := 7) ?hd (cs := #[.bool false, .int .i64 0]) (t := 71) ?hr ?_; (case hd => rfl); (case hg => rfl); (case hr => first | (go_simp; done) | (go_simp; rfl)); intro gb307 hg w84 hbox hb; have n0_ := zA.mk (zn (g := gb302) (o := .cells #[.int .i64 a0_0, .int .i64 a0_1, .slice A0_2 l0_2.length c0_2, .slice (some ad304) l0_3.length c0_3] 25 (0, 0)) (by (with_reducible repeat (first | refine zI ?_ _ | refine zJ ?_ | refine zH ?_ _)); exact BK302.out) hb); have n1_ := zA.mk (zn (g := gb305) (o := .cells #[.int .i64 ((zM l0_3 x4_4).f0), .slice (some ad306) ((zM l0_3 x4_4).f1).length c304_1] 61 (0, 0)) (by (with_reducible repeat (first | refine zI ?_ _ | refine zJ ?_ | refine zH ?_ _)); exact BK305.out) hb); have n2_ := zA.mk (zL (by repeat (first | (with_reducible first | exact HB.out | apply zD | apply zB | apply zC | refine zE ?_ GE302.out | refine zE ?_ GE305.out) | exact HB.out)) hb); have n3_ := zA.mk (hbox); have n4_ := zA.mk ((by rw [hg]; exact (zN (by repeat (first | (with_reducible first | exact HB.out | apply zD | apply zB | apply zC | refine zE ?_ GE302.out | refine zE ?_ GE305.out) | exact HB.out))) : w.heap.size ≤ gb307)); have n5_ := zA.mk ((by rw [hg]; exact (zN (by repeat (first | (with_reducible first | exact HB.out | apply zD | apply zB | apply zC | refine zE ?_ GE302.out | refine zE ?_ GE305.out) | exact HB.out))) : w.heap.size ≤ gb307)); have n6_ := zA.mk ((by rw [hg]; exact Nat.ne_of_lt (yA (g := gb302) (o := .cells #[.int .i64 a0_0, .int .i64 a0_1, .slice A0_2 l0_2.length c0_2, .slice (some ad304) l0_3.length c0_3] 25 (0, 0)) (by (with_reducible repeat (first | refine zI ?_ _ | refine zJ ?_ | refine zH ?_ _)); exact BK302.out)) : gb302 ≠ gb307)); have n7_ := zA.mk ((by rw [hg]; exact Nat.ne_of_gt (yA (g := gb302) (o := .cells #[.int .i64 a0_0, .int .i64 a0_1, .slice A0_2 l0_2.length c0_2, .slice (some ad304) l0_3.length c0_3] 25 (0, 0)) (by (with_reducible repeat (first | refine zI ?_ _ | refine zJ ?_ | refine zH ?_ _)); exact BK302.out)) : gb307 ≠ gb302)); have n8_ := zA.mk ((by rw [hg]; exact Nat.ne_of_lt (yA (g := gb305) (o := .cells #[.int .i64 ((zM l0_3 x4_4).f0), .slice (some ad306) ((zM l0_3 x4_4).f1).length c304_1] 61 (0, 0)) (by (with_reducible repeat (first | refine zI ?_ _ | refine zJ ?_ | refine zH ?_ _)); exact BK305.out)) : gb305 ≠ gb307)); have n9_ := zA.mk ((by rw [hg]; exact Nat.ne_of_gt (yA (g := gb305) (o := .cells #[.int .i64 ((zM l0_3 x4_4).f0), .slice (some ad306) ((zM l0_3 x4_4).f1).length c304_1] 61 (0, 0)) (by (with_reducible repeat (first | refine zI ?_ _ | refine zJ ?_ | refine zH ?_ _)); exact BK305.out)) : gb307 ≠ gb305)); clear BK302; clear BK305; clear HB; have BK302 := n0_; have BK305 := n1_; have HB := n2_; have BK307 := n3_; have GW307 := n4_; have GE307 := n5_; have NB302_307 := n6_; have NB307_302 := n7_; have NB305_307 := n8_; have NB307_305 := n9_; clear n0_ n1_ n2_ n3_ n4_ n5_ n6_ n7_ n8_ n9_; clear hb hbox hg; have hnb85 := NB307_302.out; have hnc85 := NB302_307.out; have hnb86 := NB307_305.out; have hnc86 := NB305_307.out; have hcz87_0 : w84.cell? ⟨gb307, 0, none⟩ = some (.bool false) := (zG BK307.out 0).trans rfl; have hcz87_1 : w84.cell? ⟨gb307, 1, none⟩ = some (.int .i64 0) := (zG BK307.out 1).trans rfl; have hfz87_0 := zF BK307.out 0; have hfz87_1 := zF BK307.out 1; have hcz88_0 : w84.cell? ⟨gb302, 0, none⟩ = some (.int .i64 a0_0) := (zG BK302.out 0).trans rfl; have hcz88_1 : w84.cell? ⟨gb302, 1, none⟩ = some (.int .i64 a0_1) := (zG BK302.out 1).trans rfl; have hcz88_2 : w84.cell? ⟨gb302, 2, none⟩ = some (.slice A0_2 l0_2.length c0_2) := (zG BK302.out 2).trans rfl; have hcz88_3 : w84.cell? ⟨gb302, 3, none⟩ = some (.slice (some ad304) l0_3.length c0_3) := (zG BK302.out 3).trans rfl; have hfz88_0 := zF BK302.out 0; have hfz88_1 := zF BK302.out 1; have hfz88_2 := zF BK302.out 2; have hfz88_3 := zF BK302.out 3))
                        go_roundg k6
                        case measure => have := HJ1.out; have := HK2.out; have := HJ20.out; have := HK4.out; have := HJ28.out; have := HK6.out; omega
                        case rel => exact ⟨(wrap64 (x6_6 + 1)), (by first | rfl | (simp; done) | (simp [*]; done)), H', ⟨by have := HJ1.out; have := HK2.out; have := HJ20.out; have := HK4.out; have := HJ28.out; have := HK6.out; omega⟩, ⟨by (with_reducible repeat (first | refine zI ?_ _ | refine zJ ?_ | refine zH ?_ _)); refine yC ?_ NB302_307.out _; (with_reducible repeat (first | refine zI ?_ _ | refine zJ ?_ | refine zH ?_ _)); refine yC ?_ NB302_307.out _; (with_reducible repeat (first | refine zI ?_ _ | refine zJ ?_ | refine zH ?_ _)); exact BK302.out⟩, ⟨by (with_reducible repeat (first | refine zI ?_ _ | refine zJ ?_ | refine zH ?_ _)); refine yC ?_ NB305_307.out _; (with_reducible repeat (first | refine zI ?_ _ | refine zJ ?_ | refine zH ?_ _)); refine yC ?_ NB305_307.out _; (with_reducible repeat (first | refine zI ?_ _ | refine zJ ?_ | refine zH ?_ _)); exact BK305.out⟩, ⟨by repeat (first | (with_reducible first | exact HB.out | apply zD | apply zB | apply zC | refine zE ?_ GE302.out | refine zE ?_ GE305.out | refine zE ?_ GE307.out) | exact HB.out)⟩⟩
                    ·rw [if_neg c42] at H
                     exact absurd H (by simp)
                   ·rw [if_neg c41] at H
                    have c41b0 : decide (x6_6 < (((zM l0_3 x4_4).f1).length : Int)) = false := decide_eq_false c41
                    clear c41
                    have H' := zA.mk H
                    clear H
                    have hnb89 := NB305_302.out
                    have hnc89 := NB302_305.out
                    have hcz90_0 : wr.cell? ⟨gb305, 0, none⟩ = some (.int .i64 ((zM l0_3 x4_4).f0)) := (zG BK305.out 0).trans rfl
                    have hcz90_1 : wr.cell? ⟨gb305, 1, none⟩ = some (.slice A304_1 ((zM l0_3 x4_4).f1).length c304_1) := (zG BK305.out 1).trans rfl
                    have hfz90_0 := zF BK305.out 0
                    have hfz90_1 := zF BK305.out 1
                    go_wp2
                    go_roundg k6
                    case measure => have := HJ1.out; have := HK2.out; have := HJ20.out; have := HK4.out; have := HJ28.out; have := HK6.out; omega
                    case rel => exact ⟨(wrap64 (x4_4 + 1)), (by first | rfl | (simp; done) | (simp [*]; done)), H', ⟨by have := HJ1.out; have := HK2.out; have := HJ20.out; have := HK4.out; have := HJ28.out; have := HK6.out; omega⟩, ⟨by (with_reducible repeat (first | refine zI ?_ _ | refine zJ ?_ | refine zH ?_ _)); exact BK302.out⟩, ⟨by repeat (first | (with_reducible first | exact HB.out | apply zD | apply zB | apply zC | refine zE ?_ GE302.out | refine zE ?_ GE305.out) | exact HB.out)⟩⟩
             ·rw [if_neg c28] at H
              exact absurd H (by simp)
            ·rw [if_neg c27] at H
             have c27b0 : decide (x4_4 < (l0_3.length : Int)) = false := decide_eq_false c27
             clear c27
             obtain rfl := Option.some.inj H
             have hcz91_0 : wr.cell? ⟨gb302, 0, none⟩ = some (.int .i64 a0_0) := (zG BK302.out 0).trans rfl
             have hcz91_1 : wr.cell? ⟨gb302, 1, none⟩ = some (.int .i64 a0_1) := (zG BK302.out 1).trans rfl
             have hcz91_2 : wr.cell? ⟨gb302, 2, none⟩ = some (.slice A0_2 l0_2.length c0_2) := (zG BK302.out 2).trans rfl
             have hcz91_3 : wr.cell? ⟨gb302, 3, none⟩ = some (.slice A0_3 l0_3.length c0_3) := (zG BK302.out 3).trans rfl
             have hfz91_0 := zF BK302.out 0
             have hfz91_1 := zF BK302.out 1
             have hfz91_2 := zF BK302.out 2
             have hfz91_3 := zF BK302.out 3
             go_wp2
             go_ret
             exact ⟨by first | rfl | (simp [zX, zY] <;> rfl) | (simp [*, zX, zY] <;> rfl), by repeat (first | (with_reducible first | exact HB.out | apply zD | apply zB | apply zC | refine zE ?_ GE302.out) | exact HB.out)⟩
end Go.Proofs.Ytnihlieggknpaaa.HFollowOf
