-- Written by plus.py for this claim.
import Derived.Test.YtnihlieggknpaaaHFollowOfx0
import Derived.Test.YtnihlieggknpaaaHFollowOfx1
import Derived.Test.YtnihlieggknpaaaHFollowOfx7
import Derived.Test.YtnihlieggknpaaaHFollowOfx9
import Derived.Test.YtnihlieggknpaaaHFollowOfx15
namespace Go.Proofs.Ytnihlieggknpaaa.HFollowOf
open Go.RowKit Go.Proofs.YtnihlieggknpaaaW.PrintWords Go.Proofs.YtnihlieggknpaaaW.PrintLast Go.Proofs.YtnihlieggknpaaaW.PrintMore
attribute [local go_sem] yj yk yw yx ya yb yl ym   -- for this text's walks alone
set_option linter.unusedVariables false
set_option linter.unusedSimpArgs false
mutual
def zO.j0 : Nat → Int → List (List ByteArray) → List ByteArray → Int → List (List ByteArray) → Int → Bool → Option (Bool)
 | 0, _, _, _, _, _, _, _ => none
 | k + 1, x1, x5, x7, x8, x9, x10, x41 => if x41 = true then (some false) else (zO.l0 k x1 x5 x7 x8 x9 x10 0)
def zO.l0 : Nat → Int → List (List ByteArray) → List ByteArray → Int → List (List ByteArray) → Int → Int → Option (Bool)
 | 0, _, _, _, _, _, _, _ => none
 | k + 1, x1, x5, x7, x8, x9, x10, x11 => if x11 < (x9.length : Int) then (if 0 ≤ x11 then (if x11 < (x5.length : Int) then ((zU.f k (zm x5 x11) (zm x9 x11)).bind fun t400 => (if t400 = true then (zO.l0 k x1 x5 x7 x8 x9 x10 (wrap64 (x11 + 1))) else (some false))) else (none)) else (none)) else (if x10 = 0 then (if x1 < 0 then (zO.j2 k x1 x7 x8 x9 true) else (zO.j2 k x1 x7 x8 x9 (decide (x1 ≥ (x9.length : Int))))) else (if x8 = x10 then (if (x7.length : Int) = 0 then ((zx.f k).bind fun t401 => (some t401)) else (some false)) else (some false)))
def zO.j2 : Nat → Int → List ByteArray → Int → List (List ByteArray) → Bool → Option (Bool)
 | 0, _, _, _, _, _ => none
 | k + 1, x1, x7, x8, x9, x78 => if x78 = true then (if x8 = 3 then (if (x7.length : Int) = 0 then ((zx.f k).bind fun t402 => (some t402)) else (some false)) else (some false)) else (if x8 = 0 then (if 0 ≤ x1 then (if x1 < (x9.length : Int) then ((zU.f k x7 (zm x9 x1)).bind fun t404 => (if t404 = true then ((zx.f k).bind fun t405 => (some t405)) else (some false))) else (none)) else (none)) else (some false))
end
def zO.f (k : Nat) (a0_0 : Int) (a0_1 : Int) (l0_2 : List Int) (l0_3 : List (S61)) (a1 : Int) : Option (Bool) := (zg.f k a0_0 a0_1 l0_2 l0_3).bind fun bt362 => ((zg.f k bt362.1 bt362.2.1 bt362.2.2.1 bt362.2.2.2).bind fun bt370 => ((zo.f k bt370.1 bt370.2.1 bt370.2.2.1 bt370.2.2.2).bind fun bt378 => ((zg.f k bt362.1 bt362.2.1 bt362.2.2.1 bt362.2.2.2).bind fun bt382 => ((yD.f k bt382.1 bt382.2.1 bt382.2.2.1 bt382.2.2.2 a1).bind fun bt390 => ((zP.f k bt362.1 bt362.2.1 bt362.2.2.1 bt362.2.2.2).bind fun bt394 => (if bt378.2 = bt394.2 then (zO.j0 k a1 bt378.1 bt390.1 bt390.2 bt394.1 bt394.2 ((bt378.1.length : Int) != (bt394.1.length : Int))) else (zO.j0 k a1 bt378.1 bt390.1 bt390.2 bt394.1 bt394.2 true)))))))
theorem zO.mono_l : ∀ k, (∀ y0 y1 y2 y3 y4 y5 y6, LeO (zO.j0 k y0 y1 y2 y3 y4 y5 y6) (zO.j0 (k + 1) y0 y1 y2 y3 y4 y5 y6)) ∧ (∀ y0 y1 y2 y3 y4 y5 y6, LeO (zO.l0 k y0 y1 y2 y3 y4 y5 y6) (zO.l0 (k + 1) y0 y1 y2 y3 y4 y5 y6)) ∧ (∀ y0 y1 y2 y3 y4, LeO (zO.j2 k y0 y1 y2 y3 y4) (zO.j2 (k + 1) y0 y1 y2 y3 y4))
 | 0 => ⟨fun _ _ _ _ _ _ _ r h => by simp [zO.j0] at h, fun _ _ _ _ _ _ _ r h => by simp [zO.l0] at h, fun _ _ _ _ _ r h => by simp [zO.j2] at h⟩
 | k + 1 => by
  obtain ⟨ih0, ih1, ih2⟩ := zO.mono_l k
  refine ⟨?_, ?_, ?_⟩
  ·intro y0 y1 y2 y3 y4 y5 y6
   unfold zO.j0
   repeat' first
   | (with_reducible exact ih0 _ _ _ _ _ _ _)
   | (with_reducible exact ih1 _ _ _ _ _ _ _)
   | (with_reducible exact ih2 _ _ _ _ _)
   | (with_reducible exact yD.mono _ _ _ _ _ _)
   | (with_reducible exact zo.mono _ _ _ _ _)
   | (with_reducible exact zU.mono _ _ _)
   | (with_reducible exact zg.mono _ _ _ _ _)
   | (with_reducible exact zx.mono _)
   | (with_reducible exact zP.mono _ _ _ _ _)
   | (with_reducible exact LeO.refl _)
   | (with_reducible exact LeO.none _)
   | (with_reducible refine LeO.ite ?_ ?_)
   | (with_reducible refine LeO.bind ?_ (fun _ => ?_))
   | exact ih0 _ _ _ _ _ _ _
   | exact ih1 _ _ _ _ _ _ _
   | exact ih2 _ _ _ _ _
   | exact yD.mono _ _ _ _ _ _
   | exact zo.mono _ _ _ _ _
   | exact zU.mono _ _ _
   | exact zg.mono _ _ _ _ _
   | exact zx.mono _
   | exact zP.mono _ _ _ _ _
   | exact LeO.none _
   | refine LeO.ite ?_ ?_
   | refine LeO.bind ?_ (fun _ => ?_)
  ·intro y0 y1 y2 y3 y4 y5 y6
   unfold zO.l0
   repeat' first
   | (with_reducible exact ih0 _ _ _ _ _ _ _)
   | (with_reducible exact ih1 _ _ _ _ _ _ _)
   | (with_reducible exact ih2 _ _ _ _ _)
   | (with_reducible exact yD.mono _ _ _ _ _ _)
   | (with_reducible exact zo.mono _ _ _ _ _)
   | (with_reducible exact zU.mono _ _ _)
   | (with_reducible exact zg.mono _ _ _ _ _)
   | (with_reducible exact zx.mono _)
   | (with_reducible exact zP.mono _ _ _ _ _)
   | (with_reducible exact LeO.refl _)
   | (with_reducible exact LeO.none _)
   | (with_reducible refine LeO.ite ?_ ?_)
   | (with_reducible refine LeO.bind ?_ (fun _ => ?_))
   | exact ih0 _ _ _ _ _ _ _
   | exact ih1 _ _ _ _ _ _ _
   | exact ih2 _ _ _ _ _
   | exact yD.mono _ _ _ _ _ _
   | exact zo.mono _ _ _ _ _
   | exact zU.mono _ _ _
   | exact zg.mono _ _ _ _ _
   | exact zx.mono _
   | exact zP.mono _ _ _ _ _
   | exact LeO.none _
   | refine LeO.ite ?_ ?_
   | refine LeO.bind ?_ (fun _ => ?_)
  ·intro y0 y1 y2 y3 y4
   unfold zO.j2
   repeat' first
   | (with_reducible exact ih0 _ _ _ _ _ _ _)
   | (with_reducible exact ih1 _ _ _ _ _ _ _)
   | (with_reducible exact ih2 _ _ _ _ _)
   | (with_reducible exact yD.mono _ _ _ _ _ _)
   | (with_reducible exact zo.mono _ _ _ _ _)
   | (with_reducible exact zU.mono _ _ _)
   | (with_reducible exact zg.mono _ _ _ _ _)
   | (with_reducible exact zx.mono _)
   | (with_reducible exact zP.mono _ _ _ _ _)
   | (with_reducible exact LeO.refl _)
   | (with_reducible exact LeO.none _)
   | (with_reducible refine LeO.ite ?_ ?_)
   | (with_reducible refine LeO.bind ?_ (fun _ => ?_))
   | exact ih0 _ _ _ _ _ _ _
   | exact ih1 _ _ _ _ _ _ _
   | exact ih2 _ _ _ _ _
   | exact yD.mono _ _ _ _ _ _
   | exact zo.mono _ _ _ _ _
   | exact zU.mono _ _ _
   | exact zg.mono _ _ _ _ _
   | exact zx.mono _
   | exact zP.mono _ _ _ _ _
   | exact LeO.none _
   | refine LeO.ite ?_ ?_
   | refine LeO.bind ?_ (fun _ => ?_)
theorem zO.mono : ∀ a0 a1 a2 a3 a4 k, LeO (zO.f k a0 a1 a2 a3 a4) (zO.f (k + 1) a0 a1 a2 a3 a4) := by
 intro a0 a1 a2 a3 a4 k
 obtain ⟨ih0, ih1, ih2⟩ := zO.mono_l k
 unfold zO.f
 repeat' first
   | (with_reducible exact ih0 _ _ _ _ _ _ _)
   | (with_reducible exact ih1 _ _ _ _ _ _ _)
   | (with_reducible exact ih2 _ _ _ _ _)
   | (with_reducible exact yD.mono _ _ _ _ _ _)
   | (with_reducible exact zo.mono _ _ _ _ _)
   | (with_reducible exact zU.mono _ _ _)
   | (with_reducible exact zg.mono _ _ _ _ _)
   | (with_reducible exact zx.mono _)
   | (with_reducible exact zP.mono _ _ _ _ _)
   | (with_reducible exact LeO.refl _)
   | (with_reducible exact LeO.none _)
   | (with_reducible refine LeO.ite ?_ ?_)
   | (with_reducible refine LeO.bind ?_ (fun _ => ?_))
   | exact ih0 _ _ _ _ _ _ _
   | exact ih1 _ _ _ _ _ _ _
   | exact ih2 _ _ _ _ _
   | exact yD.mono _ _ _ _ _ _
   | exact zo.mono _ _ _ _ _
   | exact zU.mono _ _ _
   | exact zg.mono _ _ _ _ _
   | exact zx.mono _
   | exact zP.mono _ _ _ _ _
   | exact LeO.none _
   | refine LeO.ite ?_ ?_
   | refine LeO.bind ?_ (fun _ => ?_)
theorem zO.other {V : World} {g i j : Nat} (v : Value) (h : i ≠ j) : (V.setCell ⟨g, i, none⟩ v).cell? ⟨g, j, none⟩ = V.cell? ⟨g, j, none⟩ := by
 apply World.cell?_setCell_other
 intro e
 injection e with _ e
 exact h e
theorem zO.same {V : World} {g i : Nat} (v u : Value) (h : V.cell? ⟨g, i, none⟩ = some u) : (V.setCell ⟨g, i, none⟩ v).cell? ⟨g, i, none⟩ = some v := by
 apply World.cell?_setCell_same
 exact h
set_option maxHeartbeats 8000000 in
set_option maxRecDepth 100000 in
theorem zO.calls (k : Nat) (a0_0 : Int) (a0_1 : Int) (A2 : Option Addr) (c2 : Nat) (l0_2 : List Int) (A3 : Option Addr) (c3 : Nat) (l0_3 : List (S61)) (a1 : Int) (r : Bool) (w : World) (hr2 : Kd.C (Kd.int .i64) w A2 l0_2.length l0_2) (hc2 : l0_2.length ≤ c2) (hr3 : Kd.C k61 w A3 l0_3.length l0_3) (hc3 : l0_3.length ≤ c3) (h : zO.f k a0_0 a0_1 l0_2 l0_3 a1 = some r) :
  Calls Try.prog 6 #[.agg #[.int .i64 a0_0, .int .i64 a0_1, .slice A2 l0_2.length c2, .slice A3 l0_3.length c3], .int .i64 a1] w fun e w' => e = .returned (.bool r) ∧ Below w.heap.size w w' := by
 unfold zO.f at h
 obtain ⟨⟨b1, b2, b3, b4⟩, hb, h⟩ := Option.bind_eq_some_iff.mp h
 obtain ⟨⟨d1, d2, d3, d4⟩, hd, h⟩ := Option.bind_eq_some_iff.mp h
 obtain ⟨⟨x5, x6⟩, hx, h⟩ := Option.bind_eq_some_iff.mp h
 obtain ⟨⟨f1, f2, f3, f4⟩, hf, h⟩ := Option.bind_eq_some_iff.mp h
 obtain ⟨⟨x7, x8⟩, hy, h⟩ := Option.bind_eq_some_iff.mp h
 obtain ⟨⟨x9, x10⟩, hz, h⟩ := Option.bind_eq_some_iff.mp h
 have HBB := zA.mk hb
 have HDD := zA.mk hd
 have HXX := zA.mk hx
 have HFF := zA.mk hf
 have HYY := zA.mk hy
 have HZZ := zA.mk hz
 have HH := zA.mk h
 have HR2 := zA.mk hr2
 have HC2 := zA.mk hc2
 have HR3 := zA.mk hr3
 have HC3 := zA.mk hc3
 have hu := Try.underlying25
 clear h hb hd hx hf hy hz hr2 hc2 hr3 hc3
 go_enter Try.func6, Try.ntmps6
 go_wp2_with fail
 refine (zg.calls k a0_0 a0_1 A2 c2 l0_2 A3 c3 l0_3 b1 b2 b3 b4 _ (Kd.C_alloc HR2.out _) HC2.out (Kd.C_alloc HR3.out _) HC3.out HBB.out).mono ?_
 rintro e w1 ⟨v2, v3, rfl, hR2, hN3, hb1⟩
 obtain ⟨B2, k2, e2⟩ := Kd.R_slice hR2
 subst e2
 obtain ⟨B3, k3, e3⟩ := Kd.N_slice hN3
 subst e3
 have blk := (hb1.block w.heap.size (by simp)).trans (yT _ _)
 have q0 := zG blk 0
 have q1 := zG blk 1
 have q2 := zG blk 2
 have q3 := zG blk 3
 have z0 := zF blk 0
 have z1 := zF blk 1
 have z2 := zF blk 2
 have z3 := zF blk 3
 have HB1 := zA.mk (zL (zD (Below.refl w.heap.size w) _) hb1)
 have HIL := zA.mk (Kd.R_reads' hR2).2.1
 have HPL := zA.mk (Kd.N_reads' hN3).2.1
 clear blk hb1
 go_wp2_with fail
 generalize hW2 : World.setCell (World.setCell (World.setCell (World.setCell w1 _ _) _ _) _ _) _ _ = W2
 have HBW : zA (Below w.heap.size w W2) := ⟨by rw [← hW2]; exact zE (zE (zE (zE HB1.out (Nat.le_refl _)) (Nat.le_refl _)) (Nat.le_refl _)) (Nat.le_refl _)⟩
 have c0 : W2.cell? ⟨w.heap.size, 0, none⟩ = some (.int .i64 b1) := by
  rw [← hW2]
  exact (zO.other _ (by decide)).trans ((zO.other _ (by decide)).trans ((zO.other _ (by decide)).trans (zO.same _ _ q0)))
 have c1 : W2.cell? ⟨w.heap.size, 1, none⟩ = some (.int .i64 b2) := by
  rw [← hW2]
  exact (zO.other _ (by decide)).trans ((zO.other _ (by decide)).trans (zO.same _ _ ((zO.other _ (by decide)).trans q1)))
 have c2' : W2.cell? ⟨w.heap.size, 2, none⟩ = some (.slice B2 b3.length k2) := by
  rw [← hW2]
  exact (zO.other _ (by decide)).trans (zO.same _ _ ((zO.other _ (by decide)).trans ((zO.other _ (by decide)).trans q2)))
 have c3' : W2.cell? ⟨w.heap.size, 3, none⟩ = some (.slice B3 b4.length k3) := by
  rw [← hW2]
  exact zO.same _ _ ((zO.other _ (by decide)).trans ((zO.other _ (by decide)).trans ((zO.other _ (by decide)).trans q3)))
 have hst : ∀ k : Nat, w.heap.size + 1 ≤ k → W2.heap[k]? = w1.heap[k]? := fun k hk => by
  rw [← hW2]
  exact (Below.heap_setCell _ _ _ _ (by show k ≠ w.heap.size; omega)).trans ((Below.heap_setCell _ _ _ _ (by show k ≠ w.heap.size; omega)).trans ((Below.heap_setCell _ _ _ _ (by show k ≠ w.heap.size; omega)).trans (Below.heap_setCell _ _ _ _ (by show k ≠ w.heap.size; omega))))
 have hsz : ∀ o : Obj, (w.alloc o).heap.size = w.heap.size + 1 := fun o => by simp
 have HI := zA.mk (Kd.F_now (Kd.F_step (Kd.R_F hR2) fun k hk _ => hst k (hsz _ ▸ hk)))
 have HP := zA.mk (Kd.F_now (Kd.F_step (Kd.N_F hN3) fun k hk _ => hst k (hsz _ ▸ hk.1)))
 have hgW : w.heap.size < W2.heap.size := World.block_lt_of_cell? _ _ c0
 clear hW2 hst hsz hR2 hN3 q0 q1 q2 q3 z0 z1 z2 z3 HB1
 refine (zg.calls k b1 b2 B2 k2 b3 B3 k3 b4 d1 d2 d3 d4 W2 HI.out HIL.out HP.out HPL.out HDD.out).mono ?_
 rintro e w3 ⟨v2, v3, rfl, hR2, hN3, hb3⟩
 obtain ⟨D2, m2, e2⟩ := Kd.R_slice hR2
 subst e2
 obtain ⟨D3, m3, e3⟩ := Kd.N_slice hN3
 subst e3
 go_wp2_with fail
 refine (zo.calls k d1 d2 D2 m2 d3 D3 m3 d4 x5 x6 w3 (Kd.R_reads' hR2).2.2 (Kd.R_reads' hR2).2.1 (Kd.N_reads' hN3).2.2 (Kd.N_reads' hN3).2.1 HXX.out).mono ?_
 rintro e w4 ⟨v5, rfl, hS5, hb4⟩
 obtain ⟨X5, n5, e5⟩ := Kd.S_slice hS5
 subst e5
 have HB4 := zA.mk (zL hb3 hb4)
 have HX5 := zA.mk (Kd.S_reads' hS5).2.2
 have HX5L := zA.mk (Kd.S_reads' hS5).2.1
 have C0 := zA.mk c0
 have C1 := zA.mk c1
 have C2 := zA.mk c2'
 have C3 := zA.mk c3'
 replace c0 := (HB4.out.cell (World.block_lt_of_cell? _ _ c0)).trans c0
 replace c1 := (HB4.out.cell (World.block_lt_of_cell? _ _ c1)).trans c1
 replace c2' := (HB4.out.cell (World.block_lt_of_cell? _ _ c2')).trans c2'
 replace c3' := (HB4.out.cell (World.block_lt_of_cell? _ _ c3')).trans c3'
 clear hR2 hN3 hb3 hb4 hS5
 go_wp2_with fail
 refine (zg.calls k b1 b2 B2 k2 b3 B3 k3 b4 f1 f2 f3 f4 w4 (Kd.C_below HI.out HB4.out) HIL.out (Kd.C_below HP.out HB4.out) HPL.out HFF.out).mono ?_
 rintro e w5 ⟨v2, v3, rfl, hR2, hN3, hb5⟩
 obtain ⟨F2, o2, e2⟩ := Kd.R_slice hR2
 subst e2
 obtain ⟨F3, o3, e3⟩ := Kd.N_slice hN3
 subst e3
 go_wp2_with fail
 refine (yD.calls k f1 f2 F2 o2 f3 F3 o3 f4 a1 x7 x8 w5 (Kd.R_reads' hR2).2.2 (Kd.R_reads' hR2).2.1 (Kd.N_reads' hN3).2.2 (Kd.N_reads' hN3).2.1 HYY.out).mono ?_
 rintro e w6 ⟨v7, rfl, hR7, hb6⟩
 obtain ⟨X7, n7, e7⟩ := Kd.R_slice hR7
 subst e7
 have HB6 := zA.mk (zL hb5 hb6)
 have HX7 := zA.mk (Kd.R_reads' hR7).2.2
 have HX7L := zA.mk (Kd.R_reads' hR7).2.1
 replace c0 := (HB6.out.cell (World.block_lt_of_cell? _ _ c0)).trans c0
 replace c1 := (HB6.out.cell (World.block_lt_of_cell? _ _ c1)).trans c1
 replace c2' := (HB6.out.cell (World.block_lt_of_cell? _ _ c2')).trans c2'
 replace c3' := (HB6.out.cell (World.block_lt_of_cell? _ _ c3')).trans c3'
 have HB46 := zA.mk (zL HB4.out HB6.out)
 clear hR2 hN3 hb5 hb6 hR7
 go_wp2_with fail
 refine (zP.calls k b1 b2 B2 k2 b3 B3 k3 b4 x9 x10 w6 (Kd.C_below HI.out HB46.out) HIL.out (Kd.C_below HP.out HB46.out) HPL.out HZZ.out).mono ?_
 rintro e w7 ⟨v9, rfl, hS9, hb7⟩
 obtain ⟨X9, n9, e9⟩ := Kd.S_slice hS9
 subst e9
 have HX9 := zA.mk (Kd.S_reads' hS9).2.2
 have HX9L := zA.mk (Kd.S_reads' hS9).2.1
 have HX7' := zA.mk (Kd.C_below HX7.out hb7)
 have HX5' := zA.mk (Kd.C_below HX5.out (zL HB6.out hb7))
 have HB7 := zA.mk (zL HBW.out (zL HB46.out hb7))
 clear c0 c1 c2' c3' C0 C1 C2 C3 HX7 HX5 HB46 HB6 HB4 HI HP hb7 hS9 HBW HZZ HYY HFF HXX HDD HBB
 have H := HH.out
 by_cases e1 : x6 = x10
 ·rw [if_pos e1] at H
  have e1b : (x6 != x10) = false := by rw [e1]; exact bne_self_eq_false _
  cases k with
  | zero => exact absurd H (by simp [zO.j0])
  | succ k =>
   rw [zO.j0] at H
   by_cases e2 : (x5.length : Int) = (x9.length : Int)
   ·have e2b : ((x5.length : Int) != (x9.length : Int)) = false := by rw [e2]; exact bne_self_eq_false _
    have e2c : (x5.length != x9.length) = false := by rw [Int.ofNat_inj.1 e2]; exact bne_self_eq_false _
    rw [e2b, if_neg Bool.false_ne_true] at H
    have H' := zA.mk H
    have HK1 := zA.mk (Nat.le_refl k)
    clear H HH e2 e1
    go_wp2
    clear e2b e2c e1b
    go_loopg [11] k (fun kq v11 wr => ∃ (x11 : Int), v11 = .int .i64 x11 ∧ zA (zO.l0 kq a1 x5 x7 x8 x9 x10 x11 = some r) ∧ zA (Below w7.heap.size w7 wr))
    case atStart => exact ⟨0, rfl, H', ⟨Below.refl _ _⟩⟩
    case round =>
     clear H'
     obtain ⟨x11, rfl, HA, HB⟩ := hrel
     cases gk with
     | zero => exact absurd HA.out (by simp [zO.l0])
     | succ k1 =>
      have H := HA.out
      clear HA
      simp only [zO.l0] at H
      by_cases g1 : x11 < (x9.length : Int)
      ·rw [if_pos g1] at H
       have key : 0 ≤ x11 ∧ x11 < (x5.length : Int) := by
        by_cases g2 : 0 ≤ x11
        ·rw [if_pos g2] at H
         by_cases g3 : x11 < (x5.length : Int)
         ·exact ⟨g2, g3⟩
         ·rw [if_neg g3] at H; cases H
        ·rw [if_neg g2] at H; cases H
       obtain ⟨g2, g3⟩ := key
       rw [if_pos g2, if_pos g3] at H
       obtain ⟨t, ht, H⟩ := Option.bind_eq_some_iff.mp H
       have HT := zA.mk ht
       have H' := zA.mk H
       obtain ⟨ad5, A5, q5, y5, hy5, hl5, hr5⟩ := ZP HX5'.out x11 g2 g3
       cases y5
       obtain ⟨ad9, A9, q9, y9, hy9, hl9, hr9⟩ := ZP HX9.out x11 g2 g1
       cases y9
       replace hy5 := (HB.out.cell (World.block_lt_of_cell? _ _ hy5)).trans hy5
       replace hy9 := (HB.out.cell (World.block_lt_of_cell? _ _ hy9)).trans hy9
       have HL5 := zA.mk hl5
       have HR5 := zA.mk hr5
       have HL9 := zA.mk hl9
       have HR9 := zA.mk hr9
       have g1b : decide (x11 < (x9.length : Int)) = true := decide_eq_true g1
       replace g2 := eq_true g2
       replace g3 := eq_true g3
       replace g1 := eq_true g1
       clear H ht hl5 hr5 hl9 hr9
       go_wp2
       go_still_tail 8, (by kernel_rfl)
       go_wp2_with fail
       refine (zU.calls k1 A5 q5 _ A9 q9 _ t _ (Kd.C_drew (Kd.C_below HR5.out HB.out)) HL5.out (Kd.C_drew (Kd.C_below HR9.out HB.out)) HL9.out HT.out).mono ?_
       rintro e w8 ⟨rfl, ⟨nd, rfl⟩⟩
       have H := H'.out
       cases t
       ·rw [if_neg Bool.false_ne_true] at H
        obtain rfl := Option.some.inj H
        clear H
        go_wp2
        go_ret
        exact ⟨rfl, zL HB7.out (by repeat (first | exact HB.out | apply zB | apply zC))⟩
       ·rw [if_pos rfl] at H
        have H' := zA.mk H
        clear H
        go_wp2
        go_roundg k1
        case measure => omega
        case rel => exact ⟨_, rfl, H', ⟨by repeat (first | exact HB.out | apply zB | apply zC)⟩⟩
      ·rw [if_neg g1] at H
       have g1b : decide (x11 < (x9.length : Int)) = false := decide_eq_false g1
       clear g1
       by_cases t1 : x10 = 0
       ·rw [if_pos t1] at H
        have t1b : (x10 != 0) = false := by rw [t1]; exact bne_self_eq_false _
        have key : ∃ g, zO.j2 k1 a1 x7 x8 x9 g = some r ∧ ((a1 < 0 ∧ g = true) ∨ (¬ a1 < 0 ∧ g = decide (a1 ≥ (x9.length : Int)))) := by
         by_cases t2 : a1 < 0
         ·rw [if_pos t2] at H; exact ⟨_, H, .inl ⟨t2, rfl⟩⟩
         ·rw [if_neg t2] at H; exact ⟨_, H, .inr ⟨t2, rfl⟩⟩
        obtain ⟨g, H, hg⟩ := key
        cases k1 with
        | zero => exact absurd H (by simp [zO.j2])
        | succ k2 =>
         rw [zO.j2] at H
         have bad : g = true → zA (g = true) := fun h => ⟨h⟩
         cases g
         ·rw [if_neg Bool.false_ne_true] at H
          obtain ⟨t2, t3⟩ : ¬ a1 < 0 ∧ ¬ a1 ≥ (x9.length : Int) := by
           rcases hg with ⟨_, h⟩ | ⟨h, h2⟩
           ·cases h
           ·exact ⟨h, of_decide_eq_false h2.symm⟩
          have t2b : decide (a1 < 0) = false := decide_eq_false t2
          have t3b : decide ((x9.length : Int) ≤ a1) = false := decide_eq_false t3
          by_cases s1 : x8 = 0
          ·rw [if_pos s1, if_pos (show 0 ≤ a1 by omega), if_pos (show a1 < (x9.length : Int) by omega)] at H
           have s1b : (x8 == 0) = true := beq_iff_eq.mpr s1
           obtain ⟨t, ht, H⟩ := Option.bind_eq_some_iff.mp H
           have HT := zA.mk ht
           have H' := zA.mk H
           have g2 : 0 ≤ a1 := by omega
           have g3 : a1 < (x9.length : Int) := by omega
           obtain ⟨ad9, A9, q9, y9, hy9, hl9, hr9⟩ := ZP HX9.out a1 g2 g3
           cases y9
           replace hy9 := (HB.out.cell (World.block_lt_of_cell? _ _ hy9)).trans hy9
           have HL9 := zA.mk hl9
           have HR9 := zA.mk hr9
           replace g2 := eq_true g2
           replace g3 := eq_true g3
           clear H ht hl9 hr9 hg bad t1 t2 t3 s1
           go_wp2_with fail
           refine (zU.calls k2 X7 n7 x7 A9 q9 _ t _ (Kd.C_below HX7'.out HB.out) HX7L.out (Kd.C_below HR9.out HB.out) HL9.out HT.out).mono ?_
           rintro e w8 ⟨rfl, ⟨nd, rfl⟩⟩
           have H := H'.out
           cases t
           ·rw [if_neg Bool.false_ne_true] at H
            obtain rfl := Option.some.inj H
            clear H
            go_wp2
            go_ret
            exact ⟨rfl, zL HB7.out (by repeat (first | exact HB.out | apply zB | apply zC))⟩
           ·rw [if_pos rfl] at H
            obtain ⟨t, ht, H⟩ := Option.bind_eq_some_iff.mp H
            obtain rfl := Option.some.inj H
            have HT2 := zA.mk ht
            clear H ht
            go_wp2_with fail
            refine (zx.calls _ t _ HT2.out).mono ?_
            rintro e w9 ⟨rfl, hb9⟩
            go_wp2
            go_ret
            exact ⟨rfl, zL HB7.out (zL (by repeat (first | exact HB.out | apply zB | apply zC)) hb9)⟩
          ·rw [if_neg s1] at H
           have s1b : (x8 == 0) = false := beq_eq_false_iff_ne.mpr s1
           obtain rfl := Option.some.inj H
           clear H hg bad t1 t2 t3 s1
           go_wp2
           go_ret
           exact ⟨rfl, zL HB7.out HB.out⟩
         ·rw [if_pos rfl] at H
          have hg2 : a1 < 0 ∨ (¬ a1 < 0 ∧ (x9.length : Int) ≤ a1) := by
           rcases hg with ⟨h, _⟩ | ⟨h, h2⟩
           ·exact .inl h
           ·exact .inr ⟨h, of_decide_eq_true h2.symm⟩
          clear hg bad
          by_cases s1 : x8 = 3
          ·rw [if_pos s1] at H
           have s1b : (x8 == 3) = true := beq_iff_eq.mpr s1
           clear s1 t1
           rcases hg2 with t2 | ⟨t2, t3⟩
           ·have t2b : decide (a1 < 0) = true := decide_eq_true t2
            clear t2
            by_cases s2 : (x7.length : Int) = 0
            ·rw [if_pos s2] at H
             have s2b : ((x7.length : Int) == 0) = true := beq_iff_eq.mpr s2
             have s2c : (x7.length == 0) = true := beq_iff_eq.mpr (by omega)
             have s2d : x7 = [] := List.length_eq_zero_iff.mp (by omega)
             obtain ⟨t, ht, H⟩ := Option.bind_eq_some_iff.mp H
             obtain rfl := Option.some.inj H
             have HT := zA.mk ht
             clear H ht s2 s2d
             go_wp2_with fail
             refine (zx.calls _ t _ HT.out).mono ?_
             rintro e w9 ⟨rfl, hb9⟩
             go_wp2
             go_ret
             exact ⟨rfl, zL HB7.out (zL HB.out hb9)⟩
            ·rw [if_neg s2] at H
             have s2b : ((x7.length : Int) == 0) = false := beq_eq_false_iff_ne.mpr s2
             have s2c : (x7.length == 0) = false := beq_eq_false_iff_ne.mpr (by omega)
             obtain rfl := Option.some.inj H
             clear H s2
             go_wp2
             go_ret
             exact ⟨rfl, zL HB7.out HB.out⟩
           ·have t2b : decide (a1 < 0) = false := decide_eq_false t2
            have t3b : decide ((x9.length : Int) ≤ a1) = true := decide_eq_true t3
            clear t2 t3
            by_cases s2 : (x7.length : Int) = 0
            ·rw [if_pos s2] at H
             have s2b : ((x7.length : Int) == 0) = true := beq_iff_eq.mpr s2
             have s2c : (x7.length == 0) = true := beq_iff_eq.mpr (by omega)
             have s2d : x7 = [] := List.length_eq_zero_iff.mp (by omega)
             obtain ⟨t, ht, H⟩ := Option.bind_eq_some_iff.mp H
             obtain rfl := Option.some.inj H
             have HT := zA.mk ht
             clear H ht s2 s2d
             go_wp2_with fail
             refine (zx.calls _ t _ HT.out).mono ?_
             rintro e w9 ⟨rfl, hb9⟩
             go_wp2
             go_ret
             exact ⟨rfl, zL HB7.out (zL HB.out hb9)⟩
            ·rw [if_neg s2] at H
             have s2b : ((x7.length : Int) == 0) = false := beq_eq_false_iff_ne.mpr s2
             have s2c : (x7.length == 0) = false := beq_eq_false_iff_ne.mpr (by omega)
             obtain rfl := Option.some.inj H
             clear H s2
             go_wp2
             go_ret
             exact ⟨rfl, zL HB7.out HB.out⟩
          ·rw [if_neg s1] at H
           have s1b : (x8 == 3) = false := beq_eq_false_iff_ne.mpr s1
           obtain rfl := Option.some.inj H
           clear s1 t1 H
           rcases hg2 with t2 | ⟨t2, t3⟩
           ·have t2b : decide (a1 < 0) = true := decide_eq_true t2
            clear t2
            go_wp2
            go_ret
            exact ⟨rfl, zL HB7.out HB.out⟩
           ·have t2b : decide (a1 < 0) = false := decide_eq_false t2
            have t3b : decide ((x9.length : Int) ≤ a1) = true := decide_eq_true t3
            clear t2 t3
            go_wp2
            go_ret
            exact ⟨rfl, zL HB7.out HB.out⟩
       ·rw [if_neg t1] at H
        have t1b : (x10 != 0) = true := bne_iff_ne.mpr t1
        by_cases s1 : x8 = x10
        ·rw [if_pos s1] at H
         have s1b : (x8 == x10) = true := beq_iff_eq.mpr s1
         clear s1 t1
         by_cases s2 : (x7.length : Int) = 0
         ·rw [if_pos s2] at H
          have s2b : ((x7.length : Int) == 0) = true := beq_iff_eq.mpr s2
          have s2c : (x7.length == 0) = true := beq_iff_eq.mpr (by omega)
          have s2d : x7 = [] := List.length_eq_zero_iff.mp (by omega)
          obtain ⟨t, ht, H⟩ := Option.bind_eq_some_iff.mp H
          obtain rfl := Option.some.inj H
          have HT := zA.mk ht
          clear H ht s2 s2d
          go_wp2_with fail
          refine (zx.calls _ t _ HT.out).mono ?_
          rintro e w9 ⟨rfl, hb9⟩
          go_wp2
          go_ret
          exact ⟨rfl, zL HB7.out (zL HB.out hb9)⟩
         ·rw [if_neg s2] at H
          have s2b : ((x7.length : Int) == 0) = false := beq_eq_false_iff_ne.mpr s2
          have s2c : (x7.length == 0) = false := beq_eq_false_iff_ne.mpr (by omega)
          obtain rfl := Option.some.inj H
          clear H s2
          go_wp2
          go_ret
          exact ⟨rfl, zL HB7.out HB.out⟩
        ·rw [if_neg s1] at H
         have s1b : (x8 == x10) = false := beq_eq_false_iff_ne.mpr s1
         obtain rfl := Option.some.inj H
         clear H s1 t1
         go_wp2
         go_ret
         exact ⟨rfl, zL HB7.out HB.out⟩
   ·have e2b : ((x5.length : Int) != (x9.length : Int)) = true := bne_iff_ne.mpr e2
    have e2c : (x5.length != x9.length) = true := bne_iff_ne.mpr (fun h => e2 (by rw [h]))
    rw [e2b, if_pos rfl] at H
    obtain rfl := Option.some.inj H
    clear H HH e2 e1
    go_wp2
    go_ret
    exact ⟨rfl, HB7.out⟩
 ·rw [if_neg e1] at H
  have e1b : (x6 != x10) = true := bne_iff_ne.mpr e1
  cases k with
  | zero => exact absurd H (by simp [zO.j0])
  | succ k =>
   rw [zO.j0, if_pos rfl] at H
   obtain rfl := Option.some.inj H
   clear H HH e1
   go_wp2
   go_ret
   exact ⟨rfl, HB7.out⟩
def W71 (x : S71) : Prop := (True) ∧ (Lit.int .i64 x.f1).wf = true
def W61 (x : S61) : Prop := (Lit.int .i64 x.f0).wf = true ∧ ((x.f1.length ≤ maxLen ∧ ∀ x_ ∈ x.f1, W71 x_))
def W25 (x : S25) : Prop := (Lit.int .i64 x.f0).wf = true ∧ (Lit.int .i64 x.f1).wf = true ∧ ((x.f2.length ≤ maxLen ∧ ∀ x_ ∈ x.f2, (Lit.int .i64 x_).wf = true)) ∧ ((x.f3.length ≤ maxLen ∧ ∀ x_ ∈ x.f3, W61 x_))
def zO.Pure : Prop := ∀ (a0_0 : Int) (a0_1 : Int) (l0_2 : List Int) (l0_3 : List (S61)) (a1 : Int), W25 ⟨a0_0, a0_1, l0_2, l0_3⟩ → (Lit.int .i64 a1).wf = true → ∃ k, zO.f k a0_0 a0_1 l0_2 l0_3 a1 = some true
end Go.Proofs.Ytnihlieggknpaaa.HFollowOf
