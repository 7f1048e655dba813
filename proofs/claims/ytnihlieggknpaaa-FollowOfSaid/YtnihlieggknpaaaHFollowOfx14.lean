-- Written by plus.py for this claim.
import Derived.Test.YtnihlieggknpaaaHFollowOfx0
import Derived.Test.YtnihlieggknpaaaHFollowOfx1
import Derived.Test.YtnihlieggknpaaaHFollowOfx11
import Derived.Test.YtnihlieggknpaaaHFollowOfx12
import Derived.Test.YtnihlieggknpaaaHFollowOfx13
namespace Go.Proofs.Ytnihlieggknpaaa.HFollowOf
open Go.RowKit Go.Proofs.YtnihlieggknpaaaW.PrintWords Go.Proofs.YtnihlieggknpaaaW.PrintLast Go.Proofs.YtnihlieggknpaaaW.PrintMore
attribute [local go_sem] yj yk yw yx ya yb yl ym   -- for this text's walks alone
set_option linter.unusedVariables false
set_option linter.unusedSimpArgs false
mutual
def zR.l0 : Nat → Int → Int → List (List ByteArray) → Int → Int → Int → List Int → List (S61) → Option ((List (List ByteArray)) × Bool)
 | 0, _, _, _, _, _, _, _, _ => none
 | k + 1, x1, x2, x8, x9, x337000, x337001, x337002, x337003 => if x9 < (x337002.length : Int) then (if x8.length < 5864062014805 then (zR.l0 k x1 x2 (x8 ++ [([] : List ByteArray)]) (wrap64 (x9 + 1)) x337000 x337001 x337002 x337003) else (none)) else (zR.l1 k x1 x2 x8 true x337000 x337001 x337002 x337003)
def zR.l1 : Nat → Int → Int → List (List ByteArray) → Bool → Int → Int → List Int → List (S61) → Option ((List (List ByteArray)) × Bool)
 | 0, _, _, _, _, _, _, _, _ => none
 | k + 1, x1, x2, x8, x10, x337000, x337001, x337002, x337003 => if x10 = true then (zR.l2 k x1 x2 x8 false 0 x337000 x337001 x337002 x337003) else (some (x8, true))
def zR.l2 : Nat → Int → Int → List (List ByteArray) → Bool → Int → Int → Int → List Int → List (S61) → Option ((List (List ByteArray)) × Bool)
 | 0, _, _, _, _, _, _, _, _, _ => none
 | k + 1, x1, x2, x8, x10, x11, x337000, x337001, x337002, x337003 => if x11 < (x337003.length : Int) then (if 0 ≤ x11 then ((za.f k ((zM x337003 x11).f1) x1 x8 x2).bind fun bt344 => (if bt344.2 = true then (if 0 ≤ ((zM x337003 x11).f0) then (if ((zM x337003 x11).f0) < (x8.length : Int) then ((zd.f k (zm x8 ((zM x337003 x11).f0)) bt344.1).bind fun t350 => (if (t350.length : Int) > x2 then (some (([] : List (List ByteArray)), false)) else (if (t350.length : Int) > ((zm x8 ((zM x337003 x11).f0)).length : Int) then (zR.l2 k x1 x2 (x8.set (((zM x337003 x11).f0) : Int).toNat t350) true (wrap64 (x11 + 1)) x337000 x337001 x337002 x337003) else (zR.l2 k x1 x2 x8 x10 (wrap64 (x11 + 1)) x337000 x337001 x337002 x337003)))) else (none)) else (none)) else (some (([] : List (List ByteArray)), false)))) else (none)) else (zR.l1 k x1 x2 x8 x10 x337000 x337001 x337002 x337003)
end
def zR.f (k : Nat) (a0_0 : Int) (a0_1 : Int) (l0_2 : List Int) (l0_3 : List (S61)) (a1 : Int) (a2 : Int) : Option ((List (List ByteArray)) × Bool) := zR.l0 k a1 a2 (([] : List (List ByteArray))) 0 a0_0 a0_1 l0_2 l0_3
theorem zR.mono_l : ∀ k, (∀ y0 y1 y2 y3 y4 y5 y6 y7, LeO (zR.l0 k y0 y1 y2 y3 y4 y5 y6 y7) (zR.l0 (k + 1) y0 y1 y2 y3 y4 y5 y6 y7)) ∧ (∀ y0 y1 y2 y3 y4 y5 y6 y7, LeO (zR.l1 k y0 y1 y2 y3 y4 y5 y6 y7) (zR.l1 (k + 1) y0 y1 y2 y3 y4 y5 y6 y7)) ∧ (∀ y0 y1 y2 y3 y4 y5 y6 y7 y8, LeO (zR.l2 k y0 y1 y2 y3 y4 y5 y6 y7 y8) (zR.l2 (k + 1) y0 y1 y2 y3 y4 y5 y6 y7 y8))
 | 0 => ⟨fun _ _ _ _ _ _ _ _ r h => by simp [zR.l0] at h, fun _ _ _ _ _ _ _ _ r h => by simp [zR.l1] at h, fun _ _ _ _ _ _ _ _ _ r h => by simp [zR.l2] at h⟩
 | k + 1 => by
  obtain ⟨ih0, ih1, ih2⟩ := zR.mono_l k
  refine ⟨?_, ?_, ?_⟩
  ·intro y0 y1 y2 y3 y4 y5 y6 y7
   unfold zR.l0
   repeat' first
   | (with_reducible exact ih0 _ _ _ _ _ _ _ _)
   | (with_reducible exact ih1 _ _ _ _ _ _ _ _)
   | (with_reducible exact ih2 _ _ _ _ _ _ _ _ _)
   | (with_reducible exact zd.mono _ _ _)
   | (with_reducible exact za.mono _ _ _ _ _)
   | (with_reducible exact LeO.refl _)
   | (with_reducible exact LeO.none _)
   | (with_reducible refine LeO.ite ?_ ?_)
   | (with_reducible refine LeO.bind ?_ (fun _ => ?_))
   | exact ih0 _ _ _ _ _ _ _ _
   | exact ih1 _ _ _ _ _ _ _ _
   | exact ih2 _ _ _ _ _ _ _ _ _
   | exact zd.mono _ _ _
   | exact za.mono _ _ _ _ _
   | exact LeO.none _
   | refine LeO.ite ?_ ?_
   | refine LeO.bind ?_ (fun _ => ?_)
  ·intro y0 y1 y2 y3 y4 y5 y6 y7
   unfold zR.l1
   repeat' first
   | (with_reducible exact ih0 _ _ _ _ _ _ _ _)
   | (with_reducible exact ih1 _ _ _ _ _ _ _ _)
   | (with_reducible exact ih2 _ _ _ _ _ _ _ _ _)
   | (with_reducible exact zd.mono _ _ _)
   | (with_reducible exact za.mono _ _ _ _ _)
   | (with_reducible exact LeO.refl _)
   | (with_reducible exact LeO.none _)
   | (with_reducible refine LeO.ite ?_ ?_)
   | (with_reducible refine LeO.bind ?_ (fun _ => ?_))
   | exact ih0 _ _ _ _ _ _ _ _
   | exact ih1 _ _ _ _ _ _ _ _
   | exact ih2 _ _ _ _ _ _ _ _ _
   | exact zd.mono _ _ _
   | exact za.mono _ _ _ _ _
   | exact LeO.none _
   | refine LeO.ite ?_ ?_
   | refine LeO.bind ?_ (fun _ => ?_)
  ·intro y0 y1 y2 y3 y4 y5 y6 y7 y8
   unfold zR.l2
   repeat' first
   | (with_reducible exact ih0 _ _ _ _ _ _ _ _)
   | (with_reducible exact ih1 _ _ _ _ _ _ _ _)
   | (with_reducible exact ih2 _ _ _ _ _ _ _ _ _)
   | (with_reducible exact zd.mono _ _ _)
   | (with_reducible exact za.mono _ _ _ _ _)
   | (with_reducible exact LeO.refl _)
   | (with_reducible exact LeO.none _)
   | (with_reducible refine LeO.ite ?_ ?_)
   | (with_reducible refine LeO.bind ?_ (fun _ => ?_))
   | exact ih0 _ _ _ _ _ _ _ _
   | exact ih1 _ _ _ _ _ _ _ _
   | exact ih2 _ _ _ _ _ _ _ _ _
   | exact zd.mono _ _ _
   | exact za.mono _ _ _ _ _
   | exact LeO.none _
   | refine LeO.ite ?_ ?_
   | refine LeO.bind ?_ (fun _ => ?_)
theorem zR.mono : ∀ a0 a1 a2 a3 a4 a5 k, LeO (zR.f k a0 a1 a2 a3 a4 a5) (zR.f (k + 1) a0 a1 a2 a3 a4 a5) := by
 intro a0 a1 a2 a3 a4 a5 k
 obtain ⟨ih0, ih1, ih2⟩ := zR.mono_l k
 unfold zR.f
 repeat' first
   | (with_reducible exact ih0 _ _ _ _ _ _ _ _)
   | (with_reducible exact ih1 _ _ _ _ _ _ _ _)
   | (with_reducible exact ih2 _ _ _ _ _ _ _ _ _)
   | (with_reducible exact zd.mono _ _ _)
   | (with_reducible exact za.mono _ _ _ _ _)
   | (with_reducible exact LeO.refl _)
   | (with_reducible exact LeO.none _)
   | (with_reducible refine LeO.ite ?_ ?_)
   | (with_reducible refine LeO.bind ?_ (fun _ => ?_))
   | exact ih0 _ _ _ _ _ _ _ _
   | exact ih1 _ _ _ _ _ _ _ _
   | exact ih2 _ _ _ _ _ _ _ _ _
   | exact zd.mono _ _ _
   | exact za.mono _ _ _ _ _
   | exact LeO.none _
   | refine LeO.ite ?_ ?_
   | refine LeO.bind ?_ (fun _ => ?_)
set_option maxHeartbeats 8000000 in
set_option maxRecDepth 100000 in
theorem zR.calls (k : Nat) (a0_0 : Int) (a0_1 : Int) (A0_2 : Option Addr) (c0_2 : Nat) (l0_2 : List Int) (A0_3 : Option Addr) (c0_3 : Nat) (l0_3 : List (S61)) (a1 : Int) (a2 : Int) (r1 : List (List ByteArray)) (r2 : Bool) (w : World) (hr0_2 : Kd.C (Kd.int .i64) w A0_2 l0_2.length l0_2) (hc0_2 : l0_2.length ≤ c0_2) (hr0_3 : Kd.C k61 w A0_3 l0_3.length l0_3) (hc0_3 : l0_3.length ≤ c0_3) (h : zR.f k a0_0 a0_1 l0_2 l0_3 a1 a2 = some (r1, r2)) :
  Calls Try.prog 81 #[.agg #[.int .i64 a0_0, .int .i64 a0_1, .slice A0_2 l0_2.length c0_2, .slice A0_3 l0_3.length c0_3], .int .i64 a1, .int .i64 a2] w fun e w' => ∃ v0_ : Value, e = .returned (.tuple #[v0_, .bool r2]) ∧ Kd.S (Kd.slice 9 Kd.string) 27 w' w.heap.size (fun _ => True) v0_ r1 ∧ Below w.heap.size w w' := by
 have hu25 := Try.underlying25
 have HR0_2 := zA.mk hr0_2
 have HC0_2 := zA.mk hc0_2
 clear hr0_2 hc0_2
 have HR0_3 := zA.mk hr0_3
 have HC0_3 := zA.mk hc0_3
 clear hr0_3 hc0_3
 have HB := zA.mk (Below.refl w.heap.size w)
 have H : (zR.l0 k a1 a2 (([] : List (List ByteArray))) 0 a0_0 a0_1 l0_2 l0_3) = some (r1, r2) := h
 clear h
 obtain ⟨y337, hy337⟩ : ∃ y_ : List (List ByteArray), y_ = (([] : List (List ByteArray))) := ⟨_, rfl⟩
 replace H : (zR.l0 k a1 a2 y337 0 a0_0 a0_1 l0_2 l0_3) = some (r1, r2) := by first | (rw [hy337]; with_reducible exact H) | (have H2_ := (Option.bind_some _ _).symm.trans H; rw [hy337]; with_reducible exact H2_) | (have H2_ := (Option.bind_some _ _).symm.trans H; with_reducible exact H2_) | with_reducible exact H | (rw [hy337]; exact H) | exact H
 have Ny337 := zA.mk hy337
 clear hy337
 have H' := zA.mk H
 clear H
 go_enter Try.func81, Try.ntmps81
 go_wp2_with (first | ((with_reducible refine zr (N := 3) rfl ?_); refine zz ?hg (N := 3) ?hd (cs := #[.int .i64 a0_0, .int .i64 a0_1, .slice A0_2 l0_2.length c0_2, .slice A0_3 l0_3.length c0_3]) (t := 25) ?hr ?_; (case hd => rfl); (case hg => rfl); (case hr => first | (go_simp; done) | (go_simp; rfl)); intro gb336 hg w4 hbox hb; have n0_ := zA.mk (zL (by repeat (first | (with_reducible first | exact HB.out | apply zD | apply zB | apply zC) | exact HB.out)) hb); have n1_ := zA.mk (hbox); have n2_ := zA.mk ((by rw [hg]; exact (zN (by repeat (first | (with_reducible first | exact HB.out | apply zD | apply zB | apply zC) | exact HB.out))) : w.heap.size ≤ gb336)); have n3_ := zA.mk ((by rw [hg]; exact (zN (by repeat (first | (with_reducible first | exact HB.out | apply zD | apply zB | apply zC) | exact HB.out))) : w.heap.size ≤ gb336)); clear HB; have HB := n0_; have BK336 := n1_; have GW336 := n2_; have GE336 := n3_; clear n0_ n1_ n2_ n3_; clear hb hbox hg) | ((with_reducible refine zr (N := 16) rfl ?_); refine Kd.S_lit (Kd.slice 9 Kd.string) _ 27 ?hg (N := 16) ?hd (xs := ([] : List (List ByteArray))) (inner := []) (ok := fun _ => True) (okp := fun _ => True) ?hr ?hp (fun _ hk => hk) trivial (Below.refl _ _) (Nat.le_refl _) (by simp) ?_; (case hd => rfl); (case hg => rfl); (case hr => first | (go_simp; done) | (go_simp; rfl)); (case hp => exact (Reps.none _ _)); intro v338 w5 ho6 hb hg_ hnew_; clear hg_ hnew_; (first | rw [← Ny337.out] at ho6 | (simp only [Int.reduceToNat] at ho6; rw [← Ny337.out] at ho6)); have n0_ := zA.mk (Kd.S_lower ho6 (zN (by repeat (first | (with_reducible first | exact HB.out | apply zD | apply zB | apply zC | refine zE ?_ GE336.out) | exact HB.out)))); have n1_ := zA.mk (zn (g := gb336) (o := .cells #[.int .i64 a0_0, .int .i64 a0_1, .slice A0_2 l0_2.length c0_2, .slice A0_3 l0_3.length c0_3] 25 (0, 0)) (by (with_reducible repeat (first | refine zI ?_ _ | refine zJ ?_ | refine zH ?_ _)); exact BK336.out) hb); have n2_ := zA.mk (zL (by repeat (first | (with_reducible first | exact HB.out | apply zD | apply zB | apply zC | refine zE ?_ GE336.out) | exact HB.out)) hb); clear BK336; clear HB; have HO339 := n0_; have BK336 := n1_; have HB := n2_; clear n0_ n1_ n2_; clear hb ho6))
 go_loopg [8, 9] k (fun kq v8 v9 w' => ∃ (x8_1 : List (List ByteArray)) (x9_1 : Int), v9 = .int .i64 x9_1 ∧ zA (zR.l0 kq a1 a2 x8_1 x9_1 a0_0 a0_1 l0_2 l0_3 = some (r1, r2)) ∧ zA (kq ≤ k) ∧ zA (Kd.S (Kd.slice 9 Kd.string) 27 w' w.heap.size (fun _ => True) v8 x8_1) ∧ zA (w'.heap[gb336]? = some (.cells #[.int .i64 a0_0, .int .i64 a0_1, (.slice A0_2 l0_2.length c0_2), (.slice A0_3 l0_3.length c0_3)] 25 (0, 0))) ∧ zA (Below w.heap.size w w'))
 case atStart => exact ⟨(y337), (0), (by first | rfl | (simp; done) | (simp [*]; done)), H', ⟨Nat.le_refl _⟩, ⟨by (with_reducible repeat (first | apply Kd.S_alloc | apply Kd.S_drewN | apply Kd.S_drew)); exact HO339.out⟩, ⟨by (with_reducible repeat (first | refine zI ?_ _ | refine zJ ?_ | refine zH ?_ _)); exact BK336.out⟩, ⟨by repeat (first | (with_reducible first | exact HB.out | apply zD | apply zB | apply zC | refine zE ?_ GE336.out) | exact HB.out)⟩⟩
 case round =>
  clear H'
  try clear p2
  obtain ⟨x8_1, x9_1, rfl, HA, HK1, HO_8, BK336, HB⟩ := hrel
  cases gk with
  | zero => exact absurd HA.out (by simp [zR.l0])
  | succ k1 =>
   have H := HA.out
   clear HA
   simp only [zR.l0] at H
   by_cases c7 : x9_1 < (l0_2.length : Int)
   ·rw [if_pos c7] at H
    have c7b0 : decide (x9_1 < (l0_2.length : Int)) = true := decide_eq_true c7
    clear c7
    by_cases c8 : x8_1.length < 5864062014805
    ·rw [if_pos c8] at H
     have LMc8 := zA.mk c8
     clear c8
     obtain ⟨y340, hy340⟩ : ∃ y_ : List (List ByteArray), y_ = (x8_1 ++ [([] : List ByteArray)]) := ⟨_, rfl⟩
     replace H : (zR.l0 k1 a1 a2 y340 (wrap64 (x9_1 + 1)) a0_0 a0_1 l0_2 l0_3) = some (r1, r2) := by first | (rw [hy340]; with_reducible exact H) | (have H2_ := (Option.bind_some _ _).symm.trans H; rw [hy340]; with_reducible exact H2_) | (have H2_ := (Option.bind_some _ _).symm.trans H; with_reducible exact H2_) | with_reducible exact H | (rw [hy340]; exact H) | exact H
     have Ny340 := zA.mk hy340
     clear hy340
     have H' := zA.mk H
     clear H
     have hcz9_0 : wr.cell? ⟨gb336, 0, none⟩ = some (.int .i64 a0_0) := (zG BK336.out 0).trans rfl
     have hcz9_1 : wr.cell? ⟨gb336, 1, none⟩ = some (.int .i64 a0_1) := (zG BK336.out 1).trans rfl
     have hcz9_2 : wr.cell? ⟨gb336, 2, none⟩ = some (.slice A0_2 l0_2.length c0_2) := (zG BK336.out 2).trans rfl
     have hcz9_3 : wr.cell? ⟨gb336, 3, none⟩ = some (.slice A0_3 l0_3.length c0_3) := (zG BK336.out 3).trans rfl
     have hfz9_0 := zF BK336.out 0
     have hfz9_1 := zF BK336.out 1
     have hfz9_2 := zF BK336.out 2
     have hfz9_3 := zF BK336.out 3
     go_wp2_with (first | ((with_reducible refine ZT (b := .append) (xs := #[.tmp 24, .tmp 25]) rfl ?_); at_builtin; refine Kd.S_append (Kd.slice 9 Kd.string) (w0 := w) w.heap.size rfl (.tmp 24) (.tmp 25) 37 27 (.slice none 0 0) 24 rfl Try.underlying37 info27 rfl (by decide) (by omega) u8 x8_1 ([] : List ByteArray) [.slice none 0 0] (fun _ => True) (fun _ => False) rfl rfl ?aP (fun k_ hk_ => hk_.elim) ?aF ?aO ?aB ?aS ?aL ?_; (case aP => exact Kd.M_row (Kd.R_nil _ _ _ _ _)); (case aB => exact (by repeat (first | (with_reducible first | exact HB.out | apply zD | apply zB | apply zC | refine zE ?_ GE336.out) | exact HB.out))); (case aF => exact (fun _ _ => trivial)); (case aO => exact (by (with_reducible repeat (first | apply Kd.S_alloc | apply Kd.S_drewN | apply Kd.S_drew)); exact Kd.S_mono HO_8.out (fun k_ hk => ⟨trivial, fun e_ => e_⟩))); (case aS => exact (zN (by repeat (first | (with_reducible first | exact HB.out | apply zD | apply zB | apply zC | refine zE ?_ GE336.out) | exact HB.out)))); (case aL => have := LMc8.out; omega); intro v341 w10 ho hb hg hat; rw [← Ny340.out] at ho; have n0_ := zA.mk (yv (g := gb336) (o := .cells #[.int .i64 a0_0, .int .i64 a0_1, .slice A0_2 l0_2.length c0_2, .slice A0_3 l0_3.length c0_3] 25 (0, 0)) (by (with_reducible repeat (first | refine zI ?_ _ | refine zJ ?_ | refine zH ?_ _)); exact BK336.out) hg (Kd.S_ne HO_8.out BK336.out (by decide))); have n1_ := zA.mk (hb); have n2_ := zA.mk (ho); clear BK336; clear HB; clear HO_8; have BK336 := n0_; have HB := n1_; have HO342 := n2_; clear n0_ n1_ n2_; clear ho hb hg hat))
     go_roundg k1
     case measure => have := HK1.out; omega
     case rel => exact ⟨(y340), (wrap64 (x9_1 + 1)), (by first | rfl | (simp; done) | (simp [*]; done)), H', ⟨by have := HK1.out; omega⟩, ⟨by (with_reducible repeat (first | apply Kd.S_alloc | apply Kd.S_drewN | apply Kd.S_drew)); exact HO342.out⟩, ⟨by (with_reducible repeat (first | refine zI ?_ _ | refine zJ ?_ | refine zH ?_ _)); exact BK336.out⟩, ⟨by repeat (first | (with_reducible first | exact HB.out | apply zD | apply zB | apply zC | refine zE ?_ GE336.out) | exact HB.out)⟩⟩
    ·rw [if_neg c8] at H
     exact absurd H (by simp)
   ·rw [if_neg c7] at H
    have c7b0 : decide (x9_1 < (l0_2.length : Int)) = false := decide_eq_false c7
    clear c7
    have H' := zA.mk H
    clear H
    have hcz11_0 : wr.cell? ⟨gb336, 0, none⟩ = some (.int .i64 a0_0) := (zG BK336.out 0).trans rfl
    have hcz11_1 : wr.cell? ⟨gb336, 1, none⟩ = some (.int .i64 a0_1) := (zG BK336.out 1).trans rfl
    have hcz11_2 : wr.cell? ⟨gb336, 2, none⟩ = some (.slice A0_2 l0_2.length c0_2) := (zG BK336.out 2).trans rfl
    have hcz11_3 : wr.cell? ⟨gb336, 3, none⟩ = some (.slice A0_3 l0_3.length c0_3) := (zG BK336.out 3).trans rfl
    have hfz11_0 := zF BK336.out 0
    have hfz11_1 := zF BK336.out 1
    have hfz11_2 := zF BK336.out 2
    have hfz11_3 := zF BK336.out 3
    go_wp2
    go_loopg [10] k1 (fun kq v10 w' => ∃ (x8_2 : List (List ByteArray)) (x10_2 : Bool), v10 = .bool x10_2 ∧ zA (zR.l1 kq a1 a2 x8_2 x10_2 a0_0 a0_1 l0_2 l0_3 = some (r1, r2)) ∧ zA (kq ≤ k1) ∧ zA (Kd.S (Kd.slice 9 Kd.string) 27 w' w.heap.size (fun _ => True) u8 x8_2) ∧ zA (w'.heap[gb336]? = some (.cells #[.int .i64 a0_0, .int .i64 a0_1, (.slice A0_2 l0_2.length c0_2), (.slice A0_3 l0_3.length c0_3)] 25 (0, 0))) ∧ zA (Below w.heap.size w w'))
    case atStart => exact ⟨(x8_1), (true), (by first | rfl | (simp; done) | (simp [*]; done)), H', ⟨Nat.le_refl _⟩, ⟨by (with_reducible repeat (first | apply Kd.S_alloc | apply Kd.S_drewN | apply Kd.S_drew)); exact HO_8.out⟩, ⟨by (with_reducible repeat (first | refine zI ?_ _ | refine zJ ?_ | refine zH ?_ _)); exact BK336.out⟩, ⟨by repeat (first | (with_reducible first | exact HB.out | apply zD | apply zB | apply zC | refine zE ?_ GE336.out) | exact HB.out)⟩⟩
    case round =>
     clear H'
     try clear p2
     try clear p6
     try clear c7
     try clear c7b0
     try clear c8
     try clear hcz11_0
     try clear hcz11_1
     try clear hcz11_2
     try clear hcz11_3
     try clear hcz9_0
     try clear hcz9_1
     try clear hcz9_2
     try clear hcz9_3
     try clear hfz11_0
     try clear hfz11_1
     try clear hfz11_2
     try clear hfz11_3
     try clear hfz9_0
     try clear hfz9_1
     try clear hfz9_2
     try clear hfz9_3
     try clear p2
     obtain ⟨x8_2, x10_2, rfl, HA, HK2, HO_8, BK336, HB⟩ := hrel
     cases gk with
     | zero => exact absurd HA.out (by simp [zR.l1])
     | succ k2 =>
      have H := HA.out
      clear HA
      simp only [zR.l1] at H
      by_cases c12 : x10_2 = true
      ·subst c12
       have H1 : (zR.l2 k2 a1 a2 x8_2 false 0 a0_0 a0_1 l0_2 l0_3) = some (r1, r2) := by rw [if_pos rfl] at H; exact H
       clear H
       have H := H1
       clear H1
       have H' := zA.mk H
       clear H
       go_wp2
       go_loopg [10, 11] k2 (fun kq v10 v11 w' => ∃ (x8_3 : List (List ByteArray)) (x10_3 : Bool) (x11_3 : Int), v10 = .bool x10_3 ∧ v11 = .int .i64 x11_3 ∧ zA (zR.l2 kq a1 a2 x8_3 x10_3 x11_3 a0_0 a0_1 l0_2 l0_3 = some (r1, r2)) ∧ zA (kq ≤ k2) ∧ zA (Kd.S (Kd.slice 9 Kd.string) 27 w' w.heap.size (fun _ => True) u8 x8_3) ∧ zA (w'.heap[gb336]? = some (.cells #[.int .i64 a0_0, .int .i64 a0_1, (.slice A0_2 l0_2.length c0_2), (.slice A0_3 l0_3.length c0_3)] 25 (0, 0))) ∧ zA (Below w.heap.size w w'))
       case atStart => exact ⟨(x8_2), (false), (0), (by first | rfl | (simp; done) | (simp [*]; done)), (by first | rfl | (simp; done) | (simp [*]; done)), H', ⟨Nat.le_refl _⟩, ⟨by (with_reducible repeat (first | apply Kd.S_alloc | apply Kd.S_drewN | apply Kd.S_drew)); exact HO_8.out⟩, ⟨by (with_reducible repeat (first | refine zI ?_ _ | refine zJ ?_ | refine zH ?_ _)); exact BK336.out⟩, ⟨by repeat (first | (with_reducible first | exact HB.out | apply zD | apply zB | apply zC | refine zE ?_ GE336.out) | exact HB.out)⟩⟩
       case round =>
        clear H'
        try clear c1
        try clear p2
        try clear p6
        try clear c7
        try clear c7b0
        try clear c8
        try clear c12
        try clear hcz11_0
        try clear hcz11_1
        try clear hcz11_2
        try clear hcz11_3
        try clear hcz9_0
        try clear hcz9_1
        try clear hcz9_2
        try clear hcz9_3
        try clear hfz11_0
        try clear hfz11_1
        try clear hfz11_2
        try clear hfz11_3
        try clear hfz9_0
        try clear hfz9_1
        try clear hfz9_2
        try clear hfz9_3
        try clear p2
        try clear p6
        obtain ⟨x8_3, x10_3, x11_3, rfl, rfl, HA, HK3, HO_8, BK336, HB⟩ := hrel
        cases gk with
        | zero => exact absurd HA.out (by simp [zR.l2])
        | succ k3 =>
         have H := HA.out
         clear HA
         simp only [zR.l2] at H
         by_cases c13 : x11_3 < (l0_3.length : Int)
         ·rw [if_pos c13] at H
          have c13b0 : decide (x11_3 < (l0_3.length : Int)) = true := decide_eq_true c13
          clear c13
          by_cases c14 : 0 ≤ x11_3
          ·rw [if_pos c14] at H
           have c14b0 : decide (0 ≤ x11_3) = true := decide_eq_true c14
           clear c14
           replace H := Option.bind_eq_some_iff.mp H
           obtain ⟨⟨t344, t345⟩, A150, H⟩ := H
           replace H : (if t345 = true then (if 0 ≤ ((zM l0_3 x11_3).f0) then (if ((zM l0_3 x11_3).f0) < (x8_3.length : Int) then ((zd.f k3 (zm x8_3 ((zM l0_3 x11_3).f0)) t344).bind fun t350 => (if (t350.length : Int) > a2 then (some (([] : List (List ByteArray)), false)) else (if (t350.length : Int) > ((zm x8_3 ((zM l0_3 x11_3).f0)).length : Int) then (zR.l2 k3 a1 a2 (x8_3.set (((zM l0_3 x11_3).f0) : Int).toNat t350) true (wrap64 (x11_3 + 1)) a0_0 a0_1 l0_2 l0_3) else (zR.l2 k3 a1 a2 x8_3 x10_3 (wrap64 (x11_3 + 1)) a0_0 a0_1 l0_2 l0_3)))) else (none)) else (none)) else (some (([] : List (List ByteArray)), false))) = some (r1, r2) := H
           have A15 := zA.mk A150
           clear A150
           by_cases c16 : t345 = true
           ·subst c16
            have H1 : (if 0 ≤ ((zM l0_3 x11_3).f0) then (if ((zM l0_3 x11_3).f0) < (x8_3.length : Int) then ((zd.f k3 (zm x8_3 ((zM l0_3 x11_3).f0)) t344).bind fun t350 => (if (t350.length : Int) > a2 then (some (([] : List (List ByteArray)), false)) else (if (t350.length : Int) > ((zm x8_3 ((zM l0_3 x11_3).f0)).length : Int) then (zR.l2 k3 a1 a2 (x8_3.set (((zM l0_3 x11_3).f0) : Int).toNat t350) true (wrap64 (x11_3 + 1)) a0_0 a0_1 l0_2 l0_3) else (zR.l2 k3 a1 a2 x8_3 x10_3 (wrap64 (x11_3 + 1)) a0_0 a0_1 l0_2 l0_3)))) else (none)) else (none)) = some (r1, r2) := by rw [if_pos rfl] at H; exact H
            clear H
            have H := H1
            clear H1
            by_cases c17 : 0 ≤ ((zM l0_3 x11_3).f0)
            ·rw [if_pos c17] at H
             have c17b0 : decide (0 ≤ ((zM l0_3 x11_3).f0)) = true := decide_eq_true c17
             clear c17
             by_cases c18 : ((zM l0_3 x11_3).f0) < (x8_3.length : Int)
             ·rw [if_pos c18] at H
              have c18b0 : decide (((zM l0_3 x11_3).f0) < (x8_3.length : Int)) = true := decide_eq_true c18
              clear c18
              replace H := Option.bind_eq_some_iff.mp H
              obtain ⟨t350, A190, H⟩ := H
              replace H : (if (t350.length : Int) > a2 then (some (([] : List (List ByteArray)), false)) else (if (t350.length : Int) > ((zm x8_3 ((zM l0_3 x11_3).f0)).length : Int) then (zR.l2 k3 a1 a2 (x8_3.set (((zM l0_3 x11_3).f0) : Int).toNat t350) true (wrap64 (x11_3 + 1)) a0_0 a0_1 l0_2 l0_3) else (zR.l2 k3 a1 a2 x8_3 x10_3 (wrap64 (x11_3 + 1)) a0_0 a0_1 l0_2 l0_3))) = some (r1, r2) := H
              have A19 := zA.mk A190
              clear A190
              by_cases c20 : (t350.length : Int) > a2
              ·rw [if_pos c20] at H
               have c20b0 : decide (a2 < (t350.length : Int)) = true := decide_eq_true c20
               clear c20
               simp only [Option.some.injEq, Prod.mk.injEq] at H
               obtain ⟨rfl, rfl⟩ := H
               have hcz21_0 : wr.cell? ⟨gb336, 0, none⟩ = some (.int .i64 a0_0) := (zG BK336.out 0).trans rfl
               have hcz21_1 : wr.cell? ⟨gb336, 1, none⟩ = some (.int .i64 a0_1) := (zG BK336.out 1).trans rfl
               have hcz21_2 : wr.cell? ⟨gb336, 2, none⟩ = some (.slice A0_2 l0_2.length c0_2) := (zG BK336.out 2).trans rfl
               have hcz21_3 : wr.cell? ⟨gb336, 3, none⟩ = some (.slice A0_3 l0_3.length c0_3) := (zG BK336.out 3).trans rfl
               have hfz21_0 := zF BK336.out 0
               have hfz21_1 := zF BK336.out 1
               have hfz21_2 := zF BK336.out 2
               have hfz21_3 := zF BK336.out 3
               have p343 : 0 ≤ (x11_3 : Int) := of_decide_eq_true (by first | (with_reducible assumption) | assumption)
               have q343 : x11_3 < (l0_3.length : Int) := of_decide_eq_true (by first | (with_reducible assumption) | assumption)
               obtain ⟨ad343, A343_1, c343_1, e343, hx343_0, hx343_1, hl343_1, hi343_1⟩ := yy HR0_3.out x11_3 p343 q343
               cases e343
               replace hx343_0 := (HB.out.cell (World.block_lt_of_cell? w _ hx343_0)).trans hx343_0
               replace hx343_1 := (HB.out.cell (World.block_lt_of_cell? w _ hx343_1)).trans hx343_1
               have HR343_1 := zA.mk hi343_1
               have HC343_1 := zA.mk hl343_1
               clear hi343_1 hl343_1
               replace p343 := eq_true p343
               replace q343 := eq_true q343
               obtain ⟨Ao22, co22, eo22⟩ := Kd.S_slice HO_8.out
               subst eo22
               go_wp2_with (first | ((with_reducible refine zt (f := 49) rfl ?_); refine yM (some 45) rfl rfl Try.func49 (by kernel_rfl) rfl #[.slice A343_1 ((zM l0_3 x11_3).f1).length c343_1, .int .i64 a1, .slice Ao22 x8_3.length co22, .int .i64 a2] rfl (by (try simp only [List.map_toArray, List.map_cons, List.map_nil]); first | done | rfl | (simp only [List.length_drop, List.length_take]; rfl)) ?_; (with_reducible refine (za.calls k3 _ _ ((zM l0_3 x11_3).f1) a1 _ _ x8_3 a2 t344 true _ ?side1 ?side2 ?side3 ?side4 A15.out).mono ?_); (case side1 => repeat (first | exact (Kd.C_below HR343_1.out HB.out) | (with_reducible refine Kd.C_alloc ?_ _) | (with_reducible refine Kd.C_drewN ?_ _) | (with_reducible refine Kd.C_drew ?_))); (case side2 => exact HC343_1.out); (case side3 => repeat (first | exact (Kd.S_reads' HO_8.out).2.2 | (with_reducible refine Kd.C_alloc ?_ _) | (with_reducible refine Kd.C_drewN ?_ _) | (with_reducible refine Kd.C_drew ?_))); (case side4 => exact (Kd.S_reads' HO_8.out).2.1); rintro e w23 ⟨v346, rfl, ho0, hb⟩; refine ⟨_, rfl, ?_⟩; have n0_ := zA.mk (Kd.S_elder' (by (with_reducible repeat (first | apply Kd.S_alloc | apply Kd.S_drewN | apply Kd.S_drew)); exact HO_8.out) (Kd.R_base ho0) hb); have n1_ := zA.mk (Kd.R_lower ho0 (zN (by repeat (first | (with_reducible first | exact HB.out | apply zD | apply zB | apply zC | refine zE ?_ GE336.out) | exact HB.out)))); have n2_ := zA.mk (zn (g := gb336) (o := .cells #[.int .i64 a0_0, .int .i64 a0_1, .slice A0_2 l0_2.length c0_2, .slice (some ad343) l0_3.length c0_3] 25 (0, 0)) (by (with_reducible repeat (first | refine zI ?_ _ | refine zJ ?_ | refine zH ?_ _)); exact BK336.out) hb); have n3_ := zA.mk (zL (by repeat (first | (with_reducible first | exact HB.out | apply zD | apply zB | apply zC | refine zE ?_ GE336.out) | exact HB.out)) hb); clear HO_8; clear BK336; clear HB; have HO_8 := n0_; have HO347 := n1_; have BK336 := n2_; have HB := n3_; clear n0_ n1_ n2_ n3_; (try clear hb); (try clear hb2); (try clear hk); (try clear hi); (try clear ho0); have hcz24_0 : w23.cell? ⟨gb336, 0, none⟩ = some (.int .i64 a0_0) := (zG BK336.out 0).trans rfl; have hcz24_1 : w23.cell? ⟨gb336, 1, none⟩ = some (.int .i64 a0_1) := (zG BK336.out 1).trans rfl; have hcz24_2 : w23.cell? ⟨gb336, 2, none⟩ = some (.slice A0_2 l0_2.length c0_2) := (zG BK336.out 2).trans rfl; have hcz24_3 : w23.cell? ⟨gb336, 3, none⟩ = some (.slice (some ad343) l0_3.length c0_3) := (zG BK336.out 3).trans rfl; have hfz24_0 := zF BK336.out 0; have hfz24_1 := zF BK336.out 1; have hfz24_2 := zF BK336.out 2; have hfz24_3 := zF BK336.out 3; have p348 : 0 ≤ (x11_3 : Int) := of_decide_eq_true (by first | (with_reducible assumption) | assumption); have q348 : x11_3 < (l0_3.length : Int) := of_decide_eq_true (by first | (with_reducible assumption) | assumption); obtain ⟨ad348, A348_1, c348_1, e348, hx348_0, hx348_1, hl348_1, hi348_1⟩ := yy HR0_3.out x11_3 p348 q348; obtain rfl : ad343 = ad348 := (by injection e348); replace hx348_0 := (HB.out.cell (World.block_lt_of_cell? w _ hx348_0)).trans hx348_0; replace hx348_1 := (HB.out.cell (World.block_lt_of_cell? w _ hx348_1)).trans hx348_1; have HR348_1 := zA.mk hi348_1; have HC348_1 := zA.mk hl348_1; clear hi348_1 hl348_1; replace p348 := eq_true p348; replace q348 := eq_true q348; have p349 : 0 ≤ (((zM l0_3 x11_3).f0) : Int) := of_decide_eq_true (by first | (with_reducible assumption) | assumption); have q349 : ((zM l0_3 x11_3).f0) < (x8_3.length : Int) := of_decide_eq_true (by first | (with_reducible assumption) | assumption); obtain ⟨ad349, A349_0, c349_0, e349, hx349_0, hl349_0, hi349_0⟩ := ZP (Kd.S_reads' HO_8.out).2.2 ((zM l0_3 x11_3).f0) p349 q349; cases e349; obtain ⟨ce349, hce349, hMe349, hcc349⟩ := Kd.S_get HO_8.out [] ((zM l0_3 x11_3).f0) p349 (by first | exact q349 | exact of_decide_eq_true (by first | (with_reducible assumption) | assumption) | (have e_ := (Kd.S_reads' HO_8.out).1; omega)); obtain ⟨ve349_0, rfl, ge349_0⟩ := hMe349; have hv349_0 := hcc349 0 _ rfl; rw [Nat.add_zero, show ((Kd.slice 9 Kd.string)).sz = 1 from rfl, Nat.mul_one] at hv349_0; replace hv349_0 := Option.some.inj (hv349_0.symm.trans hx349_0); rw [hv349_0] at ge349_0; have HL349_0 := zA.mk (show Kd.R Kd.string 9 _ _ _ _ (zm x8_3 ((zM l0_3 x11_3).f0)) from ge349_0); clear hv349_0 ge349_0; clear hcc349 hce349; have HR349_0 := zA.mk hi349_0; have HC349_0 := zA.mk hl349_0; clear hi349_0 hl349_0; replace p349 := eq_true p349; replace q349 := eq_true q349; obtain ⟨Ao25, co25, eo25⟩ := Kd.R_slice HO347.out; subst eo25) | ((with_reducible refine zt (f := 37) rfl ?_); refine yM (some 61) rfl rfl Try.func37 (by kernel_rfl) rfl #[.slice A349_0 (zm x8_3 ((zM l0_3 x11_3).f0)).length c349_0, .slice Ao25 t344.length co25] rfl (by (try simp only [List.map_toArray, List.map_cons, List.map_nil]); first | done | rfl | (simp only [List.length_drop, List.length_take]; rfl)) ?_; (with_reducible refine (zd.calls k3 _ _ (zm x8_3 ((zM l0_3 x11_3).f0)) _ _ t344 t350 _ ?side1 ?side2 ?side3 ?side4 A19.out).mono ?_); (case side1 => repeat (first | exact (by repeat (first | (with_reducible exact HR349_0.out) | (with_reducible refine Kd.C_alloc ?_ _) | (with_reducible refine Kd.C_drewN ?_ _) | (with_reducible refine Kd.C_drew ?_) | exact HR349_0.out)) | (with_reducible refine Kd.C_alloc ?_ _) | (with_reducible refine Kd.C_drewN ?_ _) | (with_reducible refine Kd.C_drew ?_))); (case side2 => exact HC349_0.out); (case side3 => repeat (first | exact (Kd.R_reads' HO347.out).2.2 | (with_reducible refine Kd.C_alloc ?_ _) | (with_reducible refine Kd.C_drewN ?_ _) | (with_reducible refine Kd.C_drew ?_))); (case side4 => exact (Kd.R_reads' HO347.out).2.1); rintro e w26 ⟨v351, rfl, ho0, hb⟩; refine ⟨_, rfl, ?_⟩; have n2_ := zA.mk (Kd.R_elder' (by (with_reducible repeat (first | apply Kd.R_alloc | apply Kd.R_drewN | apply Kd.R_drew)); exact HL349_0.out) (Kd.R_base ho0) hb); have n3_ := zA.mk (Kd.R_lower (yg (yg ho0)) (zN (by repeat (first | (with_reducible first | exact HB.out | apply zD | apply zB | apply zC | refine zE ?_ GE336.out) | exact HB.out)))); have n6_ := zA.mk (zL (by repeat (first | (with_reducible first | exact HB.out | apply zD | apply zB | apply zC | refine zE ?_ GE336.out) | exact HB.out)) hb); clear HL349_0; clear HB; have HL349_0 := n2_; have HO352 := n3_; have HB := n6_; clear n2_ n3_ n6_; (try clear hb); (try clear hb2); (try clear hk); (try clear hi); (try clear ho0); obtain ⟨Ao27, co27, eo27⟩ := Kd.R_slice HO352.out; subst eo27))
               go_ret2
               exact ⟨_, by first | rfl | (simp [zX, zY] <;> rfl) | (simp [*, zX, zY] <;> rfl), by first | exact Kd.S_nil _ _ _ _ _ | exact Kd.N_nil _ _ _ _ _ | exact Kd.V_nil _ _ _ _ _ | exact Kd.Q_nil _ _ _ _ _ | exact Kd.R_nil _ _ _ _ _, by repeat (first | (with_reducible first | exact HB.out | apply zD | apply zB | apply zC | refine zE ?_ GE336.out) | exact HB.out)⟩
              ·rw [if_neg c20] at H
               have c20b0 : decide (a2 < (t350.length : Int)) = false := decide_eq_false c20
               clear c20
               by_cases c28 : (t350.length : Int) > ((zm x8_3 ((zM l0_3 x11_3).f0)).length : Int)
               ·rw [if_pos c28] at H
                have c28b0 : decide (((zm x8_3 ((zM l0_3 x11_3).f0)).length : Int) < (t350.length : Int)) = true := decide_eq_true c28
                have c28b1 : decide ((zm x8_3 ((zM l0_3 x11_3).f0)).length < t350.length) = true := decide_eq_true (Int.ofNat_lt.mp c28)
                clear c28
                obtain ⟨y354, hy354⟩ : ∃ y_ : List (List ByteArray), y_ = (x8_3.set (((zM l0_3 x11_3).f0) : Int).toNat t350) := ⟨_, rfl⟩
                replace H : (zR.l2 k3 a1 a2 y354 true (wrap64 (x11_3 + 1)) a0_0 a0_1 l0_2 l0_3) = some (r1, r2) := by first | (rw [hy354]; with_reducible exact H) | (have H2_ := (Option.bind_some _ _).symm.trans H; rw [hy354]; with_reducible exact H2_) | (have H2_ := (Option.bind_some _ _).symm.trans H; with_reducible exact H2_) | with_reducible exact H | (rw [hy354]; exact H) | exact H
                have Ny354 := zA.mk hy354
                clear hy354
                have H' := zA.mk H
                clear H
                have hcz30_0 : wr.cell? ⟨gb336, 0, none⟩ = some (.int .i64 a0_0) := (zG BK336.out 0).trans rfl
                have hcz30_1 : wr.cell? ⟨gb336, 1, none⟩ = some (.int .i64 a0_1) := (zG BK336.out 1).trans rfl
                have hcz30_2 : wr.cell? ⟨gb336, 2, none⟩ = some (.slice A0_2 l0_2.length c0_2) := (zG BK336.out 2).trans rfl
                have hcz30_3 : wr.cell? ⟨gb336, 3, none⟩ = some (.slice A0_3 l0_3.length c0_3) := (zG BK336.out 3).trans rfl
                have hfz30_0 := zF BK336.out 0
                have hfz30_1 := zF BK336.out 1
                have hfz30_2 := zF BK336.out 2
                have hfz30_3 := zF BK336.out 3
                have p343 : 0 ≤ (x11_3 : Int) := of_decide_eq_true (by first | (with_reducible assumption) | assumption)
                have q343 : x11_3 < (l0_3.length : Int) := of_decide_eq_true (by first | (with_reducible assumption) | assumption)
                obtain ⟨ad343, A343_1, c343_1, e343, hx343_0, hx343_1, hl343_1, hi343_1⟩ := yy HR0_3.out x11_3 p343 q343
                cases e343
                replace hx343_0 := (HB.out.cell (World.block_lt_of_cell? w _ hx343_0)).trans hx343_0
                replace hx343_1 := (HB.out.cell (World.block_lt_of_cell? w _ hx343_1)).trans hx343_1
                have HR343_1 := zA.mk hi343_1
                have HC343_1 := zA.mk hl343_1
                clear hi343_1 hl343_1
                replace p343 := eq_true p343
                replace q343 := eq_true q343
                obtain ⟨Ao31, co31, eo31⟩ := Kd.S_slice HO_8.out
                subst eo31
                go_wp2_with (first | ((with_reducible refine zt (f := 49) rfl ?_); refine yM (some 45) rfl rfl Try.func49 (by kernel_rfl) rfl #[.slice A343_1 ((zM l0_3 x11_3).f1).length c343_1, .int .i64 a1, .slice Ao31 x8_3.length co31, .int .i64 a2] rfl (by (try simp only [List.map_toArray, List.map_cons, List.map_nil]); first | done | rfl | (simp only [List.length_drop, List.length_take]; rfl)) ?_; (with_reducible refine (za.calls k3 _ _ ((zM l0_3 x11_3).f1) a1 _ _ x8_3 a2 t344 true _ ?side1 ?side2 ?side3 ?side4 A15.out).mono ?_); (case side1 => repeat (first | exact (Kd.C_below HR343_1.out HB.out) | (with_reducible refine Kd.C_alloc ?_ _) | (with_reducible refine Kd.C_drewN ?_ _) | (with_reducible refine Kd.C_drew ?_))); (case side2 => exact HC343_1.out); (case side3 => repeat (first | exact (Kd.S_reads' HO_8.out).2.2 | (with_reducible refine Kd.C_alloc ?_ _) | (with_reducible refine Kd.C_drewN ?_ _) | (with_reducible refine Kd.C_drew ?_))); (case side4 => exact (Kd.S_reads' HO_8.out).2.1); rintro e w32 ⟨v346, rfl, ho0, hb⟩; refine ⟨_, rfl, ?_⟩; have n0_ := zA.mk (Kd.S_elder' (by (with_reducible repeat (first | apply Kd.S_alloc | apply Kd.S_drewN | apply Kd.S_drew)); exact HO_8.out) (Kd.R_base ho0) hb); have n1_ := zA.mk (Kd.R_lower ho0 (zN (by repeat (first | (with_reducible first | exact HB.out | apply zD | apply zB | apply zC | refine zE ?_ GE336.out) | exact HB.out)))); have n2_ := zA.mk (zn (g := gb336) (o := .cells #[.int .i64 a0_0, .int .i64 a0_1, .slice A0_2 l0_2.length c0_2, .slice (some ad343) l0_3.length c0_3] 25 (0, 0)) (by (with_reducible repeat (first | refine zI ?_ _ | refine zJ ?_ | refine zH ?_ _)); exact BK336.out) hb); have n3_ := zA.mk (zL (by repeat (first | (with_reducible first | exact HB.out | apply zD | apply zB | apply zC | refine zE ?_ GE336.out) | exact HB.out)) hb); clear HO_8; clear BK336; clear HB; have HO_8 := n0_; have HO347 := n1_; have BK336 := n2_; have HB := n3_; clear n0_ n1_ n2_ n3_; (try clear hb); (try clear hb2); (try clear hk); (try clear hi); (try clear ho0); have hcz33_0 : w32.cell? ⟨gb336, 0, none⟩ = some (.int .i64 a0_0) := (zG BK336.out 0).trans rfl; have hcz33_1 : w32.cell? ⟨gb336, 1, none⟩ = some (.int .i64 a0_1) := (zG BK336.out 1).trans rfl; have hcz33_2 : w32.cell? ⟨gb336, 2, none⟩ = some (.slice A0_2 l0_2.length c0_2) := (zG BK336.out 2).trans rfl; have hcz33_3 : w32.cell? ⟨gb336, 3, none⟩ = some (.slice (some ad343) l0_3.length c0_3) := (zG BK336.out 3).trans rfl; have hfz33_0 := zF BK336.out 0; have hfz33_1 := zF BK336.out 1; have hfz33_2 := zF BK336.out 2; have hfz33_3 := zF BK336.out 3; have p348 : 0 ≤ (x11_3 : Int) := of_decide_eq_true (by first | (with_reducible assumption) | assumption); have q348 : x11_3 < (l0_3.length : Int) := of_decide_eq_true (by first | (with_reducible assumption) | assumption); obtain ⟨ad348, A348_1, c348_1, e348, hx348_0, hx348_1, hl348_1, hi348_1⟩ := yy HR0_3.out x11_3 p348 q348; obtain rfl : ad343 = ad348 := (by injection e348); replace hx348_0 := (HB.out.cell (World.block_lt_of_cell? w _ hx348_0)).trans hx348_0; replace hx348_1 := (HB.out.cell (World.block_lt_of_cell? w _ hx348_1)).trans hx348_1; have HR348_1 := zA.mk hi348_1; have HC348_1 := zA.mk hl348_1; clear hi348_1 hl348_1; replace p348 := eq_true p348; replace q348 := eq_true q348; have p349 : 0 ≤ (((zM l0_3 x11_3).f0) : Int) := of_decide_eq_true (by first | (with_reducible assumption) | assumption); have q349 : ((zM l0_3 x11_3).f0) < (x8_3.length : Int) := of_decide_eq_true (by first | (with_reducible assumption) | assumption); obtain ⟨ad349, A349_0, c349_0, e349, hx349_0, hl349_0, hi349_0⟩ := ZP (Kd.S_reads' HO_8.out).2.2 ((zM l0_3 x11_3).f0) p349 q349; cases e349; obtain ⟨ce349, hce349, hMe349, hcc349⟩ := Kd.S_get HO_8.out [] ((zM l0_3 x11_3).f0) p349 (by first | exact q349 | exact of_decide_eq_true (by first | (with_reducible assumption) | assumption) | (have e_ := (Kd.S_reads' HO_8.out).1; omega)); obtain ⟨ve349_0, rfl, ge349_0⟩ := hMe349; have hv349_0 := hcc349 0 _ rfl; rw [Nat.add_zero, show ((Kd.slice 9 Kd.string)).sz = 1 from rfl, Nat.mul_one] at hv349_0; replace hv349_0 := Option.some.inj (hv349_0.symm.trans hx349_0); rw [hv349_0] at ge349_0; have HL349_0 := zA.mk (show Kd.R Kd.string 9 _ _ _ _ (zm x8_3 ((zM l0_3 x11_3).f0)) from ge349_0); clear hv349_0 ge349_0; clear hcc349 hce349; have HR349_0 := zA.mk hi349_0; have HC349_0 := zA.mk hl349_0; clear hi349_0 hl349_0; replace p349 := eq_true p349; replace q349 := eq_true q349; obtain ⟨Ao34, co34, eo34⟩ := Kd.R_slice HO347.out; subst eo34) | ((with_reducible refine zt (f := 37) rfl ?_); refine yM (some 61) rfl rfl Try.func37 (by kernel_rfl) rfl #[.slice A349_0 (zm x8_3 ((zM l0_3 x11_3).f0)).length c349_0, .slice Ao34 t344.length co34] rfl (by (try simp only [List.map_toArray, List.map_cons, List.map_nil]); first | done | rfl | (simp only [List.length_drop, List.length_take]; rfl)) ?_; (with_reducible refine (zd.calls k3 _ _ (zm x8_3 ((zM l0_3 x11_3).f0)) _ _ t344 t350 _ ?side1 ?side2 ?side3 ?side4 A19.out).mono ?_); (case side1 => repeat (first | exact (by repeat (first | (with_reducible exact HR349_0.out) | (with_reducible refine Kd.C_alloc ?_ _) | (with_reducible refine Kd.C_drewN ?_ _) | (with_reducible refine Kd.C_drew ?_) | exact HR349_0.out)) | (with_reducible refine Kd.C_alloc ?_ _) | (with_reducible refine Kd.C_drewN ?_ _) | (with_reducible refine Kd.C_drew ?_))); (case side2 => exact HC349_0.out); (case side3 => repeat (first | exact (Kd.R_reads' HO347.out).2.2 | (with_reducible refine Kd.C_alloc ?_ _) | (with_reducible refine Kd.C_drewN ?_ _) | (with_reducible refine Kd.C_drew ?_))); (case side4 => exact (Kd.R_reads' HO347.out).2.1); rintro e w35 ⟨v351, rfl, ho0, hb⟩; refine ⟨_, rfl, ?_⟩; have n0_ := zA.mk (Kd.S_elder' (by (with_reducible repeat (first | apply Kd.S_alloc | apply Kd.S_drewN | apply Kd.S_drew)); exact HO_8.out) (Kd.R_base ho0) hb); have n1_ := zA.mk (Kd.R_elder' (by (with_reducible repeat (first | apply Kd.R_alloc | apply Kd.R_drewN | apply Kd.R_drew)); exact HO347.out) (Kd.R_base ho0) hb); have n2_ := zA.mk (Kd.R_elder' (by (with_reducible repeat (first | apply Kd.R_alloc | apply Kd.R_drewN | apply Kd.R_drew)); exact HL349_0.out) (Kd.R_base ho0) hb); have n3_ := zA.mk (Kd.R_lower (yg (Kd.R_new' ho0 (Kd.R_lt (by (with_reducible repeat (first | apply Kd.R_alloc | apply Kd.R_drewN | apply Kd.R_drew)); exact HO347.out)))) (zN (by repeat (first | (with_reducible first | exact HB.out | apply zD | apply zB | apply zC | refine zE ?_ GE336.out) | exact HB.out)))); have n4_ := zA.mk (zn (g := gb336) (o := .cells #[.int .i64 a0_0, .int .i64 a0_1, .slice A0_2 l0_2.length c0_2, .slice (some ad343) l0_3.length c0_3] 25 (0, 0)) (by (with_reducible repeat (first | refine zI ?_ _ | refine zJ ?_ | refine zH ?_ _)); exact BK336.out) hb); have n6_ := zA.mk (zL (by repeat (first | (with_reducible first | exact HB.out | apply zD | apply zB | apply zC | refine zE ?_ GE336.out) | exact HB.out)) hb); clear HO_8; clear HO347; clear HL349_0; clear BK336; clear HB; have HO_8 := n0_; have HO347 := n1_; have HL349_0 := n2_; have HO352 := n3_; have BK336 := n4_; have HB := n6_; clear n0_ n1_ n2_ n3_ n4_ n6_; (try clear hb); (try clear hb2); (try clear hk); (try clear hi); (try clear ho0); obtain ⟨Ao36, co36, eo36⟩ := Kd.R_slice HO352.out; subst eo36; have p353 : 0 ≤ (((zM l0_3 x11_3).f0) : Int) := of_decide_eq_true (by first | (with_reducible assumption) | assumption); have q353 : ((zM l0_3 x11_3).f0) < (x8_3.length : Int) := of_decide_eq_true (by first | (with_reducible assumption) | assumption); obtain ⟨ad353, A353_0, c353_0, e353, hx353_0, hl353_0, hi353_0⟩ := ZP (Kd.S_reads' HO_8.out).2.2 ((zM l0_3 x11_3).f0) p353 q353; obtain rfl : ad349 = ad353 := (by injection e353); obtain ⟨ce353, hce353, hMe353, hcc353⟩ := Kd.S_get HO_8.out [] ((zM l0_3 x11_3).f0) p353 (by first | exact q353 | exact of_decide_eq_true (by first | (with_reducible assumption) | assumption) | (have e_ := (Kd.S_reads' HO_8.out).1; omega)); obtain ⟨ve353_0, rfl, ge353_0⟩ := hMe353; have hv353_0 := hcc353 0 _ rfl; rw [Nat.add_zero, show ((Kd.slice 9 Kd.string)).sz = 1 from rfl, Nat.mul_one] at hv353_0; replace hv353_0 := Option.some.inj (hv353_0.symm.trans hx353_0); rw [hv353_0] at ge353_0; have HL353_0 := zA.mk (show Kd.R Kd.string 9 _ _ _ _ (zm x8_3 ((zM l0_3 x11_3).f0)) from ge353_0); clear hv353_0 ge353_0; clear hcc353 hce353; have HR353_0 := zA.mk hi353_0; have HC353_0 := zA.mk hl353_0; clear hi353_0 hl353_0; replace p353 := eq_true p353; replace q353 := eq_true q353; have p29 : 0 ≤ (((zM l0_3 x11_3).f0) : Int) := of_decide_eq_true (by first | (with_reducible assumption) | assumption); have q29 : (((zM l0_3 x11_3).f0) : Int) < ((x8_3.length : Int) : Int) := of_decide_eq_true (by first | (with_reducible assumption) | assumption); obtain ⟨go29, co29, eo29, gb29, gl29, cl29, HG29⟩ := Kd.S_form HO_8.out (by omega); (first | cases eo29 | (injection eo29 with ea_ en_ ec_; (first | subst ea_ | (injection ea_ with ea_; subst ea_)); subst ec_; clear en_)); have GB29 := zA.mk gb29; have GG29 := zA.mk HG29; clear gb29 gl29 HG29; (first | simp only [ZD] at hx349_0 | skip); (first | simp only [ZD] at hx353_0 | skip); obtain ⟨_, ce29, hcl29, hM29, hcc29, hfr29, _, _⟩ := Kd.S_elem HO_8.out [] (((zM l0_3 x11_3).f0) : Int) p29 q29; obtain ⟨ve29_0, rfl, ge29_0⟩ := hM29; have hx29_0 := hcc29 0 _ rfl; have hf29_0 := hfr29 0; (try simp only [show ((Kd.slice 9 Kd.string)).sz = 1 from rfl, Nat.mul_one, Nat.add_zero] at hx29_0); (try simp only [show ((Kd.slice 9 Kd.string)).sz = 1 from rfl, Nat.mul_one, Nat.add_zero] at hf29_0); clear hcl29 hcc29 hfr29; replace p29 := eq_true p29; replace q29 := eq_true q29; have n_ := zA.mk (Kd.S_mono (ok' := (fun k_ => some k_ ≠ (.slice Ao34 t344.length co34 : Value).ownBlock ∧ some k_ ≠ (.slice Ao36 t350.length co36 : Value).ownBlock)) HO_8.out (fun k_ hk => ⟨hk.1.2, hk.2⟩)); clear HO_8; have HO_8 := n_; clear n_; have HX37 := zA.mk (show Kd.S (Kd.slice 9 Kd.string) 27 w35 w.heap.size (fun k_ => ((fun k_ => some k_ ≠ (.slice Ao34 t344.length co34 : Value).ownBlock)) k_ ∧ ¬ ((fun k_ => some k_ = (.slice Ao36 t350.length co36 : Value).ownBlock)) k_) (.slice (some ⟨go29, 0, none⟩) x8_3.length co31) x8_3 from (by (with_reducible repeat (first | apply Kd.S_alloc | apply Kd.S_drewN | apply Kd.S_drew)); exact Kd.S_mono HO_8.out (fun k_ hk => ⟨hk.1, fun e_ => hk.2 e_⟩))); obtain ⟨oki37, ce37, hcl37, hM37, hcc37, hfr37, hoki37, hH37⟩ := Kd.S_elem HX37.out [] (((zM l0_3 x11_3).f0) : Int) (of_decide_eq_true (by first | (with_reducible assumption) | assumption)) (by have h_ : (((zM l0_3 x11_3).f0) : Int) < ((x8_3.length : Int) : Int) := of_decide_eq_true (by first | (with_reducible assumption) | assumption); first | exact h_ | (have e_ := (Kd.S_reads' HO_8.out).1; omega) | simpa using h_); obtain ⟨ve37_0, rfl, ge37_0⟩ := hM37; have HP37 := Kd.S_seg hH37 (of_decide_eq_true (by first | (with_reducible assumption) | assumption)) (by have h_ : (((zM l0_3 x11_3).f0) : Int) < ((x8_3.length : Int) : Int) := of_decide_eq_true (by first | (with_reducible assumption) | assumption); first | exact h_ | (have e_ := (Kd.S_reads' HO_8.out).1; omega) | simpa using h_) (seg := [.slice Ao36 t350.length co36]) (j := 0) (show 1 ≤ 1 from by decide) (x' := t350) (Kd.M_row (Kd.R_mono (Kd.R_tight rfl (Kd.R_mono (ok' := fun k_ => ((fun k_ => some k_ ≠ (.slice Ao34 t344.length co34 : Value).ownBlock)) k_ ∧ k_ ≠ go29) (Kd.R_apart' (HO352.out) (Kd.S_typed HO_8.out) (by decide)) (fun k_ hk => ⟨hk.1.1.2, fun e_ => (hk.2) (by rw [e_]; rfl)⟩))) (fun _ h_ => Or.inr (h_)))) (fun _ hk => hk) (fun k_ hk_ => ((Kd.R_mono (ok' := fun k_ => ((fun k_ => some k_ ≠ (.slice Ao34 t344.length co34 : Value).ownBlock)) k_ ∧ k_ ≠ go29) (Kd.R_apart' (HO352.out) (Kd.S_typed HO_8.out) (by decide)) (fun k_ hk => ⟨hk.1.1.2, fun e_ => (hk.2) (by rw [e_]; rfl)⟩))).1 k_ hk_.symm); have hx37_0 := hcc37 0 _ rfl; (try simp only [show ((Kd.slice 9 Kd.string)).sz = 1 from rfl, Nat.mul_one, Nat.add_zero] at hx37_0); have hf37_0 := hfr37 0; (try simp only [show ((Kd.slice 9 Kd.string)).sz = 1 from rfl, Nat.mul_one, Nat.add_zero] at hf37_0); clear hcl37 hcc37 hfr37 hoki37 hH37; (try simp only [show ((Kd.slice 9 Kd.string)).sz = 1 from rfl, Nat.mul_one, Nat.add_zero] at HP37)) | ((with_reducible refine gate_store (t := 27) (p := 77) rfl ?_); refine store_event (t := 27) (p := 77) (v := ?vo_w38) (w1 := (w35.setCell ⟨go29, (((zM l0_3 x11_3).f0) : Int).toNat, none⟩ (.slice Ao36 t350.length co36))) ?hg ?ho ?hn ?hr ?_; (case ho => rfl); (case hg => rfl); (case hn => rfl); (case hr => first | (go_simp; done) | (go_simp; rfl)); intro w38 hw; have hg : w35.grownBy w38 (some go29) := (by rw [hw]; exact HP37.2); have hp_ : Kd.S (Kd.slice 9 Kd.string) 27 w38 w.heap.size (fun k_ => some k_ ≠ (.slice Ao34 t344.length co34 : Value).ownBlock) (.slice (some ⟨go29, 0, none⟩) x8_3.length co31) y354 := (by rw [hw, Ny354.out]; exact HP37.1); clear HP37; have n0_ := zA.mk (hp_); have n1_ := zA.mk (yv (g := gb336) (o := .cells #[.int .i64 a0_0, .int .i64 a0_1, .slice A0_2 l0_2.length c0_2, .slice (some ad343) l0_3.length c0_3] 25 (0, 0)) (by (with_reducible repeat (first | refine zI ?_ _ | refine zJ ?_ | refine zH ?_ _)); exact BK336.out) hg (Kd.S_ne HO_8.out BK336.out (by decide))); have n3_ := zA.mk (Kd.R_after (v := (.slice (some ⟨go29, 0, none⟩) x8_3.length co31)) (v1 := (.slice (some ⟨go29, 0, none⟩) x8_3.length co31)) (ok := (fun k_ => some k_ ≠ (.slice Ao34 t344.length co34 : Value).ownBlock ∧ some k_ ≠ (.slice Ao36 t350.length co36 : Value).ownBlock)) (by (with_reducible repeat (first | apply Kd.R_alloc | apply Kd.R_drewN | apply Kd.R_drew)); exact Kd.R_mono HL349_0.out (fun _ hk => ⟨⟨hk.1.1.2, hk.2⟩, hk.1.2⟩)) hg (.inl rfl)); have n4_ := zA.mk (Kd.R_after (v := (.slice (some ⟨go29, 0, none⟩) x8_3.length co31)) (v1 := (.slice (some ⟨go29, 0, none⟩) x8_3.length co31)) (ok := (fun k_ => some k_ ≠ (.slice Ao34 t344.length co34 : Value).ownBlock ∧ some k_ ≠ (.slice Ao36 t350.length co36 : Value).ownBlock)) (by (with_reducible repeat (first | apply Kd.R_alloc | apply Kd.R_drewN | apply Kd.R_drew)); exact Kd.R_mono HL353_0.out (fun _ hk => ⟨⟨hk.1.1.2, hk.1.2⟩, hk.2⟩)) hg (.inl rfl)); have n5_ := zA.mk ((by rw [hw]; exact zE (HB.out) GB29.out : Below w.heap.size w w38)); clear HO_8; clear BK336; clear HL349_0; clear HL353_0; clear HB; clear HO352; have HO_8 := n0_; have BK336 := n1_; have HL349_0 := n3_; have HL353_0 := n4_; have HB := n5_; clear n0_ n1_ n3_ n4_ n5_; clear hg hw hp_))
                go_roundg k3
                case measure => have := HK1.out; have := HK2.out; have := HK3.out; omega
                case rel => exact ⟨(y354), (true), (wrap64 (x11_3 + 1)), (by first | rfl | (simp; done) | (simp [*]; done)), (by first | rfl | (simp; done) | (simp [*]; done)), H', ⟨by have := HK1.out; have := HK2.out; have := HK3.out; omega⟩, ⟨by (with_reducible repeat (first | apply Kd.S_alloc | apply Kd.S_drewN | apply Kd.S_drew)); exact Kd.S_mono HO_8.out (fun _ hk => trivial)⟩, ⟨by (with_reducible repeat (first | refine zI ?_ _ | refine zJ ?_ | refine zH ?_ _)); exact BK336.out⟩, ⟨by repeat (first | (with_reducible first | exact HB.out | apply zD | apply zB | apply zC | refine zE ?_ GE336.out) | exact HB.out)⟩⟩
               ·rw [if_neg c28] at H
                have c28b0 : decide (((zm x8_3 ((zM l0_3 x11_3).f0)).length : Int) < (t350.length : Int)) = false := decide_eq_false c28
                have c28b1 : decide ((zm x8_3 ((zM l0_3 x11_3).f0)).length < t350.length) = false := decide_eq_false (fun h => c28 (Int.ofNat_lt.mpr h))
                clear c28
                have H' := zA.mk H
                clear H
                have hcz39_0 : wr.cell? ⟨gb336, 0, none⟩ = some (.int .i64 a0_0) := (zG BK336.out 0).trans rfl
                have hcz39_1 : wr.cell? ⟨gb336, 1, none⟩ = some (.int .i64 a0_1) := (zG BK336.out 1).trans rfl
                have hcz39_2 : wr.cell? ⟨gb336, 2, none⟩ = some (.slice A0_2 l0_2.length c0_2) := (zG BK336.out 2).trans rfl
                have hcz39_3 : wr.cell? ⟨gb336, 3, none⟩ = some (.slice A0_3 l0_3.length c0_3) := (zG BK336.out 3).trans rfl
                have hfz39_0 := zF BK336.out 0
                have hfz39_1 := zF BK336.out 1
                have hfz39_2 := zF BK336.out 2
                have hfz39_3 := zF BK336.out 3
                have p343 : 0 ≤ (x11_3 : Int) := of_decide_eq_true (by first | (with_reducible assumption) | assumption)
                have q343 : x11_3 < (l0_3.length : Int) := of_decide_eq_true (by first | (with_reducible assumption) | assumption)
                obtain ⟨ad343, A343_1, c343_1, e343, hx343_0, hx343_1, hl343_1, hi343_1⟩ := yy HR0_3.out x11_3 p343 q343
                cases e343
                replace hx343_0 := (HB.out.cell (World.block_lt_of_cell? w _ hx343_0)).trans hx343_0
                replace hx343_1 := (HB.out.cell (World.block_lt_of_cell? w _ hx343_1)).trans hx343_1
                have HR343_1 := zA.mk hi343_1
                have HC343_1 := zA.mk hl343_1
                clear hi343_1 hl343_1
                replace p343 := eq_true p343
                replace q343 := eq_true q343
                obtain ⟨Ao40, co40, eo40⟩ := Kd.S_slice HO_8.out
                subst eo40
                go_wp2_with (first | ((with_reducible refine zt (f := 49) rfl ?_); refine yM (some 45) rfl rfl Try.func49 (by kernel_rfl) rfl #[.slice A343_1 ((zM l0_3 x11_3).f1).length c343_1, .int .i64 a1, .slice Ao40 x8_3.length co40, .int .i64 a2] rfl (by (try simp only [List.map_toArray, List.map_cons, List.map_nil]); first | done | rfl | (simp only [List.length_drop, List.length_take]; rfl)) ?_; (with_reducible refine (za.calls k3 _ _ ((zM l0_3 x11_3).f1) a1 _ _ x8_3 a2 t344 true _ ?side1 ?side2 ?side3 ?side4 A15.out).mono ?_); (case side1 => repeat (first | exact (Kd.C_below HR343_1.out HB.out) | (with_reducible refine Kd.C_alloc ?_ _) | (with_reducible refine Kd.C_drewN ?_ _) | (with_reducible refine Kd.C_drew ?_))); (case side2 => exact HC343_1.out); (case side3 => repeat (first | exact (Kd.S_reads' HO_8.out).2.2 | (with_reducible refine Kd.C_alloc ?_ _) | (with_reducible refine Kd.C_drewN ?_ _) | (with_reducible refine Kd.C_drew ?_))); (case side4 => exact (Kd.S_reads' HO_8.out).2.1); rintro e w41 ⟨v346, rfl, ho0, hb⟩; refine ⟨_, rfl, ?_⟩; have n0_ := zA.mk (Kd.S_elder' (by (with_reducible repeat (first | apply Kd.S_alloc | apply Kd.S_drewN | apply Kd.S_drew)); exact HO_8.out) (Kd.R_base ho0) hb); have n1_ := zA.mk (Kd.R_lower ho0 (zN (by repeat (first | (with_reducible first | exact HB.out | apply zD | apply zB | apply zC | refine zE ?_ GE336.out) | exact HB.out)))); have n2_ := zA.mk (zn (g := gb336) (o := .cells #[.int .i64 a0_0, .int .i64 a0_1, .slice A0_2 l0_2.length c0_2, .slice (some ad343) l0_3.length c0_3] 25 (0, 0)) (by (with_reducible repeat (first | refine zI ?_ _ | refine zJ ?_ | refine zH ?_ _)); exact BK336.out) hb); have n3_ := zA.mk (zL (by repeat (first | (with_reducible first | exact HB.out | apply zD | apply zB | apply zC | refine zE ?_ GE336.out) | exact HB.out)) hb); clear HO_8; clear BK336; clear HB; have HO_8 := n0_; have HO347 := n1_; have BK336 := n2_; have HB := n3_; clear n0_ n1_ n2_ n3_; (try clear hb); (try clear hb2); (try clear hk); (try clear hi); (try clear ho0); have hcz42_0 : w41.cell? ⟨gb336, 0, none⟩ = some (.int .i64 a0_0) := (zG BK336.out 0).trans rfl; have hcz42_1 : w41.cell? ⟨gb336, 1, none⟩ = some (.int .i64 a0_1) := (zG BK336.out 1).trans rfl; have hcz42_2 : w41.cell? ⟨gb336, 2, none⟩ = some (.slice A0_2 l0_2.length c0_2) := (zG BK336.out 2).trans rfl; have hcz42_3 : w41.cell? ⟨gb336, 3, none⟩ = some (.slice (some ad343) l0_3.length c0_3) := (zG BK336.out 3).trans rfl; have hfz42_0 := zF BK336.out 0; have hfz42_1 := zF BK336.out 1; have hfz42_2 := zF BK336.out 2; have hfz42_3 := zF BK336.out 3; have p348 : 0 ≤ (x11_3 : Int) := of_decide_eq_true (by first | (with_reducible assumption) | assumption); have q348 : x11_3 < (l0_3.length : Int) := of_decide_eq_true (by first | (with_reducible assumption) | assumption); obtain ⟨ad348, A348_1, c348_1, e348, hx348_0, hx348_1, hl348_1, hi348_1⟩ := yy HR0_3.out x11_3 p348 q348; obtain rfl : ad343 = ad348 := (by injection e348); replace hx348_0 := (HB.out.cell (World.block_lt_of_cell? w _ hx348_0)).trans hx348_0; replace hx348_1 := (HB.out.cell (World.block_lt_of_cell? w _ hx348_1)).trans hx348_1; have HR348_1 := zA.mk hi348_1; have HC348_1 := zA.mk hl348_1; clear hi348_1 hl348_1; replace p348 := eq_true p348; replace q348 := eq_true q348; have p349 : 0 ≤ (((zM l0_3 x11_3).f0) : Int) := of_decide_eq_true (by first | (with_reducible assumption) | assumption); have q349 : ((zM l0_3 x11_3).f0) < (x8_3.length : Int) := of_decide_eq_true (by first | (with_reducible assumption) | assumption); obtain ⟨ad349, A349_0, c349_0, e349, hx349_0, hl349_0, hi349_0⟩ := ZP (Kd.S_reads' HO_8.out).2.2 ((zM l0_3 x11_3).f0) p349 q349; cases e349; obtain ⟨ce349, hce349, hMe349, hcc349⟩ := Kd.S_get HO_8.out [] ((zM l0_3 x11_3).f0) p349 (by first | exact q349 | exact of_decide_eq_true (by first | (with_reducible assumption) | assumption) | (have e_ := (Kd.S_reads' HO_8.out).1; omega)); obtain ⟨ve349_0, rfl, ge349_0⟩ := hMe349; have hv349_0 := hcc349 0 _ rfl; rw [Nat.add_zero, show ((Kd.slice 9 Kd.string)).sz = 1 from rfl, Nat.mul_one] at hv349_0; replace hv349_0 := Option.some.inj (hv349_0.symm.trans hx349_0); rw [hv349_0] at ge349_0; have HL349_0 := zA.mk (show Kd.R Kd.string 9 _ _ _ _ (zm x8_3 ((zM l0_3 x11_3).f0)) from ge349_0); clear hv349_0 ge349_0; clear hcc349 hce349; have HR349_0 := zA.mk hi349_0; have HC349_0 := zA.mk hl349_0; clear hi349_0 hl349_0; replace p349 := eq_true p349; replace q349 := eq_true q349; obtain ⟨Ao43, co43, eo43⟩ := Kd.R_slice HO347.out; subst eo43) | ((with_reducible refine zt (f := 37) rfl ?_); refine yM (some 61) rfl rfl Try.func37 (by kernel_rfl) rfl #[.slice A349_0 (zm x8_3 ((zM l0_3 x11_3).f0)).length c349_0, .slice Ao43 t344.length co43] rfl (by (try simp only [List.map_toArray, List.map_cons, List.map_nil]); first | done | rfl | (simp only [List.length_drop, List.length_take]; rfl)) ?_; (with_reducible refine (zd.calls k3 _ _ (zm x8_3 ((zM l0_3 x11_3).f0)) _ _ t344 t350 _ ?side1 ?side2 ?side3 ?side4 A19.out).mono ?_); (case side1 => repeat (first | exact (by repeat (first | (with_reducible exact HR349_0.out) | (with_reducible refine Kd.C_alloc ?_ _) | (with_reducible refine Kd.C_drewN ?_ _) | (with_reducible refine Kd.C_drew ?_) | exact HR349_0.out)) | (with_reducible refine Kd.C_alloc ?_ _) | (with_reducible refine Kd.C_drewN ?_ _) | (with_reducible refine Kd.C_drew ?_))); (case side2 => exact HC349_0.out); (case side3 => repeat (first | exact (Kd.R_reads' HO347.out).2.2 | (with_reducible refine Kd.C_alloc ?_ _) | (with_reducible refine Kd.C_drewN ?_ _) | (with_reducible refine Kd.C_drew ?_))); (case side4 => exact (Kd.R_reads' HO347.out).2.1); rintro e w44 ⟨v351, rfl, ho0, hb⟩; refine ⟨_, rfl, ?_⟩; have n0_ := zA.mk (Kd.S_elder' (by (with_reducible repeat (first | apply Kd.S_alloc | apply Kd.S_drewN | apply Kd.S_drew)); exact HO_8.out) (Kd.R_base ho0) hb); have n2_ := zA.mk (Kd.R_elder' (by (with_reducible repeat (first | apply Kd.R_alloc | apply Kd.R_drewN | apply Kd.R_drew)); exact HL349_0.out) (Kd.R_base ho0) hb); have n3_ := zA.mk (Kd.R_lower (yg (yg ho0)) (zN (by repeat (first | (with_reducible first | exact HB.out | apply zD | apply zB | apply zC | refine zE ?_ GE336.out) | exact HB.out)))); have n4_ := zA.mk (zn (g := gb336) (o := .cells #[.int .i64 a0_0, .int .i64 a0_1, .slice A0_2 l0_2.length c0_2, .slice (some ad343) l0_3.length c0_3] 25 (0, 0)) (by (with_reducible repeat (first | refine zI ?_ _ | refine zJ ?_ | refine zH ?_ _)); exact BK336.out) hb); have n6_ := zA.mk (zL (by repeat (first | (with_reducible first | exact HB.out | apply zD | apply zB | apply zC | refine zE ?_ GE336.out) | exact HB.out)) hb); clear HO_8; clear HL349_0; clear BK336; clear HB; have HO_8 := n0_; have HL349_0 := n2_; have HO352 := n3_; have BK336 := n4_; have HB := n6_; clear n0_ n2_ n3_ n4_ n6_; (try clear hb); (try clear hb2); (try clear hk); (try clear hi); (try clear ho0); obtain ⟨Ao45, co45, eo45⟩ := Kd.R_slice HO352.out; subst eo45; have p353 : 0 ≤ (((zM l0_3 x11_3).f0) : Int) := of_decide_eq_true (by first | (with_reducible assumption) | assumption); have q353 : ((zM l0_3 x11_3).f0) < (x8_3.length : Int) := of_decide_eq_true (by first | (with_reducible assumption) | assumption); obtain ⟨ad353, A353_0, c353_0, e353, hx353_0, hl353_0, hi353_0⟩ := ZP (Kd.S_reads' HO_8.out).2.2 ((zM l0_3 x11_3).f0) p353 q353; obtain rfl : ad349 = ad353 := (by injection e353); obtain ⟨ce353, hce353, hMe353, hcc353⟩ := Kd.S_get HO_8.out [] ((zM l0_3 x11_3).f0) p353 (by first | exact q353 | exact of_decide_eq_true (by first | (with_reducible assumption) | assumption) | (have e_ := (Kd.S_reads' HO_8.out).1; omega)); obtain ⟨ve353_0, rfl, ge353_0⟩ := hMe353; have hv353_0 := hcc353 0 _ rfl; rw [Nat.add_zero, show ((Kd.slice 9 Kd.string)).sz = 1 from rfl, Nat.mul_one] at hv353_0; replace hv353_0 := Option.some.inj (hv353_0.symm.trans hx353_0); rw [hv353_0] at ge353_0; have HL353_0 := zA.mk (show Kd.R Kd.string 9 _ _ _ _ (zm x8_3 ((zM l0_3 x11_3).f0)) from ge353_0); clear hv353_0 ge353_0; clear hcc353 hce353; have HR353_0 := zA.mk hi353_0; have HC353_0 := zA.mk hl353_0; clear hi353_0 hl353_0; replace p353 := eq_true p353; replace q353 := eq_true q353))
                go_roundg k3
                case measure => have := HK1.out; have := HK2.out; have := HK3.out; omega
                case rel => exact ⟨(x8_3), (x10_3), (wrap64 (x11_3 + 1)), (by first | rfl | (simp; done) | (simp [*]; done)), (by first | rfl | (simp; done) | (simp [*]; done)), H', ⟨by have := HK1.out; have := HK2.out; have := HK3.out; omega⟩, ⟨by (with_reducible repeat (first | apply Kd.S_alloc | apply Kd.S_drewN | apply Kd.S_drew)); exact Kd.S_mono HO_8.out (fun _ hk => trivial)⟩, ⟨by (with_reducible repeat (first | refine zI ?_ _ | refine zJ ?_ | refine zH ?_ _)); exact BK336.out⟩, ⟨by repeat (first | (with_reducible first | exact HB.out | apply zD | apply zB | apply zC | refine zE ?_ GE336.out) | exact HB.out)⟩⟩
             ·rw [if_neg c18] at H
              exact absurd H (by simp)
            ·rw [if_neg c17] at H
             exact absurd H (by simp)
           ·replace c16 := Bool.eq_false_iff.mpr c16
            subst c16
            have H1 : (some (([] : List (List ByteArray)), false)) = some (r1, r2) := by rw [if_neg (show ¬ (false = true) by decide)] at H; exact H
            clear H
            have H := H1
            clear H1
            simp only [Option.some.injEq, Prod.mk.injEq] at H
            obtain ⟨rfl, rfl⟩ := H
            have hcz46_0 : wr.cell? ⟨gb336, 0, none⟩ = some (.int .i64 a0_0) := (zG BK336.out 0).trans rfl
            have hcz46_1 : wr.cell? ⟨gb336, 1, none⟩ = some (.int .i64 a0_1) := (zG BK336.out 1).trans rfl
            have hcz46_2 : wr.cell? ⟨gb336, 2, none⟩ = some (.slice A0_2 l0_2.length c0_2) := (zG BK336.out 2).trans rfl
            have hcz46_3 : wr.cell? ⟨gb336, 3, none⟩ = some (.slice A0_3 l0_3.length c0_3) := (zG BK336.out 3).trans rfl
            have hfz46_0 := zF BK336.out 0
            have hfz46_1 := zF BK336.out 1
            have hfz46_2 := zF BK336.out 2
            have hfz46_3 := zF BK336.out 3
            have p343 : 0 ≤ (x11_3 : Int) := of_decide_eq_true (by first | (with_reducible assumption) | assumption)
            have q343 : x11_3 < (l0_3.length : Int) := of_decide_eq_true (by first | (with_reducible assumption) | assumption)
            obtain ⟨ad343, A343_1, c343_1, e343, hx343_0, hx343_1, hl343_1, hi343_1⟩ := yy HR0_3.out x11_3 p343 q343
            cases e343
            replace hx343_0 := (HB.out.cell (World.block_lt_of_cell? w _ hx343_0)).trans hx343_0
            replace hx343_1 := (HB.out.cell (World.block_lt_of_cell? w _ hx343_1)).trans hx343_1
            have HR343_1 := zA.mk hi343_1
            have HC343_1 := zA.mk hl343_1
            clear hi343_1 hl343_1
            replace p343 := eq_true p343
            replace q343 := eq_true q343
            obtain ⟨Ao47, co47, eo47⟩ := Kd.S_slice HO_8.out
            subst eo47
            go_wp2_with (first | ((with_reducible refine zt (f := 49) rfl ?_); refine yM (some 45) rfl rfl Try.func49 (by kernel_rfl) rfl #[.slice A343_1 ((zM l0_3 x11_3).f1).length c343_1, .int .i64 a1, .slice Ao47 x8_3.length co47, .int .i64 a2] rfl (by (try simp only [List.map_toArray, List.map_cons, List.map_nil]); first | done | rfl | (simp only [List.length_drop, List.length_take]; rfl)) ?_; (with_reducible refine (za.calls k3 _ _ ((zM l0_3 x11_3).f1) a1 _ _ x8_3 a2 t344 false _ ?side1 ?side2 ?side3 ?side4 A15.out).mono ?_); (case side1 => repeat (first | exact (Kd.C_below HR343_1.out HB.out) | (with_reducible refine Kd.C_alloc ?_ _) | (with_reducible refine Kd.C_drewN ?_ _) | (with_reducible refine Kd.C_drew ?_))); (case side2 => exact HC343_1.out); (case side3 => repeat (first | exact (Kd.S_reads' HO_8.out).2.2 | (with_reducible refine Kd.C_alloc ?_ _) | (with_reducible refine Kd.C_drewN ?_ _) | (with_reducible refine Kd.C_drew ?_))); (case side4 => exact (Kd.S_reads' HO_8.out).2.1); rintro e w48 ⟨v346, rfl, ho0, hb⟩; refine ⟨_, rfl, ?_⟩; have n3_ := zA.mk (zL (by repeat (first | (with_reducible first | exact HB.out | apply zD | apply zB | apply zC | refine zE ?_ GE336.out) | exact HB.out)) hb); clear HB; have HB := n3_; clear n3_; (try clear hb); (try clear hb2); (try clear hk); (try clear hi); (try clear ho0)))
            go_ret2
            exact ⟨_, by first | rfl | (simp [zX, zY] <;> rfl) | (simp [*, zX, zY] <;> rfl), by first | exact Kd.S_nil _ _ _ _ _ | exact Kd.N_nil _ _ _ _ _ | exact Kd.V_nil _ _ _ _ _ | exact Kd.Q_nil _ _ _ _ _ | exact Kd.R_nil _ _ _ _ _, by repeat (first | (with_reducible first | exact HB.out | apply zD | apply zB | apply zC | refine zE ?_ GE336.out) | exact HB.out)⟩
          ·rw [if_neg c14] at H
           exact absurd H (by simp)
         ·rw [if_neg c13] at H
          have c13b0 : decide (x11_3 < (l0_3.length : Int)) = false := decide_eq_false c13
          clear c13
          have H' := zA.mk H
          clear H
          have hcz49_0 : wr.cell? ⟨gb336, 0, none⟩ = some (.int .i64 a0_0) := (zG BK336.out 0).trans rfl
          have hcz49_1 : wr.cell? ⟨gb336, 1, none⟩ = some (.int .i64 a0_1) := (zG BK336.out 1).trans rfl
          have hcz49_2 : wr.cell? ⟨gb336, 2, none⟩ = some (.slice A0_2 l0_2.length c0_2) := (zG BK336.out 2).trans rfl
          have hcz49_3 : wr.cell? ⟨gb336, 3, none⟩ = some (.slice A0_3 l0_3.length c0_3) := (zG BK336.out 3).trans rfl
          have hfz49_0 := zF BK336.out 0
          have hfz49_1 := zF BK336.out 1
          have hfz49_2 := zF BK336.out 2
          have hfz49_3 := zF BK336.out 3
          go_wp2
          go_roundg k3
          case measure => have := HK1.out; have := HK2.out; have := HK3.out; omega
          case rel => exact ⟨(x8_3), (x10_3), (by first | rfl | (simp; done) | (simp [*]; done)), H', ⟨by have := HK1.out; have := HK2.out; have := HK3.out; omega⟩, ⟨by (with_reducible repeat (first | apply Kd.S_alloc | apply Kd.S_drewN | apply Kd.S_drew)); exact HO_8.out⟩, ⟨by (with_reducible repeat (first | refine zI ?_ _ | refine zJ ?_ | refine zH ?_ _)); exact BK336.out⟩, ⟨by repeat (first | (with_reducible first | exact HB.out | apply zD | apply zB | apply zC | refine zE ?_ GE336.out) | exact HB.out)⟩⟩
      ·replace c12 := Bool.eq_false_iff.mpr c12
       subst c12
       have H1 : (some (x8_2, true)) = some (r1, r2) := by rw [if_neg (show ¬ (false = true) by decide)] at H; exact H
       clear H
       have H := H1
       clear H1
       simp only [Option.some.injEq, Prod.mk.injEq] at H
       obtain ⟨rfl, rfl⟩ := H
       go_wp2
       go_ret2
       exact ⟨_, by first | rfl | (simp [zX, zY] <;> rfl) | (simp [*, zX, zY] <;> rfl), by (with_reducible repeat (first | apply Kd.S_alloc | apply Kd.S_drewN | apply Kd.S_drew)); exact HO_8.out, by repeat (first | (with_reducible first | exact HB.out | apply zD | apply zB | apply zC | refine zE ?_ GE336.out) | exact HB.out)⟩
def yB.f (k : Nat) (a0_0 : Int) (a0_1 : Int) (l0_2 : List Int) (l0_3 : List (S61)) : Option ((List (List ByteArray)) × Int) := (zK.f k a0_0 a0_1 l0_2 l0_3).bind fun t356 => (if t356 = 0 then ((zR.f k a0_0 a0_1 l0_2 l0_3 a0_1 600).bind fun bt357 => (if bt357.2 = true then (some (bt357.1, 0)) else (some (([] : List (List ByteArray)), 15)))) else (some (([] : List (List ByteArray)), t356)))
theorem yB.mono : ∀ a0 a1 a2 a3 k, LeO (yB.f k a0 a1 a2 a3) (yB.f (k + 1) a0 a1 a2 a3) := by
 intro a0 a1 a2 a3 k
 unfold yB.f
 repeat' first
   | (with_reducible exact zK.mono _ _ _ _ _)
   | (with_reducible exact zR.mono _ _ _ _ _ _ _)
   | (with_reducible exact LeO.refl _)
   | (with_reducible exact LeO.none _)
   | (with_reducible refine LeO.ite ?_ ?_)
   | (with_reducible refine LeO.bind ?_ (fun _ => ?_))
   | exact zK.mono _ _ _ _ _
   | exact zR.mono _ _ _ _ _ _ _
   | exact LeO.none _
   | refine LeO.ite ?_ ?_
   | refine LeO.bind ?_ (fun _ => ?_)
set_option maxHeartbeats 8000000 in
set_option maxRecDepth 100000 in
theorem yB.calls (k : Nat) (a0_0 : Int) (a0_1 : Int) (A0_2 : Option Addr) (c0_2 : Nat) (l0_2 : List Int) (A0_3 : Option Addr) (c0_3 : Nat) (l0_3 : List (S61)) (r1 : List (List ByteArray)) (r2 : Int) (w : World) (hr0_2 : Kd.C (Kd.int .i64) w A0_2 l0_2.length l0_2) (hc0_2 : l0_2.length ≤ c0_2) (hr0_3 : Kd.C k61 w A0_3 l0_3.length l0_3) (hc0_3 : l0_3.length ≤ c0_3) (h : yB.f k a0_0 a0_1 l0_2 l0_3 = some (r1, r2)) :
  Calls Try.prog 48 #[.agg #[.int .i64 a0_0, .int .i64 a0_1, .slice A0_2 l0_2.length c0_2, .slice A0_3 l0_3.length c0_3]] w fun e w' => ∃ v0_ : Value, e = .returned (.tuple #[v0_, .int .i64 r2]) ∧ Kd.S (Kd.slice 9 Kd.string) 27 w' w.heap.size (fun _ => True) v0_ r1 ∧ Below w.heap.size w w' := by
 have hu25 := Try.underlying25
 have HR0_2 := zA.mk hr0_2
 have HC0_2 := zA.mk hc0_2
 clear hr0_2 hc0_2
 have HR0_3 := zA.mk hr0_3
 have HC0_3 := zA.mk hc0_3
 clear hr0_3 hc0_3
 have HB := zA.mk (Below.refl w.heap.size w)
 have H : ((zK.f k a0_0 a0_1 l0_2 l0_3).bind fun t356 => (if t356 = 0 then ((zR.f k a0_0 a0_1 l0_2 l0_3 a0_1 600).bind fun bt357 => (if bt357.2 = true then (some (bt357.1, 0)) else (some (([] : List (List ByteArray)), 15)))) else (some (([] : List (List ByteArray)), t356)))) = some (r1, r2) := h
 clear h
 replace H := Option.bind_eq_some_iff.mp H
 obtain ⟨t356, A20, H⟩ := H
 replace H : (if t356 = 0 then ((zR.f k a0_0 a0_1 l0_2 l0_3 a0_1 600).bind fun bt357 => (if bt357.2 = true then (some (bt357.1, 0)) else (some (([] : List (List ByteArray)), 15)))) else (some (([] : List (List ByteArray)), t356))) = some (r1, r2) := H
 have A2 := zA.mk A20
 clear A20
 by_cases c3 : t356 = 0
 ·rw [if_pos c3] at H
  have c3b0 : (t356 == 0) = true := beq_iff_eq.mpr c3
  have c3b1 : (t356 != 0) = false := bne_eq_false_iff_eq.mpr c3
  clear c3
  replace H := Option.bind_eq_some_iff.mp H
  obtain ⟨⟨t357, t360⟩, A40, H⟩ := H
  replace H : (if t360 = true then (some (t357, 0)) else (some (([] : List (List ByteArray)), 15))) = some (r1, r2) := H
  have A4 := zA.mk A40
  clear A40
  by_cases c5 : t360 = true
  ·subst c5
   have H1 : (some (t357, 0)) = some (r1, r2) := by rw [if_pos rfl] at H; exact H
   clear H
   have H := H1
   clear H1
   simp only [Option.some.injEq, Prod.mk.injEq] at H
   obtain ⟨rfl, rfl⟩ := H
   go_enter Try.func48, Try.ntmps48
   go_wp2_with (first | ((with_reducible refine zr (N := 1) rfl ?_); refine zz ?hg (N := 1) ?hd (cs := #[.int .i64 a0_0, .int .i64 a0_1, .slice A0_2 l0_2.length c0_2, .slice A0_3 l0_3.length c0_3]) (t := 25) ?hr ?_; (case hd => rfl); (case hg => rfl); (case hr => first | (go_simp; done) | (go_simp; rfl)); intro gb355 hg w6 hbox hb; have n0_ := zA.mk (zL (by repeat (first | (with_reducible first | exact HB.out | apply zD | apply zB | apply zC) | exact HB.out)) hb); have n1_ := zA.mk (hbox); have n2_ := zA.mk ((by rw [hg]; exact (zN (by repeat (first | (with_reducible first | exact HB.out | apply zD | apply zB | apply zC) | exact HB.out))) : w.heap.size ≤ gb355)); have n3_ := zA.mk ((by rw [hg]; exact (zN (by repeat (first | (with_reducible first | exact HB.out | apply zD | apply zB | apply zC) | exact HB.out))) : w.heap.size ≤ gb355)); clear HB; have HB := n0_; have BK355 := n1_; have GW355 := n2_; have GE355 := n3_; clear n0_ n1_ n2_ n3_; clear hb hbox hg; have hcz7_0 : w6.cell? ⟨gb355, 0, none⟩ = some (.int .i64 a0_0) := (zG BK355.out 0).trans rfl; have hcz7_1 : w6.cell? ⟨gb355, 1, none⟩ = some (.int .i64 a0_1) := (zG BK355.out 1).trans rfl; have hcz7_2 : w6.cell? ⟨gb355, 2, none⟩ = some (.slice A0_2 l0_2.length c0_2) := (zG BK355.out 2).trans rfl; have hcz7_3 : w6.cell? ⟨gb355, 3, none⟩ = some (.slice A0_3 l0_3.length c0_3) := (zG BK355.out 3).trans rfl; have hfz7_0 := zF BK355.out 0; have hfz7_1 := zF BK355.out 1; have hfz7_2 := zF BK355.out 2; have hfz7_3 := zF BK355.out 3) | ((with_reducible refine zt (f := 10) rfl ?_); refine yM (some 8) rfl rfl Try.func10 (by kernel_rfl) rfl #[.agg #[.int .i64 a0_0, .int .i64 a0_1, .slice A0_2 l0_2.length c0_2, .slice A0_3 l0_3.length c0_3]] rfl (by (try simp only [List.map_toArray, List.map_cons, List.map_nil]); first | done | rfl | (simp only [List.length_drop, List.length_take]; rfl)) ?_; (with_reducible refine (zK.calls k a0_0 a0_1 _ _ l0_2 _ _ l0_3 t356 _ ?side1 ?side2 ?side3 ?side4 A2.out).mono ?_); (case side1 => repeat (first | exact (Kd.C_below HR0_2.out HB.out) | (with_reducible refine Kd.C_alloc ?_ _) | (with_reducible refine Kd.C_drewN ?_ _) | (with_reducible refine Kd.C_drew ?_))); (case side2 => exact HC0_2.out); (case side3 => repeat (first | exact (Kd.C_below HR0_3.out HB.out) | (with_reducible refine Kd.C_alloc ?_ _) | (with_reducible refine Kd.C_drewN ?_ _) | (with_reducible refine Kd.C_drew ?_))); (case side4 => exact HC0_3.out); rintro e w8 ⟨rfl, hb⟩; refine ⟨_, rfl, ?_⟩; have n0_ := zA.mk (zn (g := gb355) (o := .cells #[.int .i64 a0_0, .int .i64 a0_1, .slice A0_2 l0_2.length c0_2, .slice A0_3 l0_3.length c0_3] 25 (0, 0)) (by (with_reducible repeat (first | refine zI ?_ _ | refine zJ ?_ | refine zH ?_ _)); exact BK355.out) hb); have n1_ := zA.mk (zL (by repeat (first | (with_reducible first | exact HB.out | apply zD | apply zB | apply zC | refine zE ?_ GE355.out) | exact HB.out)) hb); clear BK355; clear HB; have BK355 := n0_; have HB := n1_; clear n0_ n1_; (try clear hb); (try clear hb2); (try clear hk); (try clear hi); have hcz9_0 : w8.cell? ⟨gb355, 0, none⟩ = some (.int .i64 a0_0) := (zG BK355.out 0).trans rfl; have hcz9_1 : w8.cell? ⟨gb355, 1, none⟩ = some (.int .i64 a0_1) := (zG BK355.out 1).trans rfl; have hcz9_2 : w8.cell? ⟨gb355, 2, none⟩ = some (.slice A0_2 l0_2.length c0_2) := (zG BK355.out 2).trans rfl; have hcz9_3 : w8.cell? ⟨gb355, 3, none⟩ = some (.slice A0_3 l0_3.length c0_3) := (zG BK355.out 3).trans rfl; have hfz9_0 := zF BK355.out 0; have hfz9_1 := zF BK355.out 1; have hfz9_2 := zF BK355.out 2; have hfz9_3 := zF BK355.out 3) | ((with_reducible refine zt (f := 81) rfl ?_); refine yM (some 16) rfl rfl Try.func81 (by kernel_rfl) rfl #[.agg #[.int .i64 a0_0, .int .i64 a0_1, .slice A0_2 l0_2.length c0_2, .slice A0_3 l0_3.length c0_3], .int .i64 a0_1, .int .i64 600] rfl (by (try simp only [List.map_toArray, List.map_cons, List.map_nil]); first | done | rfl | (simp only [List.length_drop, List.length_take]; rfl)) ?_; (with_reducible refine (zR.calls k a0_0 a0_1 _ _ l0_2 _ _ l0_3 a0_1 600 t357 true _ ?side1 ?side2 ?side3 ?side4 A4.out).mono ?_); (case side1 => repeat (first | exact (Kd.C_below HR0_2.out HB.out) | (with_reducible refine Kd.C_alloc ?_ _) | (with_reducible refine Kd.C_drewN ?_ _) | (with_reducible refine Kd.C_drew ?_))); (case side2 => exact HC0_2.out); (case side3 => repeat (first | exact (Kd.C_below HR0_3.out HB.out) | (with_reducible refine Kd.C_alloc ?_ _) | (with_reducible refine Kd.C_drewN ?_ _) | (with_reducible refine Kd.C_drew ?_))); (case side4 => exact HC0_3.out); rintro e w10 ⟨v358, rfl, ho0, hb⟩; refine ⟨_, rfl, ?_⟩; have n0_ := zA.mk (Kd.S_lower ho0 (zN (by repeat (first | (with_reducible first | exact HB.out | apply zD | apply zB | apply zC | refine zE ?_ GE355.out) | exact HB.out)))); have n2_ := zA.mk (zL (by repeat (first | (with_reducible first | exact HB.out | apply zD | apply zB | apply zC | refine zE ?_ GE355.out) | exact HB.out)) hb); clear HB; have HO359 := n0_; have HB := n2_; clear n0_ n2_; (try clear hb); (try clear hb2); (try clear hk); (try clear hi); (try clear ho0)))
   go_ret2
   exact ⟨_, by first | rfl | (simp [zX, zY] <;> rfl) | (simp [*, zX, zY] <;> rfl), by (with_reducible repeat (first | apply Kd.S_alloc | apply Kd.S_drewN | apply Kd.S_drew)); exact HO359.out, by repeat (first | (with_reducible first | exact HB.out | apply zD | apply zB | apply zC | refine zE ?_ GE355.out) | exact HB.out)⟩
  ·replace c5 := Bool.eq_false_iff.mpr c5
   subst c5
   have H1 : (some (([] : List (List ByteArray)), 15)) = some (r1, r2) := by rw [if_neg (show ¬ (false = true) by decide)] at H; exact H
   clear H
   have H := H1
   clear H1
   simp only [Option.some.injEq, Prod.mk.injEq] at H
   obtain ⟨rfl, rfl⟩ := H
   go_enter Try.func48, Try.ntmps48
   go_wp2_with (first | ((with_reducible refine zr (N := 1) rfl ?_); refine zz ?hg (N := 1) ?hd (cs := #[.int .i64 a0_0, .int .i64 a0_1, .slice A0_2 l0_2.length c0_2, .slice A0_3 l0_3.length c0_3]) (t := 25) ?hr ?_; (case hd => rfl); (case hg => rfl); (case hr => first | (go_simp; done) | (go_simp; rfl)); intro gb355 hg w11 hbox hb; have n0_ := zA.mk (zL (by repeat (first | (with_reducible first | exact HB.out | apply zD | apply zB | apply zC) | exact HB.out)) hb); have n1_ := zA.mk (hbox); have n2_ := zA.mk ((by rw [hg]; exact (zN (by repeat (first | (with_reducible first | exact HB.out | apply zD | apply zB | apply zC) | exact HB.out))) : w.heap.size ≤ gb355)); have n3_ := zA.mk ((by rw [hg]; exact (zN (by repeat (first | (with_reducible first | exact HB.out | apply zD | apply zB | apply zC) | exact HB.out))) : w.heap.size ≤ gb355)); clear HB; have HB := n0_; have BK355 := n1_; have GW355 := n2_; have GE355 := n3_; clear n0_ n1_ n2_ n3_; clear hb hbox hg; have hcz12_0 : w11.cell? ⟨gb355, 0, none⟩ = some (.int .i64 a0_0) := (zG BK355.out 0).trans rfl; have hcz12_1 : w11.cell? ⟨gb355, 1, none⟩ = some (.int .i64 a0_1) := (zG BK355.out 1).trans rfl; have hcz12_2 : w11.cell? ⟨gb355, 2, none⟩ = some (.slice A0_2 l0_2.length c0_2) := (zG BK355.out 2).trans rfl; have hcz12_3 : w11.cell? ⟨gb355, 3, none⟩ = some (.slice A0_3 l0_3.length c0_3) := (zG BK355.out 3).trans rfl; have hfz12_0 := zF BK355.out 0; have hfz12_1 := zF BK355.out 1; have hfz12_2 := zF BK355.out 2; have hfz12_3 := zF BK355.out 3) | ((with_reducible refine zt (f := 10) rfl ?_); refine yM (some 8) rfl rfl Try.func10 (by kernel_rfl) rfl #[.agg #[.int .i64 a0_0, .int .i64 a0_1, .slice A0_2 l0_2.length c0_2, .slice A0_3 l0_3.length c0_3]] rfl (by (try simp only [List.map_toArray, List.map_cons, List.map_nil]); first | done | rfl | (simp only [List.length_drop, List.length_take]; rfl)) ?_; (with_reducible refine (zK.calls k a0_0 a0_1 _ _ l0_2 _ _ l0_3 t356 _ ?side1 ?side2 ?side3 ?side4 A2.out).mono ?_); (case side1 => repeat (first | exact (Kd.C_below HR0_2.out HB.out) | (with_reducible refine Kd.C_alloc ?_ _) | (with_reducible refine Kd.C_drewN ?_ _) | (with_reducible refine Kd.C_drew ?_))); (case side2 => exact HC0_2.out); (case side3 => repeat (first | exact (Kd.C_below HR0_3.out HB.out) | (with_reducible refine Kd.C_alloc ?_ _) | (with_reducible refine Kd.C_drewN ?_ _) | (with_reducible refine Kd.C_drew ?_))); (case side4 => exact HC0_3.out); rintro e w13 ⟨rfl, hb⟩; refine ⟨_, rfl, ?_⟩; have n0_ := zA.mk (zn (g := gb355) (o := .cells #[.int .i64 a0_0, .int .i64 a0_1, .slice A0_2 l0_2.length c0_2, .slice A0_3 l0_3.length c0_3] 25 (0, 0)) (by (with_reducible repeat (first | refine zI ?_ _ | refine zJ ?_ | refine zH ?_ _)); exact BK355.out) hb); have n1_ := zA.mk (zL (by repeat (first | (with_reducible first | exact HB.out | apply zD | apply zB | apply zC | refine zE ?_ GE355.out) | exact HB.out)) hb); clear BK355; clear HB; have BK355 := n0_; have HB := n1_; clear n0_ n1_; (try clear hb); (try clear hb2); (try clear hk); (try clear hi); have hcz14_0 : w13.cell? ⟨gb355, 0, none⟩ = some (.int .i64 a0_0) := (zG BK355.out 0).trans rfl; have hcz14_1 : w13.cell? ⟨gb355, 1, none⟩ = some (.int .i64 a0_1) := (zG BK355.out 1).trans rfl; have hcz14_2 : w13.cell? ⟨gb355, 2, none⟩ = some (.slice A0_2 l0_2.length c0_2) := (zG BK355.out 2).trans rfl; have hcz14_3 : w13.cell? ⟨gb355, 3, none⟩ = some (.slice A0_3 l0_3.length c0_3) := (zG BK355.out 3).trans rfl; have hfz14_0 := zF BK355.out 0; have hfz14_1 := zF BK355.out 1; have hfz14_2 := zF BK355.out 2; have hfz14_3 := zF BK355.out 3) | ((with_reducible refine zt (f := 81) rfl ?_); refine yM (some 16) rfl rfl Try.func81 (by kernel_rfl) rfl #[.agg #[.int .i64 a0_0, .int .i64 a0_1, .slice A0_2 l0_2.length c0_2, .slice A0_3 l0_3.length c0_3], .int .i64 a0_1, .int .i64 600] rfl (by (try simp only [List.map_toArray, List.map_cons, List.map_nil]); first | done | rfl | (simp only [List.length_drop, List.length_take]; rfl)) ?_; (with_reducible refine (zR.calls k a0_0 a0_1 _ _ l0_2 _ _ l0_3 a0_1 600 t357 false _ ?side1 ?side2 ?side3 ?side4 A4.out).mono ?_); (case side1 => repeat (first | exact (Kd.C_below HR0_2.out HB.out) | (with_reducible refine Kd.C_alloc ?_ _) | (with_reducible refine Kd.C_drewN ?_ _) | (with_reducible refine Kd.C_drew ?_))); (case side2 => exact HC0_2.out); (case side3 => repeat (first | exact (Kd.C_below HR0_3.out HB.out) | (with_reducible refine Kd.C_alloc ?_ _) | (with_reducible refine Kd.C_drewN ?_ _) | (with_reducible refine Kd.C_drew ?_))); (case side4 => exact HC0_3.out); rintro e w15 ⟨v358, rfl, ho0, hb⟩; refine ⟨_, rfl, ?_⟩; have n2_ := zA.mk (zL (by repeat (first | (with_reducible first | exact HB.out | apply zD | apply zB | apply zC | refine zE ?_ GE355.out) | exact HB.out)) hb); clear HB; have HB := n2_; clear n2_; (try clear hb); (try clear hb2); (try clear hk); (try clear hi); (try clear ho0)))
   go_ret2
   exact ⟨_, by first | rfl | (simp [zX, zY] <;> rfl) | (simp [*, zX, zY] <;> rfl), by first | exact Kd.S_nil _ _ _ _ _ | exact Kd.N_nil _ _ _ _ _ | exact Kd.V_nil _ _ _ _ _ | exact Kd.Q_nil _ _ _ _ _ | exact Kd.R_nil _ _ _ _ _, by repeat (first | (with_reducible first | exact HB.out | apply zD | apply zB | apply zC | refine zE ?_ GE355.out) | exact HB.out)⟩
 ·rw [if_neg c3] at H
  have c3b0 : (t356 == 0) = false := beq_eq_false_iff_ne.mpr c3
  have c3b1 : (t356 != 0) = true := bne_iff_ne.mpr c3
  simp only [Option.some.injEq, Prod.mk.injEq] at H
  obtain ⟨rfl, rfl⟩ := H
  go_enter Try.func48, Try.ntmps48
  go_wp2_with (first | ((with_reducible refine zr (N := 1) rfl ?_); refine zz ?hg (N := 1) ?hd (cs := #[.int .i64 a0_0, .int .i64 a0_1, .slice A0_2 l0_2.length c0_2, .slice A0_3 l0_3.length c0_3]) (t := 25) ?hr ?_; (case hd => rfl); (case hg => rfl); (case hr => first | (go_simp; done) | (go_simp; rfl)); intro gb355 hg w16 hbox hb; have n0_ := zA.mk (zL (by repeat (first | (with_reducible first | exact HB.out | apply zD | apply zB | apply zC) | exact HB.out)) hb); have n1_ := zA.mk (hbox); have n2_ := zA.mk ((by rw [hg]; exact (zN (by repeat (first | (with_reducible first | exact HB.out | apply zD | apply zB | apply zC) | exact HB.out))) : w.heap.size ≤ gb355)); have n3_ := zA.mk ((by rw [hg]; exact (zN (by repeat (first | (with_reducible first | exact HB.out | apply zD | apply zB | apply zC) | exact HB.out))) : w.heap.size ≤ gb355)); clear HB; have HB := n0_; have BK355 := n1_; have GW355 := n2_; have GE355 := n3_; clear n0_ n1_ n2_ n3_; clear hb hbox hg; have hcz17_0 : w16.cell? ⟨gb355, 0, none⟩ = some (.int .i64 a0_0) := (zG BK355.out 0).trans rfl; have hcz17_1 : w16.cell? ⟨gb355, 1, none⟩ = some (.int .i64 a0_1) := (zG BK355.out 1).trans rfl; have hcz17_2 : w16.cell? ⟨gb355, 2, none⟩ = some (.slice A0_2 l0_2.length c0_2) := (zG BK355.out 2).trans rfl; have hcz17_3 : w16.cell? ⟨gb355, 3, none⟩ = some (.slice A0_3 l0_3.length c0_3) := (zG BK355.out 3).trans rfl; have hfz17_0 := zF BK355.out 0; have hfz17_1 := zF BK355.out 1; have hfz17_2 := zF BK355.out 2; have hfz17_3 := zF BK355.out 3) | ((with_reducible refine zt (f := 10) rfl ?_); refine yM (some 8) rfl rfl Try.func10 (by kernel_rfl) rfl #[.agg #[.int .i64 a0_0, .int .i64 a0_1, .slice A0_2 l0_2.length c0_2, .slice A0_3 l0_3.length c0_3]] rfl (by (try simp only [List.map_toArray, List.map_cons, List.map_nil]); first | done | rfl | (simp only [List.length_drop, List.length_take]; rfl)) ?_; (with_reducible refine (zK.calls k a0_0 a0_1 _ _ l0_2 _ _ l0_3 t356 _ ?side1 ?side2 ?side3 ?side4 A2.out).mono ?_); (case side1 => repeat (first | exact (Kd.C_below HR0_2.out HB.out) | (with_reducible refine Kd.C_alloc ?_ _) | (with_reducible refine Kd.C_drewN ?_ _) | (with_reducible refine Kd.C_drew ?_))); (case side2 => exact HC0_2.out); (case side3 => repeat (first | exact (Kd.C_below HR0_3.out HB.out) | (with_reducible refine Kd.C_alloc ?_ _) | (with_reducible refine Kd.C_drewN ?_ _) | (with_reducible refine Kd.C_drew ?_))); (case side4 => exact HC0_3.out); rintro e w18 ⟨rfl, hb⟩; refine ⟨_, rfl, ?_⟩; have n1_ := zA.mk (zL (by repeat (first | (with_reducible first | exact HB.out | apply zD | apply zB | apply zC | refine zE ?_ GE355.out) | exact HB.out)) hb); clear HB; have HB := n1_; clear n1_; (try clear hb); (try clear hb2); (try clear hk); (try clear hi)))
  go_ret2
  exact ⟨_, by first | rfl | (simp [zX, zY] <;> rfl) | (simp [*, zX, zY] <;> rfl), by first | exact Kd.S_nil _ _ _ _ _ | exact Kd.N_nil _ _ _ _ _ | exact Kd.V_nil _ _ _ _ _ | exact Kd.Q_nil _ _ _ _ _ | exact Kd.R_nil _ _ _ _ _, by repeat (first | (with_reducible first | exact HB.out | apply zD | apply zB | apply zC | refine zE ?_ GE355.out) | exact HB.out)⟩
end Go.Proofs.Ytnihlieggknpaaa.HFollowOf
