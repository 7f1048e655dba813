-- Written by plus.py for this claim.
import Derived.Test.YtnihlieggknpaaaHFollowOfx0
import Derived.Test.YtnihlieggknpaaaHFollowOfx1
import Derived.Test.YtnihlieggknpaaaHFollowOfx10
namespace Go.Proofs.Ytnihlieggknpaaa.HFollowOf
open Go.RowKit Go.Proofs.YtnihlieggknpaaaW.PrintWords Go.Proofs.YtnihlieggknpaaaW.PrintLast Go.Proofs.YtnihlieggknpaaaW.PrintMore
attribute [local go_sem] yj yk yw yx ya yb yl ym   -- for this text's walks alone
set_option linter.unusedVariables false
set_option linter.unusedSimpArgs false
def yr.f (a0 : ByteArray) (a1 : ByteArray) (a2 : Int) : Option (ByteArray) := if a0.size + a1.size ≤ 9223372036854775807 then (if 0 ≤ (mx (mn ((a0 ++ a1).size : Int) a2) 0) then (if (mx (mn ((a0 ++ a1).size : Int) a2) 0) ≤ ((a0 ++ a1).size : Int) then (some ((a0 ++ a1).extract 0 ((mx (mn ((a0 ++ a1).size : Int) a2) 0) : Int).toNat)) else (none)) else (none)) else (none)
set_option maxHeartbeats 8000000 in
set_option maxRecDepth 100000 in
theorem yr.calls (a0 : ByteArray) (a1 : ByteArray) (a2 : Int) (r : ByteArray) (w : World) (h : yr.f a0 a1 a2 = some r) :
  Calls Try.prog 82 #[.string a0, .string a1, .int .i64 a2] w fun e w' => e = .returned (.string r) ∧ Below w.heap.size w w' := by
 have HB := zA.mk (Below.refl w.heap.size w)
 have H : (if a0.size + a1.size ≤ 9223372036854775807 then (if 0 ≤ (mx (mn ((a0 ++ a1).size : Int) a2) 0) then (if (mx (mn ((a0 ++ a1).size : Int) a2) 0) ≤ ((a0 ++ a1).size : Int) then (some ((a0 ++ a1).extract 0 ((mx (mn ((a0 ++ a1).size : Int) a2) 0) : Int).toNat)) else (none)) else (none)) else (none)) = some r := h
 clear h
 by_cases c4 : a0.size + a1.size ≤ 9223372036854775807
 ·rw [if_pos c4] at H
  have c4b0 := eq_true c4
  have c4b1 : decide (a0.size + a1.size ≤ 9223372036854775807) = true := decide_eq_true c4
  try have c4b2 : (9223372036854775807 < a0.size + a1.size) = False := eq_false (Nat.not_lt.2 c4)
  obtain ⟨ji5, hji5⟩ : ∃ j_ : Int, (mn ((a0 ++ a1).size : Int) a2) = j_ := ⟨_, rfl⟩
  replace H : (if 0 ≤ (mx (ji5) 0) then (if (mx (ji5) 0) ≤ ((a0 ++ a1).size : Int) then (some ((a0 ++ a1).extract 0 ((mx (ji5) 0) : Int).toNat)) else (none)) else (none)) = some r := by first | (rw [hji5] at H; exact H) | (simp only [hji5] at H ⊢; exact H)
  have hji5_ : (if a2 < ((a0 ++ a1).size : Int) then a2 else ((a0 ++ a1).size : Int)) = ji5 := hji5
  have hji5_s : (if a2 < ((a0.size : Int) + (a1.size : Int)) then a2 else ((a0.size : Int) + (a1.size : Int))) = ji5 := by rw [← hji5_]; rw [show ((if a2 < ((a0.size : Int) + (a1.size : Int)) then a2 else ((a0.size : Int) + (a1.size : Int)))) = _ from rfl]; simp only [ByteArray.size_append, Int.natCast_add]
  obtain ⟨ji6, hji6⟩ : ∃ j_ : Int, (mx (ji5) 0) = j_ := ⟨_, rfl⟩
  replace H : (if 0 ≤ (ji6) then (if (ji6) ≤ ((a0 ++ a1).size : Int) then (some ((a0 ++ a1).extract 0 ((ji6) : Int).toNat)) else (none)) else (none)) = some r := by first | (rw [hji6] at H; exact H) | (simp only [hji6] at H ⊢; exact H)
  have hji6_ : (if (ji5) < 0 then 0 else (ji5)) = ji6 := hji6
  by_cases c7 : 0 ≤ (ji6)
  ·rw [if_pos c7] at H
   have c7b0 := eq_true c7
   have c7b1 : decide (0 ≤ (ji6)) = true := decide_eq_true c7
   clear c7
   by_cases c8 : (ji6) ≤ ((a0 ++ a1).size : Int)
   ·rw [if_pos c8] at H
    have c8b0 := eq_true c8
    have c8b1 : decide ((ji6) ≤ ((a0 ++ a1).size : Int)) = true := decide_eq_true c8
    obtain rfl := Option.some.inj H
    go_enter Try.func82, Try.ntmps82
    go_wp2
    go_ret
    exact ⟨by first | rfl | (simp [zX, zY] <;> rfl) | (simp only [← hji5, ← hji6]; first | rfl | (simp [zX, zY] <;> rfl)) | (simp [*, zX, zY] <;> rfl), by repeat (first | (with_reducible first | exact HB.out | apply zD | apply zB | apply zC) | exact HB.out)⟩
   ·rw [if_neg c8] at H
    exact absurd H (by simp)
  ·rw [if_neg c7] at H
   exact absurd H (by simp)
 ·rw [if_neg c4] at H
  exact absurd H (by simp)
mutual
def zQ.l0 : Nat → List ByteArray → List ByteArray → Int → List ByteArray → Int → Option (List ByteArray)
 | 0, _, _, _, _, _ => none
 | k + 1, x0, x1, x2, x7, x8 => if x8 < (x0.length : Int) then (zQ.l1 k x0 x1 x2 x7 x8 0) else (some x7)
def zQ.l1 : Nat → List ByteArray → List ByteArray → Int → List ByteArray → Int → Int → Option (List ByteArray)
 | 0, _, _, _, _, _, _ => none
 | k + 1, x0, x1, x2, x7, x8, x9 => if x9 < (x1.length : Int) then (if 0 ≤ x8 then (if x8 < (x0.length : Int) then (if 0 ≤ x9 then ((yr.f (rdOf ByteArray.empty x0 x8) (rdOf ByteArray.empty x1 x9) x2).bind fun t313 => ((zZ.f k x7 t313).bind fun t314 => (zQ.l1 k x0 x1 x2 t314 x8 (wrap64 (x9 + 1))))) else (none)) else (none)) else (none)) else (zQ.l0 k x0 x1 x2 x7 (wrap64 (x8 + 1)))
end
def zQ.f (k : Nat) (l0 : List ByteArray) (l1 : List ByteArray) (a2 : Int) : Option (List ByteArray) := zQ.l0 k l0 l1 a2 (([] : List ByteArray)) 0
theorem zQ.mono_l : ∀ k, (∀ y0 y1 y2 y3 y4, LeO (zQ.l0 k y0 y1 y2 y3 y4) (zQ.l0 (k + 1) y0 y1 y2 y3 y4)) ∧ (∀ y0 y1 y2 y3 y4 y5, LeO (zQ.l1 k y0 y1 y2 y3 y4 y5) (zQ.l1 (k + 1) y0 y1 y2 y3 y4 y5))
 | 0 => ⟨fun _ _ _ _ _ r h => by simp [zQ.l0] at h, fun _ _ _ _ _ _ r h => by simp [zQ.l1] at h⟩
 | k + 1 => by
  obtain ⟨ih0, ih1⟩ := zQ.mono_l k
  refine ⟨?_, ?_⟩
  ·intro y0 y1 y2 y3 y4
   unfold zQ.l0
   repeat' first
   | (with_reducible exact ih0 _ _ _ _ _)
   | (with_reducible exact ih1 _ _ _ _ _ _)
   | (with_reducible exact zZ.mono _ _ _)
   | (with_reducible exact LeO.refl _)
   | (with_reducible exact LeO.none _)
   | (with_reducible refine LeO.ite ?_ ?_)
   | (with_reducible refine LeO.bind ?_ (fun _ => ?_))
   | exact ih0 _ _ _ _ _
   | exact ih1 _ _ _ _ _ _
   | exact zZ.mono _ _ _
   | exact LeO.none _
   | refine LeO.ite ?_ ?_
   | refine LeO.bind ?_ (fun _ => ?_)
  ·intro y0 y1 y2 y3 y4 y5
   unfold zQ.l1
   repeat' first
   | (with_reducible exact ih0 _ _ _ _ _)
   | (with_reducible exact ih1 _ _ _ _ _ _)
   | (with_reducible exact zZ.mono _ _ _)
   | (with_reducible exact LeO.refl _)
   | (with_reducible exact LeO.none _)
   | (with_reducible refine LeO.ite ?_ ?_)
   | (with_reducible refine LeO.bind ?_ (fun _ => ?_))
   | exact ih0 _ _ _ _ _
   | exact ih1 _ _ _ _ _ _
   | exact zZ.mono _ _ _
   | exact LeO.none _
   | refine LeO.ite ?_ ?_
   | refine LeO.bind ?_ (fun _ => ?_)
theorem zQ.mono : ∀ a0 a1 a2 k, LeO (zQ.f k a0 a1 a2) (zQ.f (k + 1) a0 a1 a2) := by
 intro a0 a1 a2 k
 obtain ⟨ih0, ih1⟩ := zQ.mono_l k
 unfold zQ.f
 repeat' first
   | (with_reducible exact ih0 _ _ _ _ _)
   | (with_reducible exact ih1 _ _ _ _ _ _)
   | (with_reducible exact zZ.mono _ _ _)
   | (with_reducible exact LeO.refl _)
   | (with_reducible exact LeO.none _)
   | (with_reducible refine LeO.ite ?_ ?_)
   | (with_reducible refine LeO.bind ?_ (fun _ => ?_))
   | exact ih0 _ _ _ _ _
   | exact ih1 _ _ _ _ _ _
   | exact zZ.mono _ _ _
   | exact LeO.none _
   | refine LeO.ite ?_ ?_
   | refine LeO.bind ?_ (fun _ => ?_)
def zQ.T8 : Bool × List (List Nat × List Nat) := (true, [([], []), ([], []), ([], []), ([1, 2], [1, 2]), ([3], [3]), ([], []), ([], []), ([5, 6], [5, 6]), ([7], [7]), ([], []), ([4, 8, 9], [4, 8, 9]), ([0, 10, 10], [0, 10]), ([11, 11, 0, 1, 2, 3, 4, 5, 6, 7, 8, 9, 10, 11], [0, 11])])
def zQ.B8 : List Nat := [0, 0, 0, 6, 14, 0, 0, 96, 224, 0, 1022, 2047, 4095]
theorem zQ.tab8 : rtab .any (opsOf Try.f50 8) = zQ.T8 := by kernel_rfl
theorem zQ.bits8 : ZS zQ.T8.2 zQ.B8 = true := by kernel_rfl
set_option maxHeartbeats 8000000 in
set_option maxRecDepth 100000 in
theorem zQ.calls (k : Nat) (A0 : Option Addr) (c0 : Nat) (l0 : List ByteArray) (A1 : Option Addr) (c1 : Nat) (l1 : List ByteArray) (a2 : Int) (r : List ByteArray) (w : World) (hr0 : Kd.C Kd.string w A0 l0.length l0) (hc0 : l0.length ≤ c0) (hr1 : Kd.C Kd.string w A1 l1.length l1) (hc1 : l1.length ≤ c1) (h : zQ.f k l0 l1 a2 = some r) :
  Calls Try.prog 50 #[.slice A0 l0.length c0, .slice A1 l1.length c1, .int .i64 a2] w fun e w' => ∃ v0_ : Value, e = .returned (v0_) ∧ Kd.R Kd.string 9 w' w.heap.size (fun _ => True) v0_ r ∧ Below w.heap.size w w' := by
 have HR0 := zA.mk hr0
 have HC0 := zA.mk hc0
 clear hr0 hc0
 have HR1 := zA.mk hr1
 have HC1 := zA.mk hc1
 clear hr1 hc1
 have HB := zA.mk (Below.refl w.heap.size w)
 have H : (zQ.l0 k l0 l1 a2 (([] : List ByteArray)) 0) = some r := h
 clear h
 obtain ⟨y308, hy308⟩ : ∃ y_ : List ByteArray, y_ = (([] : List ByteArray)) := ⟨_, rfl⟩
 replace H : (zQ.l0 k l0 l1 a2 y308 0) = some r := by first | (rw [hy308]; with_reducible exact H) | (have H2_ := (Option.bind_some _ _).symm.trans H; rw [hy308]; with_reducible exact H2_) | (have H2_ := (Option.bind_some _ _).symm.trans H; with_reducible exact H2_) | with_reducible exact H | (rw [hy308]; exact H) | exact H
 have Ny308 := zA.mk hy308
 clear hy308
 have H' := zA.mk H
 clear H
 go_enter Try.func50, Try.ntmps50
 go_wp2_with (first | ((with_reducible refine zr (N := 10) rfl ?_); refine Kd.R_lit Kd.string _ 9 ?hg (N := 10) ?hd (xs := ([] : List ByteArray)) (inner := []) (ok := fun _ => True) (okp := fun _ => True) ?hr ?hp (fun _ hk => hk) trivial (Below.refl _ _) (Nat.le_refl _) (by simp) ?_; (case hd => rfl); (case hg => rfl); (case hr => first | (go_simp; done) | (go_simp; rfl)); (case hp => exact (Reps.none _ _)); intro v309 w4 ho5 hb hg_ hnew_; clear hg_ hnew_; (first | rw [← Ny308.out] at ho5 | (simp only [Int.reduceToNat] at ho5; rw [← Ny308.out] at ho5)); have n0_ := zA.mk (Kd.R_lower ho5 (zN (by repeat (first | (with_reducible first | exact HB.out | apply zD | apply zB | apply zC) | exact HB.out)))); have n1_ := zA.mk (zL (by repeat (first | (with_reducible first | exact HB.out | apply zD | apply zB | apply zC) | exact HB.out)) hb); clear HB; have HO310 := n0_; have HB := n1_; clear n0_ n1_; clear hb ho5))
 go_loopg [7, 8] k (fun kq v7 v8 w' => ∃ (x7_1 : List ByteArray) (x8_1 : Int), v8 = .int .i64 x8_1 ∧ zA (zQ.l0 kq l0 l1 a2 x7_1 x8_1 = some r) ∧ zA (kq ≤ k) ∧ zA (Kd.R Kd.string 9 w' w.heap.size (fun _ => True) v7 x7_1) ∧ zA (Below w.heap.size w w'))
 case atStart => exact ⟨(y308), (0), (by first | rfl | (simp; done) | (simp [*]; done)), H', ⟨Nat.le_refl _⟩, ⟨by (with_reducible repeat (first | apply Kd.R_alloc | apply Kd.R_drewN | apply Kd.R_drew)); exact HO310.out⟩, ⟨by repeat (first | (with_reducible first | exact HB.out | apply zD | apply zB | apply zC) | exact HB.out)⟩⟩
 case round =>
  clear H'
  try clear c1
  try clear p2
  try clear c5
  obtain ⟨x7_1, x8_1, rfl, HA, HK1, HO_7, HB⟩ := hrel
  cases gk with
  | zero => exact absurd HA.out (by simp [zQ.l0])
  | succ k1 =>
   have H := HA.out
   clear HA
   simp only [zQ.l0] at H
   by_cases c6 : x8_1 < (l0.length : Int)
   ·rw [if_pos c6] at H
    have c6b0 : decide (x8_1 < (l0.length : Int)) = true := decide_eq_true c6
    clear c6
    have H' := zA.mk H
    clear H
    go_wp2
    go_loopg [7, 9] k1 (fun kq v7 v9 w' => ∃ (x7_2 : List ByteArray) (x9_2 : Int), v9 = .int .i64 x9_2 ∧ zA (zQ.l1 kq l0 l1 a2 x7_2 x8_1 x9_2 = some r) ∧ zA (kq ≤ k1) ∧ zA (Kd.R Kd.string 9 w' w.heap.size (fun _ => True) v7 x7_2) ∧ zA (Below w.heap.size w w'))
    case atStart => exact ⟨(x7_1), (0), (by first | rfl | (simp; done) | (simp [*]; done)), H', ⟨Nat.le_refl _⟩, ⟨by (with_reducible repeat (first | apply Kd.R_alloc | apply Kd.R_drewN | apply Kd.R_drew)); exact HO_7.out⟩, ⟨by repeat (first | (with_reducible first | exact HB.out | apply zD | apply zB | apply zC) | exact HB.out)⟩⟩
    case round =>
     clear H'
     try clear c1
     try clear p2
     try clear c5
     try clear c6
     try clear c6b0
     try clear p2
     obtain ⟨x7_2, x9_2, rfl, HA, HK2, HO_7, HB⟩ := hrel
     cases gk with
     | zero => exact absurd HA.out (by simp [zQ.l1])
     | succ k2 =>
      have H := HA.out
      clear HA
      simp only [zQ.l1] at H
      by_cases c7 : x9_2 < (l1.length : Int)
      ·rw [if_pos c7] at H
       have c7b0 : decide (x9_2 < (l1.length : Int)) = true := decide_eq_true c7
       clear c7
       by_cases c8 : 0 ≤ x8_1
       ·rw [if_pos c8] at H
        have c8b0 : decide (0 ≤ x8_1) = true := decide_eq_true c8
        clear c8
        by_cases c9 : x8_1 < (l0.length : Int)
        ·rw [if_pos c9] at H
         have c9b0 : decide (x8_1 < (l0.length : Int)) = true := decide_eq_true c9
         clear c9
         by_cases c10 : 0 ≤ x9_2
         ·rw [if_pos c10] at H
          have c10b0 : decide (0 ≤ x9_2) = true := decide_eq_true c10
          clear c10
          replace H := Option.bind_eq_some_iff.mp H
          obtain ⟨t313, A110, H⟩ := H
          replace H : ((zZ.f k2 x7_2 t313).bind fun t314 => (zQ.l1 k2 l0 l1 a2 t314 x8_1 (wrap64 (x9_2 + 1)))) = some r := H
          have A11 := zA.mk A110
          clear A110
          replace H := Option.bind_eq_some_iff.mp H
          obtain ⟨t314, A120, H⟩ := H
          replace H : (zQ.l1 k2 l0 l1 a2 t314 x8_1 (wrap64 (x9_2 + 1))) = some r := H
          have A12 := zA.mk A120
          clear A120
          have H' := zA.mk H
          clear H
          try go_wp2
          have n0_ := zA.mk (Kd.R_drew HO_7.out)
          have n1_ := zA.mk (zC HB.out)
          clear HO_7
          clear HB
          have HO_7 := n0_
          have HB := n1_
          clear n0_ n1_
          have p311 : 0 ≤ (x8_1 : Int) := of_decide_eq_true (by first | (with_reducible assumption) | assumption)
          have q311 : x8_1 < (l0.length : Int) := of_decide_eq_true (by first | (with_reducible assumption) | assumption)
          obtain ⟨ad311, e311, hx311_0⟩ := Kd.at_string HR0.out x8_1 p311 q311
          have hw311_0 := hx311_0
          cases e311
          replace hx311_0 := (HB.out.cell (World.block_lt_of_cell? w _ hx311_0)).trans hx311_0
          replace p311 := eq_true p311
          replace q311 := eq_true q311
          have p312 : 0 ≤ (x9_2 : Int) := of_decide_eq_true (by first | (with_reducible assumption) | assumption)
          have q312 : x9_2 < (l1.length : Int) := of_decide_eq_true (by first | (with_reducible assumption) | assumption)
          obtain ⟨ad312, e312, hx312_0⟩ := Kd.at_string HR1.out x9_2 p312 q312
          have hw312_0 := hx312_0
          cases e312
          replace hx312_0 := (HB.out.cell (World.block_lt_of_cell? w _ hx312_0)).trans hx312_0
          replace p312 := eq_true p312
          replace q312 := eq_true q312
          refine Zr (n := 13) (S := fun w' => w'.cell? (ad311.add (x8_1).toNat) = some (.string (rdOf ByteArray.empty l0 x8_1)) ∧ w'.cell? (ad312.add (x9_2).toNat) = some (.string (rdOf ByteArray.empty l1 x9_2))) (ds := []) #[false, false, false, false, false, false, false, false, false, false, false, false, false] (by kernel_rfl) rfl rfl ⟨((HB.out.cell (World.block_lt_of_cell? w _ hw311_0)).trans hw311_0), ((HB.out.cell (World.block_lt_of_cell? w _ hw312_0)).trans hw312_0)⟩ (fun hHeld => ?_); refine ZC zQ.tab8 zQ.bits8 (fun HT_ HW_ => ?_)
          generalize wr.drew = w13 at HO_7 HB hx311_0 hx312_0 hHeld ⊢
          refine yF (i := 0) (N := some 23) (v := ?_) (a' := ?_) #[true, false, false, false, false, false, false, false, false, false, false, false, false] rfl rfl (zy HT_.out (by kernel_rfl)) (fun _ _ _ h => h) (Or.inl ⟨by rfl, ?_⟩) ?_ ?_
          rotate_left
          ·intro w'
           go_simp
           with_reducible rfl
          rotate_left
          ·simp only [Act.put, List.setIfInBounds_toArray, List.set_cons_zero, List.set_cons_succ, zv, zw]
           rfl
          refine yF (i := 1) (N := some 24) (v := ?_) (a' := ?_) #[true, true, false, false, false, false, false, false, false, false, false, false, false] rfl rfl (zy HT_.out (by kernel_rfl)) (fun _ _ _ h => h) (Or.inl ⟨by rfl, ?_⟩) ?_ ?_
          rotate_left
          ·intro w'
           go_simp
           with_reducible rfl
          rotate_left
          ·simp only [Act.put, List.setIfInBounds_toArray, List.set_cons_zero, List.set_cons_succ, zv, zw]
           rfl
          refine yF (i := 2) (N := some 25) (v := ?_) (a' := ?_) #[true, true, true, false, false, false, false, false, false, false, false, false, false] rfl rfl (zy HT_.out (by kernel_rfl)) (fun _ _ _ h => h) (Or.inl ⟨by rfl, ?_⟩) ?_ ?_
          rotate_left
          ·intro w'
           go_simp
           with_reducible rfl
          rotate_left
          ·simp only [Act.put, List.setIfInBounds_toArray, List.set_cons_zero, List.set_cons_succ, zv, zw]
           rfl
          refine yF (i := 3) (N := some 26) (v := ?_) (a' := ?_) #[true, true, true, true, false, false, false, false, false, false, false, false, false] rfl rfl (zy HT_.out (by kernel_rfl)) (fun _ _ _ h => h) (Or.inl ⟨by rfl, ?_⟩) ?_ ?_
          rotate_left
          ·intro w'
           go_simp
           with_reducible rfl
          rotate_left
          ·simp only [Act.put, List.setIfInBounds_toArray, List.set_cons_zero, List.set_cons_succ, zv, zw]
           rfl
          refine yF (i := 5) (N := some 28) (v := ?_) (a' := ?_) #[true, true, true, true, false, true, false, false, false, false, false, false, false] rfl rfl (zy HT_.out (by kernel_rfl)) (fun _ _ _ h => h) (Or.inl ⟨by rfl, ?_⟩) ?_ ?_
          rotate_left
          ·intro w'
           go_simp
           with_reducible rfl
          rotate_left
          ·simp only [Act.put, List.setIfInBounds_toArray, List.set_cons_zero, List.set_cons_succ, zv, zw]
           rfl
          refine yF (i := 6) (N := some 29) (v := ?_) (a' := ?_) #[true, true, true, true, false, true, true, false, false, false, false, false, false] rfl rfl (zy HT_.out (by kernel_rfl)) (fun _ _ _ h => h) (Or.inl ⟨by rfl, ?_⟩) ?_ ?_
          rotate_left
          ·intro w'
           go_simp
           with_reducible rfl
          rotate_left
          ·simp only [Act.put, List.setIfInBounds_toArray, List.set_cons_zero, List.set_cons_succ, zv, zw]
           rfl
          refine yF (i := 7) (N := some 30) (v := ?_) (a' := ?_) #[true, true, true, true, false, true, true, true, false, false, false, false, false] rfl rfl (zy HT_.out (by kernel_rfl)) (fun _ _ _ h => h) (Or.inl ⟨by rfl, ?_⟩) ?_ ?_
          rotate_left
          ·intro w'
           go_simp
           with_reducible rfl
          rotate_left
          ·simp only [Act.put, List.setIfInBounds_toArray, List.set_cons_zero, List.set_cons_succ, zv, zw]
           rfl
          refine yF (i := 9) (N := some 32) (v := ?_) (a' := ?_) #[true, true, true, true, false, true, true, true, false, true, false, false, false] rfl rfl (zy HT_.out (by kernel_rfl)) (fun _ _ _ h => h) (Or.inl ⟨by rfl, ?_⟩) ?_ ?_
          rotate_left
          ·intro w'
           go_simp
           with_reducible rfl
          rotate_left
          ·simp only [Act.put, List.setIfInBounds_toArray, List.set_cons_zero, List.set_cons_succ, zv, zw]
           rfl
          refine take_ (i := 4) (N := some 27) (v := ?_) (a' := ?_) #[true, true, true, true, true, true, true, true, false, true, false, false, false] rfl rfl (ye HT_.out HW_.out (by kernel_rfl)) (fun _ _ _ h => h) (Or.inl ⟨by rfl, ?_⟩) hHeld ?_ ?_
          rotate_left
          ·rintro w' ⟨s0, s1⟩
           go_simp
           with_reducible rfl
          rotate_left
          ·simp only [Act.put, List.setIfInBounds_toArray, List.set_cons_zero, List.set_cons_succ, zv, zw]
           rfl
          refine take_ (i := 8) (N := some 31) (v := ?_) (a' := ?_) #[true, true, true, true, true, true, true, true, true, true, false, false, false] rfl rfl (ye HT_.out HW_.out (by kernel_rfl)) (fun _ _ _ h => h) (Or.inl ⟨by rfl, ?_⟩) hHeld ?_ ?_
          rotate_left
          ·rintro w' ⟨s0, s1⟩
           go_simp
           with_reducible rfl
          rotate_left
          ·simp only [Act.put, List.setIfInBounds_toArray, List.set_cons_zero, List.set_cons_succ, zv, zw]
           rfl
          refine one_ (i := 10) (N := some 33) #[true, true, true, true, true, true, true, true, true, true, true, false, false] rfl rfl (yf HT_.out (by kernel_rfl)) (by decide) (fun K hK => ?_)
          refine goes_ Try.func82 (by kernel_rfl) rfl #[.string (rdOf ByteArray.empty l0 x8_1), .string (rdOf ByteArray.empty l1 x9_2), .int .i64 a2] (by rfl) rfl rfl (by (try simp only [List.map_toArray, List.map_cons, List.map_nil]); first | done | rfl | (simp only [List.length_drop, List.length_take]; rfl)) ?_
          with_reducible refine (yr.calls (rdOf ByteArray.empty l0 x8_1) (rdOf ByteArray.empty l1 x9_2) a2 t313 _ A11.out).mono ?_
          rintro e w14 ⟨rfl, hb⟩
          refine ⟨_, rfl, ?_⟩
          have n0_ := zA.mk (Kd.R_below (by (with_reducible repeat (first | apply Kd.R_alloc | apply Kd.R_drewN | apply Kd.R_drew)); exact HO_7.out) hb)
          have n1_ := zA.mk (zL (by repeat (first | (with_reducible first | exact HB.out | apply zD | apply zB | apply zC) | exact HB.out)) hb)
          clear HO_7
          clear HB
          have HO_7 := n0_
          have HB := n1_
          clear n0_ n1_
          (try clear hb)
          (try clear hb2)
          (try clear hk)
          (try clear hi)
          obtain ⟨Ao15, co15, eo15⟩ := Kd.R_slice HO_7.out
          (first | subst eo15 | (injection eo15 with f1_ f2_ f3_; have f4_ := f1_.symm; have f5_ := f3_.symm; clear f1_ f2_ f3_; subst f4_; subst f5_))
          refine hK.out _ _ ⟨((HB.out.cell (World.block_lt_of_cell? w _ hw311_0)).trans hw311_0), ((HB.out.cell (World.block_lt_of_cell? w _ hw312_0)).trans hw312_0)⟩ (fun hHeld => ?_)
          clear hK K
          refine yX (a' := ?_) ?_ ?_
          rotate_left
          ·show Act.put _ (some 33) _ = _
           simp only [Act.put, List.setIfInBounds_toArray, List.set_cons_zero, List.set_cons_succ, zv, zw]
           rfl
          refine one_ (i := 11) (N := some 34) #[true, true, true, true, true, true, true, true, true, true, true, true, false] rfl rfl (yf HT_.out (by kernel_rfl)) (by decide) (fun K hK => ?_)
          refine goes_ Try.func55 (by kernel_rfl) rfl #[.slice Ao15 x7_2.length co15, .string t313] (by rfl) rfl rfl (by (try simp only [List.map_toArray, List.map_cons, List.map_nil]); first | done | rfl | (simp only [List.length_drop, List.length_take]; rfl)) ?_
          with_reducible refine (zZ.calls k2 _ _ x7_2 t313 t314 _ ?side1 ?side2 A12.out).mono ?_
          (case side1 => repeat (first | exact (Kd.R_reads' HO_7.out).2.2 | (with_reducible refine Kd.C_alloc ?_ _) | (with_reducible refine Kd.C_drewN ?_ _) | (with_reducible refine Kd.C_drew ?_)))
          (case side2 => exact (Kd.R_reads' HO_7.out).2.1)
          rintro e w16 ⟨v315, rfl, ho0, hb⟩
          refine ⟨_, rfl, ?_⟩
          have n0_ := zA.mk True.intro; have n1_ := zA.mk (zZ.own ho0 (Kd.R_below (by (with_reducible repeat (first | apply Kd.R_alloc | apply Kd.R_drewN | apply Kd.R_drew)); exact HO_7.out) hb) (zN (by repeat (first | (with_reducible first | exact HB.out | apply zD | apply zB | apply zC) | exact HB.out))))
          have n2_ := zA.mk (zL (by repeat (first | (with_reducible first | exact HB.out | apply zD | apply zB | apply zC) | exact HB.out)) hb)
          clear HO_7
          clear HB
          have HO_7 := n0_
          have HO316 := n1_
          have HB := n2_
          clear n0_ n1_ n2_
          (try clear hb)
          (try clear hb2)
          (try clear hk)
          (try clear hi)
          (try clear ho0)
          refine hK.out _ _ ⟨((HB.out.cell (World.block_lt_of_cell? w _ hw311_0)).trans hw311_0), ((HB.out.cell (World.block_lt_of_cell? w _ hw312_0)).trans hw312_0)⟩ (fun hHeld => ?_)
          clear hK K
          refine yX (a' := ?_) ?_ ?_
          rotate_left
          ·show Act.put _ (some 34) _ = _
           simp only [Act.put, List.setIfInBounds_toArray, List.set_cons_zero, List.set_cons_succ, zv, zw]
           rfl
          refine yF (i := 12) (N := some 7) (v := ?_) (a' := ?_) #[true, true, true, true, true, true, true, true, true, true, true, true, true] rfl rfl (zy HT_.out (by kernel_rfl)) (fun _ _ _ h => h) (Or.inl ⟨by rfl, ?_⟩) ?_ ?_
          rotate_left
          ·intro w'
           go_simp
           with_reducible rfl
          rotate_left
          ·simp only [Act.put, List.setIfInBounds_toArray, List.set_cons_zero, List.set_cons_succ, zv, zw]
           rfl
          refine done_ (ZZ HT_.out (by kernel_rfl)) ?_
          try go_wp2
          go_roundg k2
          case measure => have := HK1.out; have := HK2.out; omega
          case rel => exact ⟨(t314), (wrap64 (x9_2 + 1)), (by first | rfl | (simp; done) | (simp [*]; done)), H', ⟨by have := HK1.out; have := HK2.out; omega⟩, ⟨by (with_reducible repeat (first | apply Kd.R_alloc | apply Kd.R_drewN | apply Kd.R_drew)); exact Kd.R_mono HO316.out (fun _ hk => trivial)⟩, ⟨by repeat (first | (with_reducible first | exact HB.out | apply zD | apply zB | apply zC) | exact HB.out)⟩⟩
         ·rw [if_neg c10] at H
          exact absurd H (by simp)
        ·rw [if_neg c9] at H
         exact absurd H (by simp)
       ·rw [if_neg c8] at H
        exact absurd H (by simp)
      ·rw [if_neg c7] at H
       have c7b0 : decide (x9_2 < (l1.length : Int)) = false := decide_eq_false c7
       clear c7
       have H' := zA.mk H
       clear H
       go_wp2
       go_roundg k2
       case measure => have := HK1.out; have := HK2.out; omega
       case rel => exact ⟨(x7_2), (wrap64 (x8_1 + 1)), (by first | rfl | (simp; done) | (simp [*]; done)), H', ⟨by have := HK1.out; have := HK2.out; omega⟩, ⟨by (with_reducible repeat (first | apply Kd.R_alloc | apply Kd.R_drewN | apply Kd.R_drew)); exact HO_7.out⟩, ⟨by repeat (first | (with_reducible first | exact HB.out | apply zD | apply zB | apply zC) | exact HB.out)⟩⟩
   ·rw [if_neg c6] at H
    have c6b0 : decide (x8_1 < (l0.length : Int)) = false := decide_eq_false c6
    clear c6
    obtain rfl := Option.some.inj H
    go_wp2
    go_ret
    exact ⟨_, by first | rfl | (simp [zX, zY] <;> rfl) | (simp [*, zX, zY] <;> rfl), by (with_reducible repeat (first | apply Kd.R_alloc | apply Kd.R_drewN | apply Kd.R_drew)); exact HO_7.out, by repeat (first | (with_reducible first | exact HB.out | apply zD | apply zB | apply zC) | exact HB.out)⟩
def za.l0 : Nat → List (S71) → Int → List (List ByteArray) → Int → List ByteArray → Int → Option (List ByteArray × Bool)
 | 0, _, _, _, _, _, _ => none
 | k + 1, x0, x1, x2, x3, x10, x11 => if x11 < (x0.length : Int) then (if 0 ≤ x11 then (if (zf x0 x11).f0 = true then ((zQ.f k x10 (([strOfNums (([((zf x0 x11).f1) % 256] : List Int))] : List ByteArray)) x1).bind fun t328 => (if (t328.length : Int) > x3 then (some (([] : List ByteArray), false)) else (za.l0 k x0 x1 x2 x3 t328 (wrap64 (x11 + 1))))) else (if 0 ≤ ((zf x0 x11).f1) then (if ((zf x0 x11).f1) < (x2.length : Int) then ((zQ.f k x10 (zm x2 ((zf x0 x11).f1)) x1).bind fun t333 => (if (t333.length : Int) > x3 then (some (([] : List ByteArray), false)) else (za.l0 k x0 x1 x2 x3 t333 (wrap64 (x11 + 1))))) else (none)) else (none))) else (none)) else (some (x10, true))
def za.f (k : Nat) (l0 : List (S71)) (a1 : Int) (l2 : List (List ByteArray)) (a3 : Int) : Option (List ByteArray × Bool) := za.l0 k l0 a1 l2 a3 (([(⟨#[]⟩ : ByteArray)] : List ByteArray)) 0
theorem za.mono_l : ∀ k, (∀ y0 y1 y2 y3 y4 y5, LeO (za.l0 k y0 y1 y2 y3 y4 y5) (za.l0 (k + 1) y0 y1 y2 y3 y4 y5))
 | 0 => fun _ _ _ _ _ _ r h => by simp [za.l0] at h
 | k + 1 => by
  have ih0 := za.mono_l k
  ·intro y0 y1 y2 y3 y4 y5
   unfold za.l0
   repeat' first
   | (with_reducible exact ih0 _ _ _ _ _ _)
   | (with_reducible exact zQ.mono _ _ _ _)
   | (with_reducible exact LeO.refl _)
   | (with_reducible exact LeO.none _)
   | (with_reducible refine LeO.ite ?_ ?_)
   | (with_reducible refine LeO.bind ?_ (fun _ => ?_))
   | exact ih0 _ _ _ _ _ _
   | exact zQ.mono _ _ _ _
   | exact LeO.none _
   | refine LeO.ite ?_ ?_
   | refine LeO.bind ?_ (fun _ => ?_)
theorem za.mono : ∀ a0 a1 a2 a3 k, LeO (za.f k a0 a1 a2 a3) (za.f (k + 1) a0 a1 a2 a3) := by
 intro a0 a1 a2 a3 k
 have ih0 := za.mono_l k
 unfold za.f
 repeat' first
   | (with_reducible exact ih0 _ _ _ _ _ _)
   | (with_reducible exact zQ.mono _ _ _ _)
   | (with_reducible exact LeO.refl _)
   | (with_reducible exact LeO.none _)
   | (with_reducible refine LeO.ite ?_ ?_)
   | (with_reducible refine LeO.bind ?_ (fun _ => ?_))
   | exact ih0 _ _ _ _ _ _
   | exact zQ.mono _ _ _ _
   | exact LeO.none _
   | refine LeO.ite ?_ ?_
   | refine LeO.bind ?_ (fun _ => ?_)
set_option maxHeartbeats 8000000 in
set_option maxRecDepth 100000 in
theorem za.calls (k : Nat) (A0 : Option Addr) (c0 : Nat) (l0 : List (S71)) (a1 : Int) (A2 : Option Addr) (c2 : Nat) (l2 : List (List ByteArray)) (a3 : Int) (r1 : List ByteArray) (r2 : Bool) (w : World) (hr0 : Kd.C k71 w A0 l0.length l0) (hc0 : l0.length ≤ c0) (hr2 : Kd.C (Kd.slice 9 Kd.string) w A2 l2.length l2) (hc2 : l2.length ≤ c2) (h : za.f k l0 a1 l2 a3 = some (r1, r2)) :
  Calls Try.prog 49 #[.slice A0 l0.length c0, .int .i64 a1, .slice A2 l2.length c2, .int .i64 a3] w fun e w' => ∃ v0_ : Value, e = .returned (.tuple #[v0_, .bool r2]) ∧ Kd.R Kd.string 9 w' w.heap.size (fun _ => True) v0_ r1 ∧ Below w.heap.size w w' := by
 have HR0 := zA.mk hr0
 have HC0 := zA.mk hc0
 clear hr0 hc0
 have HR2 := zA.mk hr2
 have HC2 := zA.mk hc2
 clear hr2 hc2
 have HB := zA.mk (Below.refl w.heap.size w)
 have H : (za.l0 k l0 a1 l2 a3 (([(⟨#[]⟩ : ByteArray)] : List ByteArray)) 0) = some (r1, r2) := h
 clear h
 obtain ⟨y317, hy317⟩ : ∃ y_ : List ByteArray, y_ = (([(⟨#[]⟩ : ByteArray)] : List ByteArray)) := ⟨_, rfl⟩
 replace H : (za.l0 k l0 a1 l2 a3 y317 0) = some (r1, r2) := by first | (rw [hy317]; with_reducible exact H) | (have H2_ := (Option.bind_some _ _).symm.trans H; rw [hy317]; with_reducible exact H2_) | (have H2_ := (Option.bind_some _ _).symm.trans H; with_reducible exact H2_) | with_reducible exact H | (rw [hy317]; exact H) | exact H
 have Ny317 := zA.mk hy317
 clear hy317
 have H' := zA.mk H
 clear H
 go_enter Try.func49, Try.ntmps49
 go_wp2_with (first | ((with_reducible refine zr (N := 13) rfl ?_); refine Kd.R_lit Kd.string _ 9 ?hg (N := 13) ?hd (xs := ([(⟨#[]⟩ : ByteArray)] : List ByteArray)) (inner := [.string (⟨#[]⟩ : ByteArray)]) (ok := fun _ => True) (okp := fun _ => True) ?hr ?hp (fun _ hk => hk) trivial (Below.refl _ _) (Nat.le_refl _) (by simp) ?_; (case hd => rfl); (case hg => rfl); (case hr => first | (go_simp; done) | (go_simp; rfl)); (case hp => exact (Reps.one (show Kd.M Kd.string _ _ _ (⟨#[]⟩ : ByteArray) [.string (⟨#[]⟩ : ByteArray)] from rfl) (Reps.none _ _))); intro v318 w5 ho6 hb hg_ hnew_; clear hg_ hnew_; (first | rw [← Ny317.out] at ho6 | (simp only [Int.reduceToNat] at ho6; rw [← Ny317.out] at ho6)); have n0_ := zA.mk (Kd.R_lower ho6 (zN (by repeat (first | (with_reducible first | exact HB.out | apply zD | apply zB | apply zC) | exact HB.out)))); have n1_ := zA.mk (zL (by repeat (first | (with_reducible first | exact HB.out | apply zD | apply zB | apply zC) | exact HB.out)) hb); clear HB; have HO319 := n0_; have HB := n1_; clear n0_ n1_; clear hb ho6))
 go_loopg [10, 11] k (fun kq v10 v11 w' => ∃ (x10_1 : List ByteArray) (x11_1 : Int), v11 = .int .i64 x11_1 ∧ zA (za.l0 kq l0 a1 l2 a3 x10_1 x11_1 = some (r1, r2)) ∧ zA (kq ≤ k) ∧ zA (Kd.R Kd.string 9 w' w.heap.size (fun _ => True) v10 x10_1) ∧ zA (Below w.heap.size w w'))
 case atStart => exact ⟨(y317), (0), (by first | rfl | (simp; done) | (simp [*]; done)), H', ⟨Nat.le_refl _⟩, ⟨by (with_reducible repeat (first | apply Kd.R_alloc | apply Kd.R_drewN | apply Kd.R_drew)); exact HO319.out⟩, ⟨by repeat (first | (with_reducible first | exact HB.out | apply zD | apply zB | apply zC) | exact HB.out)⟩⟩
 case round =>
  clear H'
  try clear c2
  try clear p2
  try clear c4
  obtain ⟨x10_1, x11_1, rfl, HA, HK1, HO_10, HB⟩ := hrel
  cases gk with
  | zero => exact absurd HA.out (by simp [za.l0])
  | succ k1 =>
   have H := HA.out
   clear HA
   simp only [za.l0] at H
   by_cases c7 : x11_1 < (l0.length : Int)
   ·rw [if_pos c7] at H
    have c7b0 : decide (x11_1 < (l0.length : Int)) = true := decide_eq_true c7
    clear c7
    by_cases c8 : 0 ≤ x11_1
    ·rw [if_pos c8] at H
     have c8b0 : decide (0 ≤ x11_1) = true := decide_eq_true c8
     clear c8
     obtain ⟨y321, hy321⟩ : ∃ y_ : List Int, y_ = (([((zf l0 x11_1).f1) % 256] : List Int)) := ⟨_, rfl⟩
     replace H : (if (zf l0 x11_1).f0 = true then ((zQ.f k1 x10_1 (([strOfNums y321] : List ByteArray)) a1).bind fun t328 => (if (t328.length : Int) > a3 then (some (([] : List ByteArray), false)) else (za.l0 k1 l0 a1 l2 a3 t328 (wrap64 (x11_1 + 1))))) else (if 0 ≤ ((zf l0 x11_1).f1) then (if ((zf l0 x11_1).f1) < (l2.length : Int) then ((zQ.f k1 x10_1 (zm l2 ((zf l0 x11_1).f1)) a1).bind fun t333 => (if (t333.length : Int) > a3 then (some (([] : List ByteArray), false)) else (za.l0 k1 l0 a1 l2 a3 t333 (wrap64 (x11_1 + 1))))) else (none)) else (none))) = some (r1, r2) := by first | (rw [hy321]; with_reducible exact H) | (have H2_ := (Option.bind_some _ _).symm.trans H; rw [hy321]; with_reducible exact H2_) | (have H2_ := (Option.bind_some _ _).symm.trans H; with_reducible exact H2_) | with_reducible exact H | (rw [hy321]; exact H) | exact H
     have Ny321 := zA.mk hy321
     clear hy321
     obtain ⟨y324, hy324⟩ : ∃ y_ : List ByteArray, y_ = (([strOfNums y321] : List ByteArray)) := ⟨_, rfl⟩
     replace H : (if (zf l0 x11_1).f0 = true then ((zQ.f k1 x10_1 y324 a1).bind fun t328 => (if (t328.length : Int) > a3 then (some (([] : List ByteArray), false)) else (za.l0 k1 l0 a1 l2 a3 t328 (wrap64 (x11_1 + 1))))) else (if 0 ≤ ((zf l0 x11_1).f1) then (if ((zf l0 x11_1).f1) < (l2.length : Int) then ((zQ.f k1 x10_1 (zm l2 ((zf l0 x11_1).f1)) a1).bind fun t333 => (if (t333.length : Int) > a3 then (some (([] : List ByteArray), false)) else (za.l0 k1 l0 a1 l2 a3 t333 (wrap64 (x11_1 + 1))))) else (none)) else (none))) = some (r1, r2) := by first | (rw [hy324]; with_reducible exact H) | (have H2_ := (Option.bind_some _ _).symm.trans H; rw [hy324]; with_reducible exact H2_) | (have H2_ := (Option.bind_some _ _).symm.trans H; with_reducible exact H2_) | with_reducible exact H | (rw [hy324]; exact H) | exact H
     have Ny324 := zA.mk hy324
     clear hy324
     obtain ⟨bq9, hbq9⟩ : ∃ b_ : Bool, b_ = ((zf l0 x11_1).f0) := ⟨_, rfl⟩
     replace H : (if bq9 = true then ((zQ.f k1 x10_1 y324 a1).bind fun t328 => (if (t328.length : Int) > a3 then (some (([] : List ByteArray), false)) else (za.l0 k1 l0 a1 l2 a3 t328 (wrap64 (x11_1 + 1))))) else (if 0 ≤ ((zf l0 x11_1).f1) then (if ((zf l0 x11_1).f1) < (l2.length : Int) then ((zQ.f k1 x10_1 (zm l2 ((zf l0 x11_1).f1)) a1).bind fun t333 => (if (t333.length : Int) > a3 then (some (([] : List ByteArray), false)) else (za.l0 k1 l0 a1 l2 a3 t333 (wrap64 (x11_1 + 1))))) else (none)) else (none))) = some (r1, r2) := by rw [← hbq9] at H; exact H
     have Nbq9 := zA.mk hbq9
     clear hbq9
     by_cases c10 : bq9 = true
     ·subst c10
      have H1 : ((zQ.f k1 x10_1 y324 a1).bind fun t328 => (if (t328.length : Int) > a3 then (some (([] : List ByteArray), false)) else (za.l0 k1 l0 a1 l2 a3 t328 (wrap64 (x11_1 + 1))))) = some (r1, r2) := by rw [if_pos rfl] at H; exact H
      clear H
      have H := H1
      clear H1
      replace H := Option.bind_eq_some_iff.mp H
      obtain ⟨t328, A110, H⟩ := H
      replace H : (if (t328.length : Int) > a3 then (some (([] : List ByteArray), false)) else (za.l0 k1 l0 a1 l2 a3 t328 (wrap64 (x11_1 + 1)))) = some (r1, r2) := H
      have A11 := zA.mk A110
      clear A110
      by_cases c12 : (t328.length : Int) > a3
      ·rw [if_pos c12] at H
       have c12b0 : decide (a3 < (t328.length : Int)) = true := decide_eq_true c12
       clear c12
       simp only [Option.some.injEq, Prod.mk.injEq] at H
       obtain ⟨rfl, rfl⟩ := H
       have p320 : 0 ≤ (x11_1 : Int) := of_decide_eq_true (by first | (with_reducible assumption) | assumption)
       have q320 : x11_1 < (l0.length : Int) := of_decide_eq_true (by first | (with_reducible assumption) | assumption)
       obtain ⟨ad320, e320, hx320_0, hx320_1⟩ := yo HR0.out x11_1 p320 q320
       (try rw [← Nbq9.out] at hx320_0)
       cases e320
       replace hx320_0 := (HB.out.cell (World.block_lt_of_cell? w _ hx320_0)).trans hx320_0
       replace hx320_1 := (HB.out.cell (World.block_lt_of_cell? w _ hx320_1)).trans hx320_1
       replace p320 := eq_true p320
       replace q320 := eq_true q320
       go_wp2_with (first | ((with_reducible refine zr (N := 26) rfl ?_); refine Kd.R_lit (Kd.int .u8) _ 5 ?hg (N := 26) ?hd (xs := ([((zf l0 x11_1).f1) % 256] : List Int)) (inner := [.int .u8 (((zf l0 x11_1).f1) % 256)]) (ok := fun _ => True) (okp := fun _ => True) ?hr ?hp (fun _ hk => hk) trivial (Below.refl _ _) (Nat.le_refl _) (by simp) ?_; (case hd => rfl); (case hg => rfl); (case hr => first | (go_simp; done) | (go_simp; rfl)); (case hp => exact (Reps.one (show Kd.M (Kd.int .u8) _ _ _ (((zf l0 x11_1).f1) % 256) [.int .u8 (((zf l0 x11_1).f1) % 256)] from rfl) (Reps.none _ _))); intro v322 w13 ho14 hb hg_ hnew_; clear hg_ hnew_; (first | rw [← Ny321.out] at ho14 | (simp only [Int.reduceToNat] at ho14; rw [← Ny321.out] at ho14)); have n0_ := zA.mk (Kd.R_below (by (with_reducible repeat (first | apply Kd.R_alloc | apply Kd.R_drewN | apply Kd.R_drew)); exact HO_10.out) hb); have n1_ := zA.mk (Kd.R_lower ho14 (zN (by repeat (first | (with_reducible first | exact HB.out | apply zD | apply zB | apply zC) | exact HB.out)))); have n2_ := zA.mk (zL (by repeat (first | (with_reducible first | exact HB.out | apply zD | apply zB | apply zC) | exact HB.out)) hb); clear HO_10; clear HB; have HO_10 := n0_; have HO323 := n1_; have HB := n2_; clear n0_ n1_ n2_; clear hb ho14; have hcv15 := ZK (P := Try.prog) Try.underlying96 Try.underlying5 Try.underlying9 (Kd.own_of_R HO323.out)) | ((with_reducible refine zr (N := 28) rfl ?_); refine Kd.R_lit Kd.string _ 9 ?hg (N := 28) ?hd (xs := ([strOfNums y321] : List ByteArray)) (inner := [.string (strOfNums y321)]) (ok := fun _ => True) (okp := fun _ => True) ?hr ?hp (fun _ hk => hk) trivial (Below.refl _ _) (Nat.le_refl _) (by simp) ?_; (case hd => rfl); (case hg => rfl); (case hr => first | (go_simp; done) | (go_simp; rfl)); (case hp => exact (Reps.one (show Kd.M Kd.string _ _ _ (strOfNums y321) [.string (strOfNums y321)] from rfl) (Reps.none _ _))); intro v325 w16 ho17 hb hg_ hnew_; clear hg_ hnew_; (first | rw [← Ny324.out] at ho17 | (simp only [Int.reduceToNat] at ho17; rw [← Ny324.out] at ho17)); have n0_ := zA.mk (Kd.R_elder' (by (with_reducible repeat (first | apply Kd.R_alloc | apply Kd.R_drewN | apply Kd.R_drew)); exact HO_10.out) (Kd.R_base ho17) hb); have n2_ := zA.mk (Kd.R_lower (Kd.R_new' ho17 (Kd.R_lt (by (with_reducible repeat (first | apply Kd.R_alloc | apply Kd.R_drewN | apply Kd.R_drew)); exact HO_10.out))) (zN (by repeat (first | (with_reducible first | exact HB.out | apply zD | apply zB | apply zC) | exact HB.out)))); have n3_ := zA.mk (zL (by repeat (first | (with_reducible first | exact HB.out | apply zD | apply zB | apply zC) | exact HB.out)) hb); clear HO_10; clear HB; have HO_10 := n0_; have HO326 := n2_; have HB := n3_; clear n0_ n2_ n3_; clear hb ho17; have p327 : 0 ≤ (x11_1 : Int) := of_decide_eq_true (by first | (with_reducible assumption) | assumption); have q327 : x11_1 < (l0.length : Int) := of_decide_eq_true (by first | (with_reducible assumption) | assumption); obtain ⟨ad327, e327, hx327_0, hx327_1⟩ := yo HR0.out x11_1 p327 q327; (try rw [← Nbq9.out] at hx327_0); obtain rfl : ad320 = ad327 := (by injection e327); replace hx327_0 := (HB.out.cell (World.block_lt_of_cell? w _ hx327_0)).trans hx327_0; replace hx327_1 := (HB.out.cell (World.block_lt_of_cell? w _ hx327_1)).trans hx327_1; replace p327 := eq_true p327; replace q327 := eq_true q327; obtain ⟨Ao18, co18, eo18⟩ := Kd.R_slice HO_10.out; subst eo18; obtain ⟨Ao19, co19, eo19⟩ := Kd.R_slice HO326.out; subst eo19) | ((with_reducible refine zt (f := 50) rfl ?_); refine yM (some 46) rfl rfl Try.func50 (by kernel_rfl) rfl #[.slice Ao18 x10_1.length co18, .slice Ao19 y324.length co19, .int .i64 a1] rfl (by (try simp only [List.map_toArray, List.map_cons, List.map_nil]); first | done | rfl | (simp only [List.length_drop, List.length_take]; rfl)) ?_; (with_reducible refine (zQ.calls k1 _ _ x10_1 _ _ y324 a1 t328 _ ?side1 ?side2 ?side3 ?side4 A11.out).mono ?_); (case side1 => repeat (first | exact (Kd.R_reads' HO_10.out).2.2 | (with_reducible refine Kd.C_alloc ?_ _) | (with_reducible refine Kd.C_drewN ?_ _) | (with_reducible refine Kd.C_drew ?_))); (case side2 => exact (Kd.R_reads' HO_10.out).2.1); (case side3 => repeat (first | exact (Kd.R_reads' HO326.out).2.2 | (with_reducible refine Kd.C_alloc ?_ _) | (with_reducible refine Kd.C_drewN ?_ _) | (with_reducible refine Kd.C_drew ?_))); (case side4 => exact (Kd.R_reads' HO326.out).2.1); rintro e w20 ⟨v329, rfl, ho0, hb⟩; refine ⟨_, rfl, ?_⟩; have n3_ := zA.mk (Kd.R_lower (yg (yg ho0)) (zN (by repeat (first | (with_reducible first | exact HB.out | apply zD | apply zB | apply zC) | exact HB.out)))); have n4_ := zA.mk (zL (by repeat (first | (with_reducible first | exact HB.out | apply zD | apply zB | apply zC) | exact HB.out)) hb); clear HB; have HO330 := n3_; have HB := n4_; clear n3_ n4_; (try clear hb); (try clear hb2); (try clear hk); (try clear hi); (try clear ho0); obtain ⟨Ao21, co21, eo21⟩ := Kd.R_slice HO330.out; subst eo21))
       go_ret2
       exact ⟨_, by first | rfl | (simp [zX, zY] <;> rfl) | (simp [*, zX, zY] <;> rfl), by first | exact Kd.R_nil _ _ _ _ _ | exact Kd.N_nil _ _ _ _ _ | exact Kd.V_nil _ _ _ _ _ | exact Kd.Q_nil _ _ _ _ _ | exact Kd.S_nil _ _ _ _ _, by repeat (first | (with_reducible first | exact HB.out | apply zD | apply zB | apply zC) | exact HB.out)⟩
      ·rw [if_neg c12] at H
       have c12b0 : decide (a3 < (t328.length : Int)) = false := decide_eq_false c12
       clear c12
       have H' := zA.mk H
       clear H
       have p320 : 0 ≤ (x11_1 : Int) := of_decide_eq_true (by first | (with_reducible assumption) | assumption)
       have q320 : x11_1 < (l0.length : Int) := of_decide_eq_true (by first | (with_reducible assumption) | assumption)
       obtain ⟨ad320, e320, hx320_0, hx320_1⟩ := yo HR0.out x11_1 p320 q320
       (try rw [← Nbq9.out] at hx320_0)
       cases e320
       replace hx320_0 := (HB.out.cell (World.block_lt_of_cell? w _ hx320_0)).trans hx320_0
       replace hx320_1 := (HB.out.cell (World.block_lt_of_cell? w _ hx320_1)).trans hx320_1
       replace p320 := eq_true p320
       replace q320 := eq_true q320
       go_wp2_with (first | ((with_reducible refine zr (N := 26) rfl ?_); refine Kd.R_lit (Kd.int .u8) _ 5 ?hg (N := 26) ?hd (xs := ([((zf l0 x11_1).f1) % 256] : List Int)) (inner := [.int .u8 (((zf l0 x11_1).f1) % 256)]) (ok := fun _ => True) (okp := fun _ => True) ?hr ?hp (fun _ hk => hk) trivial (Below.refl _ _) (Nat.le_refl _) (by simp) ?_; (case hd => rfl); (case hg => rfl); (case hr => first | (go_simp; done) | (go_simp; rfl)); (case hp => exact (Reps.one (show Kd.M (Kd.int .u8) _ _ _ (((zf l0 x11_1).f1) % 256) [.int .u8 (((zf l0 x11_1).f1) % 256)] from rfl) (Reps.none _ _))); intro v322 w22 ho23 hb hg_ hnew_; clear hg_ hnew_; (first | rw [← Ny321.out] at ho23 | (simp only [Int.reduceToNat] at ho23; rw [← Ny321.out] at ho23)); have n0_ := zA.mk (Kd.R_below (by (with_reducible repeat (first | apply Kd.R_alloc | apply Kd.R_drewN | apply Kd.R_drew)); exact HO_10.out) hb); have n1_ := zA.mk (Kd.R_lower ho23 (zN (by repeat (first | (with_reducible first | exact HB.out | apply zD | apply zB | apply zC) | exact HB.out)))); have n2_ := zA.mk (zL (by repeat (first | (with_reducible first | exact HB.out | apply zD | apply zB | apply zC) | exact HB.out)) hb); clear HO_10; clear HB; have HO_10 := n0_; have HO323 := n1_; have HB := n2_; clear n0_ n1_ n2_; clear hb ho23; have hcv24 := ZK (P := Try.prog) Try.underlying96 Try.underlying5 Try.underlying9 (Kd.own_of_R HO323.out)) | ((with_reducible refine zr (N := 28) rfl ?_); refine Kd.R_lit Kd.string _ 9 ?hg (N := 28) ?hd (xs := ([strOfNums y321] : List ByteArray)) (inner := [.string (strOfNums y321)]) (ok := fun _ => True) (okp := fun _ => True) ?hr ?hp (fun _ hk => hk) trivial (Below.refl _ _) (Nat.le_refl _) (by simp) ?_; (case hd => rfl); (case hg => rfl); (case hr => first | (go_simp; done) | (go_simp; rfl)); (case hp => exact (Reps.one (show Kd.M Kd.string _ _ _ (strOfNums y321) [.string (strOfNums y321)] from rfl) (Reps.none _ _))); intro v325 w25 ho26 hb hg_ hnew_; clear hg_ hnew_; (first | rw [← Ny324.out] at ho26 | (simp only [Int.reduceToNat] at ho26; rw [← Ny324.out] at ho26)); have n0_ := zA.mk (Kd.R_elder' (by (with_reducible repeat (first | apply Kd.R_alloc | apply Kd.R_drewN | apply Kd.R_drew)); exact HO_10.out) (Kd.R_base ho26) hb); have n2_ := zA.mk (Kd.R_lower (Kd.R_new' ho26 (Kd.R_lt (by (with_reducible repeat (first | apply Kd.R_alloc | apply Kd.R_drewN | apply Kd.R_drew)); exact HO_10.out))) (zN (by repeat (first | (with_reducible first | exact HB.out | apply zD | apply zB | apply zC) | exact HB.out)))); have n3_ := zA.mk (zL (by repeat (first | (with_reducible first | exact HB.out | apply zD | apply zB | apply zC) | exact HB.out)) hb); clear HO_10; clear HB; have HO_10 := n0_; have HO326 := n2_; have HB := n3_; clear n0_ n2_ n3_; clear hb ho26; have p327 : 0 ≤ (x11_1 : Int) := of_decide_eq_true (by first | (with_reducible assumption) | assumption); have q327 : x11_1 < (l0.length : Int) := of_decide_eq_true (by first | (with_reducible assumption) | assumption); obtain ⟨ad327, e327, hx327_0, hx327_1⟩ := yo HR0.out x11_1 p327 q327; (try rw [← Nbq9.out] at hx327_0); obtain rfl : ad320 = ad327 := (by injection e327); replace hx327_0 := (HB.out.cell (World.block_lt_of_cell? w _ hx327_0)).trans hx327_0; replace hx327_1 := (HB.out.cell (World.block_lt_of_cell? w _ hx327_1)).trans hx327_1; replace p327 := eq_true p327; replace q327 := eq_true q327; obtain ⟨Ao27, co27, eo27⟩ := Kd.R_slice HO_10.out; subst eo27; obtain ⟨Ao28, co28, eo28⟩ := Kd.R_slice HO326.out; subst eo28) | ((with_reducible refine zt (f := 50) rfl ?_); refine yM (some 46) rfl rfl Try.func50 (by kernel_rfl) rfl #[.slice Ao27 x10_1.length co27, .slice Ao28 y324.length co28, .int .i64 a1] rfl (by (try simp only [List.map_toArray, List.map_cons, List.map_nil]); first | done | rfl | (simp only [List.length_drop, List.length_take]; rfl)) ?_; (with_reducible refine (zQ.calls k1 _ _ x10_1 _ _ y324 a1 t328 _ ?side1 ?side2 ?side3 ?side4 A11.out).mono ?_); (case side1 => repeat (first | exact (Kd.R_reads' HO_10.out).2.2 | (with_reducible refine Kd.C_alloc ?_ _) | (with_reducible refine Kd.C_drewN ?_ _) | (with_reducible refine Kd.C_drew ?_))); (case side2 => exact (Kd.R_reads' HO_10.out).2.1); (case side3 => repeat (first | exact (Kd.R_reads' HO326.out).2.2 | (with_reducible refine Kd.C_alloc ?_ _) | (with_reducible refine Kd.C_drewN ?_ _) | (with_reducible refine Kd.C_drew ?_))); (case side4 => exact (Kd.R_reads' HO326.out).2.1); rintro e w29 ⟨v329, rfl, ho0, hb⟩; refine ⟨_, rfl, ?_⟩; have n3_ := zA.mk (Kd.R_lower (yg (yg ho0)) (zN (by repeat (first | (with_reducible first | exact HB.out | apply zD | apply zB | apply zC) | exact HB.out)))); have n4_ := zA.mk (zL (by repeat (first | (with_reducible first | exact HB.out | apply zD | apply zB | apply zC) | exact HB.out)) hb); clear HB; have HO330 := n3_; have HB := n4_; clear n3_ n4_; (try clear hb); (try clear hb2); (try clear hk); (try clear hi); (try clear ho0); obtain ⟨Ao30, co30, eo30⟩ := Kd.R_slice HO330.out; subst eo30))
       go_roundg k1
       case measure => have := HK1.out; omega
       case rel => exact ⟨(t328), (wrap64 (x11_1 + 1)), (by first | rfl | (simp; done) | (simp [*]; done)), H', ⟨by have := HK1.out; omega⟩, ⟨by (with_reducible repeat (first | apply Kd.R_alloc | apply Kd.R_drewN | apply Kd.R_drew)); exact Kd.R_mono HO330.out (fun _ hk => trivial)⟩, ⟨by repeat (first | (with_reducible first | exact HB.out | apply zD | apply zB | apply zC) | exact HB.out)⟩⟩
     ·replace c10 := Bool.eq_false_iff.mpr c10
      subst c10
      have H1 : (if 0 ≤ ((zf l0 x11_1).f1) then (if ((zf l0 x11_1).f1) < (l2.length : Int) then ((zQ.f k1 x10_1 (zm l2 ((zf l0 x11_1).f1)) a1).bind fun t333 => (if (t333.length : Int) > a3 then (some (([] : List ByteArray), false)) else (za.l0 k1 l0 a1 l2 a3 t333 (wrap64 (x11_1 + 1))))) else (none)) else (none)) = some (r1, r2) := by rw [if_neg (show ¬ (false = true) by decide)] at H; exact H
      clear H
      have H := H1
      clear H1
      by_cases c31 : 0 ≤ ((zf l0 x11_1).f1)
      ·rw [if_pos c31] at H
       have c31b0 : decide (0 ≤ ((zf l0 x11_1).f1)) = true := decide_eq_true c31
       clear c31
       by_cases c32 : ((zf l0 x11_1).f1) < (l2.length : Int)
       ·rw [if_pos c32] at H
        have c32b0 : decide (((zf l0 x11_1).f1) < (l2.length : Int)) = true := decide_eq_true c32
        clear c32
        replace H := Option.bind_eq_some_iff.mp H
        obtain ⟨t333, A330, H⟩ := H
        replace H : (if (t333.length : Int) > a3 then (some (([] : List ByteArray), false)) else (za.l0 k1 l0 a1 l2 a3 t333 (wrap64 (x11_1 + 1)))) = some (r1, r2) := H
        have A33 := zA.mk A330
        clear A330
        by_cases c34 : (t333.length : Int) > a3
        ·rw [if_pos c34] at H
         have c34b0 : decide (a3 < (t333.length : Int)) = true := decide_eq_true c34
         clear c34
         simp only [Option.some.injEq, Prod.mk.injEq] at H
         obtain ⟨rfl, rfl⟩ := H
         have p320 : 0 ≤ (x11_1 : Int) := of_decide_eq_true (by first | (with_reducible assumption) | assumption)
         have q320 : x11_1 < (l0.length : Int) := of_decide_eq_true (by first | (with_reducible assumption) | assumption)
         obtain ⟨ad320, e320, hx320_0, hx320_1⟩ := yo HR0.out x11_1 p320 q320
         (try rw [← Nbq9.out] at hx320_0)
         cases e320
         replace hx320_0 := (HB.out.cell (World.block_lt_of_cell? w _ hx320_0)).trans hx320_0
         replace hx320_1 := (HB.out.cell (World.block_lt_of_cell? w _ hx320_1)).trans hx320_1
         replace p320 := eq_true p320
         replace q320 := eq_true q320
         go_wp2_with (first | ((with_reducible refine zr (N := 26) rfl ?_); refine Kd.R_lit (Kd.int .u8) _ 5 ?hg (N := 26) ?hd (xs := ([((zf l0 x11_1).f1) % 256] : List Int)) (inner := [.int .u8 (((zf l0 x11_1).f1) % 256)]) (ok := fun _ => True) (okp := fun _ => True) ?hr ?hp (fun _ hk => hk) trivial (Below.refl _ _) (Nat.le_refl _) (by simp) ?_; (case hd => rfl); (case hg => rfl); (case hr => first | (go_simp; done) | (go_simp; rfl)); (case hp => exact (Reps.one (show Kd.M (Kd.int .u8) _ _ _ (((zf l0 x11_1).f1) % 256) [.int .u8 (((zf l0 x11_1).f1) % 256)] from rfl) (Reps.none _ _))); intro v322 w35 ho36 hb hg_ hnew_; clear hg_ hnew_; (first | rw [← Ny321.out] at ho36 | (simp only [Int.reduceToNat] at ho36; rw [← Ny321.out] at ho36)); have n0_ := zA.mk (Kd.R_below (by (with_reducible repeat (first | apply Kd.R_alloc | apply Kd.R_drewN | apply Kd.R_drew)); exact HO_10.out) hb); have n1_ := zA.mk (Kd.R_lower ho36 (zN (by repeat (first | (with_reducible first | exact HB.out | apply zD | apply zB | apply zC) | exact HB.out)))); have n2_ := zA.mk (zL (by repeat (first | (with_reducible first | exact HB.out | apply zD | apply zB | apply zC) | exact HB.out)) hb); clear HO_10; clear HB; have HO_10 := n0_; have HO323 := n1_; have HB := n2_; clear n0_ n1_ n2_; clear hb ho36; have hcv37 := ZK (P := Try.prog) Try.underlying96 Try.underlying5 Try.underlying9 (Kd.own_of_R HO323.out)) | ((with_reducible refine zr (N := 28) rfl ?_); refine Kd.R_lit Kd.string _ 9 ?hg (N := 28) ?hd (xs := ([strOfNums y321] : List ByteArray)) (inner := [.string (strOfNums y321)]) (ok := fun _ => True) (okp := fun _ => True) ?hr ?hp (fun _ hk => hk) trivial (Below.refl _ _) (Nat.le_refl _) (by simp) ?_; (case hd => rfl); (case hg => rfl); (case hr => first | (go_simp; done) | (go_simp; rfl)); (case hp => exact (Reps.one (show Kd.M Kd.string _ _ _ (strOfNums y321) [.string (strOfNums y321)] from rfl) (Reps.none _ _))); intro v325 w38 ho39 hb hg_ hnew_; clear hg_ hnew_; (first | rw [← Ny324.out] at ho39 | (simp only [Int.reduceToNat] at ho39; rw [← Ny324.out] at ho39)); have n0_ := zA.mk (Kd.R_elder' (by (with_reducible repeat (first | apply Kd.R_alloc | apply Kd.R_drewN | apply Kd.R_drew)); exact HO_10.out) (Kd.R_base ho39) hb); have n3_ := zA.mk (zL (by repeat (first | (with_reducible first | exact HB.out | apply zD | apply zB | apply zC) | exact HB.out)) hb); clear HO_10; clear HB; have HO_10 := n0_; have HB := n3_; clear n0_ n3_; clear hb ho39; have p327 : 0 ≤ (x11_1 : Int) := of_decide_eq_true (by first | (with_reducible assumption) | assumption); have q327 : x11_1 < (l0.length : Int) := of_decide_eq_true (by first | (with_reducible assumption) | assumption); obtain ⟨ad327, e327, hx327_0, hx327_1⟩ := yo HR0.out x11_1 p327 q327; (try rw [← Nbq9.out] at hx327_0); obtain rfl : ad320 = ad327 := (by injection e327); replace hx327_0 := (HB.out.cell (World.block_lt_of_cell? w _ hx327_0)).trans hx327_0; replace hx327_1 := (HB.out.cell (World.block_lt_of_cell? w _ hx327_1)).trans hx327_1; replace p327 := eq_true p327; replace q327 := eq_true q327; have p331 : 0 ≤ (x11_1 : Int) := of_decide_eq_true (by first | (with_reducible assumption) | assumption); have q331 : x11_1 < (l0.length : Int) := of_decide_eq_true (by first | (with_reducible assumption) | assumption); obtain ⟨ad331, e331, hx331_0, hx331_1⟩ := yo HR0.out x11_1 p331 q331; (try rw [← Nbq9.out] at hx331_0); obtain rfl : ad320 = ad331 := (by injection e331); replace hx331_0 := (HB.out.cell (World.block_lt_of_cell? w _ hx331_0)).trans hx331_0; replace hx331_1 := (HB.out.cell (World.block_lt_of_cell? w _ hx331_1)).trans hx331_1; replace p331 := eq_true p331; replace q331 := eq_true q331; have p332 : 0 ≤ (((zf l0 x11_1).f1) : Int) := of_decide_eq_true (by first | (with_reducible assumption) | assumption); have q332 : ((zf l0 x11_1).f1) < (l2.length : Int) := of_decide_eq_true (by first | (with_reducible assumption) | assumption); obtain ⟨ad332, A332_0, c332_0, e332, hx332_0, hl332_0, hi332_0⟩ := ZP HR2.out ((zf l0 x11_1).f1) p332 q332; cases e332; replace hx332_0 := (HB.out.cell (World.block_lt_of_cell? w _ hx332_0)).trans hx332_0; have HR332_0 := zA.mk hi332_0; have HC332_0 := zA.mk hl332_0; clear hi332_0 hl332_0; replace p332 := eq_true p332; replace q332 := eq_true q332; obtain ⟨Ao40, co40, eo40⟩ := Kd.R_slice HO_10.out; subst eo40) | ((with_reducible refine zt (f := 50) rfl ?_); refine yM (some 46) rfl rfl Try.func50 (by kernel_rfl) rfl #[.slice Ao40 x10_1.length co40, .slice A332_0 (zm l2 ((zf l0 x11_1).f1)).length c332_0, .int .i64 a1] rfl (by (try simp only [List.map_toArray, List.map_cons, List.map_nil]); first | done | rfl | (simp only [List.length_drop, List.length_take]; rfl)) ?_; (with_reducible refine (zQ.calls k1 _ _ x10_1 _ _ (zm l2 ((zf l0 x11_1).f1)) a1 t333 _ ?side1 ?side2 ?side3 ?side4 A33.out).mono ?_); (case side1 => repeat (first | exact (Kd.R_reads' HO_10.out).2.2 | (with_reducible refine Kd.C_alloc ?_ _) | (with_reducible refine Kd.C_drewN ?_ _) | (with_reducible refine Kd.C_drew ?_))); (case side2 => exact (Kd.R_reads' HO_10.out).2.1); (case side3 => repeat (first | exact (Kd.C_below HR332_0.out HB.out) | (with_reducible refine Kd.C_alloc ?_ _) | (with_reducible refine Kd.C_drewN ?_ _) | (with_reducible refine Kd.C_drew ?_))); (case side4 => exact HC332_0.out); rintro e w41 ⟨v334, rfl, ho0, hb⟩; refine ⟨_, rfl, ?_⟩; have n3_ := zA.mk (Kd.R_lower (yg (yg ho0)) (zN (by repeat (first | (with_reducible first | exact HB.out | apply zD | apply zB | apply zC) | exact HB.out)))); have n4_ := zA.mk (zL (by repeat (first | (with_reducible first | exact HB.out | apply zD | apply zB | apply zC) | exact HB.out)) hb); clear HB; have HO335 := n3_; have HB := n4_; clear n3_ n4_; (try clear hb); (try clear hb2); (try clear hk); (try clear hi); (try clear ho0); obtain ⟨Ao42, co42, eo42⟩ := Kd.R_slice HO335.out; subst eo42))
         go_ret2
         exact ⟨_, by first | rfl | (simp [zX, zY] <;> rfl) | (simp [*, zX, zY] <;> rfl), by first | exact Kd.R_nil _ _ _ _ _ | exact Kd.N_nil _ _ _ _ _ | exact Kd.V_nil _ _ _ _ _ | exact Kd.Q_nil _ _ _ _ _ | exact Kd.S_nil _ _ _ _ _, by repeat (first | (with_reducible first | exact HB.out | apply zD | apply zB | apply zC) | exact HB.out)⟩
        ·rw [if_neg c34] at H
         have c34b0 : decide (a3 < (t333.length : Int)) = false := decide_eq_false c34
         clear c34
         have H' := zA.mk H
         clear H
         have p320 : 0 ≤ (x11_1 : Int) := of_decide_eq_true (by first | (with_reducible assumption) | assumption)
         have q320 : x11_1 < (l0.length : Int) := of_decide_eq_true (by first | (with_reducible assumption) | assumption)
         obtain ⟨ad320, e320, hx320_0, hx320_1⟩ := yo HR0.out x11_1 p320 q320
         (try rw [← Nbq9.out] at hx320_0)
         cases e320
         replace hx320_0 := (HB.out.cell (World.block_lt_of_cell? w _ hx320_0)).trans hx320_0
         replace hx320_1 := (HB.out.cell (World.block_lt_of_cell? w _ hx320_1)).trans hx320_1
         replace p320 := eq_true p320
         replace q320 := eq_true q320
         go_wp2_with (first | ((with_reducible refine zr (N := 26) rfl ?_); refine Kd.R_lit (Kd.int .u8) _ 5 ?hg (N := 26) ?hd (xs := ([((zf l0 x11_1).f1) % 256] : List Int)) (inner := [.int .u8 (((zf l0 x11_1).f1) % 256)]) (ok := fun _ => True) (okp := fun _ => True) ?hr ?hp (fun _ hk => hk) trivial (Below.refl _ _) (Nat.le_refl _) (by simp) ?_; (case hd => rfl); (case hg => rfl); (case hr => first | (go_simp; done) | (go_simp; rfl)); (case hp => exact (Reps.one (show Kd.M (Kd.int .u8) _ _ _ (((zf l0 x11_1).f1) % 256) [.int .u8 (((zf l0 x11_1).f1) % 256)] from rfl) (Reps.none _ _))); intro v322 w43 ho44 hb hg_ hnew_; clear hg_ hnew_; (first | rw [← Ny321.out] at ho44 | (simp only [Int.reduceToNat] at ho44; rw [← Ny321.out] at ho44)); have n0_ := zA.mk (Kd.R_below (by (with_reducible repeat (first | apply Kd.R_alloc | apply Kd.R_drewN | apply Kd.R_drew)); exact HO_10.out) hb); have n1_ := zA.mk (Kd.R_lower ho44 (zN (by repeat (first | (with_reducible first | exact HB.out | apply zD | apply zB | apply zC) | exact HB.out)))); have n2_ := zA.mk (zL (by repeat (first | (with_reducible first | exact HB.out | apply zD | apply zB | apply zC) | exact HB.out)) hb); clear HO_10; clear HB; have HO_10 := n0_; have HO323 := n1_; have HB := n2_; clear n0_ n1_ n2_; clear hb ho44; have hcv45 := ZK (P := Try.prog) Try.underlying96 Try.underlying5 Try.underlying9 (Kd.own_of_R HO323.out)) | ((with_reducible refine zr (N := 28) rfl ?_); refine Kd.R_lit Kd.string _ 9 ?hg (N := 28) ?hd (xs := ([strOfNums y321] : List ByteArray)) (inner := [.string (strOfNums y321)]) (ok := fun _ => True) (okp := fun _ => True) ?hr ?hp (fun _ hk => hk) trivial (Below.refl _ _) (Nat.le_refl _) (by simp) ?_; (case hd => rfl); (case hg => rfl); (case hr => first | (go_simp; done) | (go_simp; rfl)); (case hp => exact (Reps.one (show Kd.M Kd.string _ _ _ (strOfNums y321) [.string (strOfNums y321)] from rfl) (Reps.none _ _))); intro v325 w46 ho47 hb hg_ hnew_; clear hg_ hnew_; (first | rw [← Ny324.out] at ho47 | (simp only [Int.reduceToNat] at ho47; rw [← Ny324.out] at ho47)); have n0_ := zA.mk (Kd.R_elder' (by (with_reducible repeat (first | apply Kd.R_alloc | apply Kd.R_drewN | apply Kd.R_drew)); exact HO_10.out) (Kd.R_base ho47) hb); have n3_ := zA.mk (zL (by repeat (first | (with_reducible first | exact HB.out | apply zD | apply zB | apply zC) | exact HB.out)) hb); clear HO_10; clear HB; have HO_10 := n0_; have HB := n3_; clear n0_ n3_; clear hb ho47; have p327 : 0 ≤ (x11_1 : Int) := of_decide_eq_true (by first | (with_reducible assumption) | assumption); have q327 : x11_1 < (l0.length : Int) := of_decide_eq_true (by first | (with_reducible assumption) | assumption); obtain ⟨ad327, e327, hx327_0, hx327_1⟩ := yo HR0.out x11_1 p327 q327; (try rw [← Nbq9.out] at hx327_0); obtain rfl : ad320 = ad327 := (by injection e327); replace hx327_0 := (HB.out.cell (World.block_lt_of_cell? w _ hx327_0)).trans hx327_0; replace hx327_1 := (HB.out.cell (World.block_lt_of_cell? w _ hx327_1)).trans hx327_1; replace p327 := eq_true p327; replace q327 := eq_true q327; have p331 : 0 ≤ (x11_1 : Int) := of_decide_eq_true (by first | (with_reducible assumption) | assumption); have q331 : x11_1 < (l0.length : Int) := of_decide_eq_true (by first | (with_reducible assumption) | assumption); obtain ⟨ad331, e331, hx331_0, hx331_1⟩ := yo HR0.out x11_1 p331 q331; (try rw [← Nbq9.out] at hx331_0); obtain rfl : ad320 = ad331 := (by injection e331); replace hx331_0 := (HB.out.cell (World.block_lt_of_cell? w _ hx331_0)).trans hx331_0; replace hx331_1 := (HB.out.cell (World.block_lt_of_cell? w _ hx331_1)).trans hx331_1; replace p331 := eq_true p331; replace q331 := eq_true q331; have p332 : 0 ≤ (((zf l0 x11_1).f1) : Int) := of_decide_eq_true (by first | (with_reducible assumption) | assumption); have q332 : ((zf l0 x11_1).f1) < (l2.length : Int) := of_decide_eq_true (by first | (with_reducible assumption) | assumption); obtain ⟨ad332, A332_0, c332_0, e332, hx332_0, hl332_0, hi332_0⟩ := ZP HR2.out ((zf l0 x11_1).f1) p332 q332; cases e332; replace hx332_0 := (HB.out.cell (World.block_lt_of_cell? w _ hx332_0)).trans hx332_0; have HR332_0 := zA.mk hi332_0; have HC332_0 := zA.mk hl332_0; clear hi332_0 hl332_0; replace p332 := eq_true p332; replace q332 := eq_true q332; obtain ⟨Ao48, co48, eo48⟩ := Kd.R_slice HO_10.out; subst eo48) | ((with_reducible refine zt (f := 50) rfl ?_); refine yM (some 46) rfl rfl Try.func50 (by kernel_rfl) rfl #[.slice Ao48 x10_1.length co48, .slice A332_0 (zm l2 ((zf l0 x11_1).f1)).length c332_0, .int .i64 a1] rfl (by (try simp only [List.map_toArray, List.map_cons, List.map_nil]); first | done | rfl | (simp only [List.length_drop, List.length_take]; rfl)) ?_; (with_reducible refine (zQ.calls k1 _ _ x10_1 _ _ (zm l2 ((zf l0 x11_1).f1)) a1 t333 _ ?side1 ?side2 ?side3 ?side4 A33.out).mono ?_); (case side1 => repeat (first | exact (Kd.R_reads' HO_10.out).2.2 | (with_reducible refine Kd.C_alloc ?_ _) | (with_reducible refine Kd.C_drewN ?_ _) | (with_reducible refine Kd.C_drew ?_))); (case side2 => exact (Kd.R_reads' HO_10.out).2.1); (case side3 => repeat (first | exact (Kd.C_below HR332_0.out HB.out) | (with_reducible refine Kd.C_alloc ?_ _) | (with_reducible refine Kd.C_drewN ?_ _) | (with_reducible refine Kd.C_drew ?_))); (case side4 => exact HC332_0.out); rintro e w49 ⟨v334, rfl, ho0, hb⟩; refine ⟨_, rfl, ?_⟩; have n3_ := zA.mk (Kd.R_lower (yg (yg ho0)) (zN (by repeat (first | (with_reducible first | exact HB.out | apply zD | apply zB | apply zC) | exact HB.out)))); have n4_ := zA.mk (zL (by repeat (first | (with_reducible first | exact HB.out | apply zD | apply zB | apply zC) | exact HB.out)) hb); clear HB; have HO335 := n3_; have HB := n4_; clear n3_ n4_; (try clear hb); (try clear hb2); (try clear hk); (try clear hi); (try clear ho0); obtain ⟨Ao50, co50, eo50⟩ := Kd.R_slice HO335.out; subst eo50))
         go_roundg k1
         case measure => have := HK1.out; omega
         case rel => exact ⟨(t333), (wrap64 (x11_1 + 1)), (by first | rfl | (simp; done) | (simp [*]; done)), H', ⟨by have := HK1.out; omega⟩, ⟨by (with_reducible repeat (first | apply Kd.R_alloc | apply Kd.R_drewN | apply Kd.R_drew)); exact Kd.R_mono HO335.out (fun _ hk => trivial)⟩, ⟨by repeat (first | (with_reducible first | exact HB.out | apply zD | apply zB | apply zC) | exact HB.out)⟩⟩
       ·rw [if_neg c32] at H
        exact absurd H (by simp)
      ·rw [if_neg c31] at H
       exact absurd H (by simp)
    ·rw [if_neg c8] at H
     exact absurd H (by simp)
   ·rw [if_neg c7] at H
    have c7b0 : decide (x11_1 < (l0.length : Int)) = false := decide_eq_false c7
    clear c7
    simp only [Option.some.injEq, Prod.mk.injEq] at H
    obtain ⟨rfl, rfl⟩ := H
    go_wp2
    go_ret2
    exact ⟨_, by first | rfl | (simp [zX, zY] <;> rfl) | (simp [*, zX, zY] <;> rfl), by (with_reducible repeat (first | apply Kd.R_alloc | apply Kd.R_drewN | apply Kd.R_drew)); exact HO_10.out, by repeat (first | (with_reducible first | exact HB.out | apply zD | apply zB | apply zC) | exact HB.out)⟩
end Go.Proofs.Ytnihlieggknpaaa.HFollowOf
