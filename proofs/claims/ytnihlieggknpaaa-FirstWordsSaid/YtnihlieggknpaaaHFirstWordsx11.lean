-- Written by plus.py for this claim.
import Derived.Test.YtnihlieggknpaaaHFirstWordsx0
import Derived.Test.YtnihlieggknpaaaHFirstWordsx10
namespace Go.Proofs.Ytnihlieggknpaaa.HFirstWords
open Go.RowKit Go.Proofs.YtnihlieggknpaaaW.PrintWords Go.Proofs.YtnihlieggknpaaaW.PrintLast Go.Proofs.YtnihlieggknpaaaW.PrintMore
attribute [local go_sem] max2_int min2_int max_two min_two max_three min_three max_four min_four   -- for this text's walks alone
set_option linter.unusedVariables false
set_option linter.unusedSimpArgs false
mutual
def gramaryeref14_bounded.l0 : Nat → List (S71) → Int → List (List ByteArray) → List ByteArray → Int → Option (List ByteArray × Bool)
 | 0, _, _, _, _, _ => none
 | k + 1, x0, x1, x2, x8, x9 => if x9 < (x0.length : Int) then (if 0 ≤ x9 then (if (rd_T71 x0 x9).f0 = true then (gramaryeref14_bounded.l1 k x0 x1 x2 x8 x9 (([strOfNums (([((rd_T71 x0 x9).f1) % 256] : List Int))] : List ByteArray)) (([] : List ByteArray)) 0) else (if 0 ≤ ((rd_T71 x0 x9).f1) then (if ((rd_T71 x0 x9).f1) < (x2.length : Int) then (gramaryeref14_bounded.l1 k x0 x1 x2 x8 x9 (rd_L6 x2 ((rd_T71 x0 x9).f1)) (([] : List ByteArray)) 0) else (none)) else (none))) else (none)) else (some (x8, true))
def gramaryeref14_bounded.l1 : Nat → List (S71) → Int → List (List ByteArray) → List ByteArray → Int → List ByteArray → List ByteArray → Int → Option (List ByteArray × Bool)
 | 0, _, _, _, _, _, _, _, _ => none
 | k + 1, x0, x1, x2, x8, x9, x10, x11, x12 => if x12 < (x8.length : Int) then (gramaryeref14_bounded.l2 k x0 x1 x2 x8 x9 x10 x11 x12 0) else (if (x11.length : Int) > 10000 then (some (([] : List ByteArray), false)) else (gramaryeref14_bounded.l0 k x0 x1 x2 x11 (wrap64 (x9 + 1))))
def gramaryeref14_bounded.l2 : Nat → List (S71) → Int → List (List ByteArray) → List ByteArray → Int → List ByteArray → List ByteArray → Int → Int → Option (List ByteArray × Bool)
 | 0, _, _, _, _, _, _, _, _, _ => none
 | k + 1, x0, x1, x2, x8, x9, x10, x11, x12, x13 => if x13 < (x10.length : Int) then (if 0 ≤ x12 then (if x12 < (x8.length : Int) then (if 0 ≤ x13 then (if (wrap64 (((rdOf ByteArray.empty x8 x12).size : Int) + ((rdOf ByteArray.empty x10 x13).size : Int))) ≤ x1 then (if (rdOf ByteArray.empty x8 x12).size + (rdOf ByteArray.empty x10 x13).size ≤ 9223372036854775807 then ((gramaryeref13_Put.f k x11 ((rdOf ByteArray.empty x8 x12) ++ (rdOf ByteArray.empty x10 x13))).bind fun t271 => (gramaryeref14_bounded.l2 k x0 x1 x2 x8 x9 x10 t271 x12 (wrap64 (x13 + 1)))) else (none)) else (gramaryeref14_bounded.l2 k x0 x1 x2 x8 x9 x10 x11 x12 (wrap64 (x13 + 1)))) else (none)) else (none)) else (none)) else (gramaryeref14_bounded.l1 k x0 x1 x2 x8 x9 x10 x11 (wrap64 (x12 + 1)))
end
def gramaryeref14_bounded.f (k : Nat) (l0 : List (S71)) (a1 : Int) (l2 : List (List ByteArray)) : Option (List ByteArray × Bool) := gramaryeref14_bounded.l0 k l0 a1 l2 (([(⟨#[]⟩ : ByteArray)] : List ByteArray)) 0
theorem gramaryeref14_bounded.mono_l : ∀ k, (∀ y0 y1 y2 y3 y4, LeO (gramaryeref14_bounded.l0 k y0 y1 y2 y3 y4) (gramaryeref14_bounded.l0 (k + 1) y0 y1 y2 y3 y4)) ∧ (∀ y0 y1 y2 y3 y4 y5 y6 y7, LeO (gramaryeref14_bounded.l1 k y0 y1 y2 y3 y4 y5 y6 y7) (gramaryeref14_bounded.l1 (k + 1) y0 y1 y2 y3 y4 y5 y6 y7)) ∧ (∀ y0 y1 y2 y3 y4 y5 y6 y7 y8, LeO (gramaryeref14_bounded.l2 k y0 y1 y2 y3 y4 y5 y6 y7 y8) (gramaryeref14_bounded.l2 (k + 1) y0 y1 y2 y3 y4 y5 y6 y7 y8))
 | 0 => ⟨fun _ _ _ _ _ r h => by simp [gramaryeref14_bounded.l0] at h, fun _ _ _ _ _ _ _ _ r h => by simp [gramaryeref14_bounded.l1] at h, fun _ _ _ _ _ _ _ _ _ r h => by simp [gramaryeref14_bounded.l2] at h⟩
 | k + 1 => by
  obtain ⟨ih0, ih1, ih2⟩ := gramaryeref14_bounded.mono_l k
  refine ⟨?_, ?_, ?_⟩
  ·intro y0 y1 y2 y3 y4
   unfold gramaryeref14_bounded.l0
   repeat' first
   | (with_reducible exact ih0 _ _ _ _ _)
   | (with_reducible exact ih1 _ _ _ _ _ _ _ _)
   | (with_reducible exact ih2 _ _ _ _ _ _ _ _ _)
   | (with_reducible exact gramaryeref13_Put.mono _ _ _)
   | (with_reducible exact LeO.refl _)
   | (with_reducible exact LeO.none _)
   | (with_reducible refine LeO.ite ?_ ?_)
   | (with_reducible refine LeO.bind ?_ (fun _ => ?_))
   | exact ih0 _ _ _ _ _
   | exact ih1 _ _ _ _ _ _ _ _
   | exact ih2 _ _ _ _ _ _ _ _ _
   | exact gramaryeref13_Put.mono _ _ _
   | exact LeO.none _
   | refine LeO.ite ?_ ?_
   | refine LeO.bind ?_ (fun _ => ?_)
  ·intro y0 y1 y2 y3 y4 y5 y6 y7
   unfold gramaryeref14_bounded.l1
   repeat' first
   | (with_reducible exact ih0 _ _ _ _ _)
   | (with_reducible exact ih1 _ _ _ _ _ _ _ _)
   | (with_reducible exact ih2 _ _ _ _ _ _ _ _ _)
   | (with_reducible exact gramaryeref13_Put.mono _ _ _)
   | (with_reducible exact LeO.refl _)
   | (with_reducible exact LeO.none _)
   | (with_reducible refine LeO.ite ?_ ?_)
   | (with_reducible refine LeO.bind ?_ (fun _ => ?_))
   | exact ih0 _ _ _ _ _
   | exact ih1 _ _ _ _ _ _ _ _
   | exact ih2 _ _ _ _ _ _ _ _ _
   | exact gramaryeref13_Put.mono _ _ _
   | exact LeO.none _
   | refine LeO.ite ?_ ?_
   | refine LeO.bind ?_ (fun _ => ?_)
  ·intro y0 y1 y2 y3 y4 y5 y6 y7 y8
   unfold gramaryeref14_bounded.l2
   repeat' first
   | (with_reducible exact ih0 _ _ _ _ _)
   | (with_reducible exact ih1 _ _ _ _ _ _ _ _)
   | (with_reducible exact ih2 _ _ _ _ _ _ _ _ _)
   | (with_reducible exact gramaryeref13_Put.mono _ _ _)
   | (with_reducible exact LeO.refl _)
   | (with_reducible exact LeO.none _)
   | (with_reducible refine LeO.ite ?_ ?_)
   | (with_reducible refine LeO.bind ?_ (fun _ => ?_))
   | exact ih0 _ _ _ _ _
   | exact ih1 _ _ _ _ _ _ _ _
   | exact ih2 _ _ _ _ _ _ _ _ _
   | exact gramaryeref13_Put.mono _ _ _
   | exact LeO.none _
   | refine LeO.ite ?_ ?_
   | refine LeO.bind ?_ (fun _ => ?_)
theorem gramaryeref14_bounded.mono : ∀ a0 a1 a2 k, LeO (gramaryeref14_bounded.f k a0 a1 a2) (gramaryeref14_bounded.f (k + 1) a0 a1 a2) := by
 intro a0 a1 a2 k
 obtain ⟨ih0, ih1, ih2⟩ := gramaryeref14_bounded.mono_l k
 unfold gramaryeref14_bounded.f
 repeat' first
   | (with_reducible exact ih0 _ _ _ _ _)
   | (with_reducible exact ih1 _ _ _ _ _ _ _ _)
   | (with_reducible exact ih2 _ _ _ _ _ _ _ _ _)
   | (with_reducible exact gramaryeref13_Put.mono _ _ _)
   | (with_reducible exact LeO.refl _)
   | (with_reducible exact LeO.none _)
   | (with_reducible refine LeO.ite ?_ ?_)
   | (with_reducible refine LeO.bind ?_ (fun _ => ?_))
   | exact ih0 _ _ _ _ _
   | exact ih1 _ _ _ _ _ _ _ _
   | exact ih2 _ _ _ _ _ _ _ _ _
   | exact gramaryeref13_Put.mono _ _ _
   | exact LeO.none _
   | refine LeO.ite ?_ ?_
   | refine LeO.bind ?_ (fun _ => ?_)
set_option maxHeartbeats 8000000 in
set_option maxRecDepth 100000 in
theorem gramaryeref14_bounded.calls (k : Nat) (A0 : Option Addr) (c0 : Nat) (l0 : List S71) (a1 : Int) (A2 : Option Addr) (c2 : Nat) (l2 : List (List ByteArray)) (r1 : List ByteArray) (r2 : Bool) (w : World) (hr0 : Kd.C k71 w A0 l0.length l0) (hc0 : l0.length ≤ c0) (hr2 : Kd.C (Kd.slice 9 Kd.string) w A2 l2.length l2) (hc2 : l2.length ≤ c2) (h : gramaryeref14_bounded.f k l0 a1 l2 = some (r1, r2)) :
  Calls Try.prog 36 #[.slice A0 l0.length c0, .int .i64 a1, .slice A2 l2.length c2] w fun e w' => ∃ v0_ : Value, e = .returned (.tuple #[v0_, .bool r2]) ∧ Kd.R Kd.string 9 w' w.heap.size (fun _ => True) v0_ r1 ∧ Below w.heap.size w w' := by
 have HL := Aside0.mk hr0
 have HS := Aside0.mk hr2
 have HC2 := Aside0.mk hc2
 have hu39 := Try.underlying71
 clear hr0 hc0 hr2 hc2
 have HB := Aside0.mk (Below.refl w.heap.size w)
 have H' := Aside0.mk (show gramaryeref14_bounded.l0 k l0 a1 l2 [(⟨#[]⟩ : ByteArray)] 0 = some (r1, r2) from h)
 clear h
 go_enter Try.func36, Try.ntmps36
 go_wp2_with (first | ((with_reducible refine gate_dst (N := 14) rfl ?_); refine Kd.R_lit Kd.string _ 9 ?hg (N := 14) ?hd (xs := ([(⟨#[]⟩ : ByteArray)] : List ByteArray)) (inner := [.string (⟨#[]⟩ : ByteArray)]) (ok := fun _ => True) (okp := fun _ => True) ?hr ?hp (fun _ hk => hk) trivial (Below.refl _ _) (Nat.le_refl _) (by simp) ?_; (case hd => rfl); (case hg => rfl); (case hr => first | (go_simp; done) | (go_simp; rfl)); (case hp => exact (Reps.one (show Kd.M Kd.string _ _ _ (⟨#[]⟩ : ByteArray) [.string (⟨#[]⟩ : ByteArray)] from rfl) (Reps.none _ _))); intro v254 w4 ho5 hb hg_ hnew_; clear hg_ hnew_; have HO := Aside0.mk ho5; have HB1 := Aside0.mk hb; clear ho5 hb))
 go_loopg [8, 9] k (fun kq v8 v9 wr => ∃ (x8 : List ByteArray) (x9 : Int), v9 = .int .i64 x9 ∧ Aside0 (gramaryeref14_bounded.l0 kq l0 a1 l2 x8 x9 = some (r1, r2)) ∧ Aside0 (Kd.R Kd.string 9 wr w.heap.size (fun _ => True) v8 x8) ∧ Aside0 (Below w.heap.size w wr))
 case atStart => exact ⟨_, 0, rfl, H', HO, HB1⟩
 case round =>
  clear HO HB1 HB H'
  obtain ⟨x8, x9, rfl, HA, HO, HB⟩ := hrel
  cases gk with
  | zero => exact absurd HA.out (by simp [gramaryeref14_bounded.l0])
  | succ k1 =>
   have H := HA.out
   clear HA
   simp only [gramaryeref14_bounded.l0] at H
   by_cases c6 : x9 < (l0.length : Int)
   ·rw [if_pos c6] at H
    by_cases c7 : 0 ≤ x9
    ·rw [if_pos c7] at H
     have c6b0 : decide (x9 < (l0.length : Int)) = true := decide_eq_true c6
     have c7b0 : decide (0 ≤ x9) = true := decide_eq_true c7
     obtain ⟨ad, e1, hx0, hx1⟩ := at_T71 HL.out x9 c7 c6
     cases e1
     replace hx0 := (HB.out.cell (World.block_lt_of_cell? w _ hx0)).trans hx0
     replace hx1 := (HB.out.cell (World.block_lt_of_cell? w _ hx1)).trans hx1
     generalize hs : rd_T71 l0 x9 = s at H hx0 hx1
     have p1 := eq_true c7
     have q1 := eq_true c6
     clear c6 c7 hs
     obtain ⟨y, hy⟩ : ∃ y, y = [s.f1 % 256] := ⟨_, rfl⟩
     rw [← hy] at H
     have HY := Aside0.mk hy
     clear hy
     have key : ∃ xx, gramaryeref14_bounded.l1 k1 l0 a1 l2 x8 x9 xx [] 0 = some (r1, r2) ∧ (s.f0 = true → xx = [strOfNums y]) ∧ (s.f0 = false → (0 ≤ s.f1 ∧ s.f1 < (l2.length : Int)) ∧ xx = rd_L6 l2 s.f1) := by
      cases hb0 : s.f0
      ·rw [hb0, if_neg Bool.false_ne_true] at H
       by_cases c8 : 0 ≤ s.f1
       ·rw [if_pos c8] at H
        by_cases c9 : s.f1 < (l2.length : Int)
        ·rw [if_pos c9] at H
         exact ⟨_, H, fun h => by (cases h), fun _ => ⟨⟨c8, c9⟩, rfl⟩⟩
        ·rw [if_neg c9] at H; cases H
       ·rw [if_neg c8] at H; cases H
      ·rw [hb0, if_pos rfl] at H
       exact ⟨_, H, fun _ => rfl, fun h => by (cases h)⟩
     obtain ⟨xx, hH, hx3, hx4⟩ := key
     have H' := Aside0.mk hH
     clear H hH
     obtain ⟨Ao, co, eo⟩ := Kd.R_slice HO.out
     subst eo
     cases hb0 : s.f0
     ·rw [hb0] at hx0
      obtain ⟨⟨c8, c9⟩, hxx⟩ := hx4 hb0
      obtain ⟨ad2, Ax, cx, e2, hy0, hyl, hyr⟩ := at_L6 HS.out s.f1 c8 c9
      cases e2
      replace hy0 := (HB.out.cell (World.block_lt_of_cell? w _ hy0)).trans hy0
      rw [← hxx] at hy0 hyr hyl
      have p2 := eq_true c8
      have q2 := eq_true c9
      have HXR := Aside0.mk hyr
      have HXL := Aside0.mk hyl
      clear c8 c9 hyr hyl hx3 hx4 hxx
      go_wp2_with (first | ((with_reducible refine gate_dst (N := 27) rfl ?_); refine Kd.R_lit (Kd.int .u8) _ 5 ?hg (N := 27) ?hd (xs := ([s.f1 % 256] : List Int)) (inner := [.int .u8 (s.f1 % 256)]) (ok := fun _ => True) (okp := fun _ => True) ?hr ?hp (fun _ hk => hk) trivial (Below.refl _ _) (Nat.le_refl _) (by simp) ?_; (case hd => rfl); (case hg => rfl); (case hr => first | (go_simp; done) | (go_simp; rfl)); (case hp => exact (Reps.one (show Kd.M (Kd.int .u8) _ _ _ (s.f1 % 256) [.int .u8 (s.f1 % 256)] from rfl) (Reps.none _ _))); intro v258 w10 ho11 hb hg_ hnew_; clear hg_ hnew_; rw [← HY.out] at ho11; have HB27 := Aside0.mk hb; have hcv := own_string (P := Try.prog) Try.underlying96 Try.underlying5 Try.underlying9 (Kd.own_of_R ho11); replace hx0 := (hb.cell (World.block_lt_of_cell? _ _ hx0)).trans hx0; replace hx1 := (hb.cell (World.block_lt_of_cell? _ _ hx1)).trans hx1; replace hy0 := (hb.cell (World.block_lt_of_cell? _ _ hy0)).trans hy0; clear hb) | ((with_reducible refine gate_dst (N := 29) rfl ?_); refine Kd.R_lit Kd.string _ 9 ?hg (N := 29) ?hd (xs := ([strOfNums y] : List ByteArray)) (inner := [.string (strOfNums y)]) (ok := fun _ => True) (okp := fun _ => True) ?hr ?hp (fun _ hk => hk) trivial (Below.refl _ _) (Nat.le_refl _) (by simp) ?_; (case hd => rfl); (case hg => rfl); (case hr => first | (go_simp; done) | (go_simp; rfl)); (case hp => exact (Reps.one (show Kd.M Kd.string _ _ _ (strOfNums y) [.string (strOfNums y)] from rfl) (Reps.none _ _))); intro v261 w13 ho14 hb hg_ hnew_; clear hg_ hnew_; have HB29 := Aside0.mk (below_step HB27.out hb); replace hx0 := (hb.cell (World.block_lt_of_cell? _ _ hx0)).trans hx0; replace hx1 := (hb.cell (World.block_lt_of_cell? _ _ hx1)).trans hx1; replace hy0 := (hb.cell (World.block_lt_of_cell? _ _ hy0)).trans hy0; clear hb ho14) | ((with_reducible refine gate_dst (N := 44) rfl ?_); refine Kd.R_lit Kd.string _ 9 ?hg (N := 44) ?hd (xs := ([] : List ByteArray)) (inner := []) (ok := fun _ => True) (okp := fun _ => True) ?hr ?hp (fun _ hk => hk) trivial (Below.refl _ _) (Nat.le_refl _) (by simp) ?_; (case hd => rfl); (case hg => rfl); (case hr => first | (go_simp; done) | (go_simp; rfl)); (case hp => exact (Reps.none _ _)); intro v265 w15 ho16 hb hg_ hnew_; clear hg_ hnew_; have HB44 := Aside0.mk (below_step HB29.out hb); have HN := Aside0.mk (Kd.R_lower ho16 (Nat.le_trans HB.out.size HB29.out.size)); have HX := Aside0.mk (Kd.C_below HXR.out (below_step HB.out HB44.out)); replace hx0 := (hb.cell (World.block_lt_of_cell? _ _ hx0)).trans hx0; replace hx1 := (hb.cell (World.block_lt_of_cell? _ _ hx1)).trans hx1; replace hy0 := (hb.cell (World.block_lt_of_cell? _ _ hy0)).trans hy0; clear hb ho16))
      clear hx0 hx1 hy0 p2 q2 hcv HB27 HB29 HXR
      go_loopg [11, 12] k1 (fun kq v11 v12 wr2 => ∃ (x11 : List ByteArray) (x12 : Int), v12 = .int .i64 x12 ∧ Aside0 (gramaryeref14_bounded.l1 kq l0 a1 l2 x8 x9 xx x11 x12 = some (r1, r2)) ∧ Aside0 (kq ≤ k1) ∧ Aside0 (Kd.R Kd.string 9 wr2 w.heap.size (fun _ => True) v11 x11) ∧ Aside0 (Below w15.heap.size w15 wr2))
      case atStart => exact ⟨[], 0, rfl, H', ⟨Nat.le_refl _⟩, HN, ⟨Below.refl _ _⟩⟩
      case round =>
       clear HN H'
       obtain ⟨x11, x12, rfl, HA, HK2, HN, HBi⟩ := hrel
       cases gk with
       | zero => exact absurd HA.out (by simp [gramaryeref14_bounded.l1])
       | succ k2 =>
        have H := HA.out
        clear HA
        simp only [gramaryeref14_bounded.l1] at H
        by_cases c17 : x12 < (x8.length : Int)
        ·rw [if_pos c17] at H
         have c17b0 : decide (x12 < (x8.length : Int)) = true := decide_eq_true c17
         have H' := Aside0.mk H
         clear H c17
         go_wp2
         clear c17b0
         go_loopg [11, 13] k2 (fun kq v11 v13 wr3 => ∃ (x11 : List ByteArray) (x13 : Int), v13 = .int .i64 x13 ∧ Aside0 (gramaryeref14_bounded.l2 kq l0 a1 l2 x8 x9 xx x11 x12 x13 = some (r1, r2)) ∧ Aside0 (kq ≤ k2) ∧ Aside0 (Kd.R Kd.string 9 wr3 w.heap.size (fun _ => True) v11 x11) ∧ Aside0 (Below w15.heap.size w15 wr3))
         case atStart => exact ⟨_, 0, rfl, H', ⟨Nat.le_refl _⟩, HN, HBi⟩
         case round =>
          clear HN H' HBi
          obtain ⟨x11, x13, rfl, HA, HK3, HN, HBi⟩ := hrel
          cases gk with
          | zero => exact absurd HA.out (by simp [gramaryeref14_bounded.l2])
          | succ k3 =>
           have H := HA.out
           clear HA
           simp only [gramaryeref14_bounded.l2] at H
           by_cases c19 : x13 < (xx.length : Int)
           ·rw [if_pos c19] at H
            have c19b0 : decide (x13 < (xx.length : Int)) = true := decide_eq_true c19
            have key : (0 ≤ x12 ∧ x12 < (x8.length : Int)) ∧ 0 ≤ x13 := by
             by_cases c20 : 0 ≤ x12
             ·rw [if_pos c20] at H
              by_cases c21 : x12 < (x8.length : Int)
              ·rw [if_pos c21] at H
               by_cases c22 : 0 ≤ x13
               ·exact ⟨⟨c20, c21⟩, c22⟩
               ·rw [if_neg c22] at H; cases H
              ·rw [if_neg c21] at H; cases H
             ·rw [if_neg c20] at H; cases H
            obtain ⟨⟨c20, c21⟩, c22⟩ := key
            rw [if_pos c20, if_pos c21, if_pos c22] at H
            obtain ⟨ad267, e267, ho0⟩ := Kd.at_string (Kd.R_reads' (Kd.R_below HO.out (below_step HB44.out HBi.out))).2.2 x12 c20 c21
            cases e267
            obtain ⟨ad268, e268, hx0⟩ := Kd.at_string (Kd.C_below HX.out HBi.out) x13 c22 c19
            cases e268
            have p3 := eq_true c20
            have q3 := eq_true c21
            have p4 := eq_true c22
            have q4 := eq_true c19
            clear c20 c21 c22 c19
            by_cases c23 : (wrap64 (((rdOf ByteArray.empty x8 x12).size : Int) + ((rdOf ByteArray.empty xx x13).size : Int))) ≤ a1
            ·rw [if_pos c23] at H
             have c23b0 : decide ((wrap64 (((rdOf ByteArray.empty x8 x12).size : Int) + ((rdOf ByteArray.empty xx x13).size : Int))) ≤ a1) = true := decide_eq_true c23
             by_cases c24 : (rdOf ByteArray.empty x8 x12).size + (rdOf ByteArray.empty xx x13).size ≤ 9223372036854775807
             ·rw [if_pos c24] at H
              have c23b0w : decide ((((rdOf ByteArray.empty x8 x12).size : Int) + ((rdOf ByteArray.empty xx x13).size : Int)) ≤ a1) = true := by have h_ := c23b0; rw [show wrap64 (((rdOf ByteArray.empty x8 x12).size : Int) + ((rdOf ByteArray.empty xx x13).size : Int)) = (((rdOf ByteArray.empty x8 x12).size : Int) + ((rdOf ByteArray.empty xx x13).size : Int)) from by unfold wrap64; omega] at h_; exact h_
              have c24b0 := eq_true c24
              have c24b1 : decide ((rdOf ByteArray.empty x8 x12).size + (rdOf ByteArray.empty xx x13).size ≤ 9223372036854775807) = true := decide_eq_true c24
              have c24b2 : (9223372036854775807 < (rdOf ByteArray.empty x8 x12).size + (rdOf ByteArray.empty xx x13).size) = False := eq_false (Nat.not_lt.2 c24)
              obtain ⟨t, ht, H⟩ := Option.bind_eq_some_iff.mp H
              have HT := Aside0.mk ht
              have H' := Aside0.mk H
              clear H ht c23 c24
              obtain ⟨An, cn, en⟩ := Kd.R_slice HN.out
              subst en
              go_wp2
              go_quiet (fail)
              go_wp2
              refine Plus.hide_world fun W10 hW10 => ?_
              have hb10 : Below wr.heap.size wr W10 := by rw [← hW10.out]; repeat (first | exact Below.refl _ _ | apply pw_below_drewN | apply below_drew1)
              replace ho0 := (hb10.cell (World.block_lt_of_cell? _ _ ho0)).trans ho0
              replace hx0 := (hb10.cell (World.block_lt_of_cell? _ _ hx0)).trans hx0
              have HN10 := Aside0.mk (Kd.R_below HN.out hb10)
              have HB10 := Aside0.mk (below_step HBi.out hb10)
              clear hb10 hW10 c23b0 c23b0w
              go_still_tail 10, (by kernel_rfl)
              go_wp2_with fail
              refine (gramaryeref13_Put.calls k3 An cn x11 (rdOf ByteArray.empty x8 x12 ++ rdOf ByteArray.empty xx x13) t W10.drew (Kd.C_drew (Kd.R_reads' HN10.out).2.2) (Kd.R_reads' HN10.out).2.1 HT.out).mono ?_
              rintro e w8 ⟨v8, rfl, ho8, hb8⟩
              have HB8 := Aside0.mk (below_step (below_drew1 HB10.out) hb8)
              have HN8 := Aside0.mk (gramaryeref13_Put.own ho8 (Kd.R_below (Kd.R_drew HN10.out) hb8) (Nat.le_trans HB.out.size (Nat.le_trans HB44.out.size (below_drew1 HB10.out).size)))
              clear ho8 hb8 ho0 hx0 p3 q3 p4 q4 c24b0 c24b1 c24b2
              go_wp2
              go_roundg k3
              case measure => have := HK2.out; have := HK3.out; omega
              case rel => exact ⟨_, _, rfl, H', ⟨by have := HK3.out; omega⟩, HN8, HB8⟩
             ·rw [if_neg c24] at H; cases H
            ·rw [if_neg c23] at H
             have c23b0 : decide ((wrap64 (((rdOf ByteArray.empty x8 x12).size : Int) + ((rdOf ByteArray.empty xx x13).size : Int))) ≤ a1) = false := decide_eq_false c23
             have H' := Aside0.mk H
             clear H c23
             go_wp2
             go_quiet (fail)
             go_wp2
             go_roundg k3
             case measure => have := HK2.out; have := HK3.out; omega
             case rel => exact ⟨_, _, rfl, H', ⟨by have := HK3.out; omega⟩, ⟨by (with_reducible repeat (first | apply Kd.R_drewN | apply Kd.R_drew)); exact HN.out⟩, ⟨by repeat (first | exact HBi.out | apply pw_below_drewN | apply below_drew1)⟩⟩
           ·rw [if_neg c19] at H
            have c19b0 : decide (x13 < (xx.length : Int)) = false := decide_eq_false c19
            have H' := Aside0.mk H
            clear H c19
            go_wp2
            go_roundg k3
            case measure => have := HK2.out; have := HK3.out; omega
            case rel => exact ⟨_, _, rfl, H', ⟨by have := HK2.out; have := HK3.out; omega⟩, HN, HBi⟩
        ·rw [if_neg c17] at H
         have c17b0 : decide (x12 < (x8.length : Int)) = false := decide_eq_false c17
         obtain ⟨An, cn, en⟩ := Kd.R_slice HN.out
         subst en
         by_cases c18 : (x11.length : Int) > 10000
         ·rw [if_pos c18] at H
          obtain ⟨rfl, rfl⟩ := Prod.mk.inj (Option.some.inj H)
          have c18b0 : decide (10000 < (x11.length : Int)) = true := decide_eq_true c18
          clear H c17 c18
          go_wp2
          go_ret2
          exact ⟨_, rfl, Kd.R_nil _ _ _ _ _, below_step HB.out (below_step HB44.out HBi.out)⟩
         ·rw [if_neg c18] at H
          have c18b0 : decide (10000 < (x11.length : Int)) = false := decide_eq_false c18
          have H' := Aside0.mk H
          clear H c17 c18
          go_wp2
          go_roundg k2
          case measure => have := HK2.out; omega
          case rel => exact ⟨_, _, rfl, H', HN, ⟨below_step HB.out (below_step HB44.out HBi.out)⟩⟩
     ·rw [hb0] at hx0
      have HXX := Aside0.mk (hx3 hb0)
      clear hx3 hx4
      go_wp2_with (first | ((with_reducible refine gate_dst (N := 27) rfl ?_); refine Kd.R_lit (Kd.int .u8) _ 5 ?hg (N := 27) ?hd (xs := ([s.f1 % 256] : List Int)) (inner := [.int .u8 (s.f1 % 256)]) (ok := fun _ => True) (okp := fun _ => True) ?hr ?hp (fun _ hk => hk) trivial (Below.refl _ _) (Nat.le_refl _) (by simp) ?_; (case hd => rfl); (case hg => rfl); (case hr => first | (go_simp; done) | (go_simp; rfl)); (case hp => exact (Reps.one (show Kd.M (Kd.int .u8) _ _ _ (s.f1 % 256) [.int .u8 (s.f1 % 256)] from rfl) (Reps.none _ _))); intro v258 w10 ho11 hb hg_ hnew_; clear hg_ hnew_; rw [← HY.out] at ho11; have HB27 := Aside0.mk hb; have hcv := own_string (P := Try.prog) Try.underlying96 Try.underlying5 Try.underlying9 (Kd.own_of_R ho11); replace hx0 := (hb.cell (World.block_lt_of_cell? _ _ hx0)).trans hx0; replace hx1 := (hb.cell (World.block_lt_of_cell? _ _ hx1)).trans hx1; clear hb) | ((with_reducible refine gate_dst (N := 29) rfl ?_); refine Kd.R_lit Kd.string _ 9 ?hg (N := 29) ?hd (xs := ([strOfNums y] : List ByteArray)) (inner := [.string (strOfNums y)]) (ok := fun _ => True) (okp := fun _ => True) ?hr ?hp (fun _ hk => hk) trivial (Below.refl _ _) (Nat.le_refl _) (by simp) ?_; (case hd => rfl); (case hg => rfl); (case hr => first | (go_simp; done) | (go_simp; rfl)); (case hp => exact (Reps.one (show Kd.M Kd.string _ _ _ (strOfNums y) [.string (strOfNums y)] from rfl) (Reps.none _ _))); intro v261 w13 ho14 hb hg_ hnew_; clear hg_ hnew_; have HB29 := Aside0.mk (below_step HB27.out hb); rw [← HXX.out] at ho14; obtain ⟨Ax, cx, ex⟩ := Kd.R_slice ho14; subst ex; have HX := Aside0.mk (Kd.R_reads' ho14).2.2; have HXL := Aside0.mk (Kd.R_reads' ho14).2.1; replace hx0 := (hb.cell (World.block_lt_of_cell? _ _ hx0)).trans hx0; replace hx1 := (hb.cell (World.block_lt_of_cell? _ _ hx1)).trans hx1; clear hb ho14) | ((with_reducible refine gate_dst (N := 44) rfl ?_); refine Kd.R_lit Kd.string _ 9 ?hg (N := 44) ?hd (xs := ([] : List ByteArray)) (inner := []) (ok := fun _ => True) (okp := fun _ => True) ?hr ?hp (fun _ hk => hk) trivial (Below.refl _ _) (Nat.le_refl _) (by simp) ?_; (case hd => rfl); (case hg => rfl); (case hr => first | (go_simp; done) | (go_simp; rfl)); (case hp => exact (Reps.none _ _)); intro v265 w15 ho16 hb hg_ hnew_; clear hg_ hnew_; have HB44 := Aside0.mk (below_step HB29.out hb); have HN := Aside0.mk (Kd.R_lower ho16 (Nat.le_trans HB.out.size HB29.out.size)); have HX2 := Aside0.mk (Kd.C_below HX.out hb); clear HX; have HX := HX2; clear HX2; replace hx0 := (hb.cell (World.block_lt_of_cell? _ _ hx0)).trans hx0; replace hx1 := (hb.cell (World.block_lt_of_cell? _ _ hx1)).trans hx1; clear hb ho16))
      clear hx0 hx1 hcv HB27 HB29 HXX
      go_loopg [11, 12] k1 (fun kq v11 v12 wr2 => ∃ (x11 : List ByteArray) (x12 : Int), v12 = .int .i64 x12 ∧ Aside0 (gramaryeref14_bounded.l1 kq l0 a1 l2 x8 x9 xx x11 x12 = some (r1, r2)) ∧ Aside0 (kq ≤ k1) ∧ Aside0 (Kd.R Kd.string 9 wr2 w.heap.size (fun _ => True) v11 x11) ∧ Aside0 (Below w15.heap.size w15 wr2))
      case atStart => exact ⟨[], 0, rfl, H', ⟨Nat.le_refl _⟩, HN, ⟨Below.refl _ _⟩⟩
      case round =>
       clear HN H'
       obtain ⟨x11, x12, rfl, HA, HK2, HN, HBi⟩ := hrel
       cases gk with
       | zero => exact absurd HA.out (by simp [gramaryeref14_bounded.l1])
       | succ k2 =>
        have H := HA.out
        clear HA
        simp only [gramaryeref14_bounded.l1] at H
        by_cases c17 : x12 < (x8.length : Int)
        ·rw [if_pos c17] at H
         have c17b0 : decide (x12 < (x8.length : Int)) = true := decide_eq_true c17
         have H' := Aside0.mk H
         clear H c17
         go_wp2
         clear c17b0
         go_loopg [11, 13] k2 (fun kq v11 v13 wr3 => ∃ (x11 : List ByteArray) (x13 : Int), v13 = .int .i64 x13 ∧ Aside0 (gramaryeref14_bounded.l2 kq l0 a1 l2 x8 x9 xx x11 x12 x13 = some (r1, r2)) ∧ Aside0 (kq ≤ k2) ∧ Aside0 (Kd.R Kd.string 9 wr3 w.heap.size (fun _ => True) v11 x11) ∧ Aside0 (Below w15.heap.size w15 wr3))
         case atStart => exact ⟨_, 0, rfl, H', ⟨Nat.le_refl _⟩, HN, HBi⟩
         case round =>
          clear HN H' HBi
          obtain ⟨x11, x13, rfl, HA, HK3, HN, HBi⟩ := hrel
          cases gk with
          | zero => exact absurd HA.out (by simp [gramaryeref14_bounded.l2])
          | succ k3 =>
           have H := HA.out
           clear HA
           simp only [gramaryeref14_bounded.l2] at H
           by_cases c19 : x13 < (xx.length : Int)
           ·rw [if_pos c19] at H
            have c19b0 : decide (x13 < (xx.length : Int)) = true := decide_eq_true c19
            have key : (0 ≤ x12 ∧ x12 < (x8.length : Int)) ∧ 0 ≤ x13 := by
             by_cases c20 : 0 ≤ x12
             ·rw [if_pos c20] at H
              by_cases c21 : x12 < (x8.length : Int)
              ·rw [if_pos c21] at H
               by_cases c22 : 0 ≤ x13
               ·exact ⟨⟨c20, c21⟩, c22⟩
               ·rw [if_neg c22] at H; cases H
              ·rw [if_neg c21] at H; cases H
             ·rw [if_neg c20] at H; cases H
            obtain ⟨⟨c20, c21⟩, c22⟩ := key
            rw [if_pos c20, if_pos c21, if_pos c22] at H
            obtain ⟨ad267, e267, ho0⟩ := Kd.at_string (Kd.R_reads' (Kd.R_below HO.out (below_step HB44.out HBi.out))).2.2 x12 c20 c21
            cases e267
            obtain ⟨ad268, e268, hx0⟩ := Kd.at_string (Kd.C_below HX.out HBi.out) x13 c22 c19
            cases e268
            have p3 := eq_true c20
            have q3 := eq_true c21
            have p4 := eq_true c22
            have q4 := eq_true c19
            clear c20 c21 c22 c19
            by_cases c23 : (wrap64 (((rdOf ByteArray.empty x8 x12).size : Int) + ((rdOf ByteArray.empty xx x13).size : Int))) ≤ a1
            ·rw [if_pos c23] at H
             have c23b0 : decide ((wrap64 (((rdOf ByteArray.empty x8 x12).size : Int) + ((rdOf ByteArray.empty xx x13).size : Int))) ≤ a1) = true := decide_eq_true c23
             by_cases c24 : (rdOf ByteArray.empty x8 x12).size + (rdOf ByteArray.empty xx x13).size ≤ 9223372036854775807
             ·rw [if_pos c24] at H
              have c23b0w : decide ((((rdOf ByteArray.empty x8 x12).size : Int) + ((rdOf ByteArray.empty xx x13).size : Int)) ≤ a1) = true := by have h_ := c23b0; rw [show wrap64 (((rdOf ByteArray.empty x8 x12).size : Int) + ((rdOf ByteArray.empty xx x13).size : Int)) = (((rdOf ByteArray.empty x8 x12).size : Int) + ((rdOf ByteArray.empty xx x13).size : Int)) from by unfold wrap64; omega] at h_; exact h_
              have c24b0 := eq_true c24
              have c24b1 : decide ((rdOf ByteArray.empty x8 x12).size + (rdOf ByteArray.empty xx x13).size ≤ 9223372036854775807) = true := decide_eq_true c24
              have c24b2 : (9223372036854775807 < (rdOf ByteArray.empty x8 x12).size + (rdOf ByteArray.empty xx x13).size) = False := eq_false (Nat.not_lt.2 c24)
              obtain ⟨t, ht, H⟩ := Option.bind_eq_some_iff.mp H
              have HT := Aside0.mk ht
              have H' := Aside0.mk H
              clear H ht c23 c24
              obtain ⟨An, cn, en⟩ := Kd.R_slice HN.out
              subst en
              go_wp2
              go_quiet (fail)
              go_wp2
              refine Plus.hide_world fun W10 hW10 => ?_
              have hb10 : Below wr.heap.size wr W10 := by rw [← hW10.out]; repeat (first | exact Below.refl _ _ | apply pw_below_drewN | apply below_drew1)
              replace ho0 := (hb10.cell (World.block_lt_of_cell? _ _ ho0)).trans ho0
              replace hx0 := (hb10.cell (World.block_lt_of_cell? _ _ hx0)).trans hx0
              have HN10 := Aside0.mk (Kd.R_below HN.out hb10)
              have HB10 := Aside0.mk (below_step HBi.out hb10)
              clear hb10 hW10 c23b0 c23b0w
              go_still_tail 10, (by kernel_rfl)
              go_wp2_with fail
              refine (gramaryeref13_Put.calls k3 An cn x11 (rdOf ByteArray.empty x8 x12 ++ rdOf ByteArray.empty xx x13) t W10.drew (Kd.C_drew (Kd.R_reads' HN10.out).2.2) (Kd.R_reads' HN10.out).2.1 HT.out).mono ?_
              rintro e w8 ⟨v8, rfl, ho8, hb8⟩
              have HB8 := Aside0.mk (below_step (below_drew1 HB10.out) hb8)
              have HN8 := Aside0.mk (gramaryeref13_Put.own ho8 (Kd.R_below (Kd.R_drew HN10.out) hb8) (Nat.le_trans HB.out.size (Nat.le_trans HB44.out.size (below_drew1 HB10.out).size)))
              clear ho8 hb8 ho0 hx0 p3 q3 p4 q4 c24b0 c24b1 c24b2
              go_wp2
              go_roundg k3
              case measure => have := HK2.out; have := HK3.out; omega
              case rel => exact ⟨_, _, rfl, H', ⟨by have := HK3.out; omega⟩, HN8, HB8⟩
             ·rw [if_neg c24] at H; cases H
            ·rw [if_neg c23] at H
             have c23b0 : decide ((wrap64 (((rdOf ByteArray.empty x8 x12).size : Int) + ((rdOf ByteArray.empty xx x13).size : Int))) ≤ a1) = false := decide_eq_false c23
             have H' := Aside0.mk H
             clear H c23
             go_wp2
             go_quiet (fail)
             go_wp2
             go_roundg k3
             case measure => have := HK2.out; have := HK3.out; omega
             case rel => exact ⟨_, _, rfl, H', ⟨by have := HK3.out; omega⟩, ⟨by (with_reducible repeat (first | apply Kd.R_drewN | apply Kd.R_drew)); exact HN.out⟩, ⟨by repeat (first | exact HBi.out | apply pw_below_drewN | apply below_drew1)⟩⟩
           ·rw [if_neg c19] at H
            have c19b0 : decide (x13 < (xx.length : Int)) = false := decide_eq_false c19
            have H' := Aside0.mk H
            clear H c19
            go_wp2
            go_roundg k3
            case measure => have := HK2.out; have := HK3.out; omega
            case rel => exact ⟨_, _, rfl, H', ⟨by have := HK2.out; have := HK3.out; omega⟩, HN, HBi⟩
        ·rw [if_neg c17] at H
         have c17b0 : decide (x12 < (x8.length : Int)) = false := decide_eq_false c17
         obtain ⟨An, cn, en⟩ := Kd.R_slice HN.out
         subst en
         by_cases c18 : (x11.length : Int) > 10000
         ·rw [if_pos c18] at H
          obtain ⟨rfl, rfl⟩ := Prod.mk.inj (Option.some.inj H)
          have c18b0 : decide (10000 < (x11.length : Int)) = true := decide_eq_true c18
          clear H c17 c18
          go_wp2
          go_ret2
          exact ⟨_, rfl, Kd.R_nil _ _ _ _ _, below_step HB.out (below_step HB44.out HBi.out)⟩
         ·rw [if_neg c18] at H
          have c18b0 : decide (10000 < (x11.length : Int)) = false := decide_eq_false c18
          have H' := Aside0.mk H
          clear H c17 c18
          go_wp2
          go_roundg k2
          case measure => have := HK2.out; omega
          case rel => exact ⟨_, _, rfl, H', HN, ⟨below_step HB.out (below_step HB44.out HBi.out)⟩⟩
    ·rw [if_neg c7] at H; cases H
   ·rw [if_neg c6] at H
    obtain ⟨rfl, rfl⟩ := Prod.mk.inj (Option.some.inj H)
    have c6b0 : decide (x9 < (l0.length : Int)) = false := decide_eq_false c6
    obtain ⟨Ao, co, eo⟩ := Kd.R_slice HO.out
    subst eo
    clear H c6
    go_wp2
    go_ret2
    exact ⟨_, rfl, HO.out, HB.out⟩
def gramaryeref13_Make.l0 : Nat → List ByteArray → List ByteArray → Int → Option (List ByteArray)
 | 0, _, _, _ => none
 | k + 1, x0, x3, x4 => if x4 < (x0.length : Int) then (if 0 ≤ x4 then ((gramaryeref13_Put.f k x3 (rdOf ByteArray.empty x0 x4)).bind fun t257 => (gramaryeref13_Make.l0 k x0 t257 (wrap64 (x4 + 1)))) else (none)) else (some x3)
def gramaryeref13_Make.f (k : Nat) (l0 : List ByteArray) : Option (List ByteArray) := gramaryeref13_Make.l0 k l0 (([] : List ByteArray)) 0
theorem gramaryeref13_Make.mono_l : ∀ k, (∀ y0 y1 y2, LeO (gramaryeref13_Make.l0 k y0 y1 y2) (gramaryeref13_Make.l0 (k + 1) y0 y1 y2))
 | 0 => fun _ _ _ r h => by simp [gramaryeref13_Make.l0] at h
 | k + 1 => by
  have ih0 := gramaryeref13_Make.mono_l k
  ·intro y0 y1 y2
   unfold gramaryeref13_Make.l0
   repeat' first
   | (with_reducible exact ih0 _ _ _)
   | (with_reducible exact gramaryeref13_Put.mono _ _ _)
   | (with_reducible exact LeO.refl _)
   | (with_reducible exact LeO.none _)
   | (with_reducible refine LeO.ite ?_ ?_)
   | (with_reducible refine LeO.bind ?_ (fun _ => ?_))
   | exact ih0 _ _ _
   | exact gramaryeref13_Put.mono _ _ _
   | exact LeO.none _
   | refine LeO.ite ?_ ?_
   | refine LeO.bind ?_ (fun _ => ?_)
theorem gramaryeref13_Make.mono : ∀ a0 k, LeO (gramaryeref13_Make.f k a0) (gramaryeref13_Make.f (k + 1) a0) := by
 intro a0 k
 have ih0 := gramaryeref13_Make.mono_l k
 unfold gramaryeref13_Make.f
 repeat' first
   | (with_reducible exact ih0 _ _ _)
   | (with_reducible exact gramaryeref13_Put.mono _ _ _)
   | (with_reducible exact LeO.refl _)
   | (with_reducible exact LeO.none _)
   | (with_reducible refine LeO.ite ?_ ?_)
   | (with_reducible refine LeO.bind ?_ (fun _ => ?_))
   | exact ih0 _ _ _
   | exact gramaryeref13_Put.mono _ _ _
   | exact LeO.none _
   | refine LeO.ite ?_ ?_
   | refine LeO.bind ?_ (fun _ => ?_)
set_option maxHeartbeats 8000000 in
set_option maxRecDepth 100000 in
theorem gramaryeref13_Make.calls (k : Nat) (A0 : Option Addr) (c0 : Nat) (l0 : List ByteArray) (r : List ByteArray) (w : World) (hr0 : Kd.C Kd.string w A0 l0.length l0) (hc0 : l0.length ≤ c0) (h : gramaryeref13_Make.f k l0 = some r) :
  Calls Try.prog 67 #[.slice A0 l0.length c0] w fun e w' => ∃ v0_ : Value, e = .returned (v0_) ∧ Kd.R Kd.string 9 w' w.heap.size (fun _ => True) v0_ r ∧ Below w.heap.size w w' := by
 have HR0 := Aside0.mk hr0
 have HC0 := Aside0.mk hc0
 clear hr0 hc0
 have HB := Aside0.mk (Below.refl w.heap.size w)
 have H : (gramaryeref13_Make.l0 k l0 (([] : List ByteArray)) 0) = some r := h
 clear h
 obtain ⟨y253, hy253⟩ : ∃ y_ : List ByteArray, y_ = (([] : List ByteArray)) := ⟨_, rfl⟩
 replace H : (gramaryeref13_Make.l0 k l0 y253 0) = some r := by first | (rw [hy253]; with_reducible exact H) | (have H2_ := (Option.bind_some _ _).symm.trans H; rw [hy253]; with_reducible exact H2_) | (have H2_ := (Option.bind_some _ _).symm.trans H; with_reducible exact H2_) | with_reducible exact H | (rw [hy253]; exact H) | exact H
 have Ny253 := Aside0.mk hy253
 clear hy253
 have H' := Aside0.mk H
 clear H
 go_enter Try.func67, Try.ntmps67
 go_wp2_with (first | ((with_reducible refine gate_dst (N := 5) rfl ?_); refine Kd.R_lit Kd.string _ 9 ?hg (N := 5) ?hd (xs := ([] : List ByteArray)) (inner := []) (ok := fun _ => True) (okp := fun _ => True) ?hr ?hp (fun _ hk => hk) trivial (Below.refl _ _) (Nat.le_refl _) (by simp) ?_; (case hd => rfl); (case hg => rfl); (case hr => first | (go_simp; done) | (go_simp; rfl)); (case hp => exact (Reps.none _ _)); intro v254 w2 ho3 hb hg_ hnew_; clear hg_ hnew_; (first | rw [← Ny253.out] at ho3 | (simp only [Int.reduceToNat] at ho3; rw [← Ny253.out] at ho3)); have n0_ := Aside0.mk (Kd.R_lower ho3 (below_size (by repeat (first | (with_reducible first | exact HB.out | apply below_alloc | apply pw_below_drewN | apply below_drew1) | exact HB.out)))); have n1_ := Aside0.mk (below_step (by repeat (first | (with_reducible first | exact HB.out | apply below_alloc | apply pw_below_drewN | apply below_drew1) | exact HB.out)) hb); clear HB; have HO255 := n0_; have HB := n1_; clear n0_ n1_; clear hb ho3))
 go_loopg [3, 4] k (fun kq v3 v4 w' => ∃ (x3_1 : List ByteArray) (x4_1 : Int), v4 = .int .i64 x4_1 ∧ Aside0 (gramaryeref13_Make.l0 kq l0 x3_1 x4_1 = some r) ∧ Aside0 (kq ≤ k) ∧ Aside0 (Kd.R Kd.string 9 w' w.heap.size (fun _ => True) v3 x3_1) ∧ Aside0 (Below w.heap.size w w'))
 case atStart => exact ⟨(y253), (0), (by first | rfl | (simp; done) | (simp [*]; done)), H', ⟨Nat.le_refl _⟩, ⟨by (with_reducible repeat (first | apply Kd.R_alloc | apply Kd.R_drewN | apply Kd.R_drew)); exact HO255.out⟩, ⟨by repeat (first | (with_reducible first | exact HB.out | apply below_alloc | apply pw_below_drewN | apply below_drew1) | exact HB.out)⟩⟩
 case round =>
  clear H'
  try clear p2
  obtain ⟨x3_1, x4_1, rfl, HA, HK1, HO_3, HB⟩ := hrel
  cases gk with
  | zero => exact absurd HA.out (by simp [gramaryeref13_Make.l0])
  | succ k1 =>
   have H := HA.out
   clear HA
   simp only [gramaryeref13_Make.l0] at H
   by_cases c4 : x4_1 < (l0.length : Int)
   ·rw [if_pos c4] at H
    have c4b0 : decide (x4_1 < (l0.length : Int)) = true := decide_eq_true c4
    clear c4
    by_cases c5 : 0 ≤ x4_1
    ·rw [if_pos c5] at H
     have c5b0 : decide (0 ≤ x4_1) = true := decide_eq_true c5
     clear c5
     replace H := Option.bind_eq_some_iff.mp H
     obtain ⟨t257, A60, H⟩ := H
     replace H : (gramaryeref13_Make.l0 k1 l0 t257 (wrap64 (x4_1 + 1))) = some r := H
     have A6 := Aside0.mk A60
     clear A60
     have H' := Aside0.mk H
     clear H
     have p256 : 0 ≤ (x4_1 : Int) := of_decide_eq_true (by first | (with_reducible assumption) | assumption)
     have q256 : x4_1 < (l0.length : Int) := of_decide_eq_true (by first | (with_reducible assumption) | assumption)
     obtain ⟨ad256, e256, hx256_0⟩ := Kd.at_string HR0.out x4_1 p256 q256
     cases e256
     replace hx256_0 := (HB.out.cell (World.block_lt_of_cell? w _ hx256_0)).trans hx256_0
     replace p256 := eq_true p256
     replace q256 := eq_true q256
     obtain ⟨Ao7, co7, eo7⟩ := Kd.R_slice HO_3.out
     subst eo7
     go_wp2_with (first | ((with_reducible refine gate_callee (f := 55) rfl ?_); refine goesL_ (some 17) rfl rfl Try.func55 (by kernel_rfl) rfl #[.slice Ao7 x3_1.length co7, .string (rdOf ByteArray.empty l0 x4_1)] rfl (by (try simp only [List.map_toArray, List.map_cons, List.map_nil]); first | done | rfl | (simp only [List.length_drop, List.length_take]; rfl)) ?_; (with_reducible refine (gramaryeref13_Put.calls k1 _ _ x3_1 (rdOf ByteArray.empty l0 x4_1) t257 _ ?side1 ?side2 A6.out).mono ?_); (case side1 => repeat (first | exact (Kd.R_reads' HO_3.out).2.2 | (with_reducible refine Kd.C_alloc ?_ _) | (with_reducible refine Kd.C_drewN ?_ _) | (with_reducible refine Kd.C_drew ?_))); (case side2 => exact (Kd.R_reads' HO_3.out).2.1); rintro e w8 ⟨v258, rfl, ho0, hb⟩; refine ⟨_, rfl, ?_⟩; have n1_ := Aside0.mk (gramaryeref13_Put.own ho0 (Kd.R_below (by (with_reducible repeat (first | apply Kd.R_alloc | apply Kd.R_drewN | apply Kd.R_drew)); exact HO_3.out) hb) (below_size (by repeat (first | (with_reducible first | exact HB.out | apply below_alloc | apply pw_below_drewN | apply below_drew1) | exact HB.out)))); have n2_ := Aside0.mk (below_step (by repeat (first | (with_reducible first | exact HB.out | apply below_alloc | apply pw_below_drewN | apply below_drew1) | exact HB.out)) hb); clear HB; have HO259 := n1_; have HB := n2_; clear n1_ n2_; (try clear hb); (try clear hb2); (try clear hk); (try clear hi); (try clear ho0)))
     go_roundg k1
     case measure => have := HK1.out; omega
     case rel => exact ⟨(t257), (wrap64 (x4_1 + 1)), (by first | rfl | (simp; done) | (simp [*]; done)), H', ⟨by have := HK1.out; omega⟩, ⟨by (with_reducible repeat (first | apply Kd.R_alloc | apply Kd.R_drewN | apply Kd.R_drew)); exact Kd.R_mono HO259.out (fun _ hk => trivial)⟩, ⟨by repeat (first | (with_reducible first | exact HB.out | apply below_alloc | apply pw_below_drewN | apply below_drew1) | exact HB.out)⟩⟩
    ·rw [if_neg c5] at H
     exact absurd H (by simp)
   ·rw [if_neg c4] at H
    have c4b0 : decide (x4_1 < (l0.length : Int)) = false := decide_eq_false c4
    clear c4
    obtain rfl := Option.some.inj H
    go_wp2
    go_ret
    exact ⟨_, by first | rfl | (simp [errW_none, errW_some] <;> rfl) | (simp [*, errW_none, errW_some] <;> rfl), by (with_reducible repeat (first | apply Kd.R_alloc | apply Kd.R_drewN | apply Kd.R_drew)); exact HO_3.out, by repeat (first | (with_reducible first | exact HB.out | apply below_alloc | apply pw_below_drewN | apply below_drew1) | exact HB.out)⟩
def gramaryeref13_Join.l0 : Nat → List ByteArray → List ByteArray → Int → Option (List ByteArray)
 | 0, _, _, _ => none
 | k + 1, x1, x5, x6 => if x6 < (x1.length : Int) then (if 0 ≤ x6 then ((gramaryeref13_Put.f k x5 (rdOf ByteArray.empty x1 x6)).bind fun t264 => (gramaryeref13_Join.l0 k x1 t264 (wrap64 (x6 + 1)))) else (none)) else (some x5)
def gramaryeref13_Join.f (k : Nat) (l0 : List ByteArray) (l1 : List ByteArray) : Option (List ByteArray) := (gramaryeref13_Make.f k l0).bind fun t260 => (gramaryeref13_Join.l0 k l1 t260 0)
theorem gramaryeref13_Join.mono_l : ∀ k, (∀ y0 y1 y2, LeO (gramaryeref13_Join.l0 k y0 y1 y2) (gramaryeref13_Join.l0 (k + 1) y0 y1 y2))
 | 0 => fun _ _ _ r h => by simp [gramaryeref13_Join.l0] at h
 | k + 1 => by
  have ih0 := gramaryeref13_Join.mono_l k
  ·intro y0 y1 y2
   unfold gramaryeref13_Join.l0
   repeat' first
   | (with_reducible exact ih0 _ _ _)
   | (with_reducible exact gramaryeref13_Make.mono _ _)
   | (with_reducible exact gramaryeref13_Put.mono _ _ _)
   | (with_reducible exact LeO.refl _)
   | (with_reducible exact LeO.none _)
   | (with_reducible refine LeO.ite ?_ ?_)
   | (with_reducible refine LeO.bind ?_ (fun _ => ?_))
   | exact ih0 _ _ _
   | exact gramaryeref13_Make.mono _ _
   | exact gramaryeref13_Put.mono _ _ _
   | exact LeO.none _
   | refine LeO.ite ?_ ?_
   | refine LeO.bind ?_ (fun _ => ?_)
theorem gramaryeref13_Join.mono : ∀ a0 a1 k, LeO (gramaryeref13_Join.f k a0 a1) (gramaryeref13_Join.f (k + 1) a0 a1) := by
 intro a0 a1 k
 have ih0 := gramaryeref13_Join.mono_l k
 unfold gramaryeref13_Join.f
 repeat' first
   | (with_reducible exact ih0 _ _ _)
   | (with_reducible exact gramaryeref13_Make.mono _ _)
   | (with_reducible exact gramaryeref13_Put.mono _ _ _)
   | (with_reducible exact LeO.refl _)
   | (with_reducible exact LeO.none _)
   | (with_reducible refine LeO.ite ?_ ?_)
   | (with_reducible refine LeO.bind ?_ (fun _ => ?_))
   | exact ih0 _ _ _
   | exact gramaryeref13_Make.mono _ _
   | exact gramaryeref13_Put.mono _ _ _
   | exact LeO.none _
   | refine LeO.ite ?_ ?_
   | refine LeO.bind ?_ (fun _ => ?_)
set_option maxHeartbeats 8000000 in
set_option maxRecDepth 100000 in
theorem gramaryeref13_Join.calls (k : Nat) (A0 : Option Addr) (c0 : Nat) (l0 : List ByteArray) (A1 : Option Addr) (c1 : Nat) (l1 : List ByteArray) (r : List ByteArray) (w : World) (hr0 : Kd.C Kd.string w A0 l0.length l0) (hc0 : l0.length ≤ c0) (hr1 : Kd.C Kd.string w A1 l1.length l1) (hc1 : l1.length ≤ c1) (h : gramaryeref13_Join.f k l0 l1 = some r) :
  Calls Try.prog 37 #[.slice A0 l0.length c0, .slice A1 l1.length c1] w fun e w' => ∃ v0_ : Value, e = .returned (v0_) ∧ Kd.R Kd.string 9 w' w.heap.size (fun _ => True) v0_ r ∧ Below w.heap.size w w' := by
 have HR0 := Aside0.mk hr0
 have HC0 := Aside0.mk hc0
 clear hr0 hc0
 have HR1 := Aside0.mk hr1
 have HC1 := Aside0.mk hc1
 clear hr1 hc1
 have HB := Aside0.mk (Below.refl w.heap.size w)
 have H : ((gramaryeref13_Make.f k l0).bind fun t260 => (gramaryeref13_Join.l0 k l1 t260 0)) = some r := h
 clear h
 replace H := Option.bind_eq_some_iff.mp H
 obtain ⟨t260, A30, H⟩ := H
 replace H : (gramaryeref13_Join.l0 k l1 t260 0) = some r := H
 have A3 := Aside0.mk A30
 clear A30
 have H' := Aside0.mk H
 clear H
 go_enter Try.func37, Try.ntmps37
 go_wp2_with (first | ((with_reducible refine gate_callee (f := 67) rfl ?_); refine goesL_ (some 8) rfl rfl Try.func67 (by kernel_rfl) rfl #[.slice A0 l0.length c0] rfl (by (try simp only [List.map_toArray, List.map_cons, List.map_nil]); first | done | rfl | (simp only [List.length_drop, List.length_take]; rfl)) ?_; (with_reducible refine (gramaryeref13_Make.calls k _ _ l0 t260 _ ?side1 ?side2 A3.out).mono ?_); (case side1 => repeat (first | exact HR0.out | (with_reducible refine Kd.C_alloc ?_ _) | (with_reducible refine Kd.C_drewN ?_ _) | (with_reducible refine Kd.C_drew ?_))); (case side2 => exact HC0.out); rintro e w4 ⟨v261, rfl, ho0, hb⟩; refine ⟨_, rfl, ?_⟩; have n0_ := Aside0.mk (Kd.R_lower ho0 (below_size (by repeat (first | (with_reducible first | exact HB.out | apply below_alloc | apply pw_below_drewN | apply below_drew1) | exact HB.out)))); have n1_ := Aside0.mk (below_step (by repeat (first | (with_reducible first | exact HB.out | apply below_alloc | apply pw_below_drewN | apply below_drew1) | exact HB.out)) hb); clear HB; have HO262 := n0_; have HB := n1_; clear n0_ n1_; (try clear hb); (try clear hb2); (try clear hk); (try clear hi); (try clear ho0)))
 go_loopg [5, 6] k (fun kq v5 v6 w' => ∃ (x5_1 : List ByteArray) (x6_1 : Int), v6 = .int .i64 x6_1 ∧ Aside0 (gramaryeref13_Join.l0 kq l1 x5_1 x6_1 = some r) ∧ Aside0 (kq ≤ k) ∧ Aside0 (Kd.R Kd.string 9 w' w.heap.size (fun _ => True) v5 x5_1) ∧ Aside0 (Below w.heap.size w w'))
 case atStart => exact ⟨(t260), (0), (by first | rfl | (simp; done) | (simp [*]; done)), H', ⟨Nat.le_refl _⟩, ⟨by (with_reducible repeat (first | apply Kd.R_alloc | apply Kd.R_drewN | apply Kd.R_drew)); exact HO262.out⟩, ⟨by repeat (first | (with_reducible first | exact HB.out | apply below_alloc | apply pw_below_drewN | apply below_drew1) | exact HB.out)⟩⟩
 case round =>
  clear H'
  try clear c1
  try clear p2
  try clear c3
  obtain ⟨x5_1, x6_1, rfl, HA, HK1, HO_5, HB⟩ := hrel
  cases gk with
  | zero => exact absurd HA.out (by simp [gramaryeref13_Join.l0])
  | succ k1 =>
   have H := HA.out
   clear HA
   simp only [gramaryeref13_Join.l0] at H
   by_cases c5 : x6_1 < (l1.length : Int)
   ·rw [if_pos c5] at H
    have c5b0 : decide (x6_1 < (l1.length : Int)) = true := decide_eq_true c5
    clear c5
    by_cases c6 : 0 ≤ x6_1
    ·rw [if_pos c6] at H
     have c6b0 : decide (0 ≤ x6_1) = true := decide_eq_true c6
     clear c6
     replace H := Option.bind_eq_some_iff.mp H
     obtain ⟨t264, A70, H⟩ := H
     replace H : (gramaryeref13_Join.l0 k1 l1 t264 (wrap64 (x6_1 + 1))) = some r := H
     have A7 := Aside0.mk A70
     clear A70
     have H' := Aside0.mk H
     clear H
     have p263 : 0 ≤ (x6_1 : Int) := of_decide_eq_true (by first | (with_reducible assumption) | assumption)
     have q263 : x6_1 < (l1.length : Int) := of_decide_eq_true (by first | (with_reducible assumption) | assumption)
     obtain ⟨ad263, e263, hx263_0⟩ := Kd.at_string HR1.out x6_1 p263 q263
     cases e263
     replace hx263_0 := (HB.out.cell (World.block_lt_of_cell? w _ hx263_0)).trans hx263_0
     replace p263 := eq_true p263
     replace q263 := eq_true q263
     obtain ⟨Ao8, co8, eo8⟩ := Kd.R_slice HO_5.out
     subst eo8
     go_wp2_with (first | ((with_reducible refine gate_callee (f := 55) rfl ?_); refine goesL_ (some 20) rfl rfl Try.func55 (by kernel_rfl) rfl #[.slice Ao8 x5_1.length co8, .string (rdOf ByteArray.empty l1 x6_1)] rfl (by (try simp only [List.map_toArray, List.map_cons, List.map_nil]); first | done | rfl | (simp only [List.length_drop, List.length_take]; rfl)) ?_; (with_reducible refine (gramaryeref13_Put.calls k1 _ _ x5_1 (rdOf ByteArray.empty l1 x6_1) t264 _ ?side1 ?side2 A7.out).mono ?_); (case side1 => repeat (first | exact (Kd.R_reads' HO_5.out).2.2 | (with_reducible refine Kd.C_alloc ?_ _) | (with_reducible refine Kd.C_drewN ?_ _) | (with_reducible refine Kd.C_drew ?_))); (case side2 => exact (Kd.R_reads' HO_5.out).2.1); rintro e w9 ⟨v265, rfl, ho0, hb⟩; refine ⟨_, rfl, ?_⟩; have n1_ := Aside0.mk (gramaryeref13_Put.own ho0 (Kd.R_below (by (with_reducible repeat (first | apply Kd.R_alloc | apply Kd.R_drewN | apply Kd.R_drew)); exact HO_5.out) hb) (below_size (by repeat (first | (with_reducible first | exact HB.out | apply below_alloc | apply pw_below_drewN | apply below_drew1) | exact HB.out)))); have n2_ := Aside0.mk (below_step (by repeat (first | (with_reducible first | exact HB.out | apply below_alloc | apply pw_below_drewN | apply below_drew1) | exact HB.out)) hb); clear HB; have HO266 := n1_; have HB := n2_; clear n1_ n2_; (try clear hb); (try clear hb2); (try clear hk); (try clear hi); (try clear ho0)))
     go_roundg k1
     case measure => have := HK1.out; omega
     case rel => exact ⟨(t264), (wrap64 (x6_1 + 1)), (by first | rfl | (simp; done) | (simp [*]; done)), H', ⟨by have := HK1.out; omega⟩, ⟨by (with_reducible repeat (first | apply Kd.R_alloc | apply Kd.R_drewN | apply Kd.R_drew)); exact Kd.R_mono HO266.out (fun _ hk => trivial)⟩, ⟨by repeat (first | (with_reducible first | exact HB.out | apply below_alloc | apply pw_below_drewN | apply below_drew1) | exact HB.out)⟩⟩
    ·rw [if_neg c6] at H
     exact absurd H (by simp)
   ·rw [if_neg c5] at H
    have c5b0 : decide (x6_1 < (l1.length : Int)) = false := decide_eq_false c5
    clear c5
    obtain rfl := Option.some.inj H
    go_wp2
    go_ret
    exact ⟨_, by first | rfl | (simp [errW_none, errW_some] <;> rfl) | (simp [*, errW_none, errW_some] <;> rfl), by (with_reducible repeat (first | apply Kd.R_alloc | apply Kd.R_drewN | apply Kd.R_drew)); exact HO_5.out, by repeat (first | (with_reducible first | exact HB.out | apply below_alloc | apply pw_below_drewN | apply below_drew1) | exact HB.out)⟩
end Go.Proofs.Ytnihlieggknpaaa.HFirstWords
