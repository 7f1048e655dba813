-- Written by plus.py for this claim.
import Derived.Test.YtnihlieggknpaaaHFirstAllx0
import Derived.Test.YtnihlieggknpaaaHFirstAllx1
import Derived.Test.YtnihlieggknpaaaHFirstAllx4
import Derived.Test.YtnihlieggknpaaaHFirstAllx6
namespace Go.Proofs.Ytnihlieggknpaaa.HFirstAll
open Go.RowKit Go.Proofs.YtnihlieggknpaaaW.PrintWords Go.Proofs.YtnihlieggknpaaaW.PrintLast Go.Proofs.YtnihlieggknpaaaW.PrintMore
attribute [local go_sem] max2_int min2_int max_two min_two max_three min_three max_four min_four   -- for this text's walks alone
set_option linter.unusedVariables false
set_option linter.unusedSimpArgs false
def IsS60000 (w0 W : World) (g : Nat) (f0 : Int) : Prop := W.heap[g]? = some (.cells #[.int .i64 f0] 3 (0, 0)) ∧ w0.heap.size ≤ g
theorem IsS60000.grown {w0 W : World} {g : Nat} {f0 : Int} {W1 : World} {row : Option Nat} (h : IsS60000 w0 W g f0) (hw : W.grownBy W1 row) (hne : some g ≠ row) : IsS60000 w0 W1 g f0 := by
 obtain ⟨hb, hg⟩ := h
 exact ⟨blk_grown hb hw hne, hg⟩
theorem IsS60000.kept {w0 W : World} {g : Nat} {f0 : Int} {W1 : World} {S : Nat → Prop} (h : IsS60000 w0 W g f0) (hk : Kept W W1 S) (hne : ¬ S g) : IsS60000 w0 W1 g f0 := by
 obtain ⟨hb, hg⟩ := h
 exact ⟨blk_kept hb hk hne, hg⟩
theorem IsS60000.below {w0 W : World} {g : Nat} {f0 : Int} {W1 : World} (h : IsS60000 w0 W g f0) (hw : Below W.heap.size W W1) : IsS60000 w0 W1 g f0 := h.grown (grown_of_below hw none) (by simp)
theorem IsS60000.alloc {w0 W : World} {g : Nat} {f0 : Int} (h : IsS60000 w0 W g f0) (o : Obj) : IsS60000 w0 (W.alloc o) g f0 := h.below (below_alloc (Below.refl _ _) o)
theorem IsS60000.drewN {w0 W : World} {g : Nat} {f0 : Int} (h : IsS60000 w0 W g f0) (m : Nat) : IsS60000 w0 (W.drewN m) g f0 := h
theorem IsS60000.drew {w0 W : World} {g : Nat} {f0 : Int} (h : IsS60000 w0 W g f0) : IsS60000 w0 W.drew g f0 := h
theorem IsS60000.at_ {w0 W : World} {g : Nat} {f0 : Int} {w' : World} {m : Nat} (hq : W.drewN m = w') (h : IsS60000 w0 W g f0) : IsS60000 w0 w' g f0 := by subst hq; exact IsS60000.drewN h m
theorem IsS60000.apart {w0 W : World} {g : Nat} {f0 : Int} {α : Type} {d : Kd α} {e : Nat} {base : Nat} {ok : Nat → Prop} {v : Value} {xs : List α} (h : IsS60000 w0 W g f0) (ho : d.R e W base ok v xs) (ht : ∀ q, q ∈ e :: d.E → q ≠ 3) : d.R e W base (fun k => ok k ∧ k ≠ g) v xs := by
 obtain ⟨hb, hg⟩ := h
 exact Kd.R_types ho hb ht
theorem IsS60000.own_ne {w0 W : World} {g : Nat} {f0 : Int} {α : Type} {d : Kd α} {e : Nat} {base : Nat} {ok : Nat → Prop} {v : Value} {xs : List α} (h : IsS60000 w0 W g f0) (ho : d.R e W base ok v xs) (ht : e ≠ 3) : some g ≠ v.ownBlock := by
 obtain ⟨hb, hg⟩ := h
 exact Kd.R_ne ho hb ht
theorem IsS60000.lt {w0 W : World} {g : Nat} {f0 : Int} (h : IsS60000 w0 W g f0) : g < W.heap.size := by
 obtain ⟨hb, hg⟩ := h
 exact blk_lt hb
theorem IsS60000.ge {w0 W : World} {g : Nat} {f0 : Int} (h : IsS60000 w0 W g f0) : w0.heap.size ≤ g := by
 obtain ⟨hb, hg⟩ := h
 exact hg
theorem IsS60000.far {w0 W : World} {g : Nat} {f0 : Int} {p : Addr} (h : IsS60000 w0 W g f0) (hne : g ≠ p.block) (u : Value) : IsS60000 w0 (W.setCell p u) g f0 := by
 obtain ⟨hb, hg⟩ := h
 exact ⟨blk_far hb hne u, hg⟩
theorem cellS60000_0 {W : World} {g : Nat} {f0 : Int} (h : W.heap[g]? = some (.cells #[.int .i64 f0] 3 (0, 0))) : W.cell? ⟨g, 0, none⟩ = some (.int .i64 f0) := (blk_cell h 0).trans rfl
theorem IsS60000.set_0 {w0 W : World} {g : Nat} {f0 : Int} (h : IsS60000 w0 W g f0) (x : Int) : IsS60000 w0 (W.setCell ⟨g, 0, none⟩ (.int .i64 x)) g x := by
 obtain ⟨hb, hg⟩ := h
 exact ⟨by simpa using blk_set hb 0 (.int .i64 x), hg⟩
mutual
def first_within_1.l0 : Nat → List ByteArray → List ByteArray → List ByteArray → Int → Int → Int → Option (List ByteArray × Int)
 | 0, _, _, _, _, _, _ => none
 | k + 1, x1, x6, x11, x12, x13, x3000 => if x13 < x12 then (if 0 ≤ x13 then (if x13 < (x11.length : Int) then (first_within_1.l1 k x1 x6 (rdOf ByteArray.empty x11 x13) x11 x12 x13 x1 (x1.length : Int) 0 x3000) else (none)) else (none)) else ((pack_Make.f x6).bind fun t207 => (some (t207, x3000)))
def first_within_1.l1 : Nat → List ByteArray → List ByteArray → ByteArray → List ByteArray → Int → Int → List ByteArray → Int → Int → Int → Option (List ByteArray × Int)
 | 0, _, _, _, _, _, _, _, _, _, _ => none
 | k + 1, x1, x6, x8, x11, x12, x13, x17, x18, x19, x3000 => if x19 < x18 then (if 0 ≤ x19 then (if x19 < (x17.length : Int) then (if (wrap64 ((x8.size : Int) + ((rdOf ByteArray.empty x17 x19).size : Int))) ≤ x3000 then (if x8.size + (rdOf ByteArray.empty x17 x19).size ≤ 9223372036854775807 then (if x6.length < 8796093022208 then (first_within_1.l1 k x1 (x6 ++ [x8 ++ (rdOf ByteArray.empty x17 x19)]) x8 x11 x12 x13 x17 x18 (wrap64 (x19 + 1)) x3000) else (none)) else (none)) else (first_within_1.l1 k x1 x6 x8 x11 x12 x13 x17 x18 (wrap64 (x19 + 1)) x3000)) else (none)) else (none)) else (first_within_1.l0 k x1 x6 x11 x12 (wrap64 (x13 + 1)) x3000)
end
def first_within_1.f (k : Nat) (l0 : List ByteArray) (l1 : List ByteArray) (s2_0 : Int) : Option (List ByteArray × Int) := first_within_1.l0 k l1 ([] : List ByteArray) l0 (l0.length : Int) 0 s2_0
theorem first_within_1.mono_l : ∀ k, (∀ y0 y1 y2 y3 y4 y5, LeO (first_within_1.l0 k y0 y1 y2 y3 y4 y5) (first_within_1.l0 (k + 1) y0 y1 y2 y3 y4 y5)) ∧ (∀ y0 y1 y2 y3 y4 y5 y6 y7 y8 y9, LeO (first_within_1.l1 k y0 y1 y2 y3 y4 y5 y6 y7 y8 y9) (first_within_1.l1 (k + 1) y0 y1 y2 y3 y4 y5 y6 y7 y8 y9))
 | 0 => ⟨fun _ _ _ _ _ _ r h => by simp [first_within_1.l0] at h, fun _ _ _ _ _ _ _ _ _ _ r h => by simp [first_within_1.l1] at h⟩
 | k + 1 => by
  obtain ⟨ih0, ih1⟩ := first_within_1.mono_l k
  refine ⟨?_, ?_⟩
  ·intro y0 y1 y2 y3 y4 y5
   unfold first_within_1.l0
   repeat' first
   | (with_reducible exact ih0 _ _ _ _ _ _)
   | (with_reducible exact ih1 _ _ _ _ _ _ _ _ _ _)
   | (with_reducible exact LeO.refl _)
   | (with_reducible exact LeO.none _)
   | (with_reducible refine LeO.ite ?_ ?_)
   | (with_reducible refine LeO.bind ?_ (fun _ => ?_))
   | exact ih0 _ _ _ _ _ _
   | exact ih1 _ _ _ _ _ _ _ _ _ _
   | exact LeO.none _
   | refine LeO.ite ?_ ?_
   | refine LeO.bind ?_ (fun _ => ?_)
  ·intro y0 y1 y2 y3 y4 y5 y6 y7 y8 y9
   unfold first_within_1.l1
   repeat' first
   | (with_reducible exact ih0 _ _ _ _ _ _)
   | (with_reducible exact ih1 _ _ _ _ _ _ _ _ _ _)
   | (with_reducible exact LeO.refl _)
   | (with_reducible exact LeO.none _)
   | (with_reducible refine LeO.ite ?_ ?_)
   | (with_reducible refine LeO.bind ?_ (fun _ => ?_))
   | exact ih0 _ _ _ _ _ _
   | exact ih1 _ _ _ _ _ _ _ _ _ _
   | exact LeO.none _
   | refine LeO.ite ?_ ?_
   | refine LeO.bind ?_ (fun _ => ?_)
theorem first_within_1.mono : ∀ a0 a1 a2 k, LeO (first_within_1.f k a0 a1 a2) (first_within_1.f (k + 1) a0 a1 a2) := by
 intro a0 a1 a2 k
 obtain ⟨ih0, ih1⟩ := first_within_1.mono_l k
 unfold first_within_1.f
 repeat' first
   | (with_reducible exact ih0 _ _ _ _ _ _)
   | (with_reducible exact ih1 _ _ _ _ _ _ _ _ _ _)
   | (with_reducible exact LeO.refl _)
   | (with_reducible exact LeO.none _)
   | (with_reducible refine LeO.ite ?_ ?_)
   | (with_reducible refine LeO.bind ?_ (fun _ => ?_))
   | exact ih0 _ _ _ _ _ _
   | exact ih1 _ _ _ _ _ _ _ _ _ _
   | exact LeO.none _
   | refine LeO.ite ?_ ?_
   | refine LeO.bind ?_ (fun _ => ?_)
set_option maxHeartbeats 8000000 in
set_option maxRecDepth 100000 in
theorem first_within_1.calls (k : Nat) (A0 : Option Addr) (c0 : Nat) (l0 : List ByteArray) (A1 : Option Addr) (c1 : Nat) (l1 : List ByteArray) (g : Nat) (s2_0 : Int) (r1 : List ByteArray) (r2 : Int) (w0 w : World) (hI : IsS60000 w0 w g s2_0) (hB : Below w0.heap.size w0 w) (hr0 : Kd.C Kd.string w A0 l0.length l0) (hc0 : l0.length ≤ c0) (hf0 : ∀ ad, A0 = some ad → 0 < l0.length → ad.block ≠ g) (hr1 : Kd.C Kd.string w A1 l1.length l1) (hc1 : l1.length ≤ c1) (hf1 : ∀ ad, A1 = some ad → 0 < l1.length → ad.block ≠ g) (h : first_within_1.f k l0 l1 s2_0 = some (r1, r2)) :
  Calls Try.prog 65 #[.slice A0 l0.length c0, .slice A1 l1.length c1, .pointer (some ⟨g, 0, none⟩)] w fun e w' => ∃ v0_ : Value, e = .returned (v0_) ∧ Kd.R Kd.string 9 w' w.heap.size (fun _ => True) v0_ r1 ∧ IsS60000 w0 w' g r2 ∧ Below w0.heap.size w0 w' ∧ KeepBut w w' g none := by
 have HR0 := Aside0.mk hr0
 have HC0 := Aside0.mk hc0
 clear hr0 hc0
 have HR1 := Aside0.mk hr1
 have HC1 := Aside0.mk hc1
 clear hr1 hc1
 have HI2 := Aside0.mk hI
 have HK := Aside0.mk (KeepBut.refl w g none)
 have HL := Aside0.mk hB.size
 clear hI
 have HW0 := Aside0.mk hB.size
 have HB := Aside0.mk hB
 clear hB
 have H : (first_within_1.l0 k l1 ([] : List ByteArray) l0 (l0.length : Int) 0 s2_0) = some (r1, r2) := h
 clear h
 have H' := Aside0.mk H
 clear H
 go_enter Try.func65, Try.ntmps65
 go_wp2
 go_loopg [6, 13] k (fun kq v6 v13 w' => ∃ (x6_1 : List ByteArray) (x13_1 : Int), v13 = .int .i64 x13_1 ∧ Aside0 (first_within_1.l0 kq l1 x6_1 l0 (l0.length : Int) x13_1 s2_0 = some (r1, r2)) ∧ Aside0 (kq ≤ k) ∧ Aside0 (Kd.R Kd.string 9 w' w.heap.size (fun _ => True) v6 x6_1) ∧ Aside0 (IsS60000 w0 w' g s2_0) ∧ Aside0 (KeepBut w w' g none) ∧ Aside0 (Below w0.heap.size w0 w'))
 case atStart => exact ⟨(([] : List ByteArray)), (0), (by first | rfl | (simp; done) | (simp [*]; done)), H', ⟨Nat.le_refl _⟩, ⟨by first | exact Kd.R_nil _ _ _ _ _ | exact Kd.N_nil _ _ _ _ _ | exact Kd.V_nil _ _ _ _ _ | exact Kd.Q_nil _ _ _ _ _ | exact Kd.S_nil _ _ _ _ _⟩, ⟨by repeat (first | (with_reducible first | exact HI2.out | apply IsS60000.alloc | apply IsS60000.drewN | apply IsS60000.drew | apply IsS60000.set_0) | exact HI2.out)⟩, ⟨by repeat (first | (with_reducible first | exact HK.out | apply KeepBut.set_ | apply keep_drewN | apply keep_drew | apply keep_alloc) | exact HK.out)⟩, ⟨by repeat (first | (with_reducible first | exact HB.out | apply below_alloc | apply pw_below_drewN | apply below_drew1 | refine below_set ?_ (IsS60000.ge HI2.out)) | exact HB.out)⟩⟩
 case round =>
  clear H'
  try clear c1
  try clear p2
  obtain ⟨x6_1, x13_1, rfl, HA, HK1, HO_6, HI2, HK, HB⟩ := hrel
  cases gk with
  | zero => exact absurd HA.out (by simp [first_within_1.l0])
  | succ k1 =>
   have H := HA.out
   clear HA
   simp only [first_within_1.l0] at H
   by_cases c4 : x13_1 < (l0.length : Int)
   ·rw [if_pos c4] at H
    have c4b0 : decide (x13_1 < (l0.length : Int)) = true := decide_eq_true c4
    clear c4
    by_cases c5 : 0 ≤ x13_1
    ·rw [if_pos c5] at H
     have c5b0 : decide (0 ≤ x13_1) = true := decide_eq_true c5
     clear c5
     by_cases c6 : x13_1 < (l0.length : Int)
     ·rw [if_pos c6] at H
      have c6b0 : decide (x13_1 < (l0.length : Int)) = true := decide_eq_true c6
      clear c6
      have H' := Aside0.mk H
      clear H
      have p210 : 0 ≤ (x13_1 : Int) := of_decide_eq_true (by first | (with_reducible assumption) | assumption)
      have q210 : x13_1 < (l0.length : Int) := of_decide_eq_true (by first | (with_reducible assumption) | assumption)
      obtain ⟨ad210, e210, hx210_0⟩ := Kd.at_string HR0.out x13_1 p210 q210
      cases e210
      replace hx210_0 := keep_cell HK.out hx210_0 (by first | (rw [add_block]; exact hf0 _ rfl (by omega)) | exact hf0 _ rfl (by omega) | exact hf0 ad210 rfl (by omega))
      replace p210 := eq_true p210
      replace q210 := eq_true q210
      go_wp2
      go_loopg [6, 19] k1 (fun kq v6 v19 w' => ∃ (x6_2 : List ByteArray) (x19_2 : Int), v19 = .int .i64 x19_2 ∧ Aside0 (first_within_1.l1 kq l1 x6_2 (rdOf ByteArray.empty l0 x13_1) l0 (l0.length : Int) x13_1 l1 (l1.length : Int) x19_2 s2_0 = some (r1, r2)) ∧ Aside0 (kq ≤ k1) ∧ Aside0 (Kd.R Kd.string 9 w' w.heap.size (fun _ => True) v6 x6_2) ∧ Aside0 (IsS60000 w0 w' g s2_0) ∧ Aside0 (KeepBut w w' g none) ∧ Aside0 (Below w0.heap.size w0 w'))
      case atStart => exact ⟨(x6_1), (0), (by first | rfl | (simp; done) | (simp [*]; done)), H', ⟨Nat.le_refl _⟩, ⟨by (with_reducible repeat (first | apply Kd.R_alloc | apply Kd.R_drewN | apply Kd.R_drew)); exact HO_6.out⟩, ⟨by repeat (first | (with_reducible first | exact HI2.out | apply IsS60000.alloc | apply IsS60000.drewN | apply IsS60000.drew | apply IsS60000.set_0) | exact HI2.out)⟩, ⟨by repeat (first | (with_reducible first | exact HK.out | apply KeepBut.set_ | apply keep_drewN | apply keep_drew | apply keep_alloc) | exact HK.out)⟩, ⟨by repeat (first | (with_reducible first | exact HB.out | apply below_alloc | apply pw_below_drewN | apply below_drew1 | refine below_set ?_ (IsS60000.ge HI2.out)) | exact HB.out)⟩⟩
      case round =>
       clear H'
       try clear c1
       try clear p2
       try clear q2
       try clear hx2
       try clear c4
       try clear c4b0
       try clear c5
       try clear c5b0
       try clear c6
       try clear c6b0
       try clear hx210_0
       try clear p2
       try clear p210
       try clear q210
       obtain ⟨x6_2, x19_2, rfl, HA, HK2, HO_6, HI2, HK, HB⟩ := hrel
       cases gk with
       | zero => exact absurd HA.out (by simp [first_within_1.l1])
       | succ k2 =>
        have H := HA.out
        clear HA
        simp only [first_within_1.l1] at H
        by_cases c7 : x19_2 < (l1.length : Int)
        ·rw [if_pos c7] at H
         have c7b0 : decide (x19_2 < (l1.length : Int)) = true := decide_eq_true c7
         clear c7
         by_cases c8 : 0 ≤ x19_2
         ·rw [if_pos c8] at H
          have c8b0 : decide (0 ≤ x19_2) = true := decide_eq_true c8
          clear c8
          by_cases c9 : x19_2 < (l1.length : Int)
          ·rw [if_pos c9] at H
           have c9b0 : decide (x19_2 < (l1.length : Int)) = true := decide_eq_true c9
           clear c9
           by_cases c10 : (wrap64 (((rdOf ByteArray.empty l0 x13_1).size : Int) + ((rdOf ByteArray.empty l1 x19_2).size : Int))) ≤ s2_0
           ·rw [if_pos c10] at H
            have c10b0 : decide ((wrap64 (((rdOf ByteArray.empty l0 x13_1).size : Int) + ((rdOf ByteArray.empty l1 x19_2).size : Int))) ≤ s2_0) = true := decide_eq_true c10
            clear c10
            by_cases c11 : (rdOf ByteArray.empty l0 x13_1).size + (rdOf ByteArray.empty l1 x19_2).size ≤ 9223372036854775807
            ·rw [if_pos c11] at H
             have c11b0 := eq_true c11
             have c11b1 : decide ((rdOf ByteArray.empty l0 x13_1).size + (rdOf ByteArray.empty l1 x19_2).size ≤ 9223372036854775807) = true := decide_eq_true c11
             try have c11b2 : (9223372036854775807 < (rdOf ByteArray.empty l0 x13_1).size + (rdOf ByteArray.empty l1 x19_2).size) = False := eq_false (Nat.not_lt.2 c11)
             have c10b0w : decide ((((rdOf ByteArray.empty l0 x13_1).size : Int) + ((rdOf ByteArray.empty l1 x19_2).size : Int)) ≤ s2_0) = true := by have h_ := c10b0; rw [show wrap64 (((rdOf ByteArray.empty l0 x13_1).size : Int) + ((rdOf ByteArray.empty l1 x19_2).size : Int)) = (((rdOf ByteArray.empty l0 x13_1).size : Int) + ((rdOf ByteArray.empty l1 x19_2).size : Int)) from by unfold wrap64; omega] at h_; exact h_
             by_cases c12 : x6_2.length < 8796093022208
             ·rw [if_pos c12] at H
              have LMc12 := Aside0.mk c12
              clear c12
              obtain ⟨y212, hy212⟩ : ∃ y_ : List ByteArray, y_ = (x6_2 ++ [(rdOf ByteArray.empty l0 x13_1) ++ (rdOf ByteArray.empty l1 x19_2)]) := ⟨_, rfl⟩
              replace H : (first_within_1.l1 k2 l1 y212 (rdOf ByteArray.empty l0 x13_1) l0 (l0.length : Int) x13_1 l1 (l1.length : Int) (wrap64 (x19_2 + 1)) s2_0) = some (r1, r2) := by first | (rw [hy212]; with_reducible exact H) | (have H2_ := (Option.bind_some _ _).symm.trans H; rw [hy212]; with_reducible exact H2_) | (have H2_ := (Option.bind_some _ _).symm.trans H; with_reducible exact H2_) | with_reducible exact H | (rw [hy212]; exact H) | exact H
              have Ny212 := Aside0.mk hy212
              clear hy212
              have H' := Aside0.mk H
              clear H
              have p211 : 0 ≤ (x19_2 : Int) := of_decide_eq_true (by first | (with_reducible assumption) | assumption)
              have q211 : x19_2 < (l1.length : Int) := of_decide_eq_true (by first | (with_reducible assumption) | assumption)
              obtain ⟨ad211, e211, hx211_0⟩ := Kd.at_string HR1.out x19_2 p211 q211
              cases e211
              replace hx211_0 := keep_cell HK.out hx211_0 (by first | (rw [add_block]; exact hf1 _ rfl (by omega)) | exact hf1 _ rfl (by omega) | exact hf1 ad211 rfl (by omega))
              replace p211 := eq_true p211
              replace q211 := eq_true q211
              obtain ⟨HGz13, hgz13⟩ := HI2.out
              have hcz13_0 := cellS60000_0 HGz13
              have hfz13_0 := blk_frozen HGz13 0
              clear HGz13 hgz13
              go_wp2_with (first | ((with_reducible refine gate_builtin (b := .append) (xs := #[.tmp 30, .tmp 34]) rfl ?_); at_builtin; refine Kd.R_append Kd.string w.heap.size rfl (.tmp 30) (.tmp 34) 27 9 (.string ⟨#[]⟩) 16 rfl Try.underlying27 info9 rfl (by decide) (by omega) u6 x6_2 ((rdOf ByteArray.empty l0 x13_1) ++ (rdOf ByteArray.empty l1 x19_2)) [.string ((rdOf ByteArray.empty l0 x13_1) ++ (rdOf ByteArray.empty l1 x19_2))] (fun _ => True) (fun _ => False) rfl rfl ?aP (fun _ hk => hk.elim) ?aF ?aO (Below.refl _ _) ?aS ?aL ?_; (case aP => exact rfl); (case aF => exact (fun _ _ => trivial)); (case aO => exact (by (with_reducible repeat (first | apply Kd.R_alloc | apply Kd.R_drewN | apply Kd.R_drew)); exact HO_6.out)); (case aS => exact (keep_size (w := w) (g := g) (row := none) (by repeat (first | (with_reducible first | exact HK.out | apply KeepBut.set_ | apply keep_drewN | apply keep_drew | apply keep_alloc) | exact HK.out)))); (case aL => have := LMc12.out; omega); intro v213 w14 ho hb hg hat; rw [← Ny212.out] at ho; have n0_ := Aside0.mk (IsS60000.grown (by repeat (first | (with_reducible first | exact HI2.out | apply IsS60000.alloc | apply IsS60000.drewN | apply IsS60000.drew | apply IsS60000.set_0) | exact HI2.out)) hg (IsS60000.own_ne HI2.out HO_6.out (by decide))); have n1_ := Aside0.mk (below_weaken (by repeat (first | (with_reducible first | exact HB.out | apply below_alloc | apply pw_below_drewN | apply below_drew1 | refine below_set ?_ (IsS60000.ge HI2.out)) | exact HB.out)) HL.out hb); have n2_ := Aside0.mk (KeepBut.trans (by repeat (first | (with_reducible first | exact HK.out | apply KeepBut.set_ | apply keep_drewN | apply keep_drew | apply keep_alloc) | exact HK.out)) (KeepBut.of_grown hg g) (Kd.R_base2 HO_6.out)); have n3_ := Aside0.mk (ho); clear HI2; clear HB; clear HK; clear HO_6; have HI2 := n0_; have HB := n1_; have HK := n2_; have HO214 := n3_; clear n0_ n1_ n2_ n3_; clear ho hb hg hat))
              go_roundg k2
              case measure => have := HK1.out; have := HK2.out; omega
              case rel => exact ⟨(y212), (wrap64 (x19_2 + 1)), (by first | rfl | (simp; done) | (simp [*]; done)), H', ⟨by have := HK1.out; have := HK2.out; omega⟩, ⟨by (with_reducible repeat (first | apply Kd.R_alloc | apply Kd.R_drewN | apply Kd.R_drew)); exact HO214.out⟩, ⟨by repeat (first | (with_reducible first | exact HI2.out | apply IsS60000.alloc | apply IsS60000.drewN | apply IsS60000.drew | apply IsS60000.set_0) | exact HI2.out)⟩, ⟨by repeat (first | (with_reducible first | exact HK.out | apply KeepBut.set_ | apply keep_drewN | apply keep_drew | apply keep_alloc) | exact HK.out)⟩, ⟨by repeat (first | (with_reducible first | exact HB.out | apply below_alloc | apply pw_below_drewN | apply below_drew1 | refine below_set ?_ (IsS60000.ge HI2.out)) | exact HB.out)⟩⟩
             ·rw [if_neg c12] at H
              exact absurd H (by simp)
            ·rw [if_neg c11] at H
             exact absurd H (by simp)
           ·rw [if_neg c10] at H
            have c10b0 : decide ((wrap64 (((rdOf ByteArray.empty l0 x13_1).size : Int) + ((rdOf ByteArray.empty l1 x19_2).size : Int))) ≤ s2_0) = false := decide_eq_false c10
            clear c10
            have H' := Aside0.mk H
            clear H
            have p211 : 0 ≤ (x19_2 : Int) := of_decide_eq_true (by first | (with_reducible assumption) | assumption)
            have q211 : x19_2 < (l1.length : Int) := of_decide_eq_true (by first | (with_reducible assumption) | assumption)
            obtain ⟨ad211, e211, hx211_0⟩ := Kd.at_string HR1.out x19_2 p211 q211
            cases e211
            replace hx211_0 := keep_cell HK.out hx211_0 (by first | (rw [add_block]; exact hf1 _ rfl (by omega)) | exact hf1 _ rfl (by omega) | exact hf1 ad211 rfl (by omega))
            replace p211 := eq_true p211
            replace q211 := eq_true q211
            obtain ⟨HGz15, hgz15⟩ := HI2.out
            have hcz15_0 := cellS60000_0 HGz15
            have hfz15_0 := blk_frozen HGz15 0
            clear HGz15 hgz15
            go_wp2
            go_roundg k2
            case measure => have := HK1.out; have := HK2.out; omega
            case rel => exact ⟨(x6_2), (wrap64 (x19_2 + 1)), (by first | rfl | (simp; done) | (simp [*]; done)), H', ⟨by have := HK1.out; have := HK2.out; omega⟩, ⟨by (with_reducible repeat (first | apply Kd.R_alloc | apply Kd.R_drewN | apply Kd.R_drew)); exact HO_6.out⟩, ⟨by repeat (first | (with_reducible first | exact HI2.out | apply IsS60000.alloc | apply IsS60000.drewN | apply IsS60000.drew | apply IsS60000.set_0) | exact HI2.out)⟩, ⟨by repeat (first | (with_reducible first | exact HK.out | apply KeepBut.set_ | apply keep_drewN | apply keep_drew | apply keep_alloc) | exact HK.out)⟩, ⟨by repeat (first | (with_reducible first | exact HB.out | apply below_alloc | apply pw_below_drewN | apply below_drew1 | refine below_set ?_ (IsS60000.ge HI2.out)) | exact HB.out)⟩⟩
          ·rw [if_neg c9] at H
           exact absurd H (by simp)
         ·rw [if_neg c8] at H
          exact absurd H (by simp)
        ·rw [if_neg c7] at H
         have c7b0 : decide (x19_2 < (l1.length : Int)) = false := decide_eq_false c7
         clear c7
         have H' := Aside0.mk H
         clear H
         go_wp2
         go_roundg k2
         case measure => have := HK1.out; have := HK2.out; omega
         case rel => exact ⟨(x6_2), (wrap64 (x13_1 + 1)), (by first | rfl | (simp; done) | (simp [*]; done)), H', ⟨by have := HK1.out; have := HK2.out; omega⟩, ⟨by (with_reducible repeat (first | apply Kd.R_alloc | apply Kd.R_drewN | apply Kd.R_drew)); exact HO_6.out⟩, ⟨by repeat (first | (with_reducible first | exact HI2.out | apply IsS60000.alloc | apply IsS60000.drewN | apply IsS60000.drew | apply IsS60000.set_0) | exact HI2.out)⟩, ⟨by repeat (first | (with_reducible first | exact HK.out | apply KeepBut.set_ | apply keep_drewN | apply keep_drew | apply keep_alloc) | exact HK.out)⟩, ⟨by repeat (first | (with_reducible first | exact HB.out | apply below_alloc | apply pw_below_drewN | apply below_drew1 | refine below_set ?_ (IsS60000.ge HI2.out)) | exact HB.out)⟩⟩
     ·rw [if_neg c6] at H
      exact absurd H (by simp)
    ·rw [if_neg c5] at H
     exact absurd H (by simp)
   ·rw [if_neg c4] at H
    have c4b0 : decide (x13_1 < (l0.length : Int)) = false := decide_eq_false c4
    clear c4
    replace H := Option.bind_eq_some_iff.mp H
    obtain ⟨t207, A160, H⟩ := H
    replace H : (some (t207, s2_0)) = some (r1, r2) := H
    have A16 := Aside0.mk A160
    clear A160
    simp only [Option.some.injEq, Prod.mk.injEq] at H
    obtain ⟨rfl, rfl⟩ := H
    obtain ⟨Ao17, co17, eo17⟩ := Kd.R_slice HO_6.out
    subst eo17
    go_wp2_with (first | ((with_reducible refine gate_callee (f := 66) rfl ?_); refine goesL_ (some 39) rfl rfl Try.func66 (by kernel_rfl) rfl #[.slice Ao17 x6_1.length co17] rfl (by (try simp only [List.map_toArray, List.map_cons, List.map_nil]); first | done | rfl | (simp only [List.length_drop, List.length_take]; rfl)) ?_; (with_reducible refine (pack_Make.calls _ _ x6_1 t207 _ ?side1 ?side2 A16.out).mono ?_); (case side1 => repeat (first | exact (Kd.R_reads' HO_6.out).2.2 | (with_reducible refine Kd.C_alloc ?_ _) | (with_reducible refine Kd.C_drewN ?_ _) | (with_reducible refine Kd.C_drew ?_))); (case side2 => exact (Kd.R_reads' HO_6.out).2.1); rintro e w18 ⟨v208, rfl, ho0, hb⟩; refine ⟨_, rfl, ?_⟩; have n1_ := Aside0.mk (Kd.R_lower (R_newT_ ho0) (keep_size (w := w) (g := g) (row := none) (by repeat (first | (with_reducible first | exact HK.out | apply KeepBut.set_ | apply keep_drewN | apply keep_drew | apply keep_alloc) | exact HK.out)))); have n2_ := Aside0.mk (IsS60000.below (by repeat (first | (with_reducible first | exact HI2.out | apply IsS60000.alloc | apply IsS60000.drewN | apply IsS60000.drew | apply IsS60000.set_0) | exact HI2.out)) hb); have n3_ := Aside0.mk (KeepBut.trans (by repeat (first | (with_reducible first | exact HK.out | apply KeepBut.set_ | apply keep_drewN | apply keep_drew | apply keep_alloc) | exact HK.out)) (KeepBut.of_below hb g none) (.inl rfl)); have n4_ := Aside0.mk (below_step (by repeat (first | (with_reducible first | exact HB.out | apply below_alloc | apply pw_below_drewN | apply below_drew1 | refine below_set ?_ (IsS60000.ge HI2.out)) | exact HB.out)) hb); clear HI2; clear HK; clear HB; have HO209 := n1_; have HI2 := n2_; have HK := n3_; have HB := n4_; clear n1_ n2_ n3_ n4_; (try clear hb); (try clear hb2); (try clear hk); (try clear hi); (try clear ho0)))
    go_ret
    exact ⟨_, by first | rfl | (simp [errW_none, errW_some] <;> rfl) | (simp [*, errW_none, errW_some] <;> rfl), by (with_reducible repeat (first | apply Kd.R_alloc | apply Kd.R_drewN | apply Kd.R_drew)); exact Kd.R_mono HO209.out (fun _ hk => trivial), by repeat (first | (with_reducible first | exact HI2.out | apply IsS60000.alloc | apply IsS60000.drewN | apply IsS60000.drew | apply IsS60000.set_0) | exact HI2.out), by repeat (first | (with_reducible first | exact HB.out | apply below_alloc | apply pw_below_drewN | apply below_drew1 | refine below_set ?_ (IsS60000.ge HI2.out)) | exact HB.out), by repeat (first | (with_reducible first | exact HK.out | apply KeepBut.set_ | apply keep_drewN | apply keep_drew | apply keep_alloc) | exact HK.out)⟩
theorem first_Words.same : ∀ k, (∀ x1 x6 x11 x12 x13 s r z, first_within_1.l0 k x1 x6 x11 x12 x13 s = some (r, z) → z = s) ∧ (∀ x1 x6 x8 x11 x12 x13 x17 x18 x19 s r z, first_within_1.l1 k x1 x6 x8 x11 x12 x13 x17 x18 x19 s = some (r, z) → z = s)
 | 0 => ⟨fun _ _ _ _ _ _ _ _ h => by (rw [first_within_1.l0] at h; cases h), fun _ _ _ _ _ _ _ _ _ _ _ _ h => by (rw [first_within_1.l1] at h; cases h)⟩
 | k + 1 => by
  obtain ⟨i0, i1⟩ := first_Words.same k
  constructor
  ·intro x1 x6 x11 x12 x13 s r z h
   rw [first_within_1.l0] at h
   split at h
   ·split at h
    ·split at h
     ·exact i1 _ _ _ _ _ _ _ _ _ _ _ _ h
     ·cases h
    ·cases h
   ·obtain ⟨t, -, h⟩ := Option.bind_eq_some_iff.mp h
    exact (Prod.mk.inj (Option.some.inj h)).2.symm
  ·intro x1 x6 x8 x11 x12 x13 x17 x18 x19 s r z h
   rw [first_within_1.l1] at h
   split at h
   ·split at h
    ·split at h
     ·split at h
      ·split at h
       ·split at h
        ·exact i1 _ _ _ _ _ _ _ _ _ _ _ _ h
        ·cases h
       ·cases h
      ·exact i1 _ _ _ _ _ _ _ _ _ _ _ _ h
     ·cases h
    ·cases h
   ·exact i0 _ _ _ _ _ _ _ _ h
theorem first_Words.apart {W : World} {gc : Nat} {kk : Int} {A : Option Addr} {n : Nat} {a : List ByteArray} (hk : first_Of.KK gc kk W) (h : Kd.C Kd.string W A n a) : ∀ ad, A = some ad → 0 < a.length → ad.block ≠ gc := by
 intro ad hA hn he
 subst hA
 obtain ⟨ad', hh, hc⟩ := h.2.2 (by have := h.1; omega)
 injection hh with hh
 subst hh
 obtain ⟨c, hcl, hM, hcell⟩ := hc 0 _ (List.getElem?_eq_getElem hn)
 have h1 := hcell 0 _ (List.getElem?_eq_getElem (by rw [hcl]; decide))
 have h2 : c = [.string a[0]] := hM
 subst h2
 rw [Nat.zero_mul, Nat.zero_add, Addr.add_zero'] at h1
 unfold first_Of.KK at hk
 subst he
 simp [World.cell?, hk] at h1
 obtain ⟨-, h1⟩ := h1
 cases ho : ad.off with
 | zero => rw [ho] at h1; simp at h1
 | succ m => rw [ho] at h1; simp at h1
def first_Words.cat (k : Nat) (kk : Int) (a b : List ByteArray) : Option (List ByteArray) := (first_within_1.f k a b kk).bind fun x => some x.1
theorem first_Words.clo_calls (k : Nat) (gc : Nat) (kk : Int) : first_Of.Cats 65 gc kk (first_Words.cat k kk) := by
 intro A0 c0 a A1 c1 b r W h0 l0 h1 l1 hk h
 obtain ⟨⟨r', z⟩, hf, he⟩ := Option.bind_eq_some_iff.mp h
 obtain rfl := Option.some.inj he
 have hz : z = kk := (first_Words.same k).1 _ _ _ _ _ _ _ _ hf
 subst hz
 refine (first_within_1.calls k A0 c0 a A1 c1 b gc z r' z { W with heap := #[] } W ⟨hk, Nat.zero_le _⟩ ⟨rfl, rfl, rfl, Nat.zero_le _, fun i hi => absurd hi (Nat.not_lt_zero i)⟩ h0 l0 (first_Words.apart hk h0) h1 l1 (first_Words.apart hk h1) hf).mono ?_
 rintro e w' ⟨v, rfl, hR, hI, hB, hK⟩
 refine ⟨v, rfl, hR, ⟨hB.os, hB.tape, hB.output, hK.1, fun i hi => ?_⟩⟩
 by_cases hg : i = gc
 ·rw [hg]; exact hI.1.trans hk.symm
 ·exact hK.2 i hi hg (by simp)
theorem first_Words.within_calls (kk : Int) (w : World) : Calls Try.prog 34 #[.int .i64 kk] w fun e w' => e = .returned (.func (.func 65) #[] #[.pointer (some ⟨w.heap.size, 0, none⟩)]) ∧ w' = w.alloc (.cells #[.int .i64 kk] 3) := by
 go_enter Try.func34, Try.ntmps34
 go_wp2
 go_ret
 exact ⟨rfl, rfl⟩
def first_Words.f (k : Nat) (a0_0 a0_1 : Int) (l0_2 : List Int) (l0_3 : List S61) (a1 a2 : Int) : Option (List ByteArray × Int) :=
 (bnf_May.f k a0_0 a0_1 l0_2 l0_3).bind fun e => if e = 0 then (if a1 < 0 then some ([], 3) else if (l0_2.length : Int) ≤ a1 then some ([], 3) else (first_Of.grow (first_Words.cat k (mn (mx a2 0) 4)) k a0_0 a0_1 l0_2 l0_3 10000).bind fun x => if x.2 = 0 then (if a1 < (x.1.length : Int) then some (rd_L6 x.1 a1, 0) else none) else some ([], x.2)) else some ([], e)
theorem first_Words.cat_mono (k : Nat) (kk : Int) (a b : List ByteArray) : LeO (first_Words.cat k kk a b) (first_Words.cat (k + 1) kk a b) := LeO.bind (first_within_1.mono _ _ _ _) (fun _ => LeO.refl _)
theorem first_Words.mono : ∀ a b c d e g k, LeO (first_Words.f k a b c d e g) (first_Words.f (k + 1) a b c d e g) := by
 intro a b c d e g k
 unfold first_Words.f
 refine LeO.bind (bnf_May.mono _ _ _ _ _) (fun x => ?_)
 by_cases h0 : x = 0
 ·simp only [if_pos h0]
  by_cases h1 : e < 0
  ·simp only [if_pos h1]; exact LeO.refl _
  ·simp only [if_neg h1]
   by_cases h2 : (c.length : Int) ≤ e
   ·simp only [if_pos h2]; exact LeO.refl _
   ·simp only [if_neg h2]
    exact LeO.bind (first_Of.grow_mono (fun a b => first_Words.cat_mono _ _ _ _) _ _ _ _ _ _) (fun _ => LeO.refl _)
 ·simp only [if_neg h0]; exact LeO.refl _
set_option maxHeartbeats 8000000 in
set_option maxRecDepth 100000 in
theorem first_Words.calls (k : Nat) (a0_0 a0_1 : Int) (A2 : Option Addr) (c2 : Nat) (l0_2 : List Int) (A3 : Option Addr) (c3 : Nat) (l0_3 : List S61) (a1 a2 : Int) (r1 : List ByteArray) (r2 : Int) (w : World)
  (hr2 : Kd.C (Kd.int .i64) w A2 l0_2.length l0_2) (hc2 : l0_2.length ≤ c2) (hr3 : Kd.C k61 w A3 l0_3.length l0_3) (hc3 : l0_3.length ≤ c3) (h : first_Words.f k a0_0 a0_1 l0_2 l0_3 a1 a2 = some (r1, r2)) :
  Calls Try.prog 9 #[.agg #[.int .i64 a0_0, .int .i64 a0_1, .slice A2 l0_2.length c2, .slice A3 l0_3.length c3], .int .i64 a1, .int .i64 a2] w fun e w' => ∃ v0_ : Value, e = .returned (.tuple #[v0_, .int .i64 r2]) ∧ Kd.R Kd.string 9 w' w.heap.size (fun _ => True) v0_ r1 ∧ Below w.heap.size w w' := by
 obtain ⟨e0, he, ha⟩ := Option.bind_eq_some_iff.mp h
 have HE := Aside0.mk he
 have HR2 := Aside0.mk hr2
 have HC2 := Aside0.mk hc2
 have HR3 := Aside0.mk hr3
 have HC3 := Aside0.mk hc3
 have hu := Try.underlying25
 have hu2 := Try.underlying69
 by_cases h0 : e0 = 0
 ·subst h0
  rw [if_pos rfl] at ha
  have HA := Aside0.mk ha
  clear h he ha hr2 hr3 hc2 hc3
  go_enter Try.func9, Try.ntmps9
  go_wp2_with fail
  refine (bnf_May.calls k a0_0 a0_1 A2 c2 l0_2 A3 c3 l0_3 0 _ (Kd.C_alloc HR2.out _) HC2.out (Kd.C_alloc HR3.out _) HC3.out HE.out).mono ?_
  rintro e w1 ⟨rfl, hb1⟩
  have q0 := (hb1.cell (p := ⟨w.heap.size, 0, none⟩) (by simp)).trans (blk_cell (blk_new _ _) 0)
  have q1 := (hb1.cell (p := ⟨w.heap.size, 1, none⟩) (by simp)).trans (blk_cell (blk_new _ _) 1)
  have q2 := (hb1.cell (p := ⟨w.heap.size, 2, none⟩) (by simp)).trans (blk_cell (blk_new _ _) 2)
  have q3 := (hb1.cell (p := ⟨w.heap.size, 3, none⟩) (by simp)).trans (blk_cell (blk_new _ _) 3)
  have HB1 := Aside0.mk (below_step (below_alloc (Below.refl w.heap.size w) _) hb1)
  have hlt : w.heap.size < w1.heap.size := World.block_lt_of_cell? w1 ⟨w.heap.size, 0, none⟩ q0
  clear hb1
  by_cases h1 : a1 < 0
  ·have ha := HA.out
   rw [if_pos h1] at ha
   obtain ⟨rfl, rfl⟩ := Prod.mk.inj (Option.some.inj ha)
   have c1 : decide (a1 < 0) = true := decide_eq_true h1
   clear ha h1
   go_wp2
   go_ret2
   exact ⟨_, rfl, Kd.R_nil _ _ _ _ _, HB1.out⟩
  ·have ha := HA.out
   rw [if_neg h1] at ha
   have c1 : decide (a1 < 0) = false := decide_eq_false h1
   have HN1 := Aside0.mk (Int.not_lt.1 h1)
   by_cases h2 : (l0_2.length : Int) ≤ a1
   ·rw [if_pos h2] at ha
    obtain ⟨rfl, rfl⟩ := Prod.mk.inj (Option.some.inj ha)
    have c2 : decide ((l0_2.length : Int) ≤ a1) = true := decide_eq_true h2
    clear ha h1 h2
    go_wp2
    go_ret2
    exact ⟨_, rfl, Kd.R_nil _ _ _ _ _, HB1.out⟩
   ·rw [if_neg h2] at ha
    have c2b : decide ((l0_2.length : Int) ≤ a1) = false := decide_eq_false h2
    have HN2 := Aside0.mk h2
    obtain ⟨⟨x1, x2⟩, hx, ha⟩ := Option.bind_eq_some_iff.mp ha
    obtain ⟨j4, hj4⟩ : ∃ j_ : Int, mx a2 0 = j_ := ⟨_, rfl⟩
    obtain ⟨j5, hj5⟩ : ∃ j_ : Int, mn j4 4 = j_ := ⟨_, rfl⟩
    rw [hj4, hj5] at hx
    have hj4_ : (if a2 < 0 then 0 else a2) = j4 := hj4
    have hj5_ : (if 4 < j4 then 4 else j4) = j5 := hj5
    have HX := Aside0.mk hx
    clear hj4 hj5
    clear h1 h2 hx HA
    have hb1 := q0
    go_wp2
    clear hb1
    by_cases hz : x2 = 0
    ·subst hz
     rw [if_pos rfl] at ha
     by_cases h3 : a1 < (x1.length : Int)
     ·rw [if_pos h3] at ha
      obtain ⟨rfl, rfl⟩ := Prod.mk.inj (Option.some.inj ha)
      have HN3 := Aside0.mk h3
      clear ha h3
      go_region_held3 (fun V => V.cell? ⟨w.heap.size, 0, none⟩ = some (.int .i64 a0_0) ∧ V.cell? ⟨w.heap.size, 1, none⟩ = some (.int .i64 a0_1) ∧ V.cell? ⟨w.heap.size, 2, none⟩ = some (.slice A2 l0_2.length c2) ∧ V.cell? ⟨w.heap.size, 3, none⟩ = some (.slice A3 l0_3.length c3))
       (first | go_keep | exact ⟨(hb5.cell (p := ⟨w.heap.size, 0, none⟩) hlt).trans q0, (hb5.cell (p := ⟨w.heap.size, 1, none⟩) hlt).trans q1, (hb5.cell (p := ⟨w.heap.size, 2, none⟩) hlt).trans q2, (hb5.cell (p := ⟨w.heap.size, 3, none⟩) hlt).trans q3⟩ | exact ⟨(hb6.cell (p := ⟨w.heap.size, 0, none⟩) (Nat.lt_of_lt_of_le hlt hb5.size)).trans ((hb5.cell (p := ⟨w.heap.size, 0, none⟩) hlt).trans q0), (hb6.cell (p := ⟨w.heap.size, 1, none⟩) (Nat.lt_of_lt_of_le hlt hb5.size)).trans ((hb5.cell (p := ⟨w.heap.size, 1, none⟩) hlt).trans q1), (hb6.cell (p := ⟨w.heap.size, 2, none⟩) (Nat.lt_of_lt_of_le hlt hb5.size)).trans ((hb5.cell (p := ⟨w.heap.size, 2, none⟩) hlt).trans q2), (hb6.cell (p := ⟨w.heap.size, 3, none⟩) (Nat.lt_of_lt_of_le hlt hb5.size)).trans ((hb5.cell (p := ⟨w.heap.size, 3, none⟩) hlt).trans q3)⟩)
       (first
        | (go_at_call 34; refine (first_Words.within_calls j5 _).mono ?_; rintro e w5 ⟨rfl, hw5⟩; have hk5 : first_Of.KK w1.heap.size j5 w5 := (by rw [hw5]; exact blk_new _ _); have hb5 : Below w1.heap.size w1 w5 := (by rw [hw5]; exact below_alloc (below_drew1 (Below.refl _ _)) _); clear hw5)
        | (go_at_call 33; refine ((first_Of.grow_calls (.inr rfl) (first_Words.clo_calls k w1.heap.size j5) k a0_0 a0_1 A2 c2 l0_2 A3 c3 l0_3 10000 x1 0 w5 (Kd.C_below HR2.out (below_step HB1.out hb5)) HC2.out (Kd.C_below HR3.out (below_step HB1.out hb5)) HC3.out hk5 HX.out).mono fun e w' hg => first_Of.grown_ok rfl hg).mono ?_; rintro e w6 ⟨hb6, g6, rfl, hm6⟩))
      obtain ⟨gs, n, cap, m4, m5, m6, mK, mS⟩ := hm6
      have hn := (Kd.S_reads' mS).1
      have p2 := HN1.out
      have q2 := HN3.out
      have q3 : a1 < (n : Int) := by omega
      obtain ⟨ad2, A8, c8, e2, hy0, hyl, hyr⟩ := at_L6 (Kd.S_reads' mS).2.2 a1 p2 q2
      obtain rfl : (⟨gs, 0, none⟩ : Addr) = ad2 := by injection e2
      obtain ⟨ce, hce, hMe, hcc⟩ := Kd.S_get mS [] a1 p2 q3
      obtain ⟨ve, rfl, ge⟩ := hMe
      have hv := hcc 0 _ rfl
      rw [Nat.add_zero, show ((Kd.slice 9 Kd.string)).sz = 1 from rfl, Nat.mul_one] at hv
      replace hv := Option.some.inj (hv.symm.trans hy0)
      rw [hv] at ge
      have HB6 := Aside0.mk (below_step (below_step HB1.out hb5) hb6)
      have HL := Aside0.mk (show Kd.R Kd.string 9 _ _ _ _ (rd_L6 x1 a1) from Kd.R_lower (Kd.R_mono ge (ok' := fun _ => True) (fun _ hk => trivial)) (below_step HB1.out hb5).size)
      clear m5 m6 mK mS hk5 hb5 hb6 q0 q1 hyl hyr e2 hv ge hcc hce hn
      try simp only [add_plain] at hy0
      replace p2 := eq_true p2
      replace q2 := eq_true q3
      clear q3
      go_wp2
      go_ret2
      exact ⟨_, rfl, HL.out, HB6.out⟩
     ·rw [if_neg h3] at ha; cases ha
    ·rw [if_neg hz] at ha
     obtain ⟨rfl, rfl⟩ := Prod.mk.inj (Option.some.inj ha)
     have hz2 : (x2 != 0) = true := bne_iff_ne.mpr hz
     have HZ := Aside0.mk hz
     clear hz ha
     go_region_held3 (fun V => V.cell? ⟨w.heap.size, 0, none⟩ = some (.int .i64 a0_0) ∧ V.cell? ⟨w.heap.size, 1, none⟩ = some (.int .i64 a0_1) ∧ V.cell? ⟨w.heap.size, 2, none⟩ = some (.slice A2 l0_2.length c2) ∧ V.cell? ⟨w.heap.size, 3, none⟩ = some (.slice A3 l0_3.length c3))
      (first | go_keep | exact ⟨(hb5.cell (p := ⟨w.heap.size, 0, none⟩) hlt).trans q0, (hb5.cell (p := ⟨w.heap.size, 1, none⟩) hlt).trans q1, (hb5.cell (p := ⟨w.heap.size, 2, none⟩) hlt).trans q2, (hb5.cell (p := ⟨w.heap.size, 3, none⟩) hlt).trans q3⟩ | exact ⟨(hb6.cell (p := ⟨w.heap.size, 0, none⟩) (Nat.lt_of_lt_of_le hlt hb5.size)).trans ((hb5.cell (p := ⟨w.heap.size, 0, none⟩) hlt).trans q0), (hb6.cell (p := ⟨w.heap.size, 1, none⟩) (Nat.lt_of_lt_of_le hlt hb5.size)).trans ((hb5.cell (p := ⟨w.heap.size, 1, none⟩) hlt).trans q1), (hb6.cell (p := ⟨w.heap.size, 2, none⟩) (Nat.lt_of_lt_of_le hlt hb5.size)).trans ((hb5.cell (p := ⟨w.heap.size, 2, none⟩) hlt).trans q2), (hb6.cell (p := ⟨w.heap.size, 3, none⟩) (Nat.lt_of_lt_of_le hlt hb5.size)).trans ((hb5.cell (p := ⟨w.heap.size, 3, none⟩) hlt).trans q3)⟩)
      (first
       | (go_at_call 34; refine (first_Words.within_calls j5 _).mono ?_; rintro e w5 ⟨rfl, hw5⟩; have hk5 : first_Of.KK w1.heap.size j5 w5 := (by rw [hw5]; exact blk_new _ _); have hb5 : Below w1.heap.size w1 w5 := (by rw [hw5]; exact below_alloc (below_drew1 (Below.refl _ _)) _); clear hw5)
       | (go_at_call 33; refine ((first_Of.grow_calls (.inr rfl) (first_Words.clo_calls k w1.heap.size j5) k a0_0 a0_1 A2 c2 l0_2 A3 c3 l0_3 10000 x1 x2 w5 (Kd.C_below HR2.out (below_step HB1.out hb5)) HC2.out (Kd.C_below HR3.out (below_step HB1.out hb5)) HC3.out hk5 HX.out).mono fun e w' hg => first_Of.grown_err HZ.out hg).mono ?_; rintro e w6 ⟨hb6, hr6, rfl⟩))
     subst hr6
     have HB6 := Aside0.mk (below_step (below_step HB1.out hb5) hb6)
     clear hk5 hb5 hb6 q0 q1 q2 q3
     go_wp2
     go_ret2
     exact ⟨_, rfl, Kd.R_nil _ _ _ _ _, HB6.out⟩
 ·rw [if_neg h0] at ha
  obtain ⟨rfl, rfl⟩ := Prod.mk.inj (Option.some.inj ha)
  have hz : (e0 != 0) = true := bne_iff_ne.mpr h0
  have HN := Aside0.mk h0
  clear h he ha hr2 hr3 hc2 hc3 h0
  go_enter Try.func9, Try.ntmps9
  go_wp2_with fail
  refine (bnf_May.calls k a0_0 a0_1 A2 c2 l0_2 A3 c3 l0_3 e0 _ (Kd.C_alloc HR2.out _) HC2.out (Kd.C_alloc HR3.out _) HC3.out HE.out).mono ?_
  rintro e w1 ⟨rfl, hb1⟩
  have HB1 := Aside0.mk (below_step (below_alloc (Below.refl w.heap.size w) _) hb1)
  clear hb1
  go_wp2
  go_ret2
  exact ⟨_, rfl, Kd.R_nil _ _ _ _ _, HB1.out⟩
def gramaryebase_SameTexts.l0 : Nat → List ByteArray → List ByteArray → Int → Option (Bool)
 | 0, _, _, _ => none
 | k + 1, x0, x1, x5 => if x5 < (x0.length : Int) then (if 0 ≤ x5 then (if x5 < (x1.length : Int) then (if (rdOf ByteArray.empty x0 x5).toList = (rdOf ByteArray.empty x1 x5).toList then (gramaryebase_SameTexts.l0 k x0 x1 (wrap64 (x5 + 1))) else (some false)) else (none)) else (none)) else (some true)
def gramaryebase_SameTexts.f (k : Nat) (l0 : List ByteArray) (l1 : List ByteArray) : Option (Bool) := if (l0.length : Int) = (l1.length : Int) then (gramaryebase_SameTexts.l0 k l0 l1 0) else (some false)
theorem gramaryebase_SameTexts.mono_l : ∀ k, (∀ y0 y1 y2, LeO (gramaryebase_SameTexts.l0 k y0 y1 y2) (gramaryebase_SameTexts.l0 (k + 1) y0 y1 y2))
 | 0 => fun _ _ _ r h => by simp [gramaryebase_SameTexts.l0] at h
 | k + 1 => by
  have ih0 := gramaryebase_SameTexts.mono_l k
  ·intro y0 y1 y2
   unfold gramaryebase_SameTexts.l0
   repeat' first
   | (with_reducible exact ih0 _ _ _)
   | (with_reducible exact LeO.refl _)
   | (with_reducible exact LeO.none _)
   | (with_reducible refine LeO.ite ?_ ?_)
   | (with_reducible refine LeO.bind ?_ (fun _ => ?_))
   | exact ih0 _ _ _
   | exact LeO.none _
   | refine LeO.ite ?_ ?_
   | refine LeO.bind ?_ (fun _ => ?_)
theorem gramaryebase_SameTexts.mono : ∀ a0 a1 k, LeO (gramaryebase_SameTexts.f k a0 a1) (gramaryebase_SameTexts.f (k + 1) a0 a1) := by
 intro a0 a1 k
 have ih0 := gramaryebase_SameTexts.mono_l k
 unfold gramaryebase_SameTexts.f
 repeat' first
   | (with_reducible exact ih0 _ _ _)
   | (with_reducible exact LeO.refl _)
   | (with_reducible exact LeO.none _)
   | (with_reducible refine LeO.ite ?_ ?_)
   | (with_reducible refine LeO.bind ?_ (fun _ => ?_))
   | exact ih0 _ _ _
   | exact LeO.none _
   | refine LeO.ite ?_ ?_
   | refine LeO.bind ?_ (fun _ => ?_)
set_option maxHeartbeats 8000000 in
set_option maxRecDepth 100000 in
theorem gramaryebase_SameTexts.calls (k : Nat) (A0 : Option Addr) (c0 : Nat) (l0 : List ByteArray) (A1 : Option Addr) (c1 : Nat) (l1 : List ByteArray) (r : Bool) (w : World) (hr0 : Kd.C Kd.string w A0 l0.length l0) (hc0 : l0.length ≤ c0) (hr1 : Kd.C Kd.string w A1 l1.length l1) (hc1 : l1.length ≤ c1) (h : gramaryebase_SameTexts.f k l0 l1 = some r) :
  Calls Try.prog 13 #[.slice A0 l0.length c0, .slice A1 l1.length c1] w fun e w' => e = .returned (.bool r) ∧ Drawn0 w w' := by
 have HR0 := Aside0.mk hr0
 have HC0 := Aside0.mk hc0
 clear hr0 hc0
 have HR1 := Aside0.mk hr1
 have HC1 := Aside0.mk hc1
 clear hr1 hc1
 have H : (if (l0.length : Int) = (l1.length : Int) then (gramaryebase_SameTexts.l0 k l0 l1 0) else (some false)) = some r := h
 clear h
 by_cases c3 : (l0.length : Int) = (l1.length : Int)
 ·rw [if_pos c3] at H
  have c3b0 : ((l0.length : Int) == (l1.length : Int)) = true := beq_iff_eq.mpr c3
  have c3b1 : ((l0.length : Int) != (l1.length : Int)) = false := bne_eq_false_iff_eq.mpr c3
  have c3b2 : (l0.length == l1.length) = true := by first | simpa using c3 | (simp at c3 ⊢; omega)
  clear c3
  have H' := Aside0.mk H
  clear H
  go_enter Try.func13, Try.ntmps13
  go_wp2
  repeat (go_quiet (fail); try go_wp2)
  go_loopg [5] k (fun kq v5 w' => ∃ (x5_1 : Int), v5 = .int .i64 x5_1 ∧ Aside0 (gramaryebase_SameTexts.l0 kq l0 l1 x5_1 = some r) ∧ Aside0 (kq ≤ k) ∧ Drawn0 w w')
  case atStart => exact ⟨(0), (by first | rfl | (simp; done) | (simp [*]; done)), H', ⟨Nat.le_refl _⟩, by repeat (first | exact Drawn0.refl _ | apply Drawn0.step)⟩
  case round =>
   clear H'
   try clear c1
   try clear p2
   try clear c3
   try clear c3b0
   try clear c3b1
   try clear c3b2
   obtain ⟨x5_1, rfl, HA, HK1, ⟨m1, rfl⟩⟩ := hrel
   cases gk with
   | zero => exact absurd HA.out (by simp [gramaryebase_SameTexts.l0])
   | succ k1 =>
    have H := HA.out
    clear HA
    simp only [gramaryebase_SameTexts.l0] at H
    by_cases c4 : x5_1 < (l0.length : Int)
    ·rw [if_pos c4] at H
     have c4b0 : decide (x5_1 < (l0.length : Int)) = true := decide_eq_true c4
     clear c4
     by_cases c5 : 0 ≤ x5_1
     ·rw [if_pos c5] at H
      have c5b0 : decide (0 ≤ x5_1) = true := decide_eq_true c5
      clear c5
      by_cases c6 : x5_1 < (l1.length : Int)
      ·rw [if_pos c6] at H
       have c6b0 : decide (x5_1 < (l1.length : Int)) = true := decide_eq_true c6
       clear c6
       by_cases c7 : (rdOf ByteArray.empty l0 x5_1).toList = (rdOf ByteArray.empty l1 x5_1).toList
       ·rw [if_pos c7] at H
        have c7b0 : ((rdOf ByteArray.empty l0 x5_1).toList == (rdOf ByteArray.empty l1 x5_1).toList) = true := beq_iff_eq.mpr c7
        have c7b1 : ((rdOf ByteArray.empty l0 x5_1).toList != (rdOf ByteArray.empty l1 x5_1).toList) = false := bne_eq_false_iff_eq.mpr c7
        clear c7
        have H' := Aside0.mk H
        clear H
        have p215 : 0 ≤ (x5_1 : Int) := of_decide_eq_true (by first | (with_reducible assumption) | assumption)
        have q215 : x5_1 < (l0.length : Int) := of_decide_eq_true (by first | (with_reducible assumption) | assumption)
        obtain ⟨ad215, e215, hx215_0⟩ := Kd.at_string HR0.out x5_1 p215 q215
        cases e215
        replace p215 := eq_true p215
        replace q215 := eq_true q215
        have p216 : 0 ≤ (x5_1 : Int) := of_decide_eq_true (by first | (with_reducible assumption) | assumption)
        have q216 : x5_1 < (l1.length : Int) := of_decide_eq_true (by first | (with_reducible assumption) | assumption)
        obtain ⟨ad216, e216, hx216_0⟩ := Kd.at_string HR1.out x5_1 p216 q216
        cases e216
        replace p216 := eq_true p216
        replace q216 := eq_true q216
        go_wp2
        repeat (go_quiet (fail); try go_wp2)
        go_roundg k1
        case measure => have := HK1.out; omega
        case rel => exact ⟨(wrap64 (x5_1 + 1)), (by first | rfl | (simp; done) | (simp [*]; done)), H', ⟨by have := HK1.out; omega⟩, by repeat (first | exact Drawn0.refl _ | apply Drawn0.step)⟩
       ·rw [if_neg c7] at H
        have c7b0 : ((rdOf ByteArray.empty l0 x5_1).toList == (rdOf ByteArray.empty l1 x5_1).toList) = false := beq_eq_false_iff_ne.mpr c7
        have c7b1 : ((rdOf ByteArray.empty l0 x5_1).toList != (rdOf ByteArray.empty l1 x5_1).toList) = true := bne_iff_ne.mpr c7
        obtain rfl := Option.some.inj H
        have p215 : 0 ≤ (x5_1 : Int) := of_decide_eq_true (by first | (with_reducible assumption) | assumption)
        have q215 : x5_1 < (l0.length : Int) := of_decide_eq_true (by first | (with_reducible assumption) | assumption)
        obtain ⟨ad215, e215, hx215_0⟩ := Kd.at_string HR0.out x5_1 p215 q215
        cases e215
        replace p215 := eq_true p215
        replace q215 := eq_true q215
        have p216 : 0 ≤ (x5_1 : Int) := of_decide_eq_true (by first | (with_reducible assumption) | assumption)
        have q216 : x5_1 < (l1.length : Int) := of_decide_eq_true (by first | (with_reducible assumption) | assumption)
        obtain ⟨ad216, e216, hx216_0⟩ := Kd.at_string HR1.out x5_1 p216 q216
        cases e216
        replace p216 := eq_true p216
        replace q216 := eq_true q216
        go_wp2
        repeat (go_quiet (fail); try go_wp2)
        go_ret
        exact ⟨by first | rfl | (simp; done) | (simp [*]; done), by repeat (first | exact Drawn0.refl _ | apply Drawn0.step)⟩
      ·rw [if_neg c6] at H
       exact absurd H (by simp)
     ·rw [if_neg c5] at H
      exact absurd H (by simp)
    ·rw [if_neg c4] at H
     have c4b0 : decide (x5_1 < (l0.length : Int)) = false := decide_eq_false c4
     clear c4
     obtain rfl := Option.some.inj H
     go_wp2
     repeat (go_quiet (fail); try go_wp2)
     go_ret
     exact ⟨by first | rfl | (simp; done) | (simp [*]; done), by repeat (first | exact Drawn0.refl _ | apply Drawn0.step)⟩
 ·rw [if_neg c3] at H
  have c3b0 : ((l0.length : Int) == (l1.length : Int)) = false := beq_eq_false_iff_ne.mpr c3
  have c3b1 : ((l0.length : Int) != (l1.length : Int)) = true := bne_iff_ne.mpr c3
  have c3b2 : (l0.length == l1.length) = false := by first | simpa using c3 | (simp at c3 ⊢; omega)
  obtain rfl := Option.some.inj H
  go_enter Try.func13, Try.ntmps13
  go_wp2
  repeat (go_quiet (fail); try go_wp2)
  go_ret
  exact ⟨by first | rfl | (simp; done) | (simp [*]; done), by repeat (first | exact Drawn0.refl _ | apply Drawn0.step)⟩
def gramaryelaw14_sample.f  : Option (Int × Int × List Int × (List (S61))) := some (2, 2, (([(-1)] : List Int)), (([(⟨0, (([(⟨true, 1⟩ : S71), (⟨false, 0⟩ : S71)] : List (S71)))⟩ : S61), (⟨0, (([(⟨true, 2⟩ : S71)] : List (S71)))⟩ : S61)] : List (S61))))
set_option maxHeartbeats 8000000 in
set_option maxRecDepth 100000 in
theorem gramaryelaw14_sample.calls  (r1 : Int) (r2 : Int) (r3 : List Int) (r4 : List (S61)) (w : World) (h : gramaryelaw14_sample.f  = some (r1, r2, r3, r4)) :
  Calls Try.prog 35 #[] w fun e w' => ∃ v2_ v3_ : Value, e = .returned (.agg #[.int .i64 r1, .int .i64 r2, v2_, v3_]) ∧ Kd.R (Kd.int .i64) 3 w' w.heap.size (fun k_ => (w.heap.size ≤ k_)) v2_ r3 ∧ Kd.N k61 61 w' w.heap.size (fun k_ => (w.heap.size ≤ k_) ∧ some k_ ≠ (v2_ : Value).ownBlock) v3_ r4 ∧ Below w.heap.size w w' := by
 have hu25 := Try.underlying25
 have hu71 := Try.underlying71
 have hu61 := Try.underlying61
 have HB := Aside0.mk (Below.refl w.heap.size w)
 have H : (some (2, 2, (([(-1)] : List Int)), (([(⟨0, (([(⟨true, 1⟩ : S71), (⟨false, 0⟩ : S71)] : List (S71)))⟩ : S61), (⟨0, (([(⟨true, 2⟩ : S71)] : List (S71)))⟩ : S61)] : List (S61))))) = some (r1, r2, r3, r4) := h
 clear h
 obtain ⟨y218, hy218⟩ : ∃ y_ : List Int, y_ = (([(-1)] : List Int)) := ⟨_, rfl⟩
 replace H : (some (2, 2, y218, (([(⟨0, (([(⟨true, 1⟩ : S71), (⟨false, 0⟩ : S71)] : List (S71)))⟩ : S61), (⟨0, (([(⟨true, 2⟩ : S71)] : List (S71)))⟩ : S61)] : List (S61))))) = some (r1, r2, r3, r4) := by first | (rw [hy218]; with_reducible exact H) | (have H2_ := (Option.bind_some _ _).symm.trans H; rw [hy218]; with_reducible exact H2_) | (have H2_ := (Option.bind_some _ _).symm.trans H; with_reducible exact H2_) | with_reducible exact H | (rw [hy218]; exact H) | exact H
 have Ny218 := Aside0.mk hy218
 clear hy218
 obtain ⟨y221, hy221⟩ : ∃ y_ : List (S71), y_ = (([(⟨true, 1⟩ : S71), (⟨false, 0⟩ : S71)] : List (S71))) := ⟨_, rfl⟩
 replace H : (some (2, 2, y218, (([(⟨0, y221⟩ : S61), (⟨0, (([(⟨true, 2⟩ : S71)] : List (S71)))⟩ : S61)] : List (S61))))) = some (r1, r2, r3, r4) := by first | (rw [hy221]; with_reducible exact H) | (have H2_ := (Option.bind_some _ _).symm.trans H; rw [hy221]; with_reducible exact H2_) | (have H2_ := (Option.bind_some _ _).symm.trans H; with_reducible exact H2_) | with_reducible exact H | (rw [hy221]; exact H) | exact H
 have Ny221 := Aside0.mk hy221
 clear hy221
 obtain ⟨y224, hy224⟩ : ∃ y_ : List (S71), y_ = (([(⟨true, 2⟩ : S71)] : List (S71))) := ⟨_, rfl⟩
 replace H : (some (2, 2, y218, (([(⟨0, y221⟩ : S61), (⟨0, y224⟩ : S61)] : List (S61))))) = some (r1, r2, r3, r4) := by first | (rw [hy224]; with_reducible exact H) | (have H2_ := (Option.bind_some _ _).symm.trans H; rw [hy224]; with_reducible exact H2_) | (have H2_ := (Option.bind_some _ _).symm.trans H; with_reducible exact H2_) | with_reducible exact H | (rw [hy224]; exact H) | exact H
 have Ny224 := Aside0.mk hy224
 clear hy224
 obtain ⟨y227, hy227⟩ : ∃ y_ : List (S61), y_ = (([(⟨0, y221⟩ : S61), (⟨0, y224⟩ : S61)] : List (S61))) := ⟨_, rfl⟩
 replace H : (some (2, 2, y218, y227)) = some (r1, r2, r3, r4) := by first | (rw [hy227]; with_reducible exact H) | (have H2_ := (Option.bind_some _ _).symm.trans H; rw [hy227]; with_reducible exact H2_) | (have H2_ := (Option.bind_some _ _).symm.trans H; with_reducible exact H2_) | with_reducible exact H | (rw [hy227]; exact H) | exact H
 have Ny227 := Aside0.mk hy227
 clear hy227
 simp only [Option.some.injEq, Prod.mk.injEq] at H
 obtain ⟨rfl, rfl, rfl, rfl⟩ := H
 go_enter Try.func35, Try.ntmps35
 go_wp2_with (first | ((with_reducible refine gate_dst (N := 0) rfl ?_); refine box_event ?hg (N := 0) ?hd (cs := #[.int .i64 0, .int .i64 0, .slice none 0 0, .slice none 0 0]) (t := 25) ?hr ?_; (case hd => rfl); (case hg => rfl); (case hr => first | (go_simp; done) | (go_simp; rfl)); intro gb217 hg w1 hbox hb; have n0_ := Aside0.mk (below_step (by repeat (first | (with_reducible first | exact HB.out | apply below_alloc | apply pw_below_drewN | apply below_drew1) | exact HB.out)) hb); have n1_ := Aside0.mk (hbox); have n2_ := Aside0.mk ((by rw [hg]; exact (below_size (by repeat (first | (with_reducible first | exact HB.out | apply below_alloc | apply pw_below_drewN | apply below_drew1) | exact HB.out))) : w.heap.size ≤ gb217)); have n3_ := Aside0.mk ((by rw [hg]; exact (below_size (by repeat (first | (with_reducible first | exact HB.out | apply below_alloc | apply pw_below_drewN | apply below_drew1) | exact HB.out))) : w.heap.size ≤ gb217)); clear HB; have HB := n0_; have BK217 := n1_; have GW217 := n2_; have GE217 := n3_; clear n0_ n1_ n2_ n3_; clear hb hbox hg) | ((with_reducible refine gate_dst (N := 1) rfl ?_); refine Kd.R_lit (Kd.int .i64) _ 3 ?hg (N := 1) ?hd (xs := ([(-1)] : List Int)) (inner := [.int .i64 (-1)]) (ok := fun _ => True) (okp := fun _ => True) ?hr ?hp (fun _ hk => hk) trivial (Below.refl _ _) (Nat.le_refl _) (by simp) ?_; (case hd => rfl); (case hg => rfl); (case hr => first | (go_simp; done) | (go_simp; rfl)); (case hp => exact (Reps.one (show Kd.M (Kd.int .i64) _ _ _ (-1) [.int .i64 (-1)] from rfl) (Reps.none _ _))); intro v219 w2 ho3 hb hg_ hnew_; clear hg_ hnew_; (first | rw [← Ny218.out] at ho3 | (simp only [Int.reduceToNat] at ho3; rw [← Ny218.out] at ho3)); have n0_ := Aside0.mk (Kd.R_lower (Kd.R_newM (M := fun k_ => (w.heap.size ≤ k_)) ho3 (below_size (by repeat (first | (with_reducible first | exact HB.out | apply below_alloc | apply pw_below_drewN | apply below_drew1 | refine below_set ?_ GE217.out) | exact HB.out))) (fun k_ h_ => h_)) (below_size (by repeat (first | (with_reducible first | exact HB.out | apply below_alloc | apply pw_below_drewN | apply below_drew1 | refine below_set ?_ GE217.out) | exact HB.out)))); have n1_ := Aside0.mk (blk_below (g := gb217) (o := .cells #[.int .i64 0, .int .i64 0, .slice none 0 0, .slice none 0 0] 25 (0, 0)) (by (with_reducible repeat (first | refine blk_drewN ?_ _ | refine blk_drew ?_ | refine blk_alloc ?_ _)); exact BK217.out) hb); have n2_ := Aside0.mk (below_step (by repeat (first | (with_reducible first | exact HB.out | apply below_alloc | apply pw_below_drewN | apply below_drew1 | refine below_set ?_ GE217.out) | exact HB.out)) hb); clear BK217; clear HB; have HO220 := n0_; have BK217 := n1_; have HB := n2_; clear n0_ n1_ n2_; clear hb ho3) | ((with_reducible refine gate_dst (N := 4) rfl ?_); refine Kd.R_lit k71 _ 71 ?hg (N := 4) ?hd (xs := ([(⟨true, 1⟩ : S71), (⟨false, 0⟩ : S71)] : List (S71))) (inner := [.bool true, .int .i64 1, .bool false, .int .i64 0]) (ok := fun _ => True) (okp := fun _ => True) ?hr ?hp (fun _ hk => hk) trivial (Below.refl _ _) (Nat.le_refl _) (by simp) ?_; (case hd => rfl); (case hg => rfl); (case hr => first | (go_simp; done) | (go_simp; rfl)); (case hp => exact (Reps.c2 (show Kd.M k71 _ _ _ (⟨true, 1⟩ : S71) [.bool true, .int .i64 1] from (k71_mkM _ _ _ (⟨true, 1⟩ : S71) )) (Reps.c2 (show Kd.M k71 _ _ _ (⟨false, 0⟩ : S71) [.bool false, .int .i64 0] from (k71_mkM _ _ _ (⟨false, 0⟩ : S71) )) (Reps.none _ _)))); intro v222 w4 ho5 hb hg_ hnew_; clear hg_ hnew_; (first | rw [← Ny221.out] at ho5 | (simp only [Int.reduceToNat] at ho5; rw [← Ny221.out] at ho5)); have n0_ := Aside0.mk (Kd.R_below (by (with_reducible repeat (first | apply Kd.R_alloc | apply Kd.R_drewN | apply Kd.R_drew)); exact HO220.out) hb); have n1_ := Aside0.mk (Kd.R_lower (Kd.R_newM (M := fun k_ => (w.heap.size ≤ k_)) ho5 (below_size (by repeat (first | (with_reducible first | exact HB.out | apply below_alloc | apply pw_below_drewN | apply below_drew1 | refine below_set ?_ GE217.out) | exact HB.out))) (fun k_ h_ => h_)) (below_size (by repeat (first | (with_reducible first | exact HB.out | apply below_alloc | apply pw_below_drewN | apply below_drew1 | refine below_set ?_ GE217.out) | exact HB.out)))); have n2_ := Aside0.mk (blk_below (g := gb217) (o := .cells #[.int .i64 0, .int .i64 0, .slice none 0 0, .slice none 0 0] 25 (0, 0)) (by (with_reducible repeat (first | refine blk_drewN ?_ _ | refine blk_drew ?_ | refine blk_alloc ?_ _)); exact BK217.out) hb); have n3_ := Aside0.mk (below_step (by repeat (first | (with_reducible first | exact HB.out | apply below_alloc | apply pw_below_drewN | apply below_drew1 | refine below_set ?_ GE217.out) | exact HB.out)) hb); clear HO220; clear BK217; clear HB; have HO220 := n0_; have HO223 := n1_; have BK217 := n2_; have HB := n3_; clear n0_ n1_ n2_ n3_; clear hb ho5; obtain ⟨Ao6, co6, eo6⟩ := Kd.R_slice HO223.out; subst eo6) | ((with_reducible refine gate_dst (N := 7) rfl ?_); refine Kd.R_lit k71 _ 71 ?hg (N := 7) ?hd (xs := ([(⟨true, 2⟩ : S71)] : List (S71))) (inner := [.bool true, .int .i64 2]) (ok := fun _ => True) (okp := fun _ => True) ?hr ?hp (fun _ hk => hk) trivial (Below.refl _ _) (Nat.le_refl _) (by simp) ?_; (case hd => rfl); (case hg => rfl); (case hr => first | (go_simp; done) | (go_simp; rfl)); (case hp => exact (Reps.c2 (show Kd.M k71 _ _ _ (⟨true, 2⟩ : S71) [.bool true, .int .i64 2] from (k71_mkM _ _ _ (⟨true, 2⟩ : S71) )) (Reps.none _ _))); intro v225 w7 ho8 hb hg_ hnew_; clear hg_ hnew_; (first | rw [← Ny224.out] at ho8 | (simp only [Int.reduceToNat] at ho8; rw [← Ny224.out] at ho8)); have n0_ := Aside0.mk (Kd.R_below (by (with_reducible repeat (first | apply Kd.R_alloc | apply Kd.R_drewN | apply Kd.R_drew)); exact HO220.out) hb); have n1_ := Aside0.mk (Kd.R_elder' (by (with_reducible repeat (first | apply Kd.R_alloc | apply Kd.R_drewN | apply Kd.R_drew)); exact HO223.out) (Kd.R_base ho8) hb); have n2_ := Aside0.mk (Kd.R_lower (Kd.R_new' (Kd.R_newM (M := fun k_ => (w.heap.size ≤ k_)) ho8 (below_size (by repeat (first | (with_reducible first | exact HB.out | apply below_alloc | apply pw_below_drewN | apply below_drew1 | refine below_set ?_ GE217.out) | exact HB.out))) (fun k_ h_ => h_)) (Kd.R_lt (by (with_reducible repeat (first | apply Kd.R_alloc | apply Kd.R_drewN | apply Kd.R_drew)); exact HO223.out))) (below_size (by repeat (first | (with_reducible first | exact HB.out | apply below_alloc | apply pw_below_drewN | apply below_drew1 | refine below_set ?_ GE217.out) | exact HB.out)))); have n3_ := Aside0.mk (blk_below (g := gb217) (o := .cells #[.int .i64 0, .int .i64 0, .slice none 0 0, .slice none 0 0] 25 (0, 0)) (by (with_reducible repeat (first | refine blk_drewN ?_ _ | refine blk_drew ?_ | refine blk_alloc ?_ _)); exact BK217.out) hb); have n4_ := Aside0.mk (below_step (by repeat (first | (with_reducible first | exact HB.out | apply below_alloc | apply pw_below_drewN | apply below_drew1 | refine below_set ?_ GE217.out) | exact HB.out)) hb); clear HO220; clear HO223; clear BK217; clear HB; have HO220 := n0_; have HO223 := n1_; have HO226 := n2_; have BK217 := n3_; have HB := n4_; clear n0_ n1_ n2_ n3_ n4_; clear hb ho8; obtain ⟨Ao9, co9, eo9⟩ := Kd.R_slice HO226.out; subst eo9) | ((with_reducible refine gate_dst (N := 9) rfl ?_); refine Kd.N_lit k61 _ 61 ?hg (N' := 9) ?hd (xs := ([(⟨0, y221⟩ : S61), (⟨0, y224⟩ : S61)] : List (S61))) (inner := [.int .i64 0, .slice Ao6 y221.length co6, .int .i64 0, .slice Ao9 y224.length co9]) (ok := (fun k_ => (w.heap.size ≤ k_) ∧ some k_ ≠ (v219 : Value).ownBlock ∧ k_ ≠ gb217)) (okp := (fun k_ => (w.heap.size ≤ k_) ∧ some k_ ≠ (v219 : Value).ownBlock ∧ k_ ≠ gb217)) ?hr ?hp (fun _ hk => hk) ((show ∀ k_, w7.heap.size ≤ k_ → (fun k_ => (w.heap.size ≤ k_) ∧ some k_ ≠ (v219 : Value).ownBlock ∧ k_ ≠ gb217) k_ from fun k_ hk => ⟨(Nat.le_trans (below_size (by repeat (first | (with_reducible first | exact HB.out | apply below_alloc | apply pw_below_drewN | apply below_drew1 | refine below_set ?_ GE217.out) | exact HB.out))) hk), Kd.fresh' (Kd.R_lt (by (with_reducible repeat (first | apply Kd.R_alloc | apply Kd.R_drewN | apply Kd.R_drew)); exact HO220.out)) k_ hk, Kd.freshB (g := gb217) (o := .cells #[.int .i64 0, .int .i64 0, .slice none 0 0, .slice none 0 0] 25 (0, 0)) (by (with_reducible repeat (first | refine blk_drewN ?_ _ | refine blk_drew ?_ | refine blk_alloc ?_ _)); exact BK217.out) k_ hk⟩) _ (Nat.le_refl _)) (Below.refl _ _) (Nat.le_refl _) (by simp) ?_; (case hd => rfl); (case hg => rfl); (case hr => first | (go_simp; done) | (go_simp; rfl)); (case hp => exact (Reps.c2 (show Kd.FK k61 _ _ (⟨0, y221⟩ : S61) [.int .i64 0, .slice Ao6 y221.length co6] from (k61_mkF _ _ (⟨0, y221⟩ : S61) (Kd.R_reads' (Kd.R_mono (ok' := (fun k_ => (w.heap.size ≤ k_) ∧ some k_ ≠ (v219 : Value).ownBlock ∧ k_ ≠ gb217)) (Kd.R_types (Kd.R_apart' (HO223.out) (Kd.R_typed HO220.out) (by decide)) BK217.out (by decide)) (fun k_ hk => ⟨hk.1.1.1.1, ⟨hk.1.2, hk.2⟩⟩))).2.1 (Kd.R_F (Kd.R_mono (ok' := (fun k_ => (w.heap.size ≤ k_) ∧ some k_ ≠ (v219 : Value).ownBlock ∧ k_ ≠ gb217)) (Kd.R_types (Kd.R_apart' (HO223.out) (Kd.R_typed HO220.out) (by decide)) BK217.out (by decide)) (fun k_ hk => ⟨hk.1.1.1.1, ⟨hk.1.2, hk.2⟩⟩))))) (Reps.c2 (show Kd.FK k61 _ _ (⟨0, y224⟩ : S61) [.int .i64 0, .slice Ao9 y224.length co9] from (k61_mkF _ _ (⟨0, y224⟩ : S61) (Kd.R_reads' (Kd.R_mono (ok' := (fun k_ => (w.heap.size ≤ k_) ∧ some k_ ≠ (v219 : Value).ownBlock ∧ k_ ≠ gb217)) (Kd.R_types (Kd.R_apart' (HO226.out) (Kd.R_typed HO220.out) (by decide)) BK217.out (by decide)) (fun k_ hk => ⟨hk.1.1.1.1, ⟨hk.1.2, hk.2⟩⟩))).2.1 (Kd.R_F (Kd.R_mono (ok' := (fun k_ => (w.heap.size ≤ k_) ∧ some k_ ≠ (v219 : Value).ownBlock ∧ k_ ≠ gb217)) (Kd.R_types (Kd.R_apart' (HO226.out) (Kd.R_typed HO220.out) (by decide)) BK217.out (by decide)) (fun k_ hk => ⟨hk.1.1.1.1, ⟨hk.1.2, hk.2⟩⟩))))) (Reps.none _ _)))); intro v228 w10 ho11 hb hg_ hnew_; clear hg_ hnew_; (first | rw [← Ny227.out] at ho11 | (simp only [Int.reduceToNat] at ho11; rw [← Ny227.out] at ho11)); have n0_ := Aside0.mk (Kd.R_below (by (with_reducible repeat (first | apply Kd.R_alloc | apply Kd.R_drewN | apply Kd.R_drew)); exact HO220.out) hb); have n1_ := Aside0.mk (Kd.N_lower ho11 (below_size (by repeat (first | (with_reducible first | exact HB.out | apply below_alloc | apply pw_below_drewN | apply below_drew1 | refine below_set ?_ GE217.out) | exact HB.out)))); have n2_ := Aside0.mk (blk_below (g := gb217) (o := .cells #[.int .i64 0, .int .i64 0, .slice none 0 0, .slice none 0 0] 25 (0, 0)) (by (with_reducible repeat (first | refine blk_drewN ?_ _ | refine blk_drew ?_ | refine blk_alloc ?_ _)); exact BK217.out) hb); have n3_ := Aside0.mk (below_step (by repeat (first | (with_reducible first | exact HB.out | apply below_alloc | apply pw_below_drewN | apply below_drew1 | refine below_set ?_ GE217.out) | exact HB.out)) hb); clear HO220; clear BK217; clear HB; clear HO223; clear HO226; have HO220 := n0_; have HO229 := n1_; have BK217 := n2_; have HB := n3_; clear n0_ n1_ n2_ n3_; clear hb ho11; obtain ⟨Ao12, co12, eo12⟩ := Kd.N_slice HO229.out; subst eo12; obtain ⟨Ao13, co13, eo13⟩ := Kd.R_slice HO220.out; subst eo13; have hcz14_0 : w10.cell? ⟨gb217, 0, none⟩ = some (.int .i64 0) := (blk_cell BK217.out 0).trans rfl; have hcz14_1 : w10.cell? ⟨gb217, 1, none⟩ = some (.int .i64 0) := (blk_cell BK217.out 1).trans rfl; have hcz14_2 : w10.cell? ⟨gb217, 2, none⟩ = some (.slice none 0 0) := (blk_cell BK217.out 2).trans rfl; have hcz14_3 : w10.cell? ⟨gb217, 3, none⟩ = some (.slice none 0 0) := (blk_cell BK217.out 3).trans rfl; have hfz14_0 := blk_frozen BK217.out 0; have hfz14_1 := blk_frozen BK217.out 1; have hfz14_2 := blk_frozen BK217.out 2; have hfz14_3 := blk_frozen BK217.out 3))
 refine bodyPost_ret (results_cell_row rfl _ _ gb217 25 #[.int .i64 2, .int .i64 2, .slice Ao13 y218.length co13, .slice Ao12 y227.length co12] (0, 0) _ rfl (by (with_reducible repeat (first | refine blk_drewN ?_ _ | refine blk_drew ?_ | refine blk_alloc ?_ _)); refine blk_put (cs := #[.int .i64 2, .int .i64 2, .slice Ao13 y218.length co13, .slice none 0 0]) ?_ 3 _ rfl; (with_reducible repeat (first | refine blk_drewN ?_ _ | refine blk_drew ?_ | refine blk_alloc ?_ _)); refine blk_put (cs := #[.int .i64 2, .int .i64 2, .slice none 0 0, .slice none 0 0]) ?_ 2 _ rfl; (with_reducible repeat (first | refine blk_drewN ?_ _ | refine blk_drew ?_ | refine blk_alloc ?_ _)); refine blk_put (cs := #[.int .i64 2, .int .i64 0, .slice none 0 0, .slice none 0 0]) ?_ 1 _ rfl; (with_reducible repeat (first | refine blk_drewN ?_ _ | refine blk_drew ?_ | refine blk_alloc ?_ _)); refine blk_put (cs := #[.int .i64 0, .int .i64 0, .slice none 0 0, .slice none 0 0]) ?_ 0 _ rfl; (with_reducible repeat (first | refine blk_drewN ?_ _ | refine blk_drew ?_ | refine blk_alloc ?_ _)); exact BK217.out) Try.underlying25 rfl (by kernel_rfl)) rfl ?_
 exact ⟨_, _, by first | rfl | (simp [errW_none, errW_some] <;> rfl) | (simp [*, errW_none, errW_some] <;> rfl), by (with_reducible repeat (first | apply Kd.R_alloc | apply Kd.R_drewN | apply Kd.R_drew)); exact Kd.R_mono (Kd.R_far (p := ⟨gb217, 3, none⟩) (Kd.R_far (p := ⟨gb217, 2, none⟩) (Kd.R_far (p := ⟨gb217, 1, none⟩) (Kd.R_far (p := ⟨gb217, 0, none⟩) (Kd.R_types HO220.out BK217.out (by decide)) (fun _ hk => hk.2) (.int .i64 2)) (fun _ hk => hk.2) (.int .i64 2)) (fun _ hk => hk.2) (.slice Ao13 y218.length co13)) (fun _ hk => hk.2) (.slice Ao12 y227.length co12)) (fun _ hk => hk.1.1), by (with_reducible repeat (first | apply Kd.N_alloc | apply Kd.N_drewN | apply Kd.N_drew)); exact Kd.N_mono (Kd.N_far (p := ⟨gb217, 3, none⟩) (Kd.N_far (p := ⟨gb217, 2, none⟩) (Kd.N_far (p := ⟨gb217, 1, none⟩) (Kd.N_far (p := ⟨gb217, 0, none⟩) (Kd.N_mono HO229.out (fun k_ hk => (⟨hk, hk.2.2⟩ : _ ∧ k_ ≠ gb217))) (fun _ hk => hk.2) (.int .i64 2)) (fun _ hk => hk.2) (.int .i64 2)) (fun _ hk => hk.2) (.slice Ao13 y218.length co13)) (fun _ hk => hk.2) (.slice Ao12 y227.length co12)) (fun _ hk => ⟨hk.1.1, hk.1.2.1⟩), by repeat (first | (with_reducible first | exact HB.out | apply below_alloc | apply pw_below_drewN | apply below_drew1 | refine below_set ?_ GE217.out) | exact HB.out)⟩
def gramaryelaw14_works.f (k : Nat)  : Option (Bool) := (gramaryelaw14_sample.f).bind fun bt230 => ((first_Of.f k bt230.1 bt230.2.1 bt230.2.2.1 bt230.2.2.2).bind fun bt238 => (if bt238.2 = 0 then (if (bt238.1.length : Int) = 1 then (if 0 < (bt238.1.length : Int) then ((gramaryebase_SameTexts.f k (rd_L6 bt238.1 0) (([(⟨#[1, 1]⟩ : ByteArray), (⟨#[1, 2]⟩ : ByteArray), (⟨#[2]⟩ : ByteArray)] : List ByteArray))).bind fun t246 => (some t246)) else (none)) else (some false)) else (some false)))
theorem gramaryelaw14_works.mono : ∀ k, LeO (gramaryelaw14_works.f k ) (gramaryelaw14_works.f (k + 1) ) := by
 intro  k
 unfold gramaryelaw14_works.f
 repeat' first
   | (with_reducible exact first_Of.mono _ _ _ _ _)
   | (with_reducible exact gramaryebase_SameTexts.mono _ _ _)
   | (with_reducible exact LeO.refl _)
   | (with_reducible exact LeO.none _)
   | (with_reducible refine LeO.ite ?_ ?_)
   | (with_reducible refine LeO.bind ?_ (fun _ => ?_))
   | exact first_Of.mono _ _ _ _ _
   | exact gramaryebase_SameTexts.mono _ _ _
   | exact LeO.none _
   | refine LeO.ite ?_ ?_
   | refine LeO.bind ?_ (fun _ => ?_)
set_option maxHeartbeats 8000000 in
set_option maxRecDepth 100000 in
theorem gramaryelaw14_works.calls (k : Nat)  (r : Bool) (w : World) (h : gramaryelaw14_works.f k  = some r) :
  Calls Try.prog 11 #[] w fun e w' => e = .returned (.bool r) ∧ Below w.heap.size w w' := by
 have HB := Aside0.mk (Below.refl w.heap.size w)
 have H : ((gramaryelaw14_sample.f).bind fun bt230 => ((first_Of.f k bt230.1 bt230.2.1 bt230.2.2.1 bt230.2.2.2).bind fun bt238 => (if bt238.2 = 0 then (if (bt238.1.length : Int) = 1 then (if 0 < (bt238.1.length : Int) then ((gramaryebase_SameTexts.f k (rd_L6 bt238.1 0) (([(⟨#[1, 1]⟩ : ByteArray), (⟨#[1, 2]⟩ : ByteArray), (⟨#[2]⟩ : ByteArray)] : List ByteArray))).bind fun t246 => (some t246)) else (none)) else (some false)) else (some false)))) = some r := h
 clear h
 replace H := Option.bind_eq_some_iff.mp H
 obtain ⟨⟨t230, t231, t232, t235⟩, A10, H⟩ := H
 replace H : ((first_Of.f k t230 t231 t232 t235).bind fun bt238 => (if bt238.2 = 0 then (if (bt238.1.length : Int) = 1 then (if 0 < (bt238.1.length : Int) then ((gramaryebase_SameTexts.f k (rd_L6 bt238.1 0) (([(⟨#[1, 1]⟩ : ByteArray), (⟨#[1, 2]⟩ : ByteArray), (⟨#[2]⟩ : ByteArray)] : List ByteArray))).bind fun t246 => (some t246)) else (none)) else (some false)) else (some false))) = some r := H
 have A1 := Aside0.mk A10
 clear A10
 replace H := Option.bind_eq_some_iff.mp H
 obtain ⟨⟨t238, t241⟩, A20, H⟩ := H
 replace H : (if t241 = 0 then (if (t238.length : Int) = 1 then (if 0 < (t238.length : Int) then ((gramaryebase_SameTexts.f k (rd_L6 t238 0) (([(⟨#[1, 1]⟩ : ByteArray), (⟨#[1, 2]⟩ : ByteArray), (⟨#[2]⟩ : ByteArray)] : List ByteArray))).bind fun t246 => (some t246)) else (none)) else (some false)) else (some false)) = some r := H
 have A2 := Aside0.mk A20
 clear A20
 by_cases c3 : t241 = 0
 ·rw [if_pos c3] at H
  have c3b0 : (t241 == 0) = true := beq_iff_eq.mpr c3
  have c3b1 : (t241 != 0) = false := bne_eq_false_iff_eq.mpr c3
  clear c3
  by_cases c4 : (t238.length : Int) = 1
  ·rw [if_pos c4] at H
   have c4b0 : ((t238.length : Int) == 1) = true := beq_iff_eq.mpr c4
   have c4b1 : ((t238.length : Int) != 1) = false := bne_eq_false_iff_eq.mpr c4
   clear c4
   by_cases c5 : 0 < (t238.length : Int)
   ·rw [if_pos c5] at H
    have c5b0 : decide (0 < (t238.length : Int)) = true := decide_eq_true c5
    have c5b1 : decide (0 < t238.length) = true := decide_eq_true (by omega)
    clear c5
    obtain ⟨y243, hy243⟩ : ∃ y_ : List ByteArray, y_ = (([(⟨#[1, 1]⟩ : ByteArray), (⟨#[1, 2]⟩ : ByteArray), (⟨#[2]⟩ : ByteArray)] : List ByteArray)) := ⟨_, rfl⟩
    replace H : ((gramaryebase_SameTexts.f k (rd_L6 t238 0) y243).bind fun t246 => (some t246)) = some r := by first | (rw [hy243]; with_reducible exact H) | (have H2_ := (Option.bind_some _ _).symm.trans H; rw [hy243]; with_reducible exact H2_) | (have H2_ := (Option.bind_some _ _).symm.trans H; with_reducible exact H2_) | with_reducible exact H | (rw [hy243]; exact H) | exact H
    have Ny243 := Aside0.mk hy243
    clear hy243
    replace H := Option.bind_eq_some_iff.mp H
    obtain ⟨t246, A60, H⟩ := H
    replace H : (some t246) = some r := H
    have A6 := Aside0.mk A60
    clear A60
    obtain rfl := Option.some.inj H
    go_enter Try.func11, Try.ntmps11
    go_wp2_with (first | ((with_reducible refine gate_callee (f := 35) rfl ?_); refine goesL_ (some 4) rfl rfl Try.func35 (by kernel_rfl) rfl #[] rfl (by (try simp only [List.map_toArray, List.map_cons, List.map_nil]); first | done | rfl | (simp only [List.length_drop, List.length_take]; rfl)) ?_; (with_reducible refine (gramaryelaw14_sample.calls  t230 t231 t232 t235 _ A1.out).mono ?_); rintro e w7 ⟨v233, v236, rfl, ho0, ho1, hb⟩; refine ⟨_, rfl, ?_⟩; have n0_ := Aside0.mk (Kd.R_lower (Kd.R_mono (ok' := fun k_ => True) ho0 (fun _ hk_ => trivial)) (below_size (by repeat (first | (with_reducible first | exact HB.out | apply below_alloc | apply pw_below_drewN | apply below_drew1) | exact HB.out)))); have n1_ := Aside0.mk (Kd.N_lower (Kd.N_mono (ok' := fun k_ => some k_ ≠ (v233 : Value).ownBlock) ho1 (fun k_ hk_ => hk_.2)) (below_size (by repeat (first | (with_reducible first | exact HB.out | apply below_alloc | apply pw_below_drewN | apply below_drew1) | exact HB.out)))); have n2_ := Aside0.mk (below_step (by repeat (first | (with_reducible first | exact HB.out | apply below_alloc | apply pw_below_drewN | apply below_drew1) | exact HB.out)) hb); clear HB; have HO234 := n0_; have HO237 := n1_; have HB := n2_; clear n0_ n1_ n2_; (try clear hb); (try clear hb2); (try clear hk); (try clear hi); (try clear ho0); (try clear ho1); obtain ⟨Ao8, co8, eo8⟩ := Kd.R_slice HO234.out; subst eo8; obtain ⟨Ao9, co9, eo9⟩ := Kd.N_slice HO237.out; subst eo9) | ((with_reducible refine gate_callee (f := 14) rfl ?_); refine goesL_ (some 5) rfl rfl Try.func14 (by kernel_rfl) rfl #[.agg #[.int .i64 t230, .int .i64 t231, .slice Ao8 t232.length co8, .slice Ao9 t235.length co9]] rfl (by (try simp only [List.map_toArray, List.map_cons, List.map_nil]); first | done | rfl | (simp only [List.length_drop, List.length_take]; rfl)) ?_; (with_reducible refine (first_Of.calls k t230 t231 _ _ t232 _ _ t235 t238 t241 _ ?side1 ?side2 ?side3 ?side4 A2.out).mono ?_); (case side1 => repeat (first | exact (Kd.R_reads' HO234.out).2.2 | (with_reducible refine Kd.C_alloc ?_ _) | (with_reducible refine Kd.C_drewN ?_ _) | (with_reducible refine Kd.C_drew ?_))); (case side2 => exact (Kd.R_reads' HO234.out).2.1); (case side3 => repeat (first | exact (Kd.N_reads' HO237.out).2.2 | (with_reducible refine Kd.C_alloc ?_ _) | (with_reducible refine Kd.C_drewN ?_ _) | (with_reducible refine Kd.C_drew ?_))); (case side4 => exact (Kd.N_reads' HO237.out).2.1); rintro e w10 ⟨v239, rfl, ho0, hb⟩; refine ⟨_, rfl, ?_⟩; have n2_ := Aside0.mk (Kd.N_lower (Kd.N_mono (ok' := fun k_ => some k_ ≠ (.slice Ao8 t232.length co8 : Value).ownBlock ∧ some k_ ≠ (.slice Ao9 t235.length co9 : Value).ownBlock) (Kd.S_N (Kd.S_bound ho0)) (fun k_ hk_ => ⟨(Kd.fresh' (Kd.R_lt (by (with_reducible repeat (first | apply Kd.R_alloc | apply Kd.R_drewN | apply Kd.R_drew)); exact HO234.out)) k_ hk_.2.1), (Kd.fresh' (Kd.N_lt (by (with_reducible repeat (first | apply Kd.N_alloc | apply Kd.N_drewN | apply Kd.N_drew)); exact HO237.out)) k_ hk_.2.1)⟩)) (below_size (by repeat (first | (with_reducible first | exact HB.out | apply below_alloc | apply pw_below_drewN | apply below_drew1) | exact HB.out)))); have n3_ := Aside0.mk (below_step (by repeat (first | (with_reducible first | exact HB.out | apply below_alloc | apply pw_below_drewN | apply below_drew1) | exact HB.out)) hb); clear HB; have HO240 := n2_; have HB := n3_; clear n2_ n3_; (try clear hb); (try clear hb2); (try clear hk); (try clear hi); (try clear ho0); obtain ⟨Ao11, co11, eo11⟩ := Kd.N_slice HO240.out; subst eo11; have p242 : 0 ≤ (0 : Int) := (by omega); have q242 : 0 < (t238.length : Int) := of_decide_eq_true (by first | (with_reducible assumption) | assumption); obtain ⟨ad242, A242_0, c242_0, e242, hx242_0, hl242_0, hi242_0⟩ := at_L6 (Kd.N_reads' HO240.out).2.2 0 p242 q242; cases e242; obtain ⟨ce242, hce242, hMe242, hcc242⟩ := Kd.N_get HO240.out [] 0 p242 (by first | exact q242 | exact of_decide_eq_true (by first | (with_reducible assumption) | assumption) | (have e_ := (Kd.N_reads' HO240.out).1; omega)); obtain ⟨ua242_0, uc242_0, rfl, ul242_0, ge242_0⟩ := Kd.FK_slice_open hMe242; have hv242_0 := hcc242 0 _ rfl; rw [Nat.add_zero, show ((Kd.slice 9 Kd.string)).sz = 1 from rfl, Nat.mul_one] at hv242_0; replace hv242_0 := Option.some.inj (hv242_0.symm.trans hx242_0); injection hv242_0 with hva_ hvn_ hvc_; rw [hva_] at ge242_0; rw [hvc_] at ul242_0; have HL242_0 := Aside0.mk (show Kd.V Kd.string 9 _ w.heap.size _ _ (rd_L6 t238 0) from Kd.V_mk ul242_0 ge242_0); clear hva_ hvn_ hvc_ ge242_0 ul242_0; clear hcc242 hce242; have qi242 : (0 < t238.length) = True := eq_true (by omega); (try rw [show ((0 : Int)).toNat = 0 from rfl] at hx242_0); (try rw [Addr.add_zero'] at hx242_0); have HR242_0 := Aside0.mk hi242_0; have HC242_0 := Aside0.mk hl242_0; clear hi242_0 hl242_0; replace p242 := eq_true p242; replace q242 := eq_true q242) | ((with_reducible refine gate_dst (N := 19) rfl ?_); (try (refine gate_guard (by rfl) ?_; dsimp only)); refine Kd.R_lit Kd.string _ 9 ?hg (N := 19) ?hd (xs := ([(⟨#[1, 1]⟩ : ByteArray), (⟨#[1, 2]⟩ : ByteArray), (⟨#[2]⟩ : ByteArray)] : List ByteArray)) (inner := [.string (⟨#[1, 1]⟩ : ByteArray), .string (⟨#[1, 2]⟩ : ByteArray), .string (⟨#[2]⟩ : ByteArray)]) (ok := fun _ => True) (okp := fun _ => True) ?hr ?hp (fun _ hk => hk) trivial (Below.refl _ _) (Nat.le_refl _) (by simp) ?_; (case hd => rfl); (case hg => rfl); (case hr => first | (go_simp; done) | (go_simp; rfl)); (case hp => exact (Reps.one (show Kd.M Kd.string _ _ _ (⟨#[1, 1]⟩ : ByteArray) [.string (⟨#[1, 1]⟩ : ByteArray)] from rfl) (Reps.one (show Kd.M Kd.string _ _ _ (⟨#[1, 2]⟩ : ByteArray) [.string (⟨#[1, 2]⟩ : ByteArray)] from rfl) (Reps.one (show Kd.M Kd.string _ _ _ (⟨#[2]⟩ : ByteArray) [.string (⟨#[2]⟩ : ByteArray)] from rfl) (Reps.none _ _))))); intro v244 w12 ho13 hb hg_ hnew_; clear hg_ hnew_; (first | rw [← Ny243.out] at ho13 | (simp only [Int.reduceToNat] at ho13; rw [← Ny243.out] at ho13)); have n3_ := Aside0.mk (Kd.V_elder' (by (with_reducible repeat (first | apply Kd.V_alloc | apply Kd.V_drewN | apply Kd.V_drew)); exact HL242_0.out) (Kd.R_base ho13) hb); have n4_ := Aside0.mk (Kd.R_lower ho13 (below_size (by repeat (first | (with_reducible first | exact HB.out | apply below_alloc | apply pw_below_drewN | apply below_drew1) | exact HB.out)))); have n5_ := Aside0.mk (Kd.C_below (by repeat (first | (with_reducible exact HR242_0.out) | (with_reducible refine Kd.C_alloc ?_ _) | (with_reducible refine Kd.C_drewN ?_ _) | (with_reducible refine Kd.C_drew ?_) | exact HR242_0.out)) hb); have n6_ := Aside0.mk (below_step (by repeat (first | (with_reducible first | exact HB.out | apply below_alloc | apply pw_below_drewN | apply below_drew1) | exact HB.out)) hb); clear HL242_0; clear HR242_0; clear HB; have HL242_0 := n3_; have HO245 := n4_; have HR242_0 := n5_; have HB := n6_; clear n3_ n4_ n5_ n6_; clear hb ho13; obtain ⟨Ao14, co14, eo14⟩ := Kd.R_slice HO245.out; subst eo14) | (go_at_call 13; (with_reducible refine (gramaryebase_SameTexts.calls k _ _ (rd_L6 t238 0) _ _ y243 t246 _ ?side1 ?side2 ?side3 ?side4 A6.out).mono ?_); (case side1 => repeat (first | exact (by repeat (first | (with_reducible exact HR242_0.out) | (with_reducible refine Kd.C_alloc ?_ _) | (with_reducible refine Kd.C_drewN ?_ _) | (with_reducible refine Kd.C_drew ?_) | exact HR242_0.out)) | (with_reducible refine Kd.C_alloc ?_ _) | (with_reducible refine Kd.C_drewN ?_ _) | (with_reducible refine Kd.C_drew ?_))); (case side2 => exact HC242_0.out); (case side3 => repeat (first | exact (Kd.R_reads' HO245.out).2.2 | (with_reducible refine Kd.C_alloc ?_ _) | (with_reducible refine Kd.C_drewN ?_ _) | (with_reducible refine Kd.C_drew ?_))); (case side4 => exact (Kd.R_reads' HO245.out).2.1); rintro e w' ⟨rfl, ⟨nd, rfl⟩⟩))
    go_ret
    exact ⟨by first | rfl | (simp [errW_none, errW_some] <;> rfl) | (simp [*, errW_none, errW_some] <;> rfl), by repeat (first | (with_reducible first | exact HB.out | apply below_alloc | apply pw_below_drewN | apply below_drew1) | exact HB.out)⟩
   ·rw [if_neg c5] at H
    exact absurd H (by simp)
  ·rw [if_neg c4] at H
   have c4b0 : ((t238.length : Int) == 1) = false := beq_eq_false_iff_ne.mpr c4
   have c4b1 : ((t238.length : Int) != 1) = true := bne_iff_ne.mpr c4
   obtain rfl := Option.some.inj H
   go_enter Try.func11, Try.ntmps11
   go_wp2_with (first | ((with_reducible refine gate_callee (f := 35) rfl ?_); refine goesL_ (some 4) rfl rfl Try.func35 (by kernel_rfl) rfl #[] rfl (by (try simp only [List.map_toArray, List.map_cons, List.map_nil]); first | done | rfl | (simp only [List.length_drop, List.length_take]; rfl)) ?_; (with_reducible refine (gramaryelaw14_sample.calls  t230 t231 t232 t235 _ A1.out).mono ?_); rintro e w15 ⟨v233, v236, rfl, ho0, ho1, hb⟩; refine ⟨_, rfl, ?_⟩; have n0_ := Aside0.mk (Kd.R_lower (Kd.R_mono (ok' := fun k_ => True) ho0 (fun _ hk_ => trivial)) (below_size (by repeat (first | (with_reducible first | exact HB.out | apply below_alloc | apply pw_below_drewN | apply below_drew1) | exact HB.out)))); have n1_ := Aside0.mk (Kd.N_lower (Kd.N_mono (ok' := fun k_ => some k_ ≠ (v233 : Value).ownBlock) ho1 (fun k_ hk_ => hk_.2)) (below_size (by repeat (first | (with_reducible first | exact HB.out | apply below_alloc | apply pw_below_drewN | apply below_drew1) | exact HB.out)))); have n2_ := Aside0.mk (below_step (by repeat (first | (with_reducible first | exact HB.out | apply below_alloc | apply pw_below_drewN | apply below_drew1) | exact HB.out)) hb); clear HB; have HO234 := n0_; have HO237 := n1_; have HB := n2_; clear n0_ n1_ n2_; (try clear hb); (try clear hb2); (try clear hk); (try clear hi); (try clear ho0); (try clear ho1); obtain ⟨Ao16, co16, eo16⟩ := Kd.R_slice HO234.out; subst eo16; obtain ⟨Ao17, co17, eo17⟩ := Kd.N_slice HO237.out; subst eo17) | ((with_reducible refine gate_callee (f := 14) rfl ?_); refine goesL_ (some 5) rfl rfl Try.func14 (by kernel_rfl) rfl #[.agg #[.int .i64 t230, .int .i64 t231, .slice Ao16 t232.length co16, .slice Ao17 t235.length co17]] rfl (by (try simp only [List.map_toArray, List.map_cons, List.map_nil]); first | done | rfl | (simp only [List.length_drop, List.length_take]; rfl)) ?_; (with_reducible refine (first_Of.calls k t230 t231 _ _ t232 _ _ t235 t238 t241 _ ?side1 ?side2 ?side3 ?side4 A2.out).mono ?_); (case side1 => repeat (first | exact (Kd.R_reads' HO234.out).2.2 | (with_reducible refine Kd.C_alloc ?_ _) | (with_reducible refine Kd.C_drewN ?_ _) | (with_reducible refine Kd.C_drew ?_))); (case side2 => exact (Kd.R_reads' HO234.out).2.1); (case side3 => repeat (first | exact (Kd.N_reads' HO237.out).2.2 | (with_reducible refine Kd.C_alloc ?_ _) | (with_reducible refine Kd.C_drewN ?_ _) | (with_reducible refine Kd.C_drew ?_))); (case side4 => exact (Kd.N_reads' HO237.out).2.1); rintro e w18 ⟨v239, rfl, ho0, hb⟩; refine ⟨_, rfl, ?_⟩; have n2_ := Aside0.mk (Kd.N_lower (Kd.N_mono (ok' := fun k_ => some k_ ≠ (.slice Ao16 t232.length co16 : Value).ownBlock ∧ some k_ ≠ (.slice Ao17 t235.length co17 : Value).ownBlock) (Kd.S_N (Kd.S_bound ho0)) (fun k_ hk_ => ⟨(Kd.fresh' (Kd.R_lt (by (with_reducible repeat (first | apply Kd.R_alloc | apply Kd.R_drewN | apply Kd.R_drew)); exact HO234.out)) k_ hk_.2.1), (Kd.fresh' (Kd.N_lt (by (with_reducible repeat (first | apply Kd.N_alloc | apply Kd.N_drewN | apply Kd.N_drew)); exact HO237.out)) k_ hk_.2.1)⟩)) (below_size (by repeat (first | (with_reducible first | exact HB.out | apply below_alloc | apply pw_below_drewN | apply below_drew1) | exact HB.out)))); have n3_ := Aside0.mk (below_step (by repeat (first | (with_reducible first | exact HB.out | apply below_alloc | apply pw_below_drewN | apply below_drew1) | exact HB.out)) hb); clear HB; have HO240 := n2_; have HB := n3_; clear n2_ n3_; (try clear hb); (try clear hb2); (try clear hk); (try clear hi); (try clear ho0); obtain ⟨Ao19, co19, eo19⟩ := Kd.N_slice HO240.out; subst eo19))
   go_ret
   exact ⟨by first | rfl | (simp [errW_none, errW_some] <;> rfl) | (simp [*, errW_none, errW_some] <;> rfl), by repeat (first | (with_reducible first | exact HB.out | apply below_alloc | apply pw_below_drewN | apply below_drew1) | exact HB.out)⟩
 ·rw [if_neg c3] at H
  have c3b0 : (t241 == 0) = false := beq_eq_false_iff_ne.mpr c3
  have c3b1 : (t241 != 0) = true := bne_iff_ne.mpr c3
  obtain rfl := Option.some.inj H
  go_enter Try.func11, Try.ntmps11
  go_wp2_with (first | ((with_reducible refine gate_callee (f := 35) rfl ?_); refine goesL_ (some 4) rfl rfl Try.func35 (by kernel_rfl) rfl #[] rfl (by (try simp only [List.map_toArray, List.map_cons, List.map_nil]); first | done | rfl | (simp only [List.length_drop, List.length_take]; rfl)) ?_; (with_reducible refine (gramaryelaw14_sample.calls  t230 t231 t232 t235 _ A1.out).mono ?_); rintro e w20 ⟨v233, v236, rfl, ho0, ho1, hb⟩; refine ⟨_, rfl, ?_⟩; have n0_ := Aside0.mk (Kd.R_lower (Kd.R_mono (ok' := fun k_ => True) ho0 (fun _ hk_ => trivial)) (below_size (by repeat (first | (with_reducible first | exact HB.out | apply below_alloc | apply pw_below_drewN | apply below_drew1) | exact HB.out)))); have n1_ := Aside0.mk (Kd.N_lower (Kd.N_mono (ok' := fun k_ => some k_ ≠ (v233 : Value).ownBlock) ho1 (fun k_ hk_ => hk_.2)) (below_size (by repeat (first | (with_reducible first | exact HB.out | apply below_alloc | apply pw_below_drewN | apply below_drew1) | exact HB.out)))); have n2_ := Aside0.mk (below_step (by repeat (first | (with_reducible first | exact HB.out | apply below_alloc | apply pw_below_drewN | apply below_drew1) | exact HB.out)) hb); clear HB; have HO234 := n0_; have HO237 := n1_; have HB := n2_; clear n0_ n1_ n2_; (try clear hb); (try clear hb2); (try clear hk); (try clear hi); (try clear ho0); (try clear ho1); obtain ⟨Ao21, co21, eo21⟩ := Kd.R_slice HO234.out; subst eo21; obtain ⟨Ao22, co22, eo22⟩ := Kd.N_slice HO237.out; subst eo22) | ((with_reducible refine gate_callee (f := 14) rfl ?_); refine goesL_ (some 5) rfl rfl Try.func14 (by kernel_rfl) rfl #[.agg #[.int .i64 t230, .int .i64 t231, .slice Ao21 t232.length co21, .slice Ao22 t235.length co22]] rfl (by (try simp only [List.map_toArray, List.map_cons, List.map_nil]); first | done | rfl | (simp only [List.length_drop, List.length_take]; rfl)) ?_; (with_reducible refine (first_Of.calls k t230 t231 _ _ t232 _ _ t235 t238 t241 _ ?side1 ?side2 ?side3 ?side4 A2.out).mono ?_); (case side1 => repeat (first | exact (Kd.R_reads' HO234.out).2.2 | (with_reducible refine Kd.C_alloc ?_ _) | (with_reducible refine Kd.C_drewN ?_ _) | (with_reducible refine Kd.C_drew ?_))); (case side2 => exact (Kd.R_reads' HO234.out).2.1); (case side3 => repeat (first | exact (Kd.N_reads' HO237.out).2.2 | (with_reducible refine Kd.C_alloc ?_ _) | (with_reducible refine Kd.C_drewN ?_ _) | (with_reducible refine Kd.C_drew ?_))); (case side4 => exact (Kd.N_reads' HO237.out).2.1); rintro e w23 ⟨v239, rfl, ho0, hb⟩; refine ⟨_, rfl, ?_⟩; have n3_ := Aside0.mk (below_step (by repeat (first | (with_reducible first | exact HB.out | apply below_alloc | apply pw_below_drewN | apply below_drew1) | exact HB.out)) hb); clear HB; have HB := n3_; clear n3_; (try clear hb); (try clear hb2); (try clear hk); (try clear hi); (try clear ho0)))
  go_ret
  exact ⟨by first | rfl | (simp [errW_none, errW_some] <;> rfl) | (simp [*, errW_none, errW_some] <;> rfl), by repeat (first | (with_reducible first | exact HB.out | apply below_alloc | apply pw_below_drewN | apply below_drew1) | exact HB.out)⟩
end Go.Proofs.Ytnihlieggknpaaa.HFirstAll
