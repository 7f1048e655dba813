-- Written by plus.py for this claim.
import Derived.Test.YtnihlieggknpaaaHFirstWordsx0
import Derived.Test.YtnihlieggknpaaaHFirstWordsx1
import Derived.Test.YtnihlieggknpaaaHFirstWordsx4
import Derived.Test.YtnihlieggknpaaaHFirstWordsx6
namespace Go.Proofs.Ytnihlieggknpaaa.HFirstWords
open Go.RowKit Go.Proofs.YtnihlieggknpaaaW.PrintWords Go.Proofs.YtnihlieggknpaaaW.PrintLast Go.Proofs.YtnihlieggknpaaaW.PrintMore
attribute [local go_sem] max2_int min2_int max_two min_two max_three min_three max_four min_four   -- for this text's walks alone
set_option linter.unusedVariables false
set_option linter.unusedSimpArgs false
def IsS60000 (w0 W : World) (g : Nat) (f0 : Int) : Prop := W.heap[g]? = some (.cells #[.int .i64 f0] 3 (0, 0)) ∧ w0.heap.size ≤ g
theorem IsS60000.grown {w0 W : World} {g : Nat} {f0 : Int} {W1 : World} {row : Option Nat} (h : IsS60000 w0 W g f0) (hw : W.grownBy W1 row) (hne : some g ≠ row) : IsS60000 w0 W1 g f0 := by
 obtain ⟨hb, hg⟩ := h
 exact ⟨blk_grown hb hw hne, hg⟩
theorem IsS60000.kept {w0 W : World} {g : Nat} {f0 : Int} {W1 : World} {S : Nat → Prop} (h : IsS60000 w0 W g f0) (hk : Kept W W1 S) (hne : ¬ S g) : IsS60000 w0 W1 g f0 := by
 obtain ⟨hb, hg⟩ := h
 exact ⟨blk_kept hb hk hne, hg⟩
theorem IsS60000.below {w0 W : World} {g : Nat} {f0 : Int} {W1 : World} (h : IsS60000 w0 W g f0) (hw : Below W.heap.size W W1) : IsS60000 w0 W1 g f0 := h.grown (grown_of_below hw none) (by simp)
theorem IsS60000.alloc {w0 W : World} {g : Nat} {f0 : Int} (h : IsS60000 w0 W g f0) (o : Obj) : IsS60000 w0 (W.alloc o) g f0 := h.below (below_alloc (Below.refl _ _) o)
theorem IsS60000.drewN {w0 W : World} {g : Nat} {f0 : Int} (h : IsS60000 w0 W g f0) (m : Nat) : IsS60000 w0 (W.drewN m) g f0 := h
theorem IsS60000.drew {w0 W : World} {g : Nat} {f0 : Int} (h : IsS60000 w0 W g f0) : IsS60000 w0 W.drew g f0 := h
theorem IsS60000.at_ {w0 W : World} {g : Nat} {f0 : Int} {w' : World} {m : Nat} (hq : W.drewN m = w') (h : IsS60000 w0 W g f0) : IsS60000 w0 w' g f0 := by subst hq; exact IsS60000.drewN h m
theorem IsS60000.apart {w0 W : World} {g : Nat} {f0 : Int} {α : Type} {d : Kd α} {e : Nat} {base : Nat} {ok : Nat → Prop} {v : Value} {xs : List α} (h : IsS60000 w0 W g f0) (ho : d.R e W base ok v xs) (ht : ∀ q, q ∈ e :: d.E → q ≠ 3) : d.R e W base (fun k => ok k ∧ k ≠ g) v xs := by
 obtain ⟨hb, hg⟩ := h
 exact Kd.R_types ho hb ht
theorem IsS60000.own_ne {w0 W : World} {g : Nat} {f0 : Int} {α : Type} {d : Kd α} {e : Nat} {base : Nat} {ok : Nat → Prop} {v : Value} {xs : List α} (h : IsS60000 w0 W g f0) (ho : d.R e W base ok v xs) (ht : e ≠ 3) : some g ≠ v.ownBlock := by
 obtain ⟨hb, hg⟩ := h
 exact Kd.R_ne ho hb ht
theorem IsS60000.lt {w0 W : World} {g : Nat} {f0 : Int} (h : IsS60000 w0 W g f0) : g < W.heap.size := by
 obtain ⟨hb, hg⟩ := h
 exact blk_lt hb
theorem IsS60000.ge {w0 W : World} {g : Nat} {f0 : Int} (h : IsS60000 w0 W g f0) : w0.heap.size ≤ g := by
 obtain ⟨hb, hg⟩ := h
 exact hg
theorem IsS60000.far {w0 W : World} {g : Nat} {f0 : Int} {p : Addr} (h : IsS60000 w0 W g f0) (hne : g ≠ p.block) (u : Value) : IsS60000 w0 (W.setCell p u) g f0 := by
 obtain ⟨hb, hg⟩ := h
 exact ⟨blk_far hb hne u, hg⟩
theorem cellS60000_0 {W : World} {g : Nat} {f0 : Int} (h : W.heap[g]? = some (.cells #[.int .i64 f0] 3 (0, 0))) : W.cell? ⟨g, 0, none⟩ = some (.int .i64 f0) := (blk_cell h 0).trans rfl
theorem IsS60000.set_0 {w0 W : World} {g : Nat} {f0 : Int} (h : IsS60000 w0 W g f0) (x : Int) : IsS60000 w0 (W.setCell ⟨g, 0, none⟩ (.int .i64 x)) g x := by
 obtain ⟨hb, hg⟩ := h
 exact ⟨by simpa using blk_set hb 0 (.int .i64 x), hg⟩
mutual
def first_within_1.l0 : Nat → List ByteArray → List ByteArray → List ByteArray → Int → Int → Int → Option (List ByteArray × Int)
 | 0, _, _, _, _, _, _ => none
 | k + 1, x1, x6, x11, x12, x13, x3000 => if x13 < x12 then (if 0 ≤ x13 then (if x13 < (x11.length : Int) then (first_within_1.l1 k x1 x6 (rdOf ByteArray.empty x11 x13) x11 x12 x13 x1 (x1.length : Int) 0 x3000) else (none)) else (none)) else ((pack_Make.f x6).bind fun t207 => (some (t207, x3000)))
def first_within_1.l1 : Nat → List ByteArray → List ByteArray → ByteArray → List ByteArray → Int → Int → List ByteArray → Int → Int → Int → Option (List ByteArray × Int)
 | 0, _, _, _, _, _, _, _, _, _, _ => none
 | k + 1, x1, x6, x8, x11, x12, x13, x17, x18, x19, x3000 => if x19 < x18 then (if 0 ≤ x19 then (if x19 < (x17.length : Int) then (if (wrap64 ((x8.size : Int) + ((rdOf ByteArray.empty x17 x19).size : Int))) ≤ x3000 then (if x8.size + (rdOf ByteArray.empty x17 x19).size ≤ 9223372036854775807 then (if x6.length < 8796093022208 then (first_within_1.l1 k x1 (x6 ++ [x8 ++ (rdOf ByteArray.empty x17 x19)]) x8 x11 x12 x13 x17 x18 (wrap64 (x19 + 1)) x3000) else (none)) else (none)) else (first_within_1.l1 k x1 x6 x8 x11 x12 x13 x17 x18 (wrap64 (x19 + 1)) x3000)) else (none)) else (none)) else (first_within_1.l0 k x1 x6 x11 x12 (wrap64 (x13 + 1)) x3000)
end
def first_within_1.f (k : Nat) (l0 : List ByteArray) (l1 : List ByteArray) (s2_0 : Int) : Option (List ByteArray × Int) := first_within_1.l0 k l1 ([] : List ByteArray) l0 (l0.length : Int) 0 s2_0
theorem first_within_1.mono_l : ∀ k, (∀ y0 y1 y2 y3 y4 y5, LeO (first_within_1.l0 k y0 y1 y2 y3 y4 y5) (first_within_1.l0 (k + 1) y0 y1 y2 y3 y4 y5)) ∧ (∀ y0 y1 y2 y3 y4 y5 y6 y7 y8 y9, LeO (first_within_1.l1 k y0 y1 y2 y3 y4 y5 y6 y7 y8 y9) (first_within_1.l1 (k + 1) y0 y1 y2 y3 y4 y5 y6 y7 y8 y9))
 | 0 => ⟨fun _ _ _ _ _ _ r h => by simp [first_within_1.l0] at h, fun _ _ _ _ _ _ _ _ _ _ r h => by simp [first_within_1.l1] at h⟩
 | k + 1 => by
  obtain ⟨ih0, ih1⟩ := first_within_1.mono_l k
  refine ⟨?_, ?_⟩
  ·intro y0 y1 y2 y3 y4 y5
   unfold first_within_1.l0
   repeat' first
   | (with_reducible exact ih0 _ _ _ _ _ _)
   | (with_reducible exact ih1 _ _ _ _ _ _ _ _ _ _)
   | (with_reducible exact LeO.refl _)
   | (with_reducible exact LeO.none _)
   | (with_reducible refine LeO.ite ?_ ?_)
   | (with_reducible refine LeO.bind ?_ (fun _ => ?_))
   | exact ih0 _ _ _ _ _ _
   | exact ih1 _ _ _ _ _ _ _ _ _ _
   | exact LeO.none _
   | refine LeO.ite ?_ ?_
   | refine LeO.bind ?_ (fun _ => ?_)
  ·intro y0 y1 y2 y3 y4 y5 y6 y7 y8 y9
   unfold first_within_1.l1
   repeat' first
   | (with_reducible exact ih0 _ _ _ _ _ _)
   | (with_reducible exact ih1 _ _ _ _ _ _ _ _ _ _)
   | (with_reducible exact LeO.refl _)
   | (with_reducible exact LeO.none _)
   | (with_reducible refine LeO.ite ?_ ?_)
   | (with_reducible refine LeO.bind ?_ (fun _ => ?_))
   | exact ih0 _ _ _ _ _ _
   | exact ih1 _ _ _ _ _ _ _ _ _ _
   | exact LeO.none _
   | refine LeO.ite ?_ ?_
   | refine LeO.bind ?_ (fun _ => ?_)
theorem first_within_1.mono : ∀ a0 a1 a2 k, LeO (first_within_1.f k a0 a1 a2) (first_within_1.f (k + 1) a0 a1 a2) := by
 intro a0 a1 a2 k
 obtain ⟨ih0, ih1⟩ := first_within_1.mono_l k
 unfold first_within_1.f
 repeat' first
   | (with_reducible exact ih0 _ _ _ _ _ _)
   | (with_reducible exact ih1 _ _ _ _ _ _ _ _ _ _)
   | (with_reducible exact LeO.refl _)
   | (with_reducible exact LeO.none _)
   | (with_reducible refine LeO.ite ?_ ?_)
   | (with_reducible refine LeO.bind ?_ (fun _ => ?_))
   | exact ih0 _ _ _ _ _ _
   | exact ih1 _ _ _ _ _ _ _ _ _ _
   | exact LeO.none _
   | refine LeO.ite ?_ ?_
   | refine LeO.bind ?_ (fun _ => ?_)
set_option maxHeartbeats 8000000 in
set_option maxRecDepth 100000 in
theorem first_within_1.calls (k : Nat) (A0 : Option Addr) (c0 : Nat) (l0 : List ByteArray) (A1 : Option Addr) (c1 : Nat) (l1 : List ByteArray) (g : Nat) (s2_0 : Int) (r1 : List ByteArray) (r2 : Int) (w0 w : World) (hI : IsS60000 w0 w g s2_0) (hB : Below w0.heap.size w0 w) (hr0 : Kd.C Kd.string w A0 l0.length l0) (hc0 : l0.length ≤ c0) (hf0 : ∀ ad, A0 = some ad → 0 < l0.length → ad.block ≠ g) (hr1 : Kd.C Kd.string w A1 l1.length l1) (hc1 : l1.length ≤ c1) (hf1 : ∀ ad, A1 = some ad → 0 < l1.length → ad.block ≠ g) (h : first_within_1.f k l0 l1 s2_0 = some (r1, r2)) :
  Calls Try.prog 65 #[.slice A0 l0.length c0, .slice A1 l1.length c1, .pointer (some ⟨g, 0, none⟩)] w fun e w' => ∃ v0_ : Value, e = .returned (v0_) ∧ Kd.R Kd.string 9 w' w.heap.size (fun _ => True) v0_ r1 ∧ IsS60000 w0 w' g r2 ∧ Below w0.heap.size w0 w' ∧ KeepBut w w' g none := by
 have HR0 := Aside0.mk hr0
 have HC0 := Aside0.mk hc0
 clear hr0 hc0
 have HR1 := Aside0.mk hr1
 have HC1 := Aside0.mk hc1
 clear hr1 hc1
 have HI2 := Aside0.mk hI
 have HK := Aside0.mk (KeepBut.refl w g none)
 have HL := Aside0.mk hB.size
 clear hI
 have HW0 := Aside0.mk hB.size
 have HB := Aside0.mk hB
 clear hB
 have H : (first_within_1.l0 k l1 ([] : List ByteArray) l0 (l0.length : Int) 0 s2_0) = some (r1, r2) := h
 clear h
 have H' := Aside0.mk H
 clear H
 go_enter Try.func65, Try.ntmps65
 go_wp2
 go_loopg [6, 13] k (fun kq v6 v13 w' => ∃ (x6_1 : List ByteArray) (x13_1 : Int), v13 = .int .i64 x13_1 ∧ Aside0 (first_within_1.l0 kq l1 x6_1 l0 (l0.length : Int) x13_1 s2_0 = some (r1, r2)) ∧ Aside0 (kq ≤ k) ∧ Aside0 (Kd.R Kd.string 9 w' w.heap.size (fun _ => True) v6 x6_1) ∧ Aside0 (IsS60000 w0 w' g s2_0) ∧ Aside0 (KeepBut w w' g none) ∧ Aside0 (Below w0.heap.size w0 w'))
 case atStart => exact ⟨(([] : List ByteArray)), (0), (by first | rfl | (simp; done) | (simp [*]; done)), H', ⟨Nat.le_refl _⟩, ⟨by first | exact Kd.R_nil _ _ _ _ _ | exact Kd.N_nil _ _ _ _ _ | exact Kd.V_nil _ _ _ _ _ | exact Kd.Q_nil _ _ _ _ _ | exact Kd.S_nil _ _ _ _ _⟩, ⟨by repeat (first | (with_reducible first | exact HI2.out | apply IsS60000.alloc | apply IsS60000.drewN | apply IsS60000.drew | apply IsS60000.set_0) | exact HI2.out)⟩, ⟨by repeat (first | (with_reducible first | exact HK.out | apply KeepBut.set_ | apply keep_drewN | apply keep_drew | apply keep_alloc) | exact HK.out)⟩, ⟨by repeat (first | (with_reducible first | exact HB.out | apply below_alloc | apply pw_below_drewN | apply below_drew1 | refine below_set ?_ (IsS60000.ge HI2.out)) | exact HB.out)⟩⟩
 case round =>
  clear H'
  try clear c1
  try clear p2
  obtain ⟨x6_1, x13_1, rfl, HA, HK1, HO_6, HI2, HK, HB⟩ := hrel
  cases gk with
  | zero => exact absurd HA.out (by simp [first_within_1.l0])
  | succ k1 =>
   have H := HA.out
   clear HA
   simp only [first_within_1.l0] at H
   by_cases c4 : x13_1 < (l0.length : Int)
   ·rw [if_pos c4] at H
    have c4b0 : decide (x13_1 < (l0.length : Int)) = true := decide_eq_true c4
    clear c4
    by_cases c5 : 0 ≤ x13_1
    ·rw [if_pos c5] at H
     have c5b0 : decide (0 ≤ x13_1) = true := decide_eq_true c5
     clear c5
     by_cases c6 : x13_1 < (l0.length : Int)
     ·rw [if_pos c6] at H
      have c6b0 : decide (x13_1 < (l0.length : Int)) = true := decide_eq_true c6
      clear c6
      have H' := Aside0.mk H
      clear H
      have p210 : 0 ≤ (x13_1 : Int) := of_decide_eq_true (by first | (with_reducible assumption) | assumption)
      have q210 : x13_1 < (l0.length : Int) := of_decide_eq_true (by first | (with_reducible assumption) | assumption)
      obtain ⟨ad210, e210, hx210_0⟩ := Kd.at_string HR0.out x13_1 p210 q210
      cases e210
      replace hx210_0 := keep_cell HK.out hx210_0 (by first | (rw [add_block]; exact hf0 _ rfl (by omega)) | exact hf0 _ rfl (by omega) | exact hf0 ad210 rfl (by omega))
      replace p210 := eq_true p210
      replace q210 := eq_true q210
      go_wp2
      go_loopg [6, 19] k1 (fun kq v6 v19 w' => ∃ (x6_2 : List ByteArray) (x19_2 : Int), v19 = .int .i64 x19_2 ∧ Aside0 (first_within_1.l1 kq l1 x6_2 (rdOf ByteArray.empty l0 x13_1) l0 (l0.length : Int) x13_1 l1 (l1.length : Int) x19_2 s2_0 = some (r1, r2)) ∧ Aside0 (kq ≤ k1) ∧ Aside0 (Kd.R Kd.string 9 w' w.heap.size (fun _ => True) v6 x6_2) ∧ Aside0 (IsS60000 w0 w' g s2_0) ∧ Aside0 (KeepBut w w' g none) ∧ Aside0 (Below w0.heap.size w0 w'))
      case atStart => exact ⟨(x6_1), (0), (by first | rfl | (simp; done) | (simp [*]; done)), H', ⟨Nat.le_refl _⟩, ⟨by (with_reducible repeat (first | apply Kd.R_alloc | apply Kd.R_drewN | apply Kd.R_drew)); exact HO_6.out⟩, ⟨by repeat (first | (with_reducible first | exact HI2.out | apply IsS60000.alloc | apply IsS60000.drewN | apply IsS60000.drew | apply IsS60000.set_0) | exact HI2.out)⟩, ⟨by repeat (first | (with_reducible first | exact HK.out | apply KeepBut.set_ | apply keep_drewN | apply keep_drew | apply keep_alloc) | exact HK.out)⟩, ⟨by repeat (first | (with_reducible first | exact HB.out | apply below_alloc | apply pw_below_drewN | apply below_drew1 | refine below_set ?_ (IsS60000.ge HI2.out)) | exact HB.out)⟩⟩
      case round =>
       clear H'
       try clear c1
       try clear p2
       try clear q2
       try clear hx2
       try clear c4
       try clear c4b0
       try clear c5
       try clear c5b0
       try clear c6
       try clear c6b0
       try clear hx210_0
       try clear p2
       try clear p210
       try clear q210
       obtain ⟨x6_2, x19_2, rfl, HA, HK2, HO_6, HI2, HK, HB⟩ := hrel
       cases gk with
       | zero => exact absurd HA.out (by simp [first_within_1.l1])
       | succ k2 =>
        have H := HA.out
        clear HA
        simp only [first_within_1.l1] at H
        by_cases c7 : x19_2 < (l1.length : Int)
        ·rw [if_pos c7] at H
         have c7b0 : decide (x19_2 < (l1.length : Int)) = true := decide_eq_true c7
         clear c7
         by_cases c8 : 0 ≤ x19_2
         ·rw [if_pos c8] at H
          have c8b0 : decide (0 ≤ x19_2) = true := decide_eq_true c8
          clear c8
          by_cases c9 : x19_2 < (l1.length : Int)
          ·rw [if_pos c9] at H
           have c9b0 : decide (x19_2 < (l1.length : Int)) = true := decide_eq_true c9
           clear c9
           by_cases c10 : (wrap64 (((rdOf ByteArray.empty l0 x13_1).size : Int) + ((rdOf ByteArray.empty l1 x19_2).size : Int))) ≤ s2_0
           ·rw [if_pos c10] at H
            have c10b0 : decide ((wrap64 (((rdOf ByteArray.empty l0 x13_1).size : Int) + ((rdOf ByteArray.empty l1 x19_2).size : Int))) ≤ s2_0) = true := decide_eq_true c10
            clear c10
            by_cases c11 : (rdOf ByteArray.empty l0 x13_1).size + (rdOf ByteArray.empty l1 x19_2).size ≤ 9223372036854775807
            ·rw [if_pos c11] at H
             have c11b0 := eq_true c11
             have c11b1 : decide ((rdOf ByteArray.empty l0 x13_1).size + (rdOf ByteArray.empty l1 x19_2).size ≤ 9223372036854775807) = true := decide_eq_true c11
             try have c11b2 : (9223372036854775807 < (rdOf ByteArray.empty l0 x13_1).size + (rdOf ByteArray.empty l1 x19_2).size) = False := eq_false (Nat.not_lt.2 c11)
             have c10b0w : decide ((((rdOf ByteArray.empty l0 x13_1).size : Int) + ((rdOf ByteArray.empty l1 x19_2).size : Int)) ≤ s2_0) = true := by have h_ := c10b0; rw [show wrap64 (((rdOf ByteArray.empty l0 x13_1).size : Int) + ((rdOf ByteArray.empty l1 x19_2).size : Int)) = (((rdOf ByteArray.empty l0 x13_1).size : Int) + ((rdOf ByteArray.empty l1 x19_2).size : Int)) from by unfold wrap64; omega] at h_; exact h_
             by_cases c12 : x6_2.length < 8796093022208
             ·rw [if_pos c12] at H
              have LMc12 := Aside0.mk c12
              clear c12
              obtain ⟨y212, hy212⟩ : ∃ y_ : List ByteArray, y_ = (x6_2 ++ [(rdOf ByteArray.empty l0 x13_1) ++ (rdOf ByteArray.empty l1 x19_2)]) := ⟨_, rfl⟩
              replace H : (first_within_1.l1 k2 l1 y212 (rdOf ByteArray.empty l0 x13_1) l0 (l0.length : Int) x13_1 l1 (l1.length : Int) (wrap64 (x19_2 + 1)) s2_0) = some (r1, r2) := by first | (rw [hy212]; with_reducible exact H) | (have H2_ := (Option.bind_some _ _).symm.trans H; rw [hy212]; with_reducible exact H2_) | (have H2_ := (Option.bind_some _ _).symm.trans H; with_reducible exact H2_) | with_reducible exact H | (rw [hy212]; exact H) | exact H
              have Ny212 := Aside0.mk hy212
              clear hy212
              have H' := Aside0.mk H
              clear H
              have p211 : 0 ≤ (x19_2 : Int) := of_decide_eq_true (by first | (with_reducible assumption) | assumption)
              have q211 : x19_2 < (l1.length : Int) := of_decide_eq_true (by first | (with_reducible assumption) | assumption)
              obtain ⟨ad211, e211, hx211_0⟩ := Kd.at_string HR1.out x19_2 p211 q211
              cases e211
              replace hx211_0 := keep_cell HK.out hx211_0 (by first | (rw [add_block]; exact hf1 _ rfl (by omega)) | exact hf1 _ rfl (by omega) | exact hf1 ad211 rfl (by omega))
              replace p211 := eq_true p211
              replace q211 := eq_true q211
              obtain ⟨HGz13, hgz13⟩ := HI2.out
              have hcz13_0 := cellS60000_0 HGz13
              have hfz13_0 := blk_frozen HGz13 0
              clear HGz13 hgz13
              go_wp2_with (first | ((with_reducible refine gate_builtin (b := .append) (xs := #[.tmp 30, .tmp 34]) rfl ?_); at_builtin; refine Kd.R_append Kd.string w.heap.size rfl (.tmp 30) (.tmp 34) 27 9 (.string ⟨#[]⟩) 16 rfl Try.underlying27 info9 rfl (by decide) (by omega) u6 x6_2 ((rdOf ByteArray.empty l0 x13_1) ++ (rdOf ByteArray.empty l1 x19_2)) [.string ((rdOf ByteArray.empty l0 x13_1) ++ (rdOf ByteArray.empty l1 x19_2))] (fun _ => True) (fun _ => False) rfl rfl ?aP (fun _ hk => hk.elim) ?aF ?aO (Below.refl _ _) ?aS ?aL ?_; (case aP => exact rfl); (case aF => exact (fun _ _ => trivial)); (case aO => exact (by (with_reducible repeat (first | apply Kd.R_alloc | apply Kd.R_drewN | apply Kd.R_drew)); exact HO_6.out)); (case aS => exact (keep_size (w := w) (g := g) (row := none) (by repeat (first | (with_reducible first | exact HK.out | apply KeepBut.set_ | apply keep_drewN | apply keep_drew | apply keep_alloc) | exact HK.out)))); (case aL => have := LMc12.out; omega); intro v213 w14 ho hb hg hat; rw [← Ny212.out] at ho; have n0_ := Aside0.mk (IsS60000.grown (by repeat (first | (with_reducible first | exact HI2.out | apply IsS60000.alloc | apply IsS60000.drewN | apply IsS60000.drew | apply IsS60000.set_0) | exact HI2.out)) hg (IsS60000.own_ne HI2.out HO_6.out (by decide))); have n1_ := Aside0.mk (below_weaken (by repeat (first | (with_reducible first | exact HB.out | apply below_alloc | apply pw_below_drewN | apply below_drew1 | refine below_set ?_ (IsS60000.ge HI2.out)) | exact HB.out)) HL.out hb); have n2_ := Aside0.mk (KeepBut.trans (by repeat (first | (with_reducible first | exact HK.out | apply KeepBut.set_ | apply keep_drewN | apply keep_drew | apply keep_alloc) | exact HK.out)) (KeepBut.of_grown hg g) (Kd.R_base2 HO_6.out)); have n3_ := Aside0.mk (ho); clear HI2; clear HB; clear HK; clear HO_6; have HI2 := n0_; have HB := n1_; have HK := n2_; have HO214 := n3_; clear n0_ n1_ n2_ n3_; clear ho hb hg hat))
              go_roundg k2
              case measure => have := HK1.out; have := HK2.out; omega
              case rel => exact ⟨(y212), (wrap64 (x19_2 + 1)), (by first | rfl | (simp; done) | (simp [*]; done)), H', ⟨by have := HK1.out; have := HK2.out; omega⟩, ⟨by (with_reducible repeat (first | apply Kd.R_alloc | apply Kd.R_drewN | apply Kd.R_drew)); exact HO214.out⟩, ⟨by repeat (first | (with_reducible first | exact HI2.out | apply IsS60000.alloc | apply IsS60000.drewN | apply IsS60000.drew | apply IsS60000.set_0) | exact HI2.out)⟩, ⟨by repeat (first | (with_reducible first | exact HK.out | apply KeepBut.set_ | apply keep_drewN | apply keep_drew | apply keep_alloc) | exact HK.out)⟩, ⟨by repeat (first | (with_reducible first | exact HB.out | apply below_alloc | apply pw_below_drewN | apply below_drew1 | refine below_set ?_ (IsS60000.ge HI2.out)) | exact HB.out)⟩⟩
             ·rw [if_neg c12] at H
              exact absurd H (by simp)
            ·rw [if_neg c11] at H
             exact absurd H (by simp)
           ·rw [if_neg c10] at H
            have c10b0 : decide ((wrap64 (((rdOf ByteArray.empty l0 x13_1).size : Int) + ((rdOf ByteArray.empty l1 x19_2).size : Int))) ≤ s2_0) = false := decide_eq_false c10
            clear c10
            have H' := Aside0.mk H
            clear H
            have p211 : 0 ≤ (x19_2 : Int) := of_decide_eq_true (by first | (with_reducible assumption) | assumption)
            have q211 : x19_2 < (l1.length : Int) := of_decide_eq_true (by first | (with_reducible assumption) | assumption)
            obtain ⟨ad211, e211, hx211_0⟩ := Kd.at_string HR1.out x19_2 p211 q211
            cases e211
            replace hx211_0 := keep_cell HK.out hx211_0 (by first | (rw [add_block]; exact hf1 _ rfl (by omega)) | exact hf1 _ rfl (by omega) | exact hf1 ad211 rfl (by omega))
            replace p211 := eq_true p211
            replace q211 := eq_true q211
            obtain ⟨HGz15, hgz15⟩ := HI2.out
            have hcz15_0 := cellS60000_0 HGz15
            have hfz15_0 := blk_frozen HGz15 0
            clear HGz15 hgz15
            go_wp2
            go_roundg k2
            case measure => have := HK1.out; have := HK2.out; omega
            case rel => exact ⟨(x6_2), (wrap64 (x19_2 + 1)), (by first | rfl | (simp; done) | (simp [*]; done)), H', ⟨by have := HK1.out; have := HK2.out; omega⟩, ⟨by (with_reducible repeat (first | apply Kd.R_alloc | apply Kd.R_drewN | apply Kd.R_drew)); exact HO_6.out⟩, ⟨by repeat (first | (with_reducible first | exact HI2.out | apply IsS60000.alloc | apply IsS60000.drewN | apply IsS60000.drew | apply IsS60000.set_0) | exact HI2.out)⟩, ⟨by repeat (first | (with_reducible first | exact HK.out | apply KeepBut.set_ | apply keep_drewN | apply keep_drew | apply keep_alloc) | exact HK.out)⟩, ⟨by repeat (first | (with_reducible first | exact HB.out | apply below_alloc | apply pw_below_drewN | apply below_drew1 | refine below_set ?_ (IsS60000.ge HI2.out)) | exact HB.out)⟩⟩
          ·rw [if_neg c9] at H
           exact absurd H (by simp)
         ·rw [if_neg c8] at H
          exact absurd H (by simp)
        ·rw [if_neg c7] at H
         have c7b0 : decide (x19_2 < (l1.length : Int)) = false := decide_eq_false c7
         clear c7
         have H' := Aside0.mk H
         clear H
         go_wp2
         go_roundg k2
         case measure => have := HK1.out; have := HK2.out; omega
         case rel => exact ⟨(x6_2), (wrap64 (x13_1 + 1)), (by first | rfl | (simp; done) | (simp [*]; done)), H', ⟨by have := HK1.out; have := HK2.out; omega⟩, ⟨by (with_reducible repeat (first | apply Kd.R_alloc | apply Kd.R_drewN | apply Kd.R_drew)); exact HO_6.out⟩, ⟨by repeat (first | (with_reducible first | exact HI2.out | apply IsS60000.alloc | apply IsS60000.drewN | apply IsS60000.drew | apply IsS60000.set_0) | exact HI2.out)⟩, ⟨by repeat (first | (with_reducible first | exact HK.out | apply KeepBut.set_ | apply keep_drewN | apply keep_drew | apply keep_alloc) | exact HK.out)⟩, ⟨by repeat (first | (with_reducible first | exact HB.out | apply below_alloc | apply pw_below_drewN | apply below_drew1 | refine below_set ?_ (IsS60000.ge HI2.out)) | exact HB.out)⟩⟩
     ·rw [if_neg c6] at H
      exact absurd H (by simp)
    ·rw [if_neg c5] at H
     exact absurd H (by simp)
   ·rw [if_neg c4] at H
    have c4b0 : decide (x13_1 < (l0.length : Int)) = false := decide_eq_false c4
    clear c4
    replace H := Option.bind_eq_some_iff.mp H
    obtain ⟨t207, A160, H⟩ := H
    replace H : (some (t207, s2_0)) = some (r1, r2) := H
    have A16 := Aside0.mk A160
    clear A160
    simp only [Option.some.injEq, Prod.mk.injEq] at H
    obtain ⟨rfl, rfl⟩ := H
    obtain ⟨Ao17, co17, eo17⟩ := Kd.R_slice HO_6.out
    subst eo17
    go_wp2_with (first | ((with_reducible refine gate_callee (f := 66) rfl ?_); refine goesL_ (some 39) rfl rfl Try.func66 (by kernel_rfl) rfl #[.slice Ao17 x6_1.length co17] rfl (by (try simp only [List.map_toArray, List.map_cons, List.map_nil]); first | done | rfl | (simp only [List.length_drop, List.length_take]; rfl)) ?_; (with_reducible refine (pack_Make.calls _ _ x6_1 t207 _ ?side1 ?side2 A16.out).mono ?_); (case side1 => repeat (first | exact (Kd.R_reads' HO_6.out).2.2 | (with_reducible refine Kd.C_alloc ?_ _) | (with_reducible refine Kd.C_drewN ?_ _) | (with_reducible refine Kd.C_drew ?_))); (case side2 => exact (Kd.R_reads' HO_6.out).2.1); rintro e w18 ⟨v208, rfl, ho0, hb⟩; refine ⟨_, rfl, ?_⟩; have n1_ := Aside0.mk (Kd.R_lower (R_newT_ ho0) (keep_size (w := w) (g := g) (row := none) (by repeat (first | (with_reducible first | exact HK.out | apply KeepBut.set_ | apply keep_drewN | apply keep_drew | apply keep_alloc) | exact HK.out)))); have n2_ := Aside0.mk (IsS60000.below (by repeat (first | (with_reducible first | exact HI2.out | apply IsS60000.alloc | apply IsS60000.drewN | apply IsS60000.drew | apply IsS60000.set_0) | exact HI2.out)) hb); have n3_ := Aside0.mk (KeepBut.trans (by repeat (first | (with_reducible first | exact HK.out | apply KeepBut.set_ | apply keep_drewN | apply keep_drew | apply keep_alloc) | exact HK.out)) (KeepBut.of_below hb g none) (.inl rfl)); have n4_ := Aside0.mk (below_step (by repeat (first | (with_reducible first | exact HB.out | apply below_alloc | apply pw_below_drewN | apply below_drew1 | refine below_set ?_ (IsS60000.ge HI2.out)) | exact HB.out)) hb); clear HI2; clear HK; clear HB; have HO209 := n1_; have HI2 := n2_; have HK := n3_; have HB := n4_; clear n1_ n2_ n3_ n4_; (try clear hb); (try clear hb2); (try clear hk); (try clear hi); (try clear ho0)))
    go_ret
    exact ⟨_, by first | rfl | (simp [errW_none, errW_some] <;> rfl) | (simp [*, errW_none, errW_some] <;> rfl), by (with_reducible repeat (first | apply Kd.R_alloc | apply Kd.R_drewN | apply Kd.R_drew)); exact Kd.R_mono HO209.out (fun _ hk => trivial), by repeat (first | (with_reducible first | exact HI2.out | apply IsS60000.alloc | apply IsS60000.drewN | apply IsS60000.drew | apply IsS60000.set_0) | exact HI2.out), by repeat (first | (with_reducible first | exact HB.out | apply below_alloc | apply pw_below_drewN | apply below_drew1 | refine below_set ?_ (IsS60000.ge HI2.out)) | exact HB.out), by repeat (first | (with_reducible first | exact HK.out | apply KeepBut.set_ | apply keep_drewN | apply keep_drew | apply keep_alloc) | exact HK.out)⟩
theorem first_Words.same : ∀ k, (∀ x1 x6 x11 x12 x13 s r z, first_within_1.l0 k x1 x6 x11 x12 x13 s = some (r, z) → z = s) ∧ (∀ x1 x6 x8 x11 x12 x13 x17 x18 x19 s r z, first_within_1.l1 k x1 x6 x8 x11 x12 x13 x17 x18 x19 s = some (r, z) → z = s)
 | 0 => ⟨fun _ _ _ _ _ _ _ _ h => by (rw [first_within_1.l0] at h; cases h), fun _ _ _ _ _ _ _ _ _ _ _ _ h => by (rw [first_within_1.l1] at h; cases h)⟩
 | k + 1 => by
  obtain ⟨i0, i1⟩ := first_Words.same k
  constructor
  ·intro x1 x6 x11 x12 x13 s r z h
   rw [first_within_1.l0] at h
   split at h
   ·split at h
    ·split at h
     ·exact i1 _ _ _ _ _ _ _ _ _ _ _ _ h
     ·cases h
    ·cases h
   ·obtain ⟨t, -, h⟩ := Option.bind_eq_some_iff.mp h
    exact (Prod.mk.inj (Option.some.inj h)).2.symm
  ·intro x1 x6 x8 x11 x12 x13 x17 x18 x19 s r z h
   rw [first_within_1.l1] at h
   split at h
   ·split at h
    ·split at h
     ·split at h
      ·split at h
       ·split at h
        ·exact i1 _ _ _ _ _ _ _ _ _ _ _ _ h
        ·cases h
       ·cases h
      ·exact i1 _ _ _ _ _ _ _ _ _ _ _ _ h
     ·cases h
    ·cases h
   ·exact i0 _ _ _ _ _ _ _ _ h
theorem first_Words.apart {W : World} {gc : Nat} {kk : Int} {A : Option Addr} {n : Nat} {a : List ByteArray} (hk : first_Of.KK gc kk W) (h : Kd.C Kd.string W A n a) : ∀ ad, A = some ad → 0 < a.length → ad.block ≠ gc := by
 intro ad hA hn he
 subst hA
 obtain ⟨ad', hh, hc⟩ := h.2.2 (by have := h.1; omega)
 injection hh with hh
 subst hh
 obtain ⟨c, hcl, hM, hcell⟩ := hc 0 _ (List.getElem?_eq_getElem hn)
 have h1 := hcell 0 _ (List.getElem?_eq_getElem (by rw [hcl]; decide))
 have h2 : c = [.string a[0]] := hM
 subst h2
 rw [Nat.zero_mul, Nat.zero_add, Addr.add_zero'] at h1
 unfold first_Of.KK at hk
 subst he
 simp [World.cell?, hk] at h1
 obtain ⟨-, h1⟩ := h1
 cases ho : ad.off with
 | zero => rw [ho] at h1; simp at h1
 | succ m => rw [ho] at h1; simp at h1
def first_Words.cat (k : Nat) (kk : Int) (a b : List ByteArray) : Option (List ByteArray) := (first_within_1.f k a b kk).bind fun x => some x.1
theorem first_Words.clo_calls (k : Nat) (gc : Nat) (kk : Int) : first_Of.Cats 65 gc kk (first_Words.cat k kk) := by
 intro A0 c0 a A1 c1 b r W h0 l0 h1 l1 hk h
 obtain ⟨⟨r', z⟩, hf, he⟩ := Option.bind_eq_some_iff.mp h
 obtain rfl := Option.some.inj he
 have hz : z = kk := (first_Words.same k).1 _ _ _ _ _ _ _ _ hf
 subst hz
 refine (first_within_1.calls k A0 c0 a A1 c1 b gc z r' z { W with heap := #[] } W ⟨hk, Nat.zero_le _⟩ ⟨rfl, rfl, rfl, Nat.zero_le _, fun i hi => absurd hi (Nat.not_lt_zero i)⟩ h0 l0 (first_Words.apart hk h0) h1 l1 (first_Words.apart hk h1) hf).mono ?_
 rintro e w' ⟨v, rfl, hR, hI, hB, hK⟩
 refine ⟨v, rfl, hR, ⟨hB.os, hB.tape, hB.output, hK.1, fun i hi => ?_⟩⟩
 by_cases hg : i = gc
 ·rw [hg]; exact hI.1.trans hk.symm
 ·exact hK.2 i hi hg (by simp)
theorem first_Words.within_calls (kk : Int) (w : World) : Calls Try.prog 34 #[.int .i64 kk] w fun e w' => e = .returned (.func (.func 65) #[] #[.pointer (some ⟨w.heap.size, 0, none⟩)]) ∧ w' = w.alloc (.cells #[.int .i64 kk] 3) := by
 go_enter Try.func34, Try.ntmps34
 go_wp2
 go_ret
 exact ⟨rfl, rfl⟩
def first_Words.f (k : Nat) (a0_0 a0_1 : Int) (l0_2 : List Int) (l0_3 : List S61) (a1 a2 : Int) : Option (List ByteArray × Int) :=
 (bnf_May.f k a0_0 a0_1 l0_2 l0_3).bind fun e => if e = 0 then (if a1 < 0 then some ([], 3) else if (l0_2.length : Int) ≤ a1 then some ([], 3) else (first_Of.grow (first_Words.cat k (mn (mx a2 0) 4)) k a0_0 a0_1 l0_2 l0_3 10000).bind fun x => if x.2 = 0 then (if a1 < (x.1.length : Int) then some (rd_L6 x.1 a1, 0) else none) else some ([], x.2)) else some ([], e)
theorem first_Words.cat_mono (k : Nat) (kk : Int) (a b : List ByteArray) : LeO (first_Words.cat k kk a b) (first_Words.cat (k + 1) kk a b) := LeO.bind (first_within_1.mono _ _ _ _) (fun _ => LeO.refl _)
theorem first_Words.mono : ∀ a b c d e g k, LeO (first_Words.f k a b c d e g) (first_Words.f (k + 1) a b c d e g) := by
 intro a b c d e g k
 unfold first_Words.f
 refine LeO.bind (bnf_May.mono _ _ _ _ _) (fun x => ?_)
 by_cases h0 : x = 0
 ·simp only [if_pos h0]
  by_cases h1 : e < 0
  ·simp only [if_pos h1]; exact LeO.refl _
  ·simp only [if_neg h1]
   by_cases h2 : (c.length : Int) ≤ e
   ·simp only [if_pos h2]; exact LeO.refl _
   ·simp only [if_neg h2]
    exact LeO.bind (first_Of.grow_mono (fun a b => first_Words.cat_mono _ _ _ _) _ _ _ _ _ _) (fun _ => LeO.refl _)
 ·simp only [if_neg h0]; exact LeO.refl _
set_option maxHeartbeats 8000000 in
set_option maxRecDepth 100000 in
theorem first_Words.calls (k : Nat) (a0_0 a0_1 : Int) (A2 : Option Addr) (c2 : Nat) (l0_2 : List Int) (A3 : Option Addr) (c3 : Nat) (l0_3 : List S61) (a1 a2 : Int) (r1 : List ByteArray) (r2 : Int) (w : World)
  (hr2 : Kd.C (Kd.int .i64) w A2 l0_2.length l0_2) (hc2 : l0_2.length ≤ c2) (hr3 : Kd.C k61 w A3 l0_3.length l0_3) (hc3 : l0_3.length ≤ c3) (h : first_Words.f k a0_0 a0_1 l0_2 l0_3 a1 a2 = some (r1, r2)) :
  Calls Try.prog 9 #[.agg #[.int .i64 a0_0, .int .i64 a0_1, .slice A2 l0_2.length c2, .slice A3 l0_3.length c3], .int .i64 a1, .int .i64 a2] w fun e w' => ∃ v0_ : Value, e = .returned (.tuple #[v0_, .int .i64 r2]) ∧ Kd.R Kd.string 9 w' w.heap.size (fun _ => True) v0_ r1 ∧ Below w.heap.size w w' := by
 obtain ⟨e0, he, ha⟩ := Option.bind_eq_some_iff.mp h
 have HE := Aside0.mk he
 have HR2 := Aside0.mk hr2
 have HC2 := Aside0.mk hc2
 have HR3 := Aside0.mk hr3
 have HC3 := Aside0.mk hc3
 have hu := Try.underlying25
 have hu2 := Try.underlying69
 by_cases h0 : e0 = 0
 ·subst h0
  rw [if_pos rfl] at ha
  have HA := Aside0.mk ha
  clear h he ha hr2 hr3 hc2 hc3
  go_enter Try.func9, Try.ntmps9
  go_wp2_with fail
  refine (bnf_May.calls k a0_0 a0_1 A2 c2 l0_2 A3 c3 l0_3 0 _ (Kd.C_alloc HR2.out _) HC2.out (Kd.C_alloc HR3.out _) HC3.out HE.out).mono ?_
  rintro e w1 ⟨rfl, hb1⟩
  have q0 := (hb1.cell (p := ⟨w.heap.size, 0, none⟩) (by simp)).trans (blk_cell (blk_new _ _) 0)
  have q1 := (hb1.cell (p := ⟨w.heap.size, 1, none⟩) (by simp)).trans (blk_cell (blk_new _ _) 1)
  have q2 := (hb1.cell (p := ⟨w.heap.size, 2, none⟩) (by simp)).trans (blk_cell (blk_new _ _) 2)
  have q3 := (hb1.cell (p := ⟨w.heap.size, 3, none⟩) (by simp)).trans (blk_cell (blk_new _ _) 3)
  have HB1 := Aside0.mk (below_step (below_alloc (Below.refl w.heap.size w) _) hb1)
  have hlt : w.heap.size < w1.heap.size := World.block_lt_of_cell? w1 ⟨w.heap.size, 0, none⟩ q0
  clear hb1
  by_cases h1 : a1 < 0
  ·have ha := HA.out
   rw [if_pos h1] at ha
   obtain ⟨rfl, rfl⟩ := Prod.mk.inj (Option.some.inj ha)
   have c1 : decide (a1 < 0) = true := decide_eq_true h1
   clear ha h1
   go_wp2
   go_ret2
   exact ⟨_, rfl, Kd.R_nil _ _ _ _ _, HB1.out⟩
  ·have ha := HA.out
   rw [if_neg h1] at ha
   have c1 : decide (a1 < 0) = false := decide_eq_false h1
   have HN1 := Aside0.mk (Int.not_lt.1 h1)
   by_cases h2 : (l0_2.length : Int) ≤ a1
   ·rw [if_pos h2] at ha
    obtain ⟨rfl, rfl⟩ := Prod.mk.inj (Option.some.inj ha)
    have c2 : decide ((l0_2.length : Int) ≤ a1) = true := decide_eq_true h2
    clear ha h1 h2
    go_wp2
    go_ret2
    exact ⟨_, rfl, Kd.R_nil _ _ _ _ _, HB1.out⟩
   ·rw [if_neg h2] at ha
    have c2b : decide ((l0_2.length : Int) ≤ a1) = false := decide_eq_false h2
    have HN2 := Aside0.mk h2
    obtain ⟨⟨x1, x2⟩, hx, ha⟩ := Option.bind_eq_some_iff.mp ha
    obtain ⟨j4, hj4⟩ : ∃ j_ : Int, mx a2 0 = j_ := ⟨_, rfl⟩
    obtain ⟨j5, hj5⟩ : ∃ j_ : Int, mn j4 4 = j_ := ⟨_, rfl⟩
    rw [hj4, hj5] at hx
    have hj4_ : (if a2 < 0 then 0 else a2) = j4 := hj4
    have hj5_ : (if 4 < j4 then 4 else j4) = j5 := hj5
    have HX := Aside0.mk hx
    clear hj4 hj5
    clear h1 h2 hx HA
    have hb1 := q0
    go_wp2
    clear hb1
    by_cases hz : x2 = 0
    ·subst hz
     rw [if_pos rfl] at ha
     by_cases h3 : a1 < (x1.length : Int)
     ·rw [if_pos h3] at ha
      obtain ⟨rfl, rfl⟩ := Prod.mk.inj (Option.some.inj ha)
      have HN3 := Aside0.mk h3
      clear ha h3
      go_region_held3 (fun V => V.cell? ⟨w.heap.size, 0, none⟩ = some (.int .i64 a0_0) ∧ V.cell? ⟨w.heap.size, 1, none⟩ = some (.int .i64 a0_1) ∧ V.cell? ⟨w.heap.size, 2, none⟩ = some (.slice A2 l0_2.length c2) ∧ V.cell? ⟨w.heap.size, 3, none⟩ = some (.slice A3 l0_3.length c3))
       (first | go_keep | exact ⟨(hb5.cell (p := ⟨w.heap.size, 0, none⟩) hlt).trans q0, (hb5.cell (p := ⟨w.heap.size, 1, none⟩) hlt).trans q1, (hb5.cell (p := ⟨w.heap.size, 2, none⟩) hlt).trans q2, (hb5.cell (p := ⟨w.heap.size, 3, none⟩) hlt).trans q3⟩ | exact ⟨(hb6.cell (p := ⟨w.heap.size, 0, none⟩) (Nat.lt_of_lt_of_le hlt hb5.size)).trans ((hb5.cell (p := ⟨w.heap.size, 0, none⟩) hlt).trans q0), (hb6.cell (p := ⟨w.heap.size, 1, none⟩) (Nat.lt_of_lt_of_le hlt hb5.size)).trans ((hb5.cell (p := ⟨w.heap.size, 1, none⟩) hlt).trans q1), (hb6.cell (p := ⟨w.heap.size, 2, none⟩) (Nat.lt_of_lt_of_le hlt hb5.size)).trans ((hb5.cell (p := ⟨w.heap.size, 2, none⟩) hlt).trans q2), (hb6.cell (p := ⟨w.heap.size, 3, none⟩) (Nat.lt_of_lt_of_le hlt hb5.size)).trans ((hb5.cell (p := ⟨w.heap.size, 3, none⟩) hlt).trans q3)⟩)
       (first
        | (go_at_call 34; refine (first_Words.within_calls j5 _).mono ?_; rintro e w5 ⟨rfl, hw5⟩; have hk5 : first_Of.KK w1.heap.size j5 w5 := (by rw [hw5]; exact blk_new _ _); have hb5 : Below w1.heap.size w1 w5 := (by rw [hw5]; exact below_alloc (below_drew1 (Below.refl _ _)) _); clear hw5)
        | (go_at_call 33; refine ((first_Of.grow_calls (.inr rfl) (first_Words.clo_calls k w1.heap.size j5) k a0_0 a0_1 A2 c2 l0_2 A3 c3 l0_3 10000 x1 0 w5 (Kd.C_below HR2.out (below_step HB1.out hb5)) HC2.out (Kd.C_below HR3.out (below_step HB1.out hb5)) HC3.out hk5 HX.out).mono fun e w' hg => first_Of.grown_ok rfl hg).mono ?_; rintro e w6 ⟨hb6, g6, rfl, hm6⟩))
      obtain ⟨gs, n, cap, m4, m5, m6, mK, mS⟩ := hm6
      have hn := (Kd.S_reads' mS).1
      have p2 := HN1.out
      have q2 := HN3.out
      have q3 : a1 < (n : Int) := by omega
      obtain ⟨ad2, A8, c8, e2, hy0, hyl, hyr⟩ := at_L6 (Kd.S_reads' mS).2.2 a1 p2 q2
      obtain rfl : (⟨gs, 0, none⟩ : Addr) = ad2 := by injection e2
      obtain ⟨ce, hce, hMe, hcc⟩ := Kd.S_get mS [] a1 p2 q3
      obtain ⟨ve, rfl, ge⟩ := hMe
      have hv := hcc 0 _ rfl
      rw [Nat.add_zero, show ((Kd.slice 9 Kd.string)).sz = 1 from rfl, Nat.mul_one] at hv
      replace hv := Option.some.inj (hv.symm.trans hy0)
      rw [hv] at ge
      have HB6 := Aside0.mk (below_step (below_step HB1.out hb5) hb6)
      have HL := Aside0.mk (show Kd.R Kd.string 9 _ _ _ _ (rd_L6 x1 a1) from Kd.R_lower (Kd.R_mono ge (ok' := fun _ => True) (fun _ hk => trivial)) (below_step HB1.out hb5).size)
      clear m5 m6 mK mS hk5 hb5 hb6 q0 q1 hyl hyr e2 hv ge hcc hce hn
      try simp only [add_plain] at hy0
      replace p2 := eq_true p2
      replace q2 := eq_true q3
      clear q3
      go_wp2
      go_ret2
      exact ⟨_, rfl, HL.out, HB6.out⟩
     ·rw [if_neg h3] at ha; cases ha
    ·rw [if_neg hz] at ha
     obtain ⟨rfl, rfl⟩ := Prod.mk.inj (Option.some.inj ha)
     have hz2 : (x2 != 0) = true := bne_iff_ne.mpr hz
     have HZ := Aside0.mk hz
     clear hz ha
     go_region_held3 (fun V => V.cell? ⟨w.heap.size, 0, none⟩ = some (.int .i64 a0_0) ∧ V.cell? ⟨w.heap.size, 1, none⟩ = some (.int .i64 a0_1) ∧ V.cell? ⟨w.heap.size, 2, none⟩ = some (.slice A2 l0_2.length c2) ∧ V.cell? ⟨w.heap.size, 3, none⟩ = some (.slice A3 l0_3.length c3))
      (first | go_keep | exact ⟨(hb5.cell (p := ⟨w.heap.size, 0, none⟩) hlt).trans q0, (hb5.cell (p := ⟨w.heap.size, 1, none⟩) hlt).trans q1, (hb5.cell (p := ⟨w.heap.size, 2, none⟩) hlt).trans q2, (hb5.cell (p := ⟨w.heap.size, 3, none⟩) hlt).trans q3⟩ | exact ⟨(hb6.cell (p := ⟨w.heap.size, 0, none⟩) (Nat.lt_of_lt_of_le hlt hb5.size)).trans ((hb5.cell (p := ⟨w.heap.size, 0, none⟩) hlt).trans q0), (hb6.cell (p := ⟨w.heap.size, 1, none⟩) (Nat.lt_of_lt_of_le hlt hb5.size)).trans ((hb5.cell (p := ⟨w.heap.size, 1, none⟩) hlt).trans q1), (hb6.cell (p := ⟨w.heap.size, 2, none⟩) (Nat.lt_of_lt_of_le hlt hb5.size)).trans ((hb5.cell (p := ⟨w.heap.size, 2, none⟩) hlt).trans q2), (hb6.cell (p := ⟨w.heap.size, 3, none⟩) (Nat.lt_of_lt_of_le hlt hb5.size)).trans ((hb5.cell (p := ⟨w.heap.size, 3, none⟩) hlt).trans q3)⟩)
      (first
       | (go_at_call 34; refine (first_Words.within_calls j5 _).mono ?_; rintro e w5 ⟨rfl, hw5⟩; have hk5 : first_Of.KK w1.heap.size j5 w5 := (by rw [hw5]; exact blk_new _ _); have hb5 : Below w1.heap.size w1 w5 := (by rw [hw5]; exact below_alloc (below_drew1 (Below.refl _ _)) _); clear hw5)
       | (go_at_call 33; refine ((first_Of.grow_calls (.inr rfl) (first_Words.clo_calls k w1.heap.size j5) k a0_0 a0_1 A2 c2 l0_2 A3 c3 l0_3 10000 x1 x2 w5 (Kd.C_below HR2.out (below_step HB1.out hb5)) HC2.out (Kd.C_below HR3.out (below_step HB1.out hb5)) HC3.out hk5 HX.out).mono fun e w' hg => first_Of.grown_err HZ.out hg).mono ?_; rintro e w6 ⟨hb6, hr6, rfl⟩))
     subst hr6
     have HB6 := Aside0.mk (below_step (below_step HB1.out hb5) hb6)
     clear hk5 hb5 hb6 q0 q1 q2 q3
     go_wp2
     go_ret2
     exact ⟨_, rfl, Kd.R_nil _ _ _ _ _, HB6.out⟩
 ·rw [if_neg h0] at ha
  obtain ⟨rfl, rfl⟩ := Prod.mk.inj (Option.some.inj ha)
  have hz : (e0 != 0) = true := bne_iff_ne.mpr h0
  have HN := Aside0.mk h0
  clear h he ha hr2 hr3 hc2 hc3 h0
  go_enter Try.func9, Try.ntmps9
  go_wp2_with fail
  refine (bnf_May.calls k a0_0 a0_1 A2 c2 l0_2 A3 c3 l0_3 e0 _ (Kd.C_alloc HR2.out _) HC2.out (Kd.C_alloc HR3.out _) HC3.out HE.out).mono ?_
  rintro e w1 ⟨rfl, hb1⟩
  have HB1 := Aside0.mk (below_step (below_alloc (Below.refl w.heap.size w) _) hb1)
  clear hb1
  go_wp2
  go_ret2
  exact ⟨_, rfl, Kd.R_nil _ _ _ _ _, HB1.out⟩
end Go.Proofs.Ytnihlieggknpaaa.HFirstWords
