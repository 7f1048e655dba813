-- Written by plus.py for this claim.
import Derived.Test.YtnihlieggknpaaaHFollowWholex0
import Derived.Test.YtnihlieggknpaaaHFollowWholex1
namespace Go.Proofs.Ytnihlieggknpaaa.HFollowWhole
open Go.RowKit Go.Proofs.YtnihlieggknpaaaW.PrintWords Go.Proofs.YtnihlieggknpaaaW.PrintLast Go.Proofs.YtnihlieggknpaaaW.PrintMore
attribute [local go_sem] max2_int min2_int max_two min_two max_three min_three max_four min_four   -- for this text's walks alone
set_option linter.unusedVariables false
set_option linter.unusedSimpArgs false
def slices_IndexFunc_api_Prod__bnf_May_1.l0 : Nat → List (S61) → Int → Int → Int → Int → List Int → List (S61) → Option (Int × Int × Int)
 | 0, _, _, _, _, _, _, _ => none
 | k + 1, x0, x7, x8, x2000, x2001, x2002, x2003 => if x8 < x7 then (if 0 ≤ x8 then (if x8 < (x0.length : Int) then ((bnf_May_1.f k ((rd_T61 x0 x8).f0) ((rd_T61 x0 x8).f1) x2000 x2001 x2002 x2003).bind fun bt127 => (if bt127.1 = true then (some (x8, bt127.2.1, bt127.2.2)) else (slices_IndexFunc_api_Prod__bnf_May_1.l0 k x0 x7 (wrap64 (x8 + 1)) bt127.2.1 bt127.2.2 x2002 x2003))) else (none)) else (none)) else (some ((-1), x2000, x2001))
def slices_IndexFunc_api_Prod__bnf_May_1.f (k : Nat) (l0 : List (S61)) (s1_0 : Int) (s1_1 : Int) (s1_2 : List Int) (s1_3 : List (S61)) : Option (Int × Int × Int) := slices_IndexFunc_api_Prod__bnf_May_1.l0 k l0 (l0.length : Int) 0 s1_0 s1_1 s1_2 s1_3
theorem slices_IndexFunc_api_Prod__bnf_May_1.mono_l : ∀ k, (∀ y0 y1 y2 y3 y4 y5 y6, LeO (slices_IndexFunc_api_Prod__bnf_May_1.l0 k y0 y1 y2 y3 y4 y5 y6) (slices_IndexFunc_api_Prod__bnf_May_1.l0 (k + 1) y0 y1 y2 y3 y4 y5 y6))
 | 0 => fun _ _ _ _ _ _ _ r h => by simp [slices_IndexFunc_api_Prod__bnf_May_1.l0] at h
 | k + 1 => by
  have ih0 := slices_IndexFunc_api_Prod__bnf_May_1.mono_l k
  ·intro y0 y1 y2 y3 y4 y5 y6
   unfold slices_IndexFunc_api_Prod__bnf_May_1.l0
   repeat' first
   | (with_reducible exact ih0 _ _ _ _ _ _ _)
   | (with_reducible exact bnf_May_1.mono _ _ _ _ _ _ _)
   | (with_reducible exact LeO.refl _)
   | (with_reducible exact LeO.none _)
   | (with_reducible refine LeO.ite ?_ ?_)
   | (with_reducible refine LeO.bind ?_ (fun _ => ?_))
   | exact ih0 _ _ _ _ _ _ _
   | exact bnf_May_1.mono _ _ _ _ _ _ _
   | exact LeO.none _
   | refine LeO.ite ?_ ?_
   | refine LeO.bind ?_ (fun _ => ?_)
theorem slices_IndexFunc_api_Prod__bnf_May_1.mono : ∀ a0 a1 a2 a3 a4 k, LeO (slices_IndexFunc_api_Prod__bnf_May_1.f k a0 a1 a2 a3 a4) (slices_IndexFunc_api_Prod__bnf_May_1.f (k + 1) a0 a1 a2 a3 a4) := by
 intro a0 a1 a2 a3 a4 k
 have ih0 := slices_IndexFunc_api_Prod__bnf_May_1.mono_l k
 unfold slices_IndexFunc_api_Prod__bnf_May_1.f
 repeat' first
   | (with_reducible exact ih0 _ _ _ _ _ _ _)
   | (with_reducible exact bnf_May_1.mono _ _ _ _ _ _ _)
   | (with_reducible exact LeO.refl _)
   | (with_reducible exact LeO.none _)
   | (with_reducible refine LeO.ite ?_ ?_)
   | (with_reducible refine LeO.bind ?_ (fun _ => ?_))
   | exact ih0 _ _ _ _ _ _ _
   | exact bnf_May_1.mono _ _ _ _ _ _ _
   | exact LeO.none _
   | refine LeO.ite ?_ ?_
   | refine LeO.bind ?_ (fun _ => ?_)
set_option maxHeartbeats 8000000 in
set_option maxRecDepth 100000 in
theorem slices_IndexFunc_api_Prod__bnf_May_1.calls (k : Nat) (A0 : Option Addr) (c0 : Nat) (l0 : List (S61)) (g : Nat) (s1_0 : Int) (s1_1 : Int) (s1_2 : List Int) (s1_3 : List (S61)) (r1 : Int) (r2 : Int) (r3 : Int) (w0 w : World) (hI : IsS25 w0 w g s1_0 s1_1 s1_2 s1_3) (hB : Below w0.heap.size w0 w) (hr0 : ∀ W_, KeepBut w W_ g none → Kd.C k61 W_ A0 l0.length l0) (hc0 : l0.length ≤ c0) (h : slices_IndexFunc_api_Prod__bnf_May_1.f k l0 s1_0 s1_1 s1_2 s1_3 = some (r1, r2, r3)) :
  Calls Try.prog 89 #[.slice A0 l0.length c0, .func (.func 62) #[] #[.pointer (some ⟨g, 0, none⟩)]] w fun e w' => e = .returned (.int .i64 r1) ∧ IsS25 w0 w' g r2 r3 s1_2 s1_3 ∧ Below w0.heap.size w0 w' ∧ KeepBut w w' g none := by
 have hu61 := Try.underlying61
 have HR0 := Aside0.mk hr0
 have HC0 := Aside0.mk hc0
 clear hr0 hc0
 have HI1 := Aside0.mk hI
 have HK := Aside0.mk (KeepBut.refl w g none)
 have HL := Aside0.mk hB.size
 clear hI
 have HW0 := Aside0.mk hB.size
 have HB := Aside0.mk hB
 clear hB
 have H : (slices_IndexFunc_api_Prod__bnf_May_1.l0 k l0 (l0.length : Int) 0 s1_0 s1_1 s1_2 s1_3) = some (r1, r2, r3) := h
 clear h
 have H' := Aside0.mk H
 clear H
 go_enter Try.func89, Try.ntmps89
 go_wp2
 go_loopg [8] k (fun kq v8 w' => ∃ (x8_1 : Int) (x2000_1 : Int) (x2001_1 : Int), v8 = .int .i64 x8_1 ∧ Aside0 (slices_IndexFunc_api_Prod__bnf_May_1.l0 kq l0 (l0.length : Int) x8_1 x2000_1 x2001_1 s1_2 s1_3 = some (r1, r2, r3)) ∧ Aside0 (kq ≤ k) ∧ Aside0 (IsS25 w0 w' g x2000_1 x2001_1 s1_2 s1_3) ∧ Aside0 (KeepBut w w' g none) ∧ Aside0 (Below w0.heap.size w0 w'))
 case atStart => exact ⟨(0), (s1_0), (s1_1), (by first | rfl | (simp; done) | (simp [*]; done)), H', ⟨Nat.le_refl _⟩, ⟨by repeat (first | (with_reducible first | exact HI1.out | apply IsS25.alloc | apply IsS25.drewN | apply IsS25.drew | apply IsS25.set_0 | apply IsS25.set_1) | exact HI1.out)⟩, ⟨by repeat (first | (with_reducible first | exact HK.out | apply KeepBut.set_ | apply keep_drewN | apply keep_drew | apply keep_alloc) | exact HK.out)⟩, ⟨by repeat (first | (with_reducible first | exact HB.out | apply below_alloc | apply pw_below_drewN | apply below_drew1 | refine below_set ?_ (IsS25.ge HI1.out)) | exact HB.out)⟩⟩
 case round =>
  clear H'
  try clear p2
  obtain ⟨x8_1, x2000_1, x2001_1, rfl, HA, HK1, HI1, HK, HB⟩ := hrel
  cases gk with
  | zero => exact absurd HA.out (by simp [slices_IndexFunc_api_Prod__bnf_May_1.l0])
  | succ k1 =>
   have H := HA.out
   clear HA
   simp only [slices_IndexFunc_api_Prod__bnf_May_1.l0] at H
   by_cases c3 : x8_1 < (l0.length : Int)
   ·rw [if_pos c3] at H
    have c3b0 : decide (x8_1 < (l0.length : Int)) = true := decide_eq_true c3
    clear c3
    by_cases c4 : 0 ≤ x8_1
    ·rw [if_pos c4] at H
     have c4b0 : decide (0 ≤ x8_1) = true := decide_eq_true c4
     clear c4
     by_cases c5 : x8_1 < (l0.length : Int)
     ·rw [if_pos c5] at H
      have c5b0 : decide (x8_1 < (l0.length : Int)) = true := decide_eq_true c5
      clear c5
      replace H := Option.bind_eq_some_iff.mp H
      obtain ⟨⟨t127, t128, t129⟩, A60, H⟩ := H
      replace H : (if t127 = true then (some (x8_1, t128, t129)) else (slices_IndexFunc_api_Prod__bnf_May_1.l0 k1 l0 (l0.length : Int) (wrap64 (x8_1 + 1)) t128 t129 s1_2 s1_3)) = some (r1, r2, r3) := H
      have A6 := Aside0.mk A60
      clear A60
      by_cases c7 : t127 = true
      ·subst c7
       have H1 : (some (x8_1, t128, t129)) = some (r1, r2, r3) := by rw [if_pos rfl] at H; exact H
       clear H
       have H := H1
       clear H1
       simp only [Option.some.injEq, Prod.mk.injEq] at H
       obtain ⟨rfl, rfl, rfl⟩ := H
       have p126 : 0 ≤ (x8_1 : Int) := of_decide_eq_true (by first | (with_reducible assumption) | assumption)
       have q126 : x8_1 < (l0.length : Int) := of_decide_eq_true (by first | (with_reducible assumption) | assumption)
       obtain ⟨ad126, A126_1, c126_1, e126, hx126_0, hx126_1, hl126_1, hi126_1⟩ := at_T61 (Kd.C_foot_now HR0.out HK.out) x8_1 p126 q126
       cases e126
       have HR126_1 := Aside0.mk hi126_1
       have HC126_1 := Aside0.mk hl126_1
       clear hi126_1 hl126_1
       replace p126 := eq_true p126
       replace q126 := eq_true q126
       go_wp2_with (first | (go_at_call 62; (with_reducible refine (bnf_May_1.calls k1 ((rd_T61 l0 x8_1).f0) _ _ ((rd_T61 l0 x8_1).f1) g x2000_1 x2001_1 s1_2 s1_3 true t128 t129 w0 _ ?side1 ?side2 ?side3 ?side4 A6.out).mono ?_); (case side1 => repeat (first | (with_reducible first | exact HI1.out | apply IsS25.alloc | apply IsS25.drewN | apply IsS25.drew | apply IsS25.set_0 | apply IsS25.set_1) | exact HI1.out)); (case side2 => repeat (first | (with_reducible first | exact HB.out | apply below_alloc | apply pw_below_drewN | apply below_drew1 | refine below_set ?_ (IsS25.ge HI1.out)) | exact HB.out)); (case side3 => exact foot_elem_ HR0.out (by first | omega | (have h_ := of_eq_true q126; have h2_ := of_eq_true p126; omega)) (by decide) (by repeat (first | (with_reducible first | exact HK.out | apply KeepBut.set_ | apply keep_drewN | apply keep_drew | apply keep_alloc) | exact HK.out)) (by first | rfl | exact add_block _ _ | (show (Addr.add _ _).block = _; exact add_block _ _)) hx126_1 (fun W_ h_ => by obtain ⟨ad_, A1_, c1_, e_, h0_, h1_, hl1_, hi1_⟩ := at_T61 h_ x8_1 (by first | exact of_eq_true p126 | exact p126) (by first | exact of_eq_true q126 | exact q126); cases e_; exact ⟨_, _, h1_, hi1_⟩)); (case side4 => exact HC126_1.out); rintro e w8 ⟨rfl, hi, hb, hk⟩; have n0_ := Aside0.mk (KeepBut.trans (by repeat (first | (with_reducible first | exact HK.out | apply KeepBut.set_ | apply keep_drewN | apply keep_drew | apply keep_alloc) | exact HK.out)) hk (.inl rfl)); have n1_ := Aside0.mk (hb); have n2_ := Aside0.mk (hi); clear HK; clear HB; clear HI1; have HK := n0_; have HB := n1_; have HI1 := n2_; clear n0_ n1_ n2_; (try clear hb); (try clear hb2); (try clear hk); (try clear hi)))
       go_ret
       exact ⟨by first | rfl | (simp [errW_none, errW_some] <;> rfl) | (simp [*, errW_none, errW_some] <;> rfl), by repeat (first | (with_reducible first | exact HI1.out | apply IsS25.alloc | apply IsS25.drewN | apply IsS25.drew | apply IsS25.set_0 | apply IsS25.set_1) | exact HI1.out), by repeat (first | (with_reducible first | exact HB.out | apply below_alloc | apply pw_below_drewN | apply below_drew1 | refine below_set ?_ (IsS25.ge HI1.out)) | exact HB.out), by repeat (first | (with_reducible first | exact HK.out | apply KeepBut.set_ | apply keep_drewN | apply keep_drew | apply keep_alloc) | exact HK.out)⟩
      ·replace c7 := Bool.eq_false_iff.mpr c7
       subst c7
       have H1 : (slices_IndexFunc_api_Prod__bnf_May_1.l0 k1 l0 (l0.length : Int) (wrap64 (x8_1 + 1)) t128 t129 s1_2 s1_3) = some (r1, r2, r3) := by rw [if_neg (show ¬ (false = true) by decide)] at H; exact H
       clear H
       have H := H1
       clear H1
       have H' := Aside0.mk H
       clear H
       have p126 : 0 ≤ (x8_1 : Int) := of_decide_eq_true (by first | (with_reducible assumption) | assumption)
       have q126 : x8_1 < (l0.length : Int) := of_decide_eq_true (by first | (with_reducible assumption) | assumption)
       obtain ⟨ad126, A126_1, c126_1, e126, hx126_0, hx126_1, hl126_1, hi126_1⟩ := at_T61 (Kd.C_foot_now HR0.out HK.out) x8_1 p126 q126
       cases e126
       have HR126_1 := Aside0.mk hi126_1
       have HC126_1 := Aside0.mk hl126_1
       clear hi126_1 hl126_1
       replace p126 := eq_true p126
       replace q126 := eq_true q126
       go_wp2_with (first | (go_at_call 62; (with_reducible refine (bnf_May_1.calls k1 ((rd_T61 l0 x8_1).f0) _ _ ((rd_T61 l0 x8_1).f1) g x2000_1 x2001_1 s1_2 s1_3 false t128 t129 w0 _ ?side1 ?side2 ?side3 ?side4 A6.out).mono ?_); (case side1 => repeat (first | (with_reducible first | exact HI1.out | apply IsS25.alloc | apply IsS25.drewN | apply IsS25.drew | apply IsS25.set_0 | apply IsS25.set_1) | exact HI1.out)); (case side2 => repeat (first | (with_reducible first | exact HB.out | apply below_alloc | apply pw_below_drewN | apply below_drew1 | refine below_set ?_ (IsS25.ge HI1.out)) | exact HB.out)); (case side3 => exact foot_elem_ HR0.out (by first | omega | (have h_ := of_eq_true q126; have h2_ := of_eq_true p126; omega)) (by decide) (by repeat (first | (with_reducible first | exact HK.out | apply KeepBut.set_ | apply keep_drewN | apply keep_drew | apply keep_alloc) | exact HK.out)) (by first | rfl | exact add_block _ _ | (show (Addr.add _ _).block = _; exact add_block _ _)) hx126_1 (fun W_ h_ => by obtain ⟨ad_, A1_, c1_, e_, h0_, h1_, hl1_, hi1_⟩ := at_T61 h_ x8_1 (by first | exact of_eq_true p126 | exact p126) (by first | exact of_eq_true q126 | exact q126); cases e_; exact ⟨_, _, h1_, hi1_⟩)); (case side4 => exact HC126_1.out); rintro e w9 ⟨rfl, hi, hb, hk⟩; have n0_ := Aside0.mk (KeepBut.trans (by repeat (first | (with_reducible first | exact HK.out | apply KeepBut.set_ | apply keep_drewN | apply keep_drew | apply keep_alloc) | exact HK.out)) hk (.inl rfl)); have n1_ := Aside0.mk (hb); have n2_ := Aside0.mk (hi); clear HK; clear HB; clear HI1; have HK := n0_; have HB := n1_; have HI1 := n2_; clear n0_ n1_ n2_; (try clear hb); (try clear hb2); (try clear hk); (try clear hi)))
       go_roundg k1
       case measure => have := HK1.out; omega
       case rel => exact ⟨(wrap64 (x8_1 + 1)), (t128), (t129), (by first | rfl | (simp; done) | (simp [*]; done)), H', ⟨by have := HK1.out; omega⟩, ⟨by repeat (first | (with_reducible first | exact HI1.out | apply IsS25.alloc | apply IsS25.drewN | apply IsS25.drew | apply IsS25.set_0 | apply IsS25.set_1) | exact HI1.out)⟩, ⟨by repeat (first | (with_reducible first | exact HK.out | apply KeepBut.set_ | apply keep_drewN | apply keep_drew | apply keep_alloc) | exact HK.out)⟩, ⟨by repeat (first | (with_reducible first | exact HB.out | apply below_alloc | apply pw_below_drewN | apply below_drew1 | refine below_set ?_ (IsS25.ge HI1.out)) | exact HB.out)⟩⟩
     ·rw [if_neg c5] at H
      exact absurd H (by simp)
    ·rw [if_neg c4] at H
     exact absurd H (by simp)
   ·rw [if_neg c3] at H
    have c3b0 : decide (x8_1 < (l0.length : Int)) = false := decide_eq_false c3
    clear c3
    simp only [Option.some.injEq, Prod.mk.injEq] at H
    obtain ⟨rfl, rfl, rfl⟩ := H
    go_wp2
    go_ret
    exact ⟨by first | rfl | (simp [errW_none, errW_some] <;> rfl) | (simp [*, errW_none, errW_some] <;> rfl), by repeat (first | (with_reducible first | exact HI1.out | apply IsS25.alloc | apply IsS25.drewN | apply IsS25.drew | apply IsS25.set_0 | apply IsS25.set_1) | exact HI1.out), by repeat (first | (with_reducible first | exact HB.out | apply below_alloc | apply pw_below_drewN | apply below_drew1 | refine below_set ?_ (IsS25.ge HI1.out)) | exact HB.out), by repeat (first | (with_reducible first | exact HK.out | apply KeepBut.set_ | apply keep_drewN | apply keep_drew | apply keep_alloc) | exact HK.out)⟩
def slices_ContainsFunc_api_Prod__bnf_May_1.f (k : Nat) (l0 : List (S61)) (s1_0 : Int) (s1_1 : Int) (s1_2 : List Int) (s1_3 : List (S61)) : Option (Bool × Int × Int) := (slices_IndexFunc_api_Prod__bnf_May_1.f k l0 s1_0 s1_1 s1_2 s1_3).bind fun bt130 => (some (decide (bt130.1 ≥ 0), bt130.2.1, bt130.2.2))
theorem slices_ContainsFunc_api_Prod__bnf_May_1.mono : ∀ a0 a1 a2 a3 a4 k, LeO (slices_ContainsFunc_api_Prod__bnf_May_1.f k a0 a1 a2 a3 a4) (slices_ContainsFunc_api_Prod__bnf_May_1.f (k + 1) a0 a1 a2 a3 a4) := by
 intro a0 a1 a2 a3 a4 k
 unfold slices_ContainsFunc_api_Prod__bnf_May_1.f
 repeat' first
   | (with_reducible exact slices_IndexFunc_api_Prod__bnf_May_1.mono _ _ _ _ _ _)
   | (with_reducible exact LeO.refl _)
   | (with_reducible exact LeO.none _)
   | (with_reducible refine LeO.ite ?_ ?_)
   | (with_reducible refine LeO.bind ?_ (fun _ => ?_))
   | exact slices_IndexFunc_api_Prod__bnf_May_1.mono _ _ _ _ _ _
   | exact LeO.none _
   | refine LeO.ite ?_ ?_
   | refine LeO.bind ?_ (fun _ => ?_)
set_option maxHeartbeats 8000000 in
set_option maxRecDepth 100000 in
theorem slices_ContainsFunc_api_Prod__bnf_May_1.calls (k : Nat) (A0 : Option Addr) (c0 : Nat) (l0 : List (S61)) (g : Nat) (s1_0 : Int) (s1_1 : Int) (s1_2 : List Int) (s1_3 : List (S61)) (r1 : Bool) (r2 : Int) (r3 : Int) (w0 w : World) (hI : IsS25 w0 w g s1_0 s1_1 s1_2 s1_3) (hB : Below w0.heap.size w0 w) (hr0 : ∀ W_, KeepBut w W_ g none → Kd.C k61 W_ A0 l0.length l0) (hc0 : l0.length ≤ c0) (h : slices_ContainsFunc_api_Prod__bnf_May_1.f k l0 s1_0 s1_1 s1_2 s1_3 = some (r1, r2, r3)) :
  Calls Try.prog 60 #[.slice A0 l0.length c0, .func (.func 62) #[] #[.pointer (some ⟨g, 0, none⟩)]] w fun e w' => e = .returned (.bool r1) ∧ IsS25 w0 w' g r2 r3 s1_2 s1_3 ∧ Below w0.heap.size w0 w' ∧ KeepBut w w' g none := by
 have HR0 := Aside0.mk hr0
 have HC0 := Aside0.mk hc0
 clear hr0 hc0
 have HI1 := Aside0.mk hI
 have HK := Aside0.mk (KeepBut.refl w g none)
 have HL := Aside0.mk hB.size
 clear hI
 have HW0 := Aside0.mk hB.size
 have HB := Aside0.mk hB
 clear hB
 have H : ((slices_IndexFunc_api_Prod__bnf_May_1.f k l0 s1_0 s1_1 s1_2 s1_3).bind fun bt130 => (some (decide (bt130.1 ≥ 0), bt130.2.1, bt130.2.2))) = some (r1, r2, r3) := h
 clear h
 replace H := Option.bind_eq_some_iff.mp H
 obtain ⟨⟨t130, t131, t132⟩, A30, H⟩ := H
 replace H : (some (decide (t130 ≥ 0), t131, t132)) = some (r1, r2, r3) := H
 have A3 := Aside0.mk A30
 clear A30
 simp only [Option.some.injEq, Prod.mk.injEq] at H
 obtain ⟨rfl, rfl, rfl⟩ := H
 go_enter Try.func60, Try.ntmps60
 go_wp2_with (first | ((with_reducible refine gate_callee (f := 89) rfl ?_); refine goesL_ (some 7) rfl rfl Try.func89 (by kernel_rfl) rfl #[.slice A0 l0.length c0, .func (.func 62) #[] #[.pointer (some ⟨g, 0, none⟩)]] rfl (by (try simp only [List.map_toArray, List.map_cons, List.map_nil]); first | done | rfl | (simp only [List.length_drop, List.length_take]; rfl)) ?_; (with_reducible refine (slices_IndexFunc_api_Prod__bnf_May_1.calls k _ _ l0 g s1_0 s1_1 s1_2 s1_3 t130 t131 t132 w0 _ ?side1 ?side2 ?side3 ?side4 A3.out).mono ?_); (case side1 => repeat (first | (with_reducible first | exact HI1.out | apply IsS25.alloc | apply IsS25.drewN | apply IsS25.drew | apply IsS25.set_0 | apply IsS25.set_1) | exact HI1.out)); (case side2 => repeat (first | (with_reducible first | exact HB.out | apply below_alloc | apply pw_below_drewN | apply below_drew1 | refine below_set ?_ (IsS25.ge HI1.out)) | exact HB.out)); (case side3 => exact Kd.C_foot_step HR0.out (by repeat (first | (with_reducible first | exact HK.out | apply KeepBut.set_ | apply keep_drewN | apply keep_drew | apply keep_alloc) | exact HK.out))); (case side4 => exact HC0.out); rintro e w4 ⟨rfl, hi, hb, hk⟩; refine ⟨_, rfl, ?_⟩; have n0_ := Aside0.mk (KeepBut.trans (by repeat (first | (with_reducible first | exact HK.out | apply KeepBut.set_ | apply keep_drewN | apply keep_drew | apply keep_alloc) | exact HK.out)) hk (.inl rfl)); have n1_ := Aside0.mk (hb); have n2_ := Aside0.mk (hi); clear HK; clear HB; clear HI1; have HK := n0_; have HB := n1_; have HI1 := n2_; clear n0_ n1_ n2_; (try clear hb); (try clear hb2); (try clear hk); (try clear hi)))
 go_ret
 exact ⟨by first | rfl | (simp [errW_none, errW_some] <;> rfl) | (simp [*, errW_none, errW_some] <;> rfl), by repeat (first | (with_reducible first | exact HI1.out | apply IsS25.alloc | apply IsS25.drewN | apply IsS25.drew | apply IsS25.set_0 | apply IsS25.set_1) | exact HI1.out), by repeat (first | (with_reducible first | exact HB.out | apply below_alloc | apply pw_below_drewN | apply below_drew1 | refine below_set ?_ (IsS25.ge HI1.out)) | exact HB.out), by repeat (first | (with_reducible first | exact HK.out | apply KeepBut.set_ | apply keep_drewN | apply keep_drew | apply keep_alloc) | exact HK.out)⟩
def bnf_May.j0 : Nat → Bool → Int → Int → List Int → List (S61) → Option (Int)
 | 0, _, _, _, _, _ => none
 | k + 1, x3, x134000, x134001, x134002, x134003 => if x3 = true then (some 8) else ((bnf_from1.f x134001 4).bind fun t138 => (if t138 = true then ((slices_ContainsFunc_api_Prod__bnf_May_1.f k x134003 x134000 x134001 x134002 x134003).bind fun bt139 => (if bt139.1 = true then (some 4) else (some 0))) else (some 11)))
def bnf_May.f (k : Nat) (a0_0 : Int) (a0_1 : Int) (l0_2 : List Int) (l0_3 : List (S61)) : Option (Int) := (bnf_from1.f a0_0 60).bind fun t134 => (if t134 = true then ((bnf_from1.f (l0_2.length : Int) 500).bind fun t135 => (if t135 = true then ((bnf_from1.f (l0_3.length : Int) 2000).bind fun t136 => (if t136 = true then ((slices_ContainsFunc_api_Prod__bnf_long.f k l0_3 7000061).bind fun t137 => (bnf_May.j0 k t137 a0_0 a0_1 l0_2 l0_3)) else (bnf_May.j0 k true a0_0 a0_1 l0_2 l0_3))) else (bnf_May.j0 k true a0_0 a0_1 l0_2 l0_3))) else (bnf_May.j0 k true a0_0 a0_1 l0_2 l0_3))
theorem bnf_May.mono_l : ∀ k, (∀ y0 y1 y2 y3 y4, LeO (bnf_May.j0 k y0 y1 y2 y3 y4) (bnf_May.j0 (k + 1) y0 y1 y2 y3 y4))
 | 0 => fun _ _ _ _ _ r h => by simp [bnf_May.j0] at h
 | k + 1 => by
  have ih0 := bnf_May.mono_l k
  ·intro y0 y1 y2 y3 y4
   unfold bnf_May.j0
   repeat' first
   | (with_reducible exact ih0 _ _ _ _ _)
   | (with_reducible exact slices_ContainsFunc_api_Prod__bnf_May_1.mono _ _ _ _ _ _)
   | (with_reducible exact slices_ContainsFunc_api_Prod__bnf_long.mono _ _ _)
   | (with_reducible exact LeO.refl _)
   | (with_reducible exact LeO.none _)
   | (with_reducible refine LeO.ite ?_ ?_)
   | (with_reducible refine LeO.bind ?_ (fun _ => ?_))
   | exact ih0 _ _ _ _ _
   | exact slices_ContainsFunc_api_Prod__bnf_May_1.mono _ _ _ _ _ _
   | exact slices_ContainsFunc_api_Prod__bnf_long.mono _ _ _
   | exact LeO.none _
   | refine LeO.ite ?_ ?_
   | refine LeO.bind ?_ (fun _ => ?_)
theorem bnf_May.mono : ∀ a0 a1 a2 a3 k, LeO (bnf_May.f k a0 a1 a2 a3) (bnf_May.f (k + 1) a0 a1 a2 a3) := by
 intro a0 a1 a2 a3 k
 have ih0 := bnf_May.mono_l k
 unfold bnf_May.f
 repeat' first
   | (with_reducible exact ih0 _ _ _ _ _)
   | (with_reducible exact slices_ContainsFunc_api_Prod__bnf_May_1.mono _ _ _ _ _ _)
   | (with_reducible exact slices_ContainsFunc_api_Prod__bnf_long.mono _ _ _)
   | (with_reducible exact LeO.refl _)
   | (with_reducible exact LeO.none _)
   | (with_reducible refine LeO.ite ?_ ?_)
   | (with_reducible refine LeO.bind ?_ (fun _ => ?_))
   | exact ih0 _ _ _ _ _
   | exact slices_ContainsFunc_api_Prod__bnf_May_1.mono _ _ _ _ _ _
   | exact slices_ContainsFunc_api_Prod__bnf_long.mono _ _ _
   | exact LeO.none _
   | refine LeO.ite ?_ ?_
   | refine LeO.bind ?_ (fun _ => ?_)
set_option maxHeartbeats 8000000 in
set_option maxRecDepth 100000 in
theorem bnf_May.calls (k : Nat) (a0_0 : Int) (a0_1 : Int) (A0_2 : Option Addr) (c0_2 : Nat) (l0_2 : List Int) (A0_3 : Option Addr) (c0_3 : Nat) (l0_3 : List (S61)) (r : Int) (w : World) (hr0_2 : Kd.C (Kd.int .i64) w A0_2 l0_2.length l0_2) (hc0_2 : l0_2.length ≤ c0_2) (hr0_3 : Kd.C k61 w A0_3 l0_3.length l0_3) (hc0_3 : l0_3.length ≤ c0_3) (h : bnf_May.f k a0_0 a0_1 l0_2 l0_3 = some r) :
  Calls Try.prog 32 #[.agg #[.int .i64 a0_0, .int .i64 a0_1, .slice A0_2 l0_2.length c0_2, .slice A0_3 l0_3.length c0_3]] w fun e w' => e = .returned (.int .i64 r) ∧ Below w.heap.size w w' := by
 have hu25 := Try.underlying25
 have HR0_2 := Aside0.mk hr0_2
 have HC0_2 := Aside0.mk hc0_2
 clear hr0_2 hc0_2
 have HR0_3 := Aside0.mk hr0_3
 have HC0_3 := Aside0.mk hc0_3
 clear hr0_3 hc0_3
 have HB := Aside0.mk (Below.refl w.heap.size w)
 have H : ((bnf_from1.f a0_0 60).bind fun t134 => (if t134 = true then ((bnf_from1.f (l0_2.length : Int) 500).bind fun t135 => (if t135 = true then ((bnf_from1.f (l0_3.length : Int) 2000).bind fun t136 => (if t136 = true then ((slices_ContainsFunc_api_Prod__bnf_long.f k l0_3 7000061).bind fun t137 => (bnf_May.j0 k t137 a0_0 a0_1 l0_2 l0_3)) else (bnf_May.j0 k true a0_0 a0_1 l0_2 l0_3))) else (bnf_May.j0 k true a0_0 a0_1 l0_2 l0_3))) else (bnf_May.j0 k true a0_0 a0_1 l0_2 l0_3))) = some r := h
 clear h
 have HC2 := Aside0.mk H
 clear H
 go_enter Try.func32, Try.ntmps32
 go_upto_region 1 with (first | ((with_reducible refine gate_dst (N := 1) rfl ?_); (try (refine gate_guard (by rfl) ?_; dsimp only)); refine box_event ?hg (N := 1) ?hd (cs := #[.int .i64 a0_0, .int .i64 a0_1, .slice A0_2 l0_2.length c0_2, .slice A0_3 l0_3.length c0_3]) (t := 25) ?hr ?_; (case hd => rfl); (case hg => rfl); (case hr => first | (go_simp; done) | (go_simp; rfl)); intro gb133 hg w3 hbox hb; have n0_ := Aside0.mk (below_step (by repeat (first | (with_reducible first | exact HB.out | apply below_alloc | apply pw_below_drewN | apply below_drew1) | exact HB.out)) hb); have n1_ := Aside0.mk ((⟨_, _, _, _, hbox, (by rw [hg]; exact (below_size (by repeat (first | (with_reducible first | exact HB.out | apply below_alloc | apply pw_below_drewN | apply below_drew1) | exact HB.out))) : w.heap.size ≤ gb133), ⟨HR0_2.out, HC0_2.out⟩, ⟨HR0_3.out, HC0_3.out⟩⟩ : IsS25 w w3 gb133 a0_0 a0_1 l0_2 l0_3)); clear HB; have HB := n0_; have HI133 := n1_; clear n0_ n1_; clear hb hbox hg))
 (try simp only [Act.put, List.setIfInBounds_toArray, List.set_cons_zero, List.set_cons_succ])
 go_cut [3] (fun v3 wc => ∃ (kq : Nat) (x3_1 : Bool), v3 = .bool x3_1 ∧ Aside0 (bnf_May.j0 kq x3_1 a0_0 a0_1 l0_2 l0_3 = some r) ∧ Aside0 (kq ≤ k) ∧ Aside0 (IsS25 w wc gb133 a0_0 a0_1 l0_2 l0_3) ∧ Aside0 (Below w.heap.size w wc))
 case first =>
  have H := HC2.out
  clear HC2
  replace H := Option.bind_eq_some_iff.mp H
  obtain ⟨t134, A40, H⟩ := H
  replace H : (if t134 = true then ((bnf_from1.f (l0_2.length : Int) 500).bind fun t135 => (if t135 = true then ((bnf_from1.f (l0_3.length : Int) 2000).bind fun t136 => (if t136 = true then ((slices_ContainsFunc_api_Prod__bnf_long.f k l0_3 7000061).bind fun t137 => (bnf_May.j0 k t137 a0_0 a0_1 l0_2 l0_3)) else (bnf_May.j0 k true a0_0 a0_1 l0_2 l0_3))) else (bnf_May.j0 k true a0_0 a0_1 l0_2 l0_3))) else (bnf_May.j0 k true a0_0 a0_1 l0_2 l0_3)) = some r := H
  have A4 := Aside0.mk A40
  clear A40
  by_cases c5 : t134 = true
  ·subst c5
   have H1 : ((bnf_from1.f (l0_2.length : Int) 500).bind fun t135 => (if t135 = true then ((bnf_from1.f (l0_3.length : Int) 2000).bind fun t136 => (if t136 = true then ((slices_ContainsFunc_api_Prod__bnf_long.f k l0_3 7000061).bind fun t137 => (bnf_May.j0 k t137 a0_0 a0_1 l0_2 l0_3)) else (bnf_May.j0 k true a0_0 a0_1 l0_2 l0_3))) else (bnf_May.j0 k true a0_0 a0_1 l0_2 l0_3))) = some r := by rw [if_pos rfl] at H; exact H
   clear H
   have H := H1
   clear H1
   replace H := Option.bind_eq_some_iff.mp H
   obtain ⟨t135, A60, H⟩ := H
   replace H : (if t135 = true then ((bnf_from1.f (l0_3.length : Int) 2000).bind fun t136 => (if t136 = true then ((slices_ContainsFunc_api_Prod__bnf_long.f k l0_3 7000061).bind fun t137 => (bnf_May.j0 k t137 a0_0 a0_1 l0_2 l0_3)) else (bnf_May.j0 k true a0_0 a0_1 l0_2 l0_3))) else (bnf_May.j0 k true a0_0 a0_1 l0_2 l0_3)) = some r := H
   have A6 := Aside0.mk A60
   clear A60
   by_cases c7 : t135 = true
   ·subst c7
    have H1 : ((bnf_from1.f (l0_3.length : Int) 2000).bind fun t136 => (if t136 = true then ((slices_ContainsFunc_api_Prod__bnf_long.f k l0_3 7000061).bind fun t137 => (bnf_May.j0 k t137 a0_0 a0_1 l0_2 l0_3)) else (bnf_May.j0 k true a0_0 a0_1 l0_2 l0_3))) = some r := by rw [if_pos rfl] at H; exact H
    clear H
    have H := H1
    clear H1
    replace H := Option.bind_eq_some_iff.mp H
    obtain ⟨t136, A80, H⟩ := H
    replace H : (if t136 = true then ((slices_ContainsFunc_api_Prod__bnf_long.f k l0_3 7000061).bind fun t137 => (bnf_May.j0 k t137 a0_0 a0_1 l0_2 l0_3)) else (bnf_May.j0 k true a0_0 a0_1 l0_2 l0_3)) = some r := H
    have A8 := Aside0.mk A80
    clear A80
    by_cases c9 : t136 = true
    ·subst c9
     have H1 : ((slices_ContainsFunc_api_Prod__bnf_long.f k l0_3 7000061).bind fun t137 => (bnf_May.j0 k t137 a0_0 a0_1 l0_2 l0_3)) = some r := by rw [if_pos rfl] at H; exact H
     clear H
     have H := H1
     clear H1
     replace H := Option.bind_eq_some_iff.mp H
     obtain ⟨t137, A100, H⟩ := H
     replace H : (bnf_May.j0 k t137 a0_0 a0_1 l0_2 l0_3) = some r := H
     have A10 := Aside0.mk A100
     clear A100
     have H' := Aside0.mk H
     clear H
     obtain ⟨ASz11_2, cSz11_2, ASz11_3, cSz11_3, HGz11, hgz11, ⟨HSz11_2, HTz11_2⟩, ⟨HSz11_3, HTz11_3⟩⟩ := HI133.out
     have hcz11_0 := cellS25_0 HGz11
     have hcz11_1 := cellS25_1 HGz11
     have hcz11_2 := cellS25_2 HGz11
     have hcz11_3 := cellS25_3 HGz11
     have hfz11_0 := blk_frozen HGz11 0
     have hfz11_1 := blk_frozen HGz11 1
     clear HGz11 hgz11
     go_wp2_with (first | ((with_reducible refine gate_callee (f := 59) rfl ?_); refine goesL_ (some 6) rfl rfl Try.func59 (by kernel_rfl) rfl #[.int .i64 a0_0, .int .i64 60] rfl (by (try simp only [List.map_toArray, List.map_cons, List.map_nil]); first | done | rfl | (simp only [List.length_drop, List.length_take]; rfl)) ?_; (with_reducible refine (bnf_from1.calls a0_0 60 true _ A4.out).mono ?_); rintro e w' ⟨rfl, ⟨nd, rfl⟩⟩; refine ⟨_, rfl, ?_⟩) | (go_at_call 59; (with_reducible refine (bnf_from1.calls (l0_2.length : Int) 500 true _ A6.out).mono ?_); rintro e w' ⟨rfl, ⟨nd, rfl⟩⟩; clear A6) | (go_at_call 59; (with_reducible refine (bnf_from1.calls (l0_3.length : Int) 2000 true _ A8.out).mono ?_); rintro e w' ⟨rfl, ⟨nd, rfl⟩⟩; clear A8) | (go_at_call 60; (with_reducible refine (slices_ContainsFunc_api_Prod__bnf_long.calls k _ _ l0_3 7000061 t137 _ ?side1 ?side2 A10.out).mono ?_); (case side1 => exact Kd.C_below HSz11_3 (by repeat (first | (with_reducible first | exact HB.out | apply below_alloc | apply pw_below_drewN | apply below_drew1 | refine below_set ?_ (IsS25.ge HI133.out)) | exact HB.out))); (case side2 => exact HTz11_3); rintro e w12 ⟨rfl, hb⟩; have n0_ := Aside0.mk (IsS25.below (by repeat (first | (with_reducible first | exact HI133.out | apply IsS25.alloc | apply IsS25.drewN | apply IsS25.drew | apply IsS25.set_0 | apply IsS25.set_1) | exact HI133.out)) hb); have n1_ := Aside0.mk (below_step (by repeat (first | (with_reducible first | exact HB.out | apply below_alloc | apply pw_below_drewN | apply below_drew1 | refine below_set ?_ (IsS25.ge HI133.out)) | exact HB.out)) hb); clear HI133; clear HB; have HI133 := n0_; have HB := n1_; clear n0_ n1_; (try clear hb); (try clear hb2); (try clear hk); (try clear hi)))
     go_meet
     case rel => exact ⟨_, (t137), (by first | rfl | (simp; done) | (simp [*]; done)), H', ⟨by first | omega | exact Nat.le_refl _⟩, ⟨by repeat (first | (with_reducible first | exact HI133.out | apply IsS25.alloc | apply IsS25.drewN | apply IsS25.drew | apply IsS25.set_0 | apply IsS25.set_1) | exact HI133.out)⟩, ⟨by repeat (first | (with_reducible first | exact HB.out | apply below_alloc | apply pw_below_drewN | apply below_drew1 | refine below_set ?_ (IsS25.ge HI133.out)) | exact HB.out)⟩⟩
    ·replace c9 := Bool.eq_false_iff.mpr c9
     subst c9
     have H1 : (bnf_May.j0 k true a0_0 a0_1 l0_2 l0_3) = some r := by rw [if_neg (show ¬ (false = true) by decide)] at H; exact H
     clear H
     have H := H1
     clear H1
     have H' := Aside0.mk H
     clear H
     obtain ⟨ASz13_2, cSz13_2, ASz13_3, cSz13_3, HGz13, hgz13, ⟨HSz13_2, HTz13_2⟩, ⟨HSz13_3, HTz13_3⟩⟩ := HI133.out
     have hcz13_0 := cellS25_0 HGz13
     have hcz13_1 := cellS25_1 HGz13
     have hcz13_2 := cellS25_2 HGz13
     have hcz13_3 := cellS25_3 HGz13
     have hfz13_0 := blk_frozen HGz13 0
     have hfz13_1 := blk_frozen HGz13 1
     clear HGz13 hgz13
     go_wp2_with (first | ((with_reducible refine gate_callee (f := 59) rfl ?_); refine goesL_ (some 6) rfl rfl Try.func59 (by kernel_rfl) rfl #[.int .i64 a0_0, .int .i64 60] rfl (by (try simp only [List.map_toArray, List.map_cons, List.map_nil]); first | done | rfl | (simp only [List.length_drop, List.length_take]; rfl)) ?_; (with_reducible refine (bnf_from1.calls a0_0 60 true _ A4.out).mono ?_); rintro e w' ⟨rfl, ⟨nd, rfl⟩⟩; refine ⟨_, rfl, ?_⟩) | (go_at_call 59; (with_reducible refine (bnf_from1.calls (l0_2.length : Int) 500 true _ A6.out).mono ?_); rintro e w' ⟨rfl, ⟨nd, rfl⟩⟩; clear A6) | (go_at_call 59; (with_reducible refine (bnf_from1.calls (l0_3.length : Int) 2000 false _ A8.out).mono ?_); rintro e w' ⟨rfl, ⟨nd, rfl⟩⟩; clear A8))
     go_meet
     case rel => exact ⟨_, (true), (by first | rfl | (simp; done) | (simp [*]; done)), H', ⟨by first | omega | exact Nat.le_refl _⟩, ⟨by repeat (first | (with_reducible first | exact HI133.out | apply IsS25.alloc | apply IsS25.drewN | apply IsS25.drew | apply IsS25.set_0 | apply IsS25.set_1) | exact HI133.out)⟩, ⟨by repeat (first | (with_reducible first | exact HB.out | apply below_alloc | apply pw_below_drewN | apply below_drew1 | refine below_set ?_ (IsS25.ge HI133.out)) | exact HB.out)⟩⟩
   ·replace c7 := Bool.eq_false_iff.mpr c7
    subst c7
    have H1 : (bnf_May.j0 k true a0_0 a0_1 l0_2 l0_3) = some r := by rw [if_neg (show ¬ (false = true) by decide)] at H; exact H
    clear H
    have H := H1
    clear H1
    have H' := Aside0.mk H
    clear H
    obtain ⟨ASz14_2, cSz14_2, ASz14_3, cSz14_3, HGz14, hgz14, ⟨HSz14_2, HTz14_2⟩, ⟨HSz14_3, HTz14_3⟩⟩ := HI133.out
    have hcz14_0 := cellS25_0 HGz14
    have hcz14_1 := cellS25_1 HGz14
    have hcz14_2 := cellS25_2 HGz14
    have hcz14_3 := cellS25_3 HGz14
    have hfz14_0 := blk_frozen HGz14 0
    have hfz14_1 := blk_frozen HGz14 1
    clear HGz14 hgz14
    go_wp2_with (first | ((with_reducible refine gate_callee (f := 59) rfl ?_); refine goesL_ (some 6) rfl rfl Try.func59 (by kernel_rfl) rfl #[.int .i64 a0_0, .int .i64 60] rfl (by (try simp only [List.map_toArray, List.map_cons, List.map_nil]); first | done | rfl | (simp only [List.length_drop, List.length_take]; rfl)) ?_; (with_reducible refine (bnf_from1.calls a0_0 60 true _ A4.out).mono ?_); rintro e w' ⟨rfl, ⟨nd, rfl⟩⟩; refine ⟨_, rfl, ?_⟩) | (go_at_call 59; (with_reducible refine (bnf_from1.calls (l0_2.length : Int) 500 false _ A6.out).mono ?_); rintro e w' ⟨rfl, ⟨nd, rfl⟩⟩))
    go_meet
    case rel => exact ⟨_, (true), (by first | rfl | (simp; done) | (simp [*]; done)), H', ⟨by first | omega | exact Nat.le_refl _⟩, ⟨by repeat (first | (with_reducible first | exact HI133.out | apply IsS25.alloc | apply IsS25.drewN | apply IsS25.drew | apply IsS25.set_0 | apply IsS25.set_1) | exact HI133.out)⟩, ⟨by repeat (first | (with_reducible first | exact HB.out | apply below_alloc | apply pw_below_drewN | apply below_drew1 | refine below_set ?_ (IsS25.ge HI133.out)) | exact HB.out)⟩⟩
  ·replace c5 := Bool.eq_false_iff.mpr c5
   subst c5
   have H1 : (bnf_May.j0 k true a0_0 a0_1 l0_2 l0_3) = some r := by rw [if_neg (show ¬ (false = true) by decide)] at H; exact H
   clear H
   have H := H1
   clear H1
   have H' := Aside0.mk H
   clear H
   obtain ⟨ASz15_2, cSz15_2, ASz15_3, cSz15_3, HGz15, hgz15, ⟨HSz15_2, HTz15_2⟩, ⟨HSz15_3, HTz15_3⟩⟩ := HI133.out
   have hcz15_0 := cellS25_0 HGz15
   have hcz15_1 := cellS25_1 HGz15
   have hcz15_2 := cellS25_2 HGz15
   have hcz15_3 := cellS25_3 HGz15
   have hfz15_0 := blk_frozen HGz15 0
   have hfz15_1 := blk_frozen HGz15 1
   clear HGz15 hgz15
   go_wp2_with (first | ((with_reducible refine gate_callee (f := 59) rfl ?_); refine goesL_ (some 6) rfl rfl Try.func59 (by kernel_rfl) rfl #[.int .i64 a0_0, .int .i64 60] rfl (by (try simp only [List.map_toArray, List.map_cons, List.map_nil]); first | done | rfl | (simp only [List.length_drop, List.length_take]; rfl)) ?_; (with_reducible refine (bnf_from1.calls a0_0 60 false _ A4.out).mono ?_); rintro e w' ⟨rfl, ⟨nd, rfl⟩⟩; refine ⟨_, rfl, ?_⟩))
   go_meet
   case rel => exact ⟨_, (true), (by first | rfl | (simp; done) | (simp [*]; done)), H', ⟨by first | omega | exact Nat.le_refl _⟩, ⟨by repeat (first | (with_reducible first | exact HI133.out | apply IsS25.alloc | apply IsS25.drewN | apply IsS25.drew | apply IsS25.set_0 | apply IsS25.set_1) | exact HI133.out)⟩, ⟨by repeat (first | (with_reducible first | exact HB.out | apply below_alloc | apply pw_below_drewN | apply below_drew1 | refine below_set ?_ (IsS25.ge HI133.out)) | exact HB.out)⟩⟩
 case rest =>
  clear HC2
  try clear p2
  try clear c3
  try clear c5
  try clear c7
  try clear c9
  try clear hcz11_0
  try clear hcz11_1
  try clear hcz11_2
  try clear hcz11_3
  try clear hcz13_0
  try clear hcz13_1
  try clear hcz13_2
  try clear hcz13_3
  try clear hcz14_0
  try clear hcz14_1
  try clear hcz14_2
  try clear hcz14_3
  try clear hcz15_0
  try clear hcz15_1
  try clear hcz15_2
  try clear hcz15_3
  try clear hfz11_0
  try clear hfz11_1
  try clear hfz13_0
  try clear hfz13_1
  try clear hfz14_0
  try clear hfz14_1
  try clear hfz15_0
  try clear hfz15_1
  obtain ⟨kq, x3_1, rfl, HA, HJ1, HI133, HB⟩ := hcut
  cases kq with
  | zero => exact absurd HA.out (by simp [bnf_May.j0])
  | succ kj1 =>
   have H := HA.out
   clear HA
   simp only [bnf_May.j0] at H
   by_cases c16 : x3_1 = true
   ·subst c16
    have H1 : (some 8) = some r := by rw [if_pos rfl] at H; exact H
    clear H
    have H := H1
    clear H1
    obtain rfl := Option.some.inj H
    go_wp2
    go_ret
    exact ⟨by first | rfl | (simp [errW_none, errW_some] <;> rfl) | (simp [*, errW_none, errW_some] <;> rfl), by repeat (first | (with_reducible first | exact HB.out | apply below_alloc | apply pw_below_drewN | apply below_drew1 | refine below_set ?_ (IsS25.ge HI133.out)) | exact HB.out)⟩
   ·replace c16 := Bool.eq_false_iff.mpr c16
    subst c16
    have H1 : ((bnf_from1.f a0_1 4).bind fun t138 => (if t138 = true then ((slices_ContainsFunc_api_Prod__bnf_May_1.f kj1 l0_3 a0_0 a0_1 l0_2 l0_3).bind fun bt139 => (if bt139.1 = true then (some 4) else (some 0))) else (some 11))) = some r := by rw [if_neg (show ¬ (false = true) by decide)] at H; exact H
    clear H
    have H := H1
    clear H1
    replace H := Option.bind_eq_some_iff.mp H
    obtain ⟨t138, A170, H⟩ := H
    replace H : (if t138 = true then ((slices_ContainsFunc_api_Prod__bnf_May_1.f kj1 l0_3 a0_0 a0_1 l0_2 l0_3).bind fun bt139 => (if bt139.1 = true then (some 4) else (some 0))) else (some 11)) = some r := H
    have A17 := Aside0.mk A170
    clear A170
    by_cases c18 : t138 = true
    ·subst c18
     have H1 : ((slices_ContainsFunc_api_Prod__bnf_May_1.f kj1 l0_3 a0_0 a0_1 l0_2 l0_3).bind fun bt139 => (if bt139.1 = true then (some 4) else (some 0))) = some r := by rw [if_pos rfl] at H; exact H
     clear H
     have H := H1
     clear H1
     replace H := Option.bind_eq_some_iff.mp H
     obtain ⟨⟨t139, t140, t141⟩, A190, H⟩ := H
     replace H : (if t139 = true then (some 4) else (some 0)) = some r := H
     have A19 := Aside0.mk A190
     clear A190
     by_cases c20 : t139 = true
     ·subst c20
      have H1 : (some 4) = some r := by rw [if_pos rfl] at H; exact H
      clear H
      have H := H1
      clear H1
      obtain rfl := Option.some.inj H
      obtain ⟨ASz21_2, cSz21_2, ASz21_3, cSz21_3, HGz21, hgz21, ⟨HSz21_2, HTz21_2⟩, ⟨HSz21_3, HTz21_3⟩⟩ := HI133.out
      have hcz21_0 := cellS25_0 HGz21
      have hcz21_1 := cellS25_1 HGz21
      have hcz21_2 := cellS25_2 HGz21
      have hcz21_3 := cellS25_3 HGz21
      have hfz21_0 := blk_frozen HGz21 0
      have hfz21_1 := blk_frozen HGz21 1
      clear HGz21 hgz21
      go_wp2_with (first | ((with_reducible refine gate_callee (f := 59) rfl ?_); refine goesL_ (some 30) rfl rfl Try.func59 (by kernel_rfl) rfl #[.int .i64 a0_1, .int .i64 4] rfl (by (try simp only [List.map_toArray, List.map_cons, List.map_nil]); first | done | rfl | (simp only [List.length_drop, List.length_take]; rfl)) ?_; (with_reducible refine (bnf_from1.calls a0_1 4 true _ A17.out).mono ?_); rintro e w' ⟨rfl, ⟨nd, rfl⟩⟩; refine ⟨_, rfl, ?_⟩) | ((with_reducible refine gate_callee (f := 60) rfl ?_); refine goesL_ (some 36) rfl rfl Try.func60 (by kernel_rfl) rfl #[(.slice ASz21_3 l0_3.length cSz21_3), .func (.func 62) #[] #[.pointer (some ⟨gb133, 0, none⟩)]] rfl (by (try simp only [List.map_toArray, List.map_cons, List.map_nil]); first | done | rfl | (simp only [List.length_drop, List.length_take]; rfl)) ?_; (with_reducible refine (slices_ContainsFunc_api_Prod__bnf_May_1.calls kj1 _ _ l0_3 gb133 a0_0 a0_1 l0_2 l0_3 true t140 t141 w _ ?side1 ?side2 ?side3 ?side4 A19.out).mono ?_); (case side1 => repeat (first | (with_reducible first | exact HI133.out | apply IsS25.alloc | apply IsS25.drewN | apply IsS25.drew | apply IsS25.set_0 | apply IsS25.set_1) | exact HI133.out)); (case side2 => repeat (first | (with_reducible first | exact HB.out | apply below_alloc | apply pw_below_drewN | apply below_drew1 | refine below_set ?_ (IsS25.ge HI133.out)) | exact HB.out)); (case side3 => exact Kd.C_foot_came k61_heap HSz21_3 (by repeat (first | (with_reducible first | exact HB.out | apply below_alloc | apply pw_below_drewN | apply below_drew1 | refine below_set ?_ (IsS25.ge HI133.out)) | exact HB.out)) (IsS25.ge HI133.out)); (case side4 => exact HTz21_3); rintro e w22 ⟨rfl, hi, hb, hk⟩; refine ⟨_, rfl, ?_⟩; have n0_ := Aside0.mk (hb); have n1_ := Aside0.mk (hi); clear HB; clear HI133; have HB := n0_; have HI133 := n1_; clear n0_ n1_; (try clear hb); (try clear hb2); (try clear hk); (try clear hi)))
      go_ret
      exact ⟨by first | rfl | (simp [errW_none, errW_some] <;> rfl) | (simp [*, errW_none, errW_some] <;> rfl), by repeat (first | (with_reducible first | exact HB.out | apply below_alloc | apply pw_below_drewN | apply below_drew1 | refine below_set ?_ (IsS25.ge HI133.out)) | exact HB.out)⟩
     ·replace c20 := Bool.eq_false_iff.mpr c20
      subst c20
      have H1 : (some 0) = some r := by rw [if_neg (show ¬ (false = true) by decide)] at H; exact H
      clear H
      have H := H1
      clear H1
      obtain rfl := Option.some.inj H
      obtain ⟨ASz23_2, cSz23_2, ASz23_3, cSz23_3, HGz23, hgz23, ⟨HSz23_2, HTz23_2⟩, ⟨HSz23_3, HTz23_3⟩⟩ := HI133.out
      have hcz23_0 := cellS25_0 HGz23
      have hcz23_1 := cellS25_1 HGz23
      have hcz23_2 := cellS25_2 HGz23
      have hcz23_3 := cellS25_3 HGz23
      have hfz23_0 := blk_frozen HGz23 0
      have hfz23_1 := blk_frozen HGz23 1
      clear HGz23 hgz23
      go_wp2_with (first | ((with_reducible refine gate_callee (f := 59) rfl ?_); refine goesL_ (some 30) rfl rfl Try.func59 (by kernel_rfl) rfl #[.int .i64 a0_1, .int .i64 4] rfl (by (try simp only [List.map_toArray, List.map_cons, List.map_nil]); first | done | rfl | (simp only [List.length_drop, List.length_take]; rfl)) ?_; (with_reducible refine (bnf_from1.calls a0_1 4 true _ A17.out).mono ?_); rintro e w' ⟨rfl, ⟨nd, rfl⟩⟩; refine ⟨_, rfl, ?_⟩) | ((with_reducible refine gate_callee (f := 60) rfl ?_); refine goesL_ (some 36) rfl rfl Try.func60 (by kernel_rfl) rfl #[(.slice ASz23_3 l0_3.length cSz23_3), .func (.func 62) #[] #[.pointer (some ⟨gb133, 0, none⟩)]] rfl (by (try simp only [List.map_toArray, List.map_cons, List.map_nil]); first | done | rfl | (simp only [List.length_drop, List.length_take]; rfl)) ?_; (with_reducible refine (slices_ContainsFunc_api_Prod__bnf_May_1.calls kj1 _ _ l0_3 gb133 a0_0 a0_1 l0_2 l0_3 false t140 t141 w _ ?side1 ?side2 ?side3 ?side4 A19.out).mono ?_); (case side1 => repeat (first | (with_reducible first | exact HI133.out | apply IsS25.alloc | apply IsS25.drewN | apply IsS25.drew | apply IsS25.set_0 | apply IsS25.set_1) | exact HI133.out)); (case side2 => repeat (first | (with_reducible first | exact HB.out | apply below_alloc | apply pw_below_drewN | apply below_drew1 | refine below_set ?_ (IsS25.ge HI133.out)) | exact HB.out)); (case side3 => exact Kd.C_foot_came k61_heap HSz23_3 (by repeat (first | (with_reducible first | exact HB.out | apply below_alloc | apply pw_below_drewN | apply below_drew1 | refine below_set ?_ (IsS25.ge HI133.out)) | exact HB.out)) (IsS25.ge HI133.out)); (case side4 => exact HTz23_3); rintro e w24 ⟨rfl, hi, hb, hk⟩; refine ⟨_, rfl, ?_⟩; have n0_ := Aside0.mk (hb); have n1_ := Aside0.mk (hi); clear HB; clear HI133; have HB := n0_; have HI133 := n1_; clear n0_ n1_; (try clear hb); (try clear hb2); (try clear hk); (try clear hi)))
      go_ret
      exact ⟨by first | rfl | (simp [errW_none, errW_some] <;> rfl) | (simp [*, errW_none, errW_some] <;> rfl), by repeat (first | (with_reducible first | exact HB.out | apply below_alloc | apply pw_below_drewN | apply below_drew1 | refine below_set ?_ (IsS25.ge HI133.out)) | exact HB.out)⟩
    ·replace c18 := Bool.eq_false_iff.mpr c18
     subst c18
     have H1 : (some 11) = some r := by rw [if_neg (show ¬ (false = true) by decide)] at H; exact H
     clear H
     have H := H1
     clear H1
     obtain rfl := Option.some.inj H
     obtain ⟨ASz25_2, cSz25_2, ASz25_3, cSz25_3, HGz25, hgz25, ⟨HSz25_2, HTz25_2⟩, ⟨HSz25_3, HTz25_3⟩⟩ := HI133.out
     have hcz25_0 := cellS25_0 HGz25
     have hcz25_1 := cellS25_1 HGz25
     have hcz25_2 := cellS25_2 HGz25
     have hcz25_3 := cellS25_3 HGz25
     have hfz25_0 := blk_frozen HGz25 0
     have hfz25_1 := blk_frozen HGz25 1
     clear HGz25 hgz25
     go_wp2_with (first | ((with_reducible refine gate_callee (f := 59) rfl ?_); refine goesL_ (some 30) rfl rfl Try.func59 (by kernel_rfl) rfl #[.int .i64 a0_1, .int .i64 4] rfl (by (try simp only [List.map_toArray, List.map_cons, List.map_nil]); first | done | rfl | (simp only [List.length_drop, List.length_take]; rfl)) ?_; (with_reducible refine (bnf_from1.calls a0_1 4 false _ A17.out).mono ?_); rintro e w' ⟨rfl, ⟨nd, rfl⟩⟩; refine ⟨_, rfl, ?_⟩))
     go_ret
     exact ⟨by first | rfl | (simp [errW_none, errW_some] <;> rfl) | (simp [*, errW_none, errW_some] <;> rfl), by repeat (first | (with_reducible first | exact HB.out | apply below_alloc | apply pw_below_drewN | apply below_drew1 | refine below_set ?_ (IsS25.ge HI133.out)) | exact HB.out)⟩
section
open Go.Sort Go.Plus
def pack_set_string.keys (l : List ByteArray) : List Txt := l.map (·.data.toList)
def pack_set_string.texts (l : List Txt) : List ByteArray := l.map fun t => ⟨t.toArray⟩
theorem pack_set_string.enc_texts (l : List Txt) : (pack_set_string.texts l).map Value.string = l.map encStr := by unfold pack_set_string.texts; rw [List.map_map]; rfl
theorem pack_set_string.enc_keys (l : List ByteArray) : l.map Value.string = (pack_set_string.keys l).map encStr := by
 unfold pack_set_string.keys
 rw [List.map_map]
 exact List.map_congr_left fun x _ => by simp [encStr]
def pack_set_string.f (l0 : List ByteArray) : Option (List ByteArray) := if l0.length * 16 ≤ 140737488355328 then some (pack_set_string.texts (tset (pack_set_string.keys l0))) else none
theorem pack_set_string.add_at (b off j : Nat) : (⟨b, off, none⟩ : Addr).add j = ⟨b, off + j, none⟩ := by unfold Addr.add; split <;> simp_all
theorem pack_set_string.grow_none (w : World) : grow w #[] = w := by cases w; simp [grow]
theorem pack_set_string.spot {w : World} {a : Addr} {v : Value} (h : w.cell? a = some v) : a = ⟨a.block, a.off, none⟩ := by
 obtain ⟨b, o, s⟩ := a
 cases s with
 | none => rfl
 | some s => unfold World.cell? at h; split at h <;> simp at h
theorem pack_set_string.own_cut {w : World} {base g cap m : Nat} {e : TypeId} {cur : Array Value} {ts : List Txt} (hbase : base ≤ g) (hb : w.heap[g]? = some (.cells cur e (0, 0))) (h1 : m ≤ cap) (h2 : cap ≤ maxLen) (h3 : cur.size = cap) (hm : ts.length = m) (h4 : cur.toList.take m = ts.map encStr) :
  w.ownsRow base e 1 (.slice (some ⟨g, 0, none⟩) m cap) m (ts.map encStr) :=
 ⟨by simp [hm], .inr ⟨g, cap, cur, rfl, hbase, hb, h1, h2, by omega, by rw [Nat.mul_one]; exact h4⟩⟩
set_option maxHeartbeats 8000000 in
set_option maxRecDepth 100000 in
theorem pack_set_string.calls (A0 : Option Addr) (c0 : Nat) (l0 : List ByteArray) (r : List ByteArray) (w : World) (hr0 : Kd.C Kd.string w A0 l0.length l0) (hc0 : l0.length ≤ c0) (h : pack_set_string.f l0 = some r) :
  Calls Try.prog 76 #[.slice A0 l0.length c0] w fun e w' => ∃ v0_ : Value, e = .returned v0_ ∧ Kd.R Kd.string 9 w' w.heap.size (fun _ => True) v0_ r ∧ Below w.heap.size w w' := by
 unfold pack_set_string.f at h
 split at h
 case isFalse => cases h
 rename_i hsz
 obtain rfl := Option.some.inj h
 clear h
 rcases Nat.eq_zero_or_pos l0.length with h0 | h0
 ·obtain rfl : l0 = [] := List.eq_nil_of_length_eq_zero h0
  have hcl : Calls Try.prog 99 #[.slice A0 0 c0] w fun e w' => ∃ A1 c1, e = .returned (.slice A1 0 c1) ∧ Kd.R Kd.string 9 w' w.heap.size (fun _ => True) (.slice A1 0 c1) [] ∧ Below w.heap.size w w' := by
   cases A0 with
   | none => exact (Try.slices_Clone_string_nil 0 c0 w).mono fun e w' ⟨he, hw⟩ => ⟨none, 0, he, hw ▸ Kd.R_nil _ _ _ _ _, hw ▸ Below.refl _ _⟩
   | some a =>
    refine (Try.slices_Clone_string_zero a c0 w).mono fun e w' ⟨v', he, ho, _, hb⟩ => ?_
    have hR : Kd.R Kd.string 9 w' w.heap.size (fun _ => True) v' [] := Kd.R_of_own (enc := Value.string) (h1 := fun _ => rfl) ho (fun _ _ => trivial)
    obtain ⟨A1, c1, rfl⟩ := Kd.R_slice hR
    exact ⟨A1, c1, he, hR, hb⟩
  have hR0 : pack_set_string.texts (tset (pack_set_string.keys [])) = [] := by rw [show pack_set_string.keys [] = [] from rfl, tset_of_rises rises_nil]; rfl
  rw [hR0]
  go_enter Try.func76, Try.ntmps76
  go_wp2_with (first
   | (go_at_call 99; refine hcl.mono ?_; rintro e w1 ⟨A1, c1, rfl, hR, hb⟩)
   | (go_at_call 100; refine (Try.slices_Sort_string_none A1 c1 _).mono ?_; rintro e w2 ⟨rfl, rfl⟩)
   | (go_at_call 101; refine (Try.slices_Compact_string_empty A1 c1 _).mono ?_; rintro e w3 ⟨rfl, rfl⟩)
   | go_in)
  go_ret
  exact ⟨_, rfl, hR, hb⟩
 ·obtain ⟨ad, rfl, hcells⟩ := (Kd.reads_of_C (enc := Value.string) (d := ByteArray.empty) (h1 := fun _ => rfl) hr0).2.2 h0
  have hk : (pack_set_string.keys l0).length = l0.length := by simp [pack_set_string.keys]
  have hsp := pack_set_string.spot (hcells 0 h0)
  obtain ⟨b, off, rfl⟩ : ∃ b off, ad = ⟨b, off, none⟩ := by
   have e : ad.add 0 = ad := by simp [Addr.add]
   rw [e] at hsp
   exact ⟨_, _, hsp⟩
  have hc : ∀ j, j < l0.length → w.cell? ⟨b, off + j, none⟩ = some (.string (l0.getD j ByteArray.empty)) := fun j hj => by
   have := hcells j hj
   rwa [pack_set_string.add_at] at this
  have hlen : l0.length ≤ 8796093022208 := by omega
  have hcl : Calls Try.prog 99 #[.slice (some ⟨b, off, none⟩) l0.length c0] w fun e w' => ∃ g cap cur, e = .returned (.slice (some ⟨g, 0, none⟩) l0.length cap) ∧ w.heap.size ≤ g ∧ w'.heap[g]? = some (.cells cur 9 (0, 0)) ∧ l0.length ≤ cap ∧ cap ≤ maxLen ∧ cur.size = cap ∧ cur.toList.take l0.length = (pack_set_string.keys l0).map encStr ∧ Below w.heap.size w w' := by
   refine (Try.slices_Clone_string b off l0.length c0 l0 w (Nat.le_refl _) hsz hc).mono fun e w' ⟨v', he, ho, hne, hb⟩ => ?_
   rcases ho.2 with ⟨hnil, _⟩ | ⟨g, cap, cur, rfl, hbase, hbk, h1, h2, h3, h4⟩
   ·exact absurd hnil hne
   ·refine ⟨g, cap, cur, he, hbase, hbk, h1, h2, by omega, ?_, hb⟩
    rw [Nat.mul_one, List.take_length, pack_set_string.enc_keys] at h4
    exact h4
  have hso : ∀ g cap cur w1, w1.heap[g]? = some (.cells cur 9 (0, 0)) → l0.length ≤ cap → cur.size = cap → cur.toList.take l0.length = (pack_set_string.keys l0).map encStr →
    Calls Try.prog 100 #[.slice (some ⟨g, 0, none⟩) l0.length cap] w1 fun e w' => e = .returned (.tuple #[]) ∧ ∃ cur', w'.heap[g]? = some (.cells cur' 9 (0, 0)) ∧ cur'.size = cap ∧ cur'.toList.take l0.length = ((pack_set_string.keys l0).mergeSort fun x y => decide (x ≤ y)).map encStr ∧ w1.grownBy w' (some g) := by
   intro g cap cur w1 hbk h1 h3 h4
   have hgl : g < w1.heap.size := (Array.getElem?_eq_some_iff.1 hbk).1
   have hh := Try.slices_Sort_string g 0 cap (pack_set_string.keys l0) w1 (holds_of_block hbk (by rw [hk]; exact h4)) hgl (by rw [hk]; omega)
   rw [hk] at hh
   refine hh.mono fun e w' ⟨he, n, os, hw⟩ => ⟨he, ?_⟩
   subst hw
   have hl : ((pack_set_string.keys l0).mergeSort fun x y => decide (x ≤ y)).length = l0.length := by rw [List.length_mergeSort, hk]
   refine ⟨_, heap_sorted _ hbk, by simp [putCells, h3], ?_, grownBy_sorted _⟩
   rw [← hl]
   exact take_putCells cur _ (by omega)
  have hco : ∀ g cap cur w1, w1.heap[g]? = some (.cells cur 9 (0, 0)) → l0.length ≤ cap → cur.size = cap → cur.toList.take l0.length = ((pack_set_string.keys l0).mergeSort fun x y => decide (x ≤ y)).map encStr →
    Calls Try.prog 101 #[.slice (some ⟨g, 0, none⟩) l0.length cap] w1 fun e w' => ∃ cur', e = .returned (.slice (some ⟨g, 0, none⟩) (tset (pack_set_string.keys l0)).length cap) ∧ w'.heap[g]? = some (.cells cur' 9 (0, 0)) ∧ cur'.size = cap ∧ cur'.toList.take (tset (pack_set_string.keys l0)).length = (tset (pack_set_string.keys l0)).map encStr ∧ w1.grownBy w' (some g) := by
   intro g cap cur w1 hbk h1 h3 h4
   have hl : ((pack_set_string.keys l0).mergeSort fun x y => decide (x ≤ y)).length = l0.length := by rw [List.length_mergeSort, hk]
   have hh := Try.slices_Compact_string g 0 cap ((pack_set_string.keys l0).mergeSort fun x y => decide (x ≤ y)) w1 (holds_of_block hbk (by rw [hl]; exact h4)) (by rw [hl]; omega) (by rw [hl]; omega)
   rw [hl] at hh
   refine hh.mono fun e w' ⟨he, q, hw⟩ => ?_
   have hts : Lib.compact ((pack_set_string.keys l0).mergeSort fun x y => decide (x ≤ y)) = tset (pack_set_string.keys l0) := rfl
   rw [hts] at he hw
   have hm : (tset (pack_set_string.keys l0)).length ≤ l0.length := by rw [← hk]; exact tset_length_le _
   have hg0 : w' = grow (putRow encStr (Sort.ahead w1 q) g 0 (tset (pack_set_string.keys l0) ++ List.replicate (l0.length - (tset (pack_set_string.keys l0)).length) []).toArray) #[] := by rw [hw, pack_set_string.grow_none]
   have hlt : (tset (pack_set_string.keys l0) ++ List.replicate (l0.length - (tset (pack_set_string.keys l0)).length) []).length = l0.length := by simp; omega
   have htk := take_putCells cur (tset (pack_set_string.keys l0) ++ List.replicate (l0.length - (tset (pack_set_string.keys l0)).length) []) (by omega)
   rw [hlt] at htk
   refine ⟨putCells encStr 0 (tset (pack_set_string.keys l0) ++ List.replicate (l0.length - (tset (pack_set_string.keys l0)).length) []).toArray cur, he, by rw [hg0]; exact heap_sorted _ hbk, by simp [putCells, h3], ?_, by rw [hg0]; exact grownBy_sorted _⟩
   have := congrArg (List.take (tset (pack_set_string.keys l0)).length) htk
   rw [List.take_take, Nat.min_eq_left hm, List.map_append, List.take_left' (by simp)] at this
   exact this
  have hm : (tset (pack_set_string.keys l0)).length ≤ l0.length := by rw [← hk]; exact tset_length_le _
  clear hcells hr0 hsp
  have HCL := Plus.Kept.mk hcl
  have HSO := Plus.Kept.mk hso
  have HCO := Plus.Kept.mk hco
  clear hcl hso hco hc
  go_enter Try.func76, Try.ntmps76
  go_wp2_with (first
   | (go_at_call 99; refine HCL.out.mono ?_; rintro e w1 ⟨g, cap, cur, rfl, hge, hbk1, h1, h2, h3, h4, hb1⟩)
   | (go_at_call 100; refine (HSO.out g cap cur w1 hbk1 h1 h3 h4).mono ?_; rintro e w2 ⟨rfl, cur2, hbk2, h32, h42, hg2⟩)
   | (go_at_call 101; refine (HCO.out g cap cur2 w2 hbk2 h1 h32 h42).mono ?_; rintro e w3 ⟨cur3, rfl, hbk3, h33, h43, hg3⟩)
   | go_in)
  go_ret
  have hown := pack_set_string.own_cut (base := w.heap.size) hge hbk3 (Nat.le_trans hm h1) h2 h33 rfl h43
  rw [← pack_set_string.enc_texts] at hown
  refine ⟨_, rfl, Kd.R_of_own (enc := Value.string) (h1 := fun _ => rfl) ?_ (fun _ _ => trivial), ?_⟩
  ·have e : (pack_set_string.texts (tset (pack_set_string.keys l0))).length = (tset (pack_set_string.keys l0)).length := by simp [pack_set_string.texts]
   rw [e]; exact hown
  ·have b2 := hb1.grown hg2 hb1.size (fun j hj => by cases hj; exact hge)
   exact b2.grown hg3 b2.size (fun j hj => by cases hj; exact hge)
end
theorem pack_Join.grow (n : Nat) (w : World) (hn : n * 16 ≤ 140737488355328) :
  Calls Try.prog 102 #[.slice none 0 0, .int .i64 (n : Int)] w fun e w' => ∃ v, e = .returned v ∧ Kd.R Kd.string 9 w' w.heap.size (fun _ => True) v [] ∧ Below w.heap.size w w' := by
 rcases Nat.eq_zero_or_pos n with h0 | h0
 ·subst h0
  go_enter Try.func102, Try.ntmps102
  go_wp2
  go_ret
  exact ⟨_, rfl, Kd.R_nil _ _ _ _ _, Below.refl _ _⟩
 ·obtain ⟨i0, hi, hz0, hz1, hz2⟩ := info_parts info9
  have hw : wrap64 (n : Int) = (n : Int) := by unfold wrap64; omega
  have hp0 : (0 < n) = True := eq_true h0
  have hp1 : decide (0 < n) = true := decide_eq_true h0
  have hp2 : decide ((0 : Int) < (n : Int)) = true := decide_eq_true (by omega)
  have hp3 : decide ((n : Int) < 0) = false := decide_eq_false (by omega)
  have hp4 : ((n : Int) < 0) = False := eq_false (by omega)
  have happ := Lib.run_append_nil_zeros (P := Try.prog) w 27 3 27 9 i0 (.string ⟨#[]⟩) .i64 .i64 Try.underlying27 Try.underlying3 hi hz0 n h0 (by omega) (by omega) (by rw [hz2]; omega)
  have HAPP := Plus.Kept.mk happ
  clear happ
  go_enter Try.func102, Try.ntmps102
  go_wp2_with (first
   | (at_builtin; refine Lib.wpList_append_run _ rfl _ _ _ _ rfl _ _ rfl rfl _ _ HAPP.out ?_)
   | go_in)
  go_ret
  refine ⟨_, rfl, Kd.R_of_own (enc := Value.string) (h1 := fun _ => rfl) ?_ (fun _ _ => trivial), ((Below.refl _ _).drew).alloc (Nat.le_refl _) _⟩
  have hg := grownCap_ge w n 0 9
  refine pack_set_string.own_cut (ts := []) (Nat.le_refl _) (heap_alloc_new w.drew _) (Nat.zero_le _) (grownCap_le_maxLen w n 0 9 (by unfold maxLen; omega)) ?_ rfl rfl
  rw [Array.size_append, size_zeroCells, size_zeroCells]
  show n * 1 + (grownCap w n 0 9 - n) * 1 = _
  omega
set_option maxHeartbeats 8000000 in
set_option maxRecDepth 100000 in
theorem pack_Join.concat (g : Nat) (A0 : Option Addr) (c0 : Nat) (l0 : List ByteArray) (A1 : Option Addr) (c1 : Nat) (l1 : List ByteArray) (w : World) (hr0 : Kd.C Kd.string w A0 l0.length l0) (hr1 : Kd.C Kd.string w A1 l1.length l1)
  (hx0 : w.cell? ⟨g, 0, none⟩ = some (.slice A0 l0.length c0)) (hx1 : w.cell? ⟨g, 1, none⟩ = some (.slice A1 l1.length c1)) (hsz : (l0.length + l1.length) * 16 ≤ 140737488355328) :
  Calls Try.prog 77 #[.slice (some ⟨g, 0, none⟩) 2 2] w fun e w' => ∃ v, e = .returned v ∧ Kd.R Kd.string 9 w' w.heap.size (fun _ => True) v (l0 ++ l1) ∧ Below w.heap.size w w' := by
 have HR0 := Plus.Kept.mk hr0
 have HR1 := Plus.Kept.mk hr1
 have HX0 := Plus.Kept.mk hx0
 have HX1 := Plus.Kept.mk hx1
 obtain ⟨i0, hi, hz0, hz1, hz2⟩ := info_parts info9
 clear hr0 hr1
 go_enter Try.func77, Try.ntmps77
 go_wp2
 go_loopw [3, 11] (fun v3 v11 wr => wr = w ∧ ((v3 = .int .i64 0 ∧ v11 = .int .i64 0) ∨ (v3 = .int .i64 (l0.length : Int) ∧ v11 = .int .i64 1) ∨ (v3 = .int .i64 ((l0.length + l1.length : Nat) : Int) ∧ v11 = .int .i64 2)))
  (fun _ v11 _ => 2 - (Plus.intOf v11).toNat)
 case atStart => exact ⟨rfl, .inl ⟨rfl, rfl⟩⟩
 case round =>
  obtain ⟨hww, hcase⟩ := hrel
  obtain rfl : w = wr := hww.symm
  rcases hcase with ⟨rfl, rfl⟩ | ⟨rfl, rfl⟩ | ⟨rfl, rfl⟩
  ·have hw : wrap64 (l0.length : Int) = (l0.length : Int) := by unfold wrap64; omega
   go_wp2
   go_roundw
   case rel => exact ⟨by trivial, .inr (.inl ⟨rfl, rfl⟩)⟩
   case measure => simp [Plus.intOf]
  ·have hw : wrap64 ((l0.length : Int) + (l1.length : Int)) = ((l0.length + l1.length : Nat) : Int) := by unfold wrap64; omega
   have hn : decide (((l0.length + l1.length : Nat) : Int) < 0) = false := decide_eq_false (by omega)
   have hn2 : (((l0.length + l1.length : Nat) : Int) < 0) = False := eq_false (by omega)
   go_wp2
   go_roundw
   case rel => exact ⟨by trivial, .inr (.inr ⟨rfl, rfl⟩)⟩
   case measure => simp [Plus.intOf]
  ·have hgr : Calls Try.prog 102 #[.slice none 0 0, .int .i64 ((l0.length : Int) + (l1.length : Int))] w fun e w' => ∃ v, e = .returned v ∧ Kd.R Kd.string 9 w' w.heap.size (fun _ => True) v [] ∧ Below w.heap.size w w' := pack_Join.grow (l0.length + l1.length) w hsz
   have HGR := Plus.Kept.mk hgr
   clear hgr
   go_wp2_with (first | (go_at_call 102; refine HGR.out.mono ?_; rintro e w1 ⟨v, rfl, hR, hb⟩) | go_in)
   go_loopw [6, 27] (fun v6 v27 w2 => ∃ xs, Plus.Kept (Kd.R Kd.string 9 w2 w.heap.size (fun _ => True) v6 xs) ∧ Plus.Kept (Below w.heap.size w w2) ∧ ((xs = [] ∧ v27 = .int .i64 0) ∨ (xs = l0 ∧ v27 = .int .i64 1) ∨ (xs = l0 ++ l1 ∧ v27 = .int .i64 2)))
    (fun _ v27 _ => 2 - (Plus.intOf v27).toNat)
   case atStart => exact ⟨[], ⟨hR⟩, ⟨hb⟩, .inl ⟨rfl, rfl⟩⟩
   case round =>
    obtain ⟨xs, HR, HB, hcase⟩ := hrel
    obtain ⟨Av, cv, rfl⟩ := Kd.R_slice HR.out
    have hb0 : wr.cell? ⟨g, 0, none⟩ = some (.slice A0 l0.length c0) := (HB.out.cell (World.block_lt_of_cell? _ _ HX0.out)).trans HX0.out
    have hb1 : wr.cell? ⟨g, 1, none⟩ = some (.slice A1 l1.length c1) := (HB.out.cell (World.block_lt_of_cell? _ _ HX1.out)).trans HX1.out
    rcases hcase with ⟨rfl, rfl⟩ | ⟨rfl, rfl⟩ | ⟨rfl, rfl⟩
    ·have HL := Plus.Kept.mk (show (([] : List ByteArray).length + l0.length) * 16 ≤ 140737488355328 by simp; omega)
     go_wp2_with (first | (at_builtin; refine Kd.R_append_row Value.string ByteArray.empty (w0 := w) w.heap.size rfl (.tmp 31) (.tmp 32) 27 9 (.string ⟨#[]⟩) 16 rfl Try.underlying27 info9 rfl (by decide) _ [] l0 A0 l0.length c0 (fun _ => True) rfl rfl (fun _ _ => trivial) HR.out (Kd.C_below HR0.out HB.out) HB.out HB.out.size HL.out ?_; intro v1 w3 hR1 hB1 _ _) | go_in)
     go_roundw
     case rel => exact ⟨_, ⟨hR1⟩, ⟨hB1⟩, .inr (.inl ⟨rfl, rfl⟩)⟩
     case measure => simp [Plus.intOf]
    ·have HL := Plus.Kept.mk hsz
     go_wp2_with (first | (at_builtin; refine Kd.R_append_row Value.string ByteArray.empty (w0 := w) w.heap.size rfl (.tmp 31) (.tmp 32) 27 9 (.string ⟨#[]⟩) 16 rfl Try.underlying27 info9 rfl (by decide) _ xs l1 A1 l1.length c1 (fun _ => True) rfl rfl (fun _ _ => trivial) HR.out (Kd.C_below HR1.out HB.out) HB.out HB.out.size HL.out ?_; intro v1 w3 hR1 hB1 _ _) | go_in)
     go_roundw
     case rel => exact ⟨_, ⟨hR1⟩, ⟨hB1⟩, .inr (.inr ⟨rfl, rfl⟩)⟩
     case measure => simp [Plus.intOf]
    ·go_wp2
     go_ret
     exact ⟨_, rfl, HR.out, HB.out⟩
theorem pack_Join.cell_new (w : World) (cs : Array Value) (t : TypeId) (j : Nat) (v : Value) (h : cs[j]? = some v) : (w.alloc (.cells cs t (0, 0))).cell? ⟨w.heap.size, j, none⟩ = some v := by
 unfold World.cell?
 rw [blk_new]
 exact h
def pack_Join.f (l0 l1 : List ByteArray) : Option (List ByteArray) := if (l0.length + l1.length) * 16 ≤ 140737488355328 then pack_set_string.f (l0 ++ l1) else none
set_option maxHeartbeats 8000000 in
set_option maxRecDepth 100000 in
theorem pack_Join.calls (A0 : Option Addr) (c0 : Nat) (l0 : List ByteArray) (A1 : Option Addr) (c1 : Nat) (l1 : List ByteArray) (r : List ByteArray) (w : World) (hr0 : Kd.C Kd.string w A0 l0.length l0) (hc0 : l0.length ≤ c0) (hr1 : Kd.C Kd.string w A1 l1.length l1) (hc1 : l1.length ≤ c1) (h : pack_Join.f l0 l1 = some r) :
  Calls Try.prog 43 #[.slice A0 l0.length c0, .slice A1 l1.length c1] w fun e w' => ∃ v0_ : Value, e = .returned v0_ ∧ Kd.R Kd.string 9 w' w.heap.size (fun _ => True) v0_ r ∧ Below w.heap.size w w' := by
 have HR0 := Plus.Kept.mk hr0
 have HR1 := Plus.Kept.mk hr1
 clear hr0 hr1
 unfold pack_Join.f at h
 split at h
 case isFalse => cases h
 rename_i hsz
 have H := Plus.Kept.mk h
 clear h
 go_enter Try.func43, Try.ntmps43
 go_wp2_with (first
  | (go_at_call 77; refine (pack_Join.concat w.heap.size A0 c0 l0 A1 c1 l1 _ (Kd.C_alloc HR0.out _) (Kd.C_alloc HR1.out _) (pack_Join.cell_new _ _ _ _ _ rfl) (pack_Join.cell_new _ _ _ _ _ rfl) hsz).mono ?_; rintro e w1 ⟨v, rfl, hR, hb⟩; obtain ⟨Av, cv, rfl, hlc, hC⟩ := Kd.R_reads hR)
  | (go_at_call 76; have hst := pack_set_string.calls Av cv (l0 ++ l1) r w1 hC hlc H.out; rw [List.length_append] at hst; refine hst.mono ?_; rintro e w2 ⟨v2, rfl, hR2, hb2⟩)
  | go_in)
 go_ret
 have hB1 := ((Below.refl w.heap.size w).alloc (Nat.le_refl _) (.cells #[.slice A0 l0.length c0, .slice A1 l1.length c1] 27 (0, 0)))
 have hB2 := below_step hB1 hb
 exact ⟨_, rfl, Kd.R_lower hR2 hB2.size, below_step hB2 hb2⟩
def tuple_Cat.f (a0 : ByteArray) (a1 : ByteArray) (a2 : Int) : Option (ByteArray) := if (a0.size : Int) ≥ a2 then (if 0 ≤ (mx a2 0) then (if (mx a2 0) ≤ (a0.size : Int) then (some (a0.extract 0 ((mx a2 0) : Int).toNat)) else (none)) else (none)) else (if 0 ≤ (mn (wrap64 (a2 - (a0.size : Int))) (a1.size : Int)) then (if (mn (wrap64 (a2 - (a0.size : Int))) (a1.size : Int)) ≤ (a1.size : Int) then (if a0.size + (a1.extract 0 ((mn (wrap64 (a2 - (a0.size : Int))) (a1.size : Int)) : Int).toNat).size ≤ 9223372036854775807 then (some (a0 ++ (a1.extract 0 ((mn (wrap64 (a2 - (a0.size : Int))) (a1.size : Int)) : Int).toNat))) else (none)) else (none)) else (none))
set_option maxHeartbeats 8000000 in
set_option maxRecDepth 100000 in
theorem tuple_Cat.calls (a0 : ByteArray) (a1 : ByteArray) (a2 : Int) (r : ByteArray) (w : World) (h : tuple_Cat.f a0 a1 a2 = some r) :
  Calls Try.prog 78 #[.string a0, .string a1, .int .i64 a2] w fun e w' => e = .returned (.string r) ∧ Below w.heap.size w w' := by
 have HB := Aside0.mk (Below.refl w.heap.size w)
 have H : (if (a0.size : Int) ≥ a2 then (if 0 ≤ (mx a2 0) then (if (mx a2 0) ≤ (a0.size : Int) then (some (a0.extract 0 ((mx a2 0) : Int).toNat)) else (none)) else (none)) else (if 0 ≤ (mn (wrap64 (a2 - (a0.size : Int))) (a1.size : Int)) then (if (mn (wrap64 (a2 - (a0.size : Int))) (a1.size : Int)) ≤ (a1.size : Int) then (if a0.size + (a1.extract 0 ((mn (wrap64 (a2 - (a0.size : Int))) (a1.size : Int)) : Int).toNat).size ≤ 9223372036854775807 then (some (a0 ++ (a1.extract 0 ((mn (wrap64 (a2 - (a0.size : Int))) (a1.size : Int)) : Int).toNat))) else (none)) else (none)) else (none))) = some r := h
 clear h
 by_cases c4 : (a0.size : Int) ≥ a2
 ·rw [if_pos c4] at H
  have c4b0 : decide (a2 ≤ (a0.size : Int)) = true := decide_eq_true c4
  clear c4
  obtain ⟨ji5, hji5⟩ : ∃ j_ : Int, (mx a2 0) = j_ := ⟨_, rfl⟩
  replace H : (if 0 ≤ (ji5) then (if (ji5) ≤ (a0.size : Int) then (some (a0.extract 0 ((ji5) : Int).toNat)) else (none)) else (none)) = some r := by first | (rw [hji5] at H; exact H) | (simp only [hji5] at H ⊢; exact H)
  (try (have hji5l : 0 ≤ ji5 := by (rw [← hji5]; unfold mx; (repeat' split) <;> omega)))
  (try (have hji5m : 0 ≤ ji5 := by omega))
  have hji5_ : (if a2 < 0 then 0 else a2) = ji5 := hji5
  by_cases c6 : 0 ≤ (ji5)
  ·rw [if_pos c6] at H
   have c6b0 := eq_true c6
   have c6b1 : decide (0 ≤ (ji5)) = true := decide_eq_true c6
   clear c6
   by_cases c7 : (ji5) ≤ (a0.size : Int)
   ·rw [if_pos c7] at H
    have c7b0 := eq_true c7
    have c7b1 : decide ((ji5) ≤ (a0.size : Int)) = true := decide_eq_true c7
    clear c7
    obtain rfl := Option.some.inj H
    go_enter Try.func78, Try.ntmps78
    go_wp2
    go_ret
    exact ⟨by first | rfl | (simp [errW_none, errW_some] <;> rfl) | (simp only [← hji5]; first | rfl | (simp [errW_none, errW_some] <;> rfl)) | (simp [*, errW_none, errW_some] <;> rfl), by repeat (first | (with_reducible first | exact HB.out | apply below_alloc | apply pw_below_drewN | apply below_drew1) | exact HB.out)⟩
   ·rw [if_neg c7] at H
    exact absurd H (by simp)
  ·rw [if_neg c6] at H
   exact absurd H (by simp)
 ·rw [if_neg c4] at H
  have c4b0 : decide (a2 ≤ (a0.size : Int)) = false := decide_eq_false c4
  clear c4
  obtain ⟨ji8, hji8⟩ : ∃ j_ : Int, (mn (wrap64 (a2 - (a0.size : Int))) (a1.size : Int)) = j_ := ⟨_, rfl⟩
  replace H : (if 0 ≤ (ji8) then (if (ji8) ≤ (a1.size : Int) then (if a0.size + (a1.extract 0 ((ji8) : Int).toNat).size ≤ 9223372036854775807 then (some (a0 ++ (a1.extract 0 ((ji8) : Int).toNat))) else (none)) else (none)) else (none)) = some r := by first | (rw [hji8] at H; exact H) | (simp only [hji8] at H ⊢; exact H)
  have hji8_ : (if (a1.size : Int) < (wrap64 (a2 - (a0.size : Int))) then (a1.size : Int) else (wrap64 (a2 - (a0.size : Int)))) = ji8 := hji8
  by_cases c9 : 0 ≤ (ji8)
  ·rw [if_pos c9] at H
   have c9b0 := eq_true c9
   have c9b1 : decide (0 ≤ (ji8)) = true := decide_eq_true c9
   clear c9
   by_cases c10 : (ji8) ≤ (a1.size : Int)
   ·rw [if_pos c10] at H
    have c10b0 := eq_true c10
    have c10b1 : decide ((ji8) ≤ (a1.size : Int)) = true := decide_eq_true c10
    clear c10
    by_cases c11 : a0.size + (a1.extract 0 ((ji8) : Int).toNat).size ≤ 9223372036854775807
    ·rw [if_pos c11] at H
     have c11b0 := eq_true c11
     have c11b1 : decide (a0.size + (a1.extract 0 ((ji8) : Int).toNat).size ≤ 9223372036854775807) = true := decide_eq_true c11
     try have c11b2 : (9223372036854775807 < a0.size + (a1.extract 0 ((ji8) : Int).toNat).size) = False := eq_false (Nat.not_lt.2 c11)
     obtain rfl := Option.some.inj H
     go_enter Try.func78, Try.ntmps78
     go_wp2
     go_ret
     exact ⟨by first | rfl | (simp [errW_none, errW_some] <;> rfl) | (simp only [← hji8]; first | rfl | (simp [errW_none, errW_some] <;> rfl)) | (simp [*, errW_none, errW_some] <;> rfl), by repeat (first | (with_reducible first | exact HB.out | apply below_alloc | apply pw_below_drewN | apply below_drew1) | exact HB.out)⟩
    ·rw [if_neg c11] at H
     exact absurd H (by simp)
   ·rw [if_neg c10] at H
    exact absurd H (by simp)
  ·rw [if_neg c9] at H
   exact absurd H (by simp)
end Go.Proofs.Ytnihlieggknpaaa.HFollowWhole
