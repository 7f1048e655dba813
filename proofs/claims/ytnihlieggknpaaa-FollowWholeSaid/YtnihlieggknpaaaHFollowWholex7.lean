-- Written by plus.py for this claim.
import Derived.Test.YtnihlieggknpaaaHFollowWholex0
import Derived.Test.YtnihlieggknpaaaHFollowWholex1
import Derived.Test.YtnihlieggknpaaaHFollowWholex2
import Derived.Test.YtnihlieggknpaaaHFollowWholex3
import Derived.Test.YtnihlieggknpaaaHFollowWholex4
import Derived.Test.YtnihlieggknpaaaHFollowWholex6
namespace Go.Proofs.Ytnihlieggknpaaa.HFollowWhole
open Go.RowKit Go.Proofs.YtnihlieggknpaaaW.PrintWords Go.Proofs.YtnihlieggknpaaaW.PrintLast Go.Proofs.YtnihlieggknpaaaW.PrintMore
attribute [local go_sem] max2_int min2_int max_two min_two max_three min_three max_four min_four   -- for this text's walks alone
set_option linter.unusedVariables false
set_option linter.unusedSimpArgs false
set_option maxHeartbeats 8000000 in
set_option maxRecDepth 100000 in
theorem follow_Of.grow_calls (k : Nat) (gq gb gs n cap : Nat) (kk : Int) (sets : List (List ByteArray)) (x : S79) (Ax : Option Addr) (cx : Nat) (c j : List ByteArray) (w0 w : World)
  (hb : Below w0.heap.size w0 w) (hq : w.cell? ⟨gq, 0, none⟩ = some (.slice (some ⟨gs, 0, none⟩) n cap)) (hk : w.cell? ⟨gb, 1, none⟩ = some (.int .i64 kk)) (hqs : gq ≠ gs) (hbs : gb ≠ gs) (hge : w0.heap.size ≤ gs)
  (hS : Kd.S (Kd.slice 9 Kd.string) 27 w w0.heap.size (fun _ => True) (.slice (some ⟨gs, 0, none⟩) n cap) sets) (hx : Kd.C Kd.string w Ax x.f2.length x.f2) (hxc : x.f2.length ≤ cx)
  (h0 : 0 ≤ x.f0 ∧ x.f0 < (sets.length : Int)) (h1 : 0 ≤ x.f1 ∧ x.f1 < (sets.length : Int)) (hc : pack_Cat.f k x.f2 (rd_L6 sets x.f1) kk = some c) (hj : pack_Join.f (rd_L6 sets x.f0) c = some j) :
  Calls Try.prog 42 #[.agg #[.int .i64 x.f0, .int .i64 x.f1, .slice Ax x.f2.length cx], .pointer (some ⟨gq, 0, none⟩), .pointer (some ⟨gb, 0, none⟩)] w fun e w' => e = .returned (.tuple #[.bool (decide ((rd_L6 sets x.f0).length < j.length)), .bool (decide ((j.length : Int) ≤ 600))]) ∧ Kd.S (Kd.slice 9 Kd.string) 27 w' w0.heap.size (fun _ => True) (.slice (some ⟨gs, 0, none⟩) n cap) (sets.set x.f0.toNat j) ∧ KeepBut w w' gs none ∧ Below w0.heap.size w0 w' := by
 have hn := (Kd.S_reads' hS).1
 obtain ⟨ad0, A0, c0, e0, hy0, hyl0, hyr0⟩ := at_L6 (Kd.S_reads' hS).2.2 x.f0 h0.1 h0.2
 obtain rfl : (⟨gs, 0, none⟩ : Addr) = ad0 := by injection e0
 obtain ⟨ad1, A1, c1, e1, hy1, hyl1, hyr1⟩ := at_L6 (Kd.S_reads' hS).2.2 x.f1 h1.1 h1.2
 obtain rfl : (⟨gs, 0, none⟩ : Addr) = ad1 := by injection e1
 have HQ := Aside0.mk hq
 have HK := Aside0.mk hk
 have HY0 := Aside0.mk hy0
 have HY1 := Aside0.mk hy1
 have HYR0 := Aside0.mk hyr0
 have HYR1 := Aside0.mk hyr1
 have HYL0 := Aside0.mk hyl0
 have HYL1 := Aside0.mk hyl1
 have HX := Aside0.mk hx
 have HXC := Aside0.mk hxc
 have HS := Aside0.mk hS
 have HB := Aside0.mk hb
 have HC := Aside0.mk hc
 have HJ := Aside0.mk hj
 have HN := Aside0.mk hn
 have P0 := Aside0.mk h0.1
 have Q0 := Aside0.mk (show x.f0 < (n : Int) by rw [hn]; exact h0.2)
 have P1 := Aside0.mk h1.1
 have Q1 := Aside0.mk (show x.f1 < (n : Int) by rw [hn]; exact h1.2)
 have hu79 := Try.underlying79
 clear hq hk hy0 hy1 hyr0 hyr1 hyl0 hyl1 hx hxc hS hb hc hj hn h0 h1 e0 e1
 go_enter Try.func42, Try.ntmps42
 go_wp2
 refine Plus.hide_world fun W1 hW1 => ?_
 have hb1 : Below w.heap.size w W1 := by rw [← hW1.out]; exact below_alloc (Below.refl _ _) _
 have z0 : W1.cell? ⟨w.heap.size, 0, none⟩ = some (.int .i64 x.f0) := by rw [← hW1.out]; exact blk_cell (blk_new _ _) 0
 have z1 : W1.cell? ⟨w.heap.size, 1, none⟩ = some (.int .i64 x.f1) := by rw [← hW1.out]; exact blk_cell (blk_new _ _) 1
 have z2 : W1.cell? ⟨w.heap.size, 2, none⟩ = some (.slice Ax x.f2.length cx) := by rw [← hW1.out]; exact blk_cell (blk_new _ _) 2
 have y0 := (hb1.cell (World.block_lt_of_cell? _ _ HY0.out)).trans HY0.out
 have y1 := (hb1.cell (World.block_lt_of_cell? _ _ HY1.out)).trans HY1.out
 have kq := (hb1.cell (World.block_lt_of_cell? _ _ HQ.out)).trans HQ.out
 have kb := (hb1.cell (World.block_lt_of_cell? _ _ HK.out)).trans HK.out
 try simp only [add_plain] at y0 y1
 have p0 := eq_true P0.out
 have q0 := eq_true Q0.out
 have p1 := eq_true P1.out
 have q1 := eq_true Q1.out
 have HB1 := Aside0.mk hb1
 have L0 := World.block_lt_of_cell? _ _ z0
 have LQ := World.block_lt_of_cell? _ _ kq
 have LB := World.block_lt_of_cell? _ _ kb
 have LS := World.block_lt_of_cell? _ _ y0
 clear hb1 hW1
 have HKEEP := Aside0.mk (show ∀ V : World, Below W1.heap.size W1 V → V.cell? ⟨gq, 0, none⟩ = some (.slice (some ⟨gs, 0, none⟩) n cap) ∧ V.cell? ⟨w.heap.size, 0, none⟩ = some (.int .i64 x.f0) ∧ V.cell? ⟨w.heap.size, 1, none⟩ = some (.int .i64 x.f1) ∧ V.cell? ⟨w.heap.size, 2, none⟩ = some (.slice Ax x.f2.length cx) ∧ V.cell? ⟨gs, x.f0.toNat, none⟩ = some (.slice A0 (rd_L6 sets x.f0).length c0) ∧ V.cell? ⟨gs, x.f1.toNat, none⟩ = some (.slice A1 (rd_L6 sets x.f1).length c1) ∧ V.cell? ⟨gb, 1, none⟩ = some (.int .i64 kk) from fun V hv => ⟨(hv.cell LQ).trans kq, (hv.cell L0).trans z0, (hv.cell (World.block_lt_of_cell? _ _ z1)).trans z1, (hv.cell (World.block_lt_of_cell? _ _ z2)).trans z2, (hv.cell LS).trans y0, (hv.cell (World.block_lt_of_cell? _ _ y1)).trans y1, (hv.cell LB).trans kb⟩)
 clear L0 LQ LB LS
 go_region_held3 (fun V => V.cell? ⟨gq, 0, none⟩ = some (.slice (some ⟨gs, 0, none⟩) n cap) ∧ V.cell? ⟨w.heap.size, 0, none⟩ = some (.int .i64 x.f0) ∧ V.cell? ⟨w.heap.size, 1, none⟩ = some (.int .i64 x.f1) ∧ V.cell? ⟨w.heap.size, 2, none⟩ = some (.slice Ax x.f2.length cx) ∧ V.cell? ⟨gs, x.f0.toNat, none⟩ = some (.slice A0 (rd_L6 sets x.f0).length c0) ∧ V.cell? ⟨gs, x.f1.toNat, none⟩ = some (.slice A1 (rd_L6 sets x.f1).length c1) ∧ V.cell? ⟨gb, 1, none⟩ = some (.int .i64 kk))
  (first | go_keep | exact HKEEP.out _ hb7 | exact HKEEP.out _ hb8)
  (first
   | (go_at_call 44; refine (pack_Cat.calls k Ax cx x.f2 A1 c1 (rd_L6 sets x.f1) kk c _ (Kd.C_drew (Kd.C_below HX.out HB1.out)) HXC.out (Kd.C_drew (Kd.C_below HYR1.out HB1.out)) HYL1.out HC.out).mono ?_; rintro e w7 ⟨v7, rfl, hR7, hb7⟩; replace hb7 : Below W1.heap.size W1 w7 := below_step (below_drew1 (Below.refl W1.heap.size W1)) hb7; obtain ⟨A7, c7, e7⟩ := Kd.R_slice hR7; subst e7)
   | (go_at_call 43; refine (pack_Join.calls A0 c0 (rd_L6 sets x.f0) A7 c7 c j w7 (Kd.C_below (Kd.C_below HYR0.out HB1.out) hb7) HYL0.out (Kd.R_reads' hR7).2.2 (Kd.R_reads' hR7).2.1 HJ.out).mono ?_; rintro e w8 ⟨v8, rfl, hR8, hb8⟩; replace hb8 : Below W1.heap.size W1 w8 := below_step hb7 hb8; obtain ⟨A8, c8, e8⟩ := Kd.R_slice hR8; subst e8))
 obtain ⟨kq8, z08, z18, z28, y08, y18, kb8⟩ := HKEEP.out _ hb8
 have HB8 := Aside0.mk hb8
 have hge2 : w0.heap.size ≤ W1.heap.size := Nat.le_trans HB.out.size HB1.out.size
 have hput := first_Of.put_row (W0 := W1) hge2 (Kd.S_below HS.out HB1.out) hb8 (Kd.R_lower hR8 hb7.size) x.f0 P0.out Q0.out
 have hfz := (first_Of.put_ok (Kd.S_below (Kd.S_below HS.out HB1.out) hb8) x.f0 P0.out Q0.out).1
 have HP1 := Aside0.mk hput.1
 have HP2 := Aside0.mk hput.2
 have HQ8 := Aside0.mk (KeepBut.of_below (below_step HB1.out hb8) gs none)
 have HW8 := Aside0.mk (below_step HB.out (below_step HB1.out hb8))
 clear hb7 hb8 hR7 hR8 kq z0 z1 z2 y0 y1 kb HKEEP hput hge2
 go_wp2
 go_ret2
 exact ⟨rfl, HP1.out, KeepBut.trans HQ8.out ⟨HP2.out.size, fun i hi hg _ => HP2.out.block i hi (fun e => hg (Option.some.inj e))⟩ (.inl rfl), below_set HW8.out hge⟩
def follow_Of.round (k : Nat) (kk : Int) : List S79 → List (List ByteArray) → Bool → Option (List (List ByteArray) × Bool × Bool)
 | [], sets, more => some (sets, more, true)
 | x :: xs, sets, more => if (0 ≤ x.f0 ∧ x.f0 < (sets.length : Int)) ∧ (0 ≤ x.f1 ∧ x.f1 < (sets.length : Int)) then (pack_Cat.f k x.f2 (rd_L6 sets x.f1) kk).bind fun c => (pack_Join.f (rd_L6 sets x.f0) c).bind fun j => if (j.length : Int) ≤ 600 then follow_Of.round k kk xs (sets.set x.f0.toNat j) (more || decide ((rd_L6 sets x.f0).length < j.length)) else some ([], false, false) else none
def follow_Of.loop (k : Nat) (kk : Int) (xs : List S79) : Nat → List (List ByteArray) → Option (Option (List (List ByteArray)))
 | 0, _ => none
 | q + 1, sets => (follow_Of.round k kk xs sets false).bind fun x => if x.2.2 = false then some none else if x.2.1 = false then some (some x.1) else follow_Of.loop k kk xs q x.1
def follow_Of.f (k : Nat) (a0_0 a0_1 : Int) (l0_2 : List Int) (l0_3 : List S61) : Option (List (List ByteArray) × Int) :=
 (follow_links.f k a0_0 a0_1 l0_2 l0_3).bind fun x => if x.2 = 0 then (if 0 < l0_2.length ∧ l0_2.length ≤ 1000000 ∧ x.1.length ≤ 1000000000 then (strings_Repeat.f (⟨#[0]⟩ : ByteArray) a0_1).bind fun z => (follow_Of.loop k a0_1 x.1 k ((List.replicate l0_2.length []).set 0 [z])).bind fun y => match y with | none => some ([], 15) | some s => some (s, 0) else none) else some ([], x.2)
theorem follow_Of.round_mono (k : Nat) (kk : Int) : ∀ xs sets m, LeO (follow_Of.round k kk xs sets m) (follow_Of.round (k + 1) kk xs sets m)
 | [], _, _ => LeO.refl _
 | x :: xs, sets, m => by
  unfold follow_Of.round
  by_cases h0 : (0 ≤ x.f0 ∧ x.f0 < (sets.length : Int)) ∧ (0 ≤ x.f1 ∧ x.f1 < (sets.length : Int))
  ·simp only [if_pos h0]
   refine LeO.bind (pack_Cat.mono _ _ _ _) (fun c => LeO.bind (LeO.refl _) (fun j => ?_))
   by_cases h1 : (j.length : Int) ≤ 600
   ·simp only [if_pos h1]; exact follow_Of.round_mono k kk xs _ _
   ·simp only [if_neg h1]; exact LeO.refl _
  ·simp only [if_neg h0]; exact LeO.refl _
theorem follow_Of.loop_mono (k : Nat) (kk : Int) (xs : List S79) : ∀ q sets, LeO (follow_Of.loop k kk xs q sets) (follow_Of.loop (k + 1) kk xs q sets)
 | 0, _ => LeO.refl _
 | q + 1, sets => LeO.bind (follow_Of.round_mono k kk _ _ _) (fun x => by
   by_cases h1 : x.2.2 = false
   ·simp only [if_pos h1]; exact LeO.refl _
   ·simp only [if_neg h1]
    by_cases h2 : x.2.1 = false
    ·simp only [if_pos h2]; exact LeO.refl _
    ·simp only [if_neg h2]; exact follow_Of.loop_mono k kk xs q x.1)
theorem follow_Of.loop_mono2 (k : Nat) (kk : Int) (xs : List S79) : ∀ q sets, LeO (follow_Of.loop k kk xs q sets) (follow_Of.loop k kk xs (q + 1) sets)
 | 0, _ => fun _ h => by cases h
 | q + 1, sets => LeO.bind (LeO.refl _) (fun x => by
   by_cases h1 : x.2.2 = false
   ·simp only [if_pos h1]; exact LeO.refl _
   ·simp only [if_neg h1]
    by_cases h2 : x.2.1 = false
    ·simp only [if_pos h2]; exact LeO.refl _
    ·simp only [if_neg h2]; exact follow_Of.loop_mono2 k kk xs q x.1)
theorem follow_Of.mono : ∀ a b c d k, LeO (follow_Of.f k a b c d) (follow_Of.f (k + 1) a b c d) := by
 intro a b c d k
 unfold follow_Of.f
 refine LeO.bind (follow_links.mono _ _ _ _ _) (fun x => ?_)
 by_cases h0 : x.2 = 0
 ·simp only [if_pos h0]
  by_cases h1 : 0 < c.length ∧ c.length ≤ 1000000 ∧ x.1.length ≤ 1000000000
  ·simp only [if_pos h1]
   exact LeO.bind (LeO.refl _) (fun z => LeO.bind (fun r h => follow_Of.loop_mono2 _ _ _ _ _ _ (follow_Of.loop_mono _ _ _ _ _ _ h)) (fun _ => LeO.refl _))
  ·simp only [if_neg h1]; exact LeO.refl _
 ·simp only [if_neg h0]; exact LeO.refl _
theorem follow_Of.rd_cons {s : S79} {l : List S79} {xs : List S79} {i : Nat} (h : xs.drop i = s :: l) : i < xs.length ∧ rd_T79 xs (i : Int) = s ∧ xs.drop (i + 1) = l := by
 have hi : i < xs.length := by
  rcases Nat.lt_or_ge i xs.length with h1 | h1
  ·exact h1
  ·rw [List.drop_of_length_le h1] at h; cases h
 rw [List.drop_eq_getElem_cons hi] at h
 injection h with h1 h2
 refine ⟨hi, ?_, h2⟩
 rw [← h1]
 unfold rd_T79
 simp [List.getD_eq_getElem?_getD, hi]
def follow_Of.T5 : Bool × List (List Nat × List Nat) := (true, [([], []), ([], []), ([1], [1]), ([2], [2]), ([3], [3]), ([0, 0, 1, 2, 3, 4], [0]), ([5, 4, 3, 0, 1, 2, 3, 4], [4, 5])])
def follow_Of.B5 : List Nat := [0, 0, 2, 6, 14, 31, 63]
theorem follow_Of.tab5 : rtab .any (opsOf Try.f18 5) = follow_Of.T5 := by kernel_rfl
theorem follow_Of.bits5 : waitsOk follow_Of.T5.2 follow_Of.B5 = true := by kernel_rfl
set_option maxHeartbeats 8000000 in
set_option maxRecDepth 100000 in
theorem follow_Of.calls (k : Nat) (a0_0 a0_1 : Int) (A2 : Option Addr) (c2 : Nat) (l0_2 : List Int) (A3 : Option Addr) (c3 : Nat) (l0_3 : List S61) (r1 : List (List ByteArray)) (r2 : Int) (w : World)
  (hr2 : Kd.C (Kd.int .i64) w A2 l0_2.length l0_2) (hc2 : l0_2.length ≤ c2) (hr3 : Kd.C k61 w A3 l0_3.length l0_3) (hc3 : l0_3.length ≤ c3) (h : follow_Of.f k a0_0 a0_1 l0_2 l0_3 = some (r1, r2)) :
  Calls Try.prog 18 #[.agg #[.int .i64 a0_0, .int .i64 a0_1, .slice A2 l0_2.length c2, .slice A3 l0_3.length c3]] w fun e w' => ∃ v0_ : Value, e = .returned (.tuple #[v0_, .int .i64 r2]) ∧ Kd.S (Kd.slice 9 Kd.string) 27 w' w.heap.size (fun _ => True) v0_ r1 ∧ Below w.heap.size w w' := by
 obtain ⟨⟨x1, x2⟩, hx, ha⟩ := Option.bind_eq_some_iff.mp h
 have HX := Aside0.mk hx
 have HR2 := Aside0.mk hr2
 have HC2 := Aside0.mk hc2
 have HR3 := Aside0.mk hr3
 have HC3 := Aside0.mk hc3
 have hu := Try.underlying25
 have hu79 := Try.underlying79
 by_cases h0 : x2 = 0
 ·subst h0
  rw [if_pos rfl] at ha
  by_cases hs : 0 < l0_2.length ∧ l0_2.length ≤ 1000000 ∧ x1.length ≤ 1000000000
  ·rw [if_pos hs] at ha
   obtain ⟨z, hz, ha⟩ := Option.bind_eq_some_iff.mp ha
   obtain ⟨y, hy, ha⟩ := Option.bind_eq_some_iff.mp ha
   have HZ := Aside0.mk hz
   have HY := Aside0.mk hy
   have HA := Aside0.mk ha
   have HS := Aside0.mk hs
   clear h ha hx hz hy hs hr2 hr3 hc2 hc3
   go_enter Try.func18, Try.ntmps18
   go_wp2_with fail
   refine (follow_links.calls k a0_0 a0_1 A2 c2 l0_2 A3 c3 l0_3 x1 0 _ (Kd.C_alloc HR2.out _) HC2.out (Kd.C_alloc HR3.out _) HC3.out HX.out).mono ?_
   rintro e w1 ⟨v1, rfl, hS1, hb1⟩
   have q0 := (hb1.cell (p := ⟨w.heap.size, 0, none⟩) (by simp)).trans (blk_cell (blk_new _ _) 0)
   have q1 := (hb1.cell (p := ⟨w.heap.size, 1, none⟩) (by simp)).trans (blk_cell (blk_new _ _) 1)
   have q2 := (hb1.cell (p := ⟨w.heap.size, 2, none⟩) (by simp)).trans (blk_cell (blk_new _ _) 2)
   have q3 := (hb1.cell (p := ⟨w.heap.size, 3, none⟩) (by simp)).trans (blk_cell (blk_new _ _) 3)
   have HB1 := Aside0.mk (below_step (below_alloc (Below.refl w.heap.size w) _) hb1)
   obtain ⟨Al, cl, el⟩ := Kd.S_slice hS1
   subst el
   have HL := Aside0.mk (Kd.S_reads' hS1).2.2
   clear hb1 hS1
   obtain ⟨cz, hcz⟩ : ∃ cz, cz = madeCells (Value.slice none 0 0).cells (l0_2.length * 1) := ⟨_, rfl⟩
   have hmk := fun V => first_Of.run_made V l0_2.length HS.out.2.1 cz hcz
   have HCZ := Aside0.mk hcz
   clear hcz
   go_wp2
   refine Plus.hide_world fun W2 hW2 => ?_
   have hb2 : Below w1.heap.size w1 W2 := by rw [← hW2.out]; repeat (first | exact Below.refl _ _ | apply pw_below_drewN | apply below_drew1 | apply below_alloc | refine below_set ?_ (Nat.le_succ _))
   have hb3 : Below (w1.alloc (.cells cz 27 (0, 0))).heap.size (w1.alloc (.cells cz 27 (0, 0))) W2 := by rw [← hW2.out]; repeat (first | exact Below.refl _ _ | apply pw_below_drewN | apply below_drew1 | apply below_alloc | refine below_set ?_ (by simp))
   have c6 : W2.cell? ⟨w1.heap.size + 1, 0, none⟩ = some (.slice (some ⟨w1.heap.size, 0, none⟩) l0_2.length l0_2.length) := by
    rw [← hW2.out, show w1.heap.size + 1 = (w1.alloc (.cells cz 27 (0, 0))).heap.size from by simp]
    exact blk_cell (blk_new _ _) 0
   have HS2 := Aside0.mk (Kd.S_below (first_Of.made_S w1 l0_2.length HS.out.2.1 cz HCZ.out) hb3)
   have c1 := (hb2.cell (World.block_lt_of_cell? _ _ q1)).trans q1
   have hw2 : w1.heap.size ≤ W2.heap.size := hb2.size
   have HB2 := Aside0.mk hb2
   have P0 := Aside0.mk (show (0 : Int) < (l0_2.length : Int) by have := HS.out.1; omega)
   have p0 := eq_true P0.out
   have p0n := eq_true HS.out.1
   have HC6 := Aside0.mk c6
   have HC1 := Aside0.mk c1
   have HQ1 := Aside0.mk q1
   clear hb2 hb3 hW2 q0 q1 q2 q3 hmk HCZ
   clear c6 c1
   refine start_ (n := 7) (S := fun w' => w'.cell? ⟨w1.heap.size + 1, 0, none⟩ = some (.slice (some ⟨w1.heap.size, 0, none⟩) l0_2.length l0_2.length) ∧ w'.cell? ⟨w.heap.size, 1, none⟩ = some (.int .i64 a0_1)) (ds := [6]) #[false, false, false, false, false, false, false] (by kernel_rfl) rfl rfl ⟨(show W2.drew.cell? _ = _ from HC6.out), (show W2.drew.cell? _ = _ from HC1.out)⟩ (fun hHeld => ?_)
   refine with_tabW follow_Of.tab5 follow_Of.bits5 (fun HT_ HW_ => ?_)
   refine pure_ (i := 1) (N := some 26) (v := ?_) (a' := ?_) #[false, true, false, false, false, false, false] rfl rfl (any_of HT_.out (by kernel_rfl)) (fun _ _ _ h => h) (Or.inl ⟨by rfl, ?_⟩) ?_ ?_
   rotate_left
   ·intro w'
    go_simp
    with_reducible rfl
   rotate_left
   ·simp only [Act.put, List.setIfInBounds_toArray, List.set_cons_zero, List.set_cons_succ, i64_w, i32_w]
    rfl
   refine take_ (i := 0) (N := some 25) (v := ?_) (a' := ?_) #[true, true, false, false, false, false, false] rfl rfl (take_ofW HT_.out HW_.out (by kernel_rfl)) (fun _ _ _ h => h) (Or.inl ⟨by rfl, ?_⟩) hHeld ?_ ?_
   rotate_left
   ·rintro w' ⟨s0, s1⟩
    go_simp
    with_reducible rfl
   rotate_left
   ·simp only [Act.put, List.setIfInBounds_toArray, List.set_cons_zero, List.set_cons_succ, i64_w, i32_w]
    rfl
   refine take_ (i := 2) (N := some 27) (v := ?_) (a' := ?_) #[true, true, true, false, false, false, false] rfl rfl (take_ofW HT_.out HW_.out (by kernel_rfl)) (fun _ _ _ h => h) (Or.inl ⟨by rfl, ?_⟩) hHeld ?_ ?_
   rotate_left
   ·rintro w' ⟨s0, s1⟩
    go_simp
    with_reducible rfl
   rotate_left
   ·simp only [Act.put, List.setIfInBounds_toArray, List.set_cons_zero, List.set_cons_succ, i64_w, i32_w]
    rfl
   refine one_ (i := 3) (N := some 28) #[true, true, true, true, false, false, false] rfl rfl (one_of HT_.out (by kernel_rfl)) (by decide) (fun K hK => ?_)
   refine goes_ Try.func41 (by kernel_rfl) rfl #[.string (⟨#[0]⟩ : ByteArray), .int .i64 a0_1] (by rfl) rfl rfl (by simp only [List.map_toArray, List.map_cons, List.map_nil]; rfl) ?_
   with_reducible refine (strings_Repeat.calls _ a0_1 z _ HZ.out).mono ?_
   rintro e w3 ⟨rfl, hb3⟩
   refine ⟨_, rfl, ?_⟩
   replace hb3 : Below W2.heap.size W2 w3 := below_step (below_drew1 (Below.refl W2.heap.size W2)) hb3
   refine hK.out _ _ ⟨(hb3.cell (World.block_lt_of_cell? _ _ HC6.out)).trans HC6.out, (hb3.cell (World.block_lt_of_cell? _ _ HC1.out)).trans HC1.out⟩ (fun hHeld => ?_)
   clear hK K
   refine norm_ (a' := ?_) ?_ ?_
   rotate_left
   ·show Act.put _ (some 28) _ = _
    simp only [Act.put, List.setIfInBounds_toArray, List.set_cons_zero, List.set_cons_succ, i64_w, i32_w]
    rfl
   refine one_ (i := 4) (N := some 29) #[true, true, true, true, true, false, false] rfl rfl (one_of HT_.out (by kernel_rfl)) (by decide) (fun K hK => ?_)
   refine Kd.R_lit_step Kd.string (w0 := W2) W2.heap.size 9 (by rfl) rfl (xs := [z]) (inner := [.string z]) (ok := fun _ => True) (okp := fun _ => True) (by first | (go_simp; done) | (go_simp; rfl)) (Reps.one (show Kd.M Kd.string _ _ _ z [.string z] from rfl) (Reps.none _ _)) (fun _ hk => hk) trivial hb3 hb3.size (by simp) ?_
   intro v4 w4 ho4 hb4 hg_ hnew_
   clear hg_ hnew_
   obtain ⟨A4, c4, e4⟩ := Kd.R_slice ho4
   subst e4
   refine hK.out _ _ ⟨(hb4.cell (World.block_lt_of_cell? _ _ HC6.out)).trans HC6.out, (hb4.cell (World.block_lt_of_cell? _ _ HC1.out)).trans HC1.out⟩ (fun hHeld => ?_)
   clear hK K
   refine norm_ (a' := ?_) ?_ ?_
   rotate_left
   ·show Act.put _ (some 29) _ = _
    simp only [Act.put, List.setIfInBounds_toArray, List.set_cons_zero, List.set_cons_succ, i64_w, i32_w]
    rfl
   refine pure_ (i := 5) (N := some 30) (v := ?_) (a' := ?_) #[true, true, true, true, true, true, false] rfl rfl (any_of HT_.out (by kernel_rfl)) (fun _ _ _ h => h) (Or.inl ⟨by rfl, ?_⟩) ?_ ?_
   rotate_left
   ·intro w'
    go_simp
    with_reducible rfl
   rotate_left
   ·simp only [Act.put, List.setIfInBounds_toArray, List.set_cons_zero, List.set_cons_succ, i64_w, i32_w]
    rfl
   refine last_ (i := 6) (N := none) #[true, true, true, true, true, true, true] rfl rfl (one_of HT_.out (by kernel_rfl)) (by decide) (fun K hK => ?_)
   have hput := first_Of.put_row (W0 := W2) hw2 HS2.out hb4 ho4 0 (Int.le_refl 0) P0.out
   have hfz := (first_Of.put_ok (Kd.S_below HS2.out hb4) 0 (Int.le_refl 0) P0.out).1
   obtain ⟨A5, c5, hcz⟩ := (first_Of.put_ok (Kd.S_below HS2.out hb4) 0 (Int.le_refl 0) P0.out).2
   try simp only [Int.toNat_zero] at hcz hfz
   have HP1 := Aside0.mk hput.1
   have HP2 := Aside0.mk hput.2
   have HB4 := Aside0.mk hb4
   clear hput hb3 ho4
   refine skip_ (w1 := ?_) (by rfl) rfl ?_ ?_
   rotate_left
   ·go_simp
    rfl
   refine hK.out _ _ ?_
   clear hK K
   refine done_ (done_of HT_.out (by kernel_rfl)) ?_
   go_wp2
   refine Plus.hide_world fun W5 hW5 => ?_
   have hb5 : Below w1.heap.size w1 W5 := by rw [← hW5.out]; exact below_set (below_step HB2.out HB4.out) (Nat.le_refl _)
   have HS5 : Aside0 (Kd.S (Kd.slice 9 Kd.string) 27 W5 w1.heap.size (fun _ => True) (.slice (some ⟨w1.heap.size, 0, none⟩) l0_2.length l0_2.length) ((List.replicate l0_2.length []).set 0 [z])) := ⟨by rw [← hW5.out]; exact HP1.out⟩
   have HC6' : Aside0 (W5.cell? ⟨w1.heap.size + 1, 0, none⟩ = some (.slice (some ⟨w1.heap.size, 0, none⟩) l0_2.length l0_2.length)) := ⟨by
    rw [← hW5.out]
    refine (World.cell?_setCell_far _ _ _ _ (by show w1.heap.size ≠ w1.heap.size + 1; omega)).trans ?_
    exact (HB4.out.cell (World.block_lt_of_cell? _ _ HC6.out)).trans HC6.out⟩
   have HC1' := Aside0.mk ((hb5.cell (World.block_lt_of_cell? _ _ HQ1.out)).trans HQ1.out)
   have HB5 := Aside0.mk hb5
   have hwl : w.heap.size < w1.heap.size := World.block_lt_of_cell? w1 ⟨w.heap.size, 1, none⟩ HQ1.out
   have hn1 := HS.out.2.2
   clear hb5 hW5 HP1 HP2 HB4 hb4 HS2 hw2 HB2 HC6 HC1 HQ1 hcz hfz P0 p0 p0n
   go_loopg [8] k (fun kq v8 wr => ∃ (m : Bool) (st : List (List ByteArray)), v8 = .bool m ∧ Aside0 (if m = true then follow_Of.loop k a0_1 x1 kq st = some y else y = some st) ∧ Aside0 (Kd.S (Kd.slice 9 Kd.string) 27 wr w1.heap.size (fun _ => True) (.slice (some ⟨w1.heap.size, 0, none⟩) l0_2.length l0_2.length) st) ∧ Aside0 (KeepBut W5 wr w1.heap.size none) ∧ Aside0 (Below w1.heap.size w1 wr))
   case atStart => exact ⟨true, _, rfl, ⟨by rw [if_pos rfl]; exact HY.out⟩, HS5, ⟨KeepBut.refl _ _ _⟩, HB5⟩
   case round =>
    clear HS5 HB5 HY
    obtain ⟨m, st, rfl, HM, HSr, HQr, HBr⟩ := hrel
    cases m
    ·have hm := HM.out
     rw [if_neg Bool.false_ne_true] at hm
     subst hm
     obtain ⟨rfl, rfl⟩ := Prod.mk.inj (Option.some.inj HA.out)
     have z6 := first_Of.keepc HQr.out (by omega) HC6'.out
     go_wp2
     go_ret2
     exact ⟨_, rfl, Kd.S_lower HSr.out (Nat.le_of_lt hwl), below_step HB1.out HBr.out⟩
    ·cases gk with
     | zero => exact absurd HM.out (by simp [follow_Of.loop])
     | succ k1 =>
      have hl := HM.out
      rw [if_pos rfl, follow_Of.loop] at hl
      obtain ⟨⟨st', more, ok⟩, hr, hl⟩ := Option.bind_eq_some_iff.mp hl
      have HR := Aside0.mk hr
      have HL1 := Aside0.mk hl
      clear hl hr HM
      go_wp2
      go_loopw [8, 35] (fun v8 v35 wr => ∃ (i : Nat) (st : List (List ByteArray)) (m : Bool), v8 = .bool m ∧ v35 = .int .i64 (i : Int) ∧ Aside0 (i ≤ x1.length) ∧ Aside0 (follow_Of.round k a0_1 (x1.drop i) st m = some (st', more, ok)) ∧ Aside0 (Kd.S (Kd.slice 9 Kd.string) 27 wr w1.heap.size (fun _ => True) (.slice (some ⟨w1.heap.size, 0, none⟩) l0_2.length l0_2.length) st) ∧ Aside0 (KeepBut W5 wr w1.heap.size none) ∧ Aside0 (Below w1.heap.size w1 wr))
       (fun _ v35 _ => x1.length - (Plus.intOf v35).toNat)
      case atStart => exact ⟨0, st, false, rfl, rfl, ⟨Nat.zero_le _⟩, ⟨by rw [List.drop_zero]; exact HR.out⟩, HSr, HQr, HBr⟩
      case round =>
       clear HR HSr HQr HBr
       obtain ⟨i, st, m, rfl, rfl, HI, HRD, HSr, HQr, HBr⟩ := hrel
       by_cases hlt : i < x1.length
       ·obtain ⟨x, xs, hd⟩ : ∃ s l', x1.drop i = s :: l' := ⟨_, _, List.drop_eq_getElem_cons hlt⟩
        obtain ⟨_, hsi, hl'⟩ := follow_Of.rd_cons hd
        have ha := HRD.out
        rw [hd, follow_Of.round] at ha
        by_cases hbd : (0 ≤ x.f0 ∧ x.f0 < (st.length : Int)) ∧ (0 ≤ x.f1 ∧ x.f1 < (st.length : Int))
        ·rw [if_pos hbd] at ha
         obtain ⟨c, hc, ha⟩ := Option.bind_eq_some_iff.mp ha
         obtain ⟨j, hj, ha⟩ := Option.bind_eq_some_iff.mp ha
         have HC := Aside0.mk hc
         have HJ := Aside0.mk hj
         have HRA := Aside0.mk ha
         have HD := Aside0.mk hl'
         have HBD := Aside0.mk hbd
         have c0b : decide ((i : Int) < (x1.length : Int)) = true := decide_eq_true (by omega)
         have p1 : 0 ≤ (i : Int) := by omega
         have q1 : (i : Int) < (x1.length : Int) := by omega
         obtain ⟨ad, Ax, cx, e1, hx0, hx1, hx2, hl2, hi2⟩ := at_T79 HL.out (i : Int) p1 q1
         rw [hsi] at hx0 hx1 hx2 hl2 hi2
         cases e1
         rw [Int.toNat_natCast] at hx0 hx1 hx2
         replace hx0 := (HBr.out.cell (World.block_lt_of_cell? w1 _ hx0)).trans hx0
         replace hx1 := (HBr.out.cell (World.block_lt_of_cell? w1 _ hx1)).trans hx1
         replace hx2 := (HBr.out.cell (World.block_lt_of_cell? w1 _ hx2)).trans hx2
         have HI2 := Aside0.mk hi2
         have HL2 := Aside0.mk hl2
         replace p1 := eq_true p1
         replace q1 := eq_true q1
         clear hd ha hc hj hl' hsi hbd hi2 hl2 HRD
         go_wp2_with fail
         generalize hW' : wr.alloc _ = W'
         have hbW : Below wr.heap.size wr W' := hW' ▸ below_alloc (Below.refl _ _) _
         have z6 := first_Of.keepc HQr.out (by omega) HC6'.out
         have z1 := first_Of.keepc HQr.out (by omega) HC1'.out
         refine (follow_Of.grow_calls k (w1.heap.size + 1) w.heap.size w1.heap.size l0_2.length l0_2.length a0_1 st x Ax cx c j w1 W' (below_step HBr.out hbW) ((hbW.cell (World.block_lt_of_cell? _ _ z6)).trans z6) ((hbW.cell (World.block_lt_of_cell? _ _ z1)).trans z1) (by omega) (by omega) (Nat.le_refl _) (Kd.S_below HSr.out hbW) (Kd.C_below HI2.out (below_step HBr.out hbW)) HL2.out HBD.out.1 HBD.out.2 HC.out HJ.out).mono ?_
         rintro e w8 ⟨rfl, hS8, hQ8, hB8⟩
         have HS8 := Aside0.mk hS8
         have HQ8 := Aside0.mk (KeepBut.trans (KeepBut.trans HQr.out (KeepBut.of_below hbW w1.heap.size none) (.inl rfl)) hQ8 (.inl rfl))
         have HB8 := Aside0.mk hB8
         clear hx0 hx1 hx2 hW' hbW z6 z1 hS8 hQ8 hB8 p1 q1
         by_cases hj6 : (j.length : Int) ≤ 600
         ·have ha := HRA.out
          rw [if_pos hj6] at ha
          have HA3 := Aside0.mk ha
          have c6 : decide ((j.length : Int) ≤ 600) = true := decide_eq_true hj6
          have hw2 : wrap64 ((i : Int) + 1) = ((i + 1 : Nat) : Int) := by have := hn1; unfold wrap64; omega
          clear ha hj6
          generalize decide ((rd_L6 st x.f0).length < j.length) = g at HA3 ⊢
          cases m
          ·go_wp2
           go_roundw
           case rel => exact ⟨i + 1, _, _, by rfl, by first | rfl | rw [hw2], ⟨hlt⟩, ⟨by rw [HD.out]; exact HA3.out⟩, HS8, HQ8, HB8⟩
           case measure => simp [Plus.intOf]; omega
          ·go_wp2
           go_roundw
           case rel => exact ⟨i + 1, _, _, by rfl, by first | rfl | rw [hw2], ⟨hlt⟩, ⟨by rw [HD.out]; exact HA3.out⟩, HS8, HQ8, HB8⟩
           case measure => simp [Plus.intOf]; omega
         ·have ha := HRA.out
          rw [if_neg hj6] at ha
          obtain ⟨rfl, hmo⟩ := Prod.mk.inj (Option.some.inj ha)
          obtain ⟨rfl, rfl⟩ := Prod.mk.inj hmo
          have hl := HL1.out
          rw [if_pos rfl] at hl
          obtain rfl := Option.some.inj hl
          obtain ⟨rfl, rfl⟩ := Prod.mk.inj (Option.some.inj HA.out)
          have c6 : decide ((j.length : Int) ≤ 600) = false := decide_eq_false hj6
          clear ha hmo hl hj6
          go_wp2
          go_ret2
          exact ⟨_, rfl, Kd.S_nil _ _ _ _ _, below_step HB1.out HB8.out⟩
        ·rw [if_neg hbd] at ha; cases ha
       ·obtain rfl : i = x1.length := by have := HI.out; omega
        have ha := HRD.out
        rw [List.drop_of_length_le (Nat.le_refl _), follow_Of.round] at ha
        obtain ⟨rfl, hmo⟩ := Prod.mk.inj (Option.some.inj ha)
        obtain ⟨rfl, rfl⟩ := Prod.mk.inj hmo
        clear ha hmo
        have hl := HL1.out
        rw [if_neg (by simp)] at hl
        have HM2 : Aside0 (if m = true then follow_Of.loop k a0_1 x1 k1 st = some y else y = some st) := ⟨by
         cases m
         ·rw [if_pos rfl] at hl
          rw [if_neg (by simp)]
          exact (Option.some.inj hl).symm
         ·rw [if_neg (by simp)] at hl
          rw [if_pos rfl]; exact hl⟩
        clear hl
        have c0b : decide ((x1.length : Int) < (x1.length : Int)) = false := decide_eq_false (by omega)
        go_wp2
        go_roundg k1
        case measure => omega
        case rel => exact ⟨_, st, rfl, HM2, HSr, HQr, HBr⟩
  ·rw [if_neg hs] at ha; cases ha
 ·rw [if_neg h0] at ha
  obtain ⟨rfl, rfl⟩ := Prod.mk.inj (Option.some.inj ha)
  have hz : (x2 != 0) = true := bne_iff_ne.mpr h0
  have HN := Aside0.mk h0
  clear h ha hx hr2 hr3 hc2 hc3 h0
  go_enter Try.func18, Try.ntmps18
  go_wp2_with fail
  refine (follow_links.calls k a0_0 a0_1 A2 c2 l0_2 A3 c3 l0_3 x1 x2 _ (Kd.C_alloc HR2.out _) HC2.out (Kd.C_alloc HR3.out _) HC3.out HX.out).mono ?_
  rintro e w1 ⟨v1, rfl, hS1, hb1⟩
  have HB1 := Aside0.mk (below_step (below_alloc (Below.refl w.heap.size w) _) hb1)
  clear hb1 hS1
  go_wp2
  go_ret2
  exact ⟨_, rfl, Kd.S_nil _ _ _ _ _, HB1.out⟩
def gramaryelaw15_sample.f  : Option (Int × Int × List Int × (List (S61))) := some (2, 1, (([(-1), (-1)] : List Int)), (([(⟨0, (([(⟨false, 1⟩ : S71), (⟨true, 1⟩ : S71)] : List (S71)))⟩ : S61), (⟨1, (([(⟨true, 2⟩ : S71)] : List (S71)))⟩ : S61)] : List (S61))))
set_option maxHeartbeats 8000000 in
set_option maxRecDepth 100000 in
theorem gramaryelaw15_sample.calls  (r1 : Int) (r2 : Int) (r3 : List Int) (r4 : List (S61)) (w : World) (h : gramaryelaw15_sample.f  = some (r1, r2, r3, r4)) :
  Calls Try.prog 39 #[] w fun e w' => ∃ v2_ v3_ : Value, e = .returned (.agg #[.int .i64 r1, .int .i64 r2, v2_, v3_]) ∧ Kd.R (Kd.int .i64) 3 w' w.heap.size (fun k_ => (w.heap.size ≤ k_)) v2_ r3 ∧ Kd.N k61 61 w' w.heap.size (fun k_ => (w.heap.size ≤ k_) ∧ some k_ ≠ (v2_ : Value).ownBlock) v3_ r4 ∧ Below w.heap.size w w' := by
 have hu25 := Try.underlying25
 have hu71 := Try.underlying71
 have hu61 := Try.underlying61
 have HB := Aside0.mk (Below.refl w.heap.size w)
 have H : (some (2, 1, (([(-1), (-1)] : List Int)), (([(⟨0, (([(⟨false, 1⟩ : S71), (⟨true, 1⟩ : S71)] : List (S71)))⟩ : S61), (⟨1, (([(⟨true, 2⟩ : S71)] : List (S71)))⟩ : S61)] : List (S61))))) = some (r1, r2, r3, r4) := h
 clear h
 obtain ⟨y201, hy201⟩ : ∃ y_ : List Int, y_ = (([(-1), (-1)] : List Int)) := ⟨_, rfl⟩
 replace H : (some (2, 1, y201, (([(⟨0, (([(⟨false, 1⟩ : S71), (⟨true, 1⟩ : S71)] : List (S71)))⟩ : S61), (⟨1, (([(⟨true, 2⟩ : S71)] : List (S71)))⟩ : S61)] : List (S61))))) = some (r1, r2, r3, r4) := by first | (rw [hy201]; with_reducible exact H) | (have H2_ := (Option.bind_some _ _).symm.trans H; rw [hy201]; with_reducible exact H2_) | (have H2_ := (Option.bind_some _ _).symm.trans H; with_reducible exact H2_) | with_reducible exact H | (rw [hy201]; exact H) | exact H
 have Ny201 := Aside0.mk hy201
 clear hy201
 obtain ⟨y204, hy204⟩ : ∃ y_ : List (S71), y_ = (([(⟨false, 1⟩ : S71), (⟨true, 1⟩ : S71)] : List (S71))) := ⟨_, rfl⟩
 replace H : (some (2, 1, y201, (([(⟨0, y204⟩ : S61), (⟨1, (([(⟨true, 2⟩ : S71)] : List (S71)))⟩ : S61)] : List (S61))))) = some (r1, r2, r3, r4) := by first | (rw [hy204]; with_reducible exact H) | (have H2_ := (Option.bind_some _ _).symm.trans H; rw [hy204]; with_reducible exact H2_) | (have H2_ := (Option.bind_some _ _).symm.trans H; with_reducible exact H2_) | with_reducible exact H | (rw [hy204]; exact H) | exact H
 have Ny204 := Aside0.mk hy204
 clear hy204
 obtain ⟨y207, hy207⟩ : ∃ y_ : List (S71), y_ = (([(⟨true, 2⟩ : S71)] : List (S71))) := ⟨_, rfl⟩
 replace H : (some (2, 1, y201, (([(⟨0, y204⟩ : S61), (⟨1, y207⟩ : S61)] : List (S61))))) = some (r1, r2, r3, r4) := by first | (rw [hy207]; with_reducible exact H) | (have H2_ := (Option.bind_some _ _).symm.trans H; rw [hy207]; with_reducible exact H2_) | (have H2_ := (Option.bind_some _ _).symm.trans H; with_reducible exact H2_) | with_reducible exact H | (rw [hy207]; exact H) | exact H
 have Ny207 := Aside0.mk hy207
 clear hy207
 obtain ⟨y210, hy210⟩ : ∃ y_ : List (S61), y_ = (([(⟨0, y204⟩ : S61), (⟨1, y207⟩ : S61)] : List (S61))) := ⟨_, rfl⟩
 replace H : (some (2, 1, y201, y210)) = some (r1, r2, r3, r4) := by first | (rw [hy210]; with_reducible exact H) | (have H2_ := (Option.bind_some _ _).symm.trans H; rw [hy210]; with_reducible exact H2_) | (have H2_ := (Option.bind_some _ _).symm.trans H; with_reducible exact H2_) | with_reducible exact H | (rw [hy210]; exact H) | exact H
 have Ny210 := Aside0.mk hy210
 clear hy210
 simp only [Option.some.injEq, Prod.mk.injEq] at H
 obtain ⟨rfl, rfl, rfl, rfl⟩ := H
 go_enter Try.func39, Try.ntmps39
 go_wp2_with (first | ((with_reducible refine gate_dst (N := 0) rfl ?_); refine box_event ?hg (N := 0) ?hd (cs := #[.int .i64 0, .int .i64 0, .slice none 0 0, .slice none 0 0]) (t := 25) ?hr ?_; (case hd => rfl); (case hg => rfl); (case hr => first | (go_simp; done) | (go_simp; rfl)); intro gb200 hg w1 hbox hb; have n0_ := Aside0.mk (below_step (by repeat (first | (with_reducible first | exact HB.out | apply below_alloc | apply pw_below_drewN | apply below_drew1) | exact HB.out)) hb); have n1_ := Aside0.mk (hbox); have n2_ := Aside0.mk ((by rw [hg]; exact (below_size (by repeat (first | (with_reducible first | exact HB.out | apply below_alloc | apply pw_below_drewN | apply below_drew1) | exact HB.out))) : w.heap.size ≤ gb200)); have n3_ := Aside0.mk ((by rw [hg]; exact (below_size (by repeat (first | (with_reducible first | exact HB.out | apply below_alloc | apply pw_below_drewN | apply below_drew1) | exact HB.out))) : w.heap.size ≤ gb200)); clear HB; have HB := n0_; have BK200 := n1_; have GW200 := n2_; have GE200 := n3_; clear n0_ n1_ n2_ n3_; clear hb hbox hg) | ((with_reducible refine gate_dst (N := 1) rfl ?_); refine Kd.R_lit (Kd.int .i64) _ 3 ?hg (N := 1) ?hd (xs := ([(-1), (-1)] : List Int)) (inner := [.int .i64 (-1), .int .i64 (-1)]) (ok := fun _ => True) (okp := fun _ => True) ?hr ?hp (fun _ hk => hk) trivial (Below.refl _ _) (Nat.le_refl _) (by simp) ?_; (case hd => rfl); (case hg => rfl); (case hr => first | (go_simp; done) | (go_simp; rfl)); (case hp => exact (Reps.one (show Kd.M (Kd.int .i64) _ _ _ (-1) [.int .i64 (-1)] from rfl) (Reps.one (show Kd.M (Kd.int .i64) _ _ _ (-1) [.int .i64 (-1)] from rfl) (Reps.none _ _)))); intro v202 w2 ho3 hb hg_ hnew_; clear hg_ hnew_; (first | rw [← Ny201.out] at ho3 | (simp only [Int.reduceToNat] at ho3; rw [← Ny201.out] at ho3)); have n0_ := Aside0.mk (Kd.R_lower (Kd.R_newM (M := fun k_ => (w.heap.size ≤ k_)) ho3 (below_size (by repeat (first | (with_reducible first | exact HB.out | apply below_alloc | apply pw_below_drewN | apply below_drew1 | refine below_set ?_ GE200.out) | exact HB.out))) (fun k_ h_ => h_)) (below_size (by repeat (first | (with_reducible first | exact HB.out | apply below_alloc | apply pw_below_drewN | apply below_drew1 | refine below_set ?_ GE200.out) | exact HB.out)))); have n1_ := Aside0.mk (blk_below (g := gb200) (o := .cells #[.int .i64 0, .int .i64 0, .slice none 0 0, .slice none 0 0] 25 (0, 0)) (by (with_reducible repeat (first | refine blk_drewN ?_ _ | refine blk_drew ?_ | refine blk_alloc ?_ _)); exact BK200.out) hb); have n2_ := Aside0.mk (below_step (by repeat (first | (with_reducible first | exact HB.out | apply below_alloc | apply pw_below_drewN | apply below_drew1 | refine below_set ?_ GE200.out) | exact HB.out)) hb); clear BK200; clear HB; have HO203 := n0_; have BK200 := n1_; have HB := n2_; clear n0_ n1_ n2_; clear hb ho3) | ((with_reducible refine gate_dst (N := 4) rfl ?_); refine Kd.R_lit k71 _ 71 ?hg (N := 4) ?hd (xs := ([(⟨false, 1⟩ : S71), (⟨true, 1⟩ : S71)] : List (S71))) (inner := [.bool false, .int .i64 1, .bool true, .int .i64 1]) (ok := fun _ => True) (okp := fun _ => True) ?hr ?hp (fun _ hk => hk) trivial (Below.refl _ _) (Nat.le_refl _) (by simp) ?_; (case hd => rfl); (case hg => rfl); (case hr => first | (go_simp; done) | (go_simp; rfl)); (case hp => exact (Reps.c2 (show Kd.M k71 _ _ _ (⟨false, 1⟩ : S71) [.bool false, .int .i64 1] from (k71_mkM _ _ _ (⟨false, 1⟩ : S71) )) (Reps.c2 (show Kd.M k71 _ _ _ (⟨true, 1⟩ : S71) [.bool true, .int .i64 1] from (k71_mkM _ _ _ (⟨true, 1⟩ : S71) )) (Reps.none _ _)))); intro v205 w4 ho5 hb hg_ hnew_; clear hg_ hnew_; (first | rw [← Ny204.out] at ho5 | (simp only [Int.reduceToNat] at ho5; rw [← Ny204.out] at ho5)); have n0_ := Aside0.mk (Kd.R_below (by (with_reducible repeat (first | apply Kd.R_alloc | apply Kd.R_drewN | apply Kd.R_drew)); exact HO203.out) hb); have n1_ := Aside0.mk (Kd.R_lower (Kd.R_newM (M := fun k_ => (w.heap.size ≤ k_)) ho5 (below_size (by repeat (first | (with_reducible first | exact HB.out | apply below_alloc | apply pw_below_drewN | apply below_drew1 | refine below_set ?_ GE200.out) | exact HB.out))) (fun k_ h_ => h_)) (below_size (by repeat (first | (with_reducible first | exact HB.out | apply below_alloc | apply pw_below_drewN | apply below_drew1 | refine below_set ?_ GE200.out) | exact HB.out)))); have n2_ := Aside0.mk (blk_below (g := gb200) (o := .cells #[.int .i64 0, .int .i64 0, .slice none 0 0, .slice none 0 0] 25 (0, 0)) (by (with_reducible repeat (first | refine blk_drewN ?_ _ | refine blk_drew ?_ | refine blk_alloc ?_ _)); exact BK200.out) hb); have n3_ := Aside0.mk (below_step (by repeat (first | (with_reducible first | exact HB.out | apply below_alloc | apply pw_below_drewN | apply below_drew1 | refine below_set ?_ GE200.out) | exact HB.out)) hb); clear HO203; clear BK200; clear HB; have HO203 := n0_; have HO206 := n1_; have BK200 := n2_; have HB := n3_; clear n0_ n1_ n2_ n3_; clear hb ho5; obtain ⟨Ao6, co6, eo6⟩ := Kd.R_slice HO206.out; subst eo6) | ((with_reducible refine gate_dst (N := 7) rfl ?_); refine Kd.R_lit k71 _ 71 ?hg (N := 7) ?hd (xs := ([(⟨true, 2⟩ : S71)] : List (S71))) (inner := [.bool true, .int .i64 2]) (ok := fun _ => True) (okp := fun _ => True) ?hr ?hp (fun _ hk => hk) trivial (Below.refl _ _) (Nat.le_refl _) (by simp) ?_; (case hd => rfl); (case hg => rfl); (case hr => first | (go_simp; done) | (go_simp; rfl)); (case hp => exact (Reps.c2 (show Kd.M k71 _ _ _ (⟨true, 2⟩ : S71) [.bool true, .int .i64 2] from (k71_mkM _ _ _ (⟨true, 2⟩ : S71) )) (Reps.none _ _))); intro v208 w7 ho8 hb hg_ hnew_; clear hg_ hnew_; (first | rw [← Ny207.out] at ho8 | (simp only [Int.reduceToNat] at ho8; rw [← Ny207.out] at ho8)); have n0_ := Aside0.mk (Kd.R_below (by (with_reducible repeat (first | apply Kd.R_alloc | apply Kd.R_drewN | apply Kd.R_drew)); exact HO203.out) hb); have n1_ := Aside0.mk (Kd.R_elder' (by (with_reducible repeat (first | apply Kd.R_alloc | apply Kd.R_drewN | apply Kd.R_drew)); exact HO206.out) (Kd.R_base ho8) hb); have n2_ := Aside0.mk (Kd.R_lower (Kd.R_new' (Kd.R_newM (M := fun k_ => (w.heap.size ≤ k_)) ho8 (below_size (by repeat (first | (with_reducible first | exact HB.out | apply below_alloc | apply pw_below_drewN | apply below_drew1 | refine below_set ?_ GE200.out) | exact HB.out))) (fun k_ h_ => h_)) (Kd.R_lt (by (with_reducible repeat (first | apply Kd.R_alloc | apply Kd.R_drewN | apply Kd.R_drew)); exact HO206.out))) (below_size (by repeat (first | (with_reducible first | exact HB.out | apply below_alloc | apply pw_below_drewN | apply below_drew1 | refine below_set ?_ GE200.out) | exact HB.out)))); have n3_ := Aside0.mk (blk_below (g := gb200) (o := .cells #[.int .i64 0, .int .i64 0, .slice none 0 0, .slice none 0 0] 25 (0, 0)) (by (with_reducible repeat (first | refine blk_drewN ?_ _ | refine blk_drew ?_ | refine blk_alloc ?_ _)); exact BK200.out) hb); have n4_ := Aside0.mk (below_step (by repeat (first | (with_reducible first | exact HB.out | apply below_alloc | apply pw_below_drewN | apply below_drew1 | refine below_set ?_ GE200.out) | exact HB.out)) hb); clear HO203; clear HO206; clear BK200; clear HB; have HO203 := n0_; have HO206 := n1_; have HO209 := n2_; have BK200 := n3_; have HB := n4_; clear n0_ n1_ n2_ n3_ n4_; clear hb ho8; obtain ⟨Ao9, co9, eo9⟩ := Kd.R_slice HO209.out; subst eo9) | ((with_reducible refine gate_dst (N := 9) rfl ?_); refine Kd.N_lit k61 _ 61 ?hg (N' := 9) ?hd (xs := ([(⟨0, y204⟩ : S61), (⟨1, y207⟩ : S61)] : List (S61))) (inner := [.int .i64 0, .slice Ao6 y204.length co6, .int .i64 1, .slice Ao9 y207.length co9]) (ok := (fun k_ => (w.heap.size ≤ k_) ∧ some k_ ≠ (v202 : Value).ownBlock ∧ k_ ≠ gb200)) (okp := (fun k_ => (w.heap.size ≤ k_) ∧ some k_ ≠ (v202 : Value).ownBlock ∧ k_ ≠ gb200)) ?hr ?hp (fun _ hk => hk) ((show ∀ k_, w7.heap.size ≤ k_ → (fun k_ => (w.heap.size ≤ k_) ∧ some k_ ≠ (v202 : Value).ownBlock ∧ k_ ≠ gb200) k_ from fun k_ hk => ⟨(Nat.le_trans (below_size (by repeat (first | (with_reducible first | exact HB.out | apply below_alloc | apply pw_below_drewN | apply below_drew1 | refine below_set ?_ GE200.out) | exact HB.out))) hk), Kd.fresh' (Kd.R_lt (by (with_reducible repeat (first | apply Kd.R_alloc | apply Kd.R_drewN | apply Kd.R_drew)); exact HO203.out)) k_ hk, Kd.freshB (g := gb200) (o := .cells #[.int .i64 0, .int .i64 0, .slice none 0 0, .slice none 0 0] 25 (0, 0)) (by (with_reducible repeat (first | refine blk_drewN ?_ _ | refine blk_drew ?_ | refine blk_alloc ?_ _)); exact BK200.out) k_ hk⟩) _ (Nat.le_refl _)) (Below.refl _ _) (Nat.le_refl _) (by simp) ?_; (case hd => rfl); (case hg => rfl); (case hr => first | (go_simp; done) | (go_simp; rfl)); (case hp => exact (Reps.c2 (show Kd.FK k61 _ _ (⟨0, y204⟩ : S61) [.int .i64 0, .slice Ao6 y204.length co6] from (k61_mkF _ _ (⟨0, y204⟩ : S61) (Kd.R_reads' (Kd.R_mono (ok' := (fun k_ => (w.heap.size ≤ k_) ∧ some k_ ≠ (v202 : Value).ownBlock ∧ k_ ≠ gb200)) (Kd.R_types (Kd.R_apart' (HO206.out) (Kd.R_typed HO203.out) (by decide)) BK200.out (by decide)) (fun k_ hk => ⟨hk.1.1.1.1, ⟨hk.1.2, hk.2⟩⟩))).2.1 (Kd.R_F (Kd.R_mono (ok' := (fun k_ => (w.heap.size ≤ k_) ∧ some k_ ≠ (v202 : Value).ownBlock ∧ k_ ≠ gb200)) (Kd.R_types (Kd.R_apart' (HO206.out) (Kd.R_typed HO203.out) (by decide)) BK200.out (by decide)) (fun k_ hk => ⟨hk.1.1.1.1, ⟨hk.1.2, hk.2⟩⟩))))) (Reps.c2 (show Kd.FK k61 _ _ (⟨1, y207⟩ : S61) [.int .i64 1, .slice Ao9 y207.length co9] from (k61_mkF _ _ (⟨1, y207⟩ : S61) (Kd.R_reads' (Kd.R_mono (ok' := (fun k_ => (w.heap.size ≤ k_) ∧ some k_ ≠ (v202 : Value).ownBlock ∧ k_ ≠ gb200)) (Kd.R_types (Kd.R_apart' (HO209.out) (Kd.R_typed HO203.out) (by decide)) BK200.out (by decide)) (fun k_ hk => ⟨hk.1.1.1.1, ⟨hk.1.2, hk.2⟩⟩))).2.1 (Kd.R_F (Kd.R_mono (ok' := (fun k_ => (w.heap.size ≤ k_) ∧ some k_ ≠ (v202 : Value).ownBlock ∧ k_ ≠ gb200)) (Kd.R_types (Kd.R_apart' (HO209.out) (Kd.R_typed HO203.out) (by decide)) BK200.out (by decide)) (fun k_ hk => ⟨hk.1.1.1.1, ⟨hk.1.2, hk.2⟩⟩))))) (Reps.none _ _)))); intro v211 w10 ho11 hb hg_ hnew_; clear hg_ hnew_; (first | rw [← Ny210.out] at ho11 | (simp only [Int.reduceToNat] at ho11; rw [← Ny210.out] at ho11)); have n0_ := Aside0.mk (Kd.R_below (by (with_reducible repeat (first | apply Kd.R_alloc | apply Kd.R_drewN | apply Kd.R_drew)); exact HO203.out) hb); have n1_ := Aside0.mk (Kd.N_lower ho11 (below_size (by repeat (first | (with_reducible first | exact HB.out | apply below_alloc | apply pw_below_drewN | apply below_drew1 | refine below_set ?_ GE200.out) | exact HB.out)))); have n2_ := Aside0.mk (blk_below (g := gb200) (o := .cells #[.int .i64 0, .int .i64 0, .slice none 0 0, .slice none 0 0] 25 (0, 0)) (by (with_reducible repeat (first | refine blk_drewN ?_ _ | refine blk_drew ?_ | refine blk_alloc ?_ _)); exact BK200.out) hb); have n3_ := Aside0.mk (below_step (by repeat (first | (with_reducible first | exact HB.out | apply below_alloc | apply pw_below_drewN | apply below_drew1 | refine below_set ?_ GE200.out) | exact HB.out)) hb); clear HO203; clear BK200; clear HB; clear HO206; clear HO209; have HO203 := n0_; have HO212 := n1_; have BK200 := n2_; have HB := n3_; clear n0_ n1_ n2_ n3_; clear hb ho11; obtain ⟨Ao12, co12, eo12⟩ := Kd.N_slice HO212.out; subst eo12; obtain ⟨Ao13, co13, eo13⟩ := Kd.R_slice HO203.out; subst eo13; have hcz14_0 : w10.cell? ⟨gb200, 0, none⟩ = some (.int .i64 0) := (blk_cell BK200.out 0).trans rfl; have hcz14_1 : w10.cell? ⟨gb200, 1, none⟩ = some (.int .i64 0) := (blk_cell BK200.out 1).trans rfl; have hcz14_2 : w10.cell? ⟨gb200, 2, none⟩ = some (.slice none 0 0) := (blk_cell BK200.out 2).trans rfl; have hcz14_3 : w10.cell? ⟨gb200, 3, none⟩ = some (.slice none 0 0) := (blk_cell BK200.out 3).trans rfl; have hfz14_0 := blk_frozen BK200.out 0; have hfz14_1 := blk_frozen BK200.out 1; have hfz14_2 := blk_frozen BK200.out 2; have hfz14_3 := blk_frozen BK200.out 3))
 refine bodyPost_ret (results_cell_row rfl _ _ gb200 25 #[.int .i64 2, .int .i64 1, .slice Ao13 y201.length co13, .slice Ao12 y210.length co12] (0, 0) _ rfl (by (with_reducible repeat (first | refine blk_drewN ?_ _ | refine blk_drew ?_ | refine blk_alloc ?_ _)); refine blk_put (cs := #[.int .i64 2, .int .i64 1, .slice Ao13 y201.length co13, .slice none 0 0]) ?_ 3 _ rfl; (with_reducible repeat (first | refine blk_drewN ?_ _ | refine blk_drew ?_ | refine blk_alloc ?_ _)); refine blk_put (cs := #[.int .i64 2, .int .i64 1, .slice none 0 0, .slice none 0 0]) ?_ 2 _ rfl; (with_reducible repeat (first | refine blk_drewN ?_ _ | refine blk_drew ?_ | refine blk_alloc ?_ _)); refine blk_put (cs := #[.int .i64 2, .int .i64 0, .slice none 0 0, .slice none 0 0]) ?_ 1 _ rfl; (with_reducible repeat (first | refine blk_drewN ?_ _ | refine blk_drew ?_ | refine blk_alloc ?_ _)); refine blk_put (cs := #[.int .i64 0, .int .i64 0, .slice none 0 0, .slice none 0 0]) ?_ 0 _ rfl; (with_reducible repeat (first | refine blk_drewN ?_ _ | refine blk_drew ?_ | refine blk_alloc ?_ _)); exact BK200.out) Try.underlying25 rfl (by kernel_rfl)) rfl ?_
 exact ⟨_, _, by first | rfl | (simp [errW_none, errW_some] <;> rfl) | (simp [*, errW_none, errW_some] <;> rfl), by (with_reducible repeat (first | apply Kd.R_alloc | apply Kd.R_drewN | apply Kd.R_drew)); exact Kd.R_mono (Kd.R_far (p := ⟨gb200, 3, none⟩) (Kd.R_far (p := ⟨gb200, 2, none⟩) (Kd.R_far (p := ⟨gb200, 1, none⟩) (Kd.R_far (p := ⟨gb200, 0, none⟩) (Kd.R_types HO203.out BK200.out (by decide)) (fun _ hk => hk.2) (.int .i64 2)) (fun _ hk => hk.2) (.int .i64 1)) (fun _ hk => hk.2) (.slice Ao13 y201.length co13)) (fun _ hk => hk.2) (.slice Ao12 y210.length co12)) (fun _ hk => hk.1.1), by (with_reducible repeat (first | apply Kd.N_alloc | apply Kd.N_drewN | apply Kd.N_drew)); exact Kd.N_mono (Kd.N_far (p := ⟨gb200, 3, none⟩) (Kd.N_far (p := ⟨gb200, 2, none⟩) (Kd.N_far (p := ⟨gb200, 1, none⟩) (Kd.N_far (p := ⟨gb200, 0, none⟩) (Kd.N_mono HO212.out (fun k_ hk => (⟨hk, hk.2.2⟩ : _ ∧ k_ ≠ gb200))) (fun _ hk => hk.2) (.int .i64 2)) (fun _ hk => hk.2) (.int .i64 1)) (fun _ hk => hk.2) (.slice Ao13 y201.length co13)) (fun _ hk => hk.2) (.slice Ao12 y210.length co12)) (fun _ hk => ⟨hk.1.1, hk.1.2.1⟩), by repeat (first | (with_reducible first | exact HB.out | apply below_alloc | apply pw_below_drewN | apply below_drew1 | refine below_set ?_ GE200.out) | exact HB.out)⟩
def gramaryelaw15_works.f (k : Nat)  : Option (Bool) := (gramaryelaw15_sample.f).bind fun bt213 => ((follow_Of.f k bt213.1 bt213.2.1 bt213.2.2.1 bt213.2.2.2).bind fun bt221 => (if bt221.2 = 0 then (if (bt221.1.length : Int) = 2 then (if 0 < (bt221.1.length : Int) then ((gramaryebase_SameTexts.f k (rd_L6 bt221.1 0) (([(⟨#[0]⟩ : ByteArray)] : List ByteArray))).bind fun t229 => (if t229 = true then (if 1 < (bt221.1.length : Int) then ((gramaryebase_SameTexts.f k (rd_L6 bt221.1 1) (([(⟨#[1]⟩ : ByteArray)] : List ByteArray))).bind fun t234 => (some t234)) else (none)) else (some false))) else (none)) else (some false)) else (some false)))
theorem gramaryelaw15_works.mono : ∀ k, LeO (gramaryelaw15_works.f k ) (gramaryelaw15_works.f (k + 1) ) := by
 intro  k
 unfold gramaryelaw15_works.f
 repeat' first
   | (with_reducible exact follow_Of.mono _ _ _ _ _)
   | (with_reducible exact gramaryebase_SameTexts.mono _ _ _)
   | (with_reducible exact LeO.refl _)
   | (with_reducible exact LeO.none _)
   | (with_reducible refine LeO.ite ?_ ?_)
   | (with_reducible refine LeO.bind ?_ (fun _ => ?_))
   | exact follow_Of.mono _ _ _ _ _
   | exact gramaryebase_SameTexts.mono _ _ _
   | exact LeO.none _
   | refine LeO.ite ?_ ?_
   | refine LeO.bind ?_ (fun _ => ?_)
set_option maxHeartbeats 8000000 in
set_option maxRecDepth 100000 in
theorem gramaryelaw15_works.calls (k : Nat)  (r : Bool) (w : World) (h : gramaryelaw15_works.f k  = some r) :
  Calls Try.prog 16 #[] w fun e w' => e = .returned (.bool r) ∧ Below w.heap.size w w' := by
 have HB := Aside0.mk (Below.refl w.heap.size w)
 have H : ((gramaryelaw15_sample.f).bind fun bt213 => ((follow_Of.f k bt213.1 bt213.2.1 bt213.2.2.1 bt213.2.2.2).bind fun bt221 => (if bt221.2 = 0 then (if (bt221.1.length : Int) = 2 then (if 0 < (bt221.1.length : Int) then ((gramaryebase_SameTexts.f k (rd_L6 bt221.1 0) (([(⟨#[0]⟩ : ByteArray)] : List ByteArray))).bind fun t229 => (if t229 = true then (if 1 < (bt221.1.length : Int) then ((gramaryebase_SameTexts.f k (rd_L6 bt221.1 1) (([(⟨#[1]⟩ : ByteArray)] : List ByteArray))).bind fun t234 => (some t234)) else (none)) else (some false))) else (none)) else (some false)) else (some false)))) = some r := h
 clear h
 replace H := Option.bind_eq_some_iff.mp H
 obtain ⟨⟨t213, t214, t215, t218⟩, A10, H⟩ := H
 replace H : ((follow_Of.f k t213 t214 t215 t218).bind fun bt221 => (if bt221.2 = 0 then (if (bt221.1.length : Int) = 2 then (if 0 < (bt221.1.length : Int) then ((gramaryebase_SameTexts.f k (rd_L6 bt221.1 0) (([(⟨#[0]⟩ : ByteArray)] : List ByteArray))).bind fun t229 => (if t229 = true then (if 1 < (bt221.1.length : Int) then ((gramaryebase_SameTexts.f k (rd_L6 bt221.1 1) (([(⟨#[1]⟩ : ByteArray)] : List ByteArray))).bind fun t234 => (some t234)) else (none)) else (some false))) else (none)) else (some false)) else (some false))) = some r := H
 have A1 := Aside0.mk A10
 clear A10
 replace H := Option.bind_eq_some_iff.mp H
 obtain ⟨⟨t221, t224⟩, A20, H⟩ := H
 replace H : (if t224 = 0 then (if (t221.length : Int) = 2 then (if 0 < (t221.length : Int) then ((gramaryebase_SameTexts.f k (rd_L6 t221 0) (([(⟨#[0]⟩ : ByteArray)] : List ByteArray))).bind fun t229 => (if t229 = true then (if 1 < (t221.length : Int) then ((gramaryebase_SameTexts.f k (rd_L6 t221 1) (([(⟨#[1]⟩ : ByteArray)] : List ByteArray))).bind fun t234 => (some t234)) else (none)) else (some false))) else (none)) else (some false)) else (some false)) = some r := H
 have A2 := Aside0.mk A20
 clear A20
 by_cases c3 : t224 = 0
 ·rw [if_pos c3] at H
  have c3b0 : (t224 == 0) = true := beq_iff_eq.mpr c3
  have c3b1 : (t224 != 0) = false := bne_eq_false_iff_eq.mpr c3
  clear c3
  by_cases c4 : (t221.length : Int) = 2
  ·rw [if_pos c4] at H
   have c4b0 : ((t221.length : Int) == 2) = true := beq_iff_eq.mpr c4
   have c4b1 : ((t221.length : Int) != 2) = false := bne_eq_false_iff_eq.mpr c4
   clear c4
   by_cases c5 : 0 < (t221.length : Int)
   ·rw [if_pos c5] at H
    have c5b0 : decide (0 < (t221.length : Int)) = true := decide_eq_true c5
    have c5b1 : decide (0 < t221.length) = true := decide_eq_true (by omega)
    clear c5
    obtain ⟨y226, hy226⟩ : ∃ y_ : List ByteArray, y_ = (([(⟨#[0]⟩ : ByteArray)] : List ByteArray)) := ⟨_, rfl⟩
    replace H : ((gramaryebase_SameTexts.f k (rd_L6 t221 0) y226).bind fun t229 => (if t229 = true then (if 1 < (t221.length : Int) then ((gramaryebase_SameTexts.f k (rd_L6 t221 1) (([(⟨#[1]⟩ : ByteArray)] : List ByteArray))).bind fun t234 => (some t234)) else (none)) else (some false))) = some r := by first | (rw [hy226]; with_reducible exact H) | (have H2_ := (Option.bind_some _ _).symm.trans H; rw [hy226]; with_reducible exact H2_) | (have H2_ := (Option.bind_some _ _).symm.trans H; with_reducible exact H2_) | with_reducible exact H | (rw [hy226]; exact H) | exact H
    have Ny226 := Aside0.mk hy226
    clear hy226
    replace H := Option.bind_eq_some_iff.mp H
    obtain ⟨t229, A60, H⟩ := H
    replace H : (if t229 = true then (if 1 < (t221.length : Int) then ((gramaryebase_SameTexts.f k (rd_L6 t221 1) (([(⟨#[1]⟩ : ByteArray)] : List ByteArray))).bind fun t234 => (some t234)) else (none)) else (some false)) = some r := H
    have A6 := Aside0.mk A60
    clear A60
    by_cases c7 : t229 = true
    ·subst c7
     have H1 : (if 1 < (t221.length : Int) then ((gramaryebase_SameTexts.f k (rd_L6 t221 1) (([(⟨#[1]⟩ : ByteArray)] : List ByteArray))).bind fun t234 => (some t234)) else (none)) = some r := by rw [if_pos rfl] at H; exact H
     clear H
     have H := H1
     clear H1
     by_cases c8 : 1 < (t221.length : Int)
     ·rw [if_pos c8] at H
      have c8b0 : decide (1 < (t221.length : Int)) = true := decide_eq_true c8
      have c8b1 : decide (1 < t221.length) = true := decide_eq_true (by omega)
      clear c8
      obtain ⟨y231, hy231⟩ : ∃ y_ : List ByteArray, y_ = (([(⟨#[1]⟩ : ByteArray)] : List ByteArray)) := ⟨_, rfl⟩
      replace H : ((gramaryebase_SameTexts.f k (rd_L6 t221 1) y231).bind fun t234 => (some t234)) = some r := by first | (rw [hy231]; with_reducible exact H) | (have H2_ := (Option.bind_some _ _).symm.trans H; rw [hy231]; with_reducible exact H2_) | (have H2_ := (Option.bind_some _ _).symm.trans H; with_reducible exact H2_) | with_reducible exact H | (rw [hy231]; exact H) | exact H
      have Ny231 := Aside0.mk hy231
      clear hy231
      replace H := Option.bind_eq_some_iff.mp H
      obtain ⟨t234, A90, H⟩ := H
      replace H : (some t234) = some r := H
      have A9 := Aside0.mk A90
      clear A90
      obtain rfl := Option.some.inj H
      go_enter Try.func16, Try.ntmps16
      go_wp2_with (first | ((with_reducible refine gate_callee (f := 39) rfl ?_); refine goesL_ (some 4) rfl rfl Try.func39 (by kernel_rfl) rfl #[] rfl (by (try simp only [List.map_toArray, List.map_cons, List.map_nil]); first | done | rfl | (simp only [List.length_drop, List.length_take]; rfl)) ?_; (with_reducible refine (gramaryelaw15_sample.calls  t213 t214 t215 t218 _ A1.out).mono ?_); rintro e w10 ⟨v216, v219, rfl, ho0, ho1, hb⟩; refine ⟨_, rfl, ?_⟩; have n0_ := Aside0.mk (Kd.R_lower (Kd.R_mono (ok' := fun k_ => True) ho0 (fun _ hk_ => trivial)) (below_size (by repeat (first | (with_reducible first | exact HB.out | apply below_alloc | apply pw_below_drewN | apply below_drew1) | exact HB.out)))); have n1_ := Aside0.mk (Kd.N_lower (Kd.N_mono (ok' := fun k_ => some k_ ≠ (v216 : Value).ownBlock) ho1 (fun k_ hk_ => hk_.2)) (below_size (by repeat (first | (with_reducible first | exact HB.out | apply below_alloc | apply pw_below_drewN | apply below_drew1) | exact HB.out)))); have n2_ := Aside0.mk (below_step (by repeat (first | (with_reducible first | exact HB.out | apply below_alloc | apply pw_below_drewN | apply below_drew1) | exact HB.out)) hb); clear HB; have HO217 := n0_; have HO220 := n1_; have HB := n2_; clear n0_ n1_ n2_; (try clear hb); (try clear hb2); (try clear hk); (try clear hi); (try clear ho0); (try clear ho1); obtain ⟨Ao11, co11, eo11⟩ := Kd.R_slice HO217.out; subst eo11; obtain ⟨Ao12, co12, eo12⟩ := Kd.N_slice HO220.out; subst eo12) | ((with_reducible refine gate_callee (f := 18) rfl ?_); refine goesL_ (some 5) rfl rfl Try.func18 (by kernel_rfl) rfl #[.agg #[.int .i64 t213, .int .i64 t214, .slice Ao11 t215.length co11, .slice Ao12 t218.length co12]] rfl (by (try simp only [List.map_toArray, List.map_cons, List.map_nil]); first | done | rfl | (simp only [List.length_drop, List.length_take]; rfl)) ?_; (with_reducible refine (follow_Of.calls k t213 t214 _ _ t215 _ _ t218 t221 t224 _ ?side1 ?side2 ?side3 ?side4 A2.out).mono ?_); (case side1 => repeat (first | exact (Kd.R_reads' HO217.out).2.2 | (with_reducible refine Kd.C_alloc ?_ _) | (with_reducible refine Kd.C_drewN ?_ _) | (with_reducible refine Kd.C_drew ?_))); (case side2 => exact (Kd.R_reads' HO217.out).2.1); (case side3 => repeat (first | exact (Kd.N_reads' HO220.out).2.2 | (with_reducible refine Kd.C_alloc ?_ _) | (with_reducible refine Kd.C_drewN ?_ _) | (with_reducible refine Kd.C_drew ?_))); (case side4 => exact (Kd.N_reads' HO220.out).2.1); rintro e w13 ⟨v222, rfl, ho0, hb⟩; refine ⟨_, rfl, ?_⟩; have n2_ := Aside0.mk (Kd.N_lower (Kd.N_mono (ok' := fun k_ => some k_ ≠ (.slice Ao11 t215.length co11 : Value).ownBlock ∧ some k_ ≠ (.slice Ao12 t218.length co12 : Value).ownBlock) (Kd.S_N (Kd.S_bound ho0)) (fun k_ hk_ => ⟨(Kd.fresh' (Kd.R_lt (by (with_reducible repeat (first | apply Kd.R_alloc | apply Kd.R_drewN | apply Kd.R_drew)); exact HO217.out)) k_ hk_.2.1), (Kd.fresh' (Kd.N_lt (by (with_reducible repeat (first | apply Kd.N_alloc | apply Kd.N_drewN | apply Kd.N_drew)); exact HO220.out)) k_ hk_.2.1)⟩)) (below_size (by repeat (first | (with_reducible first | exact HB.out | apply below_alloc | apply pw_below_drewN | apply below_drew1) | exact HB.out)))); have n3_ := Aside0.mk (below_step (by repeat (first | (with_reducible first | exact HB.out | apply below_alloc | apply pw_below_drewN | apply below_drew1) | exact HB.out)) hb); clear HB; have HO223 := n2_; have HB := n3_; clear n2_ n3_; (try clear hb); (try clear hb2); (try clear hk); (try clear hi); (try clear ho0); obtain ⟨Ao14, co14, eo14⟩ := Kd.N_slice HO223.out; subst eo14; have p225 : 0 ≤ (0 : Int) := (by omega); have q225 : 0 < (t221.length : Int) := of_decide_eq_true (by first | (with_reducible assumption) | assumption); obtain ⟨ad225, A225_0, c225_0, e225, hx225_0, hl225_0, hi225_0⟩ := at_L6 (Kd.N_reads' HO223.out).2.2 0 p225 q225; cases e225; obtain ⟨ce225, hce225, hMe225, hcc225⟩ := Kd.N_get HO223.out [] 0 p225 (by first | exact q225 | exact of_decide_eq_true (by first | (with_reducible assumption) | assumption) | (have e_ := (Kd.N_reads' HO223.out).1; omega)); obtain ⟨ua225_0, uc225_0, rfl, ul225_0, ge225_0⟩ := Kd.FK_slice_open hMe225; have hv225_0 := hcc225 0 _ rfl; rw [Nat.add_zero, show ((Kd.slice 9 Kd.string)).sz = 1 from rfl, Nat.mul_one] at hv225_0; replace hv225_0 := Option.some.inj (hv225_0.symm.trans hx225_0); injection hv225_0 with hva_ hvn_ hvc_; rw [hva_] at ge225_0; rw [hvc_] at ul225_0; have HL225_0 := Aside0.mk (show Kd.V Kd.string 9 _ w.heap.size _ _ (rd_L6 t221 0) from Kd.V_mk ul225_0 ge225_0); clear hva_ hvn_ hvc_ ge225_0 ul225_0; clear hcc225 hce225; have qi225 : (0 < t221.length) = True := eq_true (by omega); (try rw [show ((0 : Int)).toNat = 0 from rfl] at hx225_0); (try rw [Addr.add_zero'] at hx225_0); have HR225_0 := Aside0.mk hi225_0; have HC225_0 := Aside0.mk hl225_0; clear hi225_0 hl225_0; replace p225 := eq_true p225; replace q225 := eq_true q225) | ((with_reducible refine gate_dst (N := 19) rfl ?_); (try (refine gate_guard (by rfl) ?_; dsimp only)); refine Kd.R_lit Kd.string _ 9 ?hg (N := 19) ?hd (xs := ([(⟨#[0]⟩ : ByteArray)] : List ByteArray)) (inner := [.string (⟨#[0]⟩ : ByteArray)]) (ok := fun _ => True) (okp := fun _ => True) ?hr ?hp (fun _ hk => hk) trivial (Below.refl _ _) (Nat.le_refl _) (by simp) ?_; (case hd => rfl); (case hg => rfl); (case hr => first | (go_simp; done) | (go_simp; rfl)); (case hp => exact (Reps.one (show Kd.M Kd.string _ _ _ (⟨#[0]⟩ : ByteArray) [.string (⟨#[0]⟩ : ByteArray)] from rfl) (Reps.none _ _))); intro v227 w15 ho16 hb hg_ hnew_; clear hg_ hnew_; (first | rw [← Ny226.out] at ho16 | (simp only [Int.reduceToNat] at ho16; rw [← Ny226.out] at ho16)); have n2_ := Aside0.mk (Kd.N_elder' (by (with_reducible repeat (first | apply Kd.N_alloc | apply Kd.N_drewN | apply Kd.N_drew)); exact HO223.out) (Kd.R_base ho16) hb); have n3_ := Aside0.mk (Kd.V_elder' (by (with_reducible repeat (first | apply Kd.V_alloc | apply Kd.V_drewN | apply Kd.V_drew)); exact HL225_0.out) (Kd.R_base ho16) hb); have n4_ := Aside0.mk (Kd.R_lower ho16 (below_size (by repeat (first | (with_reducible first | exact HB.out | apply below_alloc | apply pw_below_drewN | apply below_drew1) | exact HB.out)))); have n5_ := Aside0.mk (Kd.C_below (by repeat (first | (with_reducible exact HR225_0.out) | (with_reducible refine Kd.C_alloc ?_ _) | (with_reducible refine Kd.C_drewN ?_ _) | (with_reducible refine Kd.C_drew ?_) | exact HR225_0.out)) hb); have n6_ := Aside0.mk (below_step (by repeat (first | (with_reducible first | exact HB.out | apply below_alloc | apply pw_below_drewN | apply below_drew1) | exact HB.out)) hb); clear HO223; clear HL225_0; clear HR225_0; clear HB; have HO223 := n2_; have HL225_0 := n3_; have HO228 := n4_; have HR225_0 := n5_; have HB := n6_; clear n2_ n3_ n4_ n5_ n6_; clear hb ho16; obtain ⟨Ao17, co17, eo17⟩ := Kd.R_slice HO228.out; subst eo17) | (go_at_call 13; (with_reducible refine (gramaryebase_SameTexts.calls k _ _ (rd_L6 t221 0) _ _ y226 true _ ?side1 ?side2 ?side3 ?side4 A6.out).mono ?_); (case side1 => repeat (first | exact (by repeat (first | (with_reducible exact HR225_0.out) | (with_reducible refine Kd.C_alloc ?_ _) | (with_reducible refine Kd.C_drewN ?_ _) | (with_reducible refine Kd.C_drew ?_) | exact HR225_0.out)) | (with_reducible refine Kd.C_alloc ?_ _) | (with_reducible refine Kd.C_drewN ?_ _) | (with_reducible refine Kd.C_drew ?_))); (case side2 => exact HC225_0.out); (case side3 => repeat (first | exact (Kd.R_reads' HO228.out).2.2 | (with_reducible refine Kd.C_alloc ?_ _) | (with_reducible refine Kd.C_drewN ?_ _) | (with_reducible refine Kd.C_drew ?_))); (case side4 => exact (Kd.R_reads' HO228.out).2.1); rintro e w' ⟨rfl, ⟨nd, rfl⟩⟩; clear A6; have p230 : 0 ≤ (1 : Int) := (by omega); have q230 : 1 < (t221.length : Int) := of_decide_eq_true (by first | (with_reducible assumption) | assumption); obtain ⟨ad230, A230_0, c230_0, e230, hx230_0, hl230_0, hi230_0⟩ := at_L6 (Kd.N_reads' HO223.out).2.2 1 p230 q230; obtain rfl : ad225 = ad230 := (by injection e230); obtain ⟨ce230, hce230, hMe230, hcc230⟩ := Kd.N_get HO223.out [] 1 p230 (by first | exact q230 | exact of_decide_eq_true (by first | (with_reducible assumption) | assumption) | (have e_ := (Kd.N_reads' HO223.out).1; omega)); obtain ⟨ua230_0, uc230_0, rfl, ul230_0, ge230_0⟩ := Kd.FK_slice_open hMe230; have hv230_0 := hcc230 0 _ rfl; rw [Nat.add_zero, show ((Kd.slice 9 Kd.string)).sz = 1 from rfl, Nat.mul_one] at hv230_0; replace hv230_0 := Option.some.inj (hv230_0.symm.trans hx230_0); injection hv230_0 with hva_ hvn_ hvc_; rw [hva_] at ge230_0; rw [hvc_] at ul230_0; have HL230_0 := Aside0.mk (show Kd.V Kd.string 9 _ w.heap.size _ _ (rd_L6 t221 1) from Kd.V_mk ul230_0 ge230_0); clear hva_ hvn_ hvc_ ge230_0 ul230_0; clear hcc230 hce230; (try simp only [show (1 : Int).toNat = 1 from rfl, Nat.reduceMul, Nat.reduceEqDiff, Go.Addr.add, ↓reduceIte] at hx230_0); have qi230 : (1 < t221.length) = True := eq_true (by omega); (try rw [show ((1 : Int)).toNat = 1 from rfl] at hx230_0); have HR230_0 := Aside0.mk hi230_0; have HC230_0 := Aside0.mk hl230_0; clear hi230_0 hl230_0; replace p230 := eq_true p230; replace q230 := eq_true q230) | ((with_reducible refine gate_dst (N := 26) rfl ?_); (try (refine gate_guard (by rfl) ?_; dsimp only)); refine Kd.R_lit Kd.string _ 9 ?hg (N := 26) ?hd (xs := ([(⟨#[1]⟩ : ByteArray)] : List ByteArray)) (inner := [.string (⟨#[1]⟩ : ByteArray)]) (ok := fun _ => True) (okp := fun _ => True) ?hr ?hp (fun _ hk => hk) trivial (Below.refl _ _) (Nat.le_refl _) (by simp) ?_; (case hd => rfl); (case hg => rfl); (case hr => first | (go_simp; done) | (go_simp; rfl)); (case hp => exact (Reps.one (show Kd.M Kd.string _ _ _ (⟨#[1]⟩ : ByteArray) [.string (⟨#[1]⟩ : ByteArray)] from rfl) (Reps.none _ _))); intro v232 w18 ho19 hb hg_ hnew_; clear hg_ hnew_; (first | rw [← Ny231.out] at ho19 | (simp only [Int.reduceToNat] at ho19; rw [← Ny231.out] at ho19)); have n3_ := Aside0.mk (Kd.V_elder' (by (with_reducible repeat (first | apply Kd.V_alloc | apply Kd.V_drewN | apply Kd.V_drew)); exact HL225_0.out) (Kd.R_base ho19) hb); have n5_ := Aside0.mk (Kd.V_elder' (by (with_reducible repeat (first | apply Kd.V_alloc | apply Kd.V_drewN | apply Kd.V_drew)); exact HL230_0.out) (Kd.R_base ho19) hb); have n6_ := Aside0.mk (Kd.R_lower (R_newT_ ho19) (below_size (by repeat (first | (with_reducible first | exact HB.out | apply below_alloc | apply pw_below_drewN | apply below_drew1) | exact HB.out)))); have n8_ := Aside0.mk (Kd.C_below (by repeat (first | (with_reducible exact HR230_0.out) | (with_reducible refine Kd.C_alloc ?_ _) | (with_reducible refine Kd.C_drewN ?_ _) | (with_reducible refine Kd.C_drew ?_) | exact HR230_0.out)) hb); have n9_ := Aside0.mk (below_step (by repeat (first | (with_reducible first | exact HB.out | apply below_alloc | apply pw_below_drewN | apply below_drew1) | exact HB.out)) hb); clear HL225_0; clear HL230_0; clear HR230_0; clear HB; have HL225_0 := n3_; have HL230_0 := n5_; have HO233 := n6_; have HR230_0 := n8_; have HB := n9_; clear n3_ n5_ n6_ n8_ n9_; clear hb ho19; obtain ⟨Ao20, co20, eo20⟩ := Kd.R_slice HO233.out; subst eo20) | (go_at_call 13; (with_reducible refine (gramaryebase_SameTexts.calls k _ _ (rd_L6 t221 1) _ _ y231 t234 _ ?side1 ?side2 ?side3 ?side4 A9.out).mono ?_); (case side1 => repeat (first | exact (by repeat (first | (with_reducible exact HR230_0.out) | (with_reducible refine Kd.C_alloc ?_ _) | (with_reducible refine Kd.C_drewN ?_ _) | (with_reducible refine Kd.C_drew ?_) | exact HR230_0.out)) | (with_reducible refine Kd.C_alloc ?_ _) | (with_reducible refine Kd.C_drewN ?_ _) | (with_reducible refine Kd.C_drew ?_))); (case side2 => exact HC230_0.out); (case side3 => repeat (first | exact (Kd.R_reads' HO233.out).2.2 | (with_reducible refine Kd.C_alloc ?_ _) | (with_reducible refine Kd.C_drewN ?_ _) | (with_reducible refine Kd.C_drew ?_))); (case side4 => exact (Kd.R_reads' HO233.out).2.1); rintro e w' ⟨rfl, ⟨nd, rfl⟩⟩; clear A9))
      go_ret
      exact ⟨by first | rfl | (simp [errW_none, errW_some] <;> rfl) | (simp [*, errW_none, errW_some] <;> rfl), by repeat (first | (with_reducible first | exact HB.out | apply below_alloc | apply pw_below_drewN | apply below_drew1) | exact HB.out)⟩
     ·rw [if_neg c8] at H
      exact absurd H (by simp)
    ·replace c7 := Bool.eq_false_iff.mpr c7
     subst c7
     have H1 : (some false) = some r := by rw [if_neg (show ¬ (false = true) by decide)] at H; exact H
     clear H
     have H := H1
     clear H1
     obtain rfl := Option.some.inj H
     go_enter Try.func16, Try.ntmps16
     go_wp2_with (first | ((with_reducible refine gate_callee (f := 39) rfl ?_); refine goesL_ (some 4) rfl rfl Try.func39 (by kernel_rfl) rfl #[] rfl (by (try simp only [List.map_toArray, List.map_cons, List.map_nil]); first | done | rfl | (simp only [List.length_drop, List.length_take]; rfl)) ?_; (with_reducible refine (gramaryelaw15_sample.calls  t213 t214 t215 t218 _ A1.out).mono ?_); rintro e w21 ⟨v216, v219, rfl, ho0, ho1, hb⟩; refine ⟨_, rfl, ?_⟩; have n0_ := Aside0.mk (Kd.R_lower (Kd.R_mono (ok' := fun k_ => True) ho0 (fun _ hk_ => trivial)) (below_size (by repeat (first | (with_reducible first | exact HB.out | apply below_alloc | apply pw_below_drewN | apply below_drew1) | exact HB.out)))); have n1_ := Aside0.mk (Kd.N_lower (Kd.N_mono (ok' := fun k_ => some k_ ≠ (v216 : Value).ownBlock) ho1 (fun k_ hk_ => hk_.2)) (below_size (by repeat (first | (with_reducible first | exact HB.out | apply below_alloc | apply pw_below_drewN | apply below_drew1) | exact HB.out)))); have n2_ := Aside0.mk (below_step (by repeat (first | (with_reducible first | exact HB.out | apply below_alloc | apply pw_below_drewN | apply below_drew1) | exact HB.out)) hb); clear HB; have HO217 := n0_; have HO220 := n1_; have HB := n2_; clear n0_ n1_ n2_; (try clear hb); (try clear hb2); (try clear hk); (try clear hi); (try clear ho0); (try clear ho1); obtain ⟨Ao22, co22, eo22⟩ := Kd.R_slice HO217.out; subst eo22; obtain ⟨Ao23, co23, eo23⟩ := Kd.N_slice HO220.out; subst eo23) | ((with_reducible refine gate_callee (f := 18) rfl ?_); refine goesL_ (some 5) rfl rfl Try.func18 (by kernel_rfl) rfl #[.agg #[.int .i64 t213, .int .i64 t214, .slice Ao22 t215.length co22, .slice Ao23 t218.length co23]] rfl (by (try simp only [List.map_toArray, List.map_cons, List.map_nil]); first | done | rfl | (simp only [List.length_drop, List.length_take]; rfl)) ?_; (with_reducible refine (follow_Of.calls k t213 t214 _ _ t215 _ _ t218 t221 t224 _ ?side1 ?side2 ?side3 ?side4 A2.out).mono ?_); (case side1 => repeat (first | exact (Kd.R_reads' HO217.out).2.2 | (with_reducible refine Kd.C_alloc ?_ _) | (with_reducible refine Kd.C_drewN ?_ _) | (with_reducible refine Kd.C_drew ?_))); (case side2 => exact (Kd.R_reads' HO217.out).2.1); (case side3 => repeat (first | exact (Kd.N_reads' HO220.out).2.2 | (with_reducible refine Kd.C_alloc ?_ _) | (with_reducible refine Kd.C_drewN ?_ _) | (with_reducible refine Kd.C_drew ?_))); (case side4 => exact (Kd.N_reads' HO220.out).2.1); rintro e w24 ⟨v222, rfl, ho0, hb⟩; refine ⟨_, rfl, ?_⟩; have n2_ := Aside0.mk (Kd.N_lower (Kd.N_mono (ok' := fun k_ => some k_ ≠ (.slice Ao22 t215.length co22 : Value).ownBlock ∧ some k_ ≠ (.slice Ao23 t218.length co23 : Value).ownBlock) (Kd.S_N (Kd.S_bound ho0)) (fun k_ hk_ => ⟨(Kd.fresh' (Kd.R_lt (by (with_reducible repeat (first | apply Kd.R_alloc | apply Kd.R_drewN | apply Kd.R_drew)); exact HO217.out)) k_ hk_.2.1), (Kd.fresh' (Kd.N_lt (by (with_reducible repeat (first | apply Kd.N_alloc | apply Kd.N_drewN | apply Kd.N_drew)); exact HO220.out)) k_ hk_.2.1)⟩)) (below_size (by repeat (first | (with_reducible first | exact HB.out | apply below_alloc | apply pw_below_drewN | apply below_drew1) | exact HB.out)))); have n3_ := Aside0.mk (below_step (by repeat (first | (with_reducible first | exact HB.out | apply below_alloc | apply pw_below_drewN | apply below_drew1) | exact HB.out)) hb); clear HB; have HO223 := n2_; have HB := n3_; clear n2_ n3_; (try clear hb); (try clear hb2); (try clear hk); (try clear hi); (try clear ho0); obtain ⟨Ao25, co25, eo25⟩ := Kd.N_slice HO223.out; subst eo25; have p225 : 0 ≤ (0 : Int) := (by omega); have q225 : 0 < (t221.length : Int) := of_decide_eq_true (by first | (with_reducible assumption) | assumption); obtain ⟨ad225, A225_0, c225_0, e225, hx225_0, hl225_0, hi225_0⟩ := at_L6 (Kd.N_reads' HO223.out).2.2 0 p225 q225; cases e225; obtain ⟨ce225, hce225, hMe225, hcc225⟩ := Kd.N_get HO223.out [] 0 p225 (by first | exact q225 | exact of_decide_eq_true (by first | (with_reducible assumption) | assumption) | (have e_ := (Kd.N_reads' HO223.out).1; omega)); obtain ⟨ua225_0, uc225_0, rfl, ul225_0, ge225_0⟩ := Kd.FK_slice_open hMe225; have hv225_0 := hcc225 0 _ rfl; rw [Nat.add_zero, show ((Kd.slice 9 Kd.string)).sz = 1 from rfl, Nat.mul_one] at hv225_0; replace hv225_0 := Option.some.inj (hv225_0.symm.trans hx225_0); injection hv225_0 with hva_ hvn_ hvc_; rw [hva_] at ge225_0; rw [hvc_] at ul225_0; have HL225_0 := Aside0.mk (show Kd.V Kd.string 9 _ w.heap.size _ _ (rd_L6 t221 0) from Kd.V_mk ul225_0 ge225_0); clear hva_ hvn_ hvc_ ge225_0 ul225_0; clear hcc225 hce225; have qi225 : (0 < t221.length) = True := eq_true (by omega); (try rw [show ((0 : Int)).toNat = 0 from rfl] at hx225_0); (try rw [Addr.add_zero'] at hx225_0); have HR225_0 := Aside0.mk hi225_0; have HC225_0 := Aside0.mk hl225_0; clear hi225_0 hl225_0; replace p225 := eq_true p225; replace q225 := eq_true q225) | ((with_reducible refine gate_dst (N := 19) rfl ?_); (try (refine gate_guard (by rfl) ?_; dsimp only)); refine Kd.R_lit Kd.string _ 9 ?hg (N := 19) ?hd (xs := ([(⟨#[0]⟩ : ByteArray)] : List ByteArray)) (inner := [.string (⟨#[0]⟩ : ByteArray)]) (ok := fun _ => True) (okp := fun _ => True) ?hr ?hp (fun _ hk => hk) trivial (Below.refl _ _) (Nat.le_refl _) (by simp) ?_; (case hd => rfl); (case hg => rfl); (case hr => first | (go_simp; done) | (go_simp; rfl)); (case hp => exact (Reps.one (show Kd.M Kd.string _ _ _ (⟨#[0]⟩ : ByteArray) [.string (⟨#[0]⟩ : ByteArray)] from rfl) (Reps.none _ _))); intro v227 w26 ho27 hb hg_ hnew_; clear hg_ hnew_; (first | rw [← Ny226.out] at ho27 | (simp only [Int.reduceToNat] at ho27; rw [← Ny226.out] at ho27)); have n3_ := Aside0.mk (Kd.V_elder' (by (with_reducible repeat (first | apply Kd.V_alloc | apply Kd.V_drewN | apply Kd.V_drew)); exact HL225_0.out) (Kd.R_base ho27) hb); have n4_ := Aside0.mk (Kd.R_lower ho27 (below_size (by repeat (first | (with_reducible first | exact HB.out | apply below_alloc | apply pw_below_drewN | apply below_drew1) | exact HB.out)))); have n5_ := Aside0.mk (Kd.C_below (by repeat (first | (with_reducible exact HR225_0.out) | (with_reducible refine Kd.C_alloc ?_ _) | (with_reducible refine Kd.C_drewN ?_ _) | (with_reducible refine Kd.C_drew ?_) | exact HR225_0.out)) hb); have n6_ := Aside0.mk (below_step (by repeat (first | (with_reducible first | exact HB.out | apply below_alloc | apply pw_below_drewN | apply below_drew1) | exact HB.out)) hb); clear HL225_0; clear HR225_0; clear HB; have HL225_0 := n3_; have HO228 := n4_; have HR225_0 := n5_; have HB := n6_; clear n3_ n4_ n5_ n6_; clear hb ho27; obtain ⟨Ao28, co28, eo28⟩ := Kd.R_slice HO228.out; subst eo28) | (go_at_call 13; (with_reducible refine (gramaryebase_SameTexts.calls k _ _ (rd_L6 t221 0) _ _ y226 false _ ?side1 ?side2 ?side3 ?side4 A6.out).mono ?_); (case side1 => repeat (first | exact (by repeat (first | (with_reducible exact HR225_0.out) | (with_reducible refine Kd.C_alloc ?_ _) | (with_reducible refine Kd.C_drewN ?_ _) | (with_reducible refine Kd.C_drew ?_) | exact HR225_0.out)) | (with_reducible refine Kd.C_alloc ?_ _) | (with_reducible refine Kd.C_drewN ?_ _) | (with_reducible refine Kd.C_drew ?_))); (case side2 => exact HC225_0.out); (case side3 => repeat (first | exact (Kd.R_reads' HO228.out).2.2 | (with_reducible refine Kd.C_alloc ?_ _) | (with_reducible refine Kd.C_drewN ?_ _) | (with_reducible refine Kd.C_drew ?_))); (case side4 => exact (Kd.R_reads' HO228.out).2.1); rintro e w' ⟨rfl, ⟨nd, rfl⟩⟩))
     go_ret
     exact ⟨by first | rfl | (simp [errW_none, errW_some] <;> rfl) | (simp [*, errW_none, errW_some] <;> rfl), by repeat (first | (with_reducible first | exact HB.out | apply below_alloc | apply pw_below_drewN | apply below_drew1) | exact HB.out)⟩
   ·rw [if_neg c5] at H
    exact absurd H (by simp)
  ·rw [if_neg c4] at H
   have c4b0 : ((t221.length : Int) == 2) = false := beq_eq_false_iff_ne.mpr c4
   have c4b1 : ((t221.length : Int) != 2) = true := bne_iff_ne.mpr c4
   obtain rfl := Option.some.inj H
   go_enter Try.func16, Try.ntmps16
   go_wp2_with (first | ((with_reducible refine gate_callee (f := 39) rfl ?_); refine goesL_ (some 4) rfl rfl Try.func39 (by kernel_rfl) rfl #[] rfl (by (try simp only [List.map_toArray, List.map_cons, List.map_nil]); first | done | rfl | (simp only [List.length_drop, List.length_take]; rfl)) ?_; (with_reducible refine (gramaryelaw15_sample.calls  t213 t214 t215 t218 _ A1.out).mono ?_); rintro e w29 ⟨v216, v219, rfl, ho0, ho1, hb⟩; refine ⟨_, rfl, ?_⟩; have n0_ := Aside0.mk (Kd.R_lower (Kd.R_mono (ok' := fun k_ => True) ho0 (fun _ hk_ => trivial)) (below_size (by repeat (first | (with_reducible first | exact HB.out | apply below_alloc | apply pw_below_drewN | apply below_drew1) | exact HB.out)))); have n1_ := Aside0.mk (Kd.N_lower (Kd.N_mono (ok' := fun k_ => some k_ ≠ (v216 : Value).ownBlock) ho1 (fun k_ hk_ => hk_.2)) (below_size (by repeat (first | (with_reducible first | exact HB.out | apply below_alloc | apply pw_below_drewN | apply below_drew1) | exact HB.out)))); have n2_ := Aside0.mk (below_step (by repeat (first | (with_reducible first | exact HB.out | apply below_alloc | apply pw_below_drewN | apply below_drew1) | exact HB.out)) hb); clear HB; have HO217 := n0_; have HO220 := n1_; have HB := n2_; clear n0_ n1_ n2_; (try clear hb); (try clear hb2); (try clear hk); (try clear hi); (try clear ho0); (try clear ho1); obtain ⟨Ao30, co30, eo30⟩ := Kd.R_slice HO217.out; subst eo30; obtain ⟨Ao31, co31, eo31⟩ := Kd.N_slice HO220.out; subst eo31) | ((with_reducible refine gate_callee (f := 18) rfl ?_); refine goesL_ (some 5) rfl rfl Try.func18 (by kernel_rfl) rfl #[.agg #[.int .i64 t213, .int .i64 t214, .slice Ao30 t215.length co30, .slice Ao31 t218.length co31]] rfl (by (try simp only [List.map_toArray, List.map_cons, List.map_nil]); first | done | rfl | (simp only [List.length_drop, List.length_take]; rfl)) ?_; (with_reducible refine (follow_Of.calls k t213 t214 _ _ t215 _ _ t218 t221 t224 _ ?side1 ?side2 ?side3 ?side4 A2.out).mono ?_); (case side1 => repeat (first | exact (Kd.R_reads' HO217.out).2.2 | (with_reducible refine Kd.C_alloc ?_ _) | (with_reducible refine Kd.C_drewN ?_ _) | (with_reducible refine Kd.C_drew ?_))); (case side2 => exact (Kd.R_reads' HO217.out).2.1); (case side3 => repeat (first | exact (Kd.N_reads' HO220.out).2.2 | (with_reducible refine Kd.C_alloc ?_ _) | (with_reducible refine Kd.C_drewN ?_ _) | (with_reducible refine Kd.C_drew ?_))); (case side4 => exact (Kd.N_reads' HO220.out).2.1); rintro e w32 ⟨v222, rfl, ho0, hb⟩; refine ⟨_, rfl, ?_⟩; have n2_ := Aside0.mk (Kd.N_lower (Kd.N_mono (ok' := fun k_ => some k_ ≠ (.slice Ao30 t215.length co30 : Value).ownBlock ∧ some k_ ≠ (.slice Ao31 t218.length co31 : Value).ownBlock) (Kd.S_N (Kd.S_bound ho0)) (fun k_ hk_ => ⟨(Kd.fresh' (Kd.R_lt (by (with_reducible repeat (first | apply Kd.R_alloc | apply Kd.R_drewN | apply Kd.R_drew)); exact HO217.out)) k_ hk_.2.1), (Kd.fresh' (Kd.N_lt (by (with_reducible repeat (first | apply Kd.N_alloc | apply Kd.N_drewN | apply Kd.N_drew)); exact HO220.out)) k_ hk_.2.1)⟩)) (below_size (by repeat (first | (with_reducible first | exact HB.out | apply below_alloc | apply pw_below_drewN | apply below_drew1) | exact HB.out)))); have n3_ := Aside0.mk (below_step (by repeat (first | (with_reducible first | exact HB.out | apply below_alloc | apply pw_below_drewN | apply below_drew1) | exact HB.out)) hb); clear HB; have HO223 := n2_; have HB := n3_; clear n2_ n3_; (try clear hb); (try clear hb2); (try clear hk); (try clear hi); (try clear ho0); obtain ⟨Ao33, co33, eo33⟩ := Kd.N_slice HO223.out; subst eo33))
   go_ret
   exact ⟨by first | rfl | (simp [errW_none, errW_some] <;> rfl) | (simp [*, errW_none, errW_some] <;> rfl), by repeat (first | (with_reducible first | exact HB.out | apply below_alloc | apply pw_below_drewN | apply below_drew1) | exact HB.out)⟩
 ·rw [if_neg c3] at H
  have c3b0 : (t224 == 0) = false := beq_eq_false_iff_ne.mpr c3
  have c3b1 : (t224 != 0) = true := bne_iff_ne.mpr c3
  obtain rfl := Option.some.inj H
  go_enter Try.func16, Try.ntmps16
  go_wp2_with (first | ((with_reducible refine gate_callee (f := 39) rfl ?_); refine goesL_ (some 4) rfl rfl Try.func39 (by kernel_rfl) rfl #[] rfl (by (try simp only [List.map_toArray, List.map_cons, List.map_nil]); first | done | rfl | (simp only [List.length_drop, List.length_take]; rfl)) ?_; (with_reducible refine (gramaryelaw15_sample.calls  t213 t214 t215 t218 _ A1.out).mono ?_); rintro e w34 ⟨v216, v219, rfl, ho0, ho1, hb⟩; refine ⟨_, rfl, ?_⟩; have n0_ := Aside0.mk (Kd.R_lower (Kd.R_mono (ok' := fun k_ => True) ho0 (fun _ hk_ => trivial)) (below_size (by repeat (first | (with_reducible first | exact HB.out | apply below_alloc | apply pw_below_drewN | apply below_drew1) | exact HB.out)))); have n1_ := Aside0.mk (Kd.N_lower (Kd.N_mono (ok' := fun k_ => some k_ ≠ (v216 : Value).ownBlock) ho1 (fun k_ hk_ => hk_.2)) (below_size (by repeat (first | (with_reducible first | exact HB.out | apply below_alloc | apply pw_below_drewN | apply below_drew1) | exact HB.out)))); have n2_ := Aside0.mk (below_step (by repeat (first | (with_reducible first | exact HB.out | apply below_alloc | apply pw_below_drewN | apply below_drew1) | exact HB.out)) hb); clear HB; have HO217 := n0_; have HO220 := n1_; have HB := n2_; clear n0_ n1_ n2_; (try clear hb); (try clear hb2); (try clear hk); (try clear hi); (try clear ho0); (try clear ho1); obtain ⟨Ao35, co35, eo35⟩ := Kd.R_slice HO217.out; subst eo35; obtain ⟨Ao36, co36, eo36⟩ := Kd.N_slice HO220.out; subst eo36) | ((with_reducible refine gate_callee (f := 18) rfl ?_); refine goesL_ (some 5) rfl rfl Try.func18 (by kernel_rfl) rfl #[.agg #[.int .i64 t213, .int .i64 t214, .slice Ao35 t215.length co35, .slice Ao36 t218.length co36]] rfl (by (try simp only [List.map_toArray, List.map_cons, List.map_nil]); first | done | rfl | (simp only [List.length_drop, List.length_take]; rfl)) ?_; (with_reducible refine (follow_Of.calls k t213 t214 _ _ t215 _ _ t218 t221 t224 _ ?side1 ?side2 ?side3 ?side4 A2.out).mono ?_); (case side1 => repeat (first | exact (Kd.R_reads' HO217.out).2.2 | (with_reducible refine Kd.C_alloc ?_ _) | (with_reducible refine Kd.C_drewN ?_ _) | (with_reducible refine Kd.C_drew ?_))); (case side2 => exact (Kd.R_reads' HO217.out).2.1); (case side3 => repeat (first | exact (Kd.N_reads' HO220.out).2.2 | (with_reducible refine Kd.C_alloc ?_ _) | (with_reducible refine Kd.C_drewN ?_ _) | (with_reducible refine Kd.C_drew ?_))); (case side4 => exact (Kd.N_reads' HO220.out).2.1); rintro e w37 ⟨v222, rfl, ho0, hb⟩; refine ⟨_, rfl, ?_⟩; have n3_ := Aside0.mk (below_step (by repeat (first | (with_reducible first | exact HB.out | apply below_alloc | apply pw_below_drewN | apply below_drew1) | exact HB.out)) hb); clear HB; have HB := n3_; clear n3_; (try clear hb); (try clear hb2); (try clear hk); (try clear hi); (try clear ho0)))
  go_ret
  exact ⟨by first | rfl | (simp [errW_none, errW_some] <;> rfl) | (simp [*, errW_none, errW_some] <;> rfl), by repeat (first | (with_reducible first | exact HB.out | apply below_alloc | apply pw_below_drewN | apply below_drew1) | exact HB.out)⟩
def gramaryebase_Ints.f (l0 : List Int) : Option (List Int) := (some (([] : List Int) : List Int)).bind fun y235 => (if y235.length + l0.length < 17592186044416 then (some (y235 ++ l0)) else (none))
set_option maxHeartbeats 8000000 in
set_option maxRecDepth 100000 in
theorem gramaryebase_Ints.calls (A0 : Option Addr) (c0 : Nat) (l0 : List Int) (r : List Int) (w : World) (hr0 : Kd.C (Kd.int .i64) w A0 l0.length l0) (hc0 : l0.length ≤ c0) (h : gramaryebase_Ints.f l0 = some r) :
  Calls Try.prog 58 #[.slice A0 l0.length c0] w fun e w' => ∃ v0_ : Value, e = .returned (v0_) ∧ Kd.R (Kd.int .i64) 3 w' w.heap.size (fun _ => True) v0_ r ∧ Below w.heap.size w w' := by
 have HR0 := Aside0.mk hr0
 have HC0 := Aside0.mk hc0
 clear hr0 hc0
 have HB := Aside0.mk (Below.refl w.heap.size w)
 have H : ((some (([] : List Int) : List Int)).bind fun y235 => (if y235.length + l0.length < 17592186044416 then (some (y235 ++ l0)) else (none))) = some r := h
 clear h
 obtain ⟨y235, hy235⟩ : ∃ y_ : List Int, y_ = (([] : List Int)) := ⟨_, rfl⟩
 replace H : (if y235.length + l0.length < 17592186044416 then (some (y235 ++ l0)) else (none)) = some r := by first | (rw [hy235]; with_reducible exact H) | (have H2_ := (Option.bind_some _ _).symm.trans H; rw [hy235]; with_reducible exact H2_) | (have H2_ := (Option.bind_some _ _).symm.trans H; with_reducible exact H2_) | with_reducible exact H | (rw [hy235]; exact H) | exact H
 have Ny235 := Aside0.mk hy235
 clear hy235
 by_cases c2 : y235.length + l0.length < 17592186044416
 ·rw [if_pos c2] at H
  have LMc2 := Aside0.mk c2
  clear c2
  obtain ⟨y238, hy238⟩ : ∃ y_ : List Int, y_ = (y235 ++ l0) := ⟨_, rfl⟩
  replace H : (some y238) = some r := by first | (rw [hy238]; with_reducible exact H) | (have H2_ := (Option.bind_some _ _).symm.trans H; rw [hy238]; with_reducible exact H2_) | (have H2_ := (Option.bind_some _ _).symm.trans H; with_reducible exact H2_) | with_reducible exact H | (rw [hy238]; exact H) | exact H
  have Ny238 := Aside0.mk hy238
  clear hy238
  obtain rfl := Option.some.inj H
  go_enter Try.func58, Try.ntmps58
  go_wp2_with (first | ((with_reducible refine gate_dst (N := 3) rfl ?_); refine Kd.R_lit (Kd.int .i64) _ 3 ?hg (N := 3) ?hd (xs := ([] : List Int)) (inner := []) (ok := fun _ => True) (okp := fun _ => True) ?hr ?hp (fun _ hk => hk) trivial (Below.refl _ _) (Nat.le_refl _) (by simp) ?_; (case hd => rfl); (case hg => rfl); (case hr => first | (go_simp; done) | (go_simp; rfl)); (case hp => exact (Reps.none _ _)); intro v236 w3 ho4 hb hg_ hnew_; clear hg_ hnew_; (first | rw [← Ny235.out] at ho4 | (simp only [Int.reduceToNat] at ho4; rw [← Ny235.out] at ho4)); have n0_ := Aside0.mk (Kd.R_lower ho4 (below_size (by repeat (first | (with_reducible first | exact HB.out | apply below_alloc | apply pw_below_drewN | apply below_drew1) | exact HB.out)))); have n1_ := Aside0.mk (below_step (by repeat (first | (with_reducible first | exact HB.out | apply below_alloc | apply pw_below_drewN | apply below_drew1) | exact HB.out)) hb); clear HB; have HO237 := n0_; have HB := n1_; clear n0_ n1_; clear hb ho4) | ((with_reducible refine gate_builtin (b := .append) (xs := #[.tmp 3, .tmp 4]) rfl ?_); at_builtin; refine Kd.R_append_rows (Kd.int .i64) (w0 := w) w.heap.size rfl (.tmp 3) (.tmp 4) 22 3 (.int .i64 0) 8 rfl Try.underlying22 info3 rfl (by decide) (by omega) v236 y235 l0 _ _ _ (fun _ => True) (fun _ => False) rfl rfl ?aO ?aR (fun _ _ h => h) (fun _ h => h.elim) ?aF ?aB ?aS ?aL ?_; (case aR => repeat (first | exact (Kd.C_below HR0.out HB.out) | (with_reducible refine Kd.C_alloc ?_ _) | (with_reducible refine Kd.C_drewN ?_ _) | (with_reducible refine Kd.C_drew ?_))); (case aB => exact (by repeat (first | (with_reducible first | exact HB.out | apply below_alloc | apply pw_below_drewN | apply below_drew1) | exact HB.out))); (case aF => exact (fun _ _ => trivial)); (case aO => exact (by (with_reducible repeat (first | apply Kd.R_alloc | apply Kd.R_drewN | apply Kd.R_drew)); exact HO237.out)); (case aS => exact (below_size (by repeat (first | (with_reducible first | exact HB.out | apply below_alloc | apply pw_below_drewN | apply below_drew1) | exact HB.out)))); (case aL => have := LMc2.out; omega); intro v239 w5 ho hb hg hat; rw [← Ny238.out] at ho; have n0_ := Aside0.mk (hb); have n1_ := Aside0.mk (ho); clear HB; clear HO237; have HB := n0_; have HO240 := n1_; clear n0_ n1_; clear ho hb hg hat))
  go_ret
  exact ⟨_, by first | rfl | (simp [errW_none, errW_some] <;> rfl) | (simp [*, errW_none, errW_some] <;> rfl), by (with_reducible repeat (first | apply Kd.R_alloc | apply Kd.R_drewN | apply Kd.R_drew)); exact HO240.out, by repeat (first | (with_reducible first | exact HB.out | apply below_alloc | apply pw_below_drewN | apply below_drew1) | exact HB.out)⟩
 ·rw [if_neg c2] at H
  exact absurd H (by simp)
end Go.Proofs.Ytnihlieggknpaaa.HFollowWhole
