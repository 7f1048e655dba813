-- Written by plus.py for this claim.
import Derived.Test.YtpfeebmfihgelaaDoorHLexReadsx0
import Derived.Test.YtpfeebmfihgelaaDoorHLexReadsx2
import Derived.Test.YtpfeebmfihgelaaDoorHLexReadsx4
import Derived.Test.YtpfeebmfihgelaaDoorHLexReadsx13
namespace Go.Proofs.YtpfeebmfihgelaaDoor.HLexReads
open Go.RowKit Go.Proofs.YtpfeebmfihgelaaDoorW.PrintWords Go.Proofs.YtpfeebmfihgelaaDoorW.PrintLast Go.Proofs.YtpfeebmfihgelaaDoorW.PrintMore
attribute [local go_sem] max2_int min2_int max_two min_two max_three min_three max_four min_four   -- for this text's walks alone
set_option linter.unusedVariables false
set_option linter.unusedSimpArgs false

/-! ### gramaryelaw04_LexReads: function 3 -/
def gramaryelaw04_LexReads.f (k : Nat) (a0 : ByteArray) (_ : Int) (_ : List S37) : Option Bool :=
  (gramaryelaw04_short.f a0).bind fun s => (gramaryeref04_All.f k s).bind fun t => (api_Token.f t.1).bind fun _ => if ∀ x ∈ t.1, x.f1.size ≤ 1000000 then gramaryelaw04_works.f k else none
theorem gramaryelaw04_LexReads.mono : ∀ a b c k, LeO (gramaryelaw04_LexReads.f k a b c) (gramaryelaw04_LexReads.f (k + 1) a b c) := by
  intro a b c k
  unfold gramaryelaw04_LexReads.f
  exact LeO.bind (LeO.refl _) (fun s => LeO.bind (gramaryeref04_All.mono _ _) (fun t => LeO.bind (LeO.refl _) (fun _ => LeO.ite (gramaryelaw04_works.mono _) (LeO.refl _))))
/-- A token as a value. -/
abbrev gramaryelaw04_LexReads.tv (t : S34) : Value := .agg #[.int .i64 t.f0, .string t.f1, .int .i64 t.f2, .int .i64 t.f3]
/-- The next token. -/
def gramaryelaw04_LexReads.tokA (l : List S34) (en : Int) : S34 := match l with | [] => ⟨0, ⟨#[]⟩, 0, en⟩ | t :: _ => t
theorem gramaryelaw04_LexReads.peek_f (l : List S34) (en : Int) : lex_Reader_Peek.f l en = some ((gramaryelaw04_LexReads.tokA l en).f0, (gramaryelaw04_LexReads.tokA l en).f1, (gramaryelaw04_LexReads.tokA l en).f2, (gramaryelaw04_LexReads.tokA l en).f3, en) := by
  unfold lex_Reader_Peek.f
  cases l with
  | nil => rfl
  | cons t l =>
    rw [if_neg (by simp; omega), if_pos (by simp)]
    rfl
theorem gramaryelaw04_LexReads.put4 {W : World} {b : Nat} {z0 z1 z2 z3 : Value} (hb : W.heap[b]? = some (.cells #[z0, z1, z2, z3] 34 (0, 0))) (v0 v1 v2 v3 : Value) : ((((W.setCell ⟨b, 0, none⟩ v0).setCell ⟨b, 1, none⟩ v1).setCell ⟨b, 2, none⟩ v2).setCell ⟨b, 3, none⟩ v3).heap[b]? = some (.cells #[v0, v1, v2, v3] 34 (0, 0)) := by
  simpa using blk_set (blk_set (blk_set (blk_set hb 0 v0) 1 v1) 2 v2) 3 v3
theorem gramaryelaw04_LexReads.put4k {w W : World} {g : Nat} (h : KeepBut w W g none) {b : Nat} (hb : w.heap.size ≤ b) (v0 v1 v2 v3 : Value) : KeepBut w ((((W.setCell ⟨b, 0, none⟩ v0).setCell ⟨b, 1, none⟩ v1).setCell ⟨b, 2, none⟩ v2).setCell ⟨b, 3, none⟩ v3) g none := keep_far (keep_far (keep_far (keep_far h hb _) hb _) hb _) hb _
theorem gramaryelaw04_LexReads.put4b {w0 W : World} (h : Below w0.heap.size w0 W) {b : Nat} (hb : w0.heap.size ≤ b) (v0 v1 v2 v3 : Value) : Below w0.heap.size w0 ((((W.setCell ⟨b, 0, none⟩ v0).setCell ⟨b, 1, none⟩ v1).setCell ⟨b, 2, none⟩ v2).setCell ⟨b, 3, none⟩ v3) := below_set (below_set (below_set (below_set h hb) hb) hb) hb
theorem gramaryelaw04_LexReads.put4n {W : World} {b x : Nat} {o : Obj} (h : W.heap[x]? = some o) (hx : x ≠ b) (v0 v1 v2 v3 : Value) : ((((W.setCell ⟨b, 0, none⟩ v0).setCell ⟨b, 1, none⟩ v1).setCell ⟨b, 2, none⟩ v2).setCell ⟨b, 3, none⟩ v3).heap[x]? = some o := by
  refine (Below.heap_setCell _ _ _ _ hx).trans ((Below.heap_setCell _ _ _ _ hx).trans ((Below.heap_setCell _ _ _ _ hx).trans ((Below.heap_setCell _ _ _ _ hx).trans h)))
/-- The reference's reader in memory. -/
def gramaryelaw04_LexReads.IsR (w0 W : World) (g : Nat) (l : List S34) (p : Nat) (en : Int) : Prop := ∃ A c, W.heap[g]? = some (.cells #[.slice A l.length c, .int .i64 (p : Int), .int .i64 en] 32 (0, 0)) ∧ w0.heap.size ≤ g ∧ Kd.C k34 w0 A l.length l ∧ l.length ≤ c
theorem gramaryelaw04_LexReads.IsR.keep {w0 W W' : World} {g x : Nat} {l : List S34} {p : Nat} {en : Int} (h : gramaryelaw04_LexReads.IsR w0 W g l p en) (hk : KeepBut W W' x none) (hx : g ≠ x) : gramaryelaw04_LexReads.IsR w0 W' g l p en := by
  obtain ⟨A, c, hb, hg, hr⟩ := h
  exact ⟨A, c, (hk.2 g (blk_lt hb) hx (by simp)).trans hb, hg, hr⟩
theorem gramaryelaw04_LexReads.IsR.below {w0 W W' : World} {g : Nat} {l : List S34} {p : Nat} {en : Int} (h : gramaryelaw04_LexReads.IsR w0 W g l p en) (hk : Below W.heap.size W W') : gramaryelaw04_LexReads.IsR w0 W' g l p en := by
  obtain ⟨A, c, hb, hg, hr⟩ := h
  exact ⟨A, c, blk_below hb hk, hg, hr⟩
theorem gramaryelaw04_LexReads.keepS {w0 W W' : World} {g x : Nat} {l : List S34} {en : Int} (h : IsS79 w0 W g l en) (hk : KeepBut W W' x none) (hx : g ≠ x) : IsS79 w0 W' g l en := by
  obtain ⟨A, c, hb, hg, hr⟩ := h
  exact ⟨A, c, (hk.2 g (blk_lt hb) hx (by simp)).trans hb, hg, hr⟩
set_option maxHeartbeats 8000000 in
set_option maxRecDepth 100000 in
theorem gramaryelaw04_LexReads.peekN (w : World) : Calls Tryd.prog 15 #[.pointer none] w fun e w' => e = .returned (gramaryelaw04_LexReads.tv ⟨0, ⟨#[]⟩, 0, 0⟩) ∧ Below w.heap.size w w' := by
  go_enter Tryd.func15, Tryd.ntmps15
  go_wp2
  have hb := blk_new w (.cells #[.int .i64 0, .string ⟨#[]⟩, .int .i64 0, .int .i64 0] 34)
  refine bodyPost_ret (results_cell_row rfl _ _ w.heap.size 34 #[.int .i64 0, .string ⟨#[]⟩, .int .i64 0, .int .i64 0] (0, 0) _ rfl (by first | exact hb | exact gramaryelaw04_LexReads.put4 hb _ _ _ _) Tryd.underlying34 rfl (by kernel_rfl)) rfl ?_
  exact ⟨rfl, by first | exact gramaryelaw04_LexReads.put4b (below_alloc (Below.refl _ _) _) (Nat.le_refl _) _ _ _ _ | exact below_alloc (Below.refl _ _) _⟩
set_option maxHeartbeats 8000000 in
set_option maxRecDepth 100000 in
theorem gramaryelaw04_LexReads.doneN (w : World) : Calls Tryd.prog 20 #[.pointer none] w fun e w' => e = .returned (.bool true) ∧ w' = w := by
  go_enter Tryd.func20, Tryd.ntmps20
  go_wp2
  go_ret
  exact ⟨rfl, rfl⟩
set_option maxHeartbeats 8000000 in
set_option maxRecDepth 100000 in
theorem gramaryelaw04_LexReads.nextN (w : World) : Calls Tryd.prog 16 #[.pointer none] w fun e w' => e = .returned (gramaryelaw04_LexReads.tv ⟨0, ⟨#[]⟩, 0, 0⟩) ∧ Below w.heap.size w w' := by
  go_enter Tryd.func16, Tryd.ntmps16
  go_wp2_with fail
  refine (gramaryelaw04_LexReads.peekN _).mono ?_
  rintro e w1 ⟨rfl, hb1⟩
  have hR1 := blk_below (blk_new w (.cells #[.int .i64 0, .string ⟨#[]⟩, .int .i64 0, .int .i64 0] 34)) hb1
  have hB1 := below_step (below_alloc (Below.refl w.heap.size w) (.cells #[.int .i64 0, .string ⟨#[]⟩, .int .i64 0, .int .i64 0] 34)) hb1
  go_wp2_with fail
  refine (gramaryelaw04_LexReads.doneN _).mono ?_
  rintro e w3 ⟨rfl, rfl⟩
  have hn := blk_new w1 (.cells #[.int .i64 0, .string ⟨#[]⟩, .int .i64 0, .int .i64 0] 34)
  have hlt := blk_lt hR1
  have c0 := blk_cell hn 0
  have c1 := blk_cell hn 1
  have c2 := blk_cell hn 2
  have c3 := blk_cell hn 3
  have hR3 := blk_alloc hR1 (.cells #[.int .i64 0, .string ⟨#[]⟩, .int .i64 0, .int .i64 0] 34)
  have hB3 := below_alloc hB1 (.cells #[.int .i64 0, .string ⟨#[]⟩, .int .i64 0, .int .i64 0] 34)
  generalize World.alloc w1 _ = W2 at *
  have r0 := blk_cell hR3 0
  have q0 := blk_frozen hR3 0
  have r1 := blk_cell hR3 1
  have q1 := blk_frozen hR3 1
  have r2 := blk_cell hR3 2
  have q2 := blk_frozen hR3 2
  have r3 := blk_cell hR3 3
  have q3 := blk_frozen hR3 3
  go_wp2
  refine bodyPost_ret (results_cell_row rfl _ _ w.heap.size 34 #[.int .i64 0, .string ⟨#[]⟩, .int .i64 0, .int .i64 0] (0, 0) _ rfl (gramaryelaw04_LexReads.put4 hR3 _ _ _ _) Tryd.underlying34 rfl (by kernel_rfl)) rfl ?_
  exact ⟨rfl, gramaryelaw04_LexReads.put4b hB3 (Nat.le_refl _) _ _ _ _⟩
set_option maxHeartbeats 8000000 in
set_option maxRecDepth 100000 in
theorem gramaryelaw04_LexReads.takeN (w : World) : Calls Tryd.prog 18 #[.pointer none, .int .i64 0, .string ⟨#[]⟩] w fun e w' => e = .returned (.bool false) ∧ Below w.heap.size w w' := by
  go_enter Tryd.func18, Tryd.ntmps18
  go_wp2_with fail
  refine (gramaryelaw04_LexReads.peekN _).mono ?_
  rintro e w1 ⟨rfl, hb1⟩
  go_wp2_with fail
  refine (gramaryelaw04_LexReads.doneN _).mono ?_
  rintro e w3 ⟨rfl, rfl⟩
  have hn := blk_new w1 (.cells #[.int .i64 0, .string ⟨#[]⟩, .int .i64 0, .int .i64 0] 34)
  have c0 := blk_cell hn 0
  have c1 := blk_cell hn 1
  have hB3 := below_alloc hb1 (.cells #[.int .i64 0, .string ⟨#[]⟩, .int .i64 0, .int .i64 0] 34)
  generalize World.alloc w1 _ = W2 at *
  go_wp2
  go_ret
  exact ⟨rfl, hB3⟩
/-- What is left behind the next token. -/
theorem gramaryelaw04_LexReads.cut {w0 : World} {A : Option Addr} {c : Nat} {l : List S34} (hr : Kd.C k34 w0 A l.length l) (hc : l.length ≤ c) (h0 : l ≠ []) : ∃ A' c', (∀ W : World, (Instr.slice 23 (.slice A l.length c) (some (.int .i64 1)) none none).run Tryd.prog W = .ok (.slice A' l.tail.length c') W) ∧ Kd.C k34 w0 A' l.tail.length l.tail ∧ l.tail.length ≤ c' := by
  obtain ⟨i0, hi0, _, hsz, _⟩ := info_parts info34
  have hl : 0 < l.length := List.length_pos_iff.2 h0
  have hcut := cut_from (P := Tryd.prog) 23 34 .i64 Tryd.underlying23 hi0 4 hsz A l.length c 1 (by omega) (by omega)
  have hC := Kd.C_drop (m := 1) (c := c) hr (by omega) hc
  have e : l.drop 1 = l.tail := by cases l <;> rfl
  rw [e] at hC
  refine ⟨if c = 1 then A else A.map (·.add (1 * 4)), c - 1, fun W => ?_, hC, by rw [List.length_tail]; omega⟩
  rw [List.length_tail]
  exact hcut W
set_option maxHeartbeats 8000000 in
set_option maxRecDepth 100000 in
theorem gramaryelaw04_LexReads.next (w0 w : World) (g : Nat) (l : List S34) (en : Int) (hI : IsS79 w0 w g l en) (hB : Below w0.heap.size w0 w) : Calls Tryd.prog 16 #[.pointer (some ⟨g, 0, none⟩)] w fun e w' => e = .returned (gramaryelaw04_LexReads.tv (gramaryelaw04_LexReads.tokA l en)) ∧ IsS79 w0 w' g l.tail en ∧ Below w0.heap.size w0 w' ∧ KeepBut w w' g none := by
  have HI := Aside0.mk hI
  have HB := Aside0.mk hB
  have hgw : w.heap.size ≠ g := fun h => by have := hI.lt; omega
  clear hI hB
  go_enter Tryd.func16, Tryd.ntmps16
  go_wp2_with fail
  refine (lex_Reader_Peek.calls g l en _ _ _ _ _ w0 _ (HI.out.alloc _) (below_alloc HB.out _) (gramaryelaw04_LexReads.peek_f l en)).mono ?_
  rintro e w1 ⟨rfl, hI1, hB1, hK1⟩
  have hR1 := (hK1.2 w.heap.size (by simp) hgw (by simp)).trans (blk_new w (.cells #[.int .i64 0, .string ⟨#[]⟩, .int .i64 0, .int .i64 0] 34))
  have HR1 := Aside0.mk hR1
  have HI1 := Aside0.mk hI1
  have HB1 := Aside0.mk hB1
  have HK1 := Aside0.mk ((keep_alloc (KeepBut.refl w g none) _).trans hK1 (.inl rfl))
  clear hI1 hB1 hK1 hR1
  go_wp2_with fail
  have hBK := blk_new w1 (.cells #[.int .i64 (gramaryelaw04_LexReads.tokA l en).f0, .string (gramaryelaw04_LexReads.tokA l en).f1, .int .i64 (gramaryelaw04_LexReads.tokA l en).f2, .int .i64 (gramaryelaw04_LexReads.tokA l en).f3] 34)
  have hRB := blk_alloc HR1.out (.cells #[.int .i64 (gramaryelaw04_LexReads.tokA l en).f0, .string (gramaryelaw04_LexReads.tokA l en).f1, .int .i64 (gramaryelaw04_LexReads.tokA l en).f2, .int .i64 (gramaryelaw04_LexReads.tokA l en).f3] 34)
  have hB2 := below_alloc (Below.refl w1.heap.size w1) (.cells #[.int .i64 (gramaryelaw04_LexReads.tokA l en).f0, .string (gramaryelaw04_LexReads.tokA l en).f1, .int .i64 (gramaryelaw04_LexReads.tokA l en).f2, .int .i64 (gramaryelaw04_LexReads.tokA l en).f3] 34)
  generalize World.alloc w1 _ = W2 at *
  have hne : w1.heap.size ≠ g := fun h => by have := HI1.out.lt; omega
  refine (lex_Reader_Done.calls g l en (((l.length : Int) == 0)) en w0 W2 (HI1.out.below hB2) (below_step HB1.out hB2) rfl).mono ?_
  rintro e w3 ⟨rfl, hI3, hB3, hK3⟩
  have BK3 := (hK3.2 _ (blk_lt hBK) hne (by simp)).trans hBK
  have hR3 := (hK3.2 _ (blk_lt hRB) hgw (by simp)).trans hRB
  have HR3 := Aside0.mk hR3
  have HKK : Aside0 (KeepBut w w3 g none) := ⟨(HK1.out.trans (KeepBut.of_below hB2 g none) (.inl rfl)).trans hK3 (.inl rfl)⟩
  have HB3 := Aside0.mk hB3
  have hwg : w0.heap.size ≤ w.heap.size := HB.out.size
  have c0 := blk_cell BK3 0
  have c1 := blk_cell BK3 1
  have c2 := blk_cell BK3 2
  have c3 := blk_cell BK3 3
  clear hB3 hK3 hBK hRB hB2 HB1 HK1 HI1 hR3
  cases l with
  | nil =>
    have HI3 := Aside0.mk hI3
    have r0 := blk_cell HR3.out 0
    have q0 := blk_frozen HR3.out 0
    have r1 := blk_cell HR3.out 1
    have q1 := blk_frozen HR3.out 1
    have r2 := blk_cell HR3.out 2
    have q2 := blk_frozen HR3.out 2
    have r3 := blk_cell HR3.out 3
    have q3 := blk_frozen HR3.out 3
    clear hI3 BK3
    go_wp2
    refine bodyPost_ret (results_cell_row rfl _ _ w.heap.size 34 _ (0, 0) _ rfl (gramaryelaw04_LexReads.put4 HR3.out _ _ _ _) Tryd.underlying34 rfl (by kernel_rfl)) rfl ?_
    obtain ⟨A, c, hbx, hgx, hrx⟩ := HI3.out
    exact ⟨rfl, ⟨A, c, gramaryelaw04_LexReads.put4n hbx hgw.symm _ _ _ _, hgx, hrx⟩, gramaryelaw04_LexReads.put4b HB3.out hwg _ _ _ _, gramaryelaw04_LexReads.put4k HKK.out (Nat.le_refl _) _ _ _ _⟩
  | cons t l =>
    obtain ⟨A, c, hbx, hgx, hrx, hlx⟩ := hI3
    obtain ⟨A', c', hcut, hr', hl'⟩ := gramaryelaw04_LexReads.cut hrx hlx (List.cons_ne_nil t l)
    have HBX := Aside0.mk hbx
    have HGX := Aside0.mk hgx
    have HR' := Aside0.mk hr'
    have HL' := Aside0.mk hl'
    have s0 := blk_cell hbx 0
    have f0 := blk_frozen hbx 0
    have hz : ((((t :: l).length : Int)) == 0) = false := by rw [beq_eq_false_iff_ne]; simp; omega
    obtain ⟨n, hn⟩ : ∃ n, n = (t :: l).length := ⟨_, rfl⟩
    obtain ⟨m, hm⟩ : ∃ m, m = (t :: l).tail.length := ⟨_, rfl⟩
    rw [← hn] at hz hcut s0
    rw [← hm] at hcut
    rw [← hn]
    have HM := Aside0.mk hm
    have HN := Aside0.mk hn
    have hR4 := blk_far HR3.out (p := ⟨g, 0, none⟩) hgw (.slice A' m c')
    have hBK4 := blk_far BK3 (p := ⟨g, 0, none⟩) hne (.slice A' m c')
    have HR4 := Aside0.mk hR4
    have d0 := blk_cell hBK4 0
    have d1 := blk_cell hBK4 1
    have d2 := blk_cell hBK4 2
    have d3 := blk_cell hBK4 3
    have r0 := blk_cell hR4 0
    have q0 := blk_frozen hR4 0
    have r1 := blk_cell hR4 1
    have q1 := blk_frozen hR4 1
    have r2 := blk_cell hR4 2
    have q2 := blk_frozen hR4 2
    have r3 := blk_cell hR4 3
    have q3 := blk_frozen hR4 3
    clear hbx hgx hrx hlx hr' hl' hm hn BK3 hR4 hBK4 c0 c1 c2 c3
    go_wp2
    refine bodyPost_ret (results_cell_row rfl _ _ w.heap.size 34 _ (0, 0) _ rfl (gramaryelaw04_LexReads.put4 HR4.out _ _ _ _) Tryd.underlying34 rfl (by kernel_rfl)) rfl ?_
    refine ⟨rfl, ⟨A', c', ?_, HGX.out, HR'.out, HL'.out⟩, gramaryelaw04_LexReads.put4b (below_set HB3.out HGX.out) hwg _ _ _ _, gramaryelaw04_LexReads.put4k (KeepBut.set_ HKK.out 0 _) (Nat.le_refl _) _ _ _ _⟩
    refine gramaryelaw04_LexReads.put4n ?_ hgw.symm _ _ _ _
    rw [← HM.out]
    simpa using blk_set HBX.out 0 (.slice A' m c')
/-- Whether the next token is one that is asked for. -/
def gramaryelaw04_LexReads.tk (l : List S34) (kind : Int) (s : ByteArray) : Bool := match l with | [] => false | t :: _ => decide (t.f0 = kind ∧ t.f1.toList = s.toList)
set_option maxHeartbeats 8000000 in
set_option maxRecDepth 100000 in
theorem gramaryelaw04_LexReads.take (w0 w : World) (g : Nat) (l : List S34) (en : Int) (kind : Int) (s : ByteArray) (hI : IsS79 w0 w g l en) (hB : Below w0.heap.size w0 w) : Calls Tryd.prog 18 #[.pointer (some ⟨g, 0, none⟩), .int .i64 kind, .string s] w fun e w' => e = .returned (.bool (gramaryelaw04_LexReads.tk l kind s)) ∧ IsS79 w0 w' g (if gramaryelaw04_LexReads.tk l kind s = true then l.tail else l) en ∧ Below w0.heap.size w0 w' ∧ KeepBut w w' g none := by
  have HI := Aside0.mk hI
  have HB := Aside0.mk hB
  clear hI hB
  obtain ⟨b, HTB⟩ : ∃ b, Aside0 (b = gramaryelaw04_LexReads.tk l kind s) := ⟨_, ⟨rfl⟩⟩
  rw [← HTB.out]
  go_enter Tryd.func18, Tryd.ntmps18
  go_wp2_with fail
  refine (lex_Reader_Peek.calls g l en _ _ _ _ _ w0 _ HI.out HB.out (gramaryelaw04_LexReads.peek_f l en)).mono ?_
  rintro e w1 ⟨rfl, hI1, hB1, hK1⟩
  have HI1 := Aside0.mk hI1
  have HB1 := Aside0.mk hB1
  have HK1 := Aside0.mk hK1
  clear hI1 hB1 hK1
  go_wp2_with fail
  have hBK := blk_new w1 (.cells #[.int .i64 (gramaryelaw04_LexReads.tokA l en).f0, .string (gramaryelaw04_LexReads.tokA l en).f1, .int .i64 (gramaryelaw04_LexReads.tokA l en).f2, .int .i64 (gramaryelaw04_LexReads.tokA l en).f3] 34)
  have hB2 := below_alloc (Below.refl w1.heap.size w1) (.cells #[.int .i64 (gramaryelaw04_LexReads.tokA l en).f0, .string (gramaryelaw04_LexReads.tokA l en).f1, .int .i64 (gramaryelaw04_LexReads.tokA l en).f2, .int .i64 (gramaryelaw04_LexReads.tokA l en).f3] 34)
  generalize World.alloc w1 _ = W2 at *
  have hne : w1.heap.size ≠ g := fun h => by have := HI1.out.lt; omega
  refine (lex_Reader_Done.calls g l en (((l.length : Int) == 0)) en w0 W2 (HI1.out.below hB2) (below_step HB1.out hB2) rfl).mono ?_
  rintro e w3 ⟨rfl, hI3, hB3, hK3⟩
  have BK3 := (hK3.2 _ (blk_lt hBK) hne (by simp)).trans hBK
  have HKK : Aside0 (KeepBut w w3 g none) := ⟨(HK1.out.trans (KeepBut.of_below hB2 g none) (.inl rfl)).trans hK3 (.inl rfl)⟩
  have HB3 := Aside0.mk hB3
  have HI3 := Aside0.mk hI3
  have c0 := blk_cell BK3 0
  have c1 := blk_cell BK3 1
  clear hB3 hK3 hBK hB2 HB1 HK1 HI1 hI3 BK3
  cases l with
  | nil =>
    obtain rfl : b = false := HTB.out
    go_wp2
    go_ret
    exact ⟨rfl, HI3.out, HB3.out, HKK.out⟩
  | cons t l =>
    have hz : ((((t :: l).length : Int)) == 0) = false := by rw [beq_eq_false_iff_ne]; simp; omega
    obtain ⟨A, c, hbx, hgx, hrx, hlx⟩ := HI3.out
    obtain ⟨A', c', hcut, hr', hl'⟩ := gramaryelaw04_LexReads.cut hrx hlx (List.cons_ne_nil t l)
    have HBX := Aside0.mk hbx
    have HGX := Aside0.mk hgx
    have HR' := Aside0.mk hr'
    have HL' := Aside0.mk hl'
    have s0 := blk_cell hbx 0
    have f0 := blk_frozen hbx 0
    obtain ⟨n, hn⟩ : ∃ n, n = (t :: l).length := ⟨_, rfl⟩
    obtain ⟨m, hm⟩ : ∃ m, m = (t :: l).tail.length := ⟨_, rfl⟩
    rw [← hn] at hz hcut s0
    rw [← hm] at hcut
    rw [← hn]
    have HM := Aside0.mk hm
    obtain ⟨u0, h0⟩ : ∃ u, u = t.f0 := ⟨_, rfl⟩
    obtain ⟨u1, h1⟩ : ∃ u, u = t.f1 := ⟨_, rfl⟩
    replace c0 : w3.cell? ⟨w1.heap.size, 0, none⟩ = some (.int .i64 u0) := by rw [h0]; exact c0
    replace c1 : w3.cell? ⟨w1.heap.size, 1, none⟩ = some (.string u1) := by rw [h1]; exact c1
    have HT : Aside0 (gramaryelaw04_LexReads.tk (t :: l) kind s = decide (u0 = kind ∧ u1.toList = s.toList)) := ⟨by rw [h0, h1]; rfl⟩
    clear hbx hgx hrx hlx hr' hl' hm hn h0 h1
    by_cases e0 : u0 = kind
    · have e0a : (u0 != kind) = false := by rw [e0]; exact bne_self_eq_false _
      by_cases e1 : u1.toList = s.toList
      · have e1a : (u1.toList != s.toList) = false := by rw [e1]; exact bne_self_eq_false _
        have e1b : (u1.toList == s.toList) = true := beq_iff_eq.mpr e1
        have HT2 : Aside0 (gramaryelaw04_LexReads.tk (t :: l) kind s = true) := ⟨by rw [HT.out]; exact decide_eq_true ⟨e0, e1⟩⟩
        obtain rfl : b = true := HTB.out.trans HT2.out
        clear e0 e1
        go_wp2
        go_ret
        refine ⟨rfl, ⟨A', c', ?_, HGX.out, HR'.out, HL'.out⟩, below_set HB3.out HGX.out, KeepBut.set_ HKK.out 0 _⟩
        rw [← show m = l.length from HM.out]
        simpa using blk_set HBX.out 0 (.slice A' m c')
      · have e1a : (u1.toList != s.toList) = true := bne_iff_ne.mpr e1
        have e1b : (u1.toList == s.toList) = false := beq_eq_false_iff_ne.mpr e1
        have HT2 : Aside0 (gramaryelaw04_LexReads.tk (t :: l) kind s = false) := ⟨by rw [HT.out]; exact decide_eq_false (fun h => e1 h.2)⟩
        obtain rfl : b = false := HTB.out.trans HT2.out
        clear e0 e1
        go_wp2
        go_ret
        exact ⟨rfl, HI3.out, HB3.out, HKK.out⟩
    · have e0a : (u0 != kind) = true := bne_iff_ne.mpr e0
      have HT2 : Aside0 (gramaryelaw04_LexReads.tk (t :: l) kind s = false) := ⟨by rw [HT.out]; exact decide_eq_false (fun h => e0 h.1)⟩
      obtain rfl : b = false := HTB.out.trans HT2.out
      clear e0
      go_wp2
      go_ret
      exact ⟨rfl, HI3.out, HB3.out, HKK.out⟩
set_option maxHeartbeats 8000000 in
set_option maxRecDepth 100000 in
theorem gramaryelaw04_LexReads.refPeek (w0 w : World) (g : Nat) (l : List S34) (p : Nat) (en : Int) (hI : gramaryelaw04_LexReads.IsR w0 w g l p en) (hp : p ≤ l.length) (hB : Below w0.heap.size w0 w) : Calls Tryd.prog 13 #[.pointer (some ⟨g, 0, none⟩)] w fun e w' => e = .returned (gramaryelaw04_LexReads.tv (gramaryelaw04_LexReads.tokA (l.drop p) en)) ∧ Below w.heap.size w w' := by
  obtain ⟨A, c, hbx, hgx, hrx, hlx⟩ := hI
  have HBX := Aside0.mk (blk_alloc hbx (.cells #[.int .i64 0, .string ⟨#[]⟩, .int .i64 0, .int .i64 0] 34))
  have HRX := Aside0.mk hrx
  have HB := Aside0.mk hB
  have hR := blk_new w (.cells #[.int .i64 0, .string ⟨#[]⟩, .int .i64 0, .int .i64 0] 34)
  have HR := Aside0.mk hR
  have hba : Below w.heap.size w (w.alloc (.cells #[.int .i64 0, .string ⟨#[]⟩, .int .i64 0, .int .i64 0] 34)) := below_alloc (Below.refl _ _) _
  have HBA := Aside0.mk hba
  have HLA := Aside0.mk (below_alloc hB (.cells #[.int .i64 0, .string ⟨#[]⟩, .int .i64 0, .int .i64 0] 34))
  have hu := Tryd.underlying34
  clear hbx hrx hB hba
  obtain ⟨tt, HTT⟩ : ∃ tt, Aside0 (tt = gramaryelaw04_LexReads.tokA (l.drop p) en) := ⟨_, ⟨rfl⟩⟩
  rw [← HTT.out]
  go_enter Tryd.func13, Tryd.ntmps13
  go_wp2_with fail
  generalize World.alloc w _ = W1 at *
  have c0 := blk_cell HBX.out 0
  have c1 := blk_cell HBX.out 1
  have c2 := blk_cell HBX.out 2
  have r0 := blk_cell HR.out 0
  have q0 := blk_frozen HR.out 0
  have r1 := blk_cell HR.out 1
  have q1 := blk_frozen HR.out 1
  have r2 := blk_cell HR.out 2
  have q2 := blk_frozen HR.out 2
  have r3 := blk_cell HR.out 3
  have q3 := blk_frozen HR.out 3
  by_cases h0 : p = l.length
  · have e0 : gramaryelaw04_LexReads.tokA (l.drop p) en = ⟨0, ⟨#[]⟩, 0, en⟩ := by rw [h0, List.drop_length]; rfl
    have d0 : decide ((l.length : Int) ≤ (p : Int)) = true := decide_eq_true (by omega)
    have d1 : decide (l.length ≤ p) = true := decide_eq_true (by omega)
    obtain rfl := HTT.out.trans e0
    clear h0 hp e0
    go_quiet (fail)
    go_wp2
    refine bodyPost_ret (results_cell_row rfl _ _ w.heap.size 34 _ (0, 0) _ rfl (by refine gramaryelaw04_LexReads.put4 (z0 := .int .i64 0) (z1 := .string ⟨#[]⟩) (z2 := .int .i64 0) (z3 := .int .i64 0) ?_ _ _ _ _; exact HR.out) Tryd.underlying34 rfl (by kernel_rfl)) rfl ?_
    exact ⟨rfl, gramaryelaw04_LexReads.put4b (by repeat (first | exact HBA.out | apply pw_below_drewN | apply below_drew1)) (Nat.le_refl _) _ _ _ _⟩
  · obtain ⟨t, ts, ht⟩ : ∃ t ts, l.drop p = t :: ts := by
      cases hd : l.drop p with
      | nil => have := congrArg List.length hd; rw [List.length_drop, List.length_nil] at this; omega
      | cons t ts => exact ⟨t, ts, rfl⟩
    have hrd : rd_T34 l (p : Int) = t := by
      unfold rd_T34
      rw [Int.toNat_natCast, List.getD_eq_getElem?_getD, ← List.head?_drop, ht]; rfl
    obtain ⟨ad, hA, x0, x1, x2, x3⟩ := at_T34 (Kd.C_below HRX.out HLA.out) (p : Int) (by omega) (by omega)
    rw [hrd] at x0 x1 x2 x3
    simp only [Int.toNat_natCast] at x0 x1 x2 x3
    cases hA
    obtain rfl : tt = t := HTT.out.trans (by rw [ht]; rfl)
    have d0 : decide ((l.length : Int) ≤ (p : Int)) = false := decide_eq_false (by omega)
    have d1 : decide (l.length ≤ p) = false := decide_eq_false (by omega)
    have p1 := eq_true (show (0 : Int) ≤ (p : Int) by omega)
    have p2 := eq_true (show (p : Int) < (l.length : Int) by omega)
    clear h0 hp hrd ht
    go_quiet (fail)
    go_wp2
    generalize hW5 : World.drewN W1 _ = W5
    have cc : ∀ a, W5.cell? a = W1.cell? a := fun a => by rw [← hW5]; rfl
    have ff : ∀ a, W5.frozen? a = W1.frozen? a := fun a => by rw [← hW5]; rfl
    have HR5 : Aside0 (W5.heap[w.heap.size]? = some (.cells #[.int .i64 0, .string ⟨#[]⟩, .int .i64 0, .int .i64 0] 34 (0, 0))) := ⟨by rw [← hW5]; exact HR.out⟩
    have HB5 : Aside0 (Below w.heap.size w W5) := ⟨by rw [← hW5]; exact pw_below_drewN HBA.out _⟩
    rw [← cc] at c0 c1 x0 x1 x2 x3 r0 r1 r2 r3
    rw [← ff] at q0 q1 q2 q3
    clear cc ff hW5 c2
    go_still_tail 10, (by kernel_rfl)
    go_wp2
    refine bodyPost_ret (results_cell_row rfl _ _ w.heap.size 34 _ (0, 0) _ rfl (by refine gramaryelaw04_LexReads.put4 (z0 := .int .i64 0) (z1 := .string ⟨#[]⟩) (z2 := .int .i64 0) (z3 := .int .i64 0) ?_ _ _ _ _; exact HR5.out) Tryd.underlying34 rfl (by kernel_rfl)) rfl ?_
    exact ⟨rfl, below_drew1 (gramaryelaw04_LexReads.put4b HB5.out (Nat.le_refl _) _ _ _ _)⟩
set_option maxHeartbeats 8000000 in
set_option maxRecDepth 100000 in
theorem gramaryelaw04_LexReads.refNext (w0 w : World) (g : Nat) (l : List S34) (p : Nat) (en : Int) (hI : gramaryelaw04_LexReads.IsR w0 w g l p en) (hp : p ≤ l.length) (hB : Below w0.heap.size w0 w) : Calls Tryd.prog 17 #[.pointer (some ⟨g, 0, none⟩)] w fun e w' => e = .returned (gramaryelaw04_LexReads.tv (gramaryelaw04_LexReads.tokA (l.drop p) en)) ∧ gramaryelaw04_LexReads.IsR w0 w' g l (if p < l.length then p + 1 else p) en ∧ Below w0.heap.size w0 w' ∧ KeepBut w w' g none := by
  have HI := Aside0.mk hI
  have HB := Aside0.mk hB
  obtain ⟨A, c, hbx, hgx, hrx, hlx⟩ := hI
  have HBX := Aside0.mk hbx
  have HGX := Aside0.mk hgx
  have HRX := Aside0.mk hrx
  have HLX := Aside0.mk hlx
  have hmax := Kd.C_max hrx
  have hgw : w.heap.size ≠ g := fun h => by have := blk_lt hbx; omega
  clear hB hbx hgx hrx hlx
  obtain ⟨p', HPP⟩ : ∃ q, Aside0 (q = if p < l.length then p + 1 else p) := ⟨_, ⟨rfl⟩⟩
  rw [← HPP.out]
  obtain ⟨tt, HTT⟩ : ∃ tt, Aside0 (tt = gramaryelaw04_LexReads.tokA (l.drop p) en) := ⟨_, ⟨rfl⟩⟩
  rw [← HTT.out]
  go_enter Tryd.func17, Tryd.ntmps17
  go_wp2_with fail
  refine (gramaryelaw04_LexReads.refPeek w0 _ g l p en (HI.out.below (below_alloc (Below.refl _ _) _)) hp (below_alloc HB.out _)).mono ?_
  rintro e w1 ⟨rfl, hb1⟩
  rw [← HTT.out]
  have hR1 := blk_below (blk_new w (.cells #[.int .i64 0, .string ⟨#[]⟩, .int .i64 0, .int .i64 0] 34)) hb1
  have hB1 := below_step (below_alloc (Below.refl w.heap.size w) (.cells #[.int .i64 0, .string ⟨#[]⟩, .int .i64 0, .int .i64 0] 34)) hb1
  have hX1 := blk_below HBX.out hB1
  go_wp2_with fail
  have hn := blk_new w1 (.cells #[.int .i64 (tt).f0, .string (tt).f1, .int .i64 (tt).f2, .int .i64 (tt).f3] 34)
  have hR3 := blk_alloc hR1 (.cells #[.int .i64 (tt).f0, .string (tt).f1, .int .i64 (tt).f2, .int .i64 (tt).f3] 34)
  have hX3 := blk_alloc hX1 (.cells #[.int .i64 (tt).f0, .string (tt).f1, .int .i64 (tt).f2, .int .i64 (tt).f3] 34)
  have hB3 := below_alloc hB1 (.cells #[.int .i64 (tt).f0, .string (tt).f1, .int .i64 (tt).f2, .int .i64 (tt).f3] 34)
  have hgn : w1.heap.size ≠ g := fun h => by have := blk_lt hX1; omega
  generalize World.alloc w1 _ = W2 at *
  have HR3 := Aside0.mk hR3
  have HX3 := Aside0.mk hX3
  have HB3 := Aside0.mk hB3
  have HN := Aside0.mk hn
  have c0 := blk_cell hX3 0
  have c1 := blk_cell hX3 1
  have k1 := blk_frozen hX3 1
  have hwg : w0.heap.size ≤ w.heap.size := HB.out.size
  clear hb1 hR1 hB1 hX1 hR3 hX3 hB3 hn
  by_cases h0 : p < l.length
  · have d0 : decide ((p : Int) < (l.length : Int)) = true := decide_eq_true (by omega)
    have d1 : decide (p < l.length) = true := decide_eq_true h0
    have hw1 : wrap64 ((p : Int) + 1) = ((p + 1 : Nat) : Int) := by unfold wrap64; omega
    have hw2 : IntKind.i64.wrap ((p : Int) + 1) = ((p + 1 : Nat) : Int) := (i64_w _).trans hw1
    have b0 := blk_cell HN.out 0
    have b1 := blk_cell HN.out 1
    have b2 := blk_cell HN.out 2
    have b3 := blk_cell HN.out 3
    have r0 := blk_cell HR3.out 0
    have q0 := blk_frozen HR3.out 0
    have r1 := blk_cell HR3.out 1
    have q1 := blk_frozen HR3.out 1
    have r2 := blk_cell HR3.out 2
    have q2 := blk_frozen HR3.out 2
    have r3 := blk_cell HR3.out 3
    have q3 := blk_frozen HR3.out 3
    obtain rfl : p' = p + 1 := HPP.out.trans (if_pos h0)
    clear h0 hp
    go_quiet (fail)
    go_wp2
    refine bodyPost_ret (results_cell_row rfl _ _ w.heap.size 34 _ (0, 0) _ rfl (by refine gramaryelaw04_LexReads.put4 (z0 := .int .i64 0) (z1 := .string ⟨#[]⟩) (z2 := .int .i64 0) (z3 := .int .i64 0) ?_ _ _ _ _; exact blk_far (blk_drewN HR3.out _) (p := ⟨g, 1, none⟩) hgw _) Tryd.underlying34 rfl (by kernel_rfl)) rfl ?_
    refine ⟨rfl, ⟨A, c, ?_, HGX.out, HRX.out, HLX.out⟩, gramaryelaw04_LexReads.put4b (below_set (pw_below_drewN (below_step HB.out HB3.out) _) HGX.out) hwg _ _ _ _, gramaryelaw04_LexReads.put4k (KeepBut.set_ (keep_drewN (KeepBut.of_below HB3.out g none) _) 1 _) (Nat.le_refl _) _ _ _ _⟩
    refine gramaryelaw04_LexReads.put4n ?_ hgw.symm _ _ _ _
    have h := blk_set (blk_drewN HX3.out nq) 1 (.int .i64 ((p : Int) + 1))
    simpa using h
  · have d0 : decide ((p : Int) < (l.length : Int)) = false := decide_eq_false (by omega)
    have d1 : decide (p < l.length) = false := decide_eq_false h0
    have b0 := blk_cell HN.out 0
    have b1 := blk_cell HN.out 1
    have b2 := blk_cell HN.out 2
    have b3 := blk_cell HN.out 3
    have r0 := blk_cell HR3.out 0
    have q0 := blk_frozen HR3.out 0
    have r1 := blk_cell HR3.out 1
    have q1 := blk_frozen HR3.out 1
    have r2 := blk_cell HR3.out 2
    have q2 := blk_frozen HR3.out 2
    have r3 := blk_cell HR3.out 3
    have q3 := blk_frozen HR3.out 3
    obtain rfl : p' = p := HPP.out.trans (if_neg h0)
    clear h0 hp
    go_quiet (fail)
    go_wp2
    refine bodyPost_ret (results_cell_row rfl _ _ w.heap.size 34 _ (0, 0) _ rfl (by refine gramaryelaw04_LexReads.put4 (z0 := .int .i64 0) (z1 := .string ⟨#[]⟩) (z2 := .int .i64 0) (z3 := .int .i64 0) ?_ _ _ _ _; exact blk_drewN HR3.out _) Tryd.underlying34 rfl (by kernel_rfl)) rfl ?_
    exact ⟨rfl, ⟨A, c, gramaryelaw04_LexReads.put4n (blk_drewN HX3.out _) hgw.symm _ _ _ _, HGX.out, HRX.out, HLX.out⟩, gramaryelaw04_LexReads.put4b (pw_below_drewN (below_step HB.out HB3.out) _) hwg _ _ _ _, gramaryelaw04_LexReads.put4k (keep_drewN (KeepBut.of_below HB3.out g none) _) (Nat.le_refl _) _ _ _ _⟩
set_option maxHeartbeats 8000000 in
set_option maxRecDepth 100000 in
theorem gramaryelaw04_LexReads.refTake (w0 w : World) (g : Nat) (l : List S34) (p : Nat) (en : Int) (kind : Int) (s : ByteArray) (hI : gramaryelaw04_LexReads.IsR w0 w g l p en) (hp : p ≤ l.length) (hB : Below w0.heap.size w0 w) : Calls Tryd.prog 19 #[.pointer (some ⟨g, 0, none⟩), .int .i64 kind, .string s] w fun e w' => e = .returned (.bool (gramaryelaw04_LexReads.tk (l.drop p) kind s)) ∧ gramaryelaw04_LexReads.IsR w0 w' g l (if gramaryelaw04_LexReads.tk (l.drop p) kind s = true then p + 1 else p) en ∧ Below w0.heap.size w0 w' ∧ KeepBut w w' g none := by
  have HI := Aside0.mk hI
  have HB := Aside0.mk hB
  obtain ⟨A, c, hbx, hgx, hrx, hlx⟩ := hI
  have HBX := Aside0.mk hbx
  have HGX := Aside0.mk hgx
  have HRX := Aside0.mk hrx
  have HLX := Aside0.mk hlx
  have hmax := Kd.C_max hrx
  clear hB hbx hgx hrx hlx
  obtain ⟨b, HTB⟩ : ∃ b, Aside0 (b = gramaryelaw04_LexReads.tk (l.drop p) kind s) := ⟨_, ⟨rfl⟩⟩
  rw [← HTB.out]
  obtain ⟨tt, HTT⟩ : ∃ tt, Aside0 (tt = gramaryelaw04_LexReads.tokA (l.drop p) en) := ⟨_, ⟨rfl⟩⟩
  go_enter Tryd.func19, Tryd.ntmps19
  go_wp2_with fail
  refine (gramaryelaw04_LexReads.refPeek w0 _ g l p en HI.out hp HB.out).mono ?_
  rintro e w1 ⟨rfl, hb1⟩
  rw [← HTT.out]
  have hX1 := blk_below HBX.out hb1
  go_wp2_with fail
  have hn := blk_new w1 (.cells #[.int .i64 tt.f0, .string tt.f1, .int .i64 tt.f2, .int .i64 tt.f3] 34)
  have hX3 := blk_alloc hX1 (.cells #[.int .i64 tt.f0, .string tt.f1, .int .i64 tt.f2, .int .i64 tt.f3] 34)
  have hB3 := below_alloc hb1 (.cells #[.int .i64 tt.f0, .string tt.f1, .int .i64 tt.f2, .int .i64 tt.f3] 34)
  have hgn : w1.heap.size ≠ g := fun h => by have := blk_lt hX1; omega
  generalize World.alloc w1 _ = W2 at *
  have HX3 := Aside0.mk hX3
  have HB3 := Aside0.mk hB3
  have c0 := blk_cell hX3 0
  have c1 := blk_cell hX3 1
  have k1 := blk_frozen hX3 1
  clear hb1 hX1 hB3 hX3
  by_cases h0 : p < l.length
  · obtain ⟨t, ts, ht⟩ : ∃ t ts, l.drop p = t :: ts := by
      cases hd : l.drop p with
      | nil => have := congrArg List.length hd; rw [List.length_drop, List.length_nil] at this; omega
      | cons t ts => exact ⟨t, ts, rfl⟩
    obtain rfl : tt = t := HTT.out.trans (by rw [ht]; rfl)
    have HT : Aside0 (b = decide (tt.f0 = kind ∧ tt.f1.toList = s.toList)) := ⟨HTB.out.trans (by rw [ht]; rfl)⟩
    obtain ⟨u0, hu0⟩ : ∃ u, u = tt.f0 := ⟨_, rfl⟩
    obtain ⟨u1, hu1⟩ : ∃ u, u = tt.f1 := ⟨_, rfl⟩
    have b0 : W2.cell? ⟨w1.heap.size, 0, none⟩ = some (.int .i64 u0) := (blk_cell hn 0).trans (by rw [hu0]; rfl)
    have b1 : W2.cell? ⟨w1.heap.size, 1, none⟩ = some (.string u1) := (blk_cell hn 1).trans (by rw [hu1]; rfl)
    rw [← hu0, ← hu1] at HT
    have d0 : decide ((l.length : Int) ≤ (p : Int)) = false := decide_eq_false (by omega)
    have d1 : decide (l.length ≤ p) = false := decide_eq_false (by omega)
    have hw1 : wrap64 ((p : Int) + 1) = ((p + 1 : Nat) : Int) := by unfold wrap64; omega
    have hw2 : IntKind.i64.wrap ((p : Int) + 1) = ((p + 1 : Nat) : Int) := (i64_w _).trans hw1
    clear hu0 hu1 hn ht h0 hp
    by_cases e0 : u0 = kind
    · have e0a : (u0 != kind) = false := by rw [e0]; exact bne_self_eq_false _
      by_cases e1 : u1.toList = s.toList
      · have e1a : (u1.toList != s.toList) = false := by rw [e1]; exact bne_self_eq_false _
        have e1b : (u1.toList == s.toList) = true := beq_iff_eq.mpr e1
        obtain rfl : b = true := HT.out.trans (decide_eq_true ⟨e0, e1⟩)
        clear e0 e1
        go_quiet (fail)
        go_wp2
        go_ret
        refine ⟨rfl, ⟨A, c, ?_, HGX.out, HRX.out, HLX.out⟩, below_set (pw_below_drewN (below_step HB.out HB3.out) _) HGX.out, KeepBut.set_ (keep_drewN (KeepBut.of_below HB3.out g none) _) 1 _⟩
        have h := blk_set (blk_drewN HX3.out nq) 1 (.int .i64 ((p : Int) + 1))
        simpa using h
      · have e1a : (u1.toList != s.toList) = true := bne_iff_ne.mpr e1
        have e1b : (u1.toList == s.toList) = false := beq_eq_false_iff_ne.mpr e1
        obtain rfl : b = false := HT.out.trans (decide_eq_false (fun h => e1 h.2))
        clear e0 e1
        go_quiet (fail)
        go_wp2
        go_ret
        exact ⟨rfl, ⟨A, c, blk_drewN HX3.out _, HGX.out, HRX.out, HLX.out⟩, pw_below_drewN (below_step HB.out HB3.out) _, keep_drewN (KeepBut.of_below HB3.out g none) _⟩
    · have e0a : (u0 != kind) = true := bne_iff_ne.mpr e0
      obtain rfl : b = false := HT.out.trans (decide_eq_false (fun h => e0 h.1))
      clear e0
      go_quiet (fail)
      go_wp2
      go_ret
      exact ⟨rfl, ⟨A, c, blk_drewN HX3.out _, HGX.out, HRX.out, HLX.out⟩, pw_below_drewN (below_step HB.out HB3.out) _, keep_drewN (KeepBut.of_below HB3.out g none) _⟩
  · have hd : l.drop p = [] := List.drop_of_length_le (by omega)
    obtain rfl : b = false := HTB.out.trans (by rw [hd]; rfl)
    have d0 : decide ((l.length : Int) ≤ (p : Int)) = true := decide_eq_true (by omega)
    have d1 : decide (l.length ≤ p) = true := decide_eq_true (by omega)
    clear h0 hp hd
    go_quiet (fail)
    go_wp2
    go_ret
    exact ⟨rfl, ⟨A, c, blk_drewN HX3.out _, HGX.out, HRX.out, HLX.out⟩, pw_below_drewN (below_step HB.out HB3.out) _, keep_drewN (KeepBut.of_below HB3.out g none) _⟩
set_option maxHeartbeats 8000000 in
set_option maxRecDepth 100000 in
theorem gramaryelaw04_LexReads.newR (A : Option Addr) (c : Nat) (l : List S34) (en : Int) (w : World) (hr : Kd.C k34 w A l.length l) (hc : l.length ≤ c) (hl : l.length < 3518437208883) : Calls Tryd.prog 12 #[.slice A l.length c, .int .i64 en] w fun e w' => ∃ w1 g, e = .returned (.pointer (some ⟨g, 0, none⟩)) ∧ IsS79 w1 w' g l en ∧ Below w.heap.size w w1 ∧ Below w1.heap.size w1 w' ∧ g = w1.heap.size := by
  go_enter Tryd.func12, Tryd.ntmps12
  go_wp2_with fail
  refine (api_Token.calls A c l l w hr hc (if_pos hl)).mono ?_
  rintro e w1 ⟨v0, rfl, hR, hb⟩
  obtain ⟨A', c', e2⟩ := Kd.R_slice hR
  subst e2
  have HR := Aside0.mk (Kd.R_reads' hR).2
  have HB := Aside0.mk hb
  clear hR hb hr hc
  go_wp2
  go_ret
  exact ⟨w1, w1.heap.size, rfl, ⟨A', c', blk_new _ _, Nat.le_refl _, HR.out.2, HR.out.1⟩, HB.out, below_alloc (Below.refl _ _) _, rfl⟩
theorem gramaryelaw04_LexReads.drop_tail (L : List S34) {p : Nat} (hp : p ≤ L.length) : (L.drop p).tail = L.drop (if p < L.length then p + 1 else p) ∧ (if p < L.length then p + 1 else p) ≤ L.length := by
  by_cases h : p < L.length
  · rw [if_pos h]
    exact ⟨by rw [List.tail_drop], h⟩
  · rw [if_neg h]
    exact ⟨by rw [List.drop_of_length_le (by omega)]; rfl, hp⟩
set_option maxHeartbeats 8000000 in
set_option maxRecDepth 100000 in
theorem gramaryelaw04_LexReads.calls (k : Nat) (a0 : ByteArray) (a1 : Int) (A2 : Option Addr) (c2 : Nat) (l2 : List S37) (r : Bool) (w : World) (hr2 : Kd.C k37 w A2 l2.length l2) (hc2 : l2.length ≤ c2) (hG : GL w) (h : gramaryelaw04_LexReads.f k a0 a1 l2 = some r) :
    Calls Tryd.prog 3 #[.string a0, .int .i64 a1, .slice A2 l2.length c2] w fun e w' => e = .returned (.bool r) ∧ Below w.heap.size w w' := by
  unfold gramaryelaw04_LexReads.f at h
  obtain ⟨s, hs, h⟩ := Option.bind_eq_some_iff.mp h
  obtain ⟨⟨L, n0, e0⟩, ha, h⟩ := Option.bind_eq_some_iff.mp h
  obtain ⟨L', hcl, h⟩ := Option.bind_eq_some_iff.mp h
  have hlen : L.length < 3518437208883 := by
    unfold api_Token.f at hcl
    by_cases hl : L.length < 3518437208883
    · exact hl
    · rw [if_neg hl] at hcl; cases hcl
  have hsz : ∀ x ∈ L, x.f1.size ≤ 1000000 := by
    by_cases hz : ∀ x ∈ L, x.f1.size ≤ 1000000
    · exact hz
    · rw [if_neg hz] at h; cases h
  rw [if_pos hsz] at h
  have HS := Aside0.mk hs
  have HA := Aside0.mk ha
  have HW := Aside0.mk h
  have HL := Aside0.mk hlen
  have HSZ := Aside0.mk hsz
  have HR2 := Aside0.mk hr2
  have HC2 := Aside0.mk hc2
  have HG := Aside0.mk hG
  have hu := Tryd.underlying34
  clear hs ha h hcl hlen hsz hr2 hc2 hG
  go_enter Tryd.func3, Tryd.ntmps3
  go_wp2_with fail
  refine (gramaryelaw04_short.calls a0 s w HS.out).mono ?_
  rintro e w1 ⟨rfl, hb1⟩
  have HB1 := Aside0.mk hb1
  clear hb1
  go_wp2_with fail
  refine (gramaryeref04_All.calls k s L n0 e0 w1 HA.out).mono ?_
  rintro e w2 ⟨v0, rfl, hR, hb2⟩
  obtain ⟨A, c, e2⟩ := Kd.R_slice hR
  subst e2
  have HB2 := Aside0.mk (below_step HB1.out hb2)
  have HLX := Aside0.mk (Kd.R_reads' hR).2
  clear hb2 hR HB1
  go_wp2_with (first | ((with_reducible refine gate_dst (N := 23) rfl ?_); refine Kd.R_lit k34 _ 34 ?hg (N := 23) ?hd (xs := ([] : List S34)) (inner := []) (ok := fun _ => True) (okp := fun _ => True) ?hr ?hp (fun _ hk => hk) trivial (Below.refl _ _) (Nat.le_refl _) (by simp) ?_; (case hd => rfl); (case hg => rfl); (case hr => first | (go_simp; done) | (go_simp; rfl)); (case hp => exact (Reps.none _ _)); intro v1 w3 ho4 hb hg_ hnew_; clear hg_ hnew_; have HO := Aside0.mk ho4; have HB3 := Aside0.mk hb; clear hb ho4) | ((with_reducible refine gate_builtin (b := .append) (xs := #[.tmp 23, .tmp 24]) rfl ?_); at_builtin; refine Kd.R_append_rows k34 (w0 := w2) w2.heap.size rfl (.tmp 23) (.tmp 24) 23 34 (.agg #[.int .i64 0, .string ⟨#[]⟩, .int .i64 0, .int .i64 0]) 40 rfl Tryd.underlying23 info34 rfl (by decide) (by omega) v1 [] L _ _ _ (fun _ => True) (fun _ => False) rfl rfl ?aO ?aR (fun _ _ h => h) (fun _ h => h.elim) ?aF ?aB ?aS ?aL ?_; (case aR => exact Kd.C_below HLX.out.2 HB3.out); (case aB => exact HB3.out); (case aF => exact (fun _ _ => trivial)); (case aO => exact HO.out); (case aS => exact HB3.out.size); (case aL => have := HL.out; simp; omega); intro v2 w5 ho hb hg hat; rw [List.nil_append] at ho; have HO2 := Aside0.mk ho; have HB5 := Aside0.mk hb; clear ho hb hg hat))
  have ho2 := HO2.out
  obtain ⟨A5, c5, e5⟩ := Kd.R_slice ho2
  subst e5
  clear ho2
  refine (gramaryelaw04_LexReads.newR A5 c5 L a1 w5 (Kd.R_reads' HO2.out).2.2 (Kd.R_reads' HO2.out).2.1 HL.out).mono ?_
  rintro e w7 ⟨w6, g1, rfl, hI7, hb6, hb7, hg1⟩
  have HI7 := Aside0.mk hI7
  have HB6 := Aside0.mk (below_step HB5.out hb6)
  have HB7 := Aside0.mk hb7
  have HG1 := Aside0.mk hg1
  clear hI7 hb6 hb7 hg1
  go_wp2_with fail
  have HIR : Aside0 (gramaryelaw04_LexReads.IsR w6 (w7.alloc (.cells #[.slice A L.length c, .int .i64 0, .int .i64 a1] 32)) w7.heap.size L 0 a1) := ⟨⟨A, c, blk_new _ _, HB7.out.size, Kd.C_below HLX.out.2 HB6.out, HLX.out.1⟩⟩
  have HNE : Aside0 (g1 ≠ w7.heap.size) := ⟨Nat.ne_of_lt HI7.out.lt⟩
  have HBW := Aside0.mk (below_step HB2.out HB6.out)
  go_loopg [12] 61 (fun kq v wr => ∃ (i p : Nat), v = .int .i64 (i : Int) ∧ Aside0 (i + kq = 61 ∧ i ≤ 60) ∧ Aside0 (p ≤ L.length) ∧ Aside0 (IsS79 w6 wr g1 (L.drop p) a1) ∧ Aside0 (gramaryelaw04_LexReads.IsR w6 wr w7.heap.size L p a1) ∧ Aside0 (Below w6.heap.size w6 wr))
  case atStart => exact ⟨0, 0, rfl, ⟨rfl, Nat.zero_le _⟩, ⟨Nat.zero_le _⟩, ⟨by rw [List.drop_zero]; exact HI7.out.alloc _⟩, HIR, ⟨below_alloc HB7.out _⟩⟩
  case round =>
    obtain ⟨i, p, rfl, HIK, HP, HIS, HIQ, HB⟩ := hrel
    cases gk with
    | zero => have := HIK.out; exfalso; omega
    | succ k1 =>
      have fin : Aside0 (i < l2.length ∧ i < 60) ∨ Aside0 (¬ (i < l2.length ∧ i < 60)) := by
        by_cases h : i < l2.length ∧ i < 60
        · exact .inl ⟨h⟩
        · exact .inr ⟨h⟩
      rcases fin with HF | HF
      · have h1 : decide (i < l2.length) = true := decide_eq_true HF.out.1
        have h1' : decide ((i : Int) < (l2.length : Int)) = true := decide_eq_true (by have := HF.out.1; omega)
        have h2 : decide (i < 60) = true := decide_eq_true HF.out.2
        have h2' : decide ((i : Int) < 60) = true := decide_eq_true (by have := HF.out.2; omega)
        go_wp2_with fail
        refine (gramaryelaw04_LexReads.refPeek w6 wr w7.heap.size L p a1 HIQ.out HP.out HB.out).mono ?_
        rintro e w9 ⟨rfl, hb9⟩
        obtain ⟨tt, HTT⟩ : ∃ tt, Aside0 (tt = gramaryelaw04_LexReads.tokA (L.drop p) a1) := ⟨_, ⟨rfl⟩⟩
        rw [← HTT.out]
        have hts : tt.f1.size ≤ 1000000 := by
          rw [HTT.out]
          cases hd : L.drop p with
          | nil => exact Nat.zero_le _
          | cons t ts => exact HSZ.out t (List.mem_of_mem_drop (by rw [hd]; exact List.mem_cons_self))
        have HIS9 := Aside0.mk (HIS.out.below hb9)
        have HIQ9 := Aside0.mk (HIQ.out.below hb9)
        have HB9 := Aside0.mk (below_step HB.out hb9)
        obtain ⟨ad, hA, y0, y1⟩ := at_T37 (Kd.C_below HR2.out (below_step HBW.out HB9.out)) (i : Int) (by omega) (by have := HF.out.1; omega)
        cases hA
        simp only [Int.toNat_natCast] at y0 y1
        have hadl := World.block_lt_of_cell? _ _ y0
        have hadb : (ad.add (i * 2)).block ≠ w9.heap.size := Nat.ne_of_lt hadl
        have hba := below_alloc (Below.refl w9.heap.size w9) (.cells #[.int .i64 tt.f0, .string tt.f1, .int .i64 tt.f2, .int .i64 tt.f3] 34)
        have y00 := y0
        replace y0 := (hba.cell hadl).trans y0
        replace y1 := (hba.cell (World.block_lt_of_cell? _ _ y1)).trans y1
        have HN := Aside0.mk (blk_new w9 (.cells #[.int .i64 tt.f0, .string tt.f1, .int .i64 tt.f2, .int .i64 tt.f3] 34))
        have b0 := blk_cell HN.out 0
        have b1 := blk_cell HN.out 1
        have k1 := blk_frozen HN.out 1
        have p1 := eq_true (show (0 : Int) ≤ (i : Int) by omega)
        have p2 := eq_true (show (i : Int) < (l2.length : Int) by have := HF.out.1; omega)
        have p3 := eq_true HF.out.1
        have hts2 : tt.f1.size + 1 ≤ 9223372036854775807 := by omega
        have hts3 := eq_true hts2
        obtain ⟨du, hdu⟩ : ∃ x, x = (rd_T37 l2 (i : Int)).f0 := ⟨_, rfl⟩
        obtain ⟨nb, hnb⟩ : ∃ x, x = (rd_T37 l2 (i : Int)).f1 := ⟨_, rfl⟩
        rw [← hdu] at y0 y00
        rw [← hnb] at y1
        obtain ⟨v, HV⟩ : ∃ v, Aside0 (gramaryebase_Among.f du 4 = some v) := by
          unfold gramaryebase_Among.f
          rw [if_neg (by omega), if_neg (by decide)]
          exact ⟨_, ⟨rfl⟩⟩
        have HG12 : Aside0 (w9.heap.size ≠ g1 ∧ w9.heap.size ≠ w7.heap.size) := ⟨by have := HIS9.out.lt; omega, by obtain ⟨_, _, hb, _⟩ := HIQ9.out; have := blk_lt hb; omega⟩
        clear hdu hnb hba hb9
        have HWI : Aside0 (wrap64 ((i : Int) + 1) = ((i + 1 : Nat) : Int)) := ⟨by have := HIK.out; unfold wrap64; omega⟩
        cases nb
        · go_wp2_with fail
          refine (gramaryebase_Among.calls du 4 v _ HV.out).mono ?_
          rintro e w10 ⟨rfl, ⟨nd, rfl⟩⟩
          have F1 : Aside0 (IsS79 w6 ((w9.alloc (.cells #[.int .i64 tt.f0, .string tt.f1, .int .i64 tt.f2, .int .i64 tt.f3] 34)).drewN nd) g1 (L.drop p) a1) := ⟨(HIS9.out.alloc _).drewN nd⟩
          have F2 : Aside0 (gramaryelaw04_LexReads.IsR w6 ((w9.alloc (.cells #[.int .i64 tt.f0, .string tt.f1, .int .i64 tt.f2, .int .i64 tt.f3] 34)).drewN nd) w7.heap.size L p a1) := ⟨HIQ9.out.below (pw_below_drewN (below_alloc (Below.refl _ _) _) nd)⟩
          have F3 : Aside0 (Below w6.heap.size w6 ((w9.alloc (.cells #[.int .i64 tt.f0, .string tt.f1, .int .i64 tt.f2, .int .i64 tt.f3] 34)).drewN nd)) := ⟨pw_below_drewN (below_alloc HB9.out _) nd⟩
          have F4 : Aside0 (((w9.alloc (.cells #[.int .i64 tt.f0, .string tt.f1, .int .i64 tt.f2, .int .i64 tt.f3] 34)).drewN nd).heap[w9.heap.size]? = some (.cells #[.int .i64 tt.f0, .string tt.f1, .int .i64 tt.f2, .int .i64 tt.f3] 34 (0, 0))) := ⟨blk_drewN HN.out nd⟩
          generalize World.drewN (World.alloc w9 _) _ = W11 at *
          have b0 := blk_cell F4.out 0
          have b1 := blk_cell F4.out 1
          clear HN k1 y0 y1 y00 hadl HIS9 HIQ9 HB9 hadb hts2 hts3
          have KE : Aside0 ((L.drop p).tail = L.drop (if p < L.length then p + 1 else p) ∧ (if p < L.length then p + 1 else p) ≤ L.length) := ⟨gramaryelaw04_LexReads.drop_tail L HP.out⟩
          by_cases v0 : v = 0
          · have v0a : (v == 0) = true := beq_iff_eq.mpr v0
            clear v0
            go_wp2_with fail
            refine (lex_Reader_Peek.calls g1 (L.drop p) a1 _ _ _ _ _ w6 W11 F1.out F3.out (gramaryelaw04_LexReads.peek_f (L.drop p) a1)).mono ?_
            rintro e w12 ⟨rfl, hI12, hB12, hK12⟩
            rw [← HTT.out]
            have F1b := Aside0.mk hI12
            have F2b := Aside0.mk (F2.out.keep hK12 HNE.out.symm)
            have F3b := Aside0.mk hB12
            clear hI12 hB12 hK12
            go_wp2_with fail
            refine (gramaryelaw04_LexReads.refPeek w6 w12 w7.heap.size L p a1 F2b.out HP.out F3b.out).mono ?_
            rintro e w13 ⟨rfl, hb13⟩
            rw [← HTT.out]
            go_wp2
            go_roundg k1
            case measure => omega
            case rel => exact ⟨i + 1, p, by rw [HWI.out], ⟨by have := HIK.out; have := HF.out; omega⟩, HP, ⟨F1b.out.below hb13⟩, ⟨F2b.out.below hb13⟩, ⟨below_step F3b.out hb13⟩⟩
          · have v0a : (v == 0) = false := beq_eq_false_iff_ne.mpr v0
            by_cases v1 : v = 1
            · have v1a : (v == 1) = true := beq_iff_eq.mpr v1
              clear v0 v1
              go_wp2_with fail
              refine (gramaryelaw04_LexReads.next w6 W11 g1 (L.drop p) a1 F1.out F3.out).mono ?_
              rintro e w12 ⟨rfl, hI12, hB12, hK12⟩
              rw [← HTT.out]
              have F1b := Aside0.mk hI12
              have F2b := Aside0.mk (F2.out.keep hK12 HNE.out.symm)
              have F3b := Aside0.mk hB12
              clear hI12 hB12 hK12
              go_wp2_with fail
              refine (gramaryelaw04_LexReads.refNext w6 w12 w7.heap.size L p a1 F2b.out HP.out F3b.out).mono ?_
              rintro e w13 ⟨rfl, hI13, hB13, hK13⟩
              rw [← HTT.out]
              have HI13 := Aside0.mk hI13
              have HB13 := Aside0.mk hB13
              have HK13 := Aside0.mk hK13
              clear hI13 hB13 hK13
              go_wp2
              go_roundg k1
              case measure => omega
              case rel => exact ⟨i + 1, _, by rw [HWI.out], ⟨by have := HIK.out; have := HF.out; omega⟩, ⟨KE.out.2⟩, ⟨by rw [← KE.out.1]; exact gramaryelaw04_LexReads.keepS F1b.out HK13.out HNE.out⟩, HI13, HB13⟩
            · have v1a : (v == 1) = false := beq_eq_false_iff_ne.mpr v1
              by_cases v2 : v = 2
              · have v2a : (v == 2) = true := beq_iff_eq.mpr v2
                clear v0 v1 v2
                obtain ⟨tb, HTB⟩ : ∃ tb, Aside0 (tb = gramaryelaw04_LexReads.tk (L.drop p) tt.f0 tt.f1) := ⟨_, ⟨rfl⟩⟩
                have HT1 : ∀ W, IsS79 w6 W g1 (L.drop p) a1 → Below w6.heap.size w6 W → Calls Tryd.prog 18 #[.pointer (some ⟨g1, 0, none⟩), .int .i64 tt.f0, .string tt.f1] W fun e w' => e = .returned (.bool tb) ∧ IsS79 w6 w' g1 (if tb = true then (L.drop p).tail else L.drop p) a1 ∧ Below w6.heap.size w6 w' ∧ KeepBut W w' g1 none := fun W h1 h2 => by
                  rw [HTB.out]; exact gramaryelaw04_LexReads.take w6 W g1 (L.drop p) a1 tt.f0 tt.f1 h1 h2
                have HT2 : ∀ W, gramaryelaw04_LexReads.IsR w6 W w7.heap.size L p a1 → Below w6.heap.size w6 W → Calls Tryd.prog 19 #[.pointer (some ⟨w7.heap.size, 0, none⟩), .int .i64 tt.f0, .string tt.f1] W fun e w' => e = .returned (.bool tb) ∧ gramaryelaw04_LexReads.IsR w6 w' w7.heap.size L (if tb = true then p + 1 else p) a1 ∧ Below w6.heap.size w6 w' ∧ KeepBut W w' w7.heap.size none := fun W h1 h2 => by
                  rw [HTB.out]; exact gramaryelaw04_LexReads.refTake w6 W w7.heap.size L p a1 tt.f0 tt.f1 h1 HP.out h2
                have HT1 := Aside0.mk HT1
                have HT2 := Aside0.mk HT2
                have d0 : W11.cell? ⟨w9.heap.size, 0, none⟩ = some (.int .i64 tt.f0) := b0
                have d1 : W11.cell? ⟨w9.heap.size, 1, none⟩ = some (.string tt.f1) := b1
                have KT : Aside0 (tb = true → p + 1 ≤ L.length) := ⟨fun h => by
                  rcases Nat.lt_or_ge p L.length with h2 | h2
                  · exact h2
                  · rw [HTB.out, List.drop_of_length_le h2] at h; cases h⟩
                clear b0 b1
                go_wp2
                cases tb
                · go_region_held3 (fun V => V.cell? ⟨w9.heap.size, 0, none⟩ = some (.int .i64 tt.f0) ∧ V.cell? ⟨w9.heap.size, 1, none⟩ = some (.string tt.f1)) (first | go_keep | exact ⟨keep_cell hK12 d0 HG12.out.1, keep_cell hK12 d1 HG12.out.1⟩ | exact ⟨keep_cell hK13 (keep_cell hK12 d0 HG12.out.1) HG12.out.2, keep_cell hK13 (keep_cell hK12 d1 HG12.out.1) HG12.out.2⟩) (first | (go_at_call 18; refine (HT1.out _ F1.out.drew (below_drew1 F3.out)).mono ?_; rintro e w12 ⟨rfl, hI12, hB12, hK12⟩) | (go_at_call 19; refine (HT2.out w12 (gramaryelaw04_LexReads.IsR.keep F2.out hK12 HNE.out.symm) hB12).mono ?_; rintro e w13 ⟨rfl, hI13, hB13, hK13⟩))
                  go_wp2
                  go_roundg k1
                  case measure => omega
                  case rel => exact ⟨i + 1, p, by rw [HWI.out], ⟨by have := HIK.out; have := HF.out; omega⟩, HP, ⟨gramaryelaw04_LexReads.keepS hI12 hK13 HNE.out⟩, ⟨hI13⟩, ⟨hB13⟩⟩
                · go_region_held3 (fun V => V.cell? ⟨w9.heap.size, 0, none⟩ = some (.int .i64 tt.f0) ∧ V.cell? ⟨w9.heap.size, 1, none⟩ = some (.string tt.f1)) (first | go_keep | exact ⟨keep_cell hK12 d0 HG12.out.1, keep_cell hK12 d1 HG12.out.1⟩ | exact ⟨keep_cell hK13 (keep_cell hK12 d0 HG12.out.1) HG12.out.2, keep_cell hK13 (keep_cell hK12 d1 HG12.out.1) HG12.out.2⟩) (first | (go_at_call 18; refine (HT1.out _ F1.out.drew (below_drew1 F3.out)).mono ?_; rintro e w12 ⟨rfl, hI12, hB12, hK12⟩) | (go_at_call 19; refine (HT2.out w12 (gramaryelaw04_LexReads.IsR.keep F2.out hK12 HNE.out.symm) hB12).mono ?_; rintro e w13 ⟨rfl, hI13, hB13, hK13⟩))
                  go_wp2
                  go_roundg k1
                  case measure => omega
                  case rel => exact ⟨i + 1, p + 1, by rw [HWI.out], ⟨by have := HIK.out; have := HF.out; omega⟩, ⟨KT.out (by trivial)⟩, ⟨by have h := gramaryelaw04_LexReads.keepS hI12 hK13 HNE.out; rw [if_pos trivial, List.tail_drop] at h; exact h⟩, ⟨hI13⟩, ⟨hB13⟩⟩
              · have v2a : (v == 2) = false := beq_eq_false_iff_ne.mpr v2
                clear v0 v1 v2
                obtain ⟨A7, c7, hb7, hg7, hr7⟩ := F2.out
                have d1 : W11.cell? ⟨w7.heap.size, 1, none⟩ = some (.int .i64 (p : Int)) := blk_cell hb7 1
                clear hb7 hg7 hr7 b0 b1
                obtain ⟨bb, HBB⟩ : ∃ bb, Aside0 (lex_Reader_Done.f (L.drop p) a1 = some (bb, a1) ∧ decide (L.length ≤ p) = bb ∧ decide ((L.length : Int) ≤ (p : Int)) = bb) := by
                  unfold lex_Reader_Done.f
                  by_cases h : L.length ≤ p
                  · exact ⟨true, ⟨by rw [List.drop_of_length_le h]; rfl, decide_eq_true h, decide_eq_true (by omega)⟩⟩
                  · refine ⟨false, ⟨?_, decide_eq_false h, decide_eq_false (by omega)⟩⟩
                    rw [List.length_drop, show (((L.length - p : Nat) : Int) == 0) = false from beq_eq_false_iff_ne.mpr (by omega)]
                obtain ⟨HBD, x1, x2⟩ := HBB.out
                have HBD := Aside0.mk HBD
                clear HBB
                go_wp2
                cases bb
                · go_region_held3 (fun V => V.cell? ⟨w7.heap.size, 1, none⟩ = some (.int .i64 (p : Int))) (first | go_keep | exact keep_cell hK12 d1 HNE.out.symm) (first | (go_at_call 20; refine (lex_Reader_Done.calls g1 (L.drop p) a1 _ a1 w6 _ F1.out.drew (below_drew1 F3.out) HBD.out).mono ?_; rintro e w12 ⟨rfl, hI12, hB12, hK12⟩))
                  go_wp2
                  go_roundg k1
                  case measure => omega
                  case rel => exact ⟨i + 1, p, by rw [HWI.out], ⟨by have := HIK.out; have := HF.out; omega⟩, HP, ⟨hI12⟩, ⟨gramaryelaw04_LexReads.IsR.keep F2.out hK12 HNE.out.symm⟩, ⟨hB12⟩⟩
                · go_region_held3 (fun V => V.cell? ⟨w7.heap.size, 1, none⟩ = some (.int .i64 (p : Int))) (first | go_keep | exact keep_cell hK12 d1 HNE.out.symm) (first | (go_at_call 20; refine (lex_Reader_Done.calls g1 (L.drop p) a1 _ a1 w6 _ F1.out.drew (below_drew1 F3.out) HBD.out).mono ?_; rintro e w12 ⟨rfl, hI12, hB12, hK12⟩))
                  go_wp2
                  go_roundg k1
                  case measure => omega
                  case rel => exact ⟨i + 1, p, by rw [HWI.out], ⟨by have := HIK.out; have := HF.out; omega⟩, HP, ⟨hI12⟩, ⟨gramaryelaw04_LexReads.IsR.keep F2.out hK12 HNE.out.symm⟩, ⟨hB12⟩⟩
        · have y0s := ((below_alloc (Below.refl w9.heap.size w9) (.cells #[.int .i64 tt.f0, .string (tt.f1 ++ ⟨#[120]⟩), .int .i64 tt.f2, .int .i64 tt.f3] 34)).cell hadl).trans y00
          have HN2 := Aside0.mk (blk_new w9 (.cells #[.int .i64 tt.f0, .string (tt.f1 ++ ⟨#[120]⟩), .int .i64 tt.f2, .int .i64 tt.f3] 34))
          go_wp2_with fail
          refine (gramaryebase_Among.calls du 4 v _ HV.out).mono ?_
          rintro e w10 ⟨rfl, ⟨nd, rfl⟩⟩
          have F1 : Aside0 (IsS79 w6 ((w9.alloc (.cells #[.int .i64 tt.f0, .string (tt.f1 ++ ⟨#[120]⟩), .int .i64 tt.f2, .int .i64 tt.f3] 34)).drewN nd) g1 (L.drop p) a1) := ⟨(HIS9.out.alloc _).drewN nd⟩
          have F2 : Aside0 (gramaryelaw04_LexReads.IsR w6 ((w9.alloc (.cells #[.int .i64 tt.f0, .string (tt.f1 ++ ⟨#[120]⟩), .int .i64 tt.f2, .int .i64 tt.f3] 34)).drewN nd) w7.heap.size L p a1) := ⟨HIQ9.out.below (pw_below_drewN (below_alloc (Below.refl _ _) _) nd)⟩
          have F3 : Aside0 (Below w6.heap.size w6 ((w9.alloc (.cells #[.int .i64 tt.f0, .string (tt.f1 ++ ⟨#[120]⟩), .int .i64 tt.f2, .int .i64 tt.f3] 34)).drewN nd)) := ⟨pw_below_drewN (below_alloc HB9.out _) nd⟩
          have F4 : Aside0 (((w9.alloc (.cells #[.int .i64 tt.f0, .string (tt.f1 ++ ⟨#[120]⟩), .int .i64 tt.f2, .int .i64 tt.f3] 34)).drewN nd).heap[w9.heap.size]? = some (.cells #[.int .i64 tt.f0, .string (tt.f1 ++ ⟨#[120]⟩), .int .i64 tt.f2, .int .i64 tt.f3] 34 (0, 0))) := ⟨blk_drewN HN2.out nd⟩
          generalize World.drewN (World.alloc w9 _) _ = W11 at *
          have b0 := blk_cell F4.out 0
          have b1 := blk_cell F4.out 1
          clear HN k1 y0 y1 y00 hadl HIS9 HIQ9 HB9 hadb hts2 hts3 y0s HN2
          have KE : Aside0 ((L.drop p).tail = L.drop (if p < L.length then p + 1 else p) ∧ (if p < L.length then p + 1 else p) ≤ L.length) := ⟨gramaryelaw04_LexReads.drop_tail L HP.out⟩
          by_cases v0 : v = 0
          · have v0a : (v == 0) = true := beq_iff_eq.mpr v0
            clear v0
            go_wp2_with fail
            refine (lex_Reader_Peek.calls g1 (L.drop p) a1 _ _ _ _ _ w6 W11 F1.out F3.out (gramaryelaw04_LexReads.peek_f (L.drop p) a1)).mono ?_
            rintro e w12 ⟨rfl, hI12, hB12, hK12⟩
            rw [← HTT.out]
            have F1b := Aside0.mk hI12
            have F2b := Aside0.mk (F2.out.keep hK12 HNE.out.symm)
            have F3b := Aside0.mk hB12
            clear hI12 hB12 hK12
            go_wp2_with fail
            refine (gramaryelaw04_LexReads.refPeek w6 w12 w7.heap.size L p a1 F2b.out HP.out F3b.out).mono ?_
            rintro e w13 ⟨rfl, hb13⟩
            rw [← HTT.out]
            go_wp2
            go_roundg k1
            case measure => omega
            case rel => exact ⟨i + 1, p, by rw [HWI.out], ⟨by have := HIK.out; have := HF.out; omega⟩, HP, ⟨F1b.out.below hb13⟩, ⟨F2b.out.below hb13⟩, ⟨below_step F3b.out hb13⟩⟩
          · have v0a : (v == 0) = false := beq_eq_false_iff_ne.mpr v0
            by_cases v1 : v = 1
            · have v1a : (v == 1) = true := beq_iff_eq.mpr v1
              clear v0 v1
              go_wp2_with fail
              refine (gramaryelaw04_LexReads.next w6 W11 g1 (L.drop p) a1 F1.out F3.out).mono ?_
              rintro e w12 ⟨rfl, hI12, hB12, hK12⟩
              rw [← HTT.out]
              have F1b := Aside0.mk hI12
              have F2b := Aside0.mk (F2.out.keep hK12 HNE.out.symm)
              have F3b := Aside0.mk hB12
              clear hI12 hB12 hK12
              go_wp2_with fail
              refine (gramaryelaw04_LexReads.refNext w6 w12 w7.heap.size L p a1 F2b.out HP.out F3b.out).mono ?_
              rintro e w13 ⟨rfl, hI13, hB13, hK13⟩
              rw [← HTT.out]
              have HI13 := Aside0.mk hI13
              have HB13 := Aside0.mk hB13
              have HK13 := Aside0.mk hK13
              clear hI13 hB13 hK13
              go_wp2
              go_roundg k1
              case measure => omega
              case rel => exact ⟨i + 1, _, by rw [HWI.out], ⟨by have := HIK.out; have := HF.out; omega⟩, ⟨KE.out.2⟩, ⟨by rw [← KE.out.1]; exact gramaryelaw04_LexReads.keepS F1b.out HK13.out HNE.out⟩, HI13, HB13⟩
            · have v1a : (v == 1) = false := beq_eq_false_iff_ne.mpr v1
              by_cases v2 : v = 2
              · have v2a : (v == 2) = true := beq_iff_eq.mpr v2
                clear v0 v1 v2
                obtain ⟨tb, HTB⟩ : ∃ tb, Aside0 (tb = gramaryelaw04_LexReads.tk (L.drop p) tt.f0 (tt.f1 ++ ⟨#[120]⟩)) := ⟨_, ⟨rfl⟩⟩
                have HT1 : ∀ W, IsS79 w6 W g1 (L.drop p) a1 → Below w6.heap.size w6 W → Calls Tryd.prog 18 #[.pointer (some ⟨g1, 0, none⟩), .int .i64 tt.f0, .string (tt.f1 ++ ⟨#[120]⟩)] W fun e w' => e = .returned (.bool tb) ∧ IsS79 w6 w' g1 (if tb = true then (L.drop p).tail else L.drop p) a1 ∧ Below w6.heap.size w6 w' ∧ KeepBut W w' g1 none := fun W h1 h2 => by
                  rw [HTB.out]; exact gramaryelaw04_LexReads.take w6 W g1 (L.drop p) a1 tt.f0 (tt.f1 ++ ⟨#[120]⟩) h1 h2
                have HT2 : ∀ W, gramaryelaw04_LexReads.IsR w6 W w7.heap.size L p a1 → Below w6.heap.size w6 W → Calls Tryd.prog 19 #[.pointer (some ⟨w7.heap.size, 0, none⟩), .int .i64 tt.f0, .string (tt.f1 ++ ⟨#[120]⟩)] W fun e w' => e = .returned (.bool tb) ∧ gramaryelaw04_LexReads.IsR w6 w' w7.heap.size L (if tb = true then p + 1 else p) a1 ∧ Below w6.heap.size w6 w' ∧ KeepBut W w' w7.heap.size none := fun W h1 h2 => by
                  rw [HTB.out]; exact gramaryelaw04_LexReads.refTake w6 W w7.heap.size L p a1 tt.f0 (tt.f1 ++ ⟨#[120]⟩) h1 HP.out h2
                have HT1 := Aside0.mk HT1
                have HT2 := Aside0.mk HT2
                have d0 : W11.cell? ⟨w9.heap.size, 0, none⟩ = some (.int .i64 tt.f0) := b0
                have d1 : W11.cell? ⟨w9.heap.size, 1, none⟩ = some (.string (tt.f1 ++ ⟨#[120]⟩)) := b1
                have KT : Aside0 (tb = true → p + 1 ≤ L.length) := ⟨fun h => by
                  rcases Nat.lt_or_ge p L.length with h2 | h2
                  · exact h2
                  · rw [HTB.out, List.drop_of_length_le h2] at h; cases h⟩
                clear b0 b1
                go_wp2
                cases tb
                · go_region_held3 (fun V => V.cell? ⟨w9.heap.size, 0, none⟩ = some (.int .i64 tt.f0) ∧ V.cell? ⟨w9.heap.size, 1, none⟩ = some (.string (tt.f1 ++ ⟨#[120]⟩))) (first | go_keep | exact ⟨keep_cell hK12 d0 HG12.out.1, keep_cell hK12 d1 HG12.out.1⟩ | exact ⟨keep_cell hK13 (keep_cell hK12 d0 HG12.out.1) HG12.out.2, keep_cell hK13 (keep_cell hK12 d1 HG12.out.1) HG12.out.2⟩) (first | (go_at_call 18; refine (HT1.out _ F1.out.drew (below_drew1 F3.out)).mono ?_; rintro e w12 ⟨rfl, hI12, hB12, hK12⟩) | (go_at_call 19; refine (HT2.out w12 (gramaryelaw04_LexReads.IsR.keep F2.out hK12 HNE.out.symm) hB12).mono ?_; rintro e w13 ⟨rfl, hI13, hB13, hK13⟩))
                  go_wp2
                  go_roundg k1
                  case measure => omega
                  case rel => exact ⟨i + 1, p, by rw [HWI.out], ⟨by have := HIK.out; have := HF.out; omega⟩, HP, ⟨gramaryelaw04_LexReads.keepS hI12 hK13 HNE.out⟩, ⟨hI13⟩, ⟨hB13⟩⟩
                · go_region_held3 (fun V => V.cell? ⟨w9.heap.size, 0, none⟩ = some (.int .i64 tt.f0) ∧ V.cell? ⟨w9.heap.size, 1, none⟩ = some (.string (tt.f1 ++ ⟨#[120]⟩))) (first | go_keep | exact ⟨keep_cell hK12 d0 HG12.out.1, keep_cell hK12 d1 HG12.out.1⟩ | exact ⟨keep_cell hK13 (keep_cell hK12 d0 HG12.out.1) HG12.out.2, keep_cell hK13 (keep_cell hK12 d1 HG12.out.1) HG12.out.2⟩) (first | (go_at_call 18; refine (HT1.out _ F1.out.drew (below_drew1 F3.out)).mono ?_; rintro e w12 ⟨rfl, hI12, hB12, hK12⟩) | (go_at_call 19; refine (HT2.out w12 (gramaryelaw04_LexReads.IsR.keep F2.out hK12 HNE.out.symm) hB12).mono ?_; rintro e w13 ⟨rfl, hI13, hB13, hK13⟩))
                  go_wp2
                  go_roundg k1
                  case measure => omega
                  case rel => exact ⟨i + 1, p + 1, by rw [HWI.out], ⟨by have := HIK.out; have := HF.out; omega⟩, ⟨KT.out (by trivial)⟩, ⟨by have h := gramaryelaw04_LexReads.keepS hI12 hK13 HNE.out; rw [if_pos trivial, List.tail_drop] at h; exact h⟩, ⟨hI13⟩, ⟨hB13⟩⟩
              · have v2a : (v == 2) = false := beq_eq_false_iff_ne.mpr v2
                clear v0 v1 v2
                obtain ⟨A7, c7, hb7, hg7, hr7⟩ := F2.out
                have d1 : W11.cell? ⟨w7.heap.size, 1, none⟩ = some (.int .i64 (p : Int)) := blk_cell hb7 1
                clear hb7 hg7 hr7 b0 b1
                obtain ⟨bb, HBB⟩ : ∃ bb, Aside0 (lex_Reader_Done.f (L.drop p) a1 = some (bb, a1) ∧ decide (L.length ≤ p) = bb ∧ decide ((L.length : Int) ≤ (p : Int)) = bb) := by
                  unfold lex_Reader_Done.f
                  by_cases h : L.length ≤ p
                  · exact ⟨true, ⟨by rw [List.drop_of_length_le h]; rfl, decide_eq_true h, decide_eq_true (by omega)⟩⟩
                  · refine ⟨false, ⟨?_, decide_eq_false h, decide_eq_false (by omega)⟩⟩
                    rw [List.length_drop, show (((L.length - p : Nat) : Int) == 0) = false from beq_eq_false_iff_ne.mpr (by omega)]
                obtain ⟨HBD, x1, x2⟩ := HBB.out
                have HBD := Aside0.mk HBD
                clear HBB
                go_wp2
                cases bb
                · go_region_held3 (fun V => V.cell? ⟨w7.heap.size, 1, none⟩ = some (.int .i64 (p : Int))) (first | go_keep | exact keep_cell hK12 d1 HNE.out.symm) (first | (go_at_call 20; refine (lex_Reader_Done.calls g1 (L.drop p) a1 _ a1 w6 _ F1.out.drew (below_drew1 F3.out) HBD.out).mono ?_; rintro e w12 ⟨rfl, hI12, hB12, hK12⟩))
                  go_wp2
                  go_roundg k1
                  case measure => omega
                  case rel => exact ⟨i + 1, p, by rw [HWI.out], ⟨by have := HIK.out; have := HF.out; omega⟩, HP, ⟨hI12⟩, ⟨gramaryelaw04_LexReads.IsR.keep F2.out hK12 HNE.out.symm⟩, ⟨hB12⟩⟩
                · go_region_held3 (fun V => V.cell? ⟨w7.heap.size, 1, none⟩ = some (.int .i64 (p : Int))) (first | go_keep | exact keep_cell hK12 d1 HNE.out.symm) (first | (go_at_call 20; refine (lex_Reader_Done.calls g1 (L.drop p) a1 _ a1 w6 _ F1.out.drew (below_drew1 F3.out) HBD.out).mono ?_; rintro e w12 ⟨rfl, hI12, hB12, hK12⟩))
                  go_wp2
                  go_roundg k1
                  case measure => omega
                  case rel => exact ⟨i + 1, p, by rw [HWI.out], ⟨by have := HIK.out; have := HF.out; omega⟩, HP, ⟨hI12⟩, ⟨gramaryelaw04_LexReads.IsR.keep F2.out hK12 HNE.out.symm⟩, ⟨hB12⟩⟩
      · have key : (decide (i < l2.length) = false ∧ decide ((i : Int) < (l2.length : Int)) = false) ∨ ((decide (i < l2.length) = true ∧ decide ((i : Int) < (l2.length : Int)) = true) ∧ decide (i < 60) = false ∧ decide ((i : Int) < 60) = false) := by
          have := HF.out
          by_cases h : i < l2.length
          · exact .inr ⟨⟨decide_eq_true h, decide_eq_true (by omega)⟩, decide_eq_false (fun h2 => this ⟨h, h2⟩), decide_eq_false (fun h2 => this ⟨h, by omega⟩)⟩
          · exact .inl ⟨decide_eq_false h, decide_eq_false (by omega)⟩
        have HKEY := Aside0.mk key
        clear key
        rcases HKEY.out with ⟨h1, h1'⟩ | ⟨⟨h1, h1'⟩, h2, h2'⟩
        · go_wp2_with fail
          refine (gramaryelaw04_LexReads.peekN _).mono ?_
          rintro e w9 ⟨rfl, hb9⟩
          go_wp2_with fail
          refine (gramaryelaw04_LexReads.nextN _).mono ?_
          rintro e w10 ⟨rfl, hb10⟩
          go_wp2_with fail
          refine (gramaryelaw04_LexReads.takeN _).mono ?_
          rintro e w11 ⟨rfl, hb11⟩
          go_wp2_with fail
          refine (gramaryelaw04_LexReads.doneN _).mono ?_
          rintro e w12 ⟨rfl, rfl⟩
          have HBF := Aside0.mk (below_step HBW.out (below_step HB.out (below_step hb9 (below_step hb10 hb11))))
          clear hb9 hb10 hb11
          go_wp2_with fail
          refine (gramaryelaw04_works.calls k r _ (GL.below HG.out HBF.out) HW.out).mono ?_
          rintro e w13 ⟨rfl, hb13⟩
          go_wp2
          go_ret
          exact ⟨rfl, below_step HBF.out hb13⟩
        · go_wp2_with fail
          refine (gramaryelaw04_LexReads.peekN _).mono ?_
          rintro e w9 ⟨rfl, hb9⟩
          go_wp2_with fail
          refine (gramaryelaw04_LexReads.nextN _).mono ?_
          rintro e w10 ⟨rfl, hb10⟩
          go_wp2_with fail
          refine (gramaryelaw04_LexReads.takeN _).mono ?_
          rintro e w11 ⟨rfl, hb11⟩
          go_wp2_with fail
          refine (gramaryelaw04_LexReads.doneN _).mono ?_
          rintro e w12 ⟨rfl, rfl⟩
          have HBF := Aside0.mk (below_step HBW.out (below_step HB.out (below_step hb9 (below_step hb10 hb11))))
          clear hb9 hb10 hb11
          go_wp2_with fail
          refine (gramaryelaw04_works.calls k r _ (GL.below HG.out HBF.out) HW.out).mono ?_
          rintro e w13 ⟨rfl, hb13⟩
          go_wp2
          go_ret
          exact ⟨rfl, below_step HBF.out hb13⟩

/-- What is known of a value of type 37 that came in. -/
def W37 (x : S37) : Prop := (Lit.int .i64 x.f0).wf = true ∧ (True)
/-- THE PURE STATEMENT of gramaryelaw04_LexReads. -/
def gramaryelaw04_LexReads.Pure : Prop := ∀ (a0 : ByteArray) (a1 : Int) (l2 : List (S37)), a0.size ≤ 140737488351232 → (Lit.int .i64 a1).wf = true → l2.length * 16 ≤ 140737488351232 → (l2.length ≤ maxLen ∧ ∀ x_ ∈ l2, W37 x_) → ∃ k, gramaryelaw04_LexReads.f k a0 a1 l2 = some true

end Go.Proofs.YtpfeebmfihgelaaDoor.HLexReads
