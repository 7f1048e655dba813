-- Written by plus.py for this claim: the row of FirstRows.
import Derived.Test.YtpegkfococfkpaaRows
import Derived.Test.YtpegkfococfkpaaHFirstRowsx
import Derived.Test.YtpegkfococfkpaaPureFirstRows
import Derived.Test.YtpegkfococfkpaaSFirstRowsVRow
import Derived.WalkKit
import Derived.ProofKit
import Derived.OpenShut
import Derived.ShutString
import Derived.ChangeOld
import Derived.Below
import Derived.SizedLaws
import Derived.Stop.Joined
namespace Go.Proofs.Ytpegkfococfkpaa.firstRows
open Go.ChangeShapes Go.WideShapes Go.ChangeAt Go.RowKit Go.Proofs.YtpegkfococfkpaaW.PrintWords Go.Proofs.Ytpegkfococfkpaa.HFirstRows
open Go.ChangeMaps (open_string shut_string)
set_option linter.unusedVariables false
set_option linter.unusedSimpArgs false
theorem own : ownKnob Try.prog.godebug = none := by kernel_rfl
theorem laidOut : laidOutB Try.prog = true := by kernel_rfl
theorem reads39 : Plus.Reads Try.prog k39 W39 39 :=
  Plus.reads_struct (fun p => (⟨p.1, p.2⟩ : S39)) (fun _ => rfl) Try.underlying39 (by kernel_rfl) (Plus.readsF_cons rfl (by kernel_rfl) (off' := 1) rfl (Plus.reads_bool Try.underlying4) (Plus.readsF_one rfl (by kernel_rfl) (Plus.reads_int Try.underlying3)))
theorem reads80 : Plus.Reads Try.prog k80 W80 80 :=
  Plus.reads_struct (fun p => (⟨p.1, p.2⟩ : S80)) (fun _ => rfl) Try.underlying80 (by kernel_rfl) (Plus.readsF_cons rfl (by kernel_rfl) (off' := 1) rfl (Plus.reads_int Try.underlying3) (Plus.readsF_one rfl (by kernel_rfl) (Plus.reads_slice Try.underlying35 (by kernel_rfl) reads39)))
theorem reads25 : Plus.Reads Try.prog k25 W25 25 :=
  Plus.reads_struct (fun p => (⟨p.1, p.2.1, p.2.2.1, p.2.2.2⟩ : S25)) (fun _ => rfl) Try.underlying25 (by kernel_rfl) (Plus.readsF_cons rfl (by kernel_rfl) (off' := 1) rfl (Plus.reads_int Try.underlying3) (Plus.readsF_cons rfl (by kernel_rfl) (off' := 2) rfl (Plus.reads_int Try.underlying3) (Plus.readsF_cons rfl (by kernel_rfl) (off' := 3) rfl (Plus.reads_slice Try.underlying22 (by kernel_rfl) (Plus.reads_int Try.underlying3)) (Plus.readsF_one rfl (by kernel_rfl) (Plus.reads_slice Try.underlying23 (by kernel_rfl) reads80)))))
set_option maxRecDepth 100000 in
theorem lifted (os : Os) (started : os.Started) (H : Type) (enc : TypeId × Value → H) :
    ReturnsInHanded {} Try.checked os 4 .any (Rows.firstRowsSpec.pre6 enc Try.prog Try.f4 Rows.firstRowsRow.domain false) (Rows.firstRowsSpec.post enc Try.prog Try.f4 false true false false) := by
  refine returnsInHanded_of_change_sized (C := Try.checked) own started (by kernel_rfl) Try.func4
    (ChangeSpec.witness6 (enc := enc) (C := Try.checked) false ⟨#[], #[(.agg #[(.int .i64 0), (.int .i64 0), (.slice none 0 0), (.slice none 0 0)]), .slice none 0 0], []⟩ 8 (by kernel_rfl) (by kernel_rfl) (by kernel_rfl) (by kernel_rfl)) ?_
  intro W base args ds gs before hval0 hW hcnd hsz0 _
  have hsz : (DataW.weightsEach Try.prog (Try.f4.params.toList ++ Rows.firstRowsSpec.plain.varTypes Try.prog) (ds ++ gs)).all (· ≤ reachBytes) = true := hsz0
  have hval : ∀ (j : Nat) t v, Try.f4.params[j]? = some t → args[j]? = some v → Value.okWide Try.prog W .any base t v := hval0
  have hW' := hW
  obtain ⟨p, q, hA0, hV, rfl, hfz, hnd⟩ := hW
  have hA : DataW.TrodAll enc Try.prog W 0 (fun _ => true) true Try.f4.params.toList args.toList ds p := hA0
  rw [Try.params4] at hA hval hsz
  obtain ⟨v0, vs0, d0, ds0, p0, q0, hargs, rfl, rfl, h0, r0⟩ := trodAll_cons hA
  obtain ⟨v1, vs1, d1, ds1, p1, q1, rfl, rfl, rfl, h1, r1⟩ := trodAll_cons r0
  obtain ⟨rfl, rfl, rfl⟩ := trodAll_nil r1
  obtain rfl : args = #[v0, v1] := by cases args; simp_all
  obtain ⟨rfl, rfl⟩ := trodVars_none hV
  have k0 := h0
  have lt0 : ∀ x ∈ p0, x.block < W.heap.size := by obtain ⟨m, hm⟩ := k0; exact DataW.trod_lt m _ _ _ hm
  obtain ⟨cs0, rfl, hcs0⟩ := okWide_struct Try.underlying25 (hval 0 25 v0 rfl rfl)
  obtain ⟨fuel0, hf0⟩ := h0
  obtain ⟨x0, K0, w0⟩ := reads25 enc W 0 _ true fuel0 _ _ hf0
  obtain ⟨A0_2, c0_2, A0_3, c0_3, e0, hc0_2, hr0_2, hc0_3, hr0_3⟩ := k25_open K0
  replace e0 : cs0.toList = _ := e0
  obtain rfl := Array.ext' (e0.trans (List.toList_toArray).symm)
  have k1 := h1
  have lt1 : ∀ x ∈ p1, x.block < W.heap.size := by obtain ⟨m, hm⟩ := k1; exact DataW.trod_lt m _ _ _ hm
  obtain ⟨aa1, len1, cap1, rfl⟩ := okWide_slice Try.underlying35 (hval 1 35 v1 rfl rfl)
  have y1 : len1 * 16 ≤ 140737488351232 := Plus.sized_any hsz (j := 1) (t := 35) rfl rfl Try.underlying35 (by kernel_rfl) h1
  obtain ⟨fuel1, hf1⟩ := h1
  obtain ⟨l1, K1, w1⟩ := (Plus.reads_slice Try.underlying35 (by kernel_rfl) reads39) enc W 0 _ true fuel1 _ _ hf1
  obtain ⟨A1, c1, e1, hc1, hr1⟩ := K1
  obtain ⟨rfl, rfl, rfl⟩ : aa1 = A1 ∧ len1 = l1.length ∧ cap1 = c1 := by simpa [Value.cells] using e1
  obtain ⟨k, hp⟩ := Pure.FirstRows x0.f0 x0.f1 x0.f2 x0.f3 l1 w0 y1 w1
  clear hA0 hval0 hsz0 hsz
  refine (gramaryelaw14_FirstRows.calls k x0.f0 x0.f1 _ _ x0.f2 _ _ x0.f3 _ _ l1 true W hr0_2 hc0_2 hr0_3 hc0_3 hr1 hc1 hp).mono fun e W' ⟨he, hd⟩ => ?_
  have bel : Below W.heap.size W W' := hd
  subst he
  exact ⟨_, rfl, _, _, _, [], _, [], hW', trodAll_mk1 (shut_bool Try.underlying4 _), (trodAll_cons_mk (Below.trod laidOut (by kernel_rfl) (of_decide_eq_true (by kernel_rfl)) k0 bel lt0) (trodAll_cons_mk (Below.trod laidOut (by kernel_rfl) (of_decide_eq_true (by kernel_rfl)) k1 bel lt1) trodAll_mk0)), rfl, bel.frame _, fun h => by cases h⟩
theorem over : Rows.firstRowsRow.holds Try.pinned (OpenSpec.ofChange Rows.firstRowsSpec) :=
  OpenClaim.holds_of_wide 4 Try.f4 rfl rfl rfl rfl rfl rfl rfl ⟨rfl, rfl, rfl, rfl, rfl⟩ rfl rfl rfl rfl rfl (by kernel_rfl) Try.func4 (by kernel_rfl)
    (of_decide_eq_true (by kernel_rfl)) (by unfold Func.isWrapper; first | (rw [if_pos (by decide +kernel)]; kernel_rfl) | (rw [if_neg (by decide +kernel)]; exact ⟨rfl, rfl⟩))
    (fun os started H enc _ => lifted os started H enc)
theorem proved : Rows.FirstRowsSaid := over
#print axioms proved
end Go.Proofs.Ytpegkfococfkpaa.firstRows
namespace Go.Proofs.Ytpegkfococfkpaa
/-- The row, under a short name, for the claim. -/
theorem firstRows_holds : Rows.FirstRowsSaid := firstRows.proved
end Go.Proofs.Ytpegkfococfkpaa
