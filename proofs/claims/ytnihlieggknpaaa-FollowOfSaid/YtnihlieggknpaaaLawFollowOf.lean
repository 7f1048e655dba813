-- Written by plus.py for this claim: the row of FollowOf.
import Derived.Test.YtnihlieggknpaaaRows
import Derived.Test.YtnihlieggknpaaaHFollowOfx
import Derived.Test.YtnihlieggknpaaaPureFollowOf
import Derived.Test.YtnihlieggknpaaaSFollowOfVRow
import Derived.WalkKit
import Derived.ProofKit
import Derived.OpenShut
import Derived.ShutString
import Derived.ChangeOld
import Derived.Below
import Derived.SizedLaws
import Derived.Stop.Joined
namespace Go.Proofs.Ytnihlieggknpaaa.followOf
open Go.ChangeShapes Go.WideShapes Go.ChangeAt Go.RowKit Go.Proofs.YtnihlieggknpaaaW.PrintWords Go.Proofs.Ytnihlieggknpaaa.HFollowOf
open Go.ChangeMaps (open_string shut_string)
set_option linter.unusedVariables false
set_option linter.unusedSimpArgs false
theorem own : ownKnob Try.prog.godebug = none := by kernel_rfl
theorem laidOut : laidOutB Try.prog = true := by kernel_rfl
theorem reads71 : Plus.Reads Try.prog k71 W71 71 :=
  Plus.reads_struct (fun p => (⟨p.1, p.2⟩ : S71)) (fun _ => rfl) Try.underlying71 (by kernel_rfl) (Plus.readsF_cons rfl (by kernel_rfl) (off' := 1) rfl (Plus.reads_bool Try.underlying4) (Plus.readsF_one rfl (by kernel_rfl) (Plus.reads_int Try.underlying3)))
theorem reads61 : Plus.Reads Try.prog k61 W61 61 :=
  Plus.reads_struct (fun p => (⟨p.1, p.2⟩ : S61)) (fun _ => rfl) Try.underlying61 (by kernel_rfl) (Plus.readsF_cons rfl (by kernel_rfl) (off' := 1) rfl (Plus.reads_int Try.underlying3) (Plus.readsF_one rfl (by kernel_rfl) (Plus.reads_slice Try.underlying59 (by kernel_rfl) reads71)))
theorem reads25 : Plus.Reads Try.prog k25 W25 25 :=
  Plus.reads_struct (fun p => (⟨p.1, p.2.1, p.2.2.1, p.2.2.2⟩ : S25)) (fun _ => rfl) Try.underlying25 (by kernel_rfl) (Plus.readsF_cons rfl (by kernel_rfl) (off' := 1) rfl (Plus.reads_int Try.underlying3) (Plus.readsF_cons rfl (by kernel_rfl) (off' := 2) rfl (Plus.reads_int Try.underlying3) (Plus.readsF_cons rfl (by kernel_rfl) (off' := 3) rfl (Plus.reads_slice Try.underlying22 (by kernel_rfl) (Plus.reads_int Try.underlying3)) (Plus.readsF_one rfl (by kernel_rfl) (Plus.reads_slice Try.underlying23 (by kernel_rfl) reads61)))))
set_option maxRecDepth 100000 in
theorem lifted (os : Os) (started : os.Started) (H : Type) (enc : TypeId × Value → H) :
    ReturnsInHanded {} Try.checked os 6 .any (Rows.followOfSpec.pre6 enc Try.prog Try.f6 Rows.followOfRow.domain false) (Rows.followOfSpec.post enc Try.prog Try.f6 false true false false) := by
  refine returnsInHanded_of_change_sized (C := Try.checked) own started (by kernel_rfl) Try.func6
    (ChangeSpec.witness6 (enc := enc) (C := Try.checked) false ⟨#[], #[(.agg #[(.int .i64 0), (.int .i64 0), (.slice none 0 0), (.slice none 0 0)]), .int .i64 0], []⟩ 8 (by kernel_rfl) (by kernel_rfl) (by kernel_rfl) (by kernel_rfl)) ?_
  intro W base args ds gs before hval0 hW hcnd hsz0 _
  have hsz : (DataW.weightsEach Try.prog (Try.f6.params.toList ++ Rows.followOfSpec.plain.varTypes Try.prog) (ds ++ gs)).all (· ≤ reachBytes) = true := hsz0
  have hval : ∀ (j : Nat) t v, Try.f6.params[j]? = some t → args[j]? = some v → Value.okWide Try.prog W .any base t v := hval0
  have hW' := hW
  obtain ⟨p, q, hA0, hV, rfl, hfz, hnd⟩ := hW
  have hA : DataW.TrodAll enc Try.prog W 0 (fun _ => true) true Try.f6.params.toList args.toList ds p := hA0
  rw [Try.params6] at hA hval hsz
  obtain ⟨v0, vs0, d0, ds0, p0, q0, hargs, rfl, rfl, h0, r0⟩ := trodAll_cons hA
  obtain ⟨v1, vs1, d1, ds1, p1, q1, rfl, rfl, rfl, h1, r1⟩ := trodAll_cons r0
  obtain ⟨rfl, rfl, rfl⟩ := trodAll_nil r1
  obtain rfl : args = #[v0, v1] := by cases args; simp_all
  obtain ⟨rfl, rfl⟩ := trodVars_none hV
  have k0 := h0
  have lt0 : ∀ x ∈ p0, x.block < W.heap.size := by obtain ⟨m, hm⟩ := k0; exact DataW.trod_lt m _ _ _ hm
  obtain ⟨cs0, rfl, hcs0⟩ := okWide_struct Try.underlying25 (hval 0 25 v0 rfl rfl)
  obtain ⟨fuel0, hf0⟩ := h0
  obtain ⟨x0, K0, w0⟩ := reads25 enc W 0 _ true fuel0 _ _ hf0
  obtain ⟨A0_2, c0_2, A0_3, c0_3, e0, hc0_2, hr0_2, hc0_3, hr0_3⟩ := k25_open K0
  replace e0 : cs0.toList = _ := e0
  obtain rfl := Array.ext' (e0.trans (List.toList_toArray).symm)
  obtain ⟨a1, rfl, rfl, rfl, w1⟩ := open_int Try.underlying3 (hval 1 3 v1 rfl rfl) h1
  obtain ⟨k, hp⟩ := Pure.FollowOf x0.f0 x0.f1 x0.f2 x0.f3 a1 w0 w1
  clear hA0 hval0 hsz0 hsz
  refine (zO.calls k x0.f0 x0.f1 _ _ x0.f2 _ _ x0.f3 a1 true W hr0_2 hc0_2 hr0_3 hc0_3 hp).mono fun e W' ⟨he, hd⟩ => ?_
  have bel : Below W.heap.size W W' := hd
  subst he
  exact ⟨_, rfl, _, _, _, [], _, [], hW', trodAll_mk1 (shut_bool Try.underlying4 _), (trodAll_cons_mk (Below.trod laidOut (by kernel_rfl) (of_decide_eq_true (by kernel_rfl)) k0 bel lt0) (trodAll_cons_mk (shut_int Try.underlying3 w1) trodAll_mk0)), rfl, bel.frame _, fun h => by cases h⟩
theorem over : Rows.followOfRow.holds Try.pinned (OpenSpec.ofChange Rows.followOfSpec) :=
  OpenClaim.holds_of_wide 6 Try.f6 rfl rfl rfl rfl rfl rfl rfl ⟨rfl, rfl, rfl, rfl, rfl⟩ rfl rfl rfl rfl rfl (by kernel_rfl) Try.func6 (by kernel_rfl)
    (of_decide_eq_true (by kernel_rfl)) (by unfold Func.isWrapper; first | (rw [if_pos (by decide +kernel)]; kernel_rfl) | (rw [if_neg (by decide +kernel)]; exact ⟨rfl, rfl⟩))
    (fun os started H enc _ => lifted os started H enc)
theorem proved : Rows.FollowOfSaid := over
#print axioms proved
end Go.Proofs.Ytnihlieggknpaaa.followOf
namespace Go.Proofs.Ytnihlieggknpaaa
/-- The row, under a short name, for the claim. -/
theorem followOf_holds : Rows.FollowOfSaid := followOf.proved
end Go.Proofs.Ytnihlieggknpaaa
