-- Written by plus.py for this claim: the row of GuessWhole.
import Derived.Test.YtpfeebmfihgelaaGreatRows
import Derived.Test.YtpfeebmfihgelaaGreatHGuessWholex
import Derived.Test.YtpfeebmfihgelaaGreatPureGuessWhole
import Derived.Test.YtpfeebmfihgelaaGreatSGuessWholeVRow
import Derived.WalkKit
import Derived.ProofKit
import Derived.OpenShut
import Derived.ShutString
import Derived.ChangeOld
import Derived.Below
import Derived.SizedLaws
import Derived.Stop.Joined
namespace Go.Proofs.YtpfeebmfihgelaaGreat.guessWhole
open Go.ChangeShapes Go.WideShapes Go.ChangeAt Go.RowKit Go.Proofs.YtpfeebmfihgelaaGreatW.PrintWords Go.Proofs.YtpfeebmfihgelaaGreat.HGuessWhole
open Go.ChangeMaps (open_string shut_string)
set_option linter.unusedVariables false
set_option linter.unusedSimpArgs false
theorem own:ownKnob Tryz.prog.godebug=none:=by kernel_rfl
theorem laidOut:laidOutB Tryz.prog=true:=by kernel_rfl
theorem reads70:Plus.Reads Tryz.prog k70 W70 70:=
  Plus.reads_struct (fun p=>(⟨p.1,p.2⟩:S70)) (fun _=>rfl) Tryz.underlying70 (by kernel_rfl) (Plus.readsF_cons rfl (by kernel_rfl) (off':=1) rfl (Plus.reads_bool Tryz.underlying4) (Plus.readsF_one rfl (by kernel_rfl) (Plus.reads_int Tryz.underlying3)))
theorem reads42:Plus.Reads Tryz.prog k42 W42 42:=
  Plus.reads_struct (fun p=>(⟨p.1,p.2⟩:S42)) (fun _=>rfl) Tryz.underlying42 (by kernel_rfl) (Plus.readsF_cons rfl (by kernel_rfl) (off':=1) rfl (Plus.reads_int Tryz.underlying3) (Plus.readsF_one rfl (by kernel_rfl) (Plus.reads_slice Tryz.underlying40 (by kernel_rfl) reads70)))
theorem reads25:Plus.Reads Tryz.prog k25 W25 25:=
  Plus.reads_struct (fun p=>(⟨p.1,p.2.1,p.2.2.1,p.2.2.2⟩:S25)) (fun _=>rfl) Tryz.underlying25 (by kernel_rfl) (Plus.readsF_cons rfl (by kernel_rfl) (off':=1) rfl (Plus.reads_int Tryz.underlying3) (Plus.readsF_cons rfl (by kernel_rfl) (off':=2) rfl (Plus.reads_int Tryz.underlying3) (Plus.readsF_cons rfl (by kernel_rfl) (off':=3) rfl (Plus.reads_slice Tryz.underlying22 (by kernel_rfl) (Plus.reads_int Tryz.underlying3)) (Plus.readsF_one rfl (by kernel_rfl) (Plus.reads_slice Tryz.underlying23 (by kernel_rfl) reads42)))))
set_option maxRecDepth 100000 in
theorem lifted (os:Os) (started:os.Started) (H:Type) (enc:TypeId × Value→H) :
    ReturnsInHanded {} Tryz.checked os 4 .any (Rows.guessWholeSpec.pre6 enc Tryz.prog Tryz.f4 Rows.guessWholeRow.domain false) (Rows.guessWholeSpec.post enc Tryz.prog Tryz.f4 false true false false):=by
  refine returnsInHanded_of_change_sized (C:=Tryz.checked) own started (by kernel_rfl) Tryz.func4
    (ChangeSpec.witness6 (enc:=enc) (C:=Tryz.checked) false ⟨#[], #[(.agg #[(.int .i64 0),(.int .i64 0),(.slice none 0 0),(.slice none 0 0)])],[]⟩ 8 (by kernel_rfl) (by kernel_rfl) (by kernel_rfl) (by kernel_rfl)) ?_
  intro W base args ds gs before hval0 hW hcnd hsz0 _
  have hsz:(DataW.weightsEach Tryz.prog (Tryz.f4.params.toList ++ Rows.guessWholeSpec.plain.varTypes Tryz.prog) (ds ++ gs)).all (· ≤reachBytes)=true:=hsz0
  have hval:∀(j:Nat) t v,Tryz.f4.params[j]? =some t→args[j]? =some v→Value.okWide Tryz.prog W .any base t v:=hval0
  have hW':=hW
  obtain ⟨p,q,hA0,hV,rfl,hfz,hnd⟩:=hW
  have hA:DataW.TrodAll enc Tryz.prog W 0 (fun _=>true) true Tryz.f4.params.toList args.toList ds p:=hA0
  rw [Tryz.params4] at hA hval hsz
  obtain ⟨v0,vs0,d0,ds0,p0,q0,hargs,rfl,rfl,h0,r0⟩:=trodAll_cons hA
  obtain ⟨rfl,rfl,rfl⟩:=trodAll_nil r0
  obtain rfl:args= #[v0]:=by cases args;simp_all
  obtain ⟨rfl,rfl⟩:=trodVars_none hV
  have k0:=h0
  have lt0:∀x ∈ p0,x.block < W.heap.size:=by obtain ⟨m,hm⟩:=k0;exact DataW.trod_lt m _ _ _ hm
  obtain ⟨cs0,rfl,hcs0⟩:=okWide_struct Tryz.underlying25 (hval 0 25 v0 rfl rfl)
  obtain ⟨fuel0,hf0⟩:=h0
  obtain ⟨x0,K0,w0⟩:=reads25 enc W 0 _ true fuel0 _ _ hf0
  obtain ⟨A0_2,c0_2,A0_3,c0_3,e0,hc0_2,hr0_2,hc0_3,hr0_3⟩:=k25_open K0
  replace e0:cs0.toList=_:=e0
  obtain rfl:=Array.ext' (e0.trans (List.toList_toArray).symm)
  obtain ⟨k,hp⟩:=Pure.GuessWhole x0.f0 x0.f1 x0.f2 x0.f3 w0
  clear hA0 hval0 hsz0 hsz
  refine (zH.calls k x0.f0 x0.f1 _ _ x0.f2 _ _ x0.f3 true W hr0_2 hc0_2 hr0_3 hc0_3 hp).mono fun e W' ⟨he,hd⟩=> ?_
  have bel:Below W.heap.size W W':=hd
  subst he
  exact ⟨_,rfl,_,_,_,[],_,[],hW',trodAll_mk1 (shut_bool Tryz.underlying4 _),(trodAll_cons_mk (Below.trod laidOut (by kernel_rfl) (of_decide_eq_true (by kernel_rfl)) k0 bel lt0) trodAll_mk0),rfl,bel.frame _,fun h=>by cases h⟩
theorem over:Rows.guessWholeRow.holds Tryz.pinned (OpenSpec.ofChange Rows.guessWholeSpec):=
  OpenClaim.holds_of_wide 4 Tryz.f4 rfl rfl rfl rfl rfl rfl rfl ⟨rfl,rfl,rfl,rfl,rfl⟩ rfl rfl rfl rfl rfl (by kernel_rfl) Tryz.func4 (by kernel_rfl)
    (of_decide_eq_true (by kernel_rfl)) (by unfold Func.isWrapper;first|(rw [if_pos (by decide +kernel)];kernel_rfl)|(rw [if_neg (by decide +kernel)];exact ⟨rfl,rfl⟩))
    (fun os started H enc _=>lifted os started H enc)
theorem proved:Rows.GuessWholeSaid:=over
#print axioms proved
end Go.Proofs.YtpfeebmfihgelaaGreat.guessWhole
namespace Go.Proofs.YtpfeebmfihgelaaGreat
/-- The row, under a short name, for the claim. -/
theorem guessWhole_holds:Rows.GuessWholeSaid:=guessWhole.proved
end Go.Proofs.YtpfeebmfihgelaaGreat
