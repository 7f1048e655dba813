-- Written by plus.py for this claim: the row of GuessPicks.
import Derived.Test.YtpfeebmfihgelaaGreatRows
import Derived.Test.YtpfeebmfihgelaaGreatHGuessPicksx
import Derived.Test.YtpfeebmfihgelaaGreatPureGuessPicks
import Derived.Test.YtpfeebmfihgelaaGreatSGuessPicksVRow
import Derived.WalkKit
import Derived.ProofKit
import Derived.OpenShut
import Derived.ShutString
import Derived.ChangeOld
import Derived.Below
import Derived.SizedLaws
import Derived.Stop.Joined
namespace Go.Proofs.YtpfeebmfihgelaaGreat.guessPicks
open Go.ChangeShapes Go.WideShapes Go.ChangeAt Go.RowKit Go.Proofs.YtpfeebmfihgelaaGreatW.PrintWords Go.Proofs.YtpfeebmfihgelaaGreat.HGuessPicks
open Go.ChangeMaps (open_string shut_string)
set_option linter.unusedVariables false
set_option linter.unusedSimpArgs false
theorem own:ownKnob Tryz.prog.godebug=none:=by kernel_rfl
theorem laidOut:laidOutB Tryz.prog=true:=by kernel_rfl
theorem reads70:Plus.Reads Tryz.prog k70 W70 70:=
  Plus.reads_struct (fun p=>(⟨p.1,p.2⟩:S70)) (fun _=>rfl) Tryz.underlying70 (by kernel_rfl) (Plus.readsF_cons rfl (by kernel_rfl) (off':=1) rfl (Plus.reads_bool Tryz.underlying4) (Plus.readsF_one rfl (by kernel_rfl) (Plus.reads_int Tryz.underlying3)))
theorem reads42:Plus.Reads Tryz.prog k42 W42 42:=
  Plus.reads_struct (fun p=>(⟨p.1,p.2⟩:S42)) (fun _=>rfl) Tryz.underlying42 (by kernel_rfl) (Plus.readsF_cons rfl (by kernel_rfl) (off':=1) rfl (Plus.reads_int Tryz.underlying3) (Plus.readsF_one rfl (by kernel_rfl) (Plus.reads_slice Tryz.underlying40 (by kernel_rfl) reads70)))
theorem reads25:Plus.Reads Tryz.prog k25 W25 25:=
  Plus.reads_struct (fun p=>(⟨p.1,p.2.1,p.2.2.1,p.2.2.2⟩:S25)) (fun _=>rfl) Tryz.underlying25 (by kernel_rfl) (Plus.readsF_cons rfl (by kernel_rfl) (off':=1) rfl (Plus.reads_int Tryz.underlying3) (Plus.readsF_cons rfl (by kernel_rfl) (off':=2) rfl (Plus.reads_int Tryz.underlying3) (Plus.readsF_cons rfl (by kernel_rfl) (off':=3) rfl (Plus.reads_slice Tryz.underlying22 (by kernel_rfl) (Plus.reads_int Tryz.underlying3)) (Plus.readsF_one rfl (by kernel_rfl) (Plus.reads_slice Tryz.underlying23 (by kernel_rfl) reads42)))))
set_option maxRecDepth 100000 in
theorem lifted (os:Os) (started:os.Started) (H:Type) (enc:TypeId × Value→H) :
    ReturnsInHanded {} Tryz.checked os 3 .any (Rows.guessPicksSpec.pre6 enc Tryz.prog Tryz.f3 Rows.guessPicksRow.domain false) (Rows.guessPicksSpec.post enc Tryz.prog Tryz.f3 false true false false):=by
  refine returnsInHanded_of_change_sized (C:=Tryz.checked) own started (by kernel_rfl) Tryz.func3
    (ChangeSpec.witness6 (enc:=enc) (C:=Tryz.checked) false ⟨#[], #[(.agg #[(.int .i64 0),(.int .i64 0),(.slice none 0 0),(.slice none 0 0)]), .int .i64 0, .string ByteArray.empty],[]⟩ 8 (by kernel_rfl) (by kernel_rfl) (by kernel_rfl) (by kernel_rfl)) ?_
  intro W base args ds gs before hval0 hW hcnd hsz0 _
  have hsz:(DataW.weightsEach Tryz.prog (Tryz.f3.params.toList ++ Rows.guessPicksSpec.plain.varTypes Tryz.prog) (ds ++ gs)).all (· ≤reachBytes)=true:=hsz0
  have hval:∀(j:Nat) t v,Tryz.f3.params[j]? =some t→args[j]? =some v→Value.okWide Tryz.prog W .any base t v:=hval0
  have hW':=hW
  obtain ⟨p,q,hA0,hV,rfl,hfz,hnd⟩:=hW
  have hA:DataW.TrodAll enc Tryz.prog W 0 (fun _=>true) true Tryz.f3.params.toList args.toList ds p:=hA0
  rw [Tryz.params3] at hA hval hsz
  obtain ⟨v0,vs0,d0,ds0,p0,q0,hargs,rfl,rfl,h0,r0⟩:=trodAll_cons hA
  obtain ⟨v1,vs1,d1,ds1,p1,q1,rfl,rfl,rfl,h1,r1⟩:=trodAll_cons r0
  obtain ⟨v2,vs2,d2,ds2,p2,q2,rfl,rfl,rfl,h2,r2⟩:=trodAll_cons r1
  obtain ⟨rfl,rfl,rfl⟩:=trodAll_nil r2
  obtain rfl:args= #[v0,v1,v2]:=by cases args;simp_all
  obtain ⟨rfl,rfl⟩:=trodVars_none hV
  have k0:=h0
  have lt0:∀x ∈ p0,x.block < W.heap.size:=by obtain ⟨m,hm⟩:=k0;exact DataW.trod_lt m _ _ _ hm
  obtain ⟨cs0,rfl,hcs0⟩:=okWide_struct Tryz.underlying25 (hval 0 25 v0 rfl rfl)
  obtain ⟨fuel0,hf0⟩:=h0
  obtain ⟨x0,K0,w0⟩:=reads25 enc W 0 _ true fuel0 _ _ hf0
  obtain ⟨A0_2,c0_2,A0_3,c0_3,e0,hc0_2,hr0_2,hc0_3,hr0_3⟩:=k25_open K0
  replace e0:cs0.toList=_:=e0
  obtain rfl:=Array.ext' (e0.trans (List.toList_toArray).symm)
  obtain ⟨a1,rfl,rfl,rfl,w1⟩:=open_int Tryz.underlying3 (hval 1 3 v1 rfl rfl) h1
  obtain ⟨a2,rfl,rfl,rfl,y2⟩:=open_string Tryz.underlying9 (hval 2 9 v2 rfl rfl) h2
  have w2:a2.size≤140737488351232:=by
    have z:=sized_string hsz (j:=2) (t:=9) rfl rfl
    rw [Array.length_toList] at z
    exact z
  obtain ⟨k,hp⟩:=Pure.GuessPicks x0.f0 x0.f1 x0.f2 x0.f3 a1 a2 w0 w1 w2
  clear hA0 hval0 hsz0 hsz
  refine (zY.calls k x0.f0 x0.f1 _ _ x0.f2 _ _ x0.f3 a1 a2 true W hr0_2 hc0_2 hr0_3 hc0_3 hp).mono fun e W' ⟨he,hd⟩=> ?_
  have bel:Below W.heap.size W W':=hd
  subst he
  exact ⟨_,rfl,_,_,_,[],_,[],hW',trodAll_mk1 (shut_bool Tryz.underlying4 _),(trodAll_cons_mk (Below.trod laidOut (by kernel_rfl) (of_decide_eq_true (by kernel_rfl)) k0 bel lt0) (trodAll_cons_mk (shut_int Tryz.underlying3 w1) (trodAll_cons_mk (shut_string Tryz.underlying9 y2) trodAll_mk0))),rfl,bel.frame _,fun h=>by cases h⟩
theorem over:Rows.guessPicksRow.holds Tryz.pinned (OpenSpec.ofChange Rows.guessPicksSpec):=
  OpenClaim.holds_of_wide 3 Tryz.f3 rfl rfl rfl rfl rfl rfl rfl ⟨rfl,rfl,rfl,rfl,rfl⟩ rfl rfl rfl rfl rfl (by kernel_rfl) Tryz.func3 (by kernel_rfl)
    (of_decide_eq_true (by kernel_rfl)) (by unfold Func.isWrapper;first|(rw [if_pos (by decide +kernel)];kernel_rfl)|(rw [if_neg (by decide +kernel)];exact ⟨rfl,rfl⟩))
    (fun os started H enc _=>lifted os started H enc)
theorem proved:Rows.GuessPicksSaid:=over
#print axioms proved
end Go.Proofs.YtpfeebmfihgelaaGreat.guessPicks
namespace Go.Proofs.YtpfeebmfihgelaaGreat
/-- The row, under a short name, for the claim. -/
theorem guessPicks_holds:Rows.GuessPicksSaid:=guessPicks.proved
end Go.Proofs.YtpfeebmfihgelaaGreat
