-- Written by squash.py for this claim.
import Derived.Test.YtlanhkekjhlmjaaProg
import Derived.Below
import Derived.Deep.Draws
import Derived.Deep.AppendLies
import Derived.Maps.AppendAt
import Derived.OwnWalk
import Derived.Laws.BytesArg
import Derived.Laws.MakeOwn
import Derived.Laws.OwnMore
import Derived.Deep.OwnRows
import Derived.Tactics
import Derived.Lib.ConvBytes
import Derived.Laws.Slices
import Derived.WalkKit
import Derived.KernelRfl
import Derived.RowKit3
import Derived.Deep.LoopGhost
import Derived.Deep.QuietTactic
import Derived.BigQuiet
import Derived.WideLaws
import Derived.Deep.DeepCutAuto
import Derived.Deep.CutBlock
import Derived.Deep.RegionHeld3
import Derived.Laws.Rows
import Derived.Lib.AppendStr
import Derived.ArgAppend
import Derived.Laws.IdiomCopy
import Derived.OrdersHeld
import Derived.Laws.BitsLemmas
import Derived.RowKit
import Derived.Laws.Cover1
import Derived.BigQuiet
import Derived.Deep.QuietTactic
import Derived.Deep.RegionHeld3
import Derived.Lib.AppendZeros
import Derived.Lib.Hide
import Derived.Lib.SlicesCompact
import Derived.LoopIn
import Derived.LoopNIn
import Derived.OwnWalkIn
import Derived.RangeFuncBound
import Derived.RangeFuncCalls
import Derived.RangeFuncFrom
import Derived.RangeFuncLeaves
import Derived.RangeFuncNested
import Derived.Shelf.RegionOpen
import Derived.Sort.OwnSorted
import Derived.StillTailTactics
import Derived.TacticsInMore
import Derived.Test.YtlanhkekjhlmjaaSGuessOfVPlus
import Derived.Test.YtlanhkekjhlmjaaSGuessOfVSet
import Derived.Test.YtlanhkekjhlmjaaSGuessOfVShelf
import Derived.Test.YtlanhkekjhlmjaaSGuessOfWWords
import Derived.Test.YtlanhkekjhlmjaaSGuessOfWLast
import Derived.Test.YtlanhkekjhlmjaaSGuessOfWTab
import Derived.Test.YtlanhkekjhlmjaaSGuessOfWFour
import Derived.Test.YtlanhkekjhlmjaaSGuessOfWQPut
import Derived.Test.YtlanhkekjhlmjaaSGuessOfWApart
import Derived.Test.YtlanhkekjhlmjaaSGuessOfWArr
import Derived.Test.YtlanhkekjhlmjaaSGuessOfWZeros
import Derived.Test.YtlanhkekjhlmjaaSGuessOfWFoot
import Derived.Test.YtlanhkekjhlmjaaSGuessOfWKept
import Derived.Test.YtlanhkekjhlmjaaSGuessOfWShare
import Derived.Test.YtlanhkekjhlmjaaSGuessOfWN
import Derived.Test.YtlanhkekjhlmjaaSGuessOfWFootNe
import Derived.Test.YtlanhkekjhlmjaaSGuessOfWAt
import Derived.Test.YtlanhkekjhlmjaaSGuessOfWEqStruct
import Derived.Test.YtlanhkekjhlmjaaSGuessOfWRepsOne
import Derived.Test.YtlanhkekjhlmjaaSGuessOfWInv
import Derived.Test.YtlanhkekjhlmjaaSGuessOfWInvWords
import Derived.Test.YtlanhkekjhlmjaaSGuessOfWGuard
import Derived.Test.YtlanhkekjhlmjaaSGuessOfWNEv
import Derived.Test.YtlanhkekjhlmjaaSGuessOfWMore
namespace Go.Proofs.Ytlanhkekjhlmjaa.HGuessOf
open Go.RowKit Go.Proofs.YtlanhkekjhlmjaaW.PrintWords Go.Proofs.YtlanhkekjhlmjaaW.PrintLast Go.Proofs.YtlanhkekjhlmjaaW.PrintMore
set_option linter.unusedVariables false
set_option linter.unusedSimpArgs false
theorem Qa {p:Prop} [Decidable p] (h:decide p=true:=by first|(with_reducible assumption)|assumption):p:=of_decide_eq_true h
theorem Qb {α:Type} {a b:α} {p q:Prop} (hy:a=b) (H:q) (h:a=b→q→p:=by intro hy_ H_;first|(rw [hy_];with_reducible exact H_)|(have H2_:=(Option.bind_some _ _).symm.trans H_;rw [hy_];with_reducible exact H2_)|(have H2_:=(Option.bind_some _ _).symm.trans H_;with_reducible exact H2_)|with_reducible exact H_|(rw [hy_];exact H_)|exact H_):p:=h hy H
theorem Qc {p:Prop} (h:p:=by repeat (first|(with_reducible first|exact HB.out|apply zG|apply zC|apply zH)|exact HB.out)):p:=h
theorem Qd {a0:Prop} {p:Prop} (g0:zA a0) (h:a0→p:=by intro g0_;repeat (first|(with_reducible first|exact HB.out|apply zG|apply zC|apply zH|refine zJ ?_ g0_)|exact HB.out)):p:=h g0.out
theorem Qe {a0:Prop} {a1:Prop} {p:Prop} (g0:zA a0) (g1:zA a1) (h:a0→a1→p:=by intro g0_ g1_;repeat (first|(with_reducible first|exact HB.out|apply zG|apply zC|apply zH|refine zJ ?_ g0_|refine zJ ?_ g1_)|exact HB.out)):p:=h g0.out g1.out
theorem Qf {a0:Prop} {a1:Prop} {a2:Prop} {p:Prop} (g0:zA a0) (g1:zA a1) (g2:zA a2) (h:a0→a1→a2→p:=by intro g0_ g1_ g2_;repeat (first|(with_reducible first|exact HB.out|apply zG|apply zC|apply zH|refine zJ ?_ g0_|refine zJ ?_ g1_|refine zJ ?_ g2_)|exact HB.out)):p:=h g0.out g1.out g2.out
theorem Qg {a0:Prop} {a1:Prop} {a2:Prop} {a3:Prop} {p:Prop} (g0:zA a0) (g1:zA a1) (g2:zA a2) (g3:zA a3) (h:a0→a1→a2→a3→p:=by intro g0_ g1_ g2_ g3_;repeat (first|(with_reducible first|exact HB.out|apply zG|apply zC|apply zH|refine zJ ?_ g0_|refine zJ ?_ g1_|refine zJ ?_ g2_|refine zJ ?_ g3_)|exact HB.out)):p:=h g0.out g1.out g2.out g3.out
theorem Qh {a p:Prop} (k:zA a) (h:a→p:=by intro k_;(with_reducible repeat (first|apply Kd.R_alloc|apply Kd.R_drewN|apply Kd.R_drew));exact k_):p:=h k.out
theorem Qi {a p:Prop} (k:zA a) (h:a→p:=by intro k_;(with_reducible repeat (first|refine zO ?_ _|refine zP ?_|refine zL ?_ _));exact k_):p:=h k.out
theorem Qj {a p:Prop} (k:zA a) (h:a→p:=by intro k_;(with_reducible repeat (first|apply Kd.S_alloc|apply Kd.S_drewN|apply Kd.S_drew));exact k_):p:=h k.out
theorem Qk {a p:Prop} (k:zA a) (h:a→p:=by intro k_;(with_reducible repeat (first|apply Kd.N_alloc|apply Kd.N_drewN|apply Kd.N_drew));exact k_):p:=h k.out
theorem Ql {a p:Prop} (k:zA a) (h:a→p:=by intro k_;(with_reducible repeat (first|apply Kd.V_alloc|apply Kd.V_drewN|apply Kd.V_drew));exact k_):p:=h k.out
theorem Qm {p:Prop} (h:p:=by first|(go_simp;done)|(go_simp;rfl)):p:=h
theorem Qn {w:World} {g:Nat} {t:TypeId} {cs:Array Value} {v:Value} (h:zA (w.heap[g]? =some (.cells cs t (0,0)))) (i:Nat) (hv:cs[i]? =some v):w.cell? ⟨g,i,none⟩=some v:=(zQ h.out i).trans hv
theorem Qo {a p:Prop} (k:a) (h:a→p:=by intro k_;repeat (first|exact k_|(with_reducible refine Kd.C_alloc ?_ _)|(with_reducible refine Kd.C_drewN ?_ _)|(with_reducible refine Kd.C_drew ?_))):p:=h k
theorem Qp {p:Prop} (h:p:=by (with_reducible repeat (first|refine zO ?_ _|refine zP ?_|refine zL ?_ _));refine yW (cs:= #[.int .i64 t460, .int .i64 t461, .slice Ao11 t462.length co11, .slice A0_3 l0_3.length c0_3]) ?_ 3 _ rfl;(with_reducible repeat (first|refine zO ?_ _|refine zP ?_|refine zL ?_ _));refine yW (cs:= #[.int .i64 t460, .int .i64 t461, .slice A0_2 l0_2.length c0_2, .slice A0_3 l0_3.length c0_3]) ?_ 2 _ rfl;(with_reducible repeat (first|refine zO ?_ _|refine zP ?_|refine zL ?_ _));refine yW (cs:= #[.int .i64 t460, .int .i64 a0_1, .slice A0_2 l0_2.length c0_2, .slice A0_3 l0_3.length c0_3]) ?_ 1 _ rfl;(with_reducible repeat (first|refine zO ?_ _|refine zP ?_|refine zL ?_ _));refine yW (cs:= #[.int .i64 a0_0, .int .i64 a0_1, .slice A0_2 l0_2.length c0_2, .slice A0_3 l0_3.length c0_3]) ?_ 0 _ rfl;(with_reducible repeat (first|refine zO ?_ _|refine zP ?_|refine zL ?_ _));exact BK459.out):p:=h
theorem Qq {p:Prop} (h:p:=by (with_reducible repeat (first|refine zO ?_ _|refine zP ?_|refine zL ?_ _));refine yW (cs:= #[.int .i64 a0_0, .int .i64 a0_1, .slice Ao16 t110.length co16, .slice none 0 0]) ?_ 3 _ rfl;(with_reducible repeat (first|refine zO ?_ _|refine zP ?_|refine zL ?_ _));refine yW (cs:= #[.int .i64 a0_0, .int .i64 a0_1, .slice none 0 0, .slice none 0 0]) ?_ 2 _ rfl;(with_reducible repeat (first|refine zO ?_ _|refine zP ?_|refine zL ?_ _));refine yW (cs:= #[.int .i64 a0_0, .int .i64 0, .slice none 0 0, .slice none 0 0]) ?_ 1 _ rfl;(with_reducible repeat (first|refine zO ?_ _|refine zP ?_|refine zL ?_ _));refine yW (cs:= #[.int .i64 0, .int .i64 0, .slice none 0 0, .slice none 0 0]) ?_ 0 _ rfl;(with_reducible repeat (first|refine zO ?_ _|refine zP ?_|refine zL ?_ _));exact BK108.out):p:=h
theorem Qr {p:Prop} (h:p:=by (with_reducible repeat (first|apply Kd.N_alloc|apply Kd.N_drewN|apply Kd.N_drew));exact (Kd.N_mono (Kd.N_far (p:=⟨gb459,3,none⟩) (Kd.N_far (p:=⟨gb459,2,none⟩) (Kd.N_far (p:=⟨gb459,1,none⟩) (Kd.N_far (p:=⟨gb459,0,none⟩) (Kd.N_mono HO467.out (fun k_ hk=>(⟨hk,hk.2⟩:_∧k_≠gb459))) (fun _ hk=>hk.2) (.int .i64 t460)) (fun _ hk=>hk.2) (.int .i64 t461)) (fun _ hk=>hk.2) (.slice Ao11 t462.length co11)) (fun _ hk=>hk.2) (.slice Ao12 t465.length co12)) (fun _ h_=>h_.1))):p:=h
theorem Qs {p:Prop} (h:p:=by (with_reducible repeat (first|apply Kd.R_alloc|apply Kd.R_drewN|apply Kd.R_drew));exact (Kd.R_mono (Kd.R_far (p:=⟨gb459,3,none⟩) (Kd.R_far (p:=⟨gb459,2,none⟩) (Kd.R_far (p:=⟨gb459,1,none⟩) (Kd.R_far (p:=⟨gb459,0,none⟩) (Kd.R_types HO464.out BK459.out (by decide)) (fun _ hk=>hk.2) (.int .i64 t460)) (fun _ hk=>hk.2) (.int .i64 t461)) (fun _ hk=>hk.2) (.slice Ao11 t462.length co11)) (fun _ hk=>hk.2) (.slice Ao12 t465.length co12)) (fun _ h_=>h_.1))):p:=h
theorem Qt {p:Prop} (h:p:=by (with_reducible repeat (first|refine zO ?_ _|refine zP ?_|refine zL ?_ _));refine yW (cs:= #[.bool false, .int .i64 0]) ?_ 1 _ rfl;(with_reducible repeat (first|refine zO ?_ _|refine zP ?_|refine zL ?_ _));refine yW (cs:= #[.bool false, .int .i64 0]) ?_ 0 _ rfl;(with_reducible repeat (first|refine zO ?_ _|refine zP ?_|refine zL ?_ _));exact BK209.out):p:=h
theorem Qu {p:Prop} (h:p:=by (with_reducible repeat (first|refine zO ?_ _|refine zP ?_|refine zL ?_ _));refine yW (cs:= #[.bool true, .int .i64 0]) ?_ 1 _ rfl;(with_reducible repeat (first|refine zO ?_ _|refine zP ?_|refine zL ?_ _));refine yW (cs:= #[.bool false, .int .i64 0]) ?_ 0 _ rfl;(with_reducible repeat (first|refine zO ?_ _|refine zP ?_|refine zL ?_ _));exact BK209.out):p:=h
theorem Qv {p:Prop} (h:p:=by (with_reducible repeat (first|refine zO ?_ _|refine zP ?_|refine zL ?_ _));refine yN ?_ NB204_209.out _;(with_reducible repeat (first|refine zO ?_ _|refine zP ?_|refine zL ?_ _));refine yN ?_ NB204_209.out _;(with_reducible repeat (first|refine zO ?_ _|refine zP ?_|refine zL ?_ _));exact BK204.out):p:=h
theorem Qw {p:Prop} (h:p:=by (with_reducible repeat (first|refine zO ?_ _|refine zP ?_|refine zL ?_ _));refine yN ?_ NB244_255.out _;(with_reducible repeat (first|refine zO ?_ _|refine zP ?_|refine zL ?_ _));refine yN ?_ NB244_255.out _;(with_reducible repeat (first|refine zO ?_ _|refine zP ?_|refine zL ?_ _));exact BK244.out):p:=h
theorem Qx {p:Prop} (h:p:=by (with_reducible repeat (first|refine zO ?_ _|refine zP ?_|refine zL ?_ _));refine yN ?_ NB249_255.out _;(with_reducible repeat (first|refine zO ?_ _|refine zP ?_|refine zL ?_ _));refine yN ?_ NB249_255.out _;(with_reducible repeat (first|refine zO ?_ _|refine zP ?_|refine zL ?_ _));exact BK249.out):p:=h
theorem Qy {p:Prop} (h:p:=by (try simp only [List.map_toArray,List.map_cons,List.map_nil]);first|done|(rw [show (l0_2.take ((ji4):Int).toNat).length=(ji4).toNat from (by rw [List.length_take];have h_:((ji4):Int)≤(l0_2.length:Int):=Qa;omega)] <;> rfl)|(simp only [hji4];rfl)|rfl|(simp only [List.length_drop,List.length_take];rfl)):p:=h
theorem Qz {p:Prop} (h:p:=by (with_reducible repeat (first|apply Kd.R_alloc|apply Kd.R_drewN|apply Kd.R_drew));exact (Kd.R_mono (Kd.R_far (p:=⟨gb209,1,none⟩) (Kd.R_far (p:=⟨gb209,0,none⟩) (Kd.R_types HO_6.out BK209.out (by decide)) (fun _ hk=>hk.2) (.bool false)) (fun _ hk=>hk.2) (.int .i64 ((zi l1 x13_1).f1))) (fun _ h_=>h_.1))):p:=h
theorem QA {p:Prop} (h:p:=by (with_reducible repeat (first|apply Kd.R_alloc|apply Kd.R_drewN|apply Kd.R_drew));exact (Kd.R_mono (Kd.R_far (p:=⟨gb209,1,none⟩) (Kd.R_far (p:=⟨gb209,0,none⟩) (Kd.R_types HO_6.out BK209.out (by decide)) (fun _ hk=>hk.2) (.bool true)) (fun _ hk=>hk.2) (.int .i64 ((zi l1 x13_1).f1))) (fun _ h_=>h_.1))):p:=h
theorem QB {p:Prop} (h:p:=by repeat (first|(with_reducible first|exact HB.out|apply zG|apply zC|apply zH|refine zJ ?_ (zf.ge HI1.out)|refine zJ ?_ GE166.out)|exact HB.out)):p:=h
theorem QC {p:Prop} (h:p:=by repeat (first|(with_reducible first|exact HB.out|apply zG|apply zC|apply zH|refine zJ ?_ (zf.ge HI1.out)|refine zJ ?_ GE180.out)|exact HB.out)):p:=h
theorem QD {p:Prop} (h:p:=by repeat (first|(with_reducible exact HR262_0.out)|(with_reducible refine Kd.C_alloc ?_ _)|(with_reducible refine Kd.C_drewN ?_ _)|(with_reducible refine Kd.C_drew ?_)|exact HR262_0.out)):p:=h
theorem QE {p:Prop} (h:p:=by repeat (first|(with_reducible exact HR268_0.out)|(with_reducible refine Kd.C_alloc ?_ _)|(with_reducible refine Kd.C_drewN ?_ _)|(with_reducible refine Kd.C_drew ?_)|exact HR268_0.out)):p:=h
theorem QF {p:Prop} (h:p:=by repeat (first|(with_reducible exact HR287_0.out)|(with_reducible refine Kd.C_alloc ?_ _)|(with_reducible refine Kd.C_drewN ?_ _)|(with_reducible refine Kd.C_drew ?_)|exact HR287_0.out)):p:=h
theorem QG {p:Prop} (h:p:=by repeat (first|(with_reducible exact HR288_0.out)|(with_reducible refine Kd.C_alloc ?_ _)|(with_reducible refine Kd.C_drewN ?_ _)|(with_reducible refine Kd.C_drew ?_)|exact HR288_0.out)):p:=h
theorem QH {p:Prop} (h:p:=by repeat (first|(with_reducible exact HR355_0.out)|(with_reducible refine Kd.C_alloc ?_ _)|(with_reducible refine Kd.C_drewN ?_ _)|(with_reducible refine Kd.C_drew ?_)|exact HR355_0.out)):p:=h
theorem QI {p:Prop} (h:p:=by repeat (first|(with_reducible exact HR385_0.out)|(with_reducible refine Kd.C_alloc ?_ _)|(with_reducible refine Kd.C_drewN ?_ _)|(with_reducible refine Kd.C_drew ?_)|exact HR385_0.out)):p:=h
theorem QJ {p:Prop} (h:p:=by repeat (first|(with_reducible exact HR449_0.out)|(with_reducible refine Kd.C_alloc ?_ _)|(with_reducible refine Kd.C_drewN ?_ _)|(with_reducible refine Kd.C_drew ?_)|exact HR449_0.out)):p:=h
theorem QK {p:Prop} (h:p:=by repeat (first|(with_reducible exact HR454_0.out)|(with_reducible refine Kd.C_alloc ?_ _)|(with_reducible refine Kd.C_drewN ?_ _)|(with_reducible refine Kd.C_drew ?_)|exact HR454_0.out)):p:=h
theorem QL {p:Prop} (h:p:=by repeat (first|(with_reducible exact HR484_0.out)|(with_reducible refine Kd.C_alloc ?_ _)|(with_reducible refine Kd.C_drewN ?_ _)|(with_reducible refine Kd.C_drew ?_)|exact HR484_0.out)):p:=h
theorem QM {p:Prop} (h:p:=by repeat (first|(with_reducible exact HR485_0.out)|(with_reducible refine Kd.C_alloc ?_ _)|(with_reducible refine Kd.C_drewN ?_ _)|(with_reducible refine Kd.C_drew ?_)|exact HR485_0.out)):p:=h
theorem QN {p:Prop} (h:p:=by repeat (first|(with_reducible first|exact HK.out|apply yB.set_|apply yz|apply ZN|apply ZA|refine qY ?_ GW180.out _)|exact HK.out)):p:=h
theorem QO {p:Prop} (h:p:=by repeat (first|(with_reducible first|exact HB.out|apply zG|apply zC|apply zH|refine zJ ?_ (zf.ge HI175.out))|exact HB.out)):p:=h
theorem QP {p:Prop} (h:p:=by repeat (first|(with_reducible first|exact HB.out|apply zG|apply zC|apply zH|refine zJ ?_ (zf.ge HI189.out))|exact HB.out)):p:=h
theorem QQ {p:Prop} (h:p:=by repeat (first|(with_reducible first|exact HI175.out|apply zf.alloc|apply zf.drewN|apply zf.drew|apply zf.set_0|apply zf.set_1)|exact HI175.out)):p:=h
theorem QR {p:Prop} (h:p:=by repeat (first|(with_reducible first|exact HB.out|apply zG|apply zC|apply zH|refine zJ ?_ (zf.ge HI1.out))|exact HB.out)):p:=h
theorem QS {p:Prop} (h:p:=by repeat (first|(with_reducible first|exact HI1.out|apply zf.alloc|apply zf.drewN|apply zf.drew|apply zf.set_0|apply zf.set_1)|exact HI1.out)):p:=h
theorem QT {p:Prop} (h:p:=by (try simp only [List.map_toArray,List.map_cons,List.map_nil]);first|done|(simp only [hji4];rfl)|rfl|(simp only [List.length_drop,List.length_take];rfl)):p:=h
theorem QU {p:Prop} (h:p:=by have h_:(((zF l0_3 x11_3).f0):Int) < ((x8_3.length:Int):Int):=Qa;first|exact h_|(have e_:=(Kd.S_reads' HO_8.out).1;omega)|simpa using h_):p:=h
theorem QV {p:Prop} (h:p:=by have h_:(x4_1:Int) < ((x140003_1.length:Int):Int):=Qa;first|exact h_|(have e_:=(Kd.N_reads' HO_140003.out).1;omega)|simpa using h_):p:=h
theorem QW {p:Prop} (h:p:=by repeat (first|(with_reducible first|exact HK.out|apply yB.set_|apply yz|apply ZN|apply ZA)|exact HK.out)):p:=h
theorem QX {p:Prop} (h:p:=by have h_:(x18_1:Int) < ((x5_1.length:Int):Int):=Qa;first|exact h_|(have e_:=(Kd.N_reads' HO_5.out).1;omega)|simpa using h_):p:=h
theorem QY {p:Prop} (h:p:=by have h_:(x18_1:Int) < ((x5_2.length:Int):Int):=Qa;first|exact h_|(have e_:=(Kd.N_reads' HO_5.out).1;omega)|simpa using h_):p:=h
theorem QZ {p:Prop} (h:p:=by have h_:(x32_1:Int) < ((x7_1.length:Int):Int):=Qa;first|exact h_|(have e_:=(Kd.N_reads' HO_7.out).1;omega)|simpa using h_):p:=h
theorem Q4 {p:Prop} (h:p:=by (try simp only [List.map_toArray,List.map_cons,List.map_nil]);first|done|rfl|(simp only [List.length_drop,List.length_take];rfl)):p:=h
theorem Q5 {p:Prop} (h:p:=by (with_reducible repeat (first|apply Kd.R_alloc|apply Kd.R_drewN|apply Kd.R_drew));exact Kd.R_mono HO311.out (fun _ hk=>hk.2)):p:=h
theorem Q6 {p:Prop} (h:p:=by (with_reducible repeat (first|apply Kd.R_alloc|apply Kd.R_drewN|apply Kd.R_drew));exact Kd.R_mono HO304.out (fun _ hk=>hk.2)):p:=h
theorem Q7 {p:Prop} (h:p:=by (with_reducible repeat (first|apply Kd.R_alloc|apply Kd.R_drewN|apply Kd.R_drew));exact Kd.R_mono HO328.out (fun _ hk=>hk.2)):p:=h
theorem Q8 {p:Prop} (h:p:=by (with_reducible repeat (first|apply Kd.R_alloc|apply Kd.R_drewN|apply Kd.R_drew));exact Kd.R_mono HO321.out (fun _ hk=>hk.2)):p:=h
theorem Q9 {p:Prop} (h:p:=by simp only [Zz,Act.put,List.setIfInBounds_toArray,List.set_cons_zero,List.set_cons_succ]):p:=h
theorem Za {p:Prop} (h:p:=by first|rfl|(simp;done)|(simp only [←hji4] <;> (first|rfl|simp))|(simp [*];done)):p:=h
theorem Zb {p:Prop} (h:p:=by rw [List.length_take];have h_:(x5_1:Int)≤(l0.length:Int):=Qa;omega):p:=h
theorem Zc {p:Prop} (h:p:=by first|exact q449|exact Qa|(have e_:=(Kd.N_reads' HO437.out).1;omega)):p:=h
theorem Zd {p:Prop} (h:p:=by first|exact q355|exact Qa|(have e_:=(Kd.S_reads' HO_8.out).1;omega)):p:=h
theorem Ze {p:Prop} (h:p:=by show w.heap.size≤w.heap.size + 1 + 1 + 1;omega):p:=h
theorem Zf {p:Prop} (h:p:=by first|rfl|(simp;done)|(simp [*];done)):p:=h
theorem ZzA (w : World) (a : Addr) {v : Value} (h : w.cell? a = some v) : a.block < w.heap.size := World.block_lt_of_cell? w a h
theorem ZzB {α β : Type} {o : Option α} {f : α → Option β} {b : β} (h : o.bind f = some b) : ∃ a, o = some a ∧ f a = some b := Option.bind_eq_some_iff.mp h
end Go.Proofs.Ytlanhkekjhlmjaa.HGuessOf
