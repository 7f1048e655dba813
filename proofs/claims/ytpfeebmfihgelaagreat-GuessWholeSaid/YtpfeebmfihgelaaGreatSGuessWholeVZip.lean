-- Written by squash.py for this claim.
import Derived.Test.YtpfeebmfihgelaaGreatProg
import Derived.Below
import Derived.Deep.Draws
import Derived.Deep.AppendLies
import Derived.Maps.AppendAt
import Derived.OwnWalk
import Derived.Laws.BytesArg
import Derived.Laws.MakeOwn
import Derived.Laws.OwnMore
import Derived.Deep.OwnRows
import Derived.Tactics
import Derived.Lib.ConvBytes
import Derived.Laws.Slices
import Derived.WalkKit
import Derived.KernelRfl
import Derived.RowKit3
import Derived.Deep.LoopGhost
import Derived.Deep.QuietTactic
import Derived.BigQuiet
import Derived.WideLaws
import Derived.Deep.DeepCutAuto
import Derived.Deep.CutBlock
import Derived.Deep.RegionHeld3
import Derived.Laws.Rows
import Derived.Lib.AppendStr
import Derived.ArgAppend
import Derived.Laws.IdiomCopy
import Derived.OrdersHeld
import Derived.Laws.BitsLemmas
import Derived.RowKit
import Derived.Laws.Cover1
import Derived.BigQuiet
import Derived.Deep.QuietTactic
import Derived.Deep.RegionHeld3
import Derived.Lib.AppendZeros
import Derived.Lib.Hide
import Derived.Lib.SlicesCompact
import Derived.LoopIn
import Derived.LoopNIn
import Derived.OwnWalkIn
import Derived.RangeFuncBound
import Derived.RangeFuncBox
import Derived.RangeFuncCalls
import Derived.RangeFuncFrom
import Derived.RangeFuncLeaves
import Derived.RangeFuncNested
import Derived.Shelf.RegionOpen
import Derived.Sort.OwnSorted
import Derived.Sort.OwnSortedInts
import Derived.StillTailTactics
import Derived.TacticsInMore
import Derived.Test.YtpfeebmfihgelaaGreatSGuessWholeVPlus
import Derived.Test.YtpfeebmfihgelaaGreatSGuessWholeVSet
import Derived.Test.YtpfeebmfihgelaaGreatSGuessWholeVShelf
import Derived.Test.YtpfeebmfihgelaaGreatSGuessWholeWWords
import Derived.Test.YtpfeebmfihgelaaGreatSGuessWholeWLast
import Derived.Test.YtpfeebmfihgelaaGreatSGuessWholeWTab
import Derived.Test.YtpfeebmfihgelaaGreatSGuessWholeWFour
import Derived.Test.YtpfeebmfihgelaaGreatSGuessWholeWQPut
import Derived.Test.YtpfeebmfihgelaaGreatSGuessWholeWApart
import Derived.Test.YtpfeebmfihgelaaGreatSGuessWholeWArr
import Derived.Test.YtpfeebmfihgelaaGreatSGuessWholeWZeros
import Derived.Test.YtpfeebmfihgelaaGreatSGuessWholeWFoot
import Derived.Test.YtpfeebmfihgelaaGreatSGuessWholeWKept
import Derived.Test.YtpfeebmfihgelaaGreatSGuessWholeWShare
import Derived.Test.YtpfeebmfihgelaaGreatSGuessWholeWN
import Derived.Test.YtpfeebmfihgelaaGreatSGuessWholeWFootNe
import Derived.Test.YtpfeebmfihgelaaGreatSGuessWholeWAt
import Derived.Test.YtpfeebmfihgelaaGreatSGuessWholeWEqStruct
import Derived.Test.YtpfeebmfihgelaaGreatSGuessWholeWRepsOne
import Derived.Test.YtpfeebmfihgelaaGreatSGuessWholeWInv
import Derived.Test.YtpfeebmfihgelaaGreatSGuessWholeWInvWords
import Derived.Test.YtpfeebmfihgelaaGreatSGuessWholeWGuard
import Derived.Test.YtpfeebmfihgelaaGreatSGuessWholeWNEv
import Derived.Test.YtpfeebmfihgelaaGreatSGuessWholeWMore
namespace Go.Proofs.YtpfeebmfihgelaaGreat.HGuessWhole
open Go.RowKit Go.Proofs.YtpfeebmfihgelaaGreatW.PrintWords Go.Proofs.YtpfeebmfihgelaaGreatW.PrintLast Go.Proofs.YtpfeebmfihgelaaGreatW.PrintMore
set_option linter.unusedVariables false
set_option linter.unusedSimpArgs false
theorem Qa {p:Prop} [Decidable p] (h:decide p=true:=by first|(with_reducible assumption)|assumption):p:=of_decide_eq_true h
theorem Qb {α:Type} {a b:α} {p q:Prop} (hy:a=b) (H:q) (h:a=b→q→p:=by intro hy_ H_;first|(rw [hy_];with_reducible exact H_)|(have H2_:=(Option.bind_some _ _).symm.trans H_;rw [hy_];with_reducible exact H2_)|(have H2_:=(Option.bind_some _ _).symm.trans H_;with_reducible exact H2_)|with_reducible exact H_|(rw [hy_];exact H_)|exact H_):p:=h hy H
theorem Qc {p:Prop} (h:p:=by repeat (first|(with_reducible first|exact HB.out|apply zG|apply zC|apply zI)|exact HB.out)):p:=h
theorem Qd {a0:Prop} {p:Prop} (g0:zA a0) (h:a0→p:=by intro g0_;repeat (first|(with_reducible first|exact HB.out|apply zG|apply zC|apply zI|refine zK ?_ g0_)|exact HB.out)):p:=h g0.out
theorem Qe {a0:Prop} {a1:Prop} {p:Prop} (g0:zA a0) (g1:zA a1) (h:a0→a1→p:=by intro g0_ g1_;repeat (first|(with_reducible first|exact HB.out|apply zG|apply zC|apply zI|refine zK ?_ g0_|refine zK ?_ g1_)|exact HB.out)):p:=h g0.out g1.out
theorem Qf {a0:Prop} {a1:Prop} {a2:Prop} {p:Prop} (g0:zA a0) (g1:zA a1) (g2:zA a2) (h:a0→a1→a2→p:=by intro g0_ g1_ g2_;repeat (first|(with_reducible first|exact HB.out|apply zG|apply zC|apply zI|refine zK ?_ g0_|refine zK ?_ g1_|refine zK ?_ g2_)|exact HB.out)):p:=h g0.out g1.out g2.out
theorem Qg {a0:Prop} {a1:Prop} {a2:Prop} {a3:Prop} {p:Prop} (g0:zA a0) (g1:zA a1) (g2:zA a2) (g3:zA a3) (h:a0→a1→a2→a3→p:=by intro g0_ g1_ g2_ g3_;repeat (first|(with_reducible first|exact HB.out|apply zG|apply zC|apply zI|refine zK ?_ g0_|refine zK ?_ g1_|refine zK ?_ g2_|refine zK ?_ g3_)|exact HB.out)):p:=h g0.out g1.out g2.out g3.out
theorem Qh {a p:Prop} (k:zA a) (h:a→p:=by intro k_;(with_reducible repeat (first|apply Kd.R_alloc|apply Kd.R_drewN|apply Kd.R_drew));exact k_):p:=h k.out
theorem Qi {a p:Prop} (k:zA a) (h:a→p:=by intro k_;(with_reducible repeat (first|refine zM ?_ _|refine zN ?_|refine zL ?_ _));exact k_):p:=h k.out
theorem Qj {a p:Prop} (k:zA a) (h:a→p:=by intro k_;(with_reducible repeat (first|apply Kd.S_alloc|apply Kd.S_drewN|apply Kd.S_drew));exact k_):p:=h k.out
theorem Qk {a p:Prop} (k:zA a) (h:a→p:=by intro k_;(with_reducible repeat (first|apply Kd.N_alloc|apply Kd.N_drewN|apply Kd.N_drew));exact k_):p:=h k.out
theorem Ql {a p:Prop} (k:zA a) (h:a→p:=by intro k_;(with_reducible repeat (first|apply Kd.V_alloc|apply Kd.V_drewN|apply Kd.V_drew));exact k_):p:=h k.out
theorem Qm {p:Prop} (h:p:=by first|(go_simp;done)|(go_simp;rfl)):p:=h
theorem Qn {w:World} {g:Nat} {t:TypeId} {cs:Array Value} {v:Value} (h:zA (w.heap[g]? =some (.cells cs t (0,0)))) (i:Nat) (hv:cs[i]? =some v):w.cell? ⟨g,i,none⟩=some v:=(zO h.out i).trans hv
theorem Qo {a p:Prop} (k:a) (h:a→p:=by intro k_;repeat (first|exact k_|(with_reducible refine Kd.C_alloc ?_ _)|(with_reducible refine Kd.C_drewN ?_ _)|(with_reducible refine Kd.C_drew ?_))):p:=h k
theorem Qp {w W:World} {a:Addr} {v:Value} (hb:zA (Below w.heap.size w W)) (h:w.cell? a=some v):W.cell? a=some v:=(hb.out.cell (World.block_lt_of_cell? _ _ h)).trans h
theorem Qq {P:Program} {ops:Array Oper} {Q:Exit→Act→World→Prop} {md:Region.Mode} {S:World→Prop} {ds:List Nat} {T:Bool × List (List Nat × List Nat)} {i:Nat} {N:Option Tmp} {oi:Oper} {v:Value} {fuel:Nat} {l:Array Bool} {a a':Act} {w:World} (l':Array Bool) (hT:rtab md ops=T) (h:yD P md ops Q S ds fuel l' a' w) (hi:ops[i]? =some oi:=by rfl) (hN:oi.dst=N:=by rfl) (hc:anyT T l.toList l'.toList i=true:=by kernel_rfl) (hQ:∀c a w,Q (.panic c) (a.put oi.dst v) w→Q (.panic c) a w:=by exact fun _ _ _ h=>h) (hy:Yields P ops oi v a:=by exact Or.inl ⟨by rfl,by intro w';go_simp;with_reducible rfl⟩) (ha:a.put N v=a':=by simp only [Act.put,List.setIfInBounds_toArray,List.set_cons_zero,List.set_cons_succ,yz,ZQ];rfl):yD P md ops Q S ds (fuel + 1) l a w:=pure_ l' hi hN (any_of hT hc) hQ hy ha h
theorem Qr {P:Program} {ops:Array Oper} {Q:Exit→Act→World→Prop} {md:Region.Mode} {S:World→Prop} {ds:List Nat} {T:Bool × List (List Nat × List Nat)} {i:Nat} {N:Option Tmp} {oi:Oper} {v:Value} {fuel:Nat} {l:Array Bool} {a a':Act} {w:World} (l':Array Bool) (hT:rtab md ops=T) {B:List Nat} (hB:ZL T.2 B=true) (hS:S w) (h:yD P md ops Q S ds fuel l' a' w) (hi:ops[i]? =some oi:=by rfl) (hN:oi.dst=N:=by rfl) (hc:takeW T B ds l.toList l'.toList i=true:=by kernel_rfl) (hQ:∀c a w,Q (.panic c) (a.put oi.dst v) w→Q (.panic c) a w:=by exact fun _ _ _ h=>h) (hy:YieldsIf P ops S oi v a:=by exact Or.inl ⟨by rfl,by rintro w' ⟨s0,s1,s2,s3⟩;go_simp;with_reducible rfl⟩) (ha:a.put N v=a':=by simp only [Act.put,List.setIfInBounds_toArray,List.set_cons_zero,List.set_cons_succ,yz,ZQ];rfl):yD P md ops Q S ds (fuel + 1) l a w:=take_ l' hi hN (Yh hT hB hc) hQ hy hS ha h
theorem Qs {P:Program} {ops:Array Oper} {Q:Exit→Act→World→Prop} {md:Region.Mode} {S:World→Prop} {ds:List Nat} {T:Bool × List (List Nat × List Nat)} {i:Nat} {N:Option Tmp} {oi:Oper} {v:Value} {fuel:Nat} {l:Array Bool} {a a':Act} {w:World} (l':Array Bool) (hT:rtab md ops=T) {B:List Nat} (hB:ZL T.2 B=true) (hS:S w) (h:yD P md ops Q S ds fuel l' a' w) (hi:ops[i]? =some oi:=by rfl) (hN:oi.dst=N:=by rfl) (hc:takeW T B ds l.toList l'.toList i=true:=by kernel_rfl) (hQ:∀c a w,Q (.panic c) (a.put oi.dst v) w→Q (.panic c) a w:=by exact fun _ _ _ h=>h) (hy:YieldsIf P ops S oi v a:=by exact Or.inl ⟨by rfl,by rintro w' ⟨s0,s1,s2,s3,s4,s5,s6,s7,s8,s9⟩;go_simp;with_reducible rfl⟩) (ha:a.put N v=a':=by simp only [Act.put,List.setIfInBounds_toArray,List.set_cons_zero,List.set_cons_succ,yz,ZQ];rfl):yD P md ops Q S ds (fuel + 1) l a w:=take_ l' hi hN (Yh hT hB hc) hQ hy hS ha h
theorem Qt {P:Program} {ops:Array Oper} {Q:Exit→Act→World→Prop} {md:Region.Mode} {S:World→Prop} {ds:List Nat} {T:Bool × List (List Nat × List Nat)} {i:Nat} {N:Option Tmp} {oi:Oper} {v:Value} {fuel:Nat} {l:Array Bool} {a a':Act} {w:World} (l':Array Bool) (hT:rtab md ops=T) {B:List Nat} (hB:ZL T.2 B=true) (hS:S w) (h:yD P md ops Q S ds fuel l' a' w) (hi:ops[i]? =some oi:=by rfl) (hN:oi.dst=N:=by rfl) (hc:takeW T B ds l.toList l'.toList i=true:=by kernel_rfl) (hQ:∀c a w,Q (.panic c) (a.put oi.dst v) w→Q (.panic c) a w:=by exact fun _ _ _ h=>h) (hy:YieldsIf P ops S oi v a:=by exact Or.inl ⟨by rfl,by rintro w' ⟨s0,s1⟩;go_simp;with_reducible rfl⟩) (ha:a.put N v=a':=by simp only [Act.put,List.setIfInBounds_toArray,List.set_cons_zero,List.set_cons_succ,yz,ZQ];rfl):yD P md ops Q S ds (fuel + 1) l a w:=take_ l' hi hN (Yh hT hB hc) hQ hy hS ha h
theorem Qu {P:Program} {ops:Array Oper} {Q:Exit→Act→World→Prop} {md:Region.Mode} {S:World→Prop} {ds:List Nat} {T:Bool × List (List Nat × List Nat)} {i:Nat} {N:Option Tmp} {oi:Oper} {v:Value} {fuel:Nat} {l:Array Bool} {a a':Act} {w:World} (l':Array Bool) (hT:rtab md ops=T) {B:List Nat} (hB:ZL T.2 B=true) (hS:S w) (h:yD P md ops Q S ds fuel l' a' w) (hi:ops[i]? =some oi:=by rfl) (hN:oi.dst=N:=by rfl) (hc:takeW T B ds l.toList l'.toList i=true:=by kernel_rfl) (hQ:∀c a w,Q (.panic c) (a.put oi.dst v) w→Q (.panic c) a w:=by exact fun _ _ _ h=>h) (hy:YieldsIf P ops S oi v a:=by exact Or.inl ⟨by rfl,by rintro w' ⟨s0,s1,s2,s3,s4⟩;go_simp;with_reducible rfl⟩) (ha:a.put N v=a':=by simp only [Act.put,List.setIfInBounds_toArray,List.set_cons_zero,List.set_cons_succ,yz,ZQ];rfl):yD P md ops Q S ds (fuel + 1) l a w:=take_ l' hi hN (Yh hT hB hc) hQ hy hS ha h
theorem Qv {P:Program} {ops:Array Oper} {Q:Exit→Act→World→Prop} {md:Region.Mode} {S:World→Prop} {ds:List Nat} {T:Bool × List (List Nat × List Nat)} {i:Nat} {N:Option Tmp} {oi:Oper} {v:Value} {fuel:Nat} {l:Array Bool} {a a':Act} {w:World} (l':Array Bool) (hT:rtab md ops=T) {B:List Nat} (hB:ZL T.2 B=true) (hS:S w) (h:yD P md ops Q S ds fuel l' a' w) (hi:ops[i]? =some oi:=by rfl) (hN:oi.dst=N:=by rfl) (hc:takeW T B ds l.toList l'.toList i=true:=by kernel_rfl) (hQ:∀c a w,Q (.panic c) (a.put oi.dst v) w→Q (.panic c) a w:=by exact fun _ _ _ h=>h) (hy:YieldsIf P ops S oi v a:=by exact Or.inl ⟨by rfl,by rintro w' ⟨s0,s1,s2,s3,s4,s5,s6,s7⟩;go_simp;with_reducible rfl⟩) (ha:a.put N v=a':=by simp only [Act.put,List.setIfInBounds_toArray,List.set_cons_zero,List.set_cons_succ,yz,ZQ];rfl):yD P md ops Q S ds (fuel + 1) l a w:=take_ l' hi hN (Yh hT hB hc) hQ hy hS ha h
theorem Qw {p:Prop} (h:p:=by (with_reducible repeat (first|refine zM ?_ _|refine zN ?_|refine zL ?_ _));refine yO (cs:= #[.int .i64 a0_0, .int .i64 a0_1, .slice Ao16 t110.length co16, .slice none 0 0]) ?_ 3 _ rfl;(with_reducible repeat (first|refine zM ?_ _|refine zN ?_|refine zL ?_ _));refine yO (cs:= #[.int .i64 a0_0, .int .i64 a0_1, .slice none 0 0, .slice none 0 0]) ?_ 2 _ rfl;(with_reducible repeat (first|refine zM ?_ _|refine zN ?_|refine zL ?_ _));refine yO (cs:= #[.int .i64 a0_0, .int .i64 0, .slice none 0 0, .slice none 0 0]) ?_ 1 _ rfl;(with_reducible repeat (first|refine zM ?_ _|refine zN ?_|refine zL ?_ _));refine yO (cs:= #[.int .i64 0, .int .i64 0, .slice none 0 0, .slice none 0 0]) ?_ 0 _ rfl;(with_reducible repeat (first|refine zM ?_ _|refine zN ?_|refine zL ?_ _));exact BK108.out):p:=h
theorem Qx {p:Prop} (h:p:=by (with_reducible repeat (first|refine zM ?_ _|refine zN ?_|refine zL ?_ _));refine yO (cs:= #[.bool false, .int .i64 0]) ?_ 1 _ rfl;(with_reducible repeat (first|refine zM ?_ _|refine zN ?_|refine zL ?_ _));refine yO (cs:= #[.bool false, .int .i64 0]) ?_ 0 _ rfl;(with_reducible repeat (first|refine zM ?_ _|refine zN ?_|refine zL ?_ _));exact BK209.out):p:=h
theorem Qy {p:Prop} (h:p:=by (with_reducible repeat (first|refine zM ?_ _|refine zN ?_|refine zL ?_ _));refine yO (cs:= #[.bool true, .int .i64 0]) ?_ 1 _ rfl;(with_reducible repeat (first|refine zM ?_ _|refine zN ?_|refine zL ?_ _));refine yO (cs:= #[.bool false, .int .i64 0]) ?_ 0 _ rfl;(with_reducible repeat (first|refine zM ?_ _|refine zN ?_|refine zL ?_ _));exact BK209.out):p:=h
theorem Qz {p:Prop} (h:p:=by (with_reducible repeat (first|refine zM ?_ _|refine zN ?_|refine zL ?_ _));refine yE ?_ NB204_209.out _;(with_reducible repeat (first|refine zM ?_ _|refine zN ?_|refine zL ?_ _));refine yE ?_ NB204_209.out _;(with_reducible repeat (first|refine zM ?_ _|refine zN ?_|refine zL ?_ _));exact BK204.out):p:=h
theorem QA {p:Prop} (h:p:=by (with_reducible repeat (first|refine zM ?_ _|refine zN ?_|refine zL ?_ _));refine yE ?_ NB244_255.out _;(with_reducible repeat (first|refine zM ?_ _|refine zN ?_|refine zL ?_ _));refine yE ?_ NB244_255.out _;(with_reducible repeat (first|refine zM ?_ _|refine zN ?_|refine zL ?_ _));exact BK244.out):p:=h
theorem QB {p:Prop} (h:p:=by (with_reducible repeat (first|refine zM ?_ _|refine zN ?_|refine zL ?_ _));refine yE ?_ NB249_255.out _;(with_reducible repeat (first|refine zM ?_ _|refine zN ?_|refine zL ?_ _));refine yE ?_ NB249_255.out _;(with_reducible repeat (first|refine zM ?_ _|refine zN ?_|refine zL ?_ _));exact BK249.out):p:=h
theorem QC {p:Prop} (h:p:=by (try simp only [List.map_toArray,List.map_cons,List.map_nil]);first|done|(rw [show (l0_2.take ((ji4):Int).toNat).length=(ji4).toNat from (by rw [List.length_take];have h_:((ji4):Int)≤(l0_2.length:Int):=Qa;omega)] <;> rfl)|(simp only [hji4];rfl)|rfl|(simp only [List.length_drop,List.length_take];rfl)):p:=h
theorem QD {p:Prop} (h:p:=by (with_reducible repeat (first|apply Kd.R_alloc|apply Kd.R_drewN|apply Kd.R_drew));exact (Kd.R_mono (Kd.R_far (p:=⟨gb209,1,none⟩) (Kd.R_far (p:=⟨gb209,0,none⟩) (Kd.R_types HO_6.out BK209.out (by decide)) (fun _ hk=>hk.2) (.bool false)) (fun _ hk=>hk.2) (.int .i64 ((zl l1 x13_1).f1))) (fun _ h_=>h_.1))):p:=h
theorem QE {p:Prop} (h:p:=by (with_reducible repeat (first|apply Kd.R_alloc|apply Kd.R_drewN|apply Kd.R_drew));exact (Kd.R_mono (Kd.R_far (p:=⟨gb209,1,none⟩) (Kd.R_far (p:=⟨gb209,0,none⟩) (Kd.R_types HO_6.out BK209.out (by decide)) (fun _ hk=>hk.2) (.bool true)) (fun _ hk=>hk.2) (.int .i64 ((zl l1 x13_1).f1))) (fun _ h_=>h_.1))):p:=h
theorem QF {p:Prop} (h:p:=by repeat (first|(with_reducible first|exact HB.out|apply zG|apply zC|apply zI|refine zK ?_ (zT.ge HI1.out)|refine zK ?_ GE166.out)|exact HB.out)):p:=h
theorem QG {p:Prop} (h:p:=by repeat (first|(with_reducible first|exact HB.out|apply zG|apply zC|apply zI|refine zK ?_ (zT.ge HI1.out)|refine zK ?_ GE180.out)|exact HB.out)):p:=h
theorem QH {p:Prop} (h:p:=by repeat (first|(with_reducible exact HR262_0.out)|(with_reducible refine Kd.C_alloc ?_ _)|(with_reducible refine Kd.C_drewN ?_ _)|(with_reducible refine Kd.C_drew ?_)|exact HR262_0.out)):p:=h
theorem QI {p:Prop} (h:p:=by repeat (first|(with_reducible exact HR268_0.out)|(with_reducible refine Kd.C_alloc ?_ _)|(with_reducible refine Kd.C_drewN ?_ _)|(with_reducible refine Kd.C_drew ?_)|exact HR268_0.out)):p:=h
theorem QJ {p:Prop} (h:p:=by repeat (first|(with_reducible exact HR287_0.out)|(with_reducible refine Kd.C_alloc ?_ _)|(with_reducible refine Kd.C_drewN ?_ _)|(with_reducible refine Kd.C_drew ?_)|exact HR287_0.out)):p:=h
theorem QK {p:Prop} (h:p:=by repeat (first|(with_reducible exact HR288_0.out)|(with_reducible refine Kd.C_alloc ?_ _)|(with_reducible refine Kd.C_drewN ?_ _)|(with_reducible refine Kd.C_drew ?_)|exact HR288_0.out)):p:=h
theorem QL {p:Prop} (h:p:=by repeat (first|(with_reducible exact HR358_0.out)|(with_reducible refine Kd.C_alloc ?_ _)|(with_reducible refine Kd.C_drewN ?_ _)|(with_reducible refine Kd.C_drew ?_)|exact HR358_0.out)):p:=h
theorem QM {p:Prop} (h:p:=by repeat (first|(with_reducible exact HR363_0.out)|(with_reducible refine Kd.C_alloc ?_ _)|(with_reducible refine Kd.C_drewN ?_ _)|(with_reducible refine Kd.C_drew ?_)|exact HR363_0.out)):p:=h
theorem QN {p:Prop} (h:p:=by repeat (first|(with_reducible first|exact HK.out|apply zk.set_|apply ya|apply yj|apply yb|refine qC ?_ GW180.out _)|exact HK.out)):p:=h
theorem QO {p:Prop} (h:p:=by repeat (first|(with_reducible first|exact HB.out|apply zG|apply zC|apply zI|refine zK ?_ (zT.ge HI175.out))|exact HB.out)):p:=h
theorem QP {p:Prop} (h:p:=by repeat (first|(with_reducible first|exact HB.out|apply zG|apply zC|apply zI|refine zK ?_ (zT.ge HI189.out))|exact HB.out)):p:=h
theorem QQ {p:Prop} (h:p:=by repeat (first|(with_reducible first|exact HI175.out|apply zT.alloc|apply zT.drewN|apply zT.drew|apply zT.set_0|apply zT.set_1)|exact HI175.out)):p:=h
theorem QR {p:Prop} (h:p:=by repeat (first|(with_reducible first|exact HB.out|apply zG|apply zC|apply zI|refine zK ?_ (zT.ge HI1.out))|exact HB.out)):p:=h
theorem QS {p:Prop} (h:p:=by repeat (first|(with_reducible first|exact HI1.out|apply zT.alloc|apply zT.drewN|apply zT.drew|apply zT.set_0|apply zT.set_1)|exact HI1.out)):p:=h
theorem QT {p:Prop} (h:p:=by (try simp only [List.map_toArray,List.map_cons,List.map_nil]);first|done|(simp only [hji4];rfl)|rfl|(simp only [List.length_drop,List.length_take];rfl)):p:=h
theorem QU {p:Prop} (h:p:=by have h_:(x4_1:Int) < ((x140003_1.length:Int):Int):=Qa;first|exact h_|(have e_:=(Kd.N_reads' HO_140003.out).1;omega)|simpa using h_):p:=h
theorem QV {p:Prop} (h:p:=by repeat (first|(with_reducible first|exact HK.out|apply zk.set_|apply ya|apply yj|apply yb)|exact HK.out)):p:=h
theorem QW {p:Prop} (h:p:=by have h_:(x18_1:Int) < ((x5_1.length:Int):Int):=Qa;first|exact h_|(have e_:=(Kd.N_reads' HO_5.out).1;omega)|simpa using h_):p:=h
theorem QX {p:Prop} (h:p:=by have h_:(x18_1:Int) < ((x5_2.length:Int):Int):=Qa;first|exact h_|(have e_:=(Kd.N_reads' HO_5.out).1;omega)|simpa using h_):p:=h
theorem QY {p:Prop} (h:p:=by have h_:(x32_1:Int) < ((x7_1.length:Int):Int):=Qa;first|exact h_|(have e_:=(Kd.N_reads' HO_7.out).1;omega)|simpa using h_):p:=h
theorem QZ {p:Prop} (h:p:=by (try simp only [List.map_toArray,List.map_cons,List.map_nil]);first|done|rfl|(simp only [List.length_drop,List.length_take];rfl)):p:=h
theorem Q3 {p:Prop} (h:p:=by first|exact q358|exact Qa|(have e_:=(Kd.N_reads' HO346.out).1;omega)):p:=h
theorem Q4 {p:Prop} (h:p:=by repeat (first|exact HB2.out|apply zC|apply zI)):p:=h
theorem Q5 {p:Prop} (h:p:=by show w.heap.size≤w.heap.size + 1 + 1 + 1;omega):p:=h
theorem Q6 {p:Prop} (h:p:=by first|rfl|(simp;done)|(simp [*];done)):p:=h
theorem ZzA (w : World) (a : Addr) {v : Value} (h : w.cell? a = some v) : a.block < w.heap.size := World.block_lt_of_cell? w a h
theorem ZzB {α β : Type} {o : Option α} {f : α → Option β} {b : β} (h : o.bind f = some b) : ∃ a, o = some a ∧ f a = some b := Option.bind_eq_some_iff.mp h
end Go.Proofs.YtpfeebmfihgelaaGreat.HGuessWhole
