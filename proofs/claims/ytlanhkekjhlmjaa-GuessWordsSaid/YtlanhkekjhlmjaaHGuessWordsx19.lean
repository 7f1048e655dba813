-- Written by plus.py for this claim.
import Derived.Test.YtlanhkekjhlmjaaSGuessWordsVZip
import Derived.Test.YtlanhkekjhlmjaaHGuessWordsx0
import Derived.Test.YtlanhkekjhlmjaaHGuessWordsx3
import Derived.Test.YtlanhkekjhlmjaaHGuessWordsx13
import Derived.Test.YtlanhkekjhlmjaaHGuessWordsx14
import Derived.Test.YtlanhkekjhlmjaaHGuessWordsx15
import Derived.Test.YtlanhkekjhlmjaaHGuessWordsx18
namespace Go.Proofs.Ytlanhkekjhlmjaa.HGuessWords
open Go.RowKit Go.Proofs.YtlanhkekjhlmjaaW.PrintWords Go.Proofs.YtlanhkekjhlmjaaW.PrintLast Go.Proofs.YtlanhkekjhlmjaaW.PrintMore
attribute [local go_sem] yq yr ZM ZN yj yk yt yu   -- for this text's walks alone
set_option linter.unusedVariables false
set_option linter.unusedSimpArgs false
mutual
def zJ.l0:Nat→List Bool→Int→Int→Int→List Int→List (S45)→Option (Bool)
 | 0,_,_,_,_,_,_=>none
 | k + 1,x3,x4,x421000,wU,x421002,x421003=>if x4 < (x3.length:Int) then (if 0≤x4 then (if rdOf false x3 x4=true then (zJ.l0 k x3 (wrap64 (x4 + 1)) x421000 wU x421002 x421003) else (some true)) else (none)) else ((zP.f k x421000 wU x421002 x421003 0 3).bind fun bt435=>(if bt435.2=true then (zJ.j1 k bt435.1 (decide ((bt435.1.length:Int) > 200)) x421000 wU x421002 x421003) else (zJ.j1 k bt435.1 true x421000 wU x421002 x421003)))
def zJ.j1:Nat→List ByteArray→Bool→Int→Int→List Int→List (S45)→Option (Bool)
 | 0,_,_,_,_,_,_=>none
 | k + 1,x5,x42,x421000,wU,x421002,x421003=>if x42=true then (some true) else (zJ.l1 k x5 0 x421000 wU x421002 x421003)
def zJ.l1:Nat→List ByteArray→Int→Int→Int→List Int→List (S45)→Option (Bool)
 | 0,_,_,_,_,_,_=>none
 | k + 1,x5,x7,x421000,wU,x421002,x421003=>if x7 < (x5.length:Int) then (if 0≤x7 then (if (rdOf ByteArray.empty x5 x7).size + 4≤9223372036854775807 then (if 0≤wU then (if wU≤(((rdOf ByteArray.empty x5 x7) ++ (⟨#[0,0,0,0]⟩:ByteArray)).size:Int) then ((zY.f k x421000 wU x421002 x421003 0 (((rdOf ByteArray.empty x5 x7) ++ (⟨#[0,0,0,0]⟩:ByteArray)).extract 0 (wU:Int).toNat)).bind fun bt440=>(if bt440.2=0 then (if bt440.1 < 0 then (some false) else (zJ.l1 k x5 (wrap64 (x7 + 1)) x421000 wU x421002 x421003)) else (some (bt440.2 == 15)))) else (none)) else (none)) else (none)) else (none)) else (some true)
end
def zJ.f (k:Nat) (a0_0:Int) (a0_1:Int) (l0_2:List Int) (l0_3:List (S45)):Option (Bool):=(yO.f k).bind fun t421=>(if t421=true then ((zj.f k a0_0 a0_1 l0_2 l0_3).bind fun bt422=>((zI.f k bt422.1 bt422.2.1 bt422.2.2.1 bt422.2.2.2).bind fun t430=>(if t430=0 then ((yN.f k bt422.1 bt422.2.1 bt422.2.2.1 bt422.2.2.2).bind fun t431=>(zJ.l0 k t431 0 bt422.1 bt422.2.1 bt422.2.2.1 bt422.2.2.2)) else (some true)))) else (some false))
theorem zJ.mono_l:∀k,(∀y0 y1 y2 y3 y4 y5,LeO (zJ.l0 k y0 y1 y2 y3 y4 y5) (zJ.l0 (k + 1) y0 y1 y2 y3 y4 y5))∧(∀y0 y1 y2 y3 y4 y5,LeO (zJ.j1 k y0 y1 y2 y3 y4 y5) (zJ.j1 (k + 1) y0 y1 y2 y3 y4 y5))∧(∀y0 y1 y2 y3 y4 y5,LeO (zJ.l1 k y0 y1 y2 y3 y4 y5) (zJ.l1 (k + 1) y0 y1 y2 y3 y4 y5))
 | 0=>⟨fun _ _ _ _ _ _ r h=>by simp [zJ.l0] at h,fun _ _ _ _ _ _ r h=>by simp [zJ.j1] at h,fun _ _ _ _ _ _ r h=>by simp [zJ.l1] at h⟩
 | k + 1=>by
  obtain ⟨ih0,ih1,ih2⟩:=zJ.mono_l k;refine ⟨?_,?_,?_⟩
  ·intro y0 y1 y2 y3 y4 y5
   unfold zJ.l0
   repeat' first
   | with_reducible first|exact ih0 _ _ _ _ _ _|exact ih1 _ _ _ _ _ _|exact ih2 _ _ _ _ _ _|exact zj.mono _ _ _ _ _|exact yO.mono _|exact zI.mono _ _ _ _ _|exact yN.mono _ _ _ _ _|exact zP.mono _ _ _ _ _ _ _|exact zY.mono _ _ _ _ _ _ _|exact LeO.refl _|exact LeO.none _|refine LeO.ite ?_ ?_|refine LeO.bind ?_ (fun _=> ?_)
   | exact ih0 _ _ _ _ _ _|exact ih1 _ _ _ _ _ _|exact ih2 _ _ _ _ _ _|exact zj.mono _ _ _ _ _|exact yO.mono _|exact zI.mono _ _ _ _ _|exact yN.mono _ _ _ _ _|exact zP.mono _ _ _ _ _ _ _|exact zY.mono _ _ _ _ _ _ _|exact LeO.none _|refine LeO.ite ?_ ?_|refine LeO.bind ?_ (fun _=> ?_)
  ·intro y0 y1 y2 y3 y4 y5
   unfold zJ.j1
   repeat' first
   | with_reducible first|exact ih0 _ _ _ _ _ _|exact ih1 _ _ _ _ _ _|exact ih2 _ _ _ _ _ _|exact zj.mono _ _ _ _ _|exact yO.mono _|exact zI.mono _ _ _ _ _|exact yN.mono _ _ _ _ _|exact zP.mono _ _ _ _ _ _ _|exact zY.mono _ _ _ _ _ _ _|exact LeO.refl _|exact LeO.none _|refine LeO.ite ?_ ?_|refine LeO.bind ?_ (fun _=> ?_)
   | exact ih0 _ _ _ _ _ _|exact ih1 _ _ _ _ _ _|exact ih2 _ _ _ _ _ _|exact zj.mono _ _ _ _ _|exact yO.mono _|exact zI.mono _ _ _ _ _|exact yN.mono _ _ _ _ _|exact zP.mono _ _ _ _ _ _ _|exact zY.mono _ _ _ _ _ _ _|exact LeO.none _|refine LeO.ite ?_ ?_|refine LeO.bind ?_ (fun _=> ?_)
  ·intro y0 y1 y2 y3 y4 y5
   unfold zJ.l1
   repeat' first
   | with_reducible first|exact ih0 _ _ _ _ _ _|exact ih1 _ _ _ _ _ _|exact ih2 _ _ _ _ _ _|exact zj.mono _ _ _ _ _|exact yO.mono _|exact zI.mono _ _ _ _ _|exact yN.mono _ _ _ _ _|exact zP.mono _ _ _ _ _ _ _|exact zY.mono _ _ _ _ _ _ _|exact LeO.refl _|exact LeO.none _|refine LeO.ite ?_ ?_|refine LeO.bind ?_ (fun _=> ?_)
   | exact ih0 _ _ _ _ _ _|exact ih1 _ _ _ _ _ _|exact ih2 _ _ _ _ _ _|exact zj.mono _ _ _ _ _|exact yO.mono _|exact zI.mono _ _ _ _ _|exact yN.mono _ _ _ _ _|exact zP.mono _ _ _ _ _ _ _|exact zY.mono _ _ _ _ _ _ _|exact LeO.none _|refine LeO.ite ?_ ?_|refine LeO.bind ?_ (fun _=> ?_)
theorem zJ.mono:∀a0 a1 a2 a3 k,LeO (zJ.f k a0 a1 a2 a3) (zJ.f (k + 1) a0 a1 a2 a3):=by
 intro a0 a1 a2 a3 k;obtain ⟨ih0,ih1,ih2⟩:=zJ.mono_l k
 unfold zJ.f
 repeat' first
   | with_reducible first|exact ih0 _ _ _ _ _ _|exact ih1 _ _ _ _ _ _|exact ih2 _ _ _ _ _ _|exact zj.mono _ _ _ _ _|exact yO.mono _|exact zI.mono _ _ _ _ _|exact yN.mono _ _ _ _ _|exact zP.mono _ _ _ _ _ _ _|exact zY.mono _ _ _ _ _ _ _|exact LeO.refl _|exact LeO.none _|refine LeO.ite ?_ ?_|refine LeO.bind ?_ (fun _=> ?_)
   | exact ih0 _ _ _ _ _ _|exact ih1 _ _ _ _ _ _|exact ih2 _ _ _ _ _ _|exact zj.mono _ _ _ _ _|exact yO.mono _|exact zI.mono _ _ _ _ _|exact yN.mono _ _ _ _ _|exact zP.mono _ _ _ _ _ _ _|exact zY.mono _ _ _ _ _ _ _|exact LeO.none _|refine LeO.ite ?_ ?_|refine LeO.bind ?_ (fun _=> ?_)
def zJ.T19:Bool × List (List Nat × List Nat):=(true,[([],[]),([],[]),([],[]),([2],[2]),([1,3],[1,3]),([0,4],[0,4]),([5],[5]),([6],[6]),([6],[6]),([7,5,0,1,2,3,4,5,6,7],[7]),([8,9,0,1,2,3,4,5,6,7,8,9],[8])])
def zJ.B19:List Nat:= [0,0,0,4,14,31,63,127,127,255,1023]
theorem zJ.tab19:rtab .any (qV Try.f4 19)=zJ.T19:=by kernel_rfl
theorem zJ.bits19:Zk zJ.T19.2 zJ.B19=true:=by kernel_rfl
set_option maxHeartbeats 8000000 in
set_option maxRecDepth 100000 in
theorem zJ.calls (k:Nat) (a0_0:Int) (a0_1:Int) (vi:Option Addr) (vk:Nat) (l0_2:List Int) (vp:Option Addr) (vl:Nat) (l0_3:List (S45)) (r:Bool) (w:World) (hr0_2:Kd.C (Kd.int .i64) w vi l0_2.length l0_2) (hc0_2:l0_2.length≤vk) (hr0_3:Kd.C k45 w vp l0_3.length l0_3) (hc0_3:l0_3.length≤vl) (h:zJ.f k a0_0 a0_1 l0_2 l0_3=some r) :
  Calls Try.prog 4 #[.agg #[.int .i64 a0_0, .int .i64 a0_1, .slice vi l0_2.length vk, .slice vp l0_3.length vl]] w fun e w'=>e= .returned (.bool r)∧Below w.heap.size w w':=by
 have hu25:=Try.underlying25;have wb:=zA.mk hr0_2;have wd:=zA.mk hc0_2;clear hr0_2 hc0_2;have vw:=zA.mk hr0_3;have wg:=zA.mk hc0_3;clear hr0_3 hc0_3;have HB:=zA.mk (Below.refl w.heap.size w);have H:((yO.f k).bind fun t421=>(if t421=true then ((zj.f k a0_0 a0_1 l0_2 l0_3).bind fun bt422=>((zI.f k bt422.1 bt422.2.1 bt422.2.2.1 bt422.2.2.2).bind fun t430=>(if t430=0 then ((yN.f k bt422.1 bt422.2.1 bt422.2.2.1 bt422.2.2.2).bind fun t431=>(zJ.l0 k t431 0 bt422.1 bt422.2.1 bt422.2.2.1 bt422.2.2.2)) else (some true)))) else (some false)))=some r:=h;clear h;replace H:=ZzB H;obtain ⟨t421,A20,H⟩:=H;replace H:(if t421=true then ((zj.f k a0_0 a0_1 l0_2 l0_3).bind fun bt422=>((zI.f k bt422.1 bt422.2.1 bt422.2.2.1 bt422.2.2.2).bind fun t430=>(if t430=0 then ((yN.f k bt422.1 bt422.2.1 bt422.2.2.1 bt422.2.2.2).bind fun t431=>(zJ.l0 k t431 0 bt422.1 bt422.2.1 bt422.2.2.1 bt422.2.2.2)) else (some true)))) else (some false))=some r:=H;have A2:=zA.mk A20;clear A20
 by_cases c3:t421=true
 ·subst c3
  have H1:((zj.f k a0_0 a0_1 l0_2 l0_3).bind fun bt422=>((zI.f k bt422.1 bt422.2.1 bt422.2.2.1 bt422.2.2.2).bind fun t430=>(if t430=0 then ((yN.f k bt422.1 bt422.2.1 bt422.2.2.1 bt422.2.2.2).bind fun t431=>(zJ.l0 k t431 0 bt422.1 bt422.2.1 bt422.2.2.1 bt422.2.2.2)) else (some true))))=some r:=by rw [if_pos rfl] at H;exact H
  clear H;have H:=H1;clear H1;replace H:=ZzB H;obtain ⟨⟨t422,t423,t424,t427⟩,A40,H⟩:=H;replace H:((zI.f k t422 t423 t424 t427).bind fun t430=>(if t430=0 then ((yN.f k t422 t423 t424 t427).bind fun t431=>(zJ.l0 k t431 0 t422 t423 t424 t427)) else (some true)))=some r:=H;have A4:=zA.mk A40;clear A40;replace H:=ZzB H;obtain ⟨t430,A50,H⟩:=H;replace H:(if t430=0 then ((yN.f k t422 t423 t424 t427).bind fun t431=>(zJ.l0 k t431 0 t422 t423 t424 t427)) else (some true))=some r:=H;have A5:=zA.mk A50;clear A50
  by_cases c6:t430=0
  ·rw [if_pos c6] at H
   have c6b0:(t430 == 0)=true:=beq_iff_eq.mpr c6;have c6b1:(t430 != 0)=false:=bne_eq_false_iff_eq.mpr c6;clear c6;replace H:=ZzB H;obtain ⟨t431,A70,H⟩:=H;replace H:(zJ.l0 k t431 0 t422 t423 t424 t427)=some r:=H;have A7:=zA.mk A70;clear A70;have H':=zA.mk H;clear H
   go_enter Try.func4,Try.ntmps4
   go_wp2_with (first|((with_reducible refine yB (N:=1) rfl ?_);(try (refine yV (by rfl) ?_;dsimp only));refine yH ?hg (N:=1) ?hd (cs:= #[.int .i64 a0_0, .int .i64 a0_1, .slice vi l0_2.length vk, .slice vp l0_3.length vl]) (t:=25) ?hr ?_;(case hd=>rfl);(case hg=>rfl);(case hr=>exact Qm);intro gb420 hg w8 hbox hb;have n0_:=zA.mk (zH Qc hb);have n1_:=zA.mk (hbox);have n2_:=zA.mk ((by rw [hg];exact (zE Qc):w.heap.size≤gb420));have n3_:=zA.mk ((by rw [hg];exact (zE Qc):w.heap.size≤gb420));clear HB;have HB:=n0_;have BK420:=n1_;have GW420:=n2_;have wa:=n3_;clear n0_ n1_ n2_ n3_ hb hbox hg)|((with_reducible refine zk (f:=9) rfl ?_);refine yQ (some 11) rfl rfl Try.func9 (by kernel_rfl) rfl #[] rfl QX ?_;(with_reducible refine (yO.calls k true _ A2.out).mono ?_);rintro e w9 ⟨rfl,hb⟩;refine ⟨_,rfl,?_⟩;have n0_:=zA.mk (ze (g:=gb420) (Qi BK420) hb);have n1_:=zA.mk (zH (Qd wa) hb);clear BK420 HB;have BK420:=n0_;have HB:=n1_;clear n0_ n1_;(try clear hb);(try clear hb2);(try clear hk);(try clear hi);have hcz10_0:=Qn BK420 0 rfl;have hcz10_1:=Qn BK420 1 rfl;have hcz10_2:=Qn BK420 2 rfl;have hcz10_3:=Qn BK420 3 rfl;have hfz10_0:=zB BK420.out 0;have hfz10_1:=zB BK420.out 1;have hfz10_2:=zB BK420.out 2;have hfz10_3:=zB BK420.out 3)|((with_reducible refine zk (f:=5) rfl ?_);refine yQ (some 14) rfl rfl Try.func5 (by kernel_rfl) rfl #[.agg #[.int .i64 a0_0, .int .i64 a0_1, .slice vi l0_2.length vk, .slice vp l0_3.length vl]] rfl QX ?_;(with_reducible refine (zj.calls k a0_0 a0_1 _ _ l0_2 _ _ l0_3 t422 t423 t424 t427 _ ?side1 ?side2 ?side3 ?side4 A4.out).mono ?_);(case side1=>exact Qo (Kd.C_below wb.out HB.out));(case side2=>exact wd.out);(case side3=>exact Qo (Kd.C_below vw.out HB.out));(case side4=>exact wg.out);rintro e w11 ⟨v425,v428,rfl,ho0,ho1,hb⟩;refine ⟨_,rfl,?_⟩;have n0_:=zA.mk (Kd.R_lower (Kd.R_mono (ok':=fun k_=>True) ho0 (fun _ hk_=>trivial)) (zE (Qd wa)));have n1_:=zA.mk (Kd.N_lower (Kd.N_mono (ok':=fun k_=>some k_≠(v425:Value).ownBlock∧k_≠gb420) ho1 (fun k_ hk_=>⟨hk_.2,(Kd.freshB (g:=gb420) (Qi BK420) k_ hk_.1)⟩)) (zE (Qd wa)));have n2_:=zA.mk (ze (g:=gb420) (Qi BK420) hb);have n3_:=zA.mk (zH (Qd wa) hb);clear BK420 HB;have HO426:=n0_;have HO429:=n1_;have BK420:=n2_;have HB:=n3_;clear n0_ n1_ n2_ n3_;(try clear hb ho0);(try clear ho1);have hcz12_0:=Qn BK420 0 rfl;have hcz12_1:=Qn BK420 1 rfl;have hcz12_2:=Qn BK420 2 rfl;have hcz12_3:=Qn BK420 3 rfl;have hfz12_0:=zB BK420.out 0;have hfz12_1:=zB BK420.out 1;have hfz12_2:=zB BK420.out 2;have hfz12_3:=zB BK420.out 3;obtain ⟨Ao13,co13,eo13⟩:=Kd.R_slice HO426.out;subst eo13;obtain ⟨Ao14,co14,eo14⟩:=Kd.N_slice HO429.out;subst eo14)|((with_reducible refine zk (f:=10) rfl ?_);refine yQ (some 16) rfl rfl Try.func10 (by kernel_rfl) rfl #[.agg #[.int .i64 t422, .int .i64 t423, .slice Ao13 t424.length co13, .slice Ao14 t427.length co14]] rfl QX ?_;(with_reducible refine (zI.calls k t422 t423 _ _ t424 _ _ t427 t430 _ ?side1 ?side2 ?side3 ?side4 A5.out).mono ?_);(case side1=>refine (Kd.R_reads' (e:=3) (base:=w.heap.size) (ok:=fun k_=>True) (n:=t424.length) (c:=co13) ?_).2.2;exact Qr);(case side2=>exact (Kd.R_reads' HO426.out).2.1);(case side3=>refine (Kd.N_reads' (e:=45) (base:=w.heap.size) (ok:=fun k_=>(some k_≠(.slice Ao13 t424.length co13:Value).ownBlock∧k_≠gb420)) (n:=t427.length) (c:=co14) ?_).2.2;exact Qq);(case side4=>exact (Kd.N_reads' HO429.out).2.1);rintro e w15 ⟨rfl,hb⟩;refine ⟨_,rfl,?_⟩;have n0_:=zA.mk (Kd.R_below Qr hb);have n1_:=zA.mk (Kd.N_below Qq hb);have n2_:=zA.mk (ze (g:=gb420) (o:= .cells #[.int .i64 t422, .int .i64 t423, .slice Ao13 t424.length co13, .slice Ao14 t427.length co14] 25 (0,0)) (by (with_reducible repeat (first|refine zO ?_ _|refine zQ ?_|refine zM ?_ _));refine yU (cs:= #[.int .i64 t422, .int .i64 t423, .slice Ao13 t424.length co13, .slice vp l0_3.length vl]) ?_ 3 _ rfl;(with_reducible repeat (first|refine zO ?_ _|refine zQ ?_|refine zM ?_ _));refine yU (cs:= #[.int .i64 t422, .int .i64 t423, .slice vi l0_2.length vk, .slice vp l0_3.length vl]) ?_ 2 _ rfl;(with_reducible repeat (first|refine zO ?_ _|refine zQ ?_|refine zM ?_ _));refine yU (cs:= #[.int .i64 t422, .int .i64 a0_1, .slice vi l0_2.length vk, .slice vp l0_3.length vl]) ?_ 1 _ rfl;(with_reducible repeat (first|refine zO ?_ _|refine zQ ?_|refine zM ?_ _));refine yU (cs:= #[.int .i64 a0_0, .int .i64 a0_1, .slice vi l0_2.length vk, .slice vp l0_3.length vl]) ?_ 0 _ rfl;(with_reducible repeat (first|refine zO ?_ _|refine zQ ?_|refine zM ?_ _));exact BK420.out) hb);have n3_:=zA.mk (zH (Qd wa) hb);clear HO426 HO429 BK420 HB;have HO426:=n0_;have HO429:=n1_;have BK420:=n2_;have HB:=n3_;clear n0_ n1_ n2_ n3_;(try clear hb);(try clear hb2);(try clear hk);(try clear hi);have hcz16_0:=Qn BK420 0 rfl;have hcz16_1:=Qn BK420 1 rfl;have hcz16_2:=Qn BK420 2 rfl;have hcz16_3:=Qn BK420 3 rfl;have hfz16_0:=zB BK420.out 0;have hfz16_1:=zB BK420.out 1;have hfz16_2:=zB BK420.out 2;have hfz16_3:=zB BK420.out 3)|((with_reducible refine zk (f:=11) rfl ?_);refine yQ (some 19) rfl rfl Try.func11 (by kernel_rfl) rfl #[.agg #[.int .i64 t422, .int .i64 t423, .slice Ao13 t424.length co13, .slice Ao14 t427.length co14]] rfl QX ?_;(with_reducible refine (yN.calls k t422 t423 _ _ t424 _ _ t427 t431 _ ?side1 ?side2 ?side3 ?side4 A7.out).mono ?_);(case side1=>repeat (first|exact (Kd.R_reads' HO426.out).2.2|(with_reducible refine Kd.C_alloc ?_ _)|(with_reducible refine Kd.C_drewN ?_ _)|(with_reducible refine Kd.C_drew ?_)));(case side2=>exact (Kd.R_reads' HO426.out).2.1);(case side3=>repeat (first|exact (Kd.N_reads' HO429.out).2.2|(with_reducible refine Kd.C_alloc ?_ _)|(with_reducible refine Kd.C_drewN ?_ _)|(with_reducible refine Kd.C_drew ?_)));(case side4=>exact (Kd.N_reads' HO429.out).2.1);rintro e w17 ⟨v432,rfl,ho0,hb⟩;refine ⟨_,rfl,?_⟩;have n0_:=zA.mk (Kd.R_below (Qh HO426) hb);have n1_:=zA.mk (Kd.N_elder' (Qk HO429) (Kd.R_base ho0) hb);have n2_:=zA.mk (Kd.R_lower ho0 (zE (Qd wa)));have n3_:=zA.mk (ze (g:=gb420) (Qi BK420) hb);have n4_:=zA.mk (zH (Qd wa) hb);clear HO426 HO429 BK420 HB;have HO426:=n0_;have HO429:=n1_;have HO433:=n2_;have BK420:=n3_;have HB:=n4_;clear n0_ n1_ n2_ n3_ n4_;(try clear hb ho0)))
   go_loopg [4] k (fun kq v4 w'=>∃(x4_1:Int),v4= .int .i64 x4_1∧zA (zJ.l0 kq t431 x4_1 t422 t423 t424 t427=some r)∧zA (kq≤k)∧zA (Kd.R Kd.bool 4 w' w.heap.size (fun _=>True) v432 t431)∧zA (Kd.R (Kd.int .i64) 3 w' w.heap.size (fun _=>True) (.slice Ao13 t424.length co13) t424)∧zA (Kd.N k45 45 w' w.heap.size (fun k_=>some k_≠(v432:Value).ownBlock∧some k_≠((.slice Ao13 t424.length co13):Value).ownBlock∧k_≠gb420) (.slice Ao14 t427.length co14) t427)∧zA (w'.heap[gb420]? =some (.cells #[.int .i64 t422, .int .i64 t423,(.slice Ao13 t424.length co13),(.slice Ao14 t427.length co14)] 25 (0,0)))∧zA (Below w.heap.size w w'))
   case atStart=>exact ⟨(0),Zb,H',⟨Nat.le_refl _⟩,⟨Qh HO433⟩,⟨Qh HO426⟩,⟨by (with_reducible repeat (first|apply Kd.N_alloc|apply Kd.N_drewN|apply Kd.N_drew));exact Kd.N_mono HO429.out (fun _ hk=>⟨hk.2,⟨hk.1.1,hk.1.2⟩⟩)⟩,⟨Qi BK420⟩,⟨by repeat (first|(with_reducible first|exact HB.out|apply zG|apply zC|apply zF|refine zK ?_ wa.out)|exact HB.out)⟩⟩
   case round=>
    clear H';(try clear c1);(try clear p2);(try clear c3);(try clear c4);(try clear c5);(try clear c6);(try clear c6b0);(try clear c6b1);(try clear c9);(try clear c10);(try clear c11);(try clear hcz10_0);(try clear hcz10_1);(try clear hcz10_2);(try clear hcz10_3);(try clear hcz12_0);(try clear hcz12_1);(try clear hcz12_2);(try clear hcz12_3);(try clear hcz16_0);(try clear hcz16_1);(try clear hcz16_2);(try clear hcz16_3);(try clear hfz10_0);(try clear hfz10_1);(try clear hfz10_2);(try clear hfz10_3);(try clear hfz12_0);(try clear hfz12_1);(try clear hfz12_2);(try clear hfz12_3);(try clear hfz16_0);(try clear hfz16_1);(try clear hfz16_2);(try clear hfz16_3);obtain ⟨x4_1,rfl,HA,HK1,HO_3,vf,vg,BK420,HB⟩:=hrel;cases gk with
    | zero=>exact absurd HA.out (by simp [zJ.l0])
    | succ k1=>
     have H:=HA.out;clear HA;simp only [zJ.l0] at H
     by_cases c18:x4_1 < (t431.length:Int)
     ·rw [if_pos c18] at H
      have c18b0:=decide_eq_true c18;clear c18
      by_cases c19:0≤x4_1
      ·rw [if_pos c19] at H
       have c19b0:=decide_eq_true c19;clear c19;obtain ⟨bq20,hbq20⟩:∃b_:Bool,b_=(rdOf false t431 x4_1):=⟨_,rfl⟩
       replace H:(if bq20=true then (zJ.l0 k1 t431 (wrap64 (x4_1 + 1)) t422 t423 t424 t427) else (some true))=some r:=by rw [←hbq20] at H;exact H
       have Nbq20:=zA.mk hbq20;clear hbq20
       by_cases c21:bq20=true
       ·subst c21
        have H1:(zJ.l0 k1 t431 (wrap64 (x4_1 + 1)) t422 t423 t424 t427)=some r:=by rw [if_pos rfl] at H;exact H
        clear H;have H:=H1;clear H1;have H':=zA.mk H;clear H;obtain ⟨Ao22,co22,eo22⟩:=Kd.R_slice HO_3.out;subst eo22;have p434:0≤(x4_1:Int):=Qa;have q434:x4_1 < (t431.length:Int):=Qa;obtain ⟨ad434,e434,hx434_0⟩:=Kd.at_bool (Kd.R_reads' HO_3.out).2.2 x4_1 p434 q434
        (try rw [←Nbq20.out] at hx434_0)
        cases e434;replace p434:=eq_true p434;replace q434:=eq_true q434
        go_wp2
        go_roundg k1
        case measure=>have:=HK1.out;omega
        case rel=>exact ⟨(wrap64 (x4_1 + 1)),Zb,H',⟨by have:=HK1.out;omega⟩,⟨Qh HO_3⟩,⟨Qh vf⟩,⟨Qk vg⟩,⟨Qi BK420⟩,⟨by repeat (first|(with_reducible first|exact HB.out|apply zG|apply zC|apply zF|refine zK ?_ wa.out)|exact HB.out)⟩⟩
       ·replace c21:=Bool.eq_false_iff.mpr c21
        subst c21
        have H1:(some true)=some r:=by rw [if_neg (show ¬(false=true) by decide)] at H;exact H
        clear H;have H:=H1;clear H1;obtain rfl:=Option.some.inj H;obtain ⟨Ao23,co23,eo23⟩:=Kd.R_slice HO_3.out;subst eo23;have p434:0≤(x4_1:Int):=Qa;have q434:x4_1 < (t431.length:Int):=Qa;obtain ⟨ad434,e434,hx434_0⟩:=Kd.at_bool (Kd.R_reads' HO_3.out).2.2 x4_1 p434 q434
        (try rw [←Nbq20.out] at hx434_0)
        cases e434;replace p434:=eq_true p434;replace q434:=eq_true q434
        go_wp2
        go_ret
        exact ⟨by first|rfl|(simp [zS,zT] <;> rfl)|(simp [*,zS,zT] <;> rfl),by repeat (first|(with_reducible first|exact HB.out|apply zG|apply zC|apply zF|refine zK ?_ wa.out)|exact HB.out)⟩
      ·rw [if_neg c19] at H
       exact absurd H (by simp)
     ·rw [if_neg c18] at H
      have c18b0:=decide_eq_false c18;clear c18;replace H:=ZzB H;obtain ⟨⟨Vd,t438⟩,A240,H⟩:=H;replace H:(if t438=true then (zJ.j1 k1 Vd (decide ((Vd.length:Int) > 200)) t422 t423 t424 t427) else (zJ.j1 k1 Vd true t422 t423 t424 t427))=some r:=H;have A24:=zA.mk A240;clear A240;have HC25:=zA.mk H;clear H;obtain ⟨Ao26,co26,eo26⟩:=Kd.R_slice HO_3.out;subst eo26;have hcz27_0:=Qn BK420 0 rfl;have hcz27_1:=Qn BK420 1 rfl;have hcz27_2:=Qn BK420 2 rfl;have hcz27_3:=Qn BK420 3 rfl;have hfz27_0:=zB BK420.out 0;have hfz27_1:=zB BK420.out 1;have hfz27_2:=zB BK420.out 2;have hfz27_3:=zB BK420.out 3
      go_upto_region 13 with (first|((with_reducible refine zk (f:=12) rfl ?_);refine yQ (some 33) rfl rfl Try.func12 (by kernel_rfl) rfl #[.agg #[.int .i64 t422, .int .i64 t423, .slice Ao13 t424.length co13, .slice Ao14 t427.length co14], .int .i64 0, .int .i64 3] rfl QX ?_;(with_reducible refine (zP.calls k1 t422 t423 _ _ t424 _ _ t427 0 3 Vd t438 _ ?side1 ?side2 ?side3 ?side4 A24.out).mono ?_);(case side1=>repeat (first|exact (Kd.R_reads' vf.out).2.2|(with_reducible refine Kd.C_alloc ?_ _)|(with_reducible refine Kd.C_drewN ?_ _)|(with_reducible refine Kd.C_drew ?_)));(case side2=>exact (Kd.R_reads' vf.out).2.1);(case side3=>repeat (first|exact (Kd.N_reads' vg.out).2.2|(with_reducible refine Kd.C_alloc ?_ _)|(with_reducible refine Kd.C_drewN ?_ _)|(with_reducible refine Kd.C_drew ?_)));(case side4=>exact (Kd.N_reads' vg.out).2.1);rintro e w28 ⟨v436,rfl,ho0,hb⟩;refine ⟨_,rfl,?_⟩;have n0_:=zA.mk (Kd.R_below (Qh HO_3) hb);have n1_:=zA.mk (Kd.R_below (Qh vf) hb);have n2_:=zA.mk (Kd.N_elder' (Qk vg) (Kd.R_base ho0) hb);have n3_:=zA.mk (Kd.R_lower ho0 (zE (Qd wa)));have n4_:=zA.mk (ze (g:=gb420) (Qi BK420) hb);have n5_:=zA.mk (zH (Qd wa) hb);clear HO_3 vf vg BK420 HB;have HO_3:=n0_;have vf:=n1_;have vg:=n2_;have HO437:=n3_;have BK420:=n4_;have HB:=n5_;clear n0_ n1_ n2_ n3_ n4_ n5_;(try clear hb ho0)))
      (try simp only [Act.put,List.setIfInBounds_toArray,List.set_cons_zero,List.set_cons_succ])
      go_cut [42] (fun v42 wc=>∃(kq:Nat) (x42_24:Bool),v42= .bool x42_24∧zA (zJ.j1 kq Vd x42_24 t422 t423 t424 t427=some r)∧zA (kq≤k1)∧zA (Kd.R Kd.string 9 wc w.heap.size (fun _=>True) v436 Vd)∧zA (Kd.R (Kd.int .i64) 3 wc w.heap.size (fun _=>True) (.slice Ao13 t424.length co13) t424)∧zA (Kd.N k45 45 wc w.heap.size (fun k_=>some k_≠(v436:Value).ownBlock∧some k_≠((.slice Ao13 t424.length co13):Value).ownBlock∧k_≠gb420) (.slice Ao14 t427.length co14) t427)∧zA (wc.heap[gb420]? =some (.cells #[.int .i64 t422, .int .i64 t423,(.slice Ao13 t424.length co13),(.slice Ao14 t427.length co14)] 25 (0,0)))∧zA (Below w.heap.size w wc))
      case first=>
       have H:=HC25.out;clear HC25
       by_cases c29:t438=true
       ·subst c29
        have H1:(zJ.j1 k1 Vd (decide ((Vd.length:Int) > 200)) t422 t423 t424 t427)=some r:=by rw [if_pos rfl] at H;exact H
        clear H;have H:=H1;clear H1;have H':=zA.mk H;clear H;obtain ⟨Ao30,co30,eo30⟩:=Kd.R_slice HO437.out;subst eo30
        go_wp2
        go_meet
        case rel=>exact ⟨_,(decide ((Vd.length:Int) > 200)),Zb,H',⟨by have:=HK1.out;first|omega|exact Nat.le_refl _⟩,⟨Qh HO437⟩,⟨Qh vf⟩,⟨by (with_reducible repeat (first|apply Kd.N_alloc|apply Kd.N_drewN|apply Kd.N_drew));exact Kd.N_mono vg.out (fun _ hk=>⟨hk.2,⟨hk.1.2.1,hk.1.2.2⟩⟩)⟩,⟨Qi BK420⟩,⟨by repeat (first|(with_reducible first|exact HB.out|apply zG|apply zC|apply zF|refine zK ?_ wa.out)|exact HB.out)⟩⟩
       ·replace c29:=Bool.eq_false_iff.mpr c29
        subst c29
        have H1:(zJ.j1 k1 Vd true t422 t423 t424 t427)=some r:=by rw [if_neg (show ¬(false=true) by decide)] at H;exact H
        clear H;have H:=H1;clear H1;have H':=zA.mk H;clear H
        go_wp2
        go_meet
        case rel=>exact ⟨_,(true),Zb,H',⟨by have:=HK1.out;first|omega|exact Nat.le_refl _⟩,⟨Qh HO437⟩,⟨Qh vf⟩,⟨by (with_reducible repeat (first|apply Kd.N_alloc|apply Kd.N_drewN|apply Kd.N_drew));exact Kd.N_mono vg.out (fun _ hk=>⟨hk.2,⟨hk.1.2.1,hk.1.2.2⟩⟩)⟩,⟨Qi BK420⟩,⟨by repeat (first|(with_reducible first|exact HB.out|apply zG|apply zC|apply zF|refine zK ?_ wa.out)|exact HB.out)⟩⟩
      case rest=>
       clear HC25;(try clear c1);(try clear c2);(try clear p2);(try clear q2);(try clear c3);(try clear c4);(try clear p4);(try clear q4);(try clear hx4);(try clear c5);(try clear c6);(try clear c6b0);(try clear c6b1);(try clear p6);(try clear c9);(try clear c10);(try clear c11);(try clear c12);(try clear c18);(try clear c18b0);(try clear c19);(try clear c19b0);(try clear q20);(try clear c21);(try clear c29);(try clear hcz10_0);(try clear hcz10_1);(try clear hcz10_2);(try clear hcz10_3);(try clear hcz12_0);(try clear hcz12_1);(try clear hcz12_2);(try clear hcz12_3);(try clear hcz16_0);(try clear hcz16_1);(try clear hcz16_2);(try clear hcz16_3);(try clear hcz27_0);(try clear hcz27_1);(try clear hcz27_2);(try clear hcz27_3);(try clear hfz10_0);(try clear hfz10_1);(try clear hfz10_2);(try clear hfz10_3);(try clear hfz12_0);(try clear hfz12_1);(try clear hfz12_2);(try clear hfz12_3);(try clear hfz16_0);(try clear hfz16_1);(try clear hfz16_2);(try clear hfz16_3);(try clear hfz27_0);(try clear hfz27_1);(try clear hfz27_2);(try clear hfz27_3);(try clear hx434_0);(try clear p2);(try clear p434);(try clear q434);obtain ⟨kq,x42_24,rfl,HA,HJ24,HO_5,vf,vg,BK420,HB⟩:=hcut;cases kq with
       | zero=>exact absurd HA.out (by simp [zJ.j1])
       | succ kj24=>
        have H:=HA.out;clear HA;simp only [zJ.j1] at H
        by_cases c31:x42_24=true
        ·subst c31
         have H1:(some true)=some r:=by rw [if_pos rfl] at H;exact H
         clear H;have H:=H1;clear H1;obtain rfl:=Option.some.inj H
         go_wp2
         go_ret
         exact ⟨by first|rfl|(simp [zS,zT] <;> rfl)|(simp [*,zS,zT] <;> rfl),by repeat (first|(with_reducible first|exact HB.out|apply zG|apply zC|apply zF|refine zK ?_ wa.out)|exact HB.out)⟩
        ·replace c31:=Bool.eq_false_iff.mpr c31
         subst c31
         have H1:(zJ.l1 kj24 Vd 0 t422 t423 t424 t427)=some r:=by rw [if_neg (show ¬(false=true) by decide)] at H;exact H
         clear H;have H:=H1;clear H1;have H':=zA.mk H;clear H
         go_wp2
         go_loopg [7] kj24 (fun kq v7 w'=>∃(x7_3:Int),v7= .int .i64 x7_3∧zA (zJ.l1 kq Vd x7_3 t422 t423 t424 t427=some r)∧zA (kq≤kj24)∧zA (Kd.R Kd.string 9 w' w.heap.size (fun _=>True) v436 Vd)∧zA (Kd.R (Kd.int .i64) 3 w' w.heap.size (fun _=>True) (.slice Ao13 t424.length co13) t424)∧zA (Kd.N k45 45 w' w.heap.size (fun k_=>some k_≠(v436:Value).ownBlock∧some k_≠((.slice Ao13 t424.length co13):Value).ownBlock∧k_≠gb420) (.slice Ao14 t427.length co14) t427)∧zA (w'.heap[gb420]? =some (.cells #[.int .i64 t422, .int .i64 t423,(.slice Ao13 t424.length co13),(.slice Ao14 t427.length co14)] 25 (0,0)))∧zA (Below w.heap.size w w'))
         case atStart=>exact ⟨(0),Zb,H',⟨Nat.le_refl _⟩,⟨Qh HO_5⟩,⟨Qh vf⟩,⟨Qk vg⟩,⟨Qi BK420⟩,⟨by repeat (first|(with_reducible first|exact HB.out|apply zG|apply zC|apply zF|refine zK ?_ wa.out)|exact HB.out)⟩⟩
         case round=>
          clear H';(try clear c1);(try clear c2);(try clear p2);(try clear q2);(try clear c3);(try clear c4);(try clear p4);(try clear q4);(try clear hx4);(try clear c5);(try clear c6);(try clear c6b0);(try clear c6b1);(try clear p6);(try clear c9);(try clear c10);(try clear c11);(try clear c12);(try clear c18);(try clear c18b0);(try clear c19);(try clear c19b0);(try clear q20);(try clear c21);(try clear c29);(try clear c31);(try clear hcz10_0);(try clear hcz10_1);(try clear hcz10_2);(try clear hcz10_3);(try clear hcz12_0);(try clear hcz12_1);(try clear hcz12_2);(try clear hcz12_3);(try clear hcz16_0);(try clear hcz16_1);(try clear hcz16_2);(try clear hcz16_3);(try clear hcz27_0);(try clear hcz27_1);(try clear hcz27_2);(try clear hcz27_3);(try clear hfz10_0);(try clear hfz10_1);(try clear hfz10_2);(try clear hfz10_3);(try clear hfz12_0);(try clear hfz12_1);(try clear hfz12_2);(try clear hfz12_3);(try clear hfz16_0);(try clear hfz16_1);(try clear hfz16_2);(try clear hfz16_3);(try clear hfz27_0);(try clear hfz27_1);(try clear hfz27_2);(try clear hfz27_3);(try clear hx434_0);(try clear p2);(try clear p4);(try clear p434);(try clear p6);(try clear q2);(try clear q20);(try clear q4);(try clear q434);obtain ⟨x7_3,rfl,HA,HK3,HO_5,vf,vg,BK420,HB⟩:=hrel;cases gk with
          | zero=>exact absurd HA.out (by simp [zJ.l1])
          | succ k3=>
           have H:=HA.out;clear HA;simp only [zJ.l1] at H
           by_cases c32:x7_3 < (Vd.length:Int)
           ·rw [if_pos c32] at H
            have c32b0:=decide_eq_true c32;clear c32
            by_cases c33:0≤x7_3
            ·rw [if_pos c33] at H
             have c33b0:=decide_eq_true c33;clear c33
             by_cases c34:(rdOf ByteArray.empty Vd x7_3).size + 4≤9223372036854775807
             ·rw [if_pos c34] at H
              have c34b0:=eq_true c34;have c34b1:=decide_eq_true c34
              try have c34b2:(9223372036854775807 < (rdOf ByteArray.empty Vd x7_3).size + 4)=False:=eq_false (Nat.not_lt.2 c34)
              by_cases c35:0≤t423
              ·rw [if_pos c35] at H
               have c35b0:=eq_true c35;have c35b1:=decide_eq_true c35;clear c35
               by_cases c36:t423≤(((rdOf ByteArray.empty Vd x7_3) ++ (⟨#[0,0,0,0]⟩:ByteArray)).size:Int)
               ·rw [if_pos c36] at H
                have c36b0:=eq_true c36;have c36b1:=decide_eq_true c36;have c36s:(t423≤(((rdOf ByteArray.empty Vd x7_3)).size:Int) + 4)=True:=eq_true ((show ((((rdOf ByteArray.empty Vd x7_3)) ++ (⟨#[0,0,0,0]⟩:ByteArray)).size:Int)=(((rdOf ByteArray.empty Vd x7_3)).size:Int) + 4 from by rw [ByteArray.size_append,Int.natCast_add];rfl)▸(of_decide_eq_true c36b1));replace H:=ZzB H;obtain ⟨⟨t440,t441⟩,A370,H⟩:=H;replace H:(if t441=0 then (if t440 < 0 then (some false) else (zJ.l1 k3 Vd (wrap64 (x7_3 + 1)) t422 t423 t424 t427)) else (some (t441 == 15)))=some r:=H;have A37:=zA.mk A370;clear A370
                by_cases c38:t441=0
                ·rw [if_pos c38] at H
                 have c38b0:(t441 == 0)=true:=beq_iff_eq.mpr c38;have c38b1:(t441 != 0)=false:=bne_eq_false_iff_eq.mpr c38;clear c38
                 by_cases c39:t440 < 0
                 ·rw [if_pos c39] at H
                  have c39b0:=decide_eq_true c39;clear c39;obtain rfl:=Option.some.inj H;obtain ⟨Ao40,co40,eo40⟩:=Kd.R_slice HO_5.out;subst eo40;have p439:0≤(x7_3:Int):=Qa;have q439:x7_3 < (Vd.length:Int):=Qa;obtain ⟨ad439,e439,hx439_0⟩:=Kd.at_string (Kd.R_reads' HO_5.out).2.2 x7_3 p439 q439;cases e439;replace p439:=eq_true p439;replace q439:=eq_true q439
                  try go_wp2
                  have n0_:=zA.mk (Kd.R_drew HO_5.out);have n1_:=zA.mk (Kd.R_drew vf.out);have n2_:=zA.mk (Kd.N_drew vg.out);have n3_:=zA.mk (zQ BK420.out);have n4_:=zA.mk (zF HB.out);clear HO_5 vf vg BK420 HB;have HO_5:=n0_;have vf:=n1_;have vg:=n2_;have BK420:=n3_;have HB:=n4_;clear n0_ n1_ n2_ n3_ n4_;refine Zr (n:=11) (S:=fun w'=>w'.cell? ⟨gb420,0,none⟩=some (.int .i64 t422)∧w'.cell? ⟨gb420,1,none⟩=some (.int .i64 t423)∧w'.cell? ⟨gb420,2,none⟩=some (.slice Ao13 t424.length co13)∧w'.cell? ⟨gb420,3,none⟩=some (.slice Ao14 t427.length co14)) (ds:= []) #[false,false,false,false,false,false,false,false,false,false,false] (by kernel_rfl) rfl rfl ⟨(zR BK420.out 0).trans rfl,(zR BK420.out 1).trans rfl,(zR BK420.out 2).trans rfl,(zR BK420.out 3).trans rfl⟩ (fun hHeld=> ?_);refine ZJ zJ.tab19 zJ.bits19 (fun HT_ HW_=> ?_)
                  generalize wr.drew=w41 at HO_5 vf vg BK420 HB hHeld⊢
                  refine yM (i:=1) (N:=some 56) (v:= ?_) (a':= ?_) #[false,true,false,false,false,false,false,false,false,false,false] rfl rfl (yD HT_.out (by kernel_rfl)) (fun _ _ _ h=>h) (Or.inl ⟨by rfl,?_⟩) ?_ ?_;rotate_left
                  ·intro w'
                   go_simp
                   with_reducible rfl
                  rotate_left
                  ·simp only [Act.put,List.setIfInBounds_toArray,List.set_cons_zero,List.set_cons_succ,zx,zy]
                   rfl
                  refine yM (i:=2) (N:=some 57) (v:= ?_) (a':= ?_) #[false,true,true,false,false,false,false,false,false,false,false] rfl rfl (yD HT_.out (by kernel_rfl)) (fun _ _ _ h=>h) (Or.inl ⟨by rfl,?_⟩) ?_ ?_;rotate_left
                  ·intro w'
                   go_simp
                   with_reducible rfl
                  rotate_left
                  ·simp only [Act.put,List.setIfInBounds_toArray,List.set_cons_zero,List.set_cons_succ,zx,zy]
                   rfl
                  refine take_ (i:=0) (N:=some 55) (v:= ?_) (a':= ?_) #[true,true,true,false,false,false,false,false,false,false,false] rfl rfl (yb HT_.out HW_.out (by kernel_rfl)) (fun _ _ _ h=>h) (Or.inl ⟨by rfl,?_⟩) hHeld ?_ ?_;rotate_left
                  ·rintro w' ⟨s0,s1,s2,s3⟩
                   go_simp
                   with_reducible rfl
                  rotate_left
                  ·simp only [Act.put,List.setIfInBounds_toArray,List.set_cons_zero,List.set_cons_succ,zx,zy]
                   rfl
                  refine take_ (i:=3) (N:=some 58) (v:= ?_) (a':= ?_) #[true,true,true,true,false,false,false,false,false,false,false] rfl rfl (yb HT_.out HW_.out (by kernel_rfl)) (fun _ _ _ h=>h) (Or.inl ⟨by rfl,?_⟩) hHeld ?_ ?_;rotate_left
                  ·rintro w' ⟨s0,s1,s2,s3⟩
                   go_simp
                   with_reducible rfl
                  rotate_left
                  ·simp only [Act.put,List.setIfInBounds_toArray,List.set_cons_zero,List.set_cons_succ,zx,zy]
                   rfl
                  refine yM (i:=4) (N:=some 59) (v:= ?_) (a':= ?_) #[true,true,true,true,true,false,false,false,false,false,false] rfl rfl (yD HT_.out (by kernel_rfl)) (fun _ _ _ h=>h) (Or.inl ⟨by rfl,?_⟩) ?_ ?_;rotate_left
                  ·intro w'
                   go_simp
                   with_reducible rfl
                  rotate_left
                  ·simp only [Act.put,List.setIfInBounds_toArray,List.set_cons_zero,List.set_cons_succ,zx,zy]
                   rfl
                  refine one_ (i:=5) (N:=some 60) #[true,true,true,true,true,true,false,false,false,false,false] rfl rfl (ym HT_.out (by kernel_rfl)) (by decide) (fun K hK=> ?_);refine Yo Try.func13 (by kernel_rfl) rfl #[.agg #[.int .i64 t422, .int .i64 t423, .slice Ao13 t424.length co13, .slice Ao14 t427.length co14], .int .i64 0, .string (((rdOf ByteArray.empty Vd x7_3) ++ (⟨#[0,0,0,0]⟩:ByteArray)).extract 0 (t423:Int).toNat)] (by rfl) rfl rfl QX ?_
                  with_reducible refine (zY.calls k3 t422 t423 _ _ t424 _ _ t427 0 (((rdOf ByteArray.empty Vd x7_3) ++ (⟨#[0,0,0,0]⟩:ByteArray)).extract 0 (t423:Int).toNat) t440 t441 _ ?side1 ?side2 ?side3 ?side4 A37.out).mono ?_
                  (case side1=>repeat (first|exact (Kd.R_reads' vf.out).2.2|(with_reducible refine Kd.C_alloc ?_ _)|(with_reducible refine Kd.C_drewN ?_ _)|(with_reducible refine Kd.C_drew ?_)))
                  (case side2=>exact (Kd.R_reads' vf.out).2.1)
                  (case side3=>repeat (first|exact (Kd.N_reads' vg.out).2.2|(with_reducible refine Kd.C_alloc ?_ _)|(with_reducible refine Kd.C_drewN ?_ _)|(with_reducible refine Kd.C_drew ?_)))
                  (case side4=>exact (Kd.N_reads' vg.out).2.1)
                  rintro e w42 ⟨rfl,hb⟩;refine ⟨_,rfl,?_⟩;have n0_:=zA.mk (Kd.R_below (Qh HO_5) hb);have n1_:=zA.mk (Kd.R_below (Qh vf) hb);have n2_:=zA.mk (Kd.N_below (Qk vg) hb);have n3_:=zA.mk (ze (g:=gb420) (Qi BK420) hb);have n4_:=zA.mk (zH (Qd wa) hb);clear HO_5 vf vg BK420 HB;have HO_5:=n0_;have vf:=n1_;have vg:=n2_;have BK420:=n3_;have HB:=n4_;clear n0_ n1_ n2_ n3_ n4_;(try clear hb);(try clear hb2);(try clear hk);(try clear hi);refine hK.out _ _ ⟨(zR BK420.out 0).trans rfl,(zR BK420.out 1).trans rfl,(zR BK420.out 2).trans rfl,(zR BK420.out 3).trans rfl⟩ (fun hHeld=> ?_);clear hK K;refine yl (a':= ?_) ?_ ?_;rotate_left
                  ·show Act.put _ (some 60) _=_
                   simp only [Act.put,List.setIfInBounds_toArray,List.set_cons_zero,List.set_cons_succ,zx,zy]
                   rfl
                  refine yM (i:=6) (N:=some 54) (v:= ?_) (a':= ?_) #[true,true,true,true,true,true,true,false,false,false,false] rfl rfl (yD HT_.out (by kernel_rfl)) (fun _ _ _ h=>h) (Or.inl ⟨by rfl,?_⟩) ?_ ?_;rotate_left
                  ·intro w'
                   go_simp
                   with_reducible rfl
                  rotate_left
                  ·simp only [Act.put,List.setIfInBounds_toArray,List.set_cons_zero,List.set_cons_succ,zx,zy]
                   rfl
                  refine yM (i:=7) (N:=some 61) (v:= ?_) (a':= ?_) #[true,true,true,true,true,true,true,true,false,false,false] rfl rfl (yD HT_.out (by kernel_rfl)) (fun _ _ _ h=>h) (Or.inl ⟨by rfl,?_⟩) ?_ ?_;rotate_left
                  ·intro w'
                   go_simp
                   with_reducible rfl
                  rotate_left
                  ·simp only [Act.put,List.setIfInBounds_toArray,List.set_cons_zero,List.set_cons_succ,zx,zy]
                   rfl
                  refine yM (i:=8) (N:=some 62) (v:= ?_) (a':= ?_) #[true,true,true,true,true,true,true,true,true,false,false] rfl rfl (yD HT_.out (by kernel_rfl)) (fun _ _ _ h=>h) (Or.inl ⟨by rfl,?_⟩) ?_ ?_;rotate_left
                  ·intro w'
                   go_simp
                   with_reducible rfl
                  rotate_left
                  ·simp only [Act.put,List.setIfInBounds_toArray,List.set_cons_zero,List.set_cons_succ,zx,zy]
                   rfl
                  refine yM (i:=9) (N:=some 9) (v:= ?_) (a':= ?_) #[true,true,true,true,true,true,true,true,true,true,false] rfl rfl (yD HT_.out (by kernel_rfl)) (fun _ _ _ h=>h) (Or.inl ⟨by rfl,?_⟩) ?_ ?_;rotate_left
                  ·intro w'
                   go_simp
                   with_reducible rfl
                  rotate_left
                  ·simp only [Act.put,List.setIfInBounds_toArray,List.set_cons_zero,List.set_cons_succ,zx,zy]
                   rfl
                  refine yM (i:=10) (N:=some 10) (v:= ?_) (a':= ?_) #[true,true,true,true,true,true,true,true,true,true,true] rfl rfl (yD HT_.out (by kernel_rfl)) (fun _ _ _ h=>h) (Or.inl ⟨by rfl,?_⟩) ?_ ?_;rotate_left
                  ·intro w'
                   go_simp
                   with_reducible rfl
                  rotate_left
                  ·simp only [Act.put,List.setIfInBounds_toArray,List.set_cons_zero,List.set_cons_succ,zx,zy]
                   rfl
                  refine YR (Ze HT_.out (by kernel_rfl)) ?_
                  try go_wp2
                  go_ret
                  exact ⟨by first|rfl|(simp [zS,zT] <;> rfl)|(simp [*,zS,zT] <;> rfl),by repeat (first|(with_reducible first|exact HB.out|apply zG|apply zC|apply zF|refine zK ?_ wa.out)|exact HB.out)⟩
                 ·rw [if_neg c39] at H
                  have c39b0:=decide_eq_false c39;clear c39;have H':=zA.mk H;clear H;obtain ⟨Ao43,co43,eo43⟩:=Kd.R_slice HO_5.out;subst eo43;have p439:0≤(x7_3:Int):=Qa;have q439:x7_3 < (Vd.length:Int):=Qa;obtain ⟨ad439,e439,hx439_0⟩:=Kd.at_string (Kd.R_reads' HO_5.out).2.2 x7_3 p439 q439;cases e439;replace p439:=eq_true p439;replace q439:=eq_true q439
                  try go_wp2
                  have n0_:=zA.mk (Kd.R_drew HO_5.out);have n1_:=zA.mk (Kd.R_drew vf.out);have n2_:=zA.mk (Kd.N_drew vg.out);have n3_:=zA.mk (zQ BK420.out);have n4_:=zA.mk (zF HB.out);clear HO_5 vf vg BK420 HB;have HO_5:=n0_;have vf:=n1_;have vg:=n2_;have BK420:=n3_;have HB:=n4_;clear n0_ n1_ n2_ n3_ n4_;refine Zr (n:=11) (S:=fun w'=>w'.cell? ⟨gb420,0,none⟩=some (.int .i64 t422)∧w'.cell? ⟨gb420,1,none⟩=some (.int .i64 t423)∧w'.cell? ⟨gb420,2,none⟩=some (.slice Ao13 t424.length co13)∧w'.cell? ⟨gb420,3,none⟩=some (.slice Ao14 t427.length co14)) (ds:= []) #[false,false,false,false,false,false,false,false,false,false,false] (by kernel_rfl) rfl rfl ⟨(zR BK420.out 0).trans rfl,(zR BK420.out 1).trans rfl,(zR BK420.out 2).trans rfl,(zR BK420.out 3).trans rfl⟩ (fun hHeld=> ?_);refine ZJ zJ.tab19 zJ.bits19 (fun HT_ HW_=> ?_)
                  generalize wr.drew=w44 at HO_5 vf vg BK420 HB hHeld⊢
                  refine yM (i:=1) (N:=some 56) (v:= ?_) (a':= ?_) #[false,true,false,false,false,false,false,false,false,false,false] rfl rfl (yD HT_.out (by kernel_rfl)) (fun _ _ _ h=>h) (Or.inl ⟨by rfl,?_⟩) ?_ ?_;rotate_left
                  ·intro w'
                   go_simp
                   with_reducible rfl
                  rotate_left
                  ·simp only [Act.put,List.setIfInBounds_toArray,List.set_cons_zero,List.set_cons_succ,zx,zy]
                   rfl
                  refine yM (i:=2) (N:=some 57) (v:= ?_) (a':= ?_) #[false,true,true,false,false,false,false,false,false,false,false] rfl rfl (yD HT_.out (by kernel_rfl)) (fun _ _ _ h=>h) (Or.inl ⟨by rfl,?_⟩) ?_ ?_;rotate_left
                  ·intro w'
                   go_simp
                   with_reducible rfl
                  rotate_left
                  ·simp only [Act.put,List.setIfInBounds_toArray,List.set_cons_zero,List.set_cons_succ,zx,zy]
                   rfl
                  refine take_ (i:=0) (N:=some 55) (v:= ?_) (a':= ?_) #[true,true,true,false,false,false,false,false,false,false,false] rfl rfl (yb HT_.out HW_.out (by kernel_rfl)) (fun _ _ _ h=>h) (Or.inl ⟨by rfl,?_⟩) hHeld ?_ ?_;rotate_left
                  ·rintro w' ⟨s0,s1,s2,s3⟩
                   go_simp
                   with_reducible rfl
                  rotate_left
                  ·simp only [Act.put,List.setIfInBounds_toArray,List.set_cons_zero,List.set_cons_succ,zx,zy]
                   rfl
                  refine take_ (i:=3) (N:=some 58) (v:= ?_) (a':= ?_) #[true,true,true,true,false,false,false,false,false,false,false] rfl rfl (yb HT_.out HW_.out (by kernel_rfl)) (fun _ _ _ h=>h) (Or.inl ⟨by rfl,?_⟩) hHeld ?_ ?_;rotate_left
                  ·rintro w' ⟨s0,s1,s2,s3⟩
                   go_simp
                   with_reducible rfl
                  rotate_left
                  ·simp only [Act.put,List.setIfInBounds_toArray,List.set_cons_zero,List.set_cons_succ,zx,zy]
                   rfl
                  refine yM (i:=4) (N:=some 59) (v:= ?_) (a':= ?_) #[true,true,true,true,true,false,false,false,false,false,false] rfl rfl (yD HT_.out (by kernel_rfl)) (fun _ _ _ h=>h) (Or.inl ⟨by rfl,?_⟩) ?_ ?_;rotate_left
                  ·intro w'
                   go_simp
                   with_reducible rfl
                  rotate_left
                  ·simp only [Act.put,List.setIfInBounds_toArray,List.set_cons_zero,List.set_cons_succ,zx,zy]
                   rfl
                  refine one_ (i:=5) (N:=some 60) #[true,true,true,true,true,true,false,false,false,false,false] rfl rfl (ym HT_.out (by kernel_rfl)) (by decide) (fun K hK=> ?_);refine Yo Try.func13 (by kernel_rfl) rfl #[.agg #[.int .i64 t422, .int .i64 t423, .slice Ao13 t424.length co13, .slice Ao14 t427.length co14], .int .i64 0, .string (((rdOf ByteArray.empty Vd x7_3) ++ (⟨#[0,0,0,0]⟩:ByteArray)).extract 0 (t423:Int).toNat)] (by rfl) rfl rfl QX ?_
                  with_reducible refine (zY.calls k3 t422 t423 _ _ t424 _ _ t427 0 (((rdOf ByteArray.empty Vd x7_3) ++ (⟨#[0,0,0,0]⟩:ByteArray)).extract 0 (t423:Int).toNat) t440 t441 _ ?side1 ?side2 ?side3 ?side4 A37.out).mono ?_
                  (case side1=>repeat (first|exact (Kd.R_reads' vf.out).2.2|(with_reducible refine Kd.C_alloc ?_ _)|(with_reducible refine Kd.C_drewN ?_ _)|(with_reducible refine Kd.C_drew ?_)))
                  (case side2=>exact (Kd.R_reads' vf.out).2.1)
                  (case side3=>repeat (first|exact (Kd.N_reads' vg.out).2.2|(with_reducible refine Kd.C_alloc ?_ _)|(with_reducible refine Kd.C_drewN ?_ _)|(with_reducible refine Kd.C_drew ?_)))
                  (case side4=>exact (Kd.N_reads' vg.out).2.1)
                  rintro e w45 ⟨rfl,hb⟩;refine ⟨_,rfl,?_⟩;have n0_:=zA.mk (Kd.R_below (Qh HO_5) hb);have n1_:=zA.mk (Kd.R_below (Qh vf) hb);have n2_:=zA.mk (Kd.N_below (Qk vg) hb);have n3_:=zA.mk (ze (g:=gb420) (Qi BK420) hb);have n4_:=zA.mk (zH (Qd wa) hb);clear HO_5 vf vg BK420 HB;have HO_5:=n0_;have vf:=n1_;have vg:=n2_;have BK420:=n3_;have HB:=n4_;clear n0_ n1_ n2_ n3_ n4_;(try clear hb);(try clear hb2);(try clear hk);(try clear hi);refine hK.out _ _ ⟨(zR BK420.out 0).trans rfl,(zR BK420.out 1).trans rfl,(zR BK420.out 2).trans rfl,(zR BK420.out 3).trans rfl⟩ (fun hHeld=> ?_);clear hK K;refine yl (a':= ?_) ?_ ?_;rotate_left
                  ·show Act.put _ (some 60) _=_
                   simp only [Act.put,List.setIfInBounds_toArray,List.set_cons_zero,List.set_cons_succ,zx,zy]
                   rfl
                  refine yM (i:=6) (N:=some 54) (v:= ?_) (a':= ?_) #[true,true,true,true,true,true,true,false,false,false,false] rfl rfl (yD HT_.out (by kernel_rfl)) (fun _ _ _ h=>h) (Or.inl ⟨by rfl,?_⟩) ?_ ?_;rotate_left
                  ·intro w'
                   go_simp
                   with_reducible rfl
                  rotate_left
                  ·simp only [Act.put,List.setIfInBounds_toArray,List.set_cons_zero,List.set_cons_succ,zx,zy]
                   rfl
                  refine yM (i:=7) (N:=some 61) (v:= ?_) (a':= ?_) #[true,true,true,true,true,true,true,true,false,false,false] rfl rfl (yD HT_.out (by kernel_rfl)) (fun _ _ _ h=>h) (Or.inl ⟨by rfl,?_⟩) ?_ ?_;rotate_left
                  ·intro w'
                   go_simp
                   with_reducible rfl
                  rotate_left
                  ·simp only [Act.put,List.setIfInBounds_toArray,List.set_cons_zero,List.set_cons_succ,zx,zy]
                   rfl
                  refine yM (i:=8) (N:=some 62) (v:= ?_) (a':= ?_) #[true,true,true,true,true,true,true,true,true,false,false] rfl rfl (yD HT_.out (by kernel_rfl)) (fun _ _ _ h=>h) (Or.inl ⟨by rfl,?_⟩) ?_ ?_;rotate_left
                  ·intro w'
                   go_simp
                   with_reducible rfl
                  rotate_left
                  ·simp only [Act.put,List.setIfInBounds_toArray,List.set_cons_zero,List.set_cons_succ,zx,zy]
                   rfl
                  refine yM (i:=9) (N:=some 9) (v:= ?_) (a':= ?_) #[true,true,true,true,true,true,true,true,true,true,false] rfl rfl (yD HT_.out (by kernel_rfl)) (fun _ _ _ h=>h) (Or.inl ⟨by rfl,?_⟩) ?_ ?_;rotate_left
                  ·intro w'
                   go_simp
                   with_reducible rfl
                  rotate_left
                  ·simp only [Act.put,List.setIfInBounds_toArray,List.set_cons_zero,List.set_cons_succ,zx,zy]
                   rfl
                  refine yM (i:=10) (N:=some 10) (v:= ?_) (a':= ?_) #[true,true,true,true,true,true,true,true,true,true,true] rfl rfl (yD HT_.out (by kernel_rfl)) (fun _ _ _ h=>h) (Or.inl ⟨by rfl,?_⟩) ?_ ?_;rotate_left
                  ·intro w'
                   go_simp
                   with_reducible rfl
                  rotate_left
                  ·simp only [Act.put,List.setIfInBounds_toArray,List.set_cons_zero,List.set_cons_succ,zx,zy]
                   rfl
                  refine YR (Ze HT_.out (by kernel_rfl)) ?_
                  try go_wp2
                  go_roundg k3
                  case measure=>have:=HK1.out;have:=HJ24.out;have:=HK3.out;omega
                  case rel=>exact ⟨(wrap64 (x7_3 + 1)),Zb,H',⟨by have:=HK1.out;have:=HJ24.out;have:=HK3.out;omega⟩,⟨Qh HO_5⟩,⟨Qh vf⟩,⟨Qk vg⟩,⟨Qi BK420⟩,⟨by repeat (first|(with_reducible first|exact HB.out|apply zG|apply zC|apply zF|refine zK ?_ wa.out)|exact HB.out)⟩⟩
                ·rw [if_neg c38] at H
                 have c38b0:(t441 == 0)=false:=beq_eq_false_iff_ne.mpr c38;have c38b1:(t441 != 0)=true:=bne_iff_ne.mpr c38;obtain rfl:=Option.some.inj H;obtain ⟨Ao46,co46,eo46⟩:=Kd.R_slice HO_5.out;subst eo46;have p439:0≤(x7_3:Int):=Qa;have q439:x7_3 < (Vd.length:Int):=Qa;obtain ⟨ad439,e439,hx439_0⟩:=Kd.at_string (Kd.R_reads' HO_5.out).2.2 x7_3 p439 q439;cases e439;replace p439:=eq_true p439;replace q439:=eq_true q439
                 try go_wp2
                 have n0_:=zA.mk (Kd.R_drew HO_5.out);have n1_:=zA.mk (Kd.R_drew vf.out);have n2_:=zA.mk (Kd.N_drew vg.out);have n3_:=zA.mk (zQ BK420.out);have n4_:=zA.mk (zF HB.out);clear HO_5 vf vg BK420 HB;have HO_5:=n0_;have vf:=n1_;have vg:=n2_;have BK420:=n3_;have HB:=n4_;clear n0_ n1_ n2_ n3_ n4_;refine Zr (n:=11) (S:=fun w'=>w'.cell? ⟨gb420,0,none⟩=some (.int .i64 t422)∧w'.cell? ⟨gb420,1,none⟩=some (.int .i64 t423)∧w'.cell? ⟨gb420,2,none⟩=some (.slice Ao13 t424.length co13)∧w'.cell? ⟨gb420,3,none⟩=some (.slice Ao14 t427.length co14)) (ds:= []) #[false,false,false,false,false,false,false,false,false,false,false] (by kernel_rfl) rfl rfl ⟨(zR BK420.out 0).trans rfl,(zR BK420.out 1).trans rfl,(zR BK420.out 2).trans rfl,(zR BK420.out 3).trans rfl⟩ (fun hHeld=> ?_);refine ZJ zJ.tab19 zJ.bits19 (fun HT_ HW_=> ?_)
                 generalize wr.drew=w47 at HO_5 vf vg BK420 HB hHeld⊢
                 refine yM (i:=1) (N:=some 56) (v:= ?_) (a':= ?_) #[false,true,false,false,false,false,false,false,false,false,false] rfl rfl (yD HT_.out (by kernel_rfl)) (fun _ _ _ h=>h) (Or.inl ⟨by rfl,?_⟩) ?_ ?_;rotate_left
                 ·intro w'
                  go_simp
                  with_reducible rfl
                 rotate_left
                 ·simp only [Act.put,List.setIfInBounds_toArray,List.set_cons_zero,List.set_cons_succ,zx,zy]
                  rfl
                 refine yM (i:=2) (N:=some 57) (v:= ?_) (a':= ?_) #[false,true,true,false,false,false,false,false,false,false,false] rfl rfl (yD HT_.out (by kernel_rfl)) (fun _ _ _ h=>h) (Or.inl ⟨by rfl,?_⟩) ?_ ?_;rotate_left
                 ·intro w'
                  go_simp
                  with_reducible rfl
                 rotate_left
                 ·simp only [Act.put,List.setIfInBounds_toArray,List.set_cons_zero,List.set_cons_succ,zx,zy]
                  rfl
                 refine take_ (i:=0) (N:=some 55) (v:= ?_) (a':= ?_) #[true,true,true,false,false,false,false,false,false,false,false] rfl rfl (yb HT_.out HW_.out (by kernel_rfl)) (fun _ _ _ h=>h) (Or.inl ⟨by rfl,?_⟩) hHeld ?_ ?_;rotate_left
                 ·rintro w' ⟨s0,s1,s2,s3⟩
                  go_simp
                  with_reducible rfl
                 rotate_left
                 ·simp only [Act.put,List.setIfInBounds_toArray,List.set_cons_zero,List.set_cons_succ,zx,zy]
                  rfl
                 refine take_ (i:=3) (N:=some 58) (v:= ?_) (a':= ?_) #[true,true,true,true,false,false,false,false,false,false,false] rfl rfl (yb HT_.out HW_.out (by kernel_rfl)) (fun _ _ _ h=>h) (Or.inl ⟨by rfl,?_⟩) hHeld ?_ ?_;rotate_left
                 ·rintro w' ⟨s0,s1,s2,s3⟩
                  go_simp
                  with_reducible rfl
                 rotate_left
                 ·simp only [Act.put,List.setIfInBounds_toArray,List.set_cons_zero,List.set_cons_succ,zx,zy]
                  rfl
                 refine yM (i:=4) (N:=some 59) (v:= ?_) (a':= ?_) #[true,true,true,true,true,false,false,false,false,false,false] rfl rfl (yD HT_.out (by kernel_rfl)) (fun _ _ _ h=>h) (Or.inl ⟨by rfl,?_⟩) ?_ ?_;rotate_left
                 ·intro w'
                  go_simp
                  with_reducible rfl
                 rotate_left
                 ·simp only [Act.put,List.setIfInBounds_toArray,List.set_cons_zero,List.set_cons_succ,zx,zy]
                  rfl
                 refine one_ (i:=5) (N:=some 60) #[true,true,true,true,true,true,false,false,false,false,false] rfl rfl (ym HT_.out (by kernel_rfl)) (by decide) (fun K hK=> ?_);refine Yo Try.func13 (by kernel_rfl) rfl #[.agg #[.int .i64 t422, .int .i64 t423, .slice Ao13 t424.length co13, .slice Ao14 t427.length co14], .int .i64 0, .string (((rdOf ByteArray.empty Vd x7_3) ++ (⟨#[0,0,0,0]⟩:ByteArray)).extract 0 (t423:Int).toNat)] (by rfl) rfl rfl QX ?_
                 with_reducible refine (zY.calls k3 t422 t423 _ _ t424 _ _ t427 0 (((rdOf ByteArray.empty Vd x7_3) ++ (⟨#[0,0,0,0]⟩:ByteArray)).extract 0 (t423:Int).toNat) t440 t441 _ ?side1 ?side2 ?side3 ?side4 A37.out).mono ?_
                 (case side1=>repeat (first|exact (Kd.R_reads' vf.out).2.2|(with_reducible refine Kd.C_alloc ?_ _)|(with_reducible refine Kd.C_drewN ?_ _)|(with_reducible refine Kd.C_drew ?_)))
                 (case side2=>exact (Kd.R_reads' vf.out).2.1)
                 (case side3=>repeat (first|exact (Kd.N_reads' vg.out).2.2|(with_reducible refine Kd.C_alloc ?_ _)|(with_reducible refine Kd.C_drewN ?_ _)|(with_reducible refine Kd.C_drew ?_)))
                 (case side4=>exact (Kd.N_reads' vg.out).2.1)
                 rintro e w48 ⟨rfl,hb⟩;refine ⟨_,rfl,?_⟩;have n0_:=zA.mk (Kd.R_below (Qh HO_5) hb);have n1_:=zA.mk (Kd.R_below (Qh vf) hb);have n2_:=zA.mk (Kd.N_below (Qk vg) hb);have n3_:=zA.mk (ze (g:=gb420) (Qi BK420) hb);have n4_:=zA.mk (zH (Qd wa) hb);clear HO_5 vf vg BK420 HB;have HO_5:=n0_;have vf:=n1_;have vg:=n2_;have BK420:=n3_;have HB:=n4_;clear n0_ n1_ n2_ n3_ n4_;(try clear hb);(try clear hb2);(try clear hk);(try clear hi);refine hK.out _ _ ⟨(zR BK420.out 0).trans rfl,(zR BK420.out 1).trans rfl,(zR BK420.out 2).trans rfl,(zR BK420.out 3).trans rfl⟩ (fun hHeld=> ?_);clear hK K;refine yl (a':= ?_) ?_ ?_;rotate_left
                 ·show Act.put _ (some 60) _=_
                  simp only [Act.put,List.setIfInBounds_toArray,List.set_cons_zero,List.set_cons_succ,zx,zy]
                  rfl
                 refine yM (i:=6) (N:=some 54) (v:= ?_) (a':= ?_) #[true,true,true,true,true,true,true,false,false,false,false] rfl rfl (yD HT_.out (by kernel_rfl)) (fun _ _ _ h=>h) (Or.inl ⟨by rfl,?_⟩) ?_ ?_;rotate_left
                 ·intro w'
                  go_simp
                  with_reducible rfl
                 rotate_left
                 ·simp only [Act.put,List.setIfInBounds_toArray,List.set_cons_zero,List.set_cons_succ,zx,zy]
                  rfl
                 refine yM (i:=7) (N:=some 61) (v:= ?_) (a':= ?_) #[true,true,true,true,true,true,true,true,false,false,false] rfl rfl (yD HT_.out (by kernel_rfl)) (fun _ _ _ h=>h) (Or.inl ⟨by rfl,?_⟩) ?_ ?_;rotate_left
                 ·intro w'
                  go_simp
                  with_reducible rfl
                 rotate_left
                 ·simp only [Act.put,List.setIfInBounds_toArray,List.set_cons_zero,List.set_cons_succ,zx,zy]
                  rfl
                 refine yM (i:=8) (N:=some 62) (v:= ?_) (a':= ?_) #[true,true,true,true,true,true,true,true,true,false,false] rfl rfl (yD HT_.out (by kernel_rfl)) (fun _ _ _ h=>h) (Or.inl ⟨by rfl,?_⟩) ?_ ?_;rotate_left
                 ·intro w'
                  go_simp
                  with_reducible rfl
                 rotate_left
                 ·simp only [Act.put,List.setIfInBounds_toArray,List.set_cons_zero,List.set_cons_succ,zx,zy]
                  rfl
                 refine yM (i:=9) (N:=some 9) (v:= ?_) (a':= ?_) #[true,true,true,true,true,true,true,true,true,true,false] rfl rfl (yD HT_.out (by kernel_rfl)) (fun _ _ _ h=>h) (Or.inl ⟨by rfl,?_⟩) ?_ ?_;rotate_left
                 ·intro w'
                  go_simp
                  with_reducible rfl
                 rotate_left
                 ·simp only [Act.put,List.setIfInBounds_toArray,List.set_cons_zero,List.set_cons_succ,zx,zy]
                  rfl
                 refine yM (i:=10) (N:=some 10) (v:= ?_) (a':= ?_) #[true,true,true,true,true,true,true,true,true,true,true] rfl rfl (yD HT_.out (by kernel_rfl)) (fun _ _ _ h=>h) (Or.inl ⟨by rfl,?_⟩) ?_ ?_;rotate_left
                 ·intro w'
                  go_simp
                  with_reducible rfl
                 rotate_left
                 ·simp only [Act.put,List.setIfInBounds_toArray,List.set_cons_zero,List.set_cons_succ,zx,zy]
                  rfl
                 refine YR (Ze HT_.out (by kernel_rfl)) ?_
                 try go_wp2
                 go_ret
                 exact ⟨by first|rfl|(simp [zS,zT] <;> rfl)|(simp [*,zS,zT] <;> rfl),by repeat (first|(with_reducible first|exact HB.out|apply zG|apply zC|apply zF|refine zK ?_ wa.out)|exact HB.out)⟩
               ·rw [if_neg c36] at H
                exact absurd H (by simp)
              ·rw [if_neg c35] at H
               exact absurd H (by simp)
             ·rw [if_neg c34] at H
              exact absurd H (by simp)
            ·rw [if_neg c33] at H
             exact absurd H (by simp)
           ·rw [if_neg c32] at H
            have c32b0:=decide_eq_false c32;clear c32;obtain rfl:=Option.some.inj H;obtain ⟨Ao49,co49,eo49⟩:=Kd.R_slice HO_5.out;subst eo49
            go_wp2
            go_ret
            exact ⟨by first|rfl|(simp [zS,zT] <;> rfl)|(simp [*,zS,zT] <;> rfl),by repeat (first|(with_reducible first|exact HB.out|apply zG|apply zC|apply zF|refine zK ?_ wa.out)|exact HB.out)⟩
  ·rw [if_neg c6] at H
   have c6b0:(t430 == 0)=false:=beq_eq_false_iff_ne.mpr c6;have c6b1:(t430 != 0)=true:=bne_iff_ne.mpr c6;obtain rfl:=Option.some.inj H
   go_enter Try.func4,Try.ntmps4
   go_wp2_with (first|((with_reducible refine yB (N:=1) rfl ?_);(try (refine yV (by rfl) ?_;dsimp only));refine yH ?hg (N:=1) ?hd (cs:= #[.int .i64 a0_0, .int .i64 a0_1, .slice vi l0_2.length vk, .slice vp l0_3.length vl]) (t:=25) ?hr ?_;(case hd=>rfl);(case hg=>rfl);(case hr=>exact Qm);intro gb420 hg w50 hbox hb;have n0_:=zA.mk (zH Qc hb);have n1_:=zA.mk (hbox);have n2_:=zA.mk ((by rw [hg];exact (zE Qc):w.heap.size≤gb420));have n3_:=zA.mk ((by rw [hg];exact (zE Qc):w.heap.size≤gb420));clear HB;have HB:=n0_;have BK420:=n1_;have GW420:=n2_;have wa:=n3_;clear n0_ n1_ n2_ n3_ hb hbox hg)|((with_reducible refine zk (f:=9) rfl ?_);refine yQ (some 11) rfl rfl Try.func9 (by kernel_rfl) rfl #[] rfl QX ?_;(with_reducible refine (yO.calls k true _ A2.out).mono ?_);rintro e w51 ⟨rfl,hb⟩;refine ⟨_,rfl,?_⟩;have n0_:=zA.mk (ze (g:=gb420) (Qi BK420) hb);have n1_:=zA.mk (zH (Qd wa) hb);clear BK420 HB;have BK420:=n0_;have HB:=n1_;clear n0_ n1_;(try clear hb);(try clear hb2);(try clear hk);(try clear hi);have hcz52_0:=Qn BK420 0 rfl;have hcz52_1:=Qn BK420 1 rfl;have hcz52_2:=Qn BK420 2 rfl;have hcz52_3:=Qn BK420 3 rfl;have hfz52_0:=zB BK420.out 0;have hfz52_1:=zB BK420.out 1;have hfz52_2:=zB BK420.out 2;have hfz52_3:=zB BK420.out 3)|((with_reducible refine zk (f:=5) rfl ?_);refine yQ (some 14) rfl rfl Try.func5 (by kernel_rfl) rfl #[.agg #[.int .i64 a0_0, .int .i64 a0_1, .slice vi l0_2.length vk, .slice vp l0_3.length vl]] rfl QX ?_;(with_reducible refine (zj.calls k a0_0 a0_1 _ _ l0_2 _ _ l0_3 t422 t423 t424 t427 _ ?side1 ?side2 ?side3 ?side4 A4.out).mono ?_);(case side1=>exact Qo (Kd.C_below wb.out HB.out));(case side2=>exact wd.out);(case side3=>exact Qo (Kd.C_below vw.out HB.out));(case side4=>exact wg.out);rintro e w53 ⟨v425,v428,rfl,ho0,ho1,hb⟩;refine ⟨_,rfl,?_⟩;have n0_:=zA.mk (Kd.R_lower (Kd.R_mono (ok':=fun k_=>True) ho0 (fun _ hk_=>trivial)) (zE (Qd wa)));have n1_:=zA.mk (Kd.N_lower (Kd.N_mono (ok':=fun k_=>some k_≠(v425:Value).ownBlock∧k_≠gb420) ho1 (fun k_ hk_=>⟨hk_.2,(Kd.freshB (g:=gb420) (Qi BK420) k_ hk_.1)⟩)) (zE (Qd wa)));have n2_:=zA.mk (ze (g:=gb420) (Qi BK420) hb);have n3_:=zA.mk (zH (Qd wa) hb);clear BK420 HB;have HO426:=n0_;have HO429:=n1_;have BK420:=n2_;have HB:=n3_;clear n0_ n1_ n2_ n3_;(try clear hb ho0);(try clear ho1);have hcz54_0:=Qn BK420 0 rfl;have hcz54_1:=Qn BK420 1 rfl;have hcz54_2:=Qn BK420 2 rfl;have hcz54_3:=Qn BK420 3 rfl;have hfz54_0:=zB BK420.out 0;have hfz54_1:=zB BK420.out 1;have hfz54_2:=zB BK420.out 2;have hfz54_3:=zB BK420.out 3;obtain ⟨Ao55,co55,eo55⟩:=Kd.R_slice HO426.out;subst eo55;obtain ⟨Ao56,co56,eo56⟩:=Kd.N_slice HO429.out;subst eo56)|((with_reducible refine zk (f:=10) rfl ?_);refine yQ (some 16) rfl rfl Try.func10 (by kernel_rfl) rfl #[.agg #[.int .i64 t422, .int .i64 t423, .slice Ao55 t424.length co55, .slice Ao56 t427.length co56]] rfl QX ?_;(with_reducible refine (zI.calls k t422 t423 _ _ t424 _ _ t427 t430 _ ?side1 ?side2 ?side3 ?side4 A5.out).mono ?_);(case side1=>refine (Kd.R_reads' (e:=3) (base:=w.heap.size) (ok:=fun k_=>True) (n:=t424.length) (c:=co55) ?_).2.2;exact (by (with_reducible repeat (first|apply Kd.R_alloc|apply Kd.R_drewN|apply Kd.R_drew));exact (Kd.R_mono (Kd.R_far (p:=⟨gb420,3,none⟩) (Kd.R_far (p:=⟨gb420,2,none⟩) (Kd.R_far (p:=⟨gb420,1,none⟩) (Kd.R_far (p:=⟨gb420,0,none⟩) (Kd.R_types HO426.out BK420.out (by decide)) (fun _ hk=>hk.2) (.int .i64 t422)) (fun _ hk=>hk.2) (.int .i64 t423)) (fun _ hk=>hk.2) (.slice Ao55 t424.length co55)) (fun _ hk=>hk.2) (.slice Ao56 t427.length co56)) (fun _ h_=>h_.1))));(case side2=>exact (Kd.R_reads' HO426.out).2.1);(case side3=>refine (Kd.N_reads' (e:=45) (base:=w.heap.size) (ok:=fun k_=>(some k_≠(.slice Ao55 t424.length co55:Value).ownBlock∧k_≠gb420)) (n:=t427.length) (c:=co56) ?_).2.2;exact (by (with_reducible repeat (first|apply Kd.N_alloc|apply Kd.N_drewN|apply Kd.N_drew));exact (Kd.N_mono (Kd.N_far (p:=⟨gb420,3,none⟩) (Kd.N_far (p:=⟨gb420,2,none⟩) (Kd.N_far (p:=⟨gb420,1,none⟩) (Kd.N_far (p:=⟨gb420,0,none⟩) (Kd.N_mono HO429.out (fun k_ hk=>(⟨hk,hk.2⟩:_∧k_≠gb420))) (fun _ hk=>hk.2) (.int .i64 t422)) (fun _ hk=>hk.2) (.int .i64 t423)) (fun _ hk=>hk.2) (.slice Ao55 t424.length co55)) (fun _ hk=>hk.2) (.slice Ao56 t427.length co56)) (fun _ h_=>h_.1))));(case side4=>exact (Kd.N_reads' HO429.out).2.1);rintro e w57 ⟨rfl,hb⟩;refine ⟨_,rfl,?_⟩;have n3_:=zA.mk (zH (Qd wa) hb);clear HB;have HB:=n3_;clear n3_;(try clear hb);(try clear hb2);(try clear hk);(try clear hi)))
   go_ret
   exact ⟨by first|rfl|(simp [zS,zT] <;> rfl)|(simp [*,zS,zT] <;> rfl),by repeat (first|(with_reducible first|exact HB.out|apply zG|apply zC|apply zF|refine zK ?_ wa.out)|exact HB.out)⟩
 ·replace c3:=Bool.eq_false_iff.mpr c3
  subst c3
  have H1:(some false)=some r:=by rw [if_neg (show ¬(false=true) by decide)] at H;exact H
  clear H;have H:=H1;clear H1;obtain rfl:=Option.some.inj H
  go_enter Try.func4,Try.ntmps4
  go_wp2_with (first|((with_reducible refine yB (N:=1) rfl ?_);(try (refine yV (by rfl) ?_;dsimp only));refine yH ?hg (N:=1) ?hd (cs:= #[.int .i64 a0_0, .int .i64 a0_1, .slice vi l0_2.length vk, .slice vp l0_3.length vl]) (t:=25) ?hr ?_;(case hd=>rfl);(case hg=>rfl);(case hr=>exact Qm);intro gb420 hg w58 hbox hb;have n0_:=zA.mk (zH Qc hb);have n2_:=zA.mk ((by rw [hg];exact (zE Qc):w.heap.size≤gb420));have n3_:=zA.mk ((by rw [hg];exact (zE Qc):w.heap.size≤gb420));clear HB;have HB:=n0_;have GW420:=n2_;have wa:=n3_;clear n0_ n2_ n3_ hb hbox hg)|((with_reducible refine zk (f:=9) rfl ?_);refine yQ (some 11) rfl rfl Try.func9 (by kernel_rfl) rfl #[] rfl QX ?_;(with_reducible refine (yO.calls k false _ A2.out).mono ?_);rintro e w59 ⟨rfl,hb⟩;refine ⟨_,rfl,?_⟩;have n1_:=zA.mk (zH (Qd wa) hb);clear HB;have HB:=n1_;clear n1_;(try clear hb);(try clear hb2);(try clear hk);(try clear hi)))
  go_ret
  exact ⟨by first|rfl|(simp [zS,zT] <;> rfl)|(simp [*,zS,zT] <;> rfl),by repeat (first|(with_reducible first|exact HB.out|apply zG|apply zC|apply zF|refine zK ?_ wa.out)|exact HB.out)⟩
def W51 (x:S51):Prop:=(True)∧(Lit.int .i64 x.f1).wf=true
def W45 (x:S45):Prop:=(Lit.int .i64 x.f0).wf=true∧((x.f1.length≤maxLen∧∀x_ ∈ x.f1,W51 x_))
def W25 (x:S25):Prop:=(Lit.int .i64 x.f0).wf=true∧(Lit.int .i64 x.f1).wf=true∧((x.f2.length≤maxLen∧∀x_ ∈ x.f2,(Lit.int .i64 x_).wf=true))∧((x.f3.length≤maxLen∧∀x_ ∈ x.f3,W45 x_))
def zJ.Pure:Prop:=∀(a0_0:Int) (a0_1:Int) (l0_2:List Int) (l0_3:List (S45)),W25 ⟨a0_0,a0_1,l0_2,l0_3⟩→∃k,zJ.f k a0_0 a0_1 l0_2 l0_3=some true
end Go.Proofs.Ytlanhkekjhlmjaa.HGuessWords
