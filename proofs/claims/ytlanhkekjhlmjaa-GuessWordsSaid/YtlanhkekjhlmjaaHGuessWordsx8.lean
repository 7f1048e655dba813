-- Written by plus.py for this claim.
import Derived.Test.YtlanhkekjhlmjaaSGuessWordsVZip
import Derived.Test.YtlanhkekjhlmjaaHGuessWordsx0
import Derived.Test.YtlanhkekjhlmjaaHGuessWordsx6
import Derived.Test.YtlanhkekjhlmjaaHGuessWordsx7
namespace Go.Proofs.Ytlanhkekjhlmjaa.HGuessWords
open Go.RowKit Go.Proofs.YtlanhkekjhlmjaaW.PrintWords Go.Proofs.YtlanhkekjhlmjaaW.PrintLast Go.Proofs.YtlanhkekjhlmjaaW.PrintMore
attribute [local go_sem] yq yr ZM ZN yj yk yt yu   -- for this text's walks alone
set_option linter.unusedVariables false
set_option linter.unusedSimpArgs false
mutual
def zv.l0:Nat→List (S66)→List (S45)→Int→Int→Int→List (List ByteArray)→Option ((List (S66)) × Int)
 | 0,_,_,_,_,_,_=>none
 | k + 1,x7,x27,x28,x29,x229000,x229001=>if x29 < x28 then (if 0≤x29 then (if x29 < (x27.length:Int) then (zv.l1 k x7 x27 x28 x29 ((zD x27 x29).f1) (((zD x27 x29).f1).length:Int) 0 x229000 x229001 ((zD x27 x29).f0) ((zD x27 x29).f1)) else (none)) else (none)) else (some (x7,0))
def zv.l1:Nat→List (S66)→List (S45)→Int→Int→List (S51)→Int→Int→Int→List (List ByteArray)→Int→List (S51)→Option ((List (S66)) × Int)
 | 0,_,_,_,_,_,_,_,_,_,_,_=>none
 | k + 1,x7,x27,x28,x29,x34,x35,x36,x229000,x229001,x231000,x231001=>if x36 < x35 then (if 0≤x36 then (if x36 < (x34.length:Int) then (if (zi x34 x36).f0=true then (zv.l1 k x7 x27 x28 x29 x34 x35 (wrap64 (x36 + 1)) x229000 x229001 x231000 x231001) else (if 0≤(wrap64 (x36 + 1)) then (if (wrap64 (x36 + 1))≤(x231001.length:Int) then ((zo.f k x229000 x229001 (x231001.drop ((wrap64 (x36 + 1)):Int).toNat)).bind fun bt237=>(if bt237.2=true then (if x7.length < 3518437208883 then (zv.l1 k (x7 ++ [(⟨(zi x34 x36).f1,x231000,bt237.1⟩:S66)]) x27 x28 x29 x34 x35 (wrap64 (x36 + 1)) x229000 x229001 x231000 x231001) else (none)) else (some (([]:List (S66)),15)))) else (none)) else (none))) else (none)) else (none)) else (zv.l0 k x7 x27 x28 (wrap64 (x29 + 1)) x229000 x229001)
end
def zv.f (k:Nat) (a0_0:Int) (a0_1:Int) (l0_2:List Int) (l0_3:List (S45)):Option ((List (S66)) × Int):=(zd.f k a0_0 a0_1 l0_2 l0_3).bind fun bt224=>(if bt224.2=0 then (zv.l0 k ([]:List (S66)) l0_3 (l0_3.length:Int) 0 a0_1 bt224.1) else (some (([]:List (S66)),bt224.2)))
theorem zv.mono_l:∀k,(∀y0 y1 y2 y3 y4 y5,LeO (zv.l0 k y0 y1 y2 y3 y4 y5) (zv.l0 (k + 1) y0 y1 y2 y3 y4 y5))∧(∀y0 y1 y2 y3 y4 y5 y6 y7 y8 y9 y10,LeO (zv.l1 k y0 y1 y2 y3 y4 y5 y6 y7 y8 y9 y10) (zv.l1 (k + 1) y0 y1 y2 y3 y4 y5 y6 y7 y8 y9 y10))
 | 0=>⟨fun _ _ _ _ _ _ r h=>by simp [zv.l0] at h,fun _ _ _ _ _ _ _ _ _ _ _ r h=>by simp [zv.l1] at h⟩
 | k + 1=>by
  obtain ⟨ih0,ih1⟩:=zv.mono_l k;refine ⟨?_,?_⟩
  ·intro y0 y1 y2 y3 y4 y5
   unfold zv.l0
   repeat' first
   | with_reducible first|exact ih0 _ _ _ _ _ _|exact ih1 _ _ _ _ _ _ _ _ _ _ _|exact zd.mono _ _ _ _ _|exact zo.mono _ _ _ _|exact LeO.refl _|exact LeO.none _|refine LeO.ite ?_ ?_|refine LeO.bind ?_ (fun _=> ?_)
   | exact ih0 _ _ _ _ _ _|exact ih1 _ _ _ _ _ _ _ _ _ _ _|exact zd.mono _ _ _ _ _|exact zo.mono _ _ _ _|exact LeO.none _|refine LeO.ite ?_ ?_|refine LeO.bind ?_ (fun _=> ?_)
  ·intro y0 y1 y2 y3 y4 y5 y6 y7 y8 y9 y10
   unfold zv.l1
   repeat' first
   | with_reducible first|exact ih0 _ _ _ _ _ _|exact ih1 _ _ _ _ _ _ _ _ _ _ _|exact zd.mono _ _ _ _ _|exact zo.mono _ _ _ _|exact LeO.refl _|exact LeO.none _|refine LeO.ite ?_ ?_|refine LeO.bind ?_ (fun _=> ?_)
   | exact ih0 _ _ _ _ _ _|exact ih1 _ _ _ _ _ _ _ _ _ _ _|exact zd.mono _ _ _ _ _|exact zo.mono _ _ _ _|exact LeO.none _|refine LeO.ite ?_ ?_|refine LeO.bind ?_ (fun _=> ?_)
theorem zv.mono:∀a0 a1 a2 a3 k,LeO (zv.f k a0 a1 a2 a3) (zv.f (k + 1) a0 a1 a2 a3):=by
 intro a0 a1 a2 a3 k;obtain ⟨ih0,ih1⟩:=zv.mono_l k
 unfold zv.f
 repeat' first
   | with_reducible first|exact ih0 _ _ _ _ _ _|exact ih1 _ _ _ _ _ _ _ _ _ _ _|exact zd.mono _ _ _ _ _|exact zo.mono _ _ _ _|exact LeO.refl _|exact LeO.none _|refine LeO.ite ?_ ?_|refine LeO.bind ?_ (fun _=> ?_)
   | exact ih0 _ _ _ _ _ _|exact ih1 _ _ _ _ _ _ _ _ _ _ _|exact zd.mono _ _ _ _ _|exact zo.mono _ _ _ _|exact LeO.none _|refine LeO.ite ?_ ?_|refine LeO.bind ?_ (fun _=> ?_)
def zv.T13:Bool × List (List Nat × List Nat):=(true,[([],[]),([],[]),([1],[1]),([],[]),([3],[3]),([2,4],[2,4]),([0,5],[0,5]),([6],[6]),([7],[7]),([7],[7]),([8,6,0,1,2,3,4,5,6,7,8],[8]),([9,10,0,1,2,3,4,5,6,7,8,9,10],[9])])
def zv.B13:List Nat:= [0,0,2,0,8,30,63,127,255,255,511,2047]
theorem zv.tab13:rtab .any (qV Try.f30 13)=zv.T13:=by kernel_rfl
theorem zv.bits13:Zk zv.T13.2 zv.B13=true:=by kernel_rfl
set_option maxHeartbeats 8000000 in
set_option maxRecDepth 100000 in
theorem zv.calls (k:Nat) (a0_0:Int) (a0_1:Int) (vi:Option Addr) (vk:Nat) (l0_2:List Int) (vp:Option Addr) (vl:Nat) (l0_3:List (S45)) (r1:List (S66)) (r2:Int) (w:World) (hr0_2:Kd.C (Kd.int .i64) w vi l0_2.length l0_2) (hc0_2:l0_2.length≤vk) (hr0_3:Kd.C k45 w vp l0_3.length l0_3) (hc0_3:l0_3.length≤vl) (h:zv.f k a0_0 a0_1 l0_2 l0_3=some (r1,r2)) :
  Calls Try.prog 30 #[.agg #[.int .i64 a0_0, .int .i64 a0_1, .slice vi l0_2.length vk, .slice vp l0_3.length vl]] w fun e w'=>∃v0_:Value,e= .returned (.tuple #[v0_, .int .i64 r2])∧Kd.S k66 66 w' w.heap.size (fun _=>True) v0_ r1∧Below w.heap.size w w':=by
 have hu25:=Try.underlying25;have hu89:=Try.underlying89;have hu45:=Try.underlying45;have hu51:=Try.underlying51;have hu66:=Try.underlying66;have wb:=zA.mk hr0_2;have wd:=zA.mk hc0_2;clear hr0_2 hc0_2;have vw:=zA.mk hr0_3;have wg:=zA.mk hc0_3;clear hr0_3 hc0_3;have HB:=zA.mk (Below.refl w.heap.size w);have H:((zd.f k a0_0 a0_1 l0_2 l0_3).bind fun bt224=>(if bt224.2=0 then (zv.l0 k ([]:List (S66)) l0_3 (l0_3.length:Int) 0 a0_1 bt224.1) else (some (([]:List (S66)),bt224.2))))=some (r1,r2):=h;clear h;replace H:=ZzB H;obtain ⟨⟨wG,t227⟩,A20,H⟩:=H;replace H:(if t227=0 then (zv.l0 k ([]:List (S66)) l0_3 (l0_3.length:Int) 0 a0_1 wG) else (some (([]:List (S66)),t227)))=some (r1,r2):=H;have A2:=zA.mk A20;clear A20
 by_cases c3:t227=0
 ·rw [if_pos c3] at H
  have c3b0:(t227 == 0)=true:=beq_iff_eq.mpr c3;have c3b1:(t227 != 0)=false:=bne_eq_false_iff_eq.mpr c3;clear c3;have H':=zA.mk H;clear H
  go_enter Try.func30,Try.ntmps30
  go_wp2_with (first|((with_reducible refine yB (N:=1) rfl ?_);refine yH ?hg (N:=1) ?hd (cs:= #[.int .i64 a0_0, .int .i64 a0_1, .slice vi l0_2.length vk, .slice vp l0_3.length vl]) (t:=25) ?hr ?_;(case hd=>rfl);(case hg=>rfl);(case hr=>exact Qm);intro vS hg w4 hbox hb;have n0_:=zA.mk (zH Qc hb);have n1_:=zA.mk (hbox);have n2_:=zA.mk ((by rw [hg];exact (zE Qc):w.heap.size≤vS));have n3_:=zA.mk ((by rw [hg];exact (zE Qc):w.heap.size≤vS));clear HB;have HB:=n0_;have vh:=n1_;have GW223:=n2_;have vW:=n3_;clear n0_ n1_ n2_ n3_ hb hbox hg;have hcz5_0:=Qn vh 0 rfl;have hcz5_1:=Qn vh 1 rfl;have hcz5_2:=Qn vh 2 rfl;have hcz5_3:=Qn vh 3 rfl;have hfz5_0:=zB vh.out 0;have hfz5_1:=zB vh.out 1;have hfz5_2:=zB vh.out 2;have hfz5_3:=zB vh.out 3)|((with_reducible refine zk (f:=16) rfl ?_);refine yQ (some 16) rfl rfl Try.func16 (by kernel_rfl) rfl #[.agg #[.int .i64 a0_0, .int .i64 a0_1, .slice vi l0_2.length vk, .slice vp l0_3.length vl]] rfl QX ?_;(with_reducible refine (zd.calls k a0_0 a0_1 _ _ l0_2 _ _ l0_3 wG t227 _ ?side1 ?side2 ?side3 ?side4 A2.out).mono ?_);(case side1=>exact Qo (Kd.C_below wb.out HB.out));(case side2=>exact wd.out);(case side3=>exact Qo (Kd.C_below vw.out HB.out));(case side4=>exact wg.out);rintro e w6 ⟨v225,rfl,ho0,hb⟩;refine ⟨_,rfl,?_⟩;have n0_:=zA.mk (Kd.S_lower ho0 (zE (Qd vW)));have n1_:=zA.mk (ze (g:=vS) (Qi vh) hb);have n2_:=zA.mk (zH (Qd vW) hb);clear vh HB;have HO226:=n0_;have vh:=n1_;have HB:=n2_;clear n0_ n1_ n2_;(try clear hb ho0);have hcz7_0:=Qn vh 0 rfl;have hcz7_1:=Qn vh 1 rfl;have hcz7_2:=Qn vh 2 rfl;have hcz7_3:=Qn vh 3 rfl;have hfz7_0:=zB vh.out 0;have hfz7_1:=zB vh.out 1;have hfz7_2:=zB vh.out 2;have hfz7_3:=zB vh.out 3;obtain ⟨Ao8,co8,eo8⟩:=Kd.S_slice HO226.out;subst eo8)|((with_reducible refine yB (N:=6) rfl ?_);refine yH ?hg (N:=6) ?hd (cs:= #[.int .i64 0, .slice none 0 0]) (t:=89) ?hr ?_;(case hd=>rfl);(case hg=>rfl);(case hr=>exact Qm);intro vU hg w9 hbox hb;have n0_:=zA.mk (Kd.S_below (Qj HO226) hb);have n1_:=zA.mk (ze (g:=vS) (Qi vh) hb);have n2_:=zA.mk (zH (Qd vW) hb);have n3_:=zA.mk (hbox);have n4_:=zA.mk ((by rw [hg];exact (zE (Qd vW)):w.heap.size≤vU));have n5_:=zA.mk ((by rw [hg];exact (zE (Qd vW)):w.heap.size≤vU));have n6_:=zA.mk ((by rw [hg];exact Nat.ne_of_lt (yG (g:=vS) (Qi vh)):vS≠vU));have n7_:=zA.mk ((by rw [hg];exact Nat.ne_of_gt (yG (g:=vS) (Qi vh)):vU≠vS));clear HO226 vh HB;have HO226:=n0_;have vh:=n1_;have HB:=n2_;have vr:=n3_;have GW228:=n4_;have wz:=n5_;have NB223_228:=n6_;have NB228_223:=n7_;clear n0_ n1_ n2_ n3_ n4_ n5_ n6_ n7_ hb hbox hg;have hnb10:=NB228_223.out;have hnc10:=NB223_228.out;have wl:=Qn vr 0 rfl;have wm:=Qn vr 1 rfl;have wn:=zB vr.out 0;have wo:=zB vr.out 1;have hcz12_0:=Qn vh 0 rfl;have hcz12_1:=Qn vh 1 rfl;have hcz12_2:=Qn vh 2 rfl;have hcz12_3:=Qn vh 3 rfl;have hfz12_0:=zB vh.out 0;have hfz12_1:=zB vh.out 1;have hfz12_2:=zB vh.out 2;have hfz12_3:=zB vh.out 3))
  go_loopg [7,29] k (fun kq v7 v29 w'=>∃(x7_1:List (S66)) (x29_1:Int),v29= .int .i64 x29_1∧zA (zv.l0 kq x7_1 l0_3 (l0_3.length:Int) x29_1 a0_1 wG=some (r1,r2))∧zA (kq≤k)∧zA (Kd.S k66 66 w' w.heap.size (fun _=>True) v7 x7_1)∧zA (Kd.S (Kd.slice 9 Kd.string) 32 w' w.heap.size (fun _=>True) (.slice Ao8 wG.length co8) wG)∧zA (w'.heap[vS]? =some (.cells #[.int .i64 a0_0, .int .i64 a0_1,(.slice vi l0_2.length vk),(.slice vp l0_3.length vl)] 25 (0,0)))∧zA (w'.heap[vU]? =some (.cells #[.int .i64 a0_1,(.slice Ao8 wG.length co8)] 89 (0,0)))∧zA (Below w.heap.size w w'))
  case atStart=>exact ⟨(([]:List (S66))),(0),Zb,H',⟨Nat.le_refl _⟩,⟨by first|exact Kd.S_nil _ _ _ _ _|exact Kd.N_nil _ _ _ _ _|exact Kd.V_nil _ _ _ _ _|exact Kd.Q_nil _ _ _ _ _|exact Kd.R_nil _ _ _ _ _⟩,⟨by (with_reducible repeat (first|apply Kd.S_alloc|apply Kd.S_drewN|apply Kd.S_drew));exact Kd.S_mono (Kd.S_far (p:=⟨vU,1,none⟩) (Kd.S_far (p:=⟨vU,0,none⟩) (Kd.S_types HO226.out vr.out (by decide)) (fun _ hk=>hk.2) (.int .i64 a0_1)) (fun _ hk=>hk.2) (.slice Ao8 wG.length co8)) (fun _ hk=>trivial)⟩,⟨by (with_reducible repeat (first|refine zO ?_ _|refine zQ ?_|refine zM ?_ _));refine yJ ?_ NB223_228.out _;(with_reducible repeat (first|refine zO ?_ _|refine zQ ?_|refine zM ?_ _));refine yJ ?_ NB223_228.out _;(with_reducible repeat (first|refine zO ?_ _|refine zQ ?_|refine zM ?_ _));exact vh.out⟩,⟨by (with_reducible repeat (first|refine zO ?_ _|refine zQ ?_|refine zM ?_ _));refine yU (cs:= #[.int .i64 a0_1, .slice none 0 0]) ?_ 1 _ rfl;(with_reducible repeat (first|refine zO ?_ _|refine zQ ?_|refine zM ?_ _));refine yU (cs:= #[.int .i64 0, .slice none 0 0]) ?_ 0 _ rfl;(with_reducible repeat (first|refine zO ?_ _|refine zQ ?_|refine zM ?_ _));exact vr.out⟩,⟨by repeat (first|(with_reducible first|exact HB.out|apply zG|apply zC|apply zF|refine zK ?_ vW.out|refine zK ?_ wz.out)|exact HB.out)⟩⟩
  case round=>
   clear H';(try clear c1);(try clear p2);(try clear c3);(try clear c3b0);(try clear c3b1);(try clear c10);(try clear wl);(try clear wm);(try clear hcz12_0);(try clear hcz12_1);(try clear hcz12_2);(try clear hcz12_3);(try clear hcz5_0);(try clear hcz5_1);(try clear hcz5_2);(try clear hcz5_3);(try clear hcz7_0);(try clear hcz7_1);(try clear hcz7_2);(try clear hcz7_3);(try clear wn);(try clear wo);(try clear hfz12_0);(try clear hfz12_1);(try clear hfz12_2);(try clear hfz12_3);(try clear hfz5_0);(try clear hfz5_1);(try clear hfz5_2);(try clear hfz5_3);(try clear hfz7_0);(try clear hfz7_1);(try clear hfz7_2);(try clear hfz7_3);obtain ⟨x7_1,x29_1,rfl,HA,HK1,HO_7,ve,vh,vr,HB⟩:=hrel;cases gk with
   | zero=>exact absurd HA.out (by simp [zv.l0])
   | succ k1=>
    have H:=HA.out;clear HA;simp only [zv.l0] at H
    by_cases c13:x29_1 < (l0_3.length:Int)
    ·rw [if_pos c13] at H
     have c13b0:=decide_eq_true c13;clear c13
     by_cases c14:0≤x29_1
     ·rw [if_pos c14] at H
      have c14b0:=decide_eq_true c14;clear c14
      by_cases c15:x29_1 < (l0_3.length:Int)
      ·rw [if_pos c15] at H
       have c15b0:=decide_eq_true c15;clear c15;have H':=zA.mk H;clear H;have p229:0≤(x29_1:Int):=Qa;have q229:x29_1 < (l0_3.length:Int):=Qa;obtain ⟨ad229,A229_1,wJ,e229,hx229_0,hx229_1,hl229_1,hi229_1⟩:=yv vw.out x29_1 p229 q229;cases e229;replace hx229_0:=(HB.out.cell (ZzA w _ hx229_0)).trans hx229_0;replace hx229_1:=(HB.out.cell (ZzA w _ hx229_1)).trans hx229_1;have HR229_1:=zA.mk hi229_1;have HC229_1:=zA.mk hl229_1;clear hi229_1 hl229_1;replace p229:=eq_true p229;replace q229:=eq_true q229
       go_wp2_with (first|((with_reducible refine yB (N:=9) rfl ?_);refine yH ?hg (N:=9) ?hd (cs:= #[.int .i64 0, .slice none 0 0]) (t:=45) ?hr ?_;(case hd=>rfl);(case hg=>rfl);(case hr=>exact Qm);intro vX hg w16 hbox hb;have n0_:=zA.mk (Kd.S_below (Qj HO_7) hb);have n1_:=zA.mk (Kd.S_below (Qj ve) hb);have n2_:=zA.mk (ze (g:=vS) (Qi vh) hb);have n3_:=zA.mk (ze (g:=vU) (Qi vr) hb);have n4_:=zA.mk (zH (Qe vW wz) hb);have n5_:=zA.mk (hbox);have n6_:=zA.mk ((by rw [hg];exact (zE (Qe vW wz)):w.heap.size≤vX));have n7_:=zA.mk ((by rw [hg];exact (zE (Qe vW wz)):w.heap.size≤vX));have n8_:=zA.mk ((by rw [hg];exact Nat.ne_of_lt (yG (g:=vS) (Qi vh)):vS≠vX));have n9_:=zA.mk ((by rw [hg];exact Nat.ne_of_gt (yG (g:=vS) (Qi vh)):vX≠vS));have n10_:=zA.mk ((by rw [hg];exact Nat.ne_of_lt (yG (g:=vU) (Qi vr)):vU≠vX));have n11_:=zA.mk ((by rw [hg];exact Nat.ne_of_gt (yG (g:=vU) (Qi vr)):vX≠vU));clear HO_7 ve vh vr HB;have HO_7:=n0_;have ve:=n1_;have vh:=n2_;have vr:=n3_;have HB:=n4_;have vt:=n5_;have GW230:=n6_;have wN:=n7_;have NB223_230:=n8_;have NB230_223:=n9_;have NB228_230:=n10_;have NB230_228:=n11_;clear n0_ n1_ n2_ n3_ n4_ n5_ n6_ n7_ n8_ n9_ n10_ n11_ hb hbox hg;have hnb17:=NB230_223.out;have hnc17:=NB223_230.out;have hnb18:=NB230_228.out;have hnc18:=NB228_230.out;have hcz19_0:=Qn vt 0 rfl;have hcz19_1:=Qn vt 1 rfl;have hfz19_0:=zB vt.out 0;have hfz19_1:=zB vt.out 1))
       go_loopg [7,36] k1 (fun kq v7 v36 w'=>∃(x7_2:List (S66)) (x36_2:Int),v36= .int .i64 x36_2∧zA (zv.l1 kq x7_2 l0_3 (l0_3.length:Int) x29_1 ((zD l0_3 x29_1).f1) (((zD l0_3 x29_1).f1).length:Int) x36_2 a0_1 wG ((zD l0_3 x29_1).f0) ((zD l0_3 x29_1).f1)=some (r1,r2))∧zA (kq≤k1)∧zA (Kd.S k66 66 w' w.heap.size (fun _=>True) v7 x7_2)∧zA (Kd.S (Kd.slice 9 Kd.string) 32 w' w.heap.size (fun _=>True) (.slice Ao8 wG.length co8) wG)∧zA (w'.heap[vS]? =some (.cells #[.int .i64 a0_0, .int .i64 a0_1,(.slice vi l0_2.length vk),(.slice (some ad229) l0_3.length vl)] 25 (0,0)))∧zA (w'.heap[vU]? =some (.cells #[.int .i64 a0_1,(.slice Ao8 wG.length co8)] 89 (0,0)))∧zA (w'.heap[vX]? =some (.cells #[.int .i64 ((zD l0_3 x29_1).f0),(.slice A229_1 ((zD l0_3 x29_1).f1).length wJ)] 45 (0,0)))∧zA (Below w.heap.size w w'))
       case atStart=>exact ⟨(x7_1),(0),Zb,H',⟨Nat.le_refl _⟩,⟨by (with_reducible repeat (first|apply Kd.S_alloc|apply Kd.S_drewN|apply Kd.S_drew));exact Kd.S_mono (Kd.S_far (p:=⟨vX,1,none⟩) (Kd.S_far (p:=⟨vX,0,none⟩) (Kd.S_types HO_7.out vt.out (by decide)) (fun _ hk=>hk.2) (.int .i64 ((zD l0_3 x29_1).f0))) (fun _ hk=>hk.2) (.slice A229_1 ((zD l0_3 x29_1).f1).length wJ)) (fun _ hk=>trivial)⟩,⟨by (with_reducible repeat (first|apply Kd.S_alloc|apply Kd.S_drewN|apply Kd.S_drew));exact Kd.S_mono (Kd.S_far (p:=⟨vX,1,none⟩) (Kd.S_far (p:=⟨vX,0,none⟩) (Kd.S_types ve.out vt.out (by decide)) (fun _ hk=>hk.2) (.int .i64 ((zD l0_3 x29_1).f0))) (fun _ hk=>hk.2) (.slice A229_1 ((zD l0_3 x29_1).f1).length wJ)) (fun _ hk=>trivial)⟩,⟨by (with_reducible repeat (first|refine zO ?_ _|refine zQ ?_|refine zM ?_ _));refine yJ ?_ NB223_230.out _;(with_reducible repeat (first|refine zO ?_ _|refine zQ ?_|refine zM ?_ _));refine yJ ?_ NB223_230.out _;(with_reducible repeat (first|refine zO ?_ _|refine zQ ?_|refine zM ?_ _));exact vh.out⟩,⟨by (with_reducible repeat (first|refine zO ?_ _|refine zQ ?_|refine zM ?_ _));refine yJ ?_ NB228_230.out _;(with_reducible repeat (first|refine zO ?_ _|refine zQ ?_|refine zM ?_ _));refine yJ ?_ NB228_230.out _;(with_reducible repeat (first|refine zO ?_ _|refine zQ ?_|refine zM ?_ _));exact vr.out⟩,⟨by (with_reducible repeat (first|refine zO ?_ _|refine zQ ?_|refine zM ?_ _));refine yU (cs:= #[.int .i64 ((zD l0_3 x29_1).f0), .slice none 0 0]) ?_ 1 _ rfl;(with_reducible repeat (first|refine zO ?_ _|refine zQ ?_|refine zM ?_ _));refine yU (cs:= #[.int .i64 0, .slice none 0 0]) ?_ 0 _ rfl;(with_reducible repeat (first|refine zO ?_ _|refine zQ ?_|refine zM ?_ _));exact vt.out⟩,⟨by repeat (first|(with_reducible first|exact HB.out|apply zG|apply zC|apply zF|refine zK ?_ vW.out|refine zK ?_ wz.out|refine zK ?_ wN.out)|exact HB.out)⟩⟩
       case round=>
        clear H';(try clear c1);(try clear c2);(try clear p2);(try clear q2);(try clear hx2);(try clear c3);(try clear c3b0);(try clear c3b1);(try clear c10);(try clear c13);(try clear c13b0);(try clear c14);(try clear c14b0);(try clear c15);(try clear c15b0);(try clear c16);(try clear c17);(try clear c18);(try clear wl);(try clear wm);(try clear hcz12_0);(try clear hcz12_1);(try clear hcz12_2);(try clear hcz12_3);(try clear hcz19_0);(try clear hcz19_1);(try clear hcz5_0);(try clear hcz5_1);(try clear hcz5_2);(try clear hcz5_3);(try clear hcz7_0);(try clear hcz7_1);(try clear hcz7_2);(try clear hcz7_3);(try clear wn);(try clear wo);(try clear hfz12_0);(try clear hfz12_1);(try clear hfz12_2);(try clear hfz12_3);(try clear hfz19_0);(try clear hfz19_1);(try clear hfz5_0);(try clear hfz5_1);(try clear hfz5_2);(try clear hfz5_3);(try clear hfz7_0);(try clear hfz7_1);(try clear hfz7_2);(try clear hfz7_3);(try clear hx229_0);(try clear hx229_1);(try clear p2);(try clear p229);(try clear q229);obtain ⟨x7_2,x36_2,rfl,HA,HK2,HO_7,ve,vh,vr,vt,HB⟩:=hrel;cases gk with
        | zero=>exact absurd HA.out (by simp [zv.l1])
        | succ k2=>
         have H:=HA.out;clear HA;simp only [zv.l1] at H
         by_cases c20:x36_2 < (((zD l0_3 x29_1).f1).length:Int)
         ·rw [if_pos c20] at H
          have c20b0:=decide_eq_true c20;clear c20
          by_cases c21:0≤x36_2
          ·rw [if_pos c21] at H
           have c21b0:=decide_eq_true c21;clear c21
           by_cases c22:x36_2 < (((zD l0_3 x29_1).f1).length:Int)
           ·rw [if_pos c22] at H
            have c22b0:=decide_eq_true c22;clear c22;obtain ⟨bq23,hbq23⟩:∃b_:Bool,b_=((zi ((zD l0_3 x29_1).f1) x36_2).f0):=⟨_,rfl⟩
            replace H:(if bq23=true then (zv.l1 k2 x7_2 l0_3 (l0_3.length:Int) x29_1 ((zD l0_3 x29_1).f1) (((zD l0_3 x29_1).f1).length:Int) (wrap64 (x36_2 + 1)) a0_1 wG ((zD l0_3 x29_1).f0) ((zD l0_3 x29_1).f1)) else (if 0≤(wrap64 (x36_2 + 1)) then (if (wrap64 (x36_2 + 1))≤(((zD l0_3 x29_1).f1).length:Int) then ((zo.f k2 a0_1 wG (((zD l0_3 x29_1).f1).drop ((wrap64 (x36_2 + 1)):Int).toNat)).bind fun bt237=>(if bt237.2=true then (if x7_2.length < 3518437208883 then (zv.l1 k2 (x7_2 ++ [(⟨(zi ((zD l0_3 x29_1).f1) x36_2).f1,((zD l0_3 x29_1).f0),bt237.1⟩:S66)]) l0_3 (l0_3.length:Int) x29_1 ((zD l0_3 x29_1).f1) (((zD l0_3 x29_1).f1).length:Int) (wrap64 (x36_2 + 1)) a0_1 wG ((zD l0_3 x29_1).f0) ((zD l0_3 x29_1).f1)) else (none)) else (some (([]:List (S66)),15)))) else (none)) else (none)))=some (r1,r2):=by rw [←hbq23] at H;exact H
            have Nbq23:=zA.mk hbq23;clear hbq23
            by_cases c24:bq23=true
            ·subst c24
             have H1:(zv.l1 k2 x7_2 l0_3 (l0_3.length:Int) x29_1 ((zD l0_3 x29_1).f1) (((zD l0_3 x29_1).f1).length:Int) (wrap64 (x36_2 + 1)) a0_1 wG ((zD l0_3 x29_1).f0) ((zD l0_3 x29_1).f1))=some (r1,r2):=by rw [if_pos rfl] at H;exact H
             clear H;have H:=H1;clear H1;have H':=zA.mk H;clear H;have p231:0≤(x36_2:Int):=Qa;have q231:x36_2 < (((zD l0_3 x29_1).f1).length:Int):=Qa;obtain ⟨ad231,e231,hx231_0,hx231_1⟩:=ZF HR229_1.out x36_2 p231 q231
             (try rw [←Nbq23.out] at hx231_0)
             cases e231;replace hx231_0:=(HB.out.cell (ZzA w _ hx231_0)).trans hx231_0;replace hx231_1:=(HB.out.cell (ZzA w _ hx231_1)).trans hx231_1;replace p231:=eq_true p231;replace q231:=eq_true q231
             go_wp2_with (first|((with_reducible refine yB (N:=11) rfl ?_);refine yH ?hg (N:=11) ?hd (cs:= #[.bool false, .int .i64 0]) (t:=51) ?hr ?_;(case hd=>rfl);(case hg=>rfl);(case hr=>exact Qm);intro vm hg w25 hbox hb;have n0_:=zA.mk (Kd.S_below (Qj HO_7) hb);have n1_:=zA.mk (Kd.S_below (Qj ve) hb);have n2_:=zA.mk (ze (g:=vS) (Qi vh) hb);have n3_:=zA.mk (ze (g:=vU) (Qi vr) hb);have n4_:=zA.mk (ze (g:=vX) (Qi vt) hb);have n5_:=zA.mk (zH (Qf vW wz wN) hb);have n6_:=zA.mk (hbox);have n7_:=zA.mk ((by rw [hg];exact (zE (Qf vW wz wN)):w.heap.size≤vm));have n8_:=zA.mk ((by rw [hg];exact (zE (Qf vW wz wN)):w.heap.size≤vm));have n9_:=zA.mk ((by rw [hg];exact Nat.ne_of_lt (yG (g:=vS) (Qi vh)):vS≠vm));have n10_:=zA.mk ((by rw [hg];exact Nat.ne_of_gt (yG (g:=vS) (Qi vh)):vm≠vS));have n11_:=zA.mk ((by rw [hg];exact Nat.ne_of_lt (yG (g:=vU) (Qi vr)):vU≠vm));have n12_:=zA.mk ((by rw [hg];exact Nat.ne_of_gt (yG (g:=vU) (Qi vr)):vm≠vU));have n13_:=zA.mk ((by rw [hg];exact Nat.ne_of_lt (yG (g:=vX) (Qi vt)):vX≠vm));have n14_:=zA.mk ((by rw [hg];exact Nat.ne_of_gt (yG (g:=vX) (Qi vt)):vm≠vX));clear HO_7 ve vh vr vt HB;have HO_7:=n0_;have ve:=n1_;have vh:=n2_;have vr:=n3_;have vt:=n4_;have HB:=n5_;have vC:=n6_;have GW232:=n7_;have GE232:=n8_;have NB223_232:=n9_;have NB232_223:=n10_;have NB228_232:=n11_;have NB232_228:=n12_;have NB230_232:=n13_;have NB232_230:=n14_;clear n0_ n1_ n2_ n3_ n4_ n5_ n6_ n7_ n8_ n9_ n10_ n11_ n12_ n13_ n14_ hb hbox hg;have hnb26:=NB232_223.out;have hnc26:=NB223_232.out;have hnb27:=NB232_228.out;have hnc27:=NB228_232.out;have hnb28:=NB232_230.out;have hnc28:=NB230_232.out;have hcz29_0:=Qn vC 0 rfl;have hcz29_1:=Qn vC 1 rfl;have hfz29_0:=zB vC.out 0;have hfz29_1:=zB vC.out 1))
             go_roundg k2
             case measure=>have:=HK1.out;have:=HK2.out;omega
             case rel=>exact ⟨(x7_2),(wrap64 (x36_2 + 1)),Zb,H',⟨by have:=HK1.out;have:=HK2.out;omega⟩,⟨by (with_reducible repeat (first|apply Kd.S_alloc|apply Kd.S_drewN|apply Kd.S_drew));exact Kd.S_mono (Kd.S_far (p:=⟨vm,1,none⟩) (Kd.S_far (p:=⟨vm,0,none⟩) (Kd.S_types HO_7.out vC.out (by decide)) (fun _ hk=>hk.2) (.bool true)) (fun _ hk=>hk.2) (.int .i64 ((zi ((zD l0_3 x29_1).f1) x36_2).f1))) (fun _ hk=>trivial)⟩,⟨by (with_reducible repeat (first|apply Kd.S_alloc|apply Kd.S_drewN|apply Kd.S_drew));exact Kd.S_mono (Kd.S_far (p:=⟨vm,1,none⟩) (Kd.S_far (p:=⟨vm,0,none⟩) (Kd.S_types ve.out vC.out (by decide)) (fun _ hk=>hk.2) (.bool true)) (fun _ hk=>hk.2) (.int .i64 ((zi ((zD l0_3 x29_1).f1) x36_2).f1))) (fun _ hk=>trivial)⟩,⟨by (with_reducible repeat (first|refine zO ?_ _|refine zQ ?_|refine zM ?_ _));refine yJ ?_ NB223_232.out _;(with_reducible repeat (first|refine zO ?_ _|refine zQ ?_|refine zM ?_ _));refine yJ ?_ NB223_232.out _;(with_reducible repeat (first|refine zO ?_ _|refine zQ ?_|refine zM ?_ _));exact vh.out⟩,⟨by (with_reducible repeat (first|refine zO ?_ _|refine zQ ?_|refine zM ?_ _));refine yJ ?_ NB228_232.out _;(with_reducible repeat (first|refine zO ?_ _|refine zQ ?_|refine zM ?_ _));refine yJ ?_ NB228_232.out _;(with_reducible repeat (first|refine zO ?_ _|refine zQ ?_|refine zM ?_ _));exact vr.out⟩,⟨by (with_reducible repeat (first|refine zO ?_ _|refine zQ ?_|refine zM ?_ _));refine yJ ?_ NB230_232.out _;(with_reducible repeat (first|refine zO ?_ _|refine zQ ?_|refine zM ?_ _));refine yJ ?_ NB230_232.out _;(with_reducible repeat (first|refine zO ?_ _|refine zQ ?_|refine zM ?_ _));exact vt.out⟩,⟨by repeat (first|(with_reducible first|exact HB.out|apply zG|apply zC|apply zF|refine zK ?_ vW.out|refine zK ?_ wz.out|refine zK ?_ wN.out|refine zK ?_ GE232.out)|exact HB.out)⟩⟩
            ·replace c24:=Bool.eq_false_iff.mpr c24
             subst c24
             have H1:(if 0≤(wrap64 (x36_2 + 1)) then (if (wrap64 (x36_2 + 1))≤(((zD l0_3 x29_1).f1).length:Int) then ((zo.f k2 a0_1 wG (((zD l0_3 x29_1).f1).drop ((wrap64 (x36_2 + 1)):Int).toNat)).bind fun bt237=>(if bt237.2=true then (if x7_2.length < 3518437208883 then (zv.l1 k2 (x7_2 ++ [(⟨(zi ((zD l0_3 x29_1).f1) x36_2).f1,((zD l0_3 x29_1).f0),bt237.1⟩:S66)]) l0_3 (l0_3.length:Int) x29_1 ((zD l0_3 x29_1).f1) (((zD l0_3 x29_1).f1).length:Int) (wrap64 (x36_2 + 1)) a0_1 wG ((zD l0_3 x29_1).f0) ((zD l0_3 x29_1).f1)) else (none)) else (some (([]:List (S66)),15)))) else (none)) else (none))=some (r1,r2):=by rw [if_neg (show ¬(false=true) by decide)] at H;exact H
             clear H;have H:=H1;clear H1;obtain ⟨ji30,hji30⟩:∃j_:Int,(wrap64 (x36_2 + 1))=j_:=⟨_,rfl⟩
             replace H:(if 0≤(ji30) then (if (ji30)≤(((zD l0_3 x29_1).f1).length:Int) then ((zo.f k2 a0_1 wG (((zD l0_3 x29_1).f1).drop ((ji30):Int).toNat)).bind fun bt237=>(if bt237.2=true then (if x7_2.length < 3518437208883 then (zv.l1 k2 (x7_2 ++ [(⟨(zi ((zD l0_3 x29_1).f1) x36_2).f1,((zD l0_3 x29_1).f0),bt237.1⟩:S66)]) l0_3 (l0_3.length:Int) x29_1 ((zD l0_3 x29_1).f1) (((zD l0_3 x29_1).f1).length:Int) ji30 a0_1 wG ((zD l0_3 x29_1).f0) ((zD l0_3 x29_1).f1)) else (none)) else (some (([]:List (S66)),15)))) else (none)) else (none))=some (r1,r2):=by first|(rw [hji30] at H;exact H)|(simp only [hji30] at H⊢;exact H)
             have hji30w:(IntKind.i64.wrap (x36_2 + 1))=ji30:=(zx _).trans hji30
             by_cases c31:0≤(ji30)
             ·rw [if_pos c31] at H
              have c31b0:=eq_true c31;have c31b1:=decide_eq_true c31;clear c31
              by_cases c32:(ji30)≤(((zD l0_3 x29_1).f1).length:Int)
              ·rw [if_pos c32] at H
               have c32b0:=eq_true c32;have c32b1:=decide_eq_true c32;clear c32;obtain ⟨y233,hy233⟩:∃y_:List (S51),y_=(((zD l0_3 x29_1).f1).drop ((ji30):Int).toNat):=⟨_,rfl⟩;replace H:((zo.f k2 a0_1 wG y233).bind fun bt237=>(if bt237.2=true then (if x7_2.length < 3518437208883 then (zv.l1 k2 (x7_2 ++ [(⟨(zi ((zD l0_3 x29_1).f1) x36_2).f1,((zD l0_3 x29_1).f0),bt237.1⟩:S66)]) l0_3 (l0_3.length:Int) x29_1 ((zD l0_3 x29_1).f1) (((zD l0_3 x29_1).f1).length:Int) ji30 a0_1 wG ((zD l0_3 x29_1).f0) ((zD l0_3 x29_1).f1)) else (none)) else (some (([]:List (S66)),15))))=some (r1,r2):=Qb hy233 H;have Ny233:=zA.mk hy233;clear hy233;replace H:=ZzB H;obtain ⟨⟨t237,t240⟩,A330,H⟩:=H;replace H:(if t240=true then (if x7_2.length < 3518437208883 then (zv.l1 k2 (x7_2 ++ [(⟨(zi ((zD l0_3 x29_1).f1) x36_2).f1,((zD l0_3 x29_1).f0),t237⟩:S66)]) l0_3 (l0_3.length:Int) x29_1 ((zD l0_3 x29_1).f1) (((zD l0_3 x29_1).f1).length:Int) ji30 a0_1 wG ((zD l0_3 x29_1).f0) ((zD l0_3 x29_1).f1)) else (none)) else (some (([]:List (S66)),15)))=some (r1,r2):=H;have A33:=zA.mk A330;clear A330
               by_cases c34:t240=true
               ·subst c34
                have H1:(if x7_2.length < 3518437208883 then (zv.l1 k2 (x7_2 ++ [(⟨(zi ((zD l0_3 x29_1).f1) x36_2).f1,((zD l0_3 x29_1).f0),t237⟩:S66)]) l0_3 (l0_3.length:Int) x29_1 ((zD l0_3 x29_1).f1) (((zD l0_3 x29_1).f1).length:Int) ji30 a0_1 wG ((zD l0_3 x29_1).f0) ((zD l0_3 x29_1).f1)) else (none))=some (r1,r2):=by rw [if_pos rfl] at H;exact H
                clear H;have H:=H1;clear H1
                by_cases c35:x7_2.length < 3518437208883
                ·rw [if_pos c35] at H
                 have LMc35:=zA.mk c35;clear c35;obtain ⟨y241,hy241⟩:∃y_:List (S66),y_=(x7_2 ++ [(⟨(zi ((zD l0_3 x29_1).f1) x36_2).f1,((zD l0_3 x29_1).f0),t237⟩:S66)]):=⟨_,rfl⟩;replace H:(zv.l1 k2 y241 l0_3 (l0_3.length:Int) x29_1 ((zD l0_3 x29_1).f1) (((zD l0_3 x29_1).f1).length:Int) ji30 a0_1 wG ((zD l0_3 x29_1).f0) ((zD l0_3 x29_1).f1))=some (r1,r2):=Qb hy241 H;have Ny241:=zA.mk hy241;clear hy241;have H':=zA.mk H;clear H;have p231:0≤(x36_2:Int):=Qa;have q231:x36_2 < (((zD l0_3 x29_1).f1).length:Int):=Qa;obtain ⟨ad231,e231,hx231_0,hx231_1⟩:=ZF HR229_1.out x36_2 p231 q231
                 (try rw [←Nbq23.out] at hx231_0)
                 cases e231;replace hx231_0:=(HB.out.cell (ZzA w _ hx231_0)).trans hx231_0;replace hx231_1:=(HB.out.cell (ZzA w _ hx231_1)).trans hx231_1;replace p231:=eq_true p231;replace q231:=eq_true q231
                 try go_wp2_with (first|((with_reducible refine yB (N:=11) rfl ?_);refine yH ?hg (N:=11) ?hd (cs:= #[.bool false, .int .i64 0]) (t:=51) ?hr ?_;(case hd=>rfl);(case hg=>rfl);(case hr=>exact Qm);intro vm hg w36 hbox hb;have n0_:=zA.mk (Kd.S_below (Qj HO_7) hb);have n1_:=zA.mk (Kd.S_below (Qj ve) hb);have n2_:=zA.mk (ze (g:=vS) (Qi vh) hb);have n3_:=zA.mk (ze (g:=vU) (Qi vr) hb);have n4_:=zA.mk (ze (g:=vX) (Qi vt) hb);have n5_:=zA.mk (zH (Qf vW wz wN) hb);have n6_:=zA.mk (hbox);have n7_:=zA.mk ((by rw [hg];exact (zE (Qf vW wz wN)):w.heap.size≤vm));have n8_:=zA.mk ((by rw [hg];exact (zE (Qf vW wz wN)):w.heap.size≤vm));have n9_:=zA.mk ((by rw [hg];exact Nat.ne_of_lt (yG (g:=vS) (Qi vh)):vS≠vm));have n10_:=zA.mk ((by rw [hg];exact Nat.ne_of_gt (yG (g:=vS) (Qi vh)):vm≠vS));have n11_:=zA.mk ((by rw [hg];exact Nat.ne_of_lt (yG (g:=vU) (Qi vr)):vU≠vm));have n12_:=zA.mk ((by rw [hg];exact Nat.ne_of_gt (yG (g:=vU) (Qi vr)):vm≠vU));have n13_:=zA.mk ((by rw [hg];exact Nat.ne_of_lt (yG (g:=vX) (Qi vt)):vX≠vm));have n14_:=zA.mk ((by rw [hg];exact Nat.ne_of_gt (yG (g:=vX) (Qi vt)):vm≠vX));clear HO_7 ve vh vr vt HB;have HO_7:=n0_;have ve:=n1_;have vh:=n2_;have vr:=n3_;have vt:=n4_;have HB:=n5_;have vC:=n6_;have GW232:=n7_;have GE232:=n8_;have NB223_232:=n9_;have NB232_223:=n10_;have NB228_232:=n11_;have NB232_228:=n12_;have NB230_232:=n13_;have NB232_230:=n14_;clear n0_ n1_ n2_ n3_ n4_ n5_ n6_ n7_ n8_ n9_ n10_ n11_ n12_ n13_ n14_ hb hbox hg;have hnb37:=NB232_223.out;have hnc37:=NB223_232.out;have hnb38:=NB232_228.out;have hnc38:=NB228_232.out;have hnb39:=NB232_230.out;have hnc39:=NB230_232.out;have hcz40_0:=Qn vC 0 rfl;have hcz40_1:=Qn vC 1 rfl;have hfz40_0:=zB vC.out 0;have hfz40_1:=zB vC.out 1))
                 have n0_:zA (Kd.S k66 66 ((w36.setCell ⟨vm,0,none⟩ (.bool false)).setCell ⟨vm,1,none⟩ (.int .i64 ((zi ((zD l0_3 x29_1).f1) x36_2).f1))) w.heap.size (fun _=>True) u7 x7_2):=⟨by (with_reducible repeat (first|apply Kd.S_alloc|apply Kd.S_drewN|apply Kd.S_drew));exact Kd.S_mono (Kd.S_far (p:=⟨vm,1,none⟩) (Kd.S_far (p:=⟨vm,0,none⟩) (Kd.S_types HO_7.out vC.out (by decide)) (fun _ hk=>hk.2) (.bool false)) (fun _ hk=>hk.2) (.int .i64 ((zi ((zD l0_3 x29_1).f1) x36_2).f1))) (fun _ hk=>trivial)⟩;have n1_:zA (Kd.S (Kd.slice 9 Kd.string) 32 ((w36.setCell ⟨vm,0,none⟩ (.bool false)).setCell ⟨vm,1,none⟩ (.int .i64 ((zi ((zD l0_3 x29_1).f1) x36_2).f1))) w.heap.size (fun _=>True) (.slice Ao8 wG.length co8) wG):=⟨by (with_reducible repeat (first|apply Kd.S_alloc|apply Kd.S_drewN|apply Kd.S_drew));exact Kd.S_mono (Kd.S_far (p:=⟨vm,1,none⟩) (Kd.S_far (p:=⟨vm,0,none⟩) (Kd.S_types ve.out vC.out (by decide)) (fun _ hk=>hk.2) (.bool false)) (fun _ hk=>hk.2) (.int .i64 ((zi ((zD l0_3 x29_1).f1) x36_2).f1))) (fun _ hk=>trivial)⟩;have n2_:zA (((w36.setCell ⟨vm,0,none⟩ (.bool false)).setCell ⟨vm,1,none⟩ (.int .i64 ((zi ((zD l0_3 x29_1).f1) x36_2).f1))).heap[vS]? =some (.cells #[.int .i64 a0_0, .int .i64 a0_1, .slice vi l0_2.length vk, .slice (some ad229) l0_3.length vl] 25 (0,0))):=⟨by (with_reducible repeat (first|refine zO ?_ _|refine zQ ?_|refine zM ?_ _));refine yJ ?_ NB223_232.out _;(with_reducible repeat (first|refine zO ?_ _|refine zQ ?_|refine zM ?_ _));refine yJ ?_ NB223_232.out _;(with_reducible repeat (first|refine zO ?_ _|refine zQ ?_|refine zM ?_ _));exact vh.out⟩;have n3_:zA (((w36.setCell ⟨vm,0,none⟩ (.bool false)).setCell ⟨vm,1,none⟩ (.int .i64 ((zi ((zD l0_3 x29_1).f1) x36_2).f1))).heap[vU]? =some (.cells #[.int .i64 a0_1, .slice Ao8 wG.length co8] 89 (0,0))):=⟨by (with_reducible repeat (first|refine zO ?_ _|refine zQ ?_|refine zM ?_ _));refine yJ ?_ NB228_232.out _;(with_reducible repeat (first|refine zO ?_ _|refine zQ ?_|refine zM ?_ _));refine yJ ?_ NB228_232.out _;(with_reducible repeat (first|refine zO ?_ _|refine zQ ?_|refine zM ?_ _));exact vr.out⟩;have n4_:zA (((w36.setCell ⟨vm,0,none⟩ (.bool false)).setCell ⟨vm,1,none⟩ (.int .i64 ((zi ((zD l0_3 x29_1).f1) x36_2).f1))).heap[vX]? =some (.cells #[.int .i64 ((zD l0_3 x29_1).f0), .slice (some ad231) ((zD l0_3 x29_1).f1).length wJ] 45 (0,0))):=⟨by (with_reducible repeat (first|refine zO ?_ _|refine zQ ?_|refine zM ?_ _));refine yJ ?_ NB230_232.out _;(with_reducible repeat (first|refine zO ?_ _|refine zQ ?_|refine zM ?_ _));refine yJ ?_ NB230_232.out _;(with_reducible repeat (first|refine zO ?_ _|refine zQ ?_|refine zM ?_ _));exact vt.out⟩;have n5_:zA (((w36.setCell ⟨vm,0,none⟩ (.bool false)).setCell ⟨vm,1,none⟩ (.int .i64 ((zi ((zD l0_3 x29_1).f1) x36_2).f1))).heap[vm]? =some (.cells #[.bool false, .int .i64 ((zi ((zD l0_3 x29_1).f1) x36_2).f1)] 51 (0,0))):=⟨by (with_reducible repeat (first|refine zO ?_ _|refine zQ ?_|refine zM ?_ _));refine yU (cs:= #[.bool false, .int .i64 0]) ?_ 1 _ rfl;(with_reducible repeat (first|refine zO ?_ _|refine zQ ?_|refine zM ?_ _));refine yU (cs:= #[.bool false, .int .i64 0]) ?_ 0 _ rfl;(with_reducible repeat (first|refine zO ?_ _|refine zQ ?_|refine zM ?_ _));exact vC.out⟩;have n6_:zA (Below w.heap.size w ((w36.setCell ⟨vm,0,none⟩ (.bool false)).setCell ⟨vm,1,none⟩ (.int .i64 ((zi ((zD l0_3 x29_1).f1) x36_2).f1)))):=⟨by repeat (first|(with_reducible first|exact HB.out|apply zG|apply zC|apply zF|refine zK ?_ vW.out|refine zK ?_ wz.out|refine zK ?_ wN.out|refine zK ?_ GE232.out)|exact HB.out)⟩;(try clear HO_7);(try clear ve);(try clear vh);(try clear vr);(try clear vt);(try clear vC);(try clear HB)
                 generalize ((w36.setCell ⟨vm,0,none⟩ (.bool false)).setCell ⟨vm,1,none⟩ (.int .i64 ((zi ((zD l0_3 x29_1).f1) x36_2).f1)))=w41 at n0_ n1_ n2_ n3_ n4_ n5_ n6_⊢
                 have HO_7:=n0_;have ve:=n1_;have vh:=n2_;have vr:=n3_;have vt:=n4_;have vC:=n5_;have HB:=n6_;clear n0_ n1_ n2_ n3_ n4_ n5_ n6_;have n0_:=zA.mk (Kd.S_drew HO_7.out);have n1_:=zA.mk (Kd.S_drew ve.out);have n2_:=zA.mk (zQ vh.out);have n3_:=zA.mk (zQ vr.out);have n4_:=zA.mk (zQ vt.out);have n5_:=zA.mk (zQ vC.out);have n6_:=zA.mk (zF HB.out);clear HO_7 ve vh vr vt vC HB;have HO_7:=n0_;have ve:=n1_;have vh:=n2_;have vr:=n3_;have vt:=n4_;have vC:=n5_;have HB:=n6_;clear n0_ n1_ n2_ n3_ n4_ n5_ n6_;have q43:((ji30):Int)≤((((zD l0_3 x29_1).f1).length:Int):Int):=Qa;obtain ⟨i043,hi043,_,hsz43,_⟩:=info_parts info51;have hroom43:((zD l0_3 x29_1).f1).length≤wJ:=HC229_1.out;have hC43:Kd.C k51 _ (some ad231) ((zD l0_3 x29_1).f1).length ((zD l0_3 x29_1).f1):=HR229_1.out;have q043:(0:Int)≤((ji30):Int):=Qa;have hcut43:=cut_from (P:=Try.prog) 43 51 .i64 Try.underlying43 hi043 2 hsz43 (some ad231) ((zD l0_3 x29_1).f1).length wJ (ji30) q043 q43;have hr43:=Kd.C_drop (m:=((ji30):Int).toNat) (c:=wJ) hC43 (by omega) hroom43;obtain ⟨A43,hA43⟩:∃A1,A1=(if wJ=((ji30):Int).toNat then (some ad231) else ((some ad231):Option Addr).map (·.add (((ji30):Int).toNat * 2))):=⟨_,rfl⟩;obtain ⟨c43,hc43⟩:∃c1,c1=wJ - ((ji30):Int).toNat:=⟨_,rfl⟩
                 have hy43:y233.length=((zD l0_3 x29_1).f1).length - ((ji30):Int).toNat:=(by rw [Ny233.out,List.length_drop] <;> omega)
                 rw [show (((zD l0_3 x29_1).f1)).drop ((ji30):Int).toNat=y233 from Ny233.out.symm] at hr43;replace hr43:Kd.C k51 _ A43 y233.length y233:=(by rw [hA43];exact hr43);rw [←hy43,←hA43,←hc43] at hcut43;have HR236:=zA.mk hr43;have HC236:=zA.mk (show y233.length≤c43 from by rw [hy43,hc43];exact Nat.sub_le_sub_right hroom43 _);clear hr43 hC43 hroom43 hi043 hsz43 hc43;have KY43:=zA.mk hy43;have KA43:=zA.mk hA43;clear hy43 hA43;replace q43:=eq_true q43;refine Zr (n:=12) (S:=fun w'=>w'.cell? ⟨vU,0,none⟩=some (.int .i64 a0_1)∧w'.cell? ⟨vU,1,none⟩=some (.slice Ao8 wG.length co8)∧w'.cell? ⟨vX,0,none⟩=some (.int .i64 ((zD l0_3 x29_1).f0))∧w'.cell? ⟨vX,1,none⟩=some (.slice (some ad231) ((zD l0_3 x29_1).f1).length wJ)) (ds:= []) #[false,false,false,false,false,false,false,false,false,false,false,false] (by kernel_rfl) rfl rfl ⟨(zR vr.out 0).trans rfl,(zR vr.out 1).trans rfl,(zR vt.out 0).trans rfl,(zR vt.out 1).trans rfl⟩ (fun hHeld=> ?_);refine ZJ zv.tab13 zv.bits13 (fun HT_ HW_=> ?_)
                 generalize w41.drew=w42 at HO_7 ve vh vr vt vC HB HR236 hHeld⊢
                 refine yM (i:=1) (N:=some 45) (v:= ?_) (a':= ?_) #[false,true,false,false,false,false,false,false,false,false,false,false] rfl rfl (yD HT_.out (by kernel_rfl)) (fun _ _ _ h=>h) (Or.inl ⟨by rfl,?_⟩) ?_ ?_;rotate_left
                 ·intro w'
                  go_simp
                  with_reducible rfl
                 rotate_left
                 ·simp only [Act.put,List.setIfInBounds_toArray,List.set_cons_zero,List.set_cons_succ,zx,zy]
                  rfl
                 refine yM (i:=3) (N:=some 47) (v:= ?_) (a':= ?_) #[false,true,false,true,false,false,false,false,false,false,false,false] rfl rfl (yD HT_.out (by kernel_rfl)) (fun _ _ _ h=>h) (Or.inl ⟨by rfl,?_⟩) ?_ ?_;rotate_left
                 ·intro w'
                  go_simp
                  with_reducible rfl
                 rotate_left
                 ·simp only [Act.put,List.setIfInBounds_toArray,List.set_cons_zero,List.set_cons_succ,zx,zy]
                  rfl
                 refine yM (i:=4) (N:=some 48) (v:= ?_) (a':= ?_) #[false,true,false,true,true,false,false,false,false,false,false,false] rfl rfl (yD HT_.out (by kernel_rfl)) (fun _ _ _ h=>h) (Or.inl ⟨by rfl,?_⟩) ?_ ?_;rotate_left
                 ·intro w'
                  go_simp
                  with_reducible rfl
                 rotate_left
                 ·simp only [Act.put,List.setIfInBounds_toArray,List.set_cons_zero,List.set_cons_succ,zx,zy]
                  rfl
                 refine take_ (i:=0) (N:=some 44) (v:= ?_) (a':= ?_) #[true,true,false,true,true,false,false,false,false,false,false,false] rfl rfl (yb HT_.out HW_.out (by kernel_rfl)) (fun _ _ _ h=>h) (Or.inl ⟨by rfl,?_⟩) hHeld ?_ ?_;rotate_left
                 ·rintro w' ⟨s0,s1,s2,s3⟩
                  go_simp
                  with_reducible rfl
                 rotate_left
                 ·simp only [Act.put,List.setIfInBounds_toArray,List.set_cons_zero,List.set_cons_succ,zx,zy]
                  rfl
                 refine take_ (i:=2) (N:=some 46) (v:= ?_) (a':= ?_) #[true,true,true,true,true,false,false,false,false,false,false,false] rfl rfl (yb HT_.out HW_.out (by kernel_rfl)) (fun _ _ _ h=>h) (Or.inl ⟨by rfl,?_⟩) hHeld ?_ ?_;rotate_left
                 ·rintro w' ⟨s0,s1,s2,s3⟩
                  go_simp
                  with_reducible rfl
                 rotate_left
                 ·simp only [Act.put,List.setIfInBounds_toArray,List.set_cons_zero,List.set_cons_succ,zx,zy]
                  rfl
                 refine yM (i:=5) (N:=some 49) (v:= ?_) (a':= ?_) #[true,true,true,true,true,true,false,false,false,false,false,false] rfl rfl (yD HT_.out (by kernel_rfl)) (fun _ _ _ h=>h) (Or.inl ⟨by rfl,?_⟩) ?_ ?_;rotate_left
                 ·intro w'
                  go_simp
                  with_reducible rfl
                 rotate_left
                 ·simp only [Act.put,List.setIfInBounds_toArray,List.set_cons_zero,List.set_cons_succ,zx,zy]
                  rfl
                 refine one_ (i:=6) (N:=some 50) #[true,true,true,true,true,true,true,false,false,false,false,false] rfl rfl (ym HT_.out (by kernel_rfl)) (by decide) (fun K hK=> ?_);refine Yo Try.func48 (by kernel_rfl) rfl #[.agg #[.int .i64 a0_1, .slice Ao8 wG.length co8], .slice A43 y233.length c43] (by rfl) rfl rfl QX ?_
                 with_reducible refine (zo.calls k2 a0_1 _ _ wG _ _ y233 t237 true _ ?side1 ?side2 ?side3 ?side4 A33.out).mono ?_
                 (case side1=>repeat (first|exact (Kd.S_reads' ve.out).2.2|(with_reducible refine Kd.C_alloc ?_ _)|(with_reducible refine Kd.C_drewN ?_ _)|(with_reducible refine Kd.C_drew ?_)))
                 (case side2=>exact (Kd.S_reads' ve.out).2.1)
                 (case side3=>exact Qo (Kd.C_below HR236.out HB.out))
                 (case side4=>exact HC236.out)
                 rintro e w44 ⟨v238,rfl,ho0,hb⟩;refine ⟨_,rfl,?_⟩;have n0_:=zA.mk (Kd.S_elder' (Qj HO_7) (Kd.R_base ho0) hb);have n1_:=zA.mk (Kd.S_elder' (Qj ve) (Kd.R_base ho0) hb);have n2_:=zA.mk (Kd.R_lower ho0 (zE (Qg vW wz wN GE232)));have n3_:=zA.mk (ze (g:=vS) (Qi vh) hb);have n4_:=zA.mk (ze (g:=vU) (Qi vr) hb);have n5_:=zA.mk (ze (g:=vX) (Qi vt) hb);have n6_:=zA.mk (ze (g:=vm) (o:= .cells #[.bool false, .int .i64 ((zi ((zD l0_3 x29_1).f1) x36_2).f1)] 51 (0,0)) (Qi vC) hb);have n7_:=zA.mk (zH (Qg vW wz wN GE232) hb);clear HO_7 ve vh vr vt vC HB;have HO_7:=n0_;have ve:=n1_;have HO239:=n2_;have vh:=n3_;have vr:=n4_;have vt:=n5_;have vC:=n6_;have HB:=n7_;clear n0_ n1_ n2_ n3_ n4_ n5_ n6_ n7_;(try clear hb ho0);refine hK.out _ _ ⟨(zR vr.out 0).trans rfl,(zR vr.out 1).trans rfl,(zR vt.out 0).trans rfl,(zR vt.out 1).trans rfl⟩ (fun hHeld=> ?_);clear hK K;refine yl (a':= ?_) ?_ ?_;rotate_left
                 ·show Act.put _ (some 50) _=_
                  simp only [Act.put,List.setIfInBounds_toArray,List.set_cons_zero,List.set_cons_succ,zx,zy]
                  rfl
                 refine yM (i:=7) (N:=some 43) (v:= ?_) (a':= ?_) #[true,true,true,true,true,true,true,true,false,false,false,false] rfl rfl (yD HT_.out (by kernel_rfl)) (fun _ _ _ h=>h) (Or.inl ⟨by rfl,?_⟩) ?_ ?_;rotate_left
                 ·intro w'
                  go_simp
                  with_reducible rfl
                 rotate_left
                 ·simp only [Act.put,List.setIfInBounds_toArray,List.set_cons_zero,List.set_cons_succ,zx,zy]
                  rfl
                 refine yM (i:=8) (N:=some 51) (v:= ?_) (a':= ?_) #[true,true,true,true,true,true,true,true,true,false,false,false] rfl rfl (yD HT_.out (by kernel_rfl)) (fun _ _ _ h=>h) (Or.inl ⟨by rfl,?_⟩) ?_ ?_;rotate_left
                 ·intro w'
                  go_simp
                  with_reducible rfl
                 rotate_left
                 ·simp only [Act.put,List.setIfInBounds_toArray,List.set_cons_zero,List.set_cons_succ,zx,zy]
                  rfl
                 refine yM (i:=9) (N:=some 52) (v:= ?_) (a':= ?_) #[true,true,true,true,true,true,true,true,true,true,false,false] rfl rfl (yD HT_.out (by kernel_rfl)) (fun _ _ _ h=>h) (Or.inl ⟨by rfl,?_⟩) ?_ ?_;rotate_left
                 ·intro w'
                  go_simp
                  with_reducible rfl
                 rotate_left
                 ·simp only [Act.put,List.setIfInBounds_toArray,List.set_cons_zero,List.set_cons_succ,zx,zy]
                  rfl
                 refine yM (i:=10) (N:=some 12) (v:= ?_) (a':= ?_) #[true,true,true,true,true,true,true,true,true,true,true,false] rfl rfl (yD HT_.out (by kernel_rfl)) (fun _ _ _ h=>h) (Or.inl ⟨by rfl,?_⟩) ?_ ?_;rotate_left
                 ·intro w'
                  go_simp
                  with_reducible rfl
                 rotate_left
                 ·simp only [Act.put,List.setIfInBounds_toArray,List.set_cons_zero,List.set_cons_succ,zx,zy]
                  rfl
                 refine yM (i:=11) (N:=some 13) (v:= ?_) (a':= ?_) #[true,true,true,true,true,true,true,true,true,true,true,true] rfl rfl (yD HT_.out (by kernel_rfl)) (fun _ _ _ h=>h) (Or.inl ⟨by rfl,?_⟩) ?_ ?_;rotate_left
                 ·intro w'
                  go_simp
                  with_reducible rfl
                 rotate_left
                 ·simp only [Act.put,List.setIfInBounds_toArray,List.set_cons_zero,List.set_cons_succ,zx,zy]
                  rfl
                 refine YR (Ze HT_.out (by kernel_rfl)) ?_;have hcz45_0:=Qn vC 0 rfl;have hcz45_1:w44.cell? ⟨vm,1,none⟩=some (.int .i64 ((zi ((zD l0_3 x29_1).f1) x36_2).f1)):=(zR vC.out 1).trans rfl;have hfz45_0:=zB vC.out 0;have hfz45_1:=zB vC.out 1;have hnb46:=NB230_223.out;have hnc46:=NB223_230.out;have hnb47:=NB230_228.out;have hnc47:=NB228_230.out;have hcz48_0:=Qn vt 0 rfl;have hcz48_1:=Qn vt 1 rfl;have hfz48_0:=zB vt.out 0;have hfz48_1:=zB vt.out 1;obtain ⟨Ao49,co49,eo49⟩:=Kd.R_slice HO239.out;subst eo49
                 try go_wp2_with (first|((with_reducible refine Zl (b:= .append) (xs:= #[.tmp 55, .tmp 62]) rfl ?_);at_builtin;refine Kd.S_append k66 (w0:=w) w.heap.size rfl (.tmp 55) (.tmp 62) 61 66 (.agg #[(.int .i64 0),(.int .i64 0),(.slice none 0 0)]) 40 rfl Try.underlying61 info66 rfl (by decide) (by omega) u7 x7_2 (⟨(zi ((zD l0_3 x29_1).f1) x36_2).f1,((zD l0_3 x29_1).f0),t237⟩:S66) [.int .i64 ((zi ((zD l0_3 x29_1).f1) x36_2).f1), .int .i64 ((zD l0_3 x29_1).f0), .slice Ao49 t237.length co49] (fun _=>True) (fun k_=>some k_=(.slice Ao49 t237.length co49:Value).ownBlock) rfl rfl ?aP (fun k_ hk_=>((Kd.R_mono (ok':=fun k_=>((fun _=>True)) k_∧some k_≠(u7:Value).ownBlock) (Kd.R_apart' (HO239.out) (Kd.S_typed HO_7.out) (by decide)) (fun k_ hk=>⟨trivial,hk.2⟩))).1 k_ hk_.symm) ?aF ?aO ?aB ?aS ?aL ?_;(case aP=>exact k66_mkM _ _ _ (⟨(zi ((zD l0_3 x29_1).f1) x36_2).f1,((zD l0_3 x29_1).f0),t237⟩:S66) (Kd.R_mono (Kd.R_tight rfl (Kd.R_mono (ok':=fun k_=>((fun _=>True)) k_∧some k_≠(u7:Value).ownBlock) (Kd.R_apart' (HO239.out) (Kd.S_typed HO_7.out) (by decide)) (fun k_ hk=>⟨trivial,hk.2⟩))) (fun _ h_=>h_)));(case aB=>exact (Qg vW wz wN GE232));(case aF=>exact (fun _ _=>trivial));(case aO=>exact (by (with_reducible repeat (first|apply Kd.S_alloc|apply Kd.S_drewN|apply Kd.S_drew));exact Kd.S_mono HO_7.out (fun k_ hk=>⟨trivial,fun e_=>hk.2 e_⟩)));(case aS=>exact (zE (Qg vW wz wN GE232)));(case aL=>have:=LMc35.out;omega);intro v242 w50 ho hb hg hat;rw [←Ny241.out] at ho;have n0_:=zA.mk (Kd.S_over' (Qj ve) (Kd.S_typed (Qj HO_7)) (by decide) hg);have n1_:=zA.mk (yy (g:=vS) (Qi vh) hg (Kd.S_ne HO_7.out vh.out (by decide)));have n2_:=zA.mk (yy (g:=vU) (Qi vr) hg (Kd.S_ne HO_7.out vr.out (by decide)));have n3_:=zA.mk (yy (g:=vX) (Qi vt) hg (Kd.S_ne HO_7.out vt.out (by decide)));have n4_:=zA.mk (yy (g:=vm) (o:= .cells #[.bool false, .int .i64 ((zi ((zD l0_3 x29_1).f1) x36_2).f1)] 51 (0,0)) (Qi vC) hg (Kd.S_ne HO_7.out vC.out (by decide)));have n5_:=zA.mk (hb);have n6_:=zA.mk (ho);clear ve vh vr vt vC HB HO_7 HO239;have ve:=n0_;have vh:=n1_;have vr:=n2_;have vt:=n3_;have vC:=n4_;have HB:=n5_;have HO243:=n6_;clear n0_ n1_ n2_ n3_ n4_ n5_ n6_ ho hb hg hat))
                 go_roundg k2
                 case measure=>have:=HK1.out;have:=HK2.out;omega
                 case rel=>exact ⟨(y241),(ji30),(by first|rfl|(simp;done)|(simp only [←hji30] <;> (first|rfl|simp))|(simp [*];done)),H',⟨by have:=HK1.out;have:=HK2.out;omega⟩,⟨Qj HO243⟩,⟨by (with_reducible repeat (first|apply Kd.S_alloc|apply Kd.S_drewN|apply Kd.S_drew));exact Kd.S_mono ve.out (fun _ hk=>trivial)⟩,⟨Qi vh⟩,⟨Qi vr⟩,⟨Qi vt⟩,⟨by repeat (first|(with_reducible first|exact HB.out|apply zG|apply zC|apply zF|refine zK ?_ vW.out|refine zK ?_ wz.out|refine zK ?_ wN.out|refine zK ?_ GE232.out)|exact HB.out)⟩⟩
                ·rw [if_neg c35] at H
                 exact absurd H (by simp)
               ·replace c34:=Bool.eq_false_iff.mpr c34
                subst c34
                have H1:(some (([]:List (S66)),15))=some (r1,r2):=by rw [if_neg (show ¬(false=true) by decide)] at H;exact H
                clear H;have H:=H1;clear H1;simp only [Option.some.injEq,Prod.mk.injEq] at H;obtain ⟨rfl,rfl⟩:=H;have p231:0≤(x36_2:Int):=Qa;have q231:x36_2 < (((zD l0_3 x29_1).f1).length:Int):=Qa;obtain ⟨ad231,e231,hx231_0,hx231_1⟩:=ZF HR229_1.out x36_2 p231 q231
                (try rw [←Nbq23.out] at hx231_0)
                cases e231;replace hx231_0:=(HB.out.cell (ZzA w _ hx231_0)).trans hx231_0;replace hx231_1:=(HB.out.cell (ZzA w _ hx231_1)).trans hx231_1;replace p231:=eq_true p231;replace q231:=eq_true q231
                try go_wp2_with (first|((with_reducible refine yB (N:=11) rfl ?_);refine yH ?hg (N:=11) ?hd (cs:= #[.bool false, .int .i64 0]) (t:=51) ?hr ?_;(case hd=>rfl);(case hg=>rfl);(case hr=>exact Qm);intro vm hg w51 hbox hb;have n0_:=zA.mk (Kd.S_below (Qj HO_7) hb);have n1_:=zA.mk (Kd.S_below (Qj ve) hb);have n2_:=zA.mk (ze (g:=vS) (Qi vh) hb);have n3_:=zA.mk (ze (g:=vU) (Qi vr) hb);have n4_:=zA.mk (ze (g:=vX) (Qi vt) hb);have n5_:=zA.mk (zH (Qf vW wz wN) hb);have n6_:=zA.mk (hbox);have n7_:=zA.mk ((by rw [hg];exact (zE (Qf vW wz wN)):w.heap.size≤vm));have n8_:=zA.mk ((by rw [hg];exact (zE (Qf vW wz wN)):w.heap.size≤vm));have n9_:=zA.mk ((by rw [hg];exact Nat.ne_of_lt (yG (g:=vS) (Qi vh)):vS≠vm));have n10_:=zA.mk ((by rw [hg];exact Nat.ne_of_gt (yG (g:=vS) (Qi vh)):vm≠vS));have n11_:=zA.mk ((by rw [hg];exact Nat.ne_of_lt (yG (g:=vU) (Qi vr)):vU≠vm));have n12_:=zA.mk ((by rw [hg];exact Nat.ne_of_gt (yG (g:=vU) (Qi vr)):vm≠vU));have n13_:=zA.mk ((by rw [hg];exact Nat.ne_of_lt (yG (g:=vX) (Qi vt)):vX≠vm));have n14_:=zA.mk ((by rw [hg];exact Nat.ne_of_gt (yG (g:=vX) (Qi vt)):vm≠vX));clear HO_7 ve vh vr vt HB;have HO_7:=n0_;have ve:=n1_;have vh:=n2_;have vr:=n3_;have vt:=n4_;have HB:=n5_;have vC:=n6_;have GW232:=n7_;have GE232:=n8_;have NB223_232:=n9_;have NB232_223:=n10_;have NB228_232:=n11_;have NB232_228:=n12_;have NB230_232:=n13_;have NB232_230:=n14_;clear n0_ n1_ n2_ n3_ n4_ n5_ n6_ n7_ n8_ n9_ n10_ n11_ n12_ n13_ n14_ hb hbox hg;have hnb52:=NB232_223.out;have hnc52:=NB223_232.out;have hnb53:=NB232_228.out;have hnc53:=NB228_232.out;have hnb54:=NB232_230.out;have hnc54:=NB230_232.out;have hcz55_0:=Qn vC 0 rfl;have hcz55_1:=Qn vC 1 rfl;have hfz55_0:=zB vC.out 0;have hfz55_1:=zB vC.out 1))
                have n0_:zA (Kd.S k66 66 ((w51.setCell ⟨vm,0,none⟩ (.bool false)).setCell ⟨vm,1,none⟩ (.int .i64 ((zi ((zD l0_3 x29_1).f1) x36_2).f1))) w.heap.size (fun _=>True) u7 x7_2):=⟨by (with_reducible repeat (first|apply Kd.S_alloc|apply Kd.S_drewN|apply Kd.S_drew));exact Kd.S_mono (Kd.S_far (p:=⟨vm,1,none⟩) (Kd.S_far (p:=⟨vm,0,none⟩) (Kd.S_types HO_7.out vC.out (by decide)) (fun _ hk=>hk.2) (.bool false)) (fun _ hk=>hk.2) (.int .i64 ((zi ((zD l0_3 x29_1).f1) x36_2).f1))) (fun _ hk=>trivial)⟩;have n1_:zA (Kd.S (Kd.slice 9 Kd.string) 32 ((w51.setCell ⟨vm,0,none⟩ (.bool false)).setCell ⟨vm,1,none⟩ (.int .i64 ((zi ((zD l0_3 x29_1).f1) x36_2).f1))) w.heap.size (fun _=>True) (.slice Ao8 wG.length co8) wG):=⟨by (with_reducible repeat (first|apply Kd.S_alloc|apply Kd.S_drewN|apply Kd.S_drew));exact Kd.S_mono (Kd.S_far (p:=⟨vm,1,none⟩) (Kd.S_far (p:=⟨vm,0,none⟩) (Kd.S_types ve.out vC.out (by decide)) (fun _ hk=>hk.2) (.bool false)) (fun _ hk=>hk.2) (.int .i64 ((zi ((zD l0_3 x29_1).f1) x36_2).f1))) (fun _ hk=>trivial)⟩;have n2_:zA (((w51.setCell ⟨vm,0,none⟩ (.bool false)).setCell ⟨vm,1,none⟩ (.int .i64 ((zi ((zD l0_3 x29_1).f1) x36_2).f1))).heap[vS]? =some (.cells #[.int .i64 a0_0, .int .i64 a0_1, .slice vi l0_2.length vk, .slice (some ad229) l0_3.length vl] 25 (0,0))):=⟨by (with_reducible repeat (first|refine zO ?_ _|refine zQ ?_|refine zM ?_ _));refine yJ ?_ NB223_232.out _;(with_reducible repeat (first|refine zO ?_ _|refine zQ ?_|refine zM ?_ _));refine yJ ?_ NB223_232.out _;(with_reducible repeat (first|refine zO ?_ _|refine zQ ?_|refine zM ?_ _));exact vh.out⟩;have n3_:zA (((w51.setCell ⟨vm,0,none⟩ (.bool false)).setCell ⟨vm,1,none⟩ (.int .i64 ((zi ((zD l0_3 x29_1).f1) x36_2).f1))).heap[vU]? =some (.cells #[.int .i64 a0_1, .slice Ao8 wG.length co8] 89 (0,0))):=⟨by (with_reducible repeat (first|refine zO ?_ _|refine zQ ?_|refine zM ?_ _));refine yJ ?_ NB228_232.out _;(with_reducible repeat (first|refine zO ?_ _|refine zQ ?_|refine zM ?_ _));refine yJ ?_ NB228_232.out _;(with_reducible repeat (first|refine zO ?_ _|refine zQ ?_|refine zM ?_ _));exact vr.out⟩;have n4_:zA (((w51.setCell ⟨vm,0,none⟩ (.bool false)).setCell ⟨vm,1,none⟩ (.int .i64 ((zi ((zD l0_3 x29_1).f1) x36_2).f1))).heap[vX]? =some (.cells #[.int .i64 ((zD l0_3 x29_1).f0), .slice (some ad231) ((zD l0_3 x29_1).f1).length wJ] 45 (0,0))):=⟨by (with_reducible repeat (first|refine zO ?_ _|refine zQ ?_|refine zM ?_ _));refine yJ ?_ NB230_232.out _;(with_reducible repeat (first|refine zO ?_ _|refine zQ ?_|refine zM ?_ _));refine yJ ?_ NB230_232.out _;(with_reducible repeat (first|refine zO ?_ _|refine zQ ?_|refine zM ?_ _));exact vt.out⟩;have n5_:zA (((w51.setCell ⟨vm,0,none⟩ (.bool false)).setCell ⟨vm,1,none⟩ (.int .i64 ((zi ((zD l0_3 x29_1).f1) x36_2).f1))).heap[vm]? =some (.cells #[.bool false, .int .i64 ((zi ((zD l0_3 x29_1).f1) x36_2).f1)] 51 (0,0))):=⟨by (with_reducible repeat (first|refine zO ?_ _|refine zQ ?_|refine zM ?_ _));refine yU (cs:= #[.bool false, .int .i64 0]) ?_ 1 _ rfl;(with_reducible repeat (first|refine zO ?_ _|refine zQ ?_|refine zM ?_ _));refine yU (cs:= #[.bool false, .int .i64 0]) ?_ 0 _ rfl;(with_reducible repeat (first|refine zO ?_ _|refine zQ ?_|refine zM ?_ _));exact vC.out⟩;have n6_:zA (Below w.heap.size w ((w51.setCell ⟨vm,0,none⟩ (.bool false)).setCell ⟨vm,1,none⟩ (.int .i64 ((zi ((zD l0_3 x29_1).f1) x36_2).f1)))):=⟨by repeat (first|(with_reducible first|exact HB.out|apply zG|apply zC|apply zF|refine zK ?_ vW.out|refine zK ?_ wz.out|refine zK ?_ wN.out|refine zK ?_ GE232.out)|exact HB.out)⟩;(try clear HO_7);(try clear ve);(try clear vh);(try clear vr);(try clear vt);(try clear vC);(try clear HB)
                generalize ((w51.setCell ⟨vm,0,none⟩ (.bool false)).setCell ⟨vm,1,none⟩ (.int .i64 ((zi ((zD l0_3 x29_1).f1) x36_2).f1)))=w56 at n0_ n1_ n2_ n3_ n4_ n5_ n6_⊢
                have HO_7:=n0_;have ve:=n1_;have vh:=n2_;have vr:=n3_;have vt:=n4_;have vC:=n5_;have HB:=n6_;clear n0_ n1_ n2_ n3_ n4_ n5_ n6_;have n0_:=zA.mk (Kd.S_drew HO_7.out);have n1_:=zA.mk (Kd.S_drew ve.out);have n2_:=zA.mk (zQ vh.out);have n3_:=zA.mk (zQ vr.out);have n4_:=zA.mk (zQ vt.out);have n5_:=zA.mk (zQ vC.out);have n6_:=zA.mk (zF HB.out);clear HO_7 ve vh vr vt vC HB;have HO_7:=n0_;have ve:=n1_;have vh:=n2_;have vr:=n3_;have vt:=n4_;have vC:=n5_;have HB:=n6_;clear n0_ n1_ n2_ n3_ n4_ n5_ n6_;have q58:((ji30):Int)≤((((zD l0_3 x29_1).f1).length:Int):Int):=Qa;obtain ⟨i058,hi058,_,hsz58,_⟩:=info_parts info51;have hroom58:((zD l0_3 x29_1).f1).length≤wJ:=HC229_1.out;have hC58:Kd.C k51 _ (some ad231) ((zD l0_3 x29_1).f1).length ((zD l0_3 x29_1).f1):=HR229_1.out;have q058:(0:Int)≤((ji30):Int):=Qa;have hcut58:=cut_from (P:=Try.prog) 43 51 .i64 Try.underlying43 hi058 2 hsz58 (some ad231) ((zD l0_3 x29_1).f1).length wJ (ji30) q058 q58;have hr58:=Kd.C_drop (m:=((ji30):Int).toNat) (c:=wJ) hC58 (by omega) hroom58;obtain ⟨A58,hA58⟩:∃A1,A1=(if wJ=((ji30):Int).toNat then (some ad231) else ((some ad231):Option Addr).map (·.add (((ji30):Int).toNat * 2))):=⟨_,rfl⟩;obtain ⟨c58,hc58⟩:∃c1,c1=wJ - ((ji30):Int).toNat:=⟨_,rfl⟩
                have hy58:y233.length=((zD l0_3 x29_1).f1).length - ((ji30):Int).toNat:=(by rw [Ny233.out,List.length_drop] <;> omega)
                rw [show (((zD l0_3 x29_1).f1)).drop ((ji30):Int).toNat=y233 from Ny233.out.symm] at hr58;replace hr58:Kd.C k51 _ A58 y233.length y233:=(by rw [hA58];exact hr58);rw [←hy58,←hA58,←hc58] at hcut58;have HR236:=zA.mk hr58;have HC236:=zA.mk (show y233.length≤c58 from by rw [hy58,hc58];exact Nat.sub_le_sub_right hroom58 _);clear hr58 hC58 hroom58 hi058 hsz58 hc58;have KY58:=zA.mk hy58;have KA58:=zA.mk hA58;clear hy58 hA58;replace q58:=eq_true q58;refine Zr (n:=12) (S:=fun w'=>w'.cell? ⟨vU,0,none⟩=some (.int .i64 a0_1)∧w'.cell? ⟨vU,1,none⟩=some (.slice Ao8 wG.length co8)∧w'.cell? ⟨vX,0,none⟩=some (.int .i64 ((zD l0_3 x29_1).f0))∧w'.cell? ⟨vX,1,none⟩=some (.slice (some ad231) ((zD l0_3 x29_1).f1).length wJ)) (ds:= []) #[false,false,false,false,false,false,false,false,false,false,false,false] (by kernel_rfl) rfl rfl ⟨(zR vr.out 0).trans rfl,(zR vr.out 1).trans rfl,(zR vt.out 0).trans rfl,(zR vt.out 1).trans rfl⟩ (fun hHeld=> ?_);refine ZJ zv.tab13 zv.bits13 (fun HT_ HW_=> ?_)
                generalize w56.drew=w57 at HO_7 ve vh vr vt vC HB HR236 hHeld⊢
                refine yM (i:=1) (N:=some 45) (v:= ?_) (a':= ?_) #[false,true,false,false,false,false,false,false,false,false,false,false] rfl rfl (yD HT_.out (by kernel_rfl)) (fun _ _ _ h=>h) (Or.inl ⟨by rfl,?_⟩) ?_ ?_;rotate_left
                ·intro w'
                 go_simp
                 with_reducible rfl
                rotate_left
                ·simp only [Act.put,List.setIfInBounds_toArray,List.set_cons_zero,List.set_cons_succ,zx,zy]
                 rfl
                refine yM (i:=3) (N:=some 47) (v:= ?_) (a':= ?_) #[false,true,false,true,false,false,false,false,false,false,false,false] rfl rfl (yD HT_.out (by kernel_rfl)) (fun _ _ _ h=>h) (Or.inl ⟨by rfl,?_⟩) ?_ ?_;rotate_left
                ·intro w'
                 go_simp
                 with_reducible rfl
                rotate_left
                ·simp only [Act.put,List.setIfInBounds_toArray,List.set_cons_zero,List.set_cons_succ,zx,zy]
                 rfl
                refine yM (i:=4) (N:=some 48) (v:= ?_) (a':= ?_) #[false,true,false,true,true,false,false,false,false,false,false,false] rfl rfl (yD HT_.out (by kernel_rfl)) (fun _ _ _ h=>h) (Or.inl ⟨by rfl,?_⟩) ?_ ?_;rotate_left
                ·intro w'
                 go_simp
                 with_reducible rfl
                rotate_left
                ·simp only [Act.put,List.setIfInBounds_toArray,List.set_cons_zero,List.set_cons_succ,zx,zy]
                 rfl
                refine take_ (i:=0) (N:=some 44) (v:= ?_) (a':= ?_) #[true,true,false,true,true,false,false,false,false,false,false,false] rfl rfl (yb HT_.out HW_.out (by kernel_rfl)) (fun _ _ _ h=>h) (Or.inl ⟨by rfl,?_⟩) hHeld ?_ ?_;rotate_left
                ·rintro w' ⟨s0,s1,s2,s3⟩
                 go_simp
                 with_reducible rfl
                rotate_left
                ·simp only [Act.put,List.setIfInBounds_toArray,List.set_cons_zero,List.set_cons_succ,zx,zy]
                 rfl
                refine take_ (i:=2) (N:=some 46) (v:= ?_) (a':= ?_) #[true,true,true,true,true,false,false,false,false,false,false,false] rfl rfl (yb HT_.out HW_.out (by kernel_rfl)) (fun _ _ _ h=>h) (Or.inl ⟨by rfl,?_⟩) hHeld ?_ ?_;rotate_left
                ·rintro w' ⟨s0,s1,s2,s3⟩
                 go_simp
                 with_reducible rfl
                rotate_left
                ·simp only [Act.put,List.setIfInBounds_toArray,List.set_cons_zero,List.set_cons_succ,zx,zy]
                 rfl
                refine yM (i:=5) (N:=some 49) (v:= ?_) (a':= ?_) #[true,true,true,true,true,true,false,false,false,false,false,false] rfl rfl (yD HT_.out (by kernel_rfl)) (fun _ _ _ h=>h) (Or.inl ⟨by rfl,?_⟩) ?_ ?_;rotate_left
                ·intro w'
                 go_simp
                 with_reducible rfl
                rotate_left
                ·simp only [Act.put,List.setIfInBounds_toArray,List.set_cons_zero,List.set_cons_succ,zx,zy]
                 rfl
                refine one_ (i:=6) (N:=some 50) #[true,true,true,true,true,true,true,false,false,false,false,false] rfl rfl (ym HT_.out (by kernel_rfl)) (by decide) (fun K hK=> ?_);refine Yo Try.func48 (by kernel_rfl) rfl #[.agg #[.int .i64 a0_1, .slice Ao8 wG.length co8], .slice A58 y233.length c58] (by rfl) rfl rfl QX ?_
                with_reducible refine (zo.calls k2 a0_1 _ _ wG _ _ y233 t237 false _ ?side1 ?side2 ?side3 ?side4 A33.out).mono ?_
                (case side1=>repeat (first|exact (Kd.S_reads' ve.out).2.2|(with_reducible refine Kd.C_alloc ?_ _)|(with_reducible refine Kd.C_drewN ?_ _)|(with_reducible refine Kd.C_drew ?_)))
                (case side2=>exact (Kd.S_reads' ve.out).2.1)
                (case side3=>exact Qo (Kd.C_below HR236.out HB.out))
                (case side4=>exact HC236.out)
                rintro e w59 ⟨v238,rfl,ho0,hb⟩;refine ⟨_,rfl,?_⟩;have n0_:=zA.mk (Kd.S_elder' (Qj HO_7) (Kd.R_base ho0) hb);have n1_:=zA.mk (Kd.S_elder' (Qj ve) (Kd.R_base ho0) hb);have n2_:=zA.mk (Kd.R_lower ho0 (zE (Qg vW wz wN GE232)));have n3_:=zA.mk (ze (g:=vS) (Qi vh) hb);have n4_:=zA.mk (ze (g:=vU) (Qi vr) hb);have n5_:=zA.mk (ze (g:=vX) (Qi vt) hb);have n6_:=zA.mk (ze (g:=vm) (o:= .cells #[.bool false, .int .i64 ((zi ((zD l0_3 x29_1).f1) x36_2).f1)] 51 (0,0)) (Qi vC) hb);have n7_:=zA.mk (zH (Qg vW wz wN GE232) hb);clear HO_7 ve vh vr vt vC HB;have HO_7:=n0_;have ve:=n1_;have HO239:=n2_;have vh:=n3_;have vr:=n4_;have vt:=n5_;have vC:=n6_;have HB:=n7_;clear n0_ n1_ n2_ n3_ n4_ n5_ n6_ n7_;(try clear hb ho0);refine hK.out _ _ ⟨(zR vr.out 0).trans rfl,(zR vr.out 1).trans rfl,(zR vt.out 0).trans rfl,(zR vt.out 1).trans rfl⟩ (fun hHeld=> ?_);clear hK K;refine yl (a':= ?_) ?_ ?_;rotate_left
                ·show Act.put _ (some 50) _=_
                 simp only [Act.put,List.setIfInBounds_toArray,List.set_cons_zero,List.set_cons_succ,zx,zy]
                 rfl
                refine yM (i:=7) (N:=some 43) (v:= ?_) (a':= ?_) #[true,true,true,true,true,true,true,true,false,false,false,false] rfl rfl (yD HT_.out (by kernel_rfl)) (fun _ _ _ h=>h) (Or.inl ⟨by rfl,?_⟩) ?_ ?_;rotate_left
                ·intro w'
                 go_simp
                 with_reducible rfl
                rotate_left
                ·simp only [Act.put,List.setIfInBounds_toArray,List.set_cons_zero,List.set_cons_succ,zx,zy]
                 rfl
                refine yM (i:=8) (N:=some 51) (v:= ?_) (a':= ?_) #[true,true,true,true,true,true,true,true,true,false,false,false] rfl rfl (yD HT_.out (by kernel_rfl)) (fun _ _ _ h=>h) (Or.inl ⟨by rfl,?_⟩) ?_ ?_;rotate_left
                ·intro w'
                 go_simp
                 with_reducible rfl
                rotate_left
                ·simp only [Act.put,List.setIfInBounds_toArray,List.set_cons_zero,List.set_cons_succ,zx,zy]
                 rfl
                refine yM (i:=9) (N:=some 52) (v:= ?_) (a':= ?_) #[true,true,true,true,true,true,true,true,true,true,false,false] rfl rfl (yD HT_.out (by kernel_rfl)) (fun _ _ _ h=>h) (Or.inl ⟨by rfl,?_⟩) ?_ ?_;rotate_left
                ·intro w'
                 go_simp
                 with_reducible rfl
                rotate_left
                ·simp only [Act.put,List.setIfInBounds_toArray,List.set_cons_zero,List.set_cons_succ,zx,zy]
                 rfl
                refine yM (i:=10) (N:=some 12) (v:= ?_) (a':= ?_) #[true,true,true,true,true,true,true,true,true,true,true,false] rfl rfl (yD HT_.out (by kernel_rfl)) (fun _ _ _ h=>h) (Or.inl ⟨by rfl,?_⟩) ?_ ?_;rotate_left
                ·intro w'
                 go_simp
                 with_reducible rfl
                rotate_left
                ·simp only [Act.put,List.setIfInBounds_toArray,List.set_cons_zero,List.set_cons_succ,zx,zy]
                 rfl
                refine yM (i:=11) (N:=some 13) (v:= ?_) (a':= ?_) #[true,true,true,true,true,true,true,true,true,true,true,true] rfl rfl (yD HT_.out (by kernel_rfl)) (fun _ _ _ h=>h) (Or.inl ⟨by rfl,?_⟩) ?_ ?_;rotate_left
                ·intro w'
                 go_simp
                 with_reducible rfl
                rotate_left
                ·simp only [Act.put,List.setIfInBounds_toArray,List.set_cons_zero,List.set_cons_succ,zx,zy]
                 rfl
                refine YR (Ze HT_.out (by kernel_rfl)) ?_
                try go_wp2
                go_ret2
                exact ⟨_,by first|rfl|(simp [zS,zT] <;> rfl)|(simp only [←hji30];first|rfl|(simp [zS,zT] <;> rfl))|(simp [*,zS,zT] <;> rfl),by first|exact Kd.S_nil _ _ _ _ _|exact Kd.N_nil _ _ _ _ _|exact Kd.V_nil _ _ _ _ _|exact Kd.Q_nil _ _ _ _ _|exact Kd.R_nil _ _ _ _ _,by repeat (first|(with_reducible first|exact HB.out|apply zG|apply zC|apply zF|refine zK ?_ vW.out|refine zK ?_ wz.out|refine zK ?_ wN.out|refine zK ?_ GE232.out)|exact HB.out)⟩
              ·rw [if_neg c32] at H
               exact absurd H (by simp)
             ·rw [if_neg c31] at H
              exact absurd H (by simp)
           ·rw [if_neg c22] at H
            exact absurd H (by simp)
          ·rw [if_neg c21] at H
           exact absurd H (by simp)
         ·rw [if_neg c20] at H
          have c20b0:=decide_eq_false c20;clear c20;have H':=zA.mk H;clear H
          go_wp2
          go_roundg k2
          case measure=>have:=HK1.out;have:=HK2.out;omega
          case rel=>exact ⟨(x7_2),(wrap64 (x29_1 + 1)),Zb,H',⟨by have:=HK1.out;have:=HK2.out;omega⟩,⟨Qj HO_7⟩,⟨Qj ve⟩,⟨Qi vh⟩,⟨Qi vr⟩,⟨by repeat (first|(with_reducible first|exact HB.out|apply zG|apply zC|apply zF|refine zK ?_ vW.out|refine zK ?_ wz.out|refine zK ?_ wN.out)|exact HB.out)⟩⟩
      ·rw [if_neg c15] at H
       exact absurd H (by simp)
     ·rw [if_neg c14] at H
      exact absurd H (by simp)
    ·rw [if_neg c13] at H
     have c13b0:=decide_eq_false c13;clear c13;simp only [Option.some.injEq,Prod.mk.injEq] at H;obtain ⟨rfl,rfl⟩:=H
     go_wp2
     go_ret2
     exact ⟨_,by first|rfl|(simp [zS,zT] <;> rfl)|(simp [*,zS,zT] <;> rfl),by (with_reducible repeat (first|apply Kd.S_alloc|apply Kd.S_drewN|apply Kd.S_drew));exact HO_7.out,by repeat (first|(with_reducible first|exact HB.out|apply zG|apply zC|apply zF|refine zK ?_ vW.out|refine zK ?_ wz.out)|exact HB.out)⟩
 ·rw [if_neg c3] at H
  have c3b0:(t227 == 0)=false:=beq_eq_false_iff_ne.mpr c3;have c3b1:(t227 != 0)=true:=bne_iff_ne.mpr c3;simp only [Option.some.injEq,Prod.mk.injEq] at H;obtain ⟨rfl,rfl⟩:=H
  go_enter Try.func30,Try.ntmps30
  go_wp2_with (first|((with_reducible refine yB (N:=1) rfl ?_);refine yH ?hg (N:=1) ?hd (cs:= #[.int .i64 a0_0, .int .i64 a0_1, .slice vi l0_2.length vk, .slice vp l0_3.length vl]) (t:=25) ?hr ?_;(case hd=>rfl);(case hg=>rfl);(case hr=>exact Qm);intro vS hg w60 hbox hb;have n0_:=zA.mk (zH Qc hb);have n1_:=zA.mk (hbox);have n2_:=zA.mk ((by rw [hg];exact (zE Qc):w.heap.size≤vS));have n3_:=zA.mk ((by rw [hg];exact (zE Qc):w.heap.size≤vS));clear HB;have HB:=n0_;have vh:=n1_;have GW223:=n2_;have vW:=n3_;clear n0_ n1_ n2_ n3_ hb hbox hg;have hcz61_0:=Qn vh 0 rfl;have hcz61_1:=Qn vh 1 rfl;have hcz61_2:=Qn vh 2 rfl;have hcz61_3:=Qn vh 3 rfl;have hfz61_0:=zB vh.out 0;have hfz61_1:=zB vh.out 1;have hfz61_2:=zB vh.out 2;have hfz61_3:=zB vh.out 3)|((with_reducible refine zk (f:=16) rfl ?_);refine yQ (some 16) rfl rfl Try.func16 (by kernel_rfl) rfl #[.agg #[.int .i64 a0_0, .int .i64 a0_1, .slice vi l0_2.length vk, .slice vp l0_3.length vl]] rfl QX ?_;(with_reducible refine (zd.calls k a0_0 a0_1 _ _ l0_2 _ _ l0_3 wG t227 _ ?side1 ?side2 ?side3 ?side4 A2.out).mono ?_);(case side1=>exact Qo (Kd.C_below wb.out HB.out));(case side2=>exact wd.out);(case side3=>exact Qo (Kd.C_below vw.out HB.out));(case side4=>exact wg.out);rintro e w62 ⟨v225,rfl,ho0,hb⟩;refine ⟨_,rfl,?_⟩;have n2_:=zA.mk (zH (Qd vW) hb);clear HB;have HB:=n2_;clear n2_;(try clear hb ho0)))
  go_ret2
  exact ⟨_,by first|rfl|(simp [zS,zT] <;> rfl)|(simp [*,zS,zT] <;> rfl),by first|exact Kd.S_nil _ _ _ _ _|exact Kd.N_nil _ _ _ _ _|exact Kd.V_nil _ _ _ _ _|exact Kd.Q_nil _ _ _ _ _|exact Kd.R_nil _ _ _ _ _,by repeat (first|(with_reducible first|exact HB.out|apply zG|apply zC|apply zF|refine zK ?_ vW.out)|exact HB.out)⟩
def strings_Repeat.f (a0:ByteArray) (a1:Int):Option ByteArray:=if 0≤a1∧a1≤1000000000∧a0.size≤100000 then some ⟨(Lib.repeatL a0.data.toList a1.toNat).toArray⟩ else none
theorem strings_Repeat.calls (a0:ByteArray) (a1:Int) (r:ByteArray) (w:World) (h:strings_Repeat.f a0 a1=some r) :
  Calls Try.prog 31 #[.string a0, .int .i64 a1] w fun e w'=>e= .returned (.string r)∧Below w.heap.size w w':=by
 unfold strings_Repeat.f at h
 split at h
 case isFalse=>cases h
 rename_i hb
 obtain rfl:=Option.some.inj h;obtain ⟨c,rfl⟩:∃c:Nat,a1=c:=⟨a1.toNat,by omega⟩;rw [Int.toNat_natCast];have hm:a0.size * c≤100000 * 1000000000:=Nat.mul_le_mul hb.2.2 (by omega)
 exact Try.strings_Repeat a0 c w (by omega) (by omega)
end Go.Proofs.Ytlanhkekjhlmjaa.HGuessWords
