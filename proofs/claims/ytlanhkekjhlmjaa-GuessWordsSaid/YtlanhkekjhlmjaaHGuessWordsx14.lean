-- Written by plus.py for this claim.
import Derived.Test.YtlanhkekjhlmjaaSGuessWordsVZip
import Derived.Test.YtlanhkekjhlmjaaHGuessWordsx0
namespace Go.Proofs.Ytlanhkekjhlmjaa.HGuessWords
open Go.RowKit Go.Proofs.YtlanhkekjhlmjaaW.PrintWords Go.Proofs.YtlanhkekjhlmjaaW.PrintLast Go.Proofs.YtlanhkekjhlmjaaW.PrintMore
attribute [local go_sem] yq yr ZM ZN yj yk yt yu   -- for this text's walks alone
set_option linter.unusedVariables false
set_option linter.unusedSimpArgs false
mutual
def zI.j0:Nat→Bool→Int→Int→List Int→List (S45)→Option (Int)
 | 0,_,_,_,_,_=>none
 | k + 1,x39,ws,wi,wj,vI=>if x39=true then (some 8) else (zI.l0 k 0 ws wi wj vI)
def zI.l0:Nat→Int→Int→Int→List Int→List (S45)→Option (Int)
 | 0,_,_,_,_,_=>none
 | k + 1,x3,ws,wi,wj,vI=>if x3 < (vI.length:Int) then (if 0≤x3 then (if (((zD vI x3).f1).length:Int) > 500 then (some 8) else (zI.l0 k (wrap64 (x3 + 1)) ws wi wj vI)) else (none)) else (if wi < 1 then (zI.j2 k true ws wi wj vI) else (zI.j2 k (decide (wi > 4)) ws wi wj vI))
def zI.j2:Nat→Bool→Int→Int→List Int→List (S45)→Option (Int)
 | 0,_,_,_,_,_=>none
 | k + 1,x62,ws,wi,wj,vI=>if x62=true then (some 11) else (zI.l1 k 0 ws wi wj vI)
def zI.l1:Nat→Int→Int→Int→List Int→List (S45)→Option (Int)
 | 0,_,_,_,_,_=>none
 | k + 1,x4,ws,wi,wj,vI=>if x4 < (vI.length:Int) then (if 0≤x4 then (if ((zD vI x4).f0) < 0 then (zI.j4 k x4 true ws wi wj vI ((zD vI x4).f0) ((zD vI x4).f1)) else (zI.j4 k x4 (decide (((zD vI x4).f0)≥(wj.length:Int))) ws wi wj vI ((zD vI x4).f0) ((zD vI x4).f1))) else (none)) else (some 0)
def zI.j4:Nat→Int→Bool→Int→Int→List Int→List (S45)→Int→List (S51)→Option (Int)
 | 0,_,_,_,_,_,_,_,_=>none
 | k + 1,x4,x85,ws,wi,wj,vI,x365000,x365001=>if x85=true then (some 4) else (zI.l2 k x4 0 ws wi wj vI x365000 x365001)
def zI.l2:Nat→Int→Int→Int→Int→List Int→List (S45)→Int→List (S51)→Option (Int)
 | 0,_,_,_,_,_,_,_,_=>none
 | k + 1,x4,x6,ws,wi,wj,vI,x365000,x365001=>if x6 < (x365001.length:Int) then (if 0≤x6 then (if (zi x365001 x6).f0=true then (if ((zi x365001 x6).f1) < 1 then (some 4) else (if ((zi x365001 x6).f1) > ws then (some 4) else (zI.l2 k x4 (wrap64 (x6 + 1)) ws wi wj vI x365000 x365001))) else (if ((zi x365001 x6).f1) < 0 then (some 4) else (if ((zi x365001 x6).f1)≥(wj.length:Int) then (some 4) else (zI.l2 k x4 (wrap64 (x6 + 1)) ws wi wj vI x365000 x365001)))) else (none)) else (zI.l1 k (wrap64 (x4 + 1)) ws wi wj vI)
end
def zI.f (k:Nat) (a0_0:Int) (a0_1:Int) (l0_2:List Int) (l0_3:List (S45)):Option (Int):=if a0_0 < 1 then (zI.j0 k true a0_0 a0_1 l0_2 l0_3) else (if a0_0 > 60 then (zI.j0 k true a0_0 a0_1 l0_2 l0_3) else (if (l0_2.length:Int) < 1 then (zI.j0 k true a0_0 a0_1 l0_2 l0_3) else (if (l0_2.length:Int) > 500 then (zI.j0 k true a0_0 a0_1 l0_2 l0_3) else (if (l0_3.length:Int) < 1 then (zI.j0 k true a0_0 a0_1 l0_2 l0_3) else (zI.j0 k (decide ((l0_3.length:Int) > 2000)) a0_0 a0_1 l0_2 l0_3)))))
theorem zI.mono_l:∀k,(∀y0 y1 y2 y3 y4,LeO (zI.j0 k y0 y1 y2 y3 y4) (zI.j0 (k + 1) y0 y1 y2 y3 y4))∧(∀y0 y1 y2 y3 y4,LeO (zI.l0 k y0 y1 y2 y3 y4) (zI.l0 (k + 1) y0 y1 y2 y3 y4))∧(∀y0 y1 y2 y3 y4,LeO (zI.j2 k y0 y1 y2 y3 y4) (zI.j2 (k + 1) y0 y1 y2 y3 y4))∧(∀y0 y1 y2 y3 y4,LeO (zI.l1 k y0 y1 y2 y3 y4) (zI.l1 (k + 1) y0 y1 y2 y3 y4))∧(∀y0 y1 y2 y3 y4 y5 y6 y7,LeO (zI.j4 k y0 y1 y2 y3 y4 y5 y6 y7) (zI.j4 (k + 1) y0 y1 y2 y3 y4 y5 y6 y7))∧(∀y0 y1 y2 y3 y4 y5 y6 y7,LeO (zI.l2 k y0 y1 y2 y3 y4 y5 y6 y7) (zI.l2 (k + 1) y0 y1 y2 y3 y4 y5 y6 y7))
 | 0=>⟨fun _ _ _ _ _ r h=>by simp [zI.j0] at h,fun _ _ _ _ _ r h=>by simp [zI.l0] at h,fun _ _ _ _ _ r h=>by simp [zI.j2] at h,fun _ _ _ _ _ r h=>by simp [zI.l1] at h,fun _ _ _ _ _ _ _ _ r h=>by simp [zI.j4] at h,fun _ _ _ _ _ _ _ _ r h=>by simp [zI.l2] at h⟩
 | k + 1=>by
  obtain ⟨ih0,ih1,ih2,ih3,ih4,ih5⟩:=zI.mono_l k;refine ⟨?_,?_,?_,?_,?_,?_⟩
  ·intro y0 y1 y2 y3 y4
   unfold zI.j0
   repeat' first
   | with_reducible first|exact ih0 _ _ _ _ _|exact ih1 _ _ _ _ _|exact ih2 _ _ _ _ _|exact ih3 _ _ _ _ _|exact ih4 _ _ _ _ _ _ _ _|exact ih5 _ _ _ _ _ _ _ _|exact LeO.refl _|exact LeO.none _|refine LeO.ite ?_ ?_|refine LeO.bind ?_ (fun _=> ?_)
   | exact ih0 _ _ _ _ _|exact ih1 _ _ _ _ _|exact ih2 _ _ _ _ _|exact ih3 _ _ _ _ _|exact ih4 _ _ _ _ _ _ _ _|exact ih5 _ _ _ _ _ _ _ _|exact LeO.none _|refine LeO.ite ?_ ?_|refine LeO.bind ?_ (fun _=> ?_)
  ·intro y0 y1 y2 y3 y4
   unfold zI.l0
   repeat' first
   | with_reducible first|exact ih0 _ _ _ _ _|exact ih1 _ _ _ _ _|exact ih2 _ _ _ _ _|exact ih3 _ _ _ _ _|exact ih4 _ _ _ _ _ _ _ _|exact ih5 _ _ _ _ _ _ _ _|exact LeO.refl _|exact LeO.none _|refine LeO.ite ?_ ?_|refine LeO.bind ?_ (fun _=> ?_)
   | exact ih0 _ _ _ _ _|exact ih1 _ _ _ _ _|exact ih2 _ _ _ _ _|exact ih3 _ _ _ _ _|exact ih4 _ _ _ _ _ _ _ _|exact ih5 _ _ _ _ _ _ _ _|exact LeO.none _|refine LeO.ite ?_ ?_|refine LeO.bind ?_ (fun _=> ?_)
  ·intro y0 y1 y2 y3 y4
   unfold zI.j2
   repeat' first
   | with_reducible first|exact ih0 _ _ _ _ _|exact ih1 _ _ _ _ _|exact ih2 _ _ _ _ _|exact ih3 _ _ _ _ _|exact ih4 _ _ _ _ _ _ _ _|exact ih5 _ _ _ _ _ _ _ _|exact LeO.refl _|exact LeO.none _|refine LeO.ite ?_ ?_|refine LeO.bind ?_ (fun _=> ?_)
   | exact ih0 _ _ _ _ _|exact ih1 _ _ _ _ _|exact ih2 _ _ _ _ _|exact ih3 _ _ _ _ _|exact ih4 _ _ _ _ _ _ _ _|exact ih5 _ _ _ _ _ _ _ _|exact LeO.none _|refine LeO.ite ?_ ?_|refine LeO.bind ?_ (fun _=> ?_)
  ·intro y0 y1 y2 y3 y4
   unfold zI.l1
   repeat' first
   | with_reducible first|exact ih0 _ _ _ _ _|exact ih1 _ _ _ _ _|exact ih2 _ _ _ _ _|exact ih3 _ _ _ _ _|exact ih4 _ _ _ _ _ _ _ _|exact ih5 _ _ _ _ _ _ _ _|exact LeO.refl _|exact LeO.none _|refine LeO.ite ?_ ?_|refine LeO.bind ?_ (fun _=> ?_)
   | exact ih0 _ _ _ _ _|exact ih1 _ _ _ _ _|exact ih2 _ _ _ _ _|exact ih3 _ _ _ _ _|exact ih4 _ _ _ _ _ _ _ _|exact ih5 _ _ _ _ _ _ _ _|exact LeO.none _|refine LeO.ite ?_ ?_|refine LeO.bind ?_ (fun _=> ?_)
  ·intro y0 y1 y2 y3 y4 y5 y6 y7
   unfold zI.j4
   repeat' first
   | with_reducible first|exact ih0 _ _ _ _ _|exact ih1 _ _ _ _ _|exact ih2 _ _ _ _ _|exact ih3 _ _ _ _ _|exact ih4 _ _ _ _ _ _ _ _|exact ih5 _ _ _ _ _ _ _ _|exact LeO.refl _|exact LeO.none _|refine LeO.ite ?_ ?_|refine LeO.bind ?_ (fun _=> ?_)
   | exact ih0 _ _ _ _ _|exact ih1 _ _ _ _ _|exact ih2 _ _ _ _ _|exact ih3 _ _ _ _ _|exact ih4 _ _ _ _ _ _ _ _|exact ih5 _ _ _ _ _ _ _ _|exact LeO.none _|refine LeO.ite ?_ ?_|refine LeO.bind ?_ (fun _=> ?_)
  ·intro y0 y1 y2 y3 y4 y5 y6 y7
   unfold zI.l2
   repeat' first
   | with_reducible first|exact ih0 _ _ _ _ _|exact ih1 _ _ _ _ _|exact ih2 _ _ _ _ _|exact ih3 _ _ _ _ _|exact ih4 _ _ _ _ _ _ _ _|exact ih5 _ _ _ _ _ _ _ _|exact LeO.refl _|exact LeO.none _|refine LeO.ite ?_ ?_|refine LeO.bind ?_ (fun _=> ?_)
   | exact ih0 _ _ _ _ _|exact ih1 _ _ _ _ _|exact ih2 _ _ _ _ _|exact ih3 _ _ _ _ _|exact ih4 _ _ _ _ _ _ _ _|exact ih5 _ _ _ _ _ _ _ _|exact LeO.none _|refine LeO.ite ?_ ?_|refine LeO.bind ?_ (fun _=> ?_)
theorem zI.mono:∀a0 a1 a2 a3 k,LeO (zI.f k a0 a1 a2 a3) (zI.f (k + 1) a0 a1 a2 a3):=by
 intro a0 a1 a2 a3 k;obtain ⟨ih0,ih1,ih2,ih3,ih4,ih5⟩:=zI.mono_l k
 unfold zI.f
 repeat' first
   | with_reducible first|exact ih0 _ _ _ _ _|exact ih1 _ _ _ _ _|exact ih2 _ _ _ _ _|exact ih3 _ _ _ _ _|exact ih4 _ _ _ _ _ _ _ _|exact ih5 _ _ _ _ _ _ _ _|exact LeO.refl _|exact LeO.none _|refine LeO.ite ?_ ?_|refine LeO.bind ?_ (fun _=> ?_)
   | exact ih0 _ _ _ _ _|exact ih1 _ _ _ _ _|exact ih2 _ _ _ _ _|exact ih3 _ _ _ _ _|exact ih4 _ _ _ _ _ _ _ _|exact ih5 _ _ _ _ _ _ _ _|exact LeO.none _|refine LeO.ite ?_ ?_|refine LeO.bind ?_ (fun _=> ?_)
set_option maxHeartbeats 8000000 in
set_option maxRecDepth 100000 in
theorem zI.calls (k:Nat) (a0_0:Int) (a0_1:Int) (vi:Option Addr) (vk:Nat) (l0_2:List Int) (vp:Option Addr) (vl:Nat) (l0_3:List (S45)) (r:Int) (w:World) (hr0_2:Kd.C (Kd.int .i64) w vi l0_2.length l0_2) (hc0_2:l0_2.length≤vk) (hr0_3:Kd.C k45 w vp l0_3.length l0_3) (hc0_3:l0_3.length≤vl) (h:zI.f k a0_0 a0_1 l0_2 l0_3=some r) :
  Calls Try.prog 10 #[.agg #[.int .i64 a0_0, .int .i64 a0_1, .slice vi l0_2.length vk, .slice vp l0_3.length vl]] w fun e w'=>e= .returned (.int .i64 r)∧Below w.heap.size w w':=by
 have hu25:=Try.underlying25;have hu45:=Try.underlying45;have hu51:=Try.underlying51;have wb:=zA.mk hr0_2;have wd:=zA.mk hc0_2;clear hr0_2 hc0_2;have vw:=zA.mk hr0_3;have wg:=zA.mk hc0_3;clear hr0_3 hc0_3;have HB:=zA.mk (Below.refl w.heap.size w);have H:(if a0_0 < 1 then (zI.j0 k true a0_0 a0_1 l0_2 l0_3) else (if a0_0 > 60 then (zI.j0 k true a0_0 a0_1 l0_2 l0_3) else (if (l0_2.length:Int) < 1 then (zI.j0 k true a0_0 a0_1 l0_2 l0_3) else (if (l0_2.length:Int) > 500 then (zI.j0 k true a0_0 a0_1 l0_2 l0_3) else (if (l0_3.length:Int) < 1 then (zI.j0 k true a0_0 a0_1 l0_2 l0_3) else (zI.j0 k (decide ((l0_3.length:Int) > 2000)) a0_0 a0_1 l0_2 l0_3))))))=some r:=h;clear h;have HC2:=zA.mk H;clear H
 go_enter Try.func10,Try.ntmps10
 go_upto_region 1 with (first|((with_reducible refine yB (N:=1) rfl ?_);(try (refine yV (by rfl) ?_;dsimp only));refine yH ?hg (N:=1) ?hd (cs:= #[.int .i64 a0_0, .int .i64 a0_1, .slice vi l0_2.length vk, .slice vp l0_3.length vl]) (t:=25) ?hr ?_;(case hd=>rfl);(case hg=>rfl);(case hr=>exact Qm);intro vN hg w3 hbox hb;have n0_:=zA.mk (zH Qc hb);have n1_:=zA.mk (hbox);have n2_:=zA.mk ((by rw [hg];exact (zE Qc):w.heap.size≤vN));have n3_:=zA.mk ((by rw [hg];exact (zE Qc):w.heap.size≤vN));clear HB;have HB:=n0_;have va:=n1_;have GW361:=n2_;have vE:=n3_;clear n0_ n1_ n2_ n3_ hb hbox hg))
 (try simp only [Act.put,List.setIfInBounds_toArray,List.set_cons_zero,List.set_cons_succ])
 go_cut [39] (fun v39 wc=>∃(kq:Nat) (x39_1:Bool),v39= .bool x39_1∧zA (zI.j0 kq x39_1 a0_0 a0_1 l0_2 l0_3=some r)∧zA (kq≤k)∧zA (wc.heap[vN]? =some (.cells #[.int .i64 a0_0, .int .i64 a0_1,(.slice vi l0_2.length vk),(.slice vp l0_3.length vl)] 25 (0,0)))∧zA (Below w.heap.size w wc))
 case first=>
  have H:=HC2.out;clear HC2
  by_cases c4:a0_0 < 1
  ·rw [if_pos c4] at H
   have c4b0:=decide_eq_true c4;clear c4
   (first|rw [c4b0]|(simp only [zx,zy];rw [c4b0])|skip)
   have H':=zA.mk H;clear H;have hcz5_0:=Qn va 0 rfl;have hcz5_1:=Qn va 1 rfl;have hcz5_2:=Qn va 2 rfl;have hcz5_3:=Qn va 3 rfl;have hfz5_0:=zB va.out 0;have hfz5_1:=zB va.out 1;have hfz5_2:=zB va.out 2;have hfz5_3:=zB va.out 3
   go_wp2
   go_meet
   case rel=>exact ⟨_,(true),Zb,H',⟨by first|omega|exact Nat.le_refl _⟩,⟨Qi va⟩,⟨by repeat (first|(with_reducible first|exact HB.out|apply zG|apply zC|apply zF|refine zK ?_ vE.out)|exact HB.out)⟩⟩
  ·rw [if_neg c4] at H
   have c4b0:=decide_eq_false c4;clear c4
   (first|rw [c4b0]|(simp only [zx,zy];rw [c4b0])|skip)
   by_cases c6:a0_0 > 60
   ·rw [if_pos c6] at H
    have c6b0:=decide_eq_true c6;clear c6;have H':=zA.mk H;clear H;have hcz7_0:=Qn va 0 rfl;have hcz7_1:=Qn va 1 rfl;have hcz7_2:=Qn va 2 rfl;have hcz7_3:=Qn va 3 rfl;have hfz7_0:=zB va.out 0;have hfz7_1:=zB va.out 1;have hfz7_2:=zB va.out 2;have hfz7_3:=zB va.out 3
    go_wp2
    go_meet
    case rel=>exact ⟨_,(true),Zb,H',⟨by first|omega|exact Nat.le_refl _⟩,⟨Qi va⟩,⟨by repeat (first|(with_reducible first|exact HB.out|apply zG|apply zC|apply zF|refine zK ?_ vE.out)|exact HB.out)⟩⟩
   ·rw [if_neg c6] at H
    have c6b0:=decide_eq_false c6;clear c6
    by_cases c8:(l0_2.length:Int) < 1
    ·rw [if_pos c8] at H
     have c8b0:=decide_eq_true c8;have c8b1:decide (l0_2.length < 1)=true:=decide_eq_true (by omega);clear c8;have H':=zA.mk H;clear H;have hcz9_0:=Qn va 0 rfl;have hcz9_1:=Qn va 1 rfl;have hcz9_2:=Qn va 2 rfl;have hcz9_3:=Qn va 3 rfl;have hfz9_0:=zB va.out 0;have hfz9_1:=zB va.out 1;have hfz9_2:=zB va.out 2;have hfz9_3:=zB va.out 3
     go_wp2
     go_meet
     case rel=>exact ⟨_,(true),Zb,H',⟨by first|omega|exact Nat.le_refl _⟩,⟨Qi va⟩,⟨by repeat (first|(with_reducible first|exact HB.out|apply zG|apply zC|apply zF|refine zK ?_ vE.out)|exact HB.out)⟩⟩
    ·rw [if_neg c8] at H
     have c8b0:=decide_eq_false c8;have c8b1:decide (l0_2.length < 1)=false:=decide_eq_false (by omega);clear c8
     by_cases c10:(l0_2.length:Int) > 500
     ·rw [if_pos c10] at H
      have c10b0:=decide_eq_true c10;have c10b1:decide (500 < l0_2.length)=true:=decide_eq_true (by omega);clear c10;have H':=zA.mk H;clear H;have wl:=Qn va 0 rfl;have wm:=Qn va 1 rfl;have wH:=Qn va 2 rfl;have wI:=Qn va 3 rfl;have wn:=zB va.out 0;have wo:=zB va.out 1;have wV:=zB va.out 2;have wW:=zB va.out 3
      go_wp2
      go_meet
      case rel=>exact ⟨_,(true),Zb,H',⟨by first|omega|exact Nat.le_refl _⟩,⟨Qi va⟩,⟨by repeat (first|(with_reducible first|exact HB.out|apply zG|apply zC|apply zF|refine zK ?_ vE.out)|exact HB.out)⟩⟩
     ·rw [if_neg c10] at H
      have c10b0:=decide_eq_false c10;have c10b1:decide (500 < l0_2.length)=false:=decide_eq_false (by omega);clear c10
      by_cases c12:(l0_3.length:Int) < 1
      ·rw [if_pos c12] at H
       have c12b0:=decide_eq_true c12;have c12b1:decide (l0_3.length < 1)=true:=decide_eq_true (by omega);clear c12;have H':=zA.mk H;clear H;have Ve:=Qn va 0 rfl;have Vf:=Qn va 1 rfl;have Vg:=Qn va 2 rfl;have Vh:=Qn va 3 rfl;have Vi:=zB va.out 0;have Vj:=zB va.out 1;have hfz13_2:=zB va.out 2;have hfz13_3:=zB va.out 3
       go_wp2
       go_meet
       case rel=>exact ⟨_,(true),Zb,H',⟨by first|omega|exact Nat.le_refl _⟩,⟨Qi va⟩,⟨by repeat (first|(with_reducible first|exact HB.out|apply zG|apply zC|apply zF|refine zK ?_ vE.out)|exact HB.out)⟩⟩
      ·rw [if_neg c12] at H
       have c12b0:=decide_eq_false c12;have c12b1:decide (l0_3.length < 1)=false:=decide_eq_false (by omega);clear c12;have H':=zA.mk H;clear H;have hcz14_0:=Qn va 0 rfl;have hcz14_1:=Qn va 1 rfl;have hcz14_2:=Qn va 2 rfl;have hcz14_3:=Qn va 3 rfl;have hfz14_0:=zB va.out 0;have hfz14_1:=zB va.out 1;have hfz14_2:=zB va.out 2;have hfz14_3:=zB va.out 3
       go_wp2
       go_meet
       case rel=>exact ⟨_,(decide ((l0_3.length:Int) > 2000)),Zb,H',⟨by first|omega|exact Nat.le_refl _⟩,⟨Qi va⟩,⟨by repeat (first|(with_reducible first|exact HB.out|apply zG|apply zC|apply zF|refine zK ?_ vE.out)|exact HB.out)⟩⟩
 case rest=>
  clear HC2;(try clear c1);(try clear p2);(try clear c4);(try clear c4b0);(try clear c6);(try clear c6b0);(try clear c8);(try clear c8b0);(try clear c8b1);(try clear c10);(try clear c10b0);(try clear c10b1);(try clear c12);(try clear c12b0);(try clear c12b1);(try clear wl);(try clear wm);(try clear wH);(try clear wI);(try clear Ve);(try clear Vf);(try clear Vg);(try clear Vh);(try clear hcz14_0);(try clear hcz14_1);(try clear hcz14_2);(try clear hcz14_3);(try clear hcz5_0);(try clear hcz5_1);(try clear hcz5_2);(try clear hcz5_3);(try clear hcz7_0);(try clear hcz7_1);(try clear hcz7_2);(try clear hcz7_3);(try clear hcz9_0);(try clear hcz9_1);(try clear hcz9_2);(try clear hcz9_3);(try clear wn);(try clear wo);(try clear wV);(try clear wW);(try clear Vi);(try clear Vj);(try clear hfz13_2);(try clear hfz13_3);(try clear hfz14_0);(try clear hfz14_1);(try clear hfz14_2);(try clear hfz14_3);(try clear hfz5_0);(try clear hfz5_1);(try clear hfz5_2);(try clear hfz5_3);(try clear hfz7_0);(try clear hfz7_1);(try clear hfz7_2);(try clear hfz7_3);(try clear hfz9_0);(try clear hfz9_1);(try clear hfz9_2);(try clear hfz9_3);obtain ⟨kq,x39_1,rfl,HA,HJ1,va,HB⟩:=hcut;cases kq with
  | zero=>exact absurd HA.out (by simp [zI.j0])
  | succ kj1=>
   have H:=HA.out;clear HA;simp only [zI.j0] at H
   by_cases c15:x39_1=true
   ·subst c15
    have H1:(some 8)=some r:=by rw [if_pos rfl] at H;exact H
    clear H;have H:=H1;clear H1;obtain rfl:=Option.some.inj H
    go_wp2
    go_ret
    exact ⟨by first|rfl|(simp [zS,zT] <;> rfl)|(simp [*,zS,zT] <;> rfl),by repeat (first|(with_reducible first|exact HB.out|apply zG|apply zC|apply zF|refine zK ?_ vE.out)|exact HB.out)⟩
   ·replace c15:=Bool.eq_false_iff.mpr c15
    subst c15
    have H1:(zI.l0 kj1 0 a0_0 a0_1 l0_2 l0_3)=some r:=by rw [if_neg (show ¬(false=true) by decide)] at H;exact H
    clear H;have H:=H1;clear H1;have H':=zA.mk H;clear H
    go_wp2
    go_loopg [3] kj1 (fun kq v3 w'=>∃(x3_2:Int),v3= .int .i64 x3_2∧zA (zI.l0 kq x3_2 a0_0 a0_1 l0_2 l0_3=some r)∧zA (kq≤kj1)∧zA (w'.heap[vN]? =some (.cells #[.int .i64 a0_0, .int .i64 a0_1,(.slice vi l0_2.length vk),(.slice vp l0_3.length vl)] 25 (0,0)))∧zA (Below w.heap.size w w'))
    case atStart=>exact ⟨(0),Zb,H',⟨Nat.le_refl _⟩,⟨Qi va⟩,⟨by repeat (first|(with_reducible first|exact HB.out|apply zG|apply zC|apply zF|refine zK ?_ vE.out)|exact HB.out)⟩⟩
    case round=>
     clear H';(try clear c1);(try clear p2);(try clear c4);(try clear c4b0);(try clear c6);(try clear c6b0);(try clear c8);(try clear c8b0);(try clear c8b1);(try clear c10);(try clear c10b0);(try clear c10b1);(try clear c12);(try clear c12b0);(try clear c12b1);(try clear c15);(try clear wl);(try clear wm);(try clear wH);(try clear wI);(try clear Ve);(try clear Vf);(try clear Vg);(try clear Vh);(try clear hcz14_0);(try clear hcz14_1);(try clear hcz14_2);(try clear hcz14_3);(try clear hcz5_0);(try clear hcz5_1);(try clear hcz5_2);(try clear hcz5_3);(try clear hcz7_0);(try clear hcz7_1);(try clear hcz7_2);(try clear hcz7_3);(try clear hcz9_0);(try clear hcz9_1);(try clear hcz9_2);(try clear hcz9_3);(try clear wn);(try clear wo);(try clear wV);(try clear wW);(try clear Vi);(try clear Vj);(try clear hfz13_2);(try clear hfz13_3);(try clear hfz14_0);(try clear hfz14_1);(try clear hfz14_2);(try clear hfz14_3);(try clear hfz5_0);(try clear hfz5_1);(try clear hfz5_2);(try clear hfz5_3);(try clear hfz7_0);(try clear hfz7_1);(try clear hfz7_2);(try clear hfz7_3);(try clear hfz9_0);(try clear hfz9_1);(try clear hfz9_2);(try clear hfz9_3);(try clear p2);obtain ⟨x3_2,rfl,HA,HK2,va,HB⟩:=hrel;cases gk with
     | zero=>exact absurd HA.out (by simp [zI.l0])
     | succ k2=>
      have H:=HA.out;clear HA;simp only [zI.l0] at H
      by_cases c16:x3_2 < (l0_3.length:Int)
      ·rw [if_pos c16] at H
       have c16b0:=decide_eq_true c16;clear c16
       by_cases c17:0≤x3_2
       ·rw [if_pos c17] at H
        have c17b0:=decide_eq_true c17;clear c17
        by_cases c18:(((zD l0_3 x3_2).f1).length:Int) > 500
        ·rw [if_pos c18] at H
         have c18b0:=decide_eq_true c18;have c18b1:decide (500 < ((zD l0_3 x3_2).f1).length)=true:=decide_eq_true (by omega);clear c18;obtain rfl:=Option.some.inj H;have hcz19_0:=Qn va 0 rfl;have hcz19_1:=Qn va 1 rfl;have hcz19_2:=Qn va 2 rfl;have hcz19_3:=Qn va 3 rfl;have hfz19_0:=zB va.out 0;have hfz19_1:=zB va.out 1;have hfz19_2:=zB va.out 2;have hfz19_3:=zB va.out 3;have p362:0≤(x3_2:Int):=Qa;have q362:x3_2 < (l0_3.length:Int):=Qa;obtain ⟨ad362,A362_1,c362_1,e362,hx362_0,hx362_1,hl362_1,hi362_1⟩:=yv vw.out x3_2 p362 q362;cases e362;replace hx362_0:=(HB.out.cell (ZzA w _ hx362_0)).trans hx362_0;replace hx362_1:=(HB.out.cell (ZzA w _ hx362_1)).trans hx362_1;have HR362_1:=zA.mk hi362_1;have HC362_1:=zA.mk hl362_1;clear hi362_1 hl362_1;replace p362:=eq_true p362;replace q362:=eq_true q362
         go_wp2
         go_ret
         exact ⟨by first|rfl|(simp [zS,zT] <;> rfl)|(simp [*,zS,zT] <;> rfl),by repeat (first|(with_reducible first|exact HB.out|apply zG|apply zC|apply zF|refine zK ?_ vE.out)|exact HB.out)⟩
        ·rw [if_neg c18] at H
         have c18b0:=decide_eq_false c18;have c18b1:decide (500 < ((zD l0_3 x3_2).f1).length)=false:=decide_eq_false (by omega);clear c18;have H':=zA.mk H;clear H;have hcz20_0:=Qn va 0 rfl;have hcz20_1:=Qn va 1 rfl;have hcz20_2:=Qn va 2 rfl;have hcz20_3:=Qn va 3 rfl;have hfz20_0:=zB va.out 0;have hfz20_1:=zB va.out 1;have hfz20_2:=zB va.out 2;have hfz20_3:=zB va.out 3;have p362:0≤(x3_2:Int):=Qa;have q362:x3_2 < (l0_3.length:Int):=Qa;obtain ⟨ad362,A362_1,c362_1,e362,hx362_0,hx362_1,hl362_1,hi362_1⟩:=yv vw.out x3_2 p362 q362;cases e362;replace hx362_0:=(HB.out.cell (ZzA w _ hx362_0)).trans hx362_0;replace hx362_1:=(HB.out.cell (ZzA w _ hx362_1)).trans hx362_1;have HR362_1:=zA.mk hi362_1;have HC362_1:=zA.mk hl362_1;clear hi362_1 hl362_1;replace p362:=eq_true p362;replace q362:=eq_true q362
         go_wp2
         go_roundg k2
         case measure=>have:=HJ1.out;have:=HK2.out;omega
         case rel=>exact ⟨(wrap64 (x3_2 + 1)),Zb,H',⟨by have:=HJ1.out;have:=HK2.out;omega⟩,⟨Qi va⟩,⟨by repeat (first|(with_reducible first|exact HB.out|apply zG|apply zC|apply zF|refine zK ?_ vE.out)|exact HB.out)⟩⟩
       ·rw [if_neg c17] at H
        exact absurd H (by simp)
      ·rw [if_neg c16] at H
       have c16b0:=decide_eq_false c16;clear c16;have HC21:=zA.mk H;clear H;have hcz22_0:=Qn va 0 rfl;have hcz22_1:=Qn va 1 rfl;have hcz22_2:=Qn va 2 rfl;have hcz22_3:=Qn va 3 rfl;have hfz22_0:=zB va.out 0;have hfz22_1:=zB va.out 1;have hfz22_2:=zB va.out 2;have hfz22_3:=zB va.out 3
       go_upto_region 8 with (fail)
       go_cut [62] (fun v62 wc=>∃(kq:Nat) (x62_20:Bool),v62= .bool x62_20∧zA (zI.j2 kq x62_20 a0_0 a0_1 l0_2 l0_3=some r)∧zA (kq≤k2)∧zA (wc.heap[vN]? =some (.cells #[.int .i64 a0_0, .int .i64 a0_1,(.slice vi l0_2.length vk),(.slice vp l0_3.length vl)] 25 (0,0)))∧zA (Below w.heap.size w wc))
       case first=>
        have H:=HC21.out;clear HC21
        by_cases c23:a0_1 < 1
        ·rw [if_pos c23] at H
         have c23b0:=decide_eq_true c23;clear c23
         (first|rw [c23b0]|(simp only [zx,zy];rw [c23b0])|skip)
         have H':=zA.mk H;clear H;have hcz24_0:=Qn va 0 rfl;have hcz24_1:=Qn va 1 rfl;have hcz24_2:=Qn va 2 rfl;have hcz24_3:=Qn va 3 rfl;have hfz24_0:=zB va.out 0;have hfz24_1:=zB va.out 1;have hfz24_2:=zB va.out 2;have hfz24_3:=zB va.out 3
         go_wp2
         go_meet
         case rel=>exact ⟨_,(true),Zb,H',⟨by have:=HJ1.out;have:=HK2.out;first|omega|exact Nat.le_refl _⟩,⟨Qi va⟩,⟨by repeat (first|(with_reducible first|exact HB.out|apply zG|apply zC|apply zF|refine zK ?_ vE.out)|exact HB.out)⟩⟩
        ·rw [if_neg c23] at H
         have c23b0:=decide_eq_false c23;clear c23
         (first|rw [c23b0]|(simp only [zx,zy];rw [c23b0])|skip)
         have H':=zA.mk H;clear H;have hcz25_0:=Qn va 0 rfl;have hcz25_1:=Qn va 1 rfl;have hcz25_2:=Qn va 2 rfl;have hcz25_3:=Qn va 3 rfl;have hfz25_0:=zB va.out 0;have hfz25_1:=zB va.out 1;have hfz25_2:=zB va.out 2;have hfz25_3:=zB va.out 3
         go_wp2
         go_meet
         case rel=>exact ⟨_,(decide (a0_1 > 4)),Zb,H',⟨by have:=HJ1.out;have:=HK2.out;first|omega|exact Nat.le_refl _⟩,⟨Qi va⟩,⟨by repeat (first|(with_reducible first|exact HB.out|apply zG|apply zC|apply zF|refine zK ?_ vE.out)|exact HB.out)⟩⟩
       case rest=>
        clear HC21;(try clear c1);(try clear c2);(try clear p2);(try clear c3);(try clear p3);(try clear q3);(try clear hx3);(try clear c4);(try clear c4b0);(try clear c6);(try clear c6b0);(try clear p6);(try clear c8);(try clear c8b0);(try clear c8b1);(try clear c10);(try clear c10b0);(try clear c10b1);(try clear c12);(try clear c12b0);(try clear c12b1);(try clear c15);(try clear c16);(try clear c16b0);(try clear c17);(try clear c17b0);(try clear c18);(try clear c18b0);(try clear c18b1);(try clear c23);(try clear c23b0);(try clear wl);(try clear wm);(try clear wH);(try clear wI);(try clear Ve);(try clear Vf);(try clear Vg);(try clear Vh);(try clear hcz14_0);(try clear hcz14_1);(try clear hcz14_2);(try clear hcz14_3);(try clear hcz19_0);(try clear hcz19_1);(try clear hcz19_2);(try clear hcz19_3);(try clear hcz20_0);(try clear hcz20_1);(try clear hcz20_2);(try clear hcz20_3);(try clear hcz22_0);(try clear hcz22_1);(try clear hcz22_2);(try clear hcz22_3);(try clear hcz24_0);(try clear hcz24_1);(try clear hcz24_2);(try clear hcz24_3);(try clear hcz25_0);(try clear hcz25_1);(try clear hcz25_2);(try clear hcz25_3);(try clear hcz5_0);(try clear hcz5_1);(try clear hcz5_2);(try clear hcz5_3);(try clear hcz7_0);(try clear hcz7_1);(try clear hcz7_2);(try clear hcz7_3);(try clear hcz9_0);(try clear hcz9_1);(try clear hcz9_2);(try clear hcz9_3);(try clear wn);(try clear wo);(try clear wV);(try clear wW);(try clear Vi);(try clear Vj);(try clear hfz13_2);(try clear hfz13_3);(try clear hfz14_0);(try clear hfz14_1);(try clear hfz14_2);(try clear hfz14_3);(try clear hfz19_0);(try clear hfz19_1);(try clear hfz19_2);(try clear hfz19_3);(try clear hfz20_0);(try clear hfz20_1);(try clear hfz20_2);(try clear hfz20_3);(try clear hfz22_0);(try clear hfz22_1);(try clear hfz22_2);(try clear hfz22_3);(try clear hfz24_0);(try clear hfz24_1);(try clear hfz24_2);(try clear hfz24_3);(try clear hfz25_0);(try clear hfz25_1);(try clear hfz25_2);(try clear hfz25_3);(try clear hfz5_0);(try clear hfz5_1);(try clear hfz5_2);(try clear hfz5_3);(try clear hfz7_0);(try clear hfz7_1);(try clear hfz7_2);(try clear hfz7_3);(try clear hfz9_0);(try clear hfz9_1);(try clear hfz9_2);(try clear hfz9_3);(try clear hx362_0);(try clear hx362_1);(try clear p2);(try clear p362);(try clear q362);obtain ⟨kq,x62_20,rfl,HA,HJ20,va,HB⟩:=hcut;cases kq with
        | zero=>exact absurd HA.out (by simp [zI.j2])
        | succ kj20=>
         have H:=HA.out;clear HA;simp only [zI.j2] at H
         by_cases c26:x62_20=true
         ·subst c26
          have H1:(some 11)=some r:=by rw [if_pos rfl] at H;exact H
          clear H;have H:=H1;clear H1;obtain rfl:=Option.some.inj H
          go_wp2
          go_ret
          exact ⟨by first|rfl|(simp [zS,zT] <;> rfl)|(simp [*,zS,zT] <;> rfl),by repeat (first|(with_reducible first|exact HB.out|apply zG|apply zC|apply zF|refine zK ?_ vE.out)|exact HB.out)⟩
         ·replace c26:=Bool.eq_false_iff.mpr c26
          subst c26
          have H1:(zI.l1 kj20 0 a0_0 a0_1 l0_2 l0_3)=some r:=by rw [if_neg (show ¬(false=true) by decide)] at H;exact H
          clear H;have H:=H1;clear H1;have H':=zA.mk H;clear H
          go_wp2
          go_loopg [4] kj20 (fun kq v4 w'=>∃(x4_4:Int),v4= .int .i64 x4_4∧zA (zI.l1 kq x4_4 a0_0 a0_1 l0_2 l0_3=some r)∧zA (kq≤kj20)∧zA (w'.heap[vN]? =some (.cells #[.int .i64 a0_0, .int .i64 a0_1,(.slice vi l0_2.length vk),(.slice vp l0_3.length vl)] 25 (0,0)))∧zA (Below w.heap.size w w'))
          case atStart=>exact ⟨(0),Zb,H',⟨Nat.le_refl _⟩,⟨Qi va⟩,⟨by repeat (first|(with_reducible first|exact HB.out|apply zG|apply zC|apply zF|refine zK ?_ vE.out)|exact HB.out)⟩⟩
          case round=>
           clear H';(try clear c1);(try clear c2);(try clear p2);(try clear c3);(try clear p3);(try clear q3);(try clear hx3);(try clear c4);(try clear c4b0);(try clear c6);(try clear c6b0);(try clear p6);(try clear c8);(try clear c8b0);(try clear c8b1);(try clear c10);(try clear c10b0);(try clear c10b1);(try clear c12);(try clear c12b0);(try clear c12b1);(try clear c15);(try clear c16);(try clear c16b0);(try clear c17);(try clear c17b0);(try clear c18);(try clear c18b0);(try clear c18b1);(try clear c23);(try clear c23b0);(try clear c26);(try clear wl);(try clear wm);(try clear wH);(try clear wI);(try clear Ve);(try clear Vf);(try clear Vg);(try clear Vh);(try clear hcz14_0);(try clear hcz14_1);(try clear hcz14_2);(try clear hcz14_3);(try clear hcz19_0);(try clear hcz19_1);(try clear hcz19_2);(try clear hcz19_3);(try clear hcz20_0);(try clear hcz20_1);(try clear hcz20_2);(try clear hcz20_3);(try clear hcz22_0);(try clear hcz22_1);(try clear hcz22_2);(try clear hcz22_3);(try clear hcz24_0);(try clear hcz24_1);(try clear hcz24_2);(try clear hcz24_3);(try clear hcz25_0);(try clear hcz25_1);(try clear hcz25_2);(try clear hcz25_3);(try clear hcz5_0);(try clear hcz5_1);(try clear hcz5_2);(try clear hcz5_3);(try clear hcz7_0);(try clear hcz7_1);(try clear hcz7_2);(try clear hcz7_3);(try clear hcz9_0);(try clear hcz9_1);(try clear hcz9_2);(try clear hcz9_3);(try clear wn);(try clear wo);(try clear wV);(try clear wW);(try clear Vi);(try clear Vj);(try clear hfz13_2);(try clear hfz13_3);(try clear hfz14_0);(try clear hfz14_1);(try clear hfz14_2);(try clear hfz14_3);(try clear hfz19_0);(try clear hfz19_1);(try clear hfz19_2);(try clear hfz19_3);(try clear hfz20_0);(try clear hfz20_1);(try clear hfz20_2);(try clear hfz20_3);(try clear hfz22_0);(try clear hfz22_1);(try clear hfz22_2);(try clear hfz22_3);(try clear hfz24_0);(try clear hfz24_1);(try clear hfz24_2);(try clear hfz24_3);(try clear hfz25_0);(try clear hfz25_1);(try clear hfz25_2);(try clear hfz25_3);(try clear hfz5_0);(try clear hfz5_1);(try clear hfz5_2);(try clear hfz5_3);(try clear hfz7_0);(try clear hfz7_1);(try clear hfz7_2);(try clear hfz7_3);(try clear hfz9_0);(try clear hfz9_1);(try clear hfz9_2);(try clear hfz9_3);(try clear hx362_0);(try clear hx362_1);(try clear p2);(try clear p3);(try clear p362);(try clear p6);(try clear q3);(try clear q362);obtain ⟨x4_4,rfl,HA,HK4,va,HB⟩:=hrel;cases gk with
           | zero=>exact absurd HA.out (by simp [zI.l1])
           | succ k4=>
            have H:=HA.out;clear HA;simp only [zI.l1] at H
            by_cases c27:x4_4 < (l0_3.length:Int)
            ·rw [if_pos c27] at H
             have c27b0:=decide_eq_true c27;clear c27
             by_cases c28:0≤x4_4
             ·rw [if_pos c28] at H
              have c28b0:=decide_eq_true c28;clear c28;have HC29:=zA.mk H;clear H;have hcz30_0:=Qn va 0 rfl;have hcz30_1:=Qn va 1 rfl;have hcz30_2:=Qn va 2 rfl;have hcz30_3:=Qn va 3 rfl;have hfz30_0:=zB va.out 0;have hfz30_1:=zB va.out 1;have hfz30_2:=zB va.out 2;have hfz30_3:=zB va.out 3;have p363:0≤(x4_4:Int):=Qa;have q363:x4_4 < (l0_3.length:Int):=Qa;obtain ⟨ad363,A363_1,c363_1,e363,hx363_0,hx363_1,hl363_1,hi363_1⟩:=yv vw.out x4_4 p363 q363;cases e363;replace hx363_0:=(HB.out.cell (ZzA w _ hx363_0)).trans hx363_0;replace hx363_1:=(HB.out.cell (ZzA w _ hx363_1)).trans hx363_1;have HR363_1:=zA.mk hi363_1;have HC363_1:=zA.mk hl363_1;clear hi363_1 hl363_1;replace p363:=eq_true p363;replace q363:=eq_true q363
              go_upto_region 14 with (first|((with_reducible refine yB (N:=5) rfl ?_);(try (refine yV (by rfl) ?_;dsimp only));refine yH ?hg (N:=5) ?hd (cs:= #[.int .i64 0, .slice none 0 0]) (t:=45) ?hr ?_;(case hd=>rfl);(case hg=>rfl);(case hr=>exact Qm);intro we hg w31 hbox hb;have n0_:=zA.mk (ze (g:=vN) (Qi va) hb);have n1_:=zA.mk (zH (Qd vE) hb);have n2_:=zA.mk (hbox);have n3_:=zA.mk ((by rw [hg];exact (zE (Qd vE)):w.heap.size≤we));have n4_:=zA.mk ((by rw [hg];exact (zE (Qd vE)):w.heap.size≤we));have n5_:=zA.mk ((by rw [hg];exact Nat.ne_of_lt (yG (g:=vN) (Qi va)):vN≠we));have n6_:=zA.mk ((by rw [hg];exact Nat.ne_of_gt (yG (g:=vN) (Qi va)):we≠vN));clear va HB;have va:=n0_;have HB:=n1_;have vq:=n2_;have GW364:=n3_;have wt:=n4_;have NB361_364:=n5_;have NB364_361:=n6_;clear n0_ n1_ n2_ n3_ n4_ n5_ n6_ hb hbox hg;have hnb32:=NB364_361.out;have hnc32:=NB361_364.out;have hcz33_0:=Qn vq 0 rfl;have hcz33_1:=Qn vq 1 rfl;have hfz33_0:=zB vq.out 0;have hfz33_1:=zB vq.out 1))
              (try simp only [Act.put,List.setIfInBounds_toArray,List.set_cons_zero,List.set_cons_succ])
              go_cut [85] (fun v85 wc=>∃(kq:Nat) (x85_28:Bool),v85= .bool x85_28∧zA (zI.j4 kq x4_4 x85_28 a0_0 a0_1 l0_2 l0_3 ((zD l0_3 x4_4).f0) ((zD l0_3 x4_4).f1)=some r)∧zA (kq≤k4)∧zA (wc.heap[vN]? =some (.cells #[.int .i64 a0_0, .int .i64 a0_1,(.slice vi l0_2.length vk),(.slice (some ad363) l0_3.length vl)] 25 (0,0)))∧zA (wc.heap[we]? =some (.cells #[.int .i64 ((zD l0_3 x4_4).f0),(.slice A363_1 ((zD l0_3 x4_4).f1).length c363_1)] 45 (0,0)))∧zA (Below w.heap.size w wc))
              case first=>
               have H:=HC29.out;clear HC29
               by_cases c34:((zD l0_3 x4_4).f0) < 0
               ·rw [if_pos c34] at H
                have c34b0:=decide_eq_true c34;clear c34
                (first|rw [c34b0]|(simp only [zx,zy];rw [c34b0])|skip)
                have H':=zA.mk H;clear H;have hnb35:=NB364_361.out;have hnc35:=NB361_364.out;have hcz36_0:=Qn vq 0 rfl;have hcz36_1:=Qn vq 1 rfl;have hfz36_0:=zB vq.out 0;have hfz36_1:=zB vq.out 1
                go_wp2
                go_meet
                case rel=>exact ⟨_,(true),Zb,H',⟨by have:=HJ1.out;have:=HK2.out;have:=HJ20.out;have:=HK4.out;first|omega|exact Nat.le_refl _⟩,⟨by (with_reducible repeat (first|refine zO ?_ _|refine zQ ?_|refine zM ?_ _));refine yJ ?_ NB361_364.out _;(with_reducible repeat (first|refine zO ?_ _|refine zQ ?_|refine zM ?_ _));refine yJ ?_ NB361_364.out _;(with_reducible repeat (first|refine zO ?_ _|refine zQ ?_|refine zM ?_ _));exact va.out⟩,⟨by (with_reducible repeat (first|refine zO ?_ _|refine zQ ?_|refine zM ?_ _));refine yU (cs:= #[.int .i64 ((zD l0_3 x4_4).f0), .slice none 0 0]) ?_ 1 _ rfl;(with_reducible repeat (first|refine zO ?_ _|refine zQ ?_|refine zM ?_ _));refine yU (cs:= #[.int .i64 0, .slice none 0 0]) ?_ 0 _ rfl;(with_reducible repeat (first|refine zO ?_ _|refine zQ ?_|refine zM ?_ _));exact vq.out⟩,⟨by repeat (first|(with_reducible first|exact HB.out|apply zG|apply zC|apply zF|refine zK ?_ vE.out|refine zK ?_ wt.out)|exact HB.out)⟩⟩
               ·rw [if_neg c34] at H
                have c34b0:=decide_eq_false c34;clear c34
                (first|rw [c34b0]|(simp only [zx,zy];rw [c34b0])|skip)
                have H':=zA.mk H;clear H;have hnb37:=NB364_361.out;have hnc37:=NB361_364.out;have hcz38_0:=Qn vq 0 rfl;have hcz38_1:=Qn vq 1 rfl;have hfz38_0:=zB vq.out 0;have hfz38_1:=zB vq.out 1;have hcz39_0:=Qn va 0 rfl;have hcz39_1:=Qn va 1 rfl;have hcz39_2:=Qn va 2 rfl;have hcz39_3:=Qn va 3 rfl;have hfz39_0:=zB va.out 0;have hfz39_1:=zB va.out 1;have hfz39_2:=zB va.out 2;have hfz39_3:=zB va.out 3
                go_wp2
                go_meet
                case rel=>exact ⟨_,(decide (((zD l0_3 x4_4).f0)≥(l0_2.length:Int))),Zb,H',⟨by have:=HJ1.out;have:=HK2.out;have:=HJ20.out;have:=HK4.out;first|omega|exact Nat.le_refl _⟩,⟨by (with_reducible repeat (first|refine zO ?_ _|refine zQ ?_|refine zM ?_ _));refine yJ ?_ NB361_364.out _;(with_reducible repeat (first|refine zO ?_ _|refine zQ ?_|refine zM ?_ _));refine yJ ?_ NB361_364.out _;(with_reducible repeat (first|refine zO ?_ _|refine zQ ?_|refine zM ?_ _));exact va.out⟩,⟨by (with_reducible repeat (first|refine zO ?_ _|refine zQ ?_|refine zM ?_ _));refine yU (cs:= #[.int .i64 ((zD l0_3 x4_4).f0), .slice none 0 0]) ?_ 1 _ rfl;(with_reducible repeat (first|refine zO ?_ _|refine zQ ?_|refine zM ?_ _));refine yU (cs:= #[.int .i64 0, .slice none 0 0]) ?_ 0 _ rfl;(with_reducible repeat (first|refine zO ?_ _|refine zQ ?_|refine zM ?_ _));exact vq.out⟩,⟨by repeat (first|(with_reducible first|exact HB.out|apply zG|apply zC|apply zF|refine zK ?_ vE.out|refine zK ?_ wt.out)|exact HB.out)⟩⟩
              case rest=>
               clear HC29;(try clear c1);(try clear c2);(try clear p2);(try clear c3);(try clear p3);(try clear q3);(try clear hx3);(try clear c4);(try clear c4b0);(try clear c6);(try clear c6b0);(try clear p6);(try clear c8);(try clear c8b0);(try clear c8b1);(try clear c10);(try clear c10b0);(try clear c10b1);(try clear c12);(try clear c12b0);(try clear c12b1);(try clear c15);(try clear c16);(try clear c16b0);(try clear c17);(try clear c17b0);(try clear c18);(try clear c18b0);(try clear c18b1);(try clear c23);(try clear c23b0);(try clear c26);(try clear c27);(try clear c27b0);(try clear c28);(try clear c28b0);(try clear c32);(try clear c34);(try clear c34b0);(try clear c35);(try clear c36);(try clear p36);(try clear q36);(try clear hx36);(try clear c37);(try clear wl);(try clear wm);(try clear wH);(try clear wI);(try clear Ve);(try clear Vf);(try clear Vg);(try clear Vh);(try clear hcz14_0);(try clear hcz14_1);(try clear hcz14_2);(try clear hcz14_3);(try clear hcz19_0);(try clear hcz19_1);(try clear hcz19_2);(try clear hcz19_3);(try clear hcz20_0);(try clear hcz20_1);(try clear hcz20_2);(try clear hcz20_3);(try clear hcz22_0);(try clear hcz22_1);(try clear hcz22_2);(try clear hcz22_3);(try clear hcz24_0);(try clear hcz24_1);(try clear hcz24_2);(try clear hcz24_3);(try clear hcz25_0);(try clear hcz25_1);(try clear hcz25_2);(try clear hcz25_3);(try clear hcz30_0);(try clear hcz30_1);(try clear hcz30_2);(try clear hcz30_3);(try clear hcz33_0);(try clear hcz33_1);(try clear hcz36_0);(try clear hcz36_1);(try clear hcz38_0);(try clear hcz38_1);(try clear hcz39_0);(try clear hcz39_1);(try clear hcz39_2);(try clear hcz39_3);(try clear hcz5_0);(try clear hcz5_1);(try clear hcz5_2);(try clear hcz5_3);(try clear hcz7_0);(try clear hcz7_1);(try clear hcz7_2);(try clear hcz7_3);(try clear hcz9_0);(try clear hcz9_1);(try clear hcz9_2);(try clear hcz9_3);(try clear wn);(try clear wo);(try clear wV);(try clear wW);(try clear Vi);(try clear Vj);(try clear hfz13_2);(try clear hfz13_3);(try clear hfz14_0);(try clear hfz14_1);(try clear hfz14_2);(try clear hfz14_3);(try clear hfz19_0);(try clear hfz19_1);(try clear hfz19_2);(try clear hfz19_3);(try clear hfz20_0);(try clear hfz20_1);(try clear hfz20_2);(try clear hfz20_3);(try clear hfz22_0);(try clear hfz22_1);(try clear hfz22_2);(try clear hfz22_3);(try clear hfz24_0);(try clear hfz24_1);(try clear hfz24_2);(try clear hfz24_3);(try clear hfz25_0);(try clear hfz25_1);(try clear hfz25_2);(try clear hfz25_3);(try clear hfz30_0);(try clear hfz30_1);(try clear hfz30_2);(try clear hfz30_3);(try clear hfz33_0);(try clear hfz33_1);(try clear hfz36_0);(try clear hfz36_1);(try clear hfz38_0);(try clear hfz38_1);(try clear hfz39_0);(try clear hfz39_1);(try clear hfz39_2);(try clear hfz39_3);(try clear hfz5_0);(try clear hfz5_1);(try clear hfz5_2);(try clear hfz5_3);(try clear hfz7_0);(try clear hfz7_1);(try clear hfz7_2);(try clear hfz7_3);(try clear hfz9_0);(try clear hfz9_1);(try clear hfz9_2);(try clear hfz9_3);(try clear hx362_0);(try clear hx362_1);(try clear hx363_0);(try clear hx363_1);(try clear p2);(try clear p3);(try clear p362);(try clear p363);(try clear p6);(try clear q3);(try clear q362);(try clear q363);obtain ⟨kq,x85_28,rfl,HA,HJ28,va,vq,HB⟩:=hcut;cases kq with
               | zero=>exact absurd HA.out (by simp [zI.j4])
               | succ kj28=>
                have H:=HA.out;clear HA;simp only [zI.j4] at H
                by_cases c40:x85_28=true
                ·subst c40
                 have H1:(some 4)=some r:=by rw [if_pos rfl] at H;exact H
                 clear H;have H:=H1;clear H1;obtain rfl:=Option.some.inj H
                 go_wp2
                 go_ret
                 exact ⟨by first|rfl|(simp [zS,zT] <;> rfl)|(simp [*,zS,zT] <;> rfl),by repeat (first|(with_reducible first|exact HB.out|apply zG|apply zC|apply zF|refine zK ?_ vE.out|refine zK ?_ wt.out)|exact HB.out)⟩
                ·replace c40:=Bool.eq_false_iff.mpr c40
                 subst c40
                 have H1:(zI.l2 kj28 x4_4 0 a0_0 a0_1 l0_2 l0_3 ((zD l0_3 x4_4).f0) ((zD l0_3 x4_4).f1))=some r:=by rw [if_neg (show ¬(false=true) by decide)] at H;exact H
                 clear H;have H:=H1;clear H1;have H':=zA.mk H;clear H
                 go_wp2
                 go_loopg [6] kj28 (fun kq v6 w'=>∃(x6_6:Int),v6= .int .i64 x6_6∧zA (zI.l2 kq x4_4 x6_6 a0_0 a0_1 l0_2 l0_3 ((zD l0_3 x4_4).f0) ((zD l0_3 x4_4).f1)=some r)∧zA (kq≤kj28)∧zA (w'.heap[vN]? =some (.cells #[.int .i64 a0_0, .int .i64 a0_1,(.slice vi l0_2.length vk),(.slice (some ad363) l0_3.length vl)] 25 (0,0)))∧zA (w'.heap[we]? =some (.cells #[.int .i64 ((zD l0_3 x4_4).f0),(.slice A363_1 ((zD l0_3 x4_4).f1).length c363_1)] 45 (0,0)))∧zA (Below w.heap.size w w'))
                 case atStart=>exact ⟨(0),Zb,H',⟨Nat.le_refl _⟩,⟨Qi va⟩,⟨Qi vq⟩,⟨by repeat (first|(with_reducible first|exact HB.out|apply zG|apply zC|apply zF|refine zK ?_ vE.out|refine zK ?_ wt.out)|exact HB.out)⟩⟩
                 case round=>
                  clear H';(try clear c1);(try clear c2);(try clear p2);(try clear c3);(try clear p3);(try clear q3);(try clear hx3);(try clear c4);(try clear c4b0);(try clear c6);(try clear c6b0);(try clear p6);(try clear c8);(try clear c8b0);(try clear c8b1);(try clear c10);(try clear c10b0);(try clear c10b1);(try clear c12);(try clear c12b0);(try clear c12b1);(try clear c15);(try clear c16);(try clear c16b0);(try clear c17);(try clear c17b0);(try clear c18);(try clear c18b0);(try clear c18b1);(try clear c23);(try clear c23b0);(try clear c26);(try clear c27);(try clear c27b0);(try clear c28);(try clear c28b0);(try clear c32);(try clear c34);(try clear c34b0);(try clear c35);(try clear c36);(try clear p36);(try clear q36);(try clear hx36);(try clear c37);(try clear c40);(try clear wl);(try clear wm);(try clear wH);(try clear wI);(try clear Ve);(try clear Vf);(try clear Vg);(try clear Vh);(try clear hcz14_0);(try clear hcz14_1);(try clear hcz14_2);(try clear hcz14_3);(try clear hcz19_0);(try clear hcz19_1);(try clear hcz19_2);(try clear hcz19_3);(try clear hcz20_0);(try clear hcz20_1);(try clear hcz20_2);(try clear hcz20_3);(try clear hcz22_0);(try clear hcz22_1);(try clear hcz22_2);(try clear hcz22_3);(try clear hcz24_0);(try clear hcz24_1);(try clear hcz24_2);(try clear hcz24_3);(try clear hcz25_0);(try clear hcz25_1);(try clear hcz25_2);(try clear hcz25_3);(try clear hcz30_0);(try clear hcz30_1);(try clear hcz30_2);(try clear hcz30_3);(try clear hcz33_0);(try clear hcz33_1);(try clear hcz36_0);(try clear hcz36_1);(try clear hcz38_0);(try clear hcz38_1);(try clear hcz39_0);(try clear hcz39_1);(try clear hcz39_2);(try clear hcz39_3);(try clear hcz5_0);(try clear hcz5_1);(try clear hcz5_2);(try clear hcz5_3);(try clear hcz7_0);(try clear hcz7_1);(try clear hcz7_2);(try clear hcz7_3);(try clear hcz9_0);(try clear hcz9_1);(try clear hcz9_2);(try clear hcz9_3);(try clear wn);(try clear wo);(try clear wV);(try clear wW);(try clear Vi);(try clear Vj);(try clear hfz13_2);(try clear hfz13_3);(try clear hfz14_0);(try clear hfz14_1);(try clear hfz14_2);(try clear hfz14_3);(try clear hfz19_0);(try clear hfz19_1);(try clear hfz19_2);(try clear hfz19_3);(try clear hfz20_0);(try clear hfz20_1);(try clear hfz20_2);(try clear hfz20_3);(try clear hfz22_0);(try clear hfz22_1);(try clear hfz22_2);(try clear hfz22_3);(try clear hfz24_0);(try clear hfz24_1);(try clear hfz24_2);(try clear hfz24_3);(try clear hfz25_0);(try clear hfz25_1);(try clear hfz25_2);(try clear hfz25_3);(try clear hfz30_0);(try clear hfz30_1);(try clear hfz30_2);(try clear hfz30_3);(try clear hfz33_0);(try clear hfz33_1);(try clear hfz36_0);(try clear hfz36_1);(try clear hfz38_0);(try clear hfz38_1);(try clear hfz39_0);(try clear hfz39_1);(try clear hfz39_2);(try clear hfz39_3);(try clear hfz5_0);(try clear hfz5_1);(try clear hfz5_2);(try clear hfz5_3);(try clear hfz7_0);(try clear hfz7_1);(try clear hfz7_2);(try clear hfz7_3);(try clear hfz9_0);(try clear hfz9_1);(try clear hfz9_2);(try clear hfz9_3);(try clear hx362_0);(try clear hx362_1);(try clear hx363_0);(try clear hx363_1);(try clear p2);(try clear p3);(try clear p36);(try clear p362);(try clear p363);(try clear p6);(try clear q3);(try clear q36);(try clear q362);(try clear q363);obtain ⟨x6_6,rfl,HA,HK6,va,vq,HB⟩:=hrel;cases gk with
                  | zero=>exact absurd HA.out (by simp [zI.l2])
                  | succ k6=>
                   have H:=HA.out;clear HA;simp only [zI.l2] at H
                   by_cases c41:x6_6 < (((zD l0_3 x4_4).f1).length:Int)
                   ·rw [if_pos c41] at H
                    have c41b0:=decide_eq_true c41;clear c41
                    by_cases c42:0≤x6_6
                    ·rw [if_pos c42] at H
                     have c42b0:=decide_eq_true c42;clear c42;obtain ⟨bq43,hbq43⟩:∃b_:Bool,b_=((zi ((zD l0_3 x4_4).f1) x6_6).f0):=⟨_,rfl⟩
                     replace H:(if bq43=true then (if ((zi ((zD l0_3 x4_4).f1) x6_6).f1) < 1 then (some 4) else (if ((zi ((zD l0_3 x4_4).f1) x6_6).f1) > a0_0 then (some 4) else (zI.l2 k6 x4_4 (wrap64 (x6_6 + 1)) a0_0 a0_1 l0_2 l0_3 ((zD l0_3 x4_4).f0) ((zD l0_3 x4_4).f1)))) else (if ((zi ((zD l0_3 x4_4).f1) x6_6).f1) < 0 then (some 4) else (if ((zi ((zD l0_3 x4_4).f1) x6_6).f1)≥(l0_2.length:Int) then (some 4) else (zI.l2 k6 x4_4 (wrap64 (x6_6 + 1)) a0_0 a0_1 l0_2 l0_3 ((zD l0_3 x4_4).f0) ((zD l0_3 x4_4).f1)))))=some r:=by rw [←hbq43] at H;exact H
                     have Nbq43:=zA.mk hbq43;clear hbq43
                     by_cases c44:bq43=true
                     ·subst c44
                      have H1:(if ((zi ((zD l0_3 x4_4).f1) x6_6).f1) < 1 then (some 4) else (if ((zi ((zD l0_3 x4_4).f1) x6_6).f1) > a0_0 then (some 4) else (zI.l2 k6 x4_4 (wrap64 (x6_6 + 1)) a0_0 a0_1 l0_2 l0_3 ((zD l0_3 x4_4).f0) ((zD l0_3 x4_4).f1))))=some r:=by rw [if_pos rfl] at H;exact H
                      clear H;have H:=H1;clear H1
                      by_cases c45:((zi ((zD l0_3 x4_4).f1) x6_6).f1) < 1
                      ·rw [if_pos c45] at H
                       have c45b0:=decide_eq_true c45;clear c45;obtain rfl:=Option.some.inj H;have hnb46:=NB364_361.out;have hnc46:=NB361_364.out;have hcz47_0:=Qn vq 0 rfl;have hcz47_1:=Qn vq 1 rfl;have hfz47_0:=zB vq.out 0;have hfz47_1:=zB vq.out 1;have p365:0≤(x6_6:Int):=Qa;have q365:x6_6 < (((zD l0_3 x4_4).f1).length:Int):=Qa;obtain ⟨ad365,e365,hx365_0,hx365_1⟩:=ZF HR363_1.out x6_6 p365 q365
                       (try rw [←Nbq43.out] at hx365_0)
                       cases e365;replace hx365_0:=(HB.out.cell (ZzA w _ hx365_0)).trans hx365_0;replace hx365_1:=(HB.out.cell (ZzA w _ hx365_1)).trans hx365_1;replace p365:=eq_true p365;replace q365:=eq_true q365
                       go_wp2_with (first|((with_reducible refine yB (N:=7) rfl ?_);(try (refine yV (by rfl) ?_;dsimp only));refine yH ?hg (N:=7) ?hd (cs:= #[.bool false, .int .i64 0]) (t:=51) ?hr ?_;(case hd=>rfl);(case hg=>rfl);(case hr=>exact Qm);intro vO hg w48 hbox hb;have n2_:=zA.mk (zH (Qe vE wt) hb);have n3_:=zA.mk (hbox);have n4_:=zA.mk ((by rw [hg];exact (zE (Qe vE wt)):w.heap.size≤vO));have n5_:=zA.mk ((by rw [hg];exact (zE (Qe vE wt)):w.heap.size≤vO));have n6_:=zA.mk ((by rw [hg];exact Nat.ne_of_lt (yG (g:=vN) (Qi va)):vN≠vO));have n7_:=zA.mk ((by rw [hg];exact Nat.ne_of_gt (yG (g:=vN) (Qi va)):vO≠vN));have n8_:=zA.mk ((by rw [hg];exact Nat.ne_of_lt (yG (g:=we) (Qi vq)):we≠vO));have n9_:=zA.mk ((by rw [hg];exact Nat.ne_of_gt (yG (g:=we) (Qi vq)):vO≠we));clear HB;have HB:=n2_;have wu:=n3_;have GW366:=n4_;have GE366:=n5_;have NB361_366:=n6_;have NB366_361:=n7_;have NB364_366:=n8_;have NB366_364:=n9_;clear n2_ n3_ n4_ n5_ n6_ n7_ n8_ n9_ hb hbox hg;have hnb49:=NB366_361.out;have hnc49:=NB361_366.out;have hnb50:=NB366_364.out;have hnc50:=NB364_366.out;have hcz51_0:=Qn wu 0 rfl;have hcz51_1:=Qn wu 1 rfl;have hfz51_0:=zB wu.out 0;have hfz51_1:=zB wu.out 1))
                       go_ret
                       exact ⟨by first|rfl|(simp [zS,zT] <;> rfl)|(simp [*,zS,zT] <;> rfl),by repeat (first|(with_reducible first|exact HB.out|apply zG|apply zC|apply zF|refine zK ?_ vE.out|refine zK ?_ wt.out|refine zK ?_ GE366.out)|exact HB.out)⟩
                      ·rw [if_neg c45] at H
                       have c45b0:=decide_eq_false c45;clear c45
                       by_cases c52:((zi ((zD l0_3 x4_4).f1) x6_6).f1) > a0_0
                       ·rw [if_pos c52] at H
                        have c52b0:=decide_eq_true c52;clear c52;obtain rfl:=Option.some.inj H;have hnb53:=NB364_361.out;have hnc53:=NB361_364.out;have hcz54_0:=Qn vq 0 rfl;have hcz54_1:=Qn vq 1 rfl;have hfz54_0:=zB vq.out 0;have hfz54_1:=zB vq.out 1;have p365:0≤(x6_6:Int):=Qa;have q365:x6_6 < (((zD l0_3 x4_4).f1).length:Int):=Qa;obtain ⟨ad365,e365,hx365_0,hx365_1⟩:=ZF HR363_1.out x6_6 p365 q365
                        (try rw [←Nbq43.out] at hx365_0)
                        cases e365;replace hx365_0:=(HB.out.cell (ZzA w _ hx365_0)).trans hx365_0;replace hx365_1:=(HB.out.cell (ZzA w _ hx365_1)).trans hx365_1;replace p365:=eq_true p365;replace q365:=eq_true q365
                        go_wp2_with (first|((with_reducible refine yB (N:=7) rfl ?_);(try (refine yV (by rfl) ?_;dsimp only));refine yH ?hg (N:=7) ?hd (cs:= #[.bool false, .int .i64 0]) (t:=51) ?hr ?_;(case hd=>rfl);(case hg=>rfl);(case hr=>exact Qm);intro vO hg w55 hbox hb;have n0_:=zA.mk (ze (g:=vN) (Qi va) hb);have n2_:=zA.mk (zH (Qe vE wt) hb);have n3_:=zA.mk (hbox);have n4_:=zA.mk ((by rw [hg];exact (zE (Qe vE wt)):w.heap.size≤vO));have n5_:=zA.mk ((by rw [hg];exact (zE (Qe vE wt)):w.heap.size≤vO));have n6_:=zA.mk ((by rw [hg];exact Nat.ne_of_lt (yG (g:=vN) (Qi va)):vN≠vO));have n7_:=zA.mk ((by rw [hg];exact Nat.ne_of_gt (yG (g:=vN) (Qi va)):vO≠vN));have n8_:=zA.mk ((by rw [hg];exact Nat.ne_of_lt (yG (g:=we) (Qi vq)):we≠vO));have n9_:=zA.mk ((by rw [hg];exact Nat.ne_of_gt (yG (g:=we) (Qi vq)):vO≠we));clear va HB;have va:=n0_;have HB:=n2_;have wu:=n3_;have GW366:=n4_;have GE366:=n5_;have NB361_366:=n6_;have NB366_361:=n7_;have NB364_366:=n8_;have NB366_364:=n9_;clear n0_ n2_ n3_ n4_ n5_ n6_ n7_ n8_ n9_ hb hbox hg;have hnb56:=NB366_361.out;have hnc56:=NB361_366.out;have hnb57:=NB366_364.out;have hnc57:=NB364_366.out;have hcz58_0:=Qn wu 0 rfl;have hcz58_1:=Qn wu 1 rfl;have hfz58_0:=zB wu.out 0;have hfz58_1:=zB wu.out 1;have hcz59_0:=Qn va 0 rfl;have hcz59_1:=Qn va 1 rfl;have hcz59_2:=Qn va 2 rfl;have hcz59_3:=Qn va 3 rfl;have hfz59_0:=zB va.out 0;have hfz59_1:=zB va.out 1;have hfz59_2:=zB va.out 2;have hfz59_3:=zB va.out 3))
                        go_ret
                        exact ⟨by first|rfl|(simp [zS,zT] <;> rfl)|(simp [*,zS,zT] <;> rfl),by repeat (first|(with_reducible first|exact HB.out|apply zG|apply zC|apply zF|refine zK ?_ vE.out|refine zK ?_ wt.out|refine zK ?_ GE366.out)|exact HB.out)⟩
                       ·rw [if_neg c52] at H
                        have c52b0:=decide_eq_false c52;clear c52;have H':=zA.mk H;clear H;have hnb60:=NB364_361.out;have hnc60:=NB361_364.out;have hcz61_0:=Qn vq 0 rfl;have hcz61_1:=Qn vq 1 rfl;have hfz61_0:=zB vq.out 0;have hfz61_1:=zB vq.out 1;have p365:0≤(x6_6:Int):=Qa;have q365:x6_6 < (((zD l0_3 x4_4).f1).length:Int):=Qa;obtain ⟨ad365,e365,hx365_0,hx365_1⟩:=ZF HR363_1.out x6_6 p365 q365
                        (try rw [←Nbq43.out] at hx365_0)
                        cases e365;replace hx365_0:=(HB.out.cell (ZzA w _ hx365_0)).trans hx365_0;replace hx365_1:=(HB.out.cell (ZzA w _ hx365_1)).trans hx365_1;replace p365:=eq_true p365;replace q365:=eq_true q365
                        go_wp2_with (first|((with_reducible refine yB (N:=7) rfl ?_);(try (refine yV (by rfl) ?_;dsimp only));refine yH ?hg (N:=7) ?hd (cs:= #[.bool false, .int .i64 0]) (t:=51) ?hr ?_;(case hd=>rfl);(case hg=>rfl);(case hr=>exact Qm);intro vO hg w62 hbox hb;have n0_:=zA.mk (ze (g:=vN) (Qi va) hb);have n1_:=zA.mk (ze (g:=we) (Qi vq) hb);have n2_:=zA.mk (zH (Qe vE wt) hb);have n3_:=zA.mk (hbox);have n4_:=zA.mk ((by rw [hg];exact (zE (Qe vE wt)):w.heap.size≤vO));have n5_:=zA.mk ((by rw [hg];exact (zE (Qe vE wt)):w.heap.size≤vO));have n6_:=zA.mk ((by rw [hg];exact Nat.ne_of_lt (yG (g:=vN) (Qi va)):vN≠vO));have n7_:=zA.mk ((by rw [hg];exact Nat.ne_of_gt (yG (g:=vN) (Qi va)):vO≠vN));have n8_:=zA.mk ((by rw [hg];exact Nat.ne_of_lt (yG (g:=we) (Qi vq)):we≠vO));have n9_:=zA.mk ((by rw [hg];exact Nat.ne_of_gt (yG (g:=we) (Qi vq)):vO≠we));clear va vq HB;have va:=n0_;have vq:=n1_;have HB:=n2_;have wu:=n3_;have GW366:=n4_;have GE366:=n5_;have NB361_366:=n6_;have NB366_361:=n7_;have NB364_366:=n8_;have NB366_364:=n9_;clear n0_ n1_ n2_ n3_ n4_ n5_ n6_ n7_ n8_ n9_ hb hbox hg;have hnb63:=NB366_361.out;have hnc63:=NB361_366.out;have hnb64:=NB366_364.out;have hnc64:=NB364_366.out;have hcz65_0:=Qn wu 0 rfl;have hcz65_1:=Qn wu 1 rfl;have hfz65_0:=zB wu.out 0;have hfz65_1:=zB wu.out 1;have hcz66_0:=Qn va 0 rfl;have hcz66_1:=Qn va 1 rfl;have hcz66_2:=Qn va 2 rfl;have hcz66_3:=Qn va 3 rfl;have hfz66_0:=zB va.out 0;have hfz66_1:=zB va.out 1;have hfz66_2:=zB va.out 2;have hfz66_3:=zB va.out 3))
                        go_roundg k6
                        case measure=>have:=HJ1.out;have:=HK2.out;have:=HJ20.out;have:=HK4.out;have:=HJ28.out;have:=HK6.out;omega
                        case rel=>exact ⟨(wrap64 (x6_6 + 1)),Zb,H',⟨by have:=HJ1.out;have:=HK2.out;have:=HJ20.out;have:=HK4.out;have:=HJ28.out;have:=HK6.out;omega⟩,⟨by (with_reducible repeat (first|refine zO ?_ _|refine zQ ?_|refine zM ?_ _));refine yJ ?_ NB361_366.out _;(with_reducible repeat (first|refine zO ?_ _|refine zQ ?_|refine zM ?_ _));refine yJ ?_ NB361_366.out _;(with_reducible repeat (first|refine zO ?_ _|refine zQ ?_|refine zM ?_ _));exact va.out⟩,⟨by (with_reducible repeat (first|refine zO ?_ _|refine zQ ?_|refine zM ?_ _));refine yJ ?_ NB364_366.out _;(with_reducible repeat (first|refine zO ?_ _|refine zQ ?_|refine zM ?_ _));refine yJ ?_ NB364_366.out _;(with_reducible repeat (first|refine zO ?_ _|refine zQ ?_|refine zM ?_ _));exact vq.out⟩,⟨by repeat (first|(with_reducible first|exact HB.out|apply zG|apply zC|apply zF|refine zK ?_ vE.out|refine zK ?_ wt.out|refine zK ?_ GE366.out)|exact HB.out)⟩⟩
                     ·replace c44:=Bool.eq_false_iff.mpr c44
                      subst c44
                      have H1:(if ((zi ((zD l0_3 x4_4).f1) x6_6).f1) < 0 then (some 4) else (if ((zi ((zD l0_3 x4_4).f1) x6_6).f1)≥(l0_2.length:Int) then (some 4) else (zI.l2 k6 x4_4 (wrap64 (x6_6 + 1)) a0_0 a0_1 l0_2 l0_3 ((zD l0_3 x4_4).f0) ((zD l0_3 x4_4).f1))))=some r:=by rw [if_neg (show ¬(false=true) by decide)] at H;exact H
                      clear H;have H:=H1;clear H1
                      by_cases c67:((zi ((zD l0_3 x4_4).f1) x6_6).f1) < 0
                      ·rw [if_pos c67] at H
                       have c67b0:=decide_eq_true c67;clear c67;obtain rfl:=Option.some.inj H;have hnb68:=NB364_361.out;have hnc68:=NB361_364.out;have hcz69_0:=Qn vq 0 rfl;have hcz69_1:=Qn vq 1 rfl;have hfz69_0:=zB vq.out 0;have hfz69_1:=zB vq.out 1;have p365:0≤(x6_6:Int):=Qa;have q365:x6_6 < (((zD l0_3 x4_4).f1).length:Int):=Qa;obtain ⟨ad365,e365,hx365_0,hx365_1⟩:=ZF HR363_1.out x6_6 p365 q365
                       (try rw [←Nbq43.out] at hx365_0)
                       cases e365;replace hx365_0:=(HB.out.cell (ZzA w _ hx365_0)).trans hx365_0;replace hx365_1:=(HB.out.cell (ZzA w _ hx365_1)).trans hx365_1;replace p365:=eq_true p365;replace q365:=eq_true q365
                       go_wp2_with (first|((with_reducible refine yB (N:=7) rfl ?_);(try (refine yV (by rfl) ?_;dsimp only));refine yH ?hg (N:=7) ?hd (cs:= #[.bool false, .int .i64 0]) (t:=51) ?hr ?_;(case hd=>rfl);(case hg=>rfl);(case hr=>exact Qm);intro vO hg w70 hbox hb;have n2_:=zA.mk (zH (Qe vE wt) hb);have n3_:=zA.mk (hbox);have n4_:=zA.mk ((by rw [hg];exact (zE (Qe vE wt)):w.heap.size≤vO));have n5_:=zA.mk ((by rw [hg];exact (zE (Qe vE wt)):w.heap.size≤vO));have n6_:=zA.mk ((by rw [hg];exact Nat.ne_of_lt (yG (g:=vN) (Qi va)):vN≠vO));have n7_:=zA.mk ((by rw [hg];exact Nat.ne_of_gt (yG (g:=vN) (Qi va)):vO≠vN));have n8_:=zA.mk ((by rw [hg];exact Nat.ne_of_lt (yG (g:=we) (Qi vq)):we≠vO));have n9_:=zA.mk ((by rw [hg];exact Nat.ne_of_gt (yG (g:=we) (Qi vq)):vO≠we));clear HB;have HB:=n2_;have wu:=n3_;have GW366:=n4_;have GE366:=n5_;have NB361_366:=n6_;have NB366_361:=n7_;have NB364_366:=n8_;have NB366_364:=n9_;clear n2_ n3_ n4_ n5_ n6_ n7_ n8_ n9_ hb hbox hg;have hnb71:=NB366_361.out;have hnc71:=NB361_366.out;have hnb72:=NB366_364.out;have hnc72:=NB364_366.out;have hcz73_0:=Qn wu 0 rfl;have hcz73_1:=Qn wu 1 rfl;have hfz73_0:=zB wu.out 0;have hfz73_1:=zB wu.out 1))
                       go_ret
                       exact ⟨by first|rfl|(simp [zS,zT] <;> rfl)|(simp [*,zS,zT] <;> rfl),by repeat (first|(with_reducible first|exact HB.out|apply zG|apply zC|apply zF|refine zK ?_ vE.out|refine zK ?_ wt.out|refine zK ?_ GE366.out)|exact HB.out)⟩
                      ·rw [if_neg c67] at H
                       have c67b0:=decide_eq_false c67;clear c67
                       by_cases c74:((zi ((zD l0_3 x4_4).f1) x6_6).f1)≥(l0_2.length:Int)
                       ·rw [if_pos c74] at H
                        have c74b0:=decide_eq_true c74;clear c74;obtain rfl:=Option.some.inj H;have hnb75:=NB364_361.out;have hnc75:=NB361_364.out;have hcz76_0:=Qn vq 0 rfl;have hcz76_1:=Qn vq 1 rfl;have hfz76_0:=zB vq.out 0;have hfz76_1:=zB vq.out 1;have p365:0≤(x6_6:Int):=Qa;have q365:x6_6 < (((zD l0_3 x4_4).f1).length:Int):=Qa;obtain ⟨ad365,e365,hx365_0,hx365_1⟩:=ZF HR363_1.out x6_6 p365 q365
                        (try rw [←Nbq43.out] at hx365_0)
                        cases e365;replace hx365_0:=(HB.out.cell (ZzA w _ hx365_0)).trans hx365_0;replace hx365_1:=(HB.out.cell (ZzA w _ hx365_1)).trans hx365_1;replace p365:=eq_true p365;replace q365:=eq_true q365
                        go_wp2_with (first|((with_reducible refine yB (N:=7) rfl ?_);(try (refine yV (by rfl) ?_;dsimp only));refine yH ?hg (N:=7) ?hd (cs:= #[.bool false, .int .i64 0]) (t:=51) ?hr ?_;(case hd=>rfl);(case hg=>rfl);(case hr=>exact Qm);intro vO hg w77 hbox hb;have n0_:=zA.mk (ze (g:=vN) (Qi va) hb);have n2_:=zA.mk (zH (Qe vE wt) hb);have n3_:=zA.mk (hbox);have n4_:=zA.mk ((by rw [hg];exact (zE (Qe vE wt)):w.heap.size≤vO));have n5_:=zA.mk ((by rw [hg];exact (zE (Qe vE wt)):w.heap.size≤vO));have n6_:=zA.mk ((by rw [hg];exact Nat.ne_of_lt (yG (g:=vN) (Qi va)):vN≠vO));have n7_:=zA.mk ((by rw [hg];exact Nat.ne_of_gt (yG (g:=vN) (Qi va)):vO≠vN));have n8_:=zA.mk ((by rw [hg];exact Nat.ne_of_lt (yG (g:=we) (Qi vq)):we≠vO));have n9_:=zA.mk ((by rw [hg];exact Nat.ne_of_gt (yG (g:=we) (Qi vq)):vO≠we));clear va HB;have va:=n0_;have HB:=n2_;have wu:=n3_;have GW366:=n4_;have GE366:=n5_;have NB361_366:=n6_;have NB366_361:=n7_;have NB364_366:=n8_;have NB366_364:=n9_;clear n0_ n2_ n3_ n4_ n5_ n6_ n7_ n8_ n9_ hb hbox hg;have hnb78:=NB366_361.out;have hnc78:=NB361_366.out;have hnb79:=NB366_364.out;have hnc79:=NB364_366.out;have hcz80_0:=Qn wu 0 rfl;have hcz80_1:=Qn wu 1 rfl;have hfz80_0:=zB wu.out 0;have hfz80_1:=zB wu.out 1;have hcz81_0:=Qn va 0 rfl;have hcz81_1:=Qn va 1 rfl;have hcz81_2:=Qn va 2 rfl;have hcz81_3:=Qn va 3 rfl;have hfz81_0:=zB va.out 0;have hfz81_1:=zB va.out 1;have hfz81_2:=zB va.out 2;have hfz81_3:=zB va.out 3))
                        go_ret
                        exact ⟨by first|rfl|(simp [zS,zT] <;> rfl)|(simp [*,zS,zT] <;> rfl),by repeat (first|(with_reducible first|exact HB.out|apply zG|apply zC|apply zF|refine zK ?_ vE.out|refine zK ?_ wt.out|refine zK ?_ GE366.out)|exact HB.out)⟩
                       ·rw [if_neg c74] at H
                        have c74b0:=decide_eq_false c74;clear c74;have H':=zA.mk H;clear H;have hnb82:=NB364_361.out;have hnc82:=NB361_364.out;have hcz83_0:=Qn vq 0 rfl;have hcz83_1:=Qn vq 1 rfl;have hfz83_0:=zB vq.out 0;have hfz83_1:=zB vq.out 1;have p365:0≤(x6_6:Int):=Qa;have q365:x6_6 < (((zD l0_3 x4_4).f1).length:Int):=Qa;obtain ⟨ad365,e365,hx365_0,hx365_1⟩:=ZF HR363_1.out x6_6 p365 q365
                        (try rw [←Nbq43.out] at hx365_0)
                        cases e365;replace hx365_0:=(HB.out.cell (ZzA w _ hx365_0)).trans hx365_0;replace hx365_1:=(HB.out.cell (ZzA w _ hx365_1)).trans hx365_1;replace p365:=eq_true p365;replace q365:=eq_true q365
                        go_wp2_with (first|((with_reducible refine yB (N:=7) rfl ?_);(try (refine yV (by rfl) ?_;dsimp only));refine yH ?hg (N:=7) ?hd (cs:= #[.bool false, .int .i64 0]) (t:=51) ?hr ?_;(case hd=>rfl);(case hg=>rfl);(case hr=>exact Qm);intro vO hg w84 hbox hb;have n0_:=zA.mk (ze (g:=vN) (Qi va) hb);have n1_:=zA.mk (ze (g:=we) (Qi vq) hb);have n2_:=zA.mk (zH (Qe vE wt) hb);have n3_:=zA.mk (hbox);have n4_:=zA.mk ((by rw [hg];exact (zE (Qe vE wt)):w.heap.size≤vO));have n5_:=zA.mk ((by rw [hg];exact (zE (Qe vE wt)):w.heap.size≤vO));have n6_:=zA.mk ((by rw [hg];exact Nat.ne_of_lt (yG (g:=vN) (Qi va)):vN≠vO));have n7_:=zA.mk ((by rw [hg];exact Nat.ne_of_gt (yG (g:=vN) (Qi va)):vO≠vN));have n8_:=zA.mk ((by rw [hg];exact Nat.ne_of_lt (yG (g:=we) (Qi vq)):we≠vO));have n9_:=zA.mk ((by rw [hg];exact Nat.ne_of_gt (yG (g:=we) (Qi vq)):vO≠we));clear va vq HB;have va:=n0_;have vq:=n1_;have HB:=n2_;have wu:=n3_;have GW366:=n4_;have GE366:=n5_;have NB361_366:=n6_;have NB366_361:=n7_;have NB364_366:=n8_;have NB366_364:=n9_;clear n0_ n1_ n2_ n3_ n4_ n5_ n6_ n7_ n8_ n9_ hb hbox hg;have hnb85:=NB366_361.out;have hnc85:=NB361_366.out;have hnb86:=NB366_364.out;have hnc86:=NB364_366.out;have hcz87_0:=Qn wu 0 rfl;have hcz87_1:=Qn wu 1 rfl;have hfz87_0:=zB wu.out 0;have hfz87_1:=zB wu.out 1;have hcz88_0:=Qn va 0 rfl;have hcz88_1:=Qn va 1 rfl;have hcz88_2:=Qn va 2 rfl;have hcz88_3:=Qn va 3 rfl;have hfz88_0:=zB va.out 0;have hfz88_1:=zB va.out 1;have hfz88_2:=zB va.out 2;have hfz88_3:=zB va.out 3))
                        go_roundg k6
                        case measure=>have:=HJ1.out;have:=HK2.out;have:=HJ20.out;have:=HK4.out;have:=HJ28.out;have:=HK6.out;omega
                        case rel=>exact ⟨(wrap64 (x6_6 + 1)),Zb,H',⟨by have:=HJ1.out;have:=HK2.out;have:=HJ20.out;have:=HK4.out;have:=HJ28.out;have:=HK6.out;omega⟩,⟨by (with_reducible repeat (first|refine zO ?_ _|refine zQ ?_|refine zM ?_ _));refine yJ ?_ NB361_366.out _;(with_reducible repeat (first|refine zO ?_ _|refine zQ ?_|refine zM ?_ _));refine yJ ?_ NB361_366.out _;(with_reducible repeat (first|refine zO ?_ _|refine zQ ?_|refine zM ?_ _));exact va.out⟩,⟨by (with_reducible repeat (first|refine zO ?_ _|refine zQ ?_|refine zM ?_ _));refine yJ ?_ NB364_366.out _;(with_reducible repeat (first|refine zO ?_ _|refine zQ ?_|refine zM ?_ _));refine yJ ?_ NB364_366.out _;(with_reducible repeat (first|refine zO ?_ _|refine zQ ?_|refine zM ?_ _));exact vq.out⟩,⟨by repeat (first|(with_reducible first|exact HB.out|apply zG|apply zC|apply zF|refine zK ?_ vE.out|refine zK ?_ wt.out|refine zK ?_ GE366.out)|exact HB.out)⟩⟩
                    ·rw [if_neg c42] at H
                     exact absurd H (by simp)
                   ·rw [if_neg c41] at H
                    have c41b0:=decide_eq_false c41;clear c41;have H':=zA.mk H;clear H;have hnb89:=NB364_361.out;have hnc89:=NB361_364.out;have hcz90_0:=Qn vq 0 rfl;have hcz90_1:=Qn vq 1 rfl;have hfz90_0:=zB vq.out 0;have hfz90_1:=zB vq.out 1
                    go_wp2
                    go_roundg k6
                    case measure=>have:=HJ1.out;have:=HK2.out;have:=HJ20.out;have:=HK4.out;have:=HJ28.out;have:=HK6.out;omega
                    case rel=>exact ⟨(wrap64 (x4_4 + 1)),Zb,H',⟨by have:=HJ1.out;have:=HK2.out;have:=HJ20.out;have:=HK4.out;have:=HJ28.out;have:=HK6.out;omega⟩,⟨Qi va⟩,⟨by repeat (first|(with_reducible first|exact HB.out|apply zG|apply zC|apply zF|refine zK ?_ vE.out|refine zK ?_ wt.out)|exact HB.out)⟩⟩
             ·rw [if_neg c28] at H
              exact absurd H (by simp)
            ·rw [if_neg c27] at H
             have c27b0:=decide_eq_false c27;clear c27;obtain rfl:=Option.some.inj H;have hcz91_0:=Qn va 0 rfl;have hcz91_1:=Qn va 1 rfl;have hcz91_2:=Qn va 2 rfl;have hcz91_3:=Qn va 3 rfl;have hfz91_0:=zB va.out 0;have hfz91_1:=zB va.out 1;have hfz91_2:=zB va.out 2;have hfz91_3:=zB va.out 3
             go_wp2
             go_ret
             exact ⟨by first|rfl|(simp [zS,zT] <;> rfl)|(simp [*,zS,zT] <;> rfl),by repeat (first|(with_reducible first|exact HB.out|apply zG|apply zC|apply zF|refine zK ?_ vE.out)|exact HB.out)⟩
end Go.Proofs.Ytlanhkekjhlmjaa.HGuessWords
