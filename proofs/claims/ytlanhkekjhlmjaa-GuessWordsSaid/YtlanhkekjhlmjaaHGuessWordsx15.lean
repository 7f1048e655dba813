-- Written by plus.py for this claim.
import Derived.Test.YtlanhkekjhlmjaaSGuessWordsVZip
import Derived.Test.YtlanhkekjhlmjaaHGuessWordsx0
namespace Go.Proofs.Ytlanhkekjhlmjaa.HGuessWords
open Go.RowKit Go.Proofs.YtlanhkekjhlmjaaW.PrintWords Go.Proofs.YtlanhkekjhlmjaaW.PrintLast Go.Proofs.YtlanhkekjhlmjaaW.PrintMore
attribute [local go_sem] yq yr ZM ZN yj yk yt yu   -- for this text's walks alone
set_option linter.unusedVariables false
set_option linter.unusedSimpArgs false
def zw.l0:Nat→List (S51)→Bool→List Bool→Int→Option (Bool)
 | 0,_,_,_,_=>none
 | k + 1,x0,x1,x2,x7=>if x7 < (x0.length:Int) then (if 0≤x7 then (if (zi x0 x7).f0=true then (if x1=true then (zw.l0 k x0 x1 x2 (wrap64 (x7 + 1))) else (some false)) else (if 0≤((zi x0 x7).f1) then (if ((zi x0 x7).f1) < (x2.length:Int) then (if rdOf false x2 ((zi x0 x7).f1)=true then (zw.l0 k x0 x1 x2 (wrap64 (x7 + 1))) else (some false)) else (none)) else (none))) else (none)) else (some true)
def zw.f (k:Nat) (l0:List (S51)) (a1:Bool) (l2:List Bool):Option (Bool):=zw.l0 k l0 a1 l2 0
theorem zw.mono_l:∀k,(∀y0 y1 y2 y3,LeO (zw.l0 k y0 y1 y2 y3) (zw.l0 (k + 1) y0 y1 y2 y3))
 | 0=>fun _ _ _ _ r h=>by simp [zw.l0] at h
 | k + 1=>by
  have ih0:=zw.mono_l k
  ·intro y0 y1 y2 y3
   unfold zw.l0
   repeat' first
   | with_reducible first|exact ih0 _ _ _ _|exact LeO.refl _|exact LeO.none _|refine LeO.ite ?_ ?_|refine LeO.bind ?_ (fun _=> ?_)
   | exact ih0 _ _ _ _|exact LeO.none _|refine LeO.ite ?_ ?_|refine LeO.bind ?_ (fun _=> ?_)
theorem zw.mono:∀a0 a1 a2 k,LeO (zw.f k a0 a1 a2) (zw.f (k + 1) a0 a1 a2):=by
 intro a0 a1 a2 k;have ih0:=zw.mono_l k
 unfold zw.f
 repeat' first
   | with_reducible first|exact ih0 _ _ _ _|exact LeO.refl _|exact LeO.none _|refine LeO.ite ?_ ?_|refine LeO.bind ?_ (fun _=> ?_)
   | exact ih0 _ _ _ _|exact LeO.none _|refine LeO.ite ?_ ?_|refine LeO.bind ?_ (fun _=> ?_)
set_option maxHeartbeats 8000000 in
set_option maxRecDepth 100000 in
theorem zw.calls (k:Nat) (A0:Option Addr) (c0:Nat) (l0:List (S51)) (a1:Bool) (A2:Option Addr) (c2:Nat) (l2:List Bool) (r:Bool) (w:World) (hr0:Kd.C k51 w A0 l0.length l0) (hc0:l0.length≤c0) (hr2:Kd.C Kd.bool w A2 l2.length l2) (hc2:l2.length≤c2) (h:zw.f k l0 a1 l2=some r) :
  Calls Try.prog 41 #[.slice A0 l0.length c0, .bool a1, .slice A2 l2.length c2] w fun e w'=>e= .returned (.bool r)∧yL w w':=by
 have HR0:=zA.mk hr0;have HC0:=zA.mk hc0;clear hr0 hc0;have HR2:=zA.mk hr2;have HC2:=zA.mk hc2;clear hr2 hc2;have H:(zw.l0 k l0 a1 l2 0)=some r:=h;clear h;have H':=zA.mk H;clear H
 go_enter Try.func41,Try.ntmps41
 go_wp2
 go_loopg [7] k (fun kq v7 w'=>∃(x7_1:Int),v7= .int .i64 x7_1∧zA (zw.l0 kq l0 a1 l2 x7_1=some r)∧zA (kq≤k)∧yL w w')
 case atStart=>exact ⟨(0),Zb,H',⟨Nat.le_refl _⟩,by repeat (first|exact yL.refl _|apply yL.step)⟩
 case round=>
  clear H';(try clear c2);(try clear p2);obtain ⟨x7_1,rfl,HA,HK1,⟨m1,rfl⟩⟩:=hrel;cases gk with
  | zero=>exact absurd HA.out (by simp [zw.l0])
  | succ k1=>
   have H:=HA.out;clear HA;simp only [zw.l0] at H
   by_cases c4:x7_1 < (l0.length:Int)
   ·rw [if_pos c4] at H
    have c4b0:=decide_eq_true c4;clear c4
    by_cases c5:0≤x7_1
    ·rw [if_pos c5] at H
     have c5b0:=decide_eq_true c5;clear c5;obtain ⟨bq6,hbq6⟩:∃b_:Bool,b_=((zi l0 x7_1).f0):=⟨_,rfl⟩
     replace H:(if bq6=true then (if a1=true then (zw.l0 k1 l0 a1 l2 (wrap64 (x7_1 + 1))) else (some false)) else (if 0≤((zi l0 x7_1).f1) then (if ((zi l0 x7_1).f1) < (l2.length:Int) then (if rdOf false l2 ((zi l0 x7_1).f1)=true then (zw.l0 k1 l0 a1 l2 (wrap64 (x7_1 + 1))) else (some false)) else (none)) else (none)))=some r:=by rw [←hbq6] at H;exact H
     have Nbq6:=zA.mk hbq6;clear hbq6
     by_cases c7:bq6=true
     ·subst c7
      have H1:(if a1=true then (zw.l0 k1 l0 a1 l2 (wrap64 (x7_1 + 1))) else (some false))=some r:=by rw [if_pos rfl] at H;exact H
      clear H;have H:=H1;clear H1
      by_cases c8:a1=true
      ·subst c8
       have H1:(zw.l0 k1 l0 true l2 (wrap64 (x7_1 + 1)))=some r:=by rw [if_pos rfl] at H;exact H
       clear H;have H:=H1;clear H1;have H':=zA.mk H;clear H;have p367:0≤(x7_1:Int):=Qa;have q367:x7_1 < (l0.length:Int):=Qa;obtain ⟨ad367,e367,hx367_0,hx367_1⟩:=ZF HR0.out x7_1 p367 q367
       (try rw [←Nbq6.out] at hx367_0)
       cases e367;replace p367:=eq_true p367;replace q367:=eq_true q367;have p368:0≤(x7_1:Int):=Qa;have q368:x7_1 < (l0.length:Int):=Qa;obtain ⟨ad368,e368,hx368_0,hx368_1⟩:=ZF HR0.out x7_1 p368 q368
       (try rw [←Nbq6.out] at hx368_0)
       obtain rfl:ad367=ad368:=(by injection e368);replace p368:=eq_true p368;replace q368:=eq_true q368
       go_wp2
       go_roundg k1
       case measure=>have:=HK1.out;omega
       case rel=>exact ⟨(wrap64 (x7_1 + 1)),Zb,H',⟨by have:=HK1.out;omega⟩,by repeat (first|exact yL.refl _|apply yL.step)⟩
      ·replace c8:=Bool.eq_false_iff.mpr c8
       subst c8
       have H1:(some false)=some r:=by rw [if_neg (show ¬(false=true) by decide)] at H;exact H
       clear H;have H:=H1;clear H1;obtain rfl:=Option.some.inj H;have p367:0≤(x7_1:Int):=Qa;have q367:x7_1 < (l0.length:Int):=Qa;obtain ⟨ad367,e367,hx367_0,hx367_1⟩:=ZF HR0.out x7_1 p367 q367
       (try rw [←Nbq6.out] at hx367_0)
       cases e367;replace p367:=eq_true p367;replace q367:=eq_true q367
       go_wp2
       go_ret
       exact ⟨by first|rfl|(simp;done)|(simp [*];done),by repeat (first|exact yL.refl _|apply yL.step)⟩
     ·replace c7:=Bool.eq_false_iff.mpr c7
      subst c7
      have H1:(if 0≤((zi l0 x7_1).f1) then (if ((zi l0 x7_1).f1) < (l2.length:Int) then (if rdOf false l2 ((zi l0 x7_1).f1)=true then (zw.l0 k1 l0 a1 l2 (wrap64 (x7_1 + 1))) else (some false)) else (none)) else (none))=some r:=by rw [if_neg (show ¬(false=true) by decide)] at H;exact H
      clear H;have H:=H1;clear H1
      by_cases c9:0≤((zi l0 x7_1).f1)
      ·rw [if_pos c9] at H
       have c9b0:=decide_eq_true c9;clear c9
       by_cases c10:((zi l0 x7_1).f1) < (l2.length:Int)
       ·rw [if_pos c10] at H
        have c10b0:=decide_eq_true c10;clear c10;obtain ⟨bq11,hbq11⟩:∃b_:Bool,b_=(rdOf false l2 ((zi l0 x7_1).f1)):=⟨_,rfl⟩
        replace H:(if bq11=true then (zw.l0 k1 l0 a1 l2 (wrap64 (x7_1 + 1))) else (some false))=some r:=by rw [←hbq11] at H;exact H
        have Nbq11:=zA.mk hbq11;clear hbq11
        by_cases c12:bq11=true
        ·subst c12
         have H1:(zw.l0 k1 l0 a1 l2 (wrap64 (x7_1 + 1)))=some r:=by rw [if_pos rfl] at H;exact H
         clear H;have H:=H1;clear H1;have H':=zA.mk H;clear H;have p367:0≤(x7_1:Int):=Qa;have q367:x7_1 < (l0.length:Int):=Qa;obtain ⟨ad367,e367,hx367_0,hx367_1⟩:=ZF HR0.out x7_1 p367 q367
         (try rw [←Nbq6.out] at hx367_0)
         (try rw [←Nbq11.out] at hx367_0)
         cases e367;replace p367:=eq_true p367;replace q367:=eq_true q367;have p369:0≤(x7_1:Int):=Qa;have q369:x7_1 < (l0.length:Int):=Qa;obtain ⟨ad369,e369,hx369_0,hx369_1⟩:=ZF HR0.out x7_1 p369 q369
         (try rw [←Nbq6.out] at hx369_0)
         (try rw [←Nbq11.out] at hx369_0)
         obtain rfl:ad367=ad369:=(by injection e369);replace p369:=eq_true p369;replace q369:=eq_true q369;have p370:0≤(x7_1:Int):=Qa;have q370:x7_1 < (l0.length:Int):=Qa;obtain ⟨ad370,e370,hx370_0,hx370_1⟩:=ZF HR0.out x7_1 p370 q370
         (try rw [←Nbq6.out] at hx370_0)
         (try rw [←Nbq11.out] at hx370_0)
         obtain rfl:ad367=ad370:=(by injection e370);replace p370:=eq_true p370;replace q370:=eq_true q370;have p371:0≤(((zi l0 x7_1).f1):Int):=Qa;have q371:((zi l0 x7_1).f1) < (l2.length:Int):=Qa;obtain ⟨ad371,e371,hx371_0⟩:=Kd.at_bool HR2.out ((zi l0 x7_1).f1) p371 q371
         (try rw [←Nbq6.out] at hx371_0)
         (try rw [←Nbq11.out] at hx371_0)
         cases e371;replace p371:=eq_true p371;replace q371:=eq_true q371
         go_wp2
         go_roundg k1
         case measure=>have:=HK1.out;omega
         case rel=>exact ⟨(wrap64 (x7_1 + 1)),Zb,H',⟨by have:=HK1.out;omega⟩,by repeat (first|exact yL.refl _|apply yL.step)⟩
        ·replace c12:=Bool.eq_false_iff.mpr c12
         subst c12
         have H1:(some false)=some r:=by rw [if_neg (show ¬(false=true) by decide)] at H;exact H
         clear H;have H:=H1;clear H1;obtain rfl:=Option.some.inj H;have p367:0≤(x7_1:Int):=Qa;have q367:x7_1 < (l0.length:Int):=Qa;obtain ⟨ad367,e367,hx367_0,hx367_1⟩:=ZF HR0.out x7_1 p367 q367
         (try rw [←Nbq6.out] at hx367_0)
         (try rw [←Nbq11.out] at hx367_0)
         cases e367;replace p367:=eq_true p367;replace q367:=eq_true q367;have p369:0≤(x7_1:Int):=Qa;have q369:x7_1 < (l0.length:Int):=Qa;obtain ⟨ad369,e369,hx369_0,hx369_1⟩:=ZF HR0.out x7_1 p369 q369
         (try rw [←Nbq6.out] at hx369_0)
         (try rw [←Nbq11.out] at hx369_0)
         obtain rfl:ad367=ad369:=(by injection e369);replace p369:=eq_true p369;replace q369:=eq_true q369;have p370:0≤(x7_1:Int):=Qa;have q370:x7_1 < (l0.length:Int):=Qa;obtain ⟨ad370,e370,hx370_0,hx370_1⟩:=ZF HR0.out x7_1 p370 q370
         (try rw [←Nbq6.out] at hx370_0)
         (try rw [←Nbq11.out] at hx370_0)
         obtain rfl:ad367=ad370:=(by injection e370);replace p370:=eq_true p370;replace q370:=eq_true q370;have p371:0≤(((zi l0 x7_1).f1):Int):=Qa;have q371:((zi l0 x7_1).f1) < (l2.length:Int):=Qa;obtain ⟨ad371,e371,hx371_0⟩:=Kd.at_bool HR2.out ((zi l0 x7_1).f1) p371 q371
         (try rw [←Nbq6.out] at hx371_0)
         (try rw [←Nbq11.out] at hx371_0)
         cases e371;replace p371:=eq_true p371;replace q371:=eq_true q371
         go_wp2
         go_ret
         exact ⟨by first|rfl|(simp;done)|(simp [*];done),by repeat (first|exact yL.refl _|apply yL.step)⟩
       ·rw [if_neg c10] at H
        exact absurd H (by simp)
      ·rw [if_neg c9] at H
       exact absurd H (by simp)
    ·rw [if_neg c5] at H
     exact absurd H (by simp)
   ·rw [if_neg c4] at H
    have c4b0:=decide_eq_false c4;clear c4;obtain rfl:=Option.some.inj H
    go_wp2
    go_ret
    exact ⟨by first|rfl|(simp;done)|(simp [*];done),by repeat (first|exact yL.refl _|apply yL.step)⟩
mutual
def zf.l0:Nat→Bool→List Bool→Bool→Int→Int→List Int→List (S45)→Option (List Bool)
 | 0,_,_,_,_,_,_,_=>none
 | k + 1,x1,x5,x6,x373000,x373001,x373002,wX=>if x6=true then (zf.l1 k x1 x5 false 0 x373000 x373001 x373002 wX) else (some x5)
def zf.l1:Nat→Bool→List Bool→Bool→Int→Int→Int→List Int→List (S45)→Option (List Bool)
 | 0,_,_,_,_,_,_,_,_=>none
 | k + 1,x1,x5,x6,x7,x373000,x373001,x373002,wX=>if x7 < (wX.length:Int) then (if 0≤x7 then (if 0≤((zD wX x7).f0) then (if ((zD wX x7).f0) < (x5.length:Int) then (if rdOf false x5 ((zD wX x7).f0)=true then (zf.l1 k x1 x5 x6 (wrap64 (x7 + 1)) x373000 x373001 x373002 wX) else ((zw.f k ((zD wX x7).f1) x1 x5).bind fun t379=>(if t379=true then (zf.l1 k x1 (x5.set (((zD wX x7).f0):Int).toNat true) true (wrap64 (x7 + 1)) x373000 x373001 x373002 wX) else (zf.l1 k x1 x5 x6 (wrap64 (x7 + 1)) x373000 x373001 x373002 wX)))) else (none)) else (none)) else (none)) else (zf.l0 k x1 x5 x6 x373000 x373001 x373002 wX)
end
def zf.f (k:Nat) (a0_0:Int) (a0_1:Int) (l0_2:List Int) (l0_3:List (S45)) (a1:Bool):Option (List Bool):=if 0≤(l0_2.length:Int) then (if ((l0_2.length:Int):Int).toNat≤281474976710656 then (zf.l0 k a1 (List.replicate ((l0_2.length:Int):Int).toNat false) true a0_0 a0_1 l0_2 l0_3) else (none)) else (none)
theorem zf.mono_l:∀k,(∀y0 y1 y2 y3 y4 y5 y6,LeO (zf.l0 k y0 y1 y2 y3 y4 y5 y6) (zf.l0 (k + 1) y0 y1 y2 y3 y4 y5 y6))∧(∀y0 y1 y2 y3 y4 y5 y6 y7,LeO (zf.l1 k y0 y1 y2 y3 y4 y5 y6 y7) (zf.l1 (k + 1) y0 y1 y2 y3 y4 y5 y6 y7))
 | 0=>⟨fun _ _ _ _ _ _ _ r h=>by simp [zf.l0] at h,fun _ _ _ _ _ _ _ _ r h=>by simp [zf.l1] at h⟩
 | k + 1=>by
  obtain ⟨ih0,ih1⟩:=zf.mono_l k;refine ⟨?_,?_⟩
  ·intro y0 y1 y2 y3 y4 y5 y6
   unfold zf.l0
   repeat' first
   | with_reducible first|exact ih0 _ _ _ _ _ _ _|exact ih1 _ _ _ _ _ _ _ _|exact zw.mono _ _ _ _|exact LeO.refl _|exact LeO.none _|refine LeO.ite ?_ ?_|refine LeO.bind ?_ (fun _=> ?_)
   | exact ih0 _ _ _ _ _ _ _|exact ih1 _ _ _ _ _ _ _ _|exact zw.mono _ _ _ _|exact LeO.none _|refine LeO.ite ?_ ?_|refine LeO.bind ?_ (fun _=> ?_)
  ·intro y0 y1 y2 y3 y4 y5 y6 y7
   unfold zf.l1
   repeat' first
   | with_reducible first|exact ih0 _ _ _ _ _ _ _|exact ih1 _ _ _ _ _ _ _ _|exact zw.mono _ _ _ _|exact LeO.refl _|exact LeO.none _|refine LeO.ite ?_ ?_|refine LeO.bind ?_ (fun _=> ?_)
   | exact ih0 _ _ _ _ _ _ _|exact ih1 _ _ _ _ _ _ _ _|exact zw.mono _ _ _ _|exact LeO.none _|refine LeO.ite ?_ ?_|refine LeO.bind ?_ (fun _=> ?_)
theorem zf.mono:∀a0 a1 a2 a3 a4 k,LeO (zf.f k a0 a1 a2 a3 a4) (zf.f (k + 1) a0 a1 a2 a3 a4):=by
 intro a0 a1 a2 a3 a4 k;obtain ⟨ih0,ih1⟩:=zf.mono_l k
 unfold zf.f
 repeat' first
   | with_reducible first|exact ih0 _ _ _ _ _ _ _|exact ih1 _ _ _ _ _ _ _ _|exact zw.mono _ _ _ _|exact LeO.refl _|exact LeO.none _|refine LeO.ite ?_ ?_|refine LeO.bind ?_ (fun _=> ?_)
   | exact ih0 _ _ _ _ _ _ _|exact ih1 _ _ _ _ _ _ _ _|exact zw.mono _ _ _ _|exact LeO.none _|refine LeO.ite ?_ ?_|refine LeO.bind ?_ (fun _=> ?_)
set_option maxHeartbeats 8000000 in
set_option maxRecDepth 100000 in
theorem zf.calls (k:Nat) (a0_0:Int) (a0_1:Int) (vi:Option Addr) (vk:Nat) (l0_2:List Int) (vp:Option Addr) (vl:Nat) (l0_3:List (S45)) (a1:Bool) (r:List Bool) (w:World) (hr0_2:Kd.C (Kd.int .i64) w vi l0_2.length l0_2) (hc0_2:l0_2.length≤vk) (hr0_3:Kd.C k45 w vp l0_3.length l0_3) (hc0_3:l0_3.length≤vl) (h:zf.f k a0_0 a0_1 l0_2 l0_3 a1=some r) :
  Calls Try.prog 24 #[.agg #[.int .i64 a0_0, .int .i64 a0_1, .slice vi l0_2.length vk, .slice vp l0_3.length vl], .bool a1] w fun e w'=>∃v0_:Value,e= .returned (v0_)∧Kd.R Kd.bool 4 w' w.heap.size (fun _=>True) v0_ r∧Below w.heap.size w w':=by
 have hu25:=Try.underlying25;have wb:=zA.mk hr0_2;have wd:=zA.mk hc0_2;clear hr0_2 hc0_2;have vw:=zA.mk hr0_3;have wg:=zA.mk hc0_3;clear hr0_3 hc0_3;have HB:=zA.mk (Below.refl w.heap.size w);have H:(if 0≤(l0_2.length:Int) then (if ((l0_2.length:Int):Int).toNat≤281474976710656 then (zf.l0 k a1 (List.replicate ((l0_2.length:Int):Int).toNat false) true a0_0 a0_1 l0_2 l0_3) else (none)) else (none))=some r:=h;clear h
 by_cases c3:0≤(l0_2.length:Int)
 ·rw [if_pos c3] at H
  have c3b0:=eq_true c3;have c3b1:=decide_eq_true c3;clear c3
  by_cases c4:((l0_2.length:Int):Int).toNat≤281474976710656
  ·rw [if_pos c4] at H
   have c4b0:=eq_true c4;have c4b1:=decide_eq_true c4;clear c4;obtain ⟨y373,hy373⟩:∃y_:List Bool,y_=(List.replicate ((l0_2.length:Int):Int).toNat false):=⟨_,rfl⟩;replace H:(zf.l0 k a1 y373 true a0_0 a0_1 l0_2 l0_3)=some r:=Qb hy373 H;have Ny373:=zA.mk hy373;clear hy373;have H':=zA.mk H;clear H
   go_enter Try.func24,Try.ntmps24
   go_wp2_with (first|((with_reducible refine yB (N:=2) rfl ?_);refine yH ?hg (N:=2) ?hd (cs:= #[.int .i64 a0_0, .int .i64 a0_1, .slice vi l0_2.length vk, .slice vp l0_3.length vl]) (t:=25) ?hr ?_;(case hd=>rfl);(case hg=>rfl);(case hr=>exact Qm);intro gb372 hg w5 hbox hb;have n0_:=zA.mk (zH Qc hb);have n1_:=zA.mk (hbox);have n2_:=zA.mk ((by rw [hg];exact (zE Qc):w.heap.size≤gb372));have n3_:=zA.mk ((by rw [hg];exact (zE Qc):w.heap.size≤gb372));clear HB;have HB:=n0_;have vs:=n1_;have GW372:=n2_;have GE372:=n3_;clear n0_ n1_ n2_ n3_ hb hbox hg;have hcz6_0:=Qn vs 0 rfl;have hcz6_1:=Qn vs 1 rfl;have hcz6_2:=Qn vs 2 rfl;have hcz6_3:=Qn vs 3 rfl;have hfz6_0:=zB vs.out 0;have hfz6_1:=zB vs.out 1;have hfz6_2:=zB vs.out 2;have hfz6_3:=zB vs.out 3)|((with_reducible refine yB (N:=11) rfl ?_);refine Kd.R_make Kd.bool _ 4 rfl (N:=11) rfl 36 _ _ rfl (l0_2.length:Int) rfl rfl Try.underlying36 (.bool false) 1 info4 rfl (by decide) (by omega) false (ok:=fun _=>True) (okp:=fun _=>True) rfl (fun _ hk=>hk) trivial (Qa) (Nat.le_trans (Nat.mul_le_mul_right _ (Qa:(l0_2.length:Int).toNat≤281474976710656)) (by omega)) (Below.refl _ _) (Nat.le_refl _) ?_;intro v374 w7 ho8 hb hg_ hnew_;clear hg_ hnew_;(first|rw [←Ny373.out] at ho8|(simp only [Int.reduceToNat] at ho8;rw [←Ny373.out] at ho8));have n0_:=zA.mk (Kd.R_lower ho8 (zE (Qd GE372)));have n1_:=zA.mk (ze (g:=gb372) (Qi vs) hb);have n2_:=zA.mk (zH (Qd GE372) hb);clear vs HB;have HO375:=n0_;have vs:=n1_;have HB:=n2_;clear n0_ n1_ n2_ hb ho8))
   go_loopg [6] k (fun kq v6 w'=>∃(x5_1:List Bool) (x6_1:Bool),v6= .bool x6_1∧zA (zf.l0 kq a1 x5_1 x6_1 a0_0 a0_1 l0_2 l0_3=some r)∧zA (kq≤k)∧zA (Kd.R Kd.bool 4 w' w.heap.size (fun _=>True) v374 x5_1)∧zA (w'.heap[gb372]? =some (.cells #[.int .i64 a0_0, .int .i64 a0_1,(.slice vi l0_2.length vk),(.slice vp l0_3.length vl)] 25 (0,0)))∧zA (Below w.heap.size w w'))
   case atStart=>exact ⟨(y373),(true),Zb,H',⟨Nat.le_refl _⟩,⟨Qh HO375⟩,⟨Qi vs⟩,⟨by repeat (first|(with_reducible first|exact HB.out|apply zG|apply zC|apply zF|refine zK ?_ GE372.out)|exact HB.out)⟩⟩
   case round=>
    clear H';(try clear c2);(try clear p2);(try clear c3);(try clear c3b0);(try clear c3b1);(try clear c4);(try clear c4b0);(try clear c4b1);(try clear hcz6_0);(try clear hcz6_1);(try clear hcz6_2);(try clear hcz6_3);(try clear hfz6_0);(try clear hfz6_1);(try clear hfz6_2);(try clear hfz6_3);obtain ⟨x5_1,x6_1,rfl,HA,HK1,HO_5,vs,HB⟩:=hrel;cases gk with
    | zero=>exact absurd HA.out (by simp [zf.l0])
    | succ k1=>
     have H:=HA.out;clear HA;simp only [zf.l0] at H
     by_cases c9:x6_1=true
     ·subst c9
      have H1:(zf.l1 k1 a1 x5_1 false 0 a0_0 a0_1 l0_2 l0_3)=some r:=by rw [if_pos rfl] at H;exact H
      clear H;have H:=H1;clear H1;have H':=zA.mk H;clear H
      go_wp2
      go_loopg [6,7] k1 (fun kq v6 v7 w'=>∃(x5_2:List Bool) (x6_2:Bool) (x7_2:Int),v6= .bool x6_2∧v7= .int .i64 x7_2∧zA (zf.l1 kq a1 x5_2 x6_2 x7_2 a0_0 a0_1 l0_2 l0_3=some r)∧zA (kq≤k1)∧zA (Kd.R Kd.bool 4 w' w.heap.size (fun _=>True) v374 x5_2)∧zA (w'.heap[gb372]? =some (.cells #[.int .i64 a0_0, .int .i64 a0_1,(.slice vi l0_2.length vk),(.slice vp l0_3.length vl)] 25 (0,0)))∧zA (Below w.heap.size w w'))
      case atStart=>exact ⟨(x5_1),(false),(0),Zb,Zb,H',⟨Nat.le_refl _⟩,⟨Qh HO_5⟩,⟨Qi vs⟩,⟨by repeat (first|(with_reducible first|exact HB.out|apply zG|apply zC|apply zF|refine zK ?_ GE372.out)|exact HB.out)⟩⟩
      case round=>
       clear H';(try clear c2);(try clear p2);(try clear c3);(try clear c3b0);(try clear c3b1);(try clear c4);(try clear c4b0);(try clear c4b1);(try clear c9);(try clear hcz6_0);(try clear hcz6_1);(try clear hcz6_2);(try clear hcz6_3);(try clear hfz6_0);(try clear hfz6_1);(try clear hfz6_2);(try clear hfz6_3);(try clear p2);obtain ⟨x5_2,x6_2,x7_2,rfl,rfl,HA,HK2,HO_5,vs,HB⟩:=hrel;cases gk with
       | zero=>exact absurd HA.out (by simp [zf.l1])
       | succ k2=>
        have H:=HA.out;clear HA;simp only [zf.l1] at H
        by_cases c10:x7_2 < (l0_3.length:Int)
        ·rw [if_pos c10] at H
         have c10b0:=decide_eq_true c10;clear c10
         by_cases c11:0≤x7_2
         ·rw [if_pos c11] at H
          have c11b0:=decide_eq_true c11;clear c11
          by_cases c12:0≤((zD l0_3 x7_2).f0)
          ·rw [if_pos c12] at H
           have c12b0:=decide_eq_true c12;clear c12
           by_cases c13:((zD l0_3 x7_2).f0) < (x5_2.length:Int)
           ·rw [if_pos c13] at H
            have c13b0:=decide_eq_true c13;clear c13;obtain ⟨bq14,hbq14⟩:∃b_:Bool,b_=(rdOf false x5_2 ((zD l0_3 x7_2).f0)):=⟨_,rfl⟩
            replace H:(if bq14=true then (zf.l1 k2 a1 x5_2 x6_2 (wrap64 (x7_2 + 1)) a0_0 a0_1 l0_2 l0_3) else ((zw.f k2 ((zD l0_3 x7_2).f1) a1 x5_2).bind fun t379=>(if t379=true then (zf.l1 k2 a1 (x5_2.set (((zD l0_3 x7_2).f0):Int).toNat true) true (wrap64 (x7_2 + 1)) a0_0 a0_1 l0_2 l0_3) else (zf.l1 k2 a1 x5_2 x6_2 (wrap64 (x7_2 + 1)) a0_0 a0_1 l0_2 l0_3))))=some r:=by rw [←hbq14] at H;exact H
            have Nbq14:=zA.mk hbq14;clear hbq14
            by_cases c15:bq14=true
            ·subst c15
             have H1:(zf.l1 k2 a1 x5_2 x6_2 (wrap64 (x7_2 + 1)) a0_0 a0_1 l0_2 l0_3)=some r:=by rw [if_pos rfl] at H;exact H
             clear H;have H:=H1;clear H1;have H':=zA.mk H;clear H;have hcz16_0:=Qn vs 0 rfl;have hcz16_1:=Qn vs 1 rfl;have hcz16_2:=Qn vs 2 rfl;have hcz16_3:=Qn vs 3 rfl;have hfz16_0:=zB vs.out 0;have hfz16_1:=zB vs.out 1;have hfz16_2:=zB vs.out 2;have hfz16_3:=zB vs.out 3;have p376:0≤(x7_2:Int):=Qa;have q376:x7_2 < (l0_3.length:Int):=Qa;obtain ⟨ad376,A376_1,c376_1,e376,hx376_0,hx376_1,hl376_1,hi376_1⟩:=yv vw.out x7_2 p376 q376;cases e376;replace hx376_0:=(HB.out.cell (ZzA w _ hx376_0)).trans hx376_0;replace hx376_1:=(HB.out.cell (ZzA w _ hx376_1)).trans hx376_1;have HR376_1:=zA.mk hi376_1;have HC376_1:=zA.mk hl376_1;clear hi376_1 hl376_1;replace p376:=eq_true p376;replace q376:=eq_true q376;obtain ⟨Ao17,co17,eo17⟩:=Kd.R_slice HO_5.out;subst eo17;have p377:0≤(((zD l0_3 x7_2).f0):Int):=Qa;have q377:((zD l0_3 x7_2).f0) < (x5_2.length:Int):=Qa;obtain ⟨ad377,e377,hx377_0⟩:=Kd.at_bool (Kd.R_reads' HO_5.out).2.2 ((zD l0_3 x7_2).f0) p377 q377
             (try rw [←Nbq14.out] at hx377_0)
             cases e377;replace p377:=eq_true p377;replace q377:=eq_true q377
             go_wp2
             go_roundg k2
             case measure=>have:=HK1.out;have:=HK2.out;omega
             case rel=>exact ⟨(x5_2),(x6_2),(wrap64 (x7_2 + 1)),Zb,Zb,H',⟨by have:=HK1.out;have:=HK2.out;omega⟩,⟨Qh HO_5⟩,⟨Qi vs⟩,⟨by repeat (first|(with_reducible first|exact HB.out|apply zG|apply zC|apply zF|refine zK ?_ GE372.out)|exact HB.out)⟩⟩
            ·replace c15:=Bool.eq_false_iff.mpr c15
             subst c15
             have H1:((zw.f k2 ((zD l0_3 x7_2).f1) a1 x5_2).bind fun t379=>(if t379=true then (zf.l1 k2 a1 (x5_2.set (((zD l0_3 x7_2).f0):Int).toNat true) true (wrap64 (x7_2 + 1)) a0_0 a0_1 l0_2 l0_3) else (zf.l1 k2 a1 x5_2 x6_2 (wrap64 (x7_2 + 1)) a0_0 a0_1 l0_2 l0_3)))=some r:=by rw [if_neg (show ¬(false=true) by decide)] at H;exact H
             clear H;have H:=H1;clear H1;replace H:=ZzB H;obtain ⟨t379,A180,H⟩:=H;replace H:(if t379=true then (zf.l1 k2 a1 (x5_2.set (((zD l0_3 x7_2).f0):Int).toNat true) true (wrap64 (x7_2 + 1)) a0_0 a0_1 l0_2 l0_3) else (zf.l1 k2 a1 x5_2 x6_2 (wrap64 (x7_2 + 1)) a0_0 a0_1 l0_2 l0_3))=some r:=H;have A18:=zA.mk A180;clear A180
             by_cases c19:t379=true
             ·subst c19
              have H1:(zf.l1 k2 a1 (x5_2.set (((zD l0_3 x7_2).f0):Int).toNat true) true (wrap64 (x7_2 + 1)) a0_0 a0_1 l0_2 l0_3)=some r:=by rw [if_pos rfl] at H;exact H
              clear H;have H:=H1;clear H1;obtain ⟨y381,hy381⟩:∃y_:List Bool,y_=(x5_2.set (((zD l0_3 x7_2).f0):Int).toNat true):=⟨_,rfl⟩;replace H:(zf.l1 k2 a1 y381 true (wrap64 (x7_2 + 1)) a0_0 a0_1 l0_2 l0_3)=some r:=Qb hy381 H;have Ny381:=zA.mk hy381;clear hy381;have H':=zA.mk H;clear H;have hcz21_0:=Qn vs 0 rfl;have hcz21_1:=Qn vs 1 rfl;have hcz21_2:=Qn vs 2 rfl;have hcz21_3:=Qn vs 3 rfl;have hfz21_0:=zB vs.out 0;have hfz21_1:=zB vs.out 1;have hfz21_2:=zB vs.out 2;have hfz21_3:=zB vs.out 3;have p376:0≤(x7_2:Int):=Qa;have q376:x7_2 < (l0_3.length:Int):=Qa;obtain ⟨ad376,A376_1,c376_1,e376,hx376_0,hx376_1,hl376_1,hi376_1⟩:=yv vw.out x7_2 p376 q376;cases e376;replace hx376_0:=(HB.out.cell (ZzA w _ hx376_0)).trans hx376_0;replace hx376_1:=(HB.out.cell (ZzA w _ hx376_1)).trans hx376_1;have HR376_1:=zA.mk hi376_1;have HC376_1:=zA.mk hl376_1;clear hi376_1 hl376_1;replace p376:=eq_true p376;replace q376:=eq_true q376;obtain ⟨Ao22,co22,eo22⟩:=Kd.R_slice HO_5.out;subst eo22;have p377:0≤(((zD l0_3 x7_2).f0):Int):=Qa;have q377:((zD l0_3 x7_2).f0) < (x5_2.length:Int):=Qa;obtain ⟨ad377,e377,hx377_0⟩:=Kd.at_bool (Kd.R_reads' HO_5.out).2.2 ((zD l0_3 x7_2).f0) p377 q377
              (try rw [←Nbq14.out] at hx377_0)
              cases e377;replace p377:=eq_true p377;replace q377:=eq_true q377;have p378:0≤(x7_2:Int):=Qa;have q378:x7_2 < (l0_3.length:Int):=Qa;obtain ⟨ad378,A378_1,c378_1,e378,hx378_0,hx378_1,hl378_1,hi378_1⟩:=yv vw.out x7_2 p378 q378;obtain rfl:ad376=ad378:=(by injection e378);replace hx378_0:=(HB.out.cell (ZzA w _ hx378_0)).trans hx378_0;replace hx378_1:=(HB.out.cell (ZzA w _ hx378_1)).trans hx378_1;have HR378_1:=zA.mk hi378_1;have HC378_1:=zA.mk hl378_1;clear hi378_1 hl378_1;replace p378:=eq_true p378;replace q378:=eq_true q378;have ea_:=Option.some.inj (hx376_1.symm.trans hx378_1)
              injection ea_ with ea_ en_ ec_
              subst ea_;subst ec_;clear en_
              go_wp2_with (first|(go_at_call 41;(with_reducible refine (zw.calls k2 _ _ ((zD l0_3 x7_2).f1) a1 _ _ x5_2 true _ ?side1 ?side2 ?side3 ?side4 A18.out).mono ?_);(case side1=>exact Qo (Kd.C_below HR378_1.out HB.out));(case side2=>exact HC378_1.out);(case side3=>repeat (first|exact (Kd.R_reads' HO_5.out).2.2|(with_reducible refine Kd.C_alloc ?_ _)|(with_reducible refine Kd.C_drewN ?_ _)|(with_reducible refine Kd.C_drew ?_)));(case side4=>exact (Kd.R_reads' HO_5.out).2.1);rintro e w' ⟨rfl,⟨nd,rfl⟩⟩;(try (rw [drewN_self wr];generalize hq_:World.drewN wr _=wr;have n0_:zA (Kd.R Kd.bool 4 wr w.heap.size (fun _=>True) (.slice (some ad377) x5_2.length co22) x5_2):=⟨by rw [←hq_];exact (Qh HO_5)⟩;have n1_:zA (wr.heap[gb372]? =some (.cells #[.int .i64 a0_0, .int .i64 a0_1, .slice vi l0_2.length vk, .slice (some ad376) l0_3.length vl] 25 (0,0))):=⟨by rw [←hq_];exact (Qi vs)⟩;have n2_:zA (Below w.heap.size w wr):=⟨by rw [←hq_];exact (Qd GE372)⟩;clear HO_5 vs HB hq_;have HO_5:=n0_;have vs:=n1_;have HB:=n2_;clear n0_ n1_ n2_));have p380:0≤(x7_2:Int):=Qa;have q380:x7_2 < (l0_3.length:Int):=Qa;obtain ⟨ad380,A380_1,c380_1,e380,hx380_0,hx380_1,hl380_1,hi380_1⟩:=yv vw.out x7_2 p380 q380;obtain rfl:ad376=ad380:=(by injection e380);replace hx380_0:=(HB.out.cell (ZzA w _ hx380_0)).trans hx380_0;replace hx380_1:=(HB.out.cell (ZzA w _ hx380_1)).trans hx380_1;have HR380_1:=zA.mk hi380_1;have HC380_1:=zA.mk hl380_1;clear hi380_1 hl380_1;replace p380:=eq_true p380;replace q380:=eq_true q380;(try (have ea_:=Option.some.inj (hx376_1.symm.trans hx380_1);injection ea_ with ea_ en_ ec_;subst ea_;subst ec_;clear en_));have hcy_0:wr.cell? ⟨gb372,0,none⟩=some _:=(zR vs.out 0).trans rfl;have hcy_1:wr.cell? ⟨gb372,1,none⟩=some _:=(zR vs.out 1).trans rfl;have hcy_2:wr.cell? ⟨gb372,2,none⟩=some _:=(zR vs.out 2).trans rfl;have hcy_3:wr.cell? ⟨gb372,3,none⟩=some _:=(zR vs.out 3).trans rfl;have p20:0≤(((zD l0_3 x7_2).f0):Int):=Qa;have q20:(((zD l0_3 x7_2).f0):Int) < ((x5_2.length:Int):Int):=Qa;obtain ⟨go20,co20,eo20,gb20,gl20,cl20,HG20⟩:=Kd.R_form HO_5.out (by omega);(first|cases eo20|(injection eo20 with ea_ en_ ec_;(first|subst ea_|(injection ea_ with ea_;subst ea_));subst ec_;clear en_));have GB20:=zA.mk gb20;have GG20:=zA.mk HG20;clear gb20 gl20 HG20;(first|simp only [ZC] at hx377_0|skip);obtain ⟨hx20_0,hf20_0⟩:=Kd.R_celln false HO_5.out (((zD l0_3 x7_2).f0):Int) p20 q20;replace p20:=eq_true p20;replace q20:=eq_true q20;obtain ⟨hy23_,hz23_⟩:=Kd.R_celln false HO_5.out (((zD l0_3 x7_2).f0):Int) (Qa) (Qa);have HP23:=Kd.R_putg HO_5.out (((zD l0_3 x7_2).f0):Int) true)|((with_reducible refine qQ (t:=4) (p:=48) rfl ?_);refine Yr (t:=4) (p:=48) (v:= ?vo_w24) (w1:=(wr.setCell ⟨go20,(((zD l0_3 x7_2).f0):Int).toNat,none⟩ (.bool true))) ?hg ?ho ?hn ?hr ?_;(case ho=>rfl);(case hg=>rfl);(case hn=>rfl);(case hr=>exact Qm);intro w24 hw;have hg:wr.grownBy w24 (some go20):=(by rw [hw];exact HP23.2);have hp_:Kd.R Kd.bool 4 w24 w.heap.size (fun _=>True) (.slice (some ⟨go20,0,none⟩) x5_2.length co22) y381:=(by rw [hw,Ny381.out];exact HP23.1);clear HP23;have n0_:=zA.mk (hp_);have n1_:=zA.mk (yy (g:=gb372) (Qi vs) hg (Kd.R_ne HO_5.out vs.out (by decide)));have n2_:=zA.mk ((by rw [hw];exact zK (HB.out) GB20.out:Below w.heap.size w w24));clear HO_5 vs HB;have HO_5:=n0_;have vs:=n1_;have HB:=n2_;clear n0_ n1_ n2_ hg hw hp_))
              go_roundg k2
              case measure=>have:=HK1.out;have:=HK2.out;omega
              case rel=>exact ⟨(y381),(true),(wrap64 (x7_2 + 1)),Zb,Zb,H',⟨by have:=HK1.out;have:=HK2.out;omega⟩,⟨Qh HO_5⟩,⟨Qi vs⟩,⟨by repeat (first|(with_reducible first|exact HB.out|apply zG|apply zC|apply zF|refine zK ?_ GE372.out)|exact HB.out)⟩⟩
             ·replace c19:=Bool.eq_false_iff.mpr c19
              subst c19
              have H1:(zf.l1 k2 a1 x5_2 x6_2 (wrap64 (x7_2 + 1)) a0_0 a0_1 l0_2 l0_3)=some r:=by rw [if_neg (show ¬(false=true) by decide)] at H;exact H
              clear H;have H:=H1;clear H1;have H':=zA.mk H;clear H;have hcz25_0:=Qn vs 0 rfl;have hcz25_1:=Qn vs 1 rfl;have hcz25_2:=Qn vs 2 rfl;have hcz25_3:=Qn vs 3 rfl;have hfz25_0:=zB vs.out 0;have hfz25_1:=zB vs.out 1;have hfz25_2:=zB vs.out 2;have hfz25_3:=zB vs.out 3;have p376:0≤(x7_2:Int):=Qa;have q376:x7_2 < (l0_3.length:Int):=Qa;obtain ⟨ad376,A376_1,c376_1,e376,hx376_0,hx376_1,hl376_1,hi376_1⟩:=yv vw.out x7_2 p376 q376;cases e376;replace hx376_0:=(HB.out.cell (ZzA w _ hx376_0)).trans hx376_0;replace hx376_1:=(HB.out.cell (ZzA w _ hx376_1)).trans hx376_1;have HR376_1:=zA.mk hi376_1;have HC376_1:=zA.mk hl376_1;clear hi376_1 hl376_1;replace p376:=eq_true p376;replace q376:=eq_true q376;obtain ⟨Ao26,co26,eo26⟩:=Kd.R_slice HO_5.out;subst eo26;have p377:0≤(((zD l0_3 x7_2).f0):Int):=Qa;have q377:((zD l0_3 x7_2).f0) < (x5_2.length:Int):=Qa;obtain ⟨ad377,e377,hx377_0⟩:=Kd.at_bool (Kd.R_reads' HO_5.out).2.2 ((zD l0_3 x7_2).f0) p377 q377
              (try rw [←Nbq14.out] at hx377_0)
              cases e377;replace p377:=eq_true p377;replace q377:=eq_true q377;have p378:0≤(x7_2:Int):=Qa;have q378:x7_2 < (l0_3.length:Int):=Qa;obtain ⟨ad378,A378_1,c378_1,e378,hx378_0,hx378_1,hl378_1,hi378_1⟩:=yv vw.out x7_2 p378 q378;obtain rfl:ad376=ad378:=(by injection e378);replace hx378_0:=(HB.out.cell (ZzA w _ hx378_0)).trans hx378_0;replace hx378_1:=(HB.out.cell (ZzA w _ hx378_1)).trans hx378_1;have HR378_1:=zA.mk hi378_1;have HC378_1:=zA.mk hl378_1;clear hi378_1 hl378_1;replace p378:=eq_true p378;replace q378:=eq_true q378;have ea_:=Option.some.inj (hx376_1.symm.trans hx378_1)
              injection ea_ with ea_ en_ ec_
              subst ea_;subst ec_;clear en_
              go_wp2_with (first|(go_at_call 41;(with_reducible refine (zw.calls k2 _ _ ((zD l0_3 x7_2).f1) a1 _ _ x5_2 false _ ?side1 ?side2 ?side3 ?side4 A18.out).mono ?_);(case side1=>exact Qo (Kd.C_below HR378_1.out HB.out));(case side2=>exact HC378_1.out);(case side3=>repeat (first|exact (Kd.R_reads' HO_5.out).2.2|(with_reducible refine Kd.C_alloc ?_ _)|(with_reducible refine Kd.C_drewN ?_ _)|(with_reducible refine Kd.C_drew ?_)));(case side4=>exact (Kd.R_reads' HO_5.out).2.1);rintro e w' ⟨rfl,⟨nd,rfl⟩⟩))
              go_roundg k2
              case measure=>have:=HK1.out;have:=HK2.out;omega
              case rel=>exact ⟨(x5_2),(x6_2),(wrap64 (x7_2 + 1)),Zb,Zb,H',⟨by have:=HK1.out;have:=HK2.out;omega⟩,⟨Qh HO_5⟩,⟨Qi vs⟩,⟨by repeat (first|(with_reducible first|exact HB.out|apply zG|apply zC|apply zF|refine zK ?_ GE372.out)|exact HB.out)⟩⟩
           ·rw [if_neg c13] at H
            exact absurd H (by simp)
          ·rw [if_neg c12] at H
           exact absurd H (by simp)
         ·rw [if_neg c11] at H
          exact absurd H (by simp)
        ·rw [if_neg c10] at H
         have c10b0:=decide_eq_false c10;clear c10;have H':=zA.mk H;clear H;have hcz27_0:=Qn vs 0 rfl;have hcz27_1:=Qn vs 1 rfl;have hcz27_2:=Qn vs 2 rfl;have hcz27_3:=Qn vs 3 rfl;have hfz27_0:=zB vs.out 0;have hfz27_1:=zB vs.out 1;have hfz27_2:=zB vs.out 2;have hfz27_3:=zB vs.out 3
         go_wp2
         go_roundg k2
         case measure=>have:=HK1.out;have:=HK2.out;omega
         case rel=>exact ⟨(x5_2),(x6_2),Zb,H',⟨by have:=HK1.out;have:=HK2.out;omega⟩,⟨Qh HO_5⟩,⟨Qi vs⟩,⟨by repeat (first|(with_reducible first|exact HB.out|apply zG|apply zC|apply zF|refine zK ?_ GE372.out)|exact HB.out)⟩⟩
     ·replace c9:=Bool.eq_false_iff.mpr c9
      subst c9
      have H1:(some x5_1)=some r:=by rw [if_neg (show ¬(false=true) by decide)] at H;exact H
      clear H;have H:=H1;clear H1;obtain rfl:=Option.some.inj H
      go_wp2
      go_ret
      exact ⟨_,by first|rfl|(simp [zS,zT] <;> rfl)|(simp [*,zS,zT] <;> rfl),by (with_reducible repeat (first|apply Kd.R_alloc|apply Kd.R_drewN|apply Kd.R_drew));exact HO_5.out,by repeat (first|(with_reducible first|exact HB.out|apply zG|apply zC|apply zF|refine zK ?_ GE372.out)|exact HB.out)⟩
  ·rw [if_neg c4] at H
   exact absurd H (by simp)
 ·rw [if_neg c3] at H
  exact absurd H (by simp)
def yN.f (k:Nat) (a0_0:Int) (a0_1:Int) (l0_2:List Int) (l0_3:List (S45)):Option (List Bool):=(zf.f k a0_0 a0_1 l0_2 l0_3 true).bind fun t383=>(some t383)
theorem yN.mono:∀a0 a1 a2 a3 k,LeO (yN.f k a0 a1 a2 a3) (yN.f (k + 1) a0 a1 a2 a3):=by
 intro a0 a1 a2 a3 k
 unfold yN.f
 repeat' first
   | with_reducible first|exact zf.mono _ _ _ _ _ _|exact LeO.refl _|exact LeO.none _|refine LeO.ite ?_ ?_|refine LeO.bind ?_ (fun _=> ?_)
   | exact zf.mono _ _ _ _ _ _|exact LeO.none _|refine LeO.ite ?_ ?_|refine LeO.bind ?_ (fun _=> ?_)
set_option maxHeartbeats 8000000 in
set_option maxRecDepth 100000 in
theorem yN.calls (k:Nat) (a0_0:Int) (a0_1:Int) (vi:Option Addr) (vk:Nat) (l0_2:List Int) (vp:Option Addr) (vl:Nat) (l0_3:List (S45)) (r:List Bool) (w:World) (hr0_2:Kd.C (Kd.int .i64) w vi l0_2.length l0_2) (hc0_2:l0_2.length≤vk) (hr0_3:Kd.C k45 w vp l0_3.length l0_3) (hc0_3:l0_3.length≤vl) (h:yN.f k a0_0 a0_1 l0_2 l0_3=some r) :
  Calls Try.prog 11 #[.agg #[.int .i64 a0_0, .int .i64 a0_1, .slice vi l0_2.length vk, .slice vp l0_3.length vl]] w fun e w'=>∃v0_:Value,e= .returned (v0_)∧Kd.R Kd.bool 4 w' w.heap.size (fun _=>True) v0_ r∧Below w.heap.size w w':=by
 have hu25:=Try.underlying25;have wb:=zA.mk hr0_2;have wd:=zA.mk hc0_2;clear hr0_2 hc0_2;have vw:=zA.mk hr0_3;have wg:=zA.mk hc0_3;clear hr0_3 hc0_3;have HB:=zA.mk (Below.refl w.heap.size w);have H:((zf.f k a0_0 a0_1 l0_2 l0_3 true).bind fun t383=>(some t383))=some r:=h;clear h;replace H:=ZzB H;obtain ⟨t383,A20,H⟩:=H;replace H:(some t383)=some r:=H;have A2:=zA.mk A20;clear A20;obtain rfl:=Option.some.inj H
 go_enter Try.func11,Try.ntmps11
 go_wp2_with (first|((with_reducible refine yB (N:=1) rfl ?_);refine yH ?hg (N:=1) ?hd (cs:= #[.int .i64 a0_0, .int .i64 a0_1, .slice vi l0_2.length vk, .slice vp l0_3.length vl]) (t:=25) ?hr ?_;(case hd=>rfl);(case hg=>rfl);(case hr=>exact Qm);intro gb382 hg w3 hbox hb;have n0_:=zA.mk (zH Qc hb);have n1_:=zA.mk (hbox);have n2_:=zA.mk ((by rw [hg];exact (zE Qc):w.heap.size≤gb382));have n3_:=zA.mk ((by rw [hg];exact (zE Qc):w.heap.size≤gb382));clear HB;have HB:=n0_;have BK382:=n1_;have GW382:=n2_;have GE382:=n3_;clear n0_ n1_ n2_ n3_ hb hbox hg;have hcz4_0:=Qn BK382 0 rfl;have hcz4_1:=Qn BK382 1 rfl;have hcz4_2:=Qn BK382 2 rfl;have hcz4_3:=Qn BK382 3 rfl;have hfz4_0:=zB BK382.out 0;have hfz4_1:=zB BK382.out 1;have hfz4_2:=zB BK382.out 2;have hfz4_3:=zB BK382.out 3)|((with_reducible refine zk (f:=24) rfl ?_);refine yQ (some 4) rfl rfl Try.func24 (by kernel_rfl) rfl #[.agg #[.int .i64 a0_0, .int .i64 a0_1, .slice vi l0_2.length vk, .slice vp l0_3.length vl], .bool true] rfl QX ?_;(with_reducible refine (zf.calls k a0_0 a0_1 _ _ l0_2 _ _ l0_3 true t383 _ ?side1 ?side2 ?side3 ?side4 A2.out).mono ?_);(case side1=>exact Qo (Kd.C_below wb.out HB.out));(case side2=>exact wd.out);(case side3=>exact Qo (Kd.C_below vw.out HB.out));(case side4=>exact wg.out);rintro e w5 ⟨v384,rfl,ho0,hb⟩;refine ⟨_,rfl,?_⟩;have n0_:=zA.mk (Kd.R_lower ho0 (zE (Qd GE382)));have n2_:=zA.mk (zH (Qd GE382) hb);clear HB;have HO385:=n0_;have HB:=n2_;clear n0_ n2_;(try clear hb ho0)))
 go_ret
 exact ⟨_,by first|rfl|(simp [zS,zT] <;> rfl)|(simp [*,zS,zT] <;> rfl),by (with_reducible repeat (first|apply Kd.R_alloc|apply Kd.R_drewN|apply Kd.R_drew));exact HO385.out,by repeat (first|(with_reducible first|exact HB.out|apply zG|apply zC|apply zF|refine zK ?_ GE382.out)|exact HB.out)⟩
end Go.Proofs.Ytlanhkekjhlmjaa.HGuessWords
