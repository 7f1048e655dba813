-- Written by plus.py for this claim.
import Derived.Test.YtlanhkekjhlmjaaSGuessWordsVZip
import Derived.Test.YtlanhkekjhlmjaaHGuessWordsx0
import Derived.Test.YtlanhkekjhlmjaaHGuessWordsx4
import Derived.Test.YtlanhkekjhlmjaaHGuessWordsx6
import Derived.Test.YtlanhkekjhlmjaaHGuessWordsx9
import Derived.Test.YtlanhkekjhlmjaaHGuessWordsx10
namespace Go.Proofs.Ytlanhkekjhlmjaa.HGuessWords
open Go.RowKit Go.Proofs.YtlanhkekjhlmjaaW.PrintWords Go.Proofs.YtlanhkekjhlmjaaW.PrintLast Go.Proofs.YtlanhkekjhlmjaaW.PrintMore
attribute [local go_sem] yq yr ZM ZN yj yk yt yu   -- for this text's walks alone
set_option linter.unusedVariables false
set_option linter.unusedSimpArgs false
def yR.l0:Nat→List (List ByteArray)→Int→List (List ByteArray)→List (S45)→Int→Int→Int→Int→List Int→List (S45)→Option ((List (List ByteArray)) × Int)
 | 0,_,_,_,_,_,_,_,_,_,_=>none
 | k + 1,x4,x5,x7,x30,x31,x32,x274000,x274001,x274002,x274003=>if x32 < x31 then (if 0≤x32 then (if x32 < (x30.length:Int) then (if x32 < (x7.length:Int) then (if 0≤((zD x30 x32).f0) then (if ((zD x30 x32).f0) < (x4.length:Int) then ((zq.f k (zh x7 x32) (zh x4 ((zD x30 x32).f0)) x274001).bind fun t289=>(if (t289.length:Int) > 600 then (some (([]:List (List ByteArray)),15)) else (yR.l0 k x4 x5 (x7.set (x32:Int).toNat t289) x30 x31 (wrap64 (x32 + 1)) x274000 x274001 x274002 x274003))) else (none)) else (none)) else (none)) else (none)) else (none)) else (some (x7,x5))
def yR.f (k:Nat) (a0_0:Int) (a0_1:Int) (l0_2:List Int) (l0_3:List (S45)):Option ((List (List ByteArray)) × Int):=(yF.f k a0_0 a0_1 l0_2 l0_3).bind fun bt274=>(if bt274.2=0 then ((zd.f k a0_0 a0_1 l0_2 l0_3).bind fun bt278=>(if bt278.2=0 then ((yA.f k a0_0 a0_1 l0_2 l0_3 bt278.1).bind fun t282=>(yR.l0 k bt274.1 bt278.2 t282 l0_3 (l0_3.length:Int) 0 a0_0 a0_1 l0_2 l0_3)) else (some (([]:List (List ByteArray)),bt278.2)))) else (some (([]:List (List ByteArray)),bt274.2)))
theorem yR.mono_l:∀k,(∀y0 y1 y2 y3 y4 y5 y6 y7 y8 y9,LeO (yR.l0 k y0 y1 y2 y3 y4 y5 y6 y7 y8 y9) (yR.l0 (k + 1) y0 y1 y2 y3 y4 y5 y6 y7 y8 y9))
 | 0=>fun _ _ _ _ _ _ _ _ _ _ r h=>by simp [yR.l0] at h
 | k + 1=>by
  have ih0:=yR.mono_l k
  ·intro y0 y1 y2 y3 y4 y5 y6 y7 y8 y9
   unfold yR.l0
   repeat' first
   | with_reducible first|exact ih0 _ _ _ _ _ _ _ _ _ _|exact zd.mono _ _ _ _ _|exact yF.mono _ _ _ _ _|exact yA.mono _ _ _ _ _ _|exact zq.mono _ _ _ _|exact LeO.refl _|exact LeO.none _|refine LeO.ite ?_ ?_|refine LeO.bind ?_ (fun _=> ?_)
   | exact ih0 _ _ _ _ _ _ _ _ _ _|exact zd.mono _ _ _ _ _|exact yF.mono _ _ _ _ _|exact yA.mono _ _ _ _ _ _|exact zq.mono _ _ _ _|exact LeO.none _|refine LeO.ite ?_ ?_|refine LeO.bind ?_ (fun _=> ?_)
theorem yR.mono:∀a0 a1 a2 a3 k,LeO (yR.f k a0 a1 a2 a3) (yR.f (k + 1) a0 a1 a2 a3):=by
 intro a0 a1 a2 a3 k;have ih0:=yR.mono_l k
 unfold yR.f
 repeat' first
   | with_reducible first|exact ih0 _ _ _ _ _ _ _ _ _ _|exact zd.mono _ _ _ _ _|exact yF.mono _ _ _ _ _|exact yA.mono _ _ _ _ _ _|exact zq.mono _ _ _ _|exact LeO.refl _|exact LeO.none _|refine LeO.ite ?_ ?_|refine LeO.bind ?_ (fun _=> ?_)
   | exact ih0 _ _ _ _ _ _ _ _ _ _|exact zd.mono _ _ _ _ _|exact yF.mono _ _ _ _ _|exact yA.mono _ _ _ _ _ _|exact zq.mono _ _ _ _|exact LeO.none _|refine LeO.ite ?_ ?_|refine LeO.bind ?_ (fun _=> ?_)
def yR.T11:Bool × List (List Nat × List Nat):=(true,[([],[]),([],[]),([],[]),([],[]),([2,3],[2,3]),([4],[4]),([],[]),([],[]),([7],[7]),([6,8],[6,8]),([9],[9]),([],[]),([11],[11]),([5,10,12],[5,10,12]),([0,1,0,1,2,3,4,5,6,7,8,9,10,11,12,13],[0,1]),([14,13,13,0,1,2,3,4,5,6,7,8,9,10,11,12,13],[13,14])])
def yR.B11:List Nat:= [0,0,0,0,12,28,0,0,128,448,960,0,2048,8188,16383,32767]
theorem yR.tab11:rtab .any (qV Try.f6 11)=yR.T11:=by kernel_rfl
theorem yR.bits11:Zk yR.T11.2 yR.B11=true:=by kernel_rfl
set_option maxHeartbeats 8000000 in
set_option maxRecDepth 100000 in
theorem yR.calls (k:Nat) (a0_0:Int) (a0_1:Int) (vi:Option Addr) (vk:Nat) (l0_2:List Int) (vp:Option Addr) (vl:Nat) (l0_3:List (S45)) (r1:List (List ByteArray)) (r2:Int) (w:World) (hr0_2:Kd.C (Kd.int .i64) w vi l0_2.length l0_2) (hc0_2:l0_2.length≤vk) (hr0_3:Kd.C k45 w vp l0_3.length l0_3) (hc0_3:l0_3.length≤vl) (h:yR.f k a0_0 a0_1 l0_2 l0_3=some (r1,r2)) :
  Calls Try.prog 6 #[.agg #[.int .i64 a0_0, .int .i64 a0_1, .slice vi l0_2.length vk, .slice vp l0_3.length vl]] w fun e w'=>∃v0_:Value,e= .returned (.tuple #[v0_, .int .i64 r2])∧Kd.N (Kd.slice 9 Kd.string) 32 w' w.heap.size (fun k_=>(w.heap.size≤k_)) v0_ r1∧Below w.heap.size w w':=by
 have hu25:=Try.underlying25;have hu45:=Try.underlying45;have wb:=zA.mk hr0_2;have wd:=zA.mk hc0_2;clear hr0_2 hc0_2;have vw:=zA.mk hr0_3;have wg:=zA.mk hc0_3;clear hr0_3 hc0_3;have HB:=zA.mk (Below.refl w.heap.size w);have H:((yF.f k a0_0 a0_1 l0_2 l0_3).bind fun bt274=>(if bt274.2=0 then ((zd.f k a0_0 a0_1 l0_2 l0_3).bind fun bt278=>(if bt278.2=0 then ((yA.f k a0_0 a0_1 l0_2 l0_3 bt278.1).bind fun t282=>(yR.l0 k bt274.1 bt278.2 t282 l0_3 (l0_3.length:Int) 0 a0_0 a0_1 l0_2 l0_3)) else (some (([]:List (List ByteArray)),bt278.2)))) else (some (([]:List (List ByteArray)),bt274.2))))=some (r1,r2):=h;clear h;replace H:=ZzB H;obtain ⟨⟨wY,t277⟩,A20,H⟩:=H;replace H:(if t277=0 then ((zd.f k a0_0 a0_1 l0_2 l0_3).bind fun bt278=>(if bt278.2=0 then ((yA.f k a0_0 a0_1 l0_2 l0_3 bt278.1).bind fun t282=>(yR.l0 k wY bt278.2 t282 l0_3 (l0_3.length:Int) 0 a0_0 a0_1 l0_2 l0_3)) else (some (([]:List (List ByteArray)),bt278.2)))) else (some (([]:List (List ByteArray)),t277)))=some (r1,r2):=H;have A2:=zA.mk A20;clear A20
 by_cases c3:t277=0
 ·rw [if_pos c3] at H
  have c3b0:(t277 == 0)=true:=beq_iff_eq.mpr c3;have c3b1:(t277 != 0)=false:=bne_eq_false_iff_eq.mpr c3;clear c3;replace H:=ZzB H;obtain ⟨⟨t278,t281⟩,A40,H⟩:=H;replace H:(if t281=0 then ((yA.f k a0_0 a0_1 l0_2 l0_3 t278).bind fun t282=>(yR.l0 k wY t281 t282 l0_3 (l0_3.length:Int) 0 a0_0 a0_1 l0_2 l0_3)) else (some (([]:List (List ByteArray)),t281)))=some (r1,r2):=H;have A4:=zA.mk A40;clear A40
  by_cases c5:t281=0
  ·rw [if_pos c5] at H
   have c5b0:(t281 == 0)=true:=beq_iff_eq.mpr c5;have c5b1:(t281 != 0)=false:=bne_eq_false_iff_eq.mpr c5;clear c5;replace H:=ZzB H;obtain ⟨t282,A60,H⟩:=H;replace H:(yR.l0 k wY t281 t282 l0_3 (l0_3.length:Int) 0 a0_0 a0_1 l0_2 l0_3)=some (r1,r2):=H;have A6:=zA.mk A60;clear A60;have H':=zA.mk H;clear H
   go_enter Try.func6,Try.ntmps6
   go_wp2_with (first|((with_reducible refine yB (N:=1) rfl ?_);refine yH ?hg (N:=1) ?hd (cs:= #[.int .i64 a0_0, .int .i64 a0_1, .slice vi l0_2.length vk, .slice vp l0_3.length vl]) (t:=25) ?hr ?_;(case hd=>rfl);(case hg=>rfl);(case hr=>exact Qm);intro vy hg w7 hbox hb;have n0_:=zA.mk (zH Qc hb);have n1_:=zA.mk (hbox);have n2_:=zA.mk ((by rw [hg];exact (zE Qc):w.heap.size≤vy));have n3_:=zA.mk ((by rw [hg];exact (zE Qc):w.heap.size≤vy));clear HB;have HB:=n0_;have vb:=n1_;have GW273:=n2_;have vY:=n3_;clear n0_ n1_ n2_ n3_ hb hbox hg;have hcz8_0:=Qn vb 0 rfl;have hcz8_1:=Qn vb 1 rfl;have hcz8_2:=Qn vb 2 rfl;have hcz8_3:=Qn vb 3 rfl;have hfz8_0:=zB vb.out 0;have hfz8_1:=zB vb.out 1;have hfz8_2:=zB vb.out 2;have hfz8_3:=zB vb.out 3)|((with_reducible refine zk (f:=15) rfl ?_);refine yQ (some 12) rfl rfl Try.func15 (by kernel_rfl) rfl #[.agg #[.int .i64 a0_0, .int .i64 a0_1, .slice vi l0_2.length vk, .slice vp l0_3.length vl]] rfl QX ?_;(with_reducible refine (yF.calls k a0_0 a0_1 _ _ l0_2 _ _ l0_3 wY t277 _ ?side1 ?side2 ?side3 ?side4 A2.out).mono ?_);(case side1=>exact Qo (Kd.C_below wb.out HB.out));(case side2=>exact wd.out);(case side3=>exact Qo (Kd.C_below vw.out HB.out));(case side4=>exact wg.out);rintro e w9 ⟨v275,rfl,ho0,hb⟩;refine ⟨_,rfl,?_⟩;have n0_:=zA.mk (Kd.N_lower (Kd.N_mono (ok':=fun k_=>(w.heap.size≤k_)∧k_≠vy) (Kd.S_N (Kd.S_bound ho0)) (fun k_ hk_=>⟨(Nat.le_trans (zE (Qd vY)) hk_.2.1),(Kd.freshB (g:=vy) (Qi vb) k_ hk_.2.1)⟩)) (zE (Qd vY)));have n1_:=zA.mk (ze (g:=vy) (Qi vb) hb);have n2_:=zA.mk (zH (Qd vY) hb);clear vb HB;have HO276:=n0_;have vb:=n1_;have HB:=n2_;clear n0_ n1_ n2_;(try clear hb ho0);have hcz10_0:=Qn vb 0 rfl;have hcz10_1:=Qn vb 1 rfl;have hcz10_2:=Qn vb 2 rfl;have hcz10_3:=Qn vb 3 rfl;have hfz10_0:=zB vb.out 0;have hfz10_1:=zB vb.out 1;have hfz10_2:=zB vb.out 2;have hfz10_3:=zB vb.out 3)|((with_reducible refine zk (f:=16) rfl ?_);refine yQ (some 20) rfl rfl Try.func16 (by kernel_rfl) rfl #[.agg #[.int .i64 a0_0, .int .i64 a0_1, .slice vi l0_2.length vk, .slice vp l0_3.length vl]] rfl QX ?_;(with_reducible refine (zd.calls k a0_0 a0_1 _ _ l0_2 _ _ l0_3 t278 t281 _ ?side1 ?side2 ?side3 ?side4 A4.out).mono ?_);(case side1=>exact Qo (Kd.C_below wb.out HB.out));(case side2=>exact wd.out);(case side3=>exact Qo (Kd.C_below vw.out HB.out));(case side4=>exact wg.out);rintro e w11 ⟨v279,rfl,ho0,hb⟩;refine ⟨_,rfl,?_⟩;(first|have n0_:=zA.mk (Kd.N_elder' (Qk HO276) (Kd.N_base ho0) hb)|have n0_:=zA.mk (Kd.N_elder' (Qk HO276) (Kd.S_base ho0) hb));have n1_:=zA.mk (Kd.N_lower (Kd.N_mono (ok':=fun k_=>(w.heap.size≤k_)∧some k_≠(v275:Value).ownBlock∧k_≠vy) (Kd.S_N (Kd.S_bound ho0)) (fun k_ hk_=>⟨(Nat.le_trans (zE (Qd vY)) hk_.2.1),(Kd.fresh' (Kd.N_lt (Qk HO276)) k_ hk_.2.1),(Kd.freshB (g:=vy) (Qi vb) k_ hk_.2.1)⟩)) (zE (Qd vY)));have n2_:=zA.mk (ze (g:=vy) (Qi vb) hb);have n3_:=zA.mk (zH (Qd vY) hb);clear HO276 vb HB;have HO276:=n0_;have HO280:=n1_;have vb:=n2_;have HB:=n3_;clear n0_ n1_ n2_ n3_;(try clear hb ho0);have hcz12_0:=Qn vb 0 rfl;have hcz12_1:=Qn vb 1 rfl;have hcz12_2:=Qn vb 2 rfl;have hcz12_3:=Qn vb 3 rfl;have hfz12_0:=zB vb.out 0;have hfz12_1:=zB vb.out 1;have hfz12_2:=zB vb.out 2;have hfz12_3:=zB vb.out 3;obtain ⟨Ao13,co13,eo13⟩:=Kd.N_slice HO280.out;subst eo13)|((with_reducible refine zk (f:=17) rfl ?_);refine yQ (some 28) rfl rfl Try.func17 (by kernel_rfl) rfl #[.agg #[.int .i64 a0_0, .int .i64 a0_1, .slice vi l0_2.length vk, .slice vp l0_3.length vl], .slice Ao13 t278.length co13] rfl QX ?_;(with_reducible refine (yA.calls k a0_0 a0_1 _ _ l0_2 _ _ l0_3 _ _ t278 t282 _ ?side1 ?side2 ?side3 ?side4 ?side5 ?side6 A6.out).mono ?_);(case side1=>exact Qo (Kd.C_below wb.out HB.out));(case side2=>exact wd.out);(case side3=>exact Qo (Kd.C_below vw.out HB.out));(case side4=>exact wg.out);(case side5=>repeat (first|exact (Kd.N_reads' HO280.out).2.2|(with_reducible refine Kd.C_alloc ?_ _)|(with_reducible refine Kd.C_drewN ?_ _)|(with_reducible refine Kd.C_drew ?_)));(case side6=>exact (Kd.N_reads' HO280.out).2.1);rintro e w14 ⟨v283,rfl,ho0,hb⟩;refine ⟨_,rfl,?_⟩;(first|have n0_:=zA.mk (Kd.N_elder' (Qk HO276) (Kd.N_base ho0) hb)|have n0_:=zA.mk (Kd.N_elder' (Qk HO276) (Kd.S_base ho0) hb));have n2_:=zA.mk (Kd.N_lower (Kd.N_mono (ok':=fun k_=>(w.heap.size≤k_)∧some k_≠(v275:Value).ownBlock∧some k_≠(.slice Ao13 t278.length co13:Value).ownBlock∧k_≠vy) ho0 (fun k_ hk_=>⟨(Nat.le_trans (zE (Qd vY)) hk_),(Kd.fresh' (Kd.N_lt (Qk HO276)) k_ hk_),(Kd.fresh' (Kd.N_lt (Qk HO280)) k_ hk_),(Kd.freshB (g:=vy) (Qi vb) k_ hk_)⟩)) (zE (Qd vY)));have n3_:=zA.mk (ze (g:=vy) (Qi vb) hb);have n4_:=zA.mk (zH (Qd vY) hb);clear HO276 vb HB;have HO276:=n0_;have HO284:=n2_;have vb:=n3_;have HB:=n4_;clear n0_ n2_ n3_ n4_;(try clear hb ho0);have hcz15_0:=Qn vb 0 rfl;have hcz15_1:=Qn vb 1 rfl;have hcz15_2:=Qn vb 2 rfl;have hcz15_3:=Qn vb 3 rfl;have hfz15_0:=zB vb.out 0;have hfz15_1:=zB vb.out 1;have hfz15_2:=zB vb.out 2;have hfz15_3:=zB vb.out 3))
   go_loopg [32] k (fun kq v32 w'=>∃(x7_1:List (List ByteArray)) (x32_1:Int),v32= .int .i64 x32_1∧zA (yR.l0 kq wY t281 x7_1 l0_3 (l0_3.length:Int) x32_1 a0_0 a0_1 l0_2 l0_3=some (r1,r2))∧zA (kq≤k)∧zA (Kd.N (Kd.slice 9 Kd.string) 32 w' w.heap.size (fun k_=>(w.heap.size≤k_)∧some k_≠(v283:Value).ownBlock∧k_≠vy) v275 wY)∧zA (Kd.N (Kd.slice 9 Kd.string) 32 w' w.heap.size (fun k_=>(w.heap.size≤k_)∧some k_≠(v275:Value).ownBlock∧k_≠vy) v283 x7_1)∧zA (w'.heap[vy]? =some (.cells #[.int .i64 a0_0, .int .i64 a0_1,(.slice vi l0_2.length vk),(.slice vp l0_3.length vl)] 25 (0,0)))∧zA (Below w.heap.size w w'))
   case atStart=>exact ⟨(t282),(0),Zb,H',⟨Nat.le_refl _⟩,⟨by (with_reducible repeat (first|apply Kd.N_alloc|apply Kd.N_drewN|apply Kd.N_drew));exact Kd.N_mono HO276.out (fun _ hk=>⟨hk.1.1.1,⟨hk.2,hk.1.1.2⟩⟩)⟩,⟨by (with_reducible repeat (first|apply Kd.N_alloc|apply Kd.N_drewN|apply Kd.N_drew));exact Kd.N_mono HO284.out (fun _ hk=>⟨hk.1,⟨hk.2.1,hk.2.2.2⟩⟩)⟩,⟨Qi vb⟩,⟨by repeat (first|(with_reducible first|exact HB.out|apply zG|apply zC|apply zF|refine zK ?_ vY.out)|exact HB.out)⟩⟩
   case round=>
    clear H';(try clear c1);(try clear p2);(try clear c3);(try clear c3b0);(try clear c3b1);(try clear c5);(try clear c5b0);(try clear c5b1);(try clear c6);(try clear c15);(try clear hcz10_0);(try clear hcz10_1);(try clear hcz10_2);(try clear hcz10_3);(try clear hcz12_0);(try clear hcz12_1);(try clear hcz12_2);(try clear hcz12_3);(try clear hcz15_0);(try clear hcz15_1);(try clear hcz15_2);(try clear hcz15_3);(try clear hcz8_0);(try clear hcz8_1);(try clear hcz8_2);(try clear hcz8_3);(try clear hfz10_0);(try clear hfz10_1);(try clear hfz10_2);(try clear hfz10_3);(try clear hfz12_0);(try clear hfz12_1);(try clear hfz12_2);(try clear hfz12_3);(try clear hfz15_0);(try clear hfz15_1);(try clear hfz15_2);(try clear hfz15_3);(try clear hfz8_0);(try clear hfz8_1);(try clear hfz8_2);(try clear hfz8_3);obtain ⟨x7_1,x32_1,rfl,HA,HK1,wC,HO_7,vb,HB⟩:=hrel;cases gk with
    | zero=>exact absurd HA.out (by simp [yR.l0])
    | succ k1=>
     have H:=HA.out;clear HA;simp only [yR.l0] at H
     by_cases c16:x32_1 < (l0_3.length:Int)
     ·rw [if_pos c16] at H
      have c16b0:=decide_eq_true c16;clear c16
      by_cases c17:0≤x32_1
      ·rw [if_pos c17] at H
       have c17b0:=decide_eq_true c17;clear c17
       by_cases c18:x32_1 < (l0_3.length:Int)
       ·rw [if_pos c18] at H
        have c18b0:=decide_eq_true c18;clear c18
        by_cases c19:x32_1 < (x7_1.length:Int)
        ·rw [if_pos c19] at H
         have c19b0:=decide_eq_true c19;clear c19
         by_cases c20:0≤((zD l0_3 x32_1).f0)
         ·rw [if_pos c20] at H
          have c20b0:=decide_eq_true c20;clear c20
          by_cases c21:((zD l0_3 x32_1).f0) < (wY.length:Int)
          ·rw [if_pos c21] at H
           have c21b0:=decide_eq_true c21;clear c21;replace H:=ZzB H;obtain ⟨t289,A220,H⟩:=H;replace H:(if (t289.length:Int) > 600 then (some (([]:List (List ByteArray)),15)) else (yR.l0 k1 wY t281 (x7_1.set (x32_1:Int).toNat t289) l0_3 (l0_3.length:Int) (wrap64 (x32_1 + 1)) a0_0 a0_1 l0_2 l0_3))=some (r1,r2):=H;have A22:=zA.mk A220;clear A220;obtain ⟨y292,hy292⟩:∃y_:List (List ByteArray),y_=(x7_1.set (x32_1:Int).toNat t289):=⟨_,rfl⟩;replace H:(if (t289.length:Int) > 600 then (some (([]:List (List ByteArray)),15)) else (yR.l0 k1 wY t281 y292 l0_3 (l0_3.length:Int) (wrap64 (x32_1 + 1)) a0_0 a0_1 l0_2 l0_3))=some (r1,r2):=Qb hy292 H;have Ny292:=zA.mk hy292;clear hy292
           by_cases c25:(t289.length:Int) > 600
           ·rw [if_pos c25] at H
            have c25b0:=decide_eq_true c25;have c25b1:decide (600 < t289.length)=true:=decide_eq_true (by omega);clear c25;simp only [Option.some.injEq,Prod.mk.injEq] at H;obtain ⟨rfl,rfl⟩:=H;have p285:0≤(x32_1:Int):=Qa;have q285:x32_1 < (l0_3.length:Int):=Qa;obtain ⟨ad285,wv,ww,e285,hx285_0,hx285_1,hl285_1,hi285_1⟩:=yv vw.out x32_1 p285 q285;cases e285;replace hx285_0:=(HB.out.cell (ZzA w _ hx285_0)).trans hx285_0;replace hx285_1:=(HB.out.cell (ZzA w _ hx285_1)).trans hx285_1;have HR285_1:=zA.mk hi285_1;have HC285_1:=zA.mk hl285_1;clear hi285_1 hl285_1;replace p285:=eq_true p285;replace q285:=eq_true q285
            try go_wp2_with (first|((with_reducible refine yB (N:=9) rfl ?_);refine yH ?hg (N:=9) ?hd (cs:= #[.int .i64 0, .slice none 0 0]) (t:=45) ?hr ?_;(case hd=>rfl);(case hg=>rfl);(case hr=>exact Qm);intro vo hg w26 hbox hb;have n0_:=zA.mk (Kd.N_below (Kd.N_elderB (Qk wC) vo (Nat.le_of_eq hg.symm)) hb);have n1_:=zA.mk (Kd.N_below (Kd.N_elderB (Qk HO_7) vo (Nat.le_of_eq hg.symm)) hb);have n2_:=zA.mk (ze (g:=vy) (Qi vb) hb);have n3_:=zA.mk (zH (Qd vY) hb);have n4_:=zA.mk (hbox);have n5_:=zA.mk ((by rw [hg];exact (zE (Qd vY)):w.heap.size≤vo));have n6_:=zA.mk ((by rw [hg];exact (zE (Qd vY)):w.heap.size≤vo));have n7_:=zA.mk ((by rw [hg];exact Nat.ne_of_lt (yG (g:=vy) (Qi vb)):vy≠vo));have n8_:=zA.mk ((by rw [hg];exact Nat.ne_of_gt (yG (g:=vy) (Qi vb)):vo≠vy));clear wC HO_7 vb HB;have wC:=n0_;have HO_7:=n1_;have vb:=n2_;have HB:=n3_;have vL:=n4_;have GW286:=n5_;have GE286:=n6_;have NB273_286:=n7_;have NB286_273:=n8_;clear n0_ n1_ n2_ n3_ n4_ n5_ n6_ n7_ n8_ hb hbox hg;have hnb27:=NB286_273.out;have hnc27:=NB273_286.out;have hcz28_0:=Qn vL 0 rfl;have hcz28_1:=Qn vL 1 rfl;have hfz28_0:=zB vL.out 0;have hfz28_1:=zB vL.out 1))
            have n0_:zA (Kd.N (Kd.slice 9 Kd.string) 32 ((w26.setCell ⟨vo,0,none⟩ (.int .i64 ((zD l0_3 x32_1).f0))).setCell ⟨vo,1,none⟩ (.slice wv ((zD l0_3 x32_1).f1).length ww)) w.heap.size (fun k_=>(w.heap.size≤k_)∧some k_≠(v283:Value).ownBlock∧k_≠vy∧k_≠vo) v275 wY):=⟨by (with_reducible repeat (first|apply Kd.N_alloc|apply Kd.N_drewN|apply Kd.N_drew));exact Kd.N_mono (Kd.N_far (p:=⟨vo,1,none⟩) (Kd.N_far (p:=⟨vo,0,none⟩) (Kd.N_mono wC.out (fun k_ hk=>(⟨hk,hk.2⟩:_∧k_≠vo))) (fun _ hk=>hk.2) (.int .i64 ((zD l0_3 x32_1).f0))) (fun _ hk=>hk.2) (.slice wv ((zD l0_3 x32_1).f1).length ww)) (fun _ hk=>⟨hk.1.1.1,⟨hk.1.1.2.1,⟨hk.1.1.2.2,hk.1.2⟩⟩⟩)⟩;have n1_:zA (Kd.N (Kd.slice 9 Kd.string) 32 ((w26.setCell ⟨vo,0,none⟩ (.int .i64 ((zD l0_3 x32_1).f0))).setCell ⟨vo,1,none⟩ (.slice wv ((zD l0_3 x32_1).f1).length ww)) w.heap.size (fun k_=>(w.heap.size≤k_)∧some k_≠(v275:Value).ownBlock∧k_≠vy∧k_≠vo) v283 x7_1):=⟨by (with_reducible repeat (first|apply Kd.N_alloc|apply Kd.N_drewN|apply Kd.N_drew));exact Kd.N_mono (Kd.N_far (p:=⟨vo,1,none⟩) (Kd.N_far (p:=⟨vo,0,none⟩) (Kd.N_mono HO_7.out (fun k_ hk=>(⟨hk,hk.2⟩:_∧k_≠vo))) (fun _ hk=>hk.2) (.int .i64 ((zD l0_3 x32_1).f0))) (fun _ hk=>hk.2) (.slice wv ((zD l0_3 x32_1).f1).length ww)) (fun _ hk=>⟨hk.1.1.1,⟨hk.1.1.2.1,⟨hk.1.1.2.2,hk.1.2⟩⟩⟩)⟩;have n2_:zA (((w26.setCell ⟨vo,0,none⟩ (.int .i64 ((zD l0_3 x32_1).f0))).setCell ⟨vo,1,none⟩ (.slice wv ((zD l0_3 x32_1).f1).length ww)).heap[vy]? =some (.cells #[.int .i64 a0_0, .int .i64 a0_1, .slice vi l0_2.length vk, .slice (some ad285) l0_3.length vl] 25 (0,0))):=⟨by (with_reducible repeat (first|refine zO ?_ _|refine zQ ?_|refine zM ?_ _));refine yJ ?_ NB273_286.out _;(with_reducible repeat (first|refine zO ?_ _|refine zQ ?_|refine zM ?_ _));refine yJ ?_ NB273_286.out _;(with_reducible repeat (first|refine zO ?_ _|refine zQ ?_|refine zM ?_ _));exact vb.out⟩;have n3_:zA (((w26.setCell ⟨vo,0,none⟩ (.int .i64 ((zD l0_3 x32_1).f0))).setCell ⟨vo,1,none⟩ (.slice wv ((zD l0_3 x32_1).f1).length ww)).heap[vo]? =some (.cells #[.int .i64 ((zD l0_3 x32_1).f0), .slice wv ((zD l0_3 x32_1).f1).length ww] 45 (0,0))):=⟨by (with_reducible repeat (first|refine zO ?_ _|refine zQ ?_|refine zM ?_ _));refine yU (cs:= #[.int .i64 ((zD l0_3 x32_1).f0), .slice none 0 0]) ?_ 1 _ rfl;(with_reducible repeat (first|refine zO ?_ _|refine zQ ?_|refine zM ?_ _));refine yU (cs:= #[.int .i64 0, .slice none 0 0]) ?_ 0 _ rfl;(with_reducible repeat (first|refine zO ?_ _|refine zQ ?_|refine zM ?_ _));exact vL.out⟩;have n4_:zA (Below w.heap.size w ((w26.setCell ⟨vo,0,none⟩ (.int .i64 ((zD l0_3 x32_1).f0))).setCell ⟨vo,1,none⟩ (.slice wv ((zD l0_3 x32_1).f1).length ww))):=⟨by repeat (first|(with_reducible first|exact HB.out|apply zG|apply zC|apply zF|refine zK ?_ vY.out|refine zK ?_ GE286.out)|exact HB.out)⟩;(try clear wC);(try clear HO_7);(try clear vb);(try clear vL);(try clear HB)
            generalize ((w26.setCell ⟨vo,0,none⟩ (.int .i64 ((zD l0_3 x32_1).f0))).setCell ⟨vo,1,none⟩ (.slice wv ((zD l0_3 x32_1).f1).length ww))=w29 at n0_ n1_ n2_ n3_ n4_⊢
            have wC:=n0_;have HO_7:=n1_;have vb:=n2_;have vL:=n3_;have HB:=n4_;clear n0_ n1_ n2_ n3_ n4_;have n0_:=zA.mk (Kd.N_drew wC.out);have n1_:=zA.mk (Kd.N_drew HO_7.out);have n2_:=zA.mk (zQ vb.out);have n3_:=zA.mk (zQ vL.out);have n4_:=zA.mk (zF HB.out);clear wC HO_7 vb vL HB;have wC:=n0_;have HO_7:=n1_;have vb:=n2_;have vL:=n3_;have HB:=n4_;clear n0_ n1_ n2_ n3_ n4_;obtain ⟨Ao31,co31,eo31⟩:=Kd.N_slice HO_7.out
            (first|subst eo31|(injection eo31 with f1_ f2_ f3_;have f4_:=f1_.symm;have f5_:=f3_.symm;clear f1_ f2_ f3_;subst f4_;subst f5_))
            have p287:0≤(x32_1:Int):=Qa;have q287:x32_1 < (x7_1.length:Int):=Qa;obtain ⟨ad287,A287_0,c287_0,e287,hx287_0,hl287_0,hi287_0⟩:=ZV (Kd.N_reads' HO_7.out).2.2 x32_1 p287 q287;cases e287;obtain ⟨ce287,hce287,hMe287,hcc287⟩:=Kd.N_get HO_7.out [] x32_1 p287 (by first|exact q287|exact Qa|(have e_:=(Kd.N_reads' HO_7.out).1;omega));obtain ⟨ua287_0,uc287_0,rfl,ul287_0,ge287_0⟩:=Kd.FK_slice_open hMe287;have hv287_0:=hcc287 0 _ rfl;rw [Nat.add_zero,show ((Kd.slice 9 Kd.string)).sz=1 from rfl,Nat.mul_one] at hv287_0;replace hv287_0:=Option.some.inj (hv287_0.symm.trans hx287_0)
            injection hv287_0 with hva_ hvn_ hvc_
            rw [hva_] at ge287_0;rw [hvc_] at ul287_0;have HL287_0:=zA.mk (show Kd.V Kd.string 9 _ w.heap.size _ _ (zh x7_1 x32_1) from Kd.V_mk ul287_0 ge287_0);clear hva_ hvn_ hvc_ ge287_0 ul287_0 hcc287 hce287;have HR287_0:=zA.mk hi287_0;have HC287_0:=zA.mk hl287_0;clear hi287_0 hl287_0;replace p287:=eq_true p287;replace q287:=eq_true q287;obtain ⟨Ao32,co32,eo32⟩:=Kd.N_slice wC.out
            (first|subst eo32|(injection eo32 with f1_ f2_ f3_;have f4_:=f1_.symm;have f5_:=f3_.symm;clear f1_ f2_ f3_;subst f4_;subst f5_))
            have p288:0≤(((zD l0_3 x32_1).f0):Int):=Qa;have q288:((zD l0_3 x32_1).f0) < (wY.length:Int):=Qa;obtain ⟨ad288,A288_0,c288_0,e288,hx288_0,hl288_0,hi288_0⟩:=ZV (Kd.N_reads' wC.out).2.2 ((zD l0_3 x32_1).f0) p288 q288;cases e288;obtain ⟨ce288,hce288,hMe288,hcc288⟩:=Kd.N_get wC.out [] ((zD l0_3 x32_1).f0) p288 (by first|exact q288|exact Qa|(have e_:=(Kd.N_reads' wC.out).1;omega));obtain ⟨ua288_0,uc288_0,rfl,ul288_0,ge288_0⟩:=Kd.FK_slice_open hMe288;have hv288_0:=hcc288 0 _ rfl;rw [Nat.add_zero,show ((Kd.slice 9 Kd.string)).sz=1 from rfl,Nat.mul_one] at hv288_0;replace hv288_0:=Option.some.inj (hv288_0.symm.trans hx288_0)
            injection hv288_0 with hva_ hvn_ hvc_
            rw [hva_] at ge288_0;rw [hvc_] at ul288_0;have HL288_0:=zA.mk (show Kd.V Kd.string 9 _ w.heap.size _ _ (zh wY ((zD l0_3 x32_1).f0)) from Kd.V_mk ul288_0 ge288_0);clear hva_ hvn_ hvc_ ge288_0 ul288_0 hcc288 hce288;have HR288_0:=zA.mk hi288_0;have HC288_0:=zA.mk hl288_0;clear hi288_0 hl288_0;replace p288:=eq_true p288;replace q288:=eq_true q288;refine Zr (n:=16) (S:=fun w'=>w'.cell? ⟨vo,0,none⟩=some (.int .i64 ((zD l0_3 x32_1).f0))∧w'.cell? ⟨vo,1,none⟩=some (.slice wv ((zD l0_3 x32_1).f1).length ww)∧w'.cell? ⟨vy,0,none⟩=some (.int .i64 a0_0)∧w'.cell? ⟨vy,1,none⟩=some (.int .i64 a0_1)∧w'.cell? ⟨vy,2,none⟩=some (.slice vi l0_2.length vk)∧w'.cell? ⟨vy,3,none⟩=some (.slice (some ad285) l0_3.length vl)∧w'.cell? (ad287.add (x32_1).toNat)=some (.slice A287_0 (zh x7_1 x32_1).length c287_0)∧w'.cell? (ad288.add (((zD l0_3 x32_1).f0)).toNat)=some (.slice A288_0 (zh wY ((zD l0_3 x32_1).f0)).length c288_0)) (ds:= [15]) #[false,false,false,false,false,false,false,false,false,false,false,false,false,false,false,false] (by kernel_rfl) rfl rfl ⟨(zR vL.out 0).trans rfl,(zR vL.out 1).trans rfl,(zR vb.out 0).trans rfl,(zR vb.out 1).trans rfl,(zR vb.out 2).trans rfl,(zR vb.out 3).trans rfl,hx287_0,hx288_0⟩ (fun hHeld=> ?_);refine ZJ yR.tab11 yR.bits11 (fun HT_ HW_=> ?_)
            generalize w29.drew=w30 at wC HO_7 vb vL HB HL287_0 HL288_0 HR287_0 HR288_0 hx287_0 hx288_0 hHeld⊢
            refine yM (i:=0) (N:=some 37) (v:= ?_) (a':= ?_) #[true,false,false,false,false,false,false,false,false,false,false,false,false,false,false,false] rfl rfl (yD HT_.out (by kernel_rfl)) (fun _ _ _ h=>h) (Or.inl ⟨by rfl,?_⟩) ?_ ?_;rotate_left
            ·intro w'
             go_simp
             with_reducible rfl
            rotate_left
            ·simp only [Act.put,List.setIfInBounds_toArray,List.set_cons_zero,List.set_cons_succ,zx,zy]
             rfl
            refine yM (i:=1) (N:=some 38) (v:= ?_) (a':= ?_) #[true,true,false,false,false,false,false,false,false,false,false,false,false,false,false,false] rfl rfl (yD HT_.out (by kernel_rfl)) (fun _ _ _ h=>h) (Or.inl ⟨by rfl,?_⟩) ?_ ?_;rotate_left
            ·intro w'
             go_simp
             with_reducible rfl
            rotate_left
            ·simp only [Act.put,List.setIfInBounds_toArray,List.set_cons_zero,List.set_cons_succ,zx,zy]
             rfl
            refine yM (i:=2) (N:=some 39) (v:= ?_) (a':= ?_) #[true,true,true,false,false,false,false,false,false,false,false,false,false,false,false,false] rfl rfl (yD HT_.out (by kernel_rfl)) (fun _ _ _ h=>h) (Or.inl ⟨by rfl,?_⟩) ?_ ?_;rotate_left
            ·intro w'
             go_simp
             with_reducible rfl
            rotate_left
            ·simp only [Act.put,List.setIfInBounds_toArray,List.set_cons_zero,List.set_cons_succ,zx,zy]
             rfl
            refine yM (i:=3) (N:=some 40) (v:= ?_) (a':= ?_) #[true,true,true,true,false,false,false,false,false,false,false,false,false,false,false,false] rfl rfl (yD HT_.out (by kernel_rfl)) (fun _ _ _ h=>h) (Or.inl ⟨by rfl,?_⟩) ?_ ?_;rotate_left
            ·intro w'
             go_simp
             with_reducible rfl
            rotate_left
            ·simp only [Act.put,List.setIfInBounds_toArray,List.set_cons_zero,List.set_cons_succ,zx,zy]
             rfl
            refine yM (i:=4) (N:=some 41) (v:= ?_) (a':= ?_) #[true,true,true,true,true,false,false,false,false,false,false,false,false,false,false,false] rfl rfl (yD HT_.out (by kernel_rfl)) (fun _ _ _ h=>h) (Or.inl ⟨by rfl,?_⟩) ?_ ?_;rotate_left
            ·intro w'
             go_simp
             with_reducible rfl
            rotate_left
            ·simp only [Act.put,List.setIfInBounds_toArray,List.set_cons_zero,List.set_cons_succ,zx,zy]
             rfl
            refine yM (i:=6) (N:=some 43) (v:= ?_) (a':= ?_) #[true,true,true,true,true,false,true,false,false,false,false,false,false,false,false,false] rfl rfl (yD HT_.out (by kernel_rfl)) (fun _ _ _ h=>h) (Or.inl ⟨by rfl,?_⟩) ?_ ?_;rotate_left
            ·intro w'
             go_simp
             with_reducible rfl
            rotate_left
            ·simp only [Act.put,List.setIfInBounds_toArray,List.set_cons_zero,List.set_cons_succ,zx,zy]
             rfl
            refine yM (i:=7) (N:=some 44) (v:= ?_) (a':= ?_) #[true,true,true,true,true,false,true,true,false,false,false,false,false,false,false,false] rfl rfl (yD HT_.out (by kernel_rfl)) (fun _ _ _ h=>h) (Or.inl ⟨by rfl,?_⟩) ?_ ?_;rotate_left
            ·intro w'
             go_simp
             with_reducible rfl
            rotate_left
            ·simp only [Act.put,List.setIfInBounds_toArray,List.set_cons_zero,List.set_cons_succ,zx,zy]
             rfl
            refine yM (i:=11) (N:=some 48) (v:= ?_) (a':= ?_) #[true,true,true,true,true,false,true,true,false,false,false,true,false,false,false,false] rfl rfl (yD HT_.out (by kernel_rfl)) (fun _ _ _ h=>h) (Or.inl ⟨by rfl,?_⟩) ?_ ?_;rotate_left
            ·intro w'
             go_simp
             with_reducible rfl
            rotate_left
            ·simp only [Act.put,List.setIfInBounds_toArray,List.set_cons_zero,List.set_cons_succ,zx,zy]
             rfl
            refine take_ (i:=5) (N:=some 42) (v:= ?_) (a':= ?_) #[true,true,true,true,true,true,true,true,false,false,false,true,false,false,false,false] rfl rfl (yb HT_.out HW_.out (by kernel_rfl)) (fun _ _ _ h=>h) (Or.inl ⟨by rfl,?_⟩) hHeld ?_ ?_;rotate_left
            ·rintro w' ⟨s0,s1,s2,s3,s4,s5,s6,s7⟩
             go_simp
             with_reducible rfl
            rotate_left
            ·simp only [Act.put,List.setIfInBounds_toArray,List.set_cons_zero,List.set_cons_succ,zx,zy]
             rfl
            refine take_ (i:=8) (N:=some 45) (v:= ?_) (a':= ?_) #[true,true,true,true,true,true,true,true,true,false,false,true,false,false,false,false] rfl rfl (yb HT_.out HW_.out (by kernel_rfl)) (fun _ _ _ h=>h) (Or.inl ⟨by rfl,?_⟩) hHeld ?_ ?_;rotate_left
            ·rintro w' ⟨s0,s1,s2,s3,s4,s5,s6,s7⟩
             go_simp
             with_reducible rfl
            rotate_left
            ·simp only [Act.put,List.setIfInBounds_toArray,List.set_cons_zero,List.set_cons_succ,zx,zy]
             rfl
            refine yM (i:=9) (N:=some 46) (v:= ?_) (a':= ?_) #[true,true,true,true,true,true,true,true,true,true,false,true,false,false,false,false] rfl rfl (yD HT_.out (by kernel_rfl)) (fun _ _ _ h=>h) (Or.inl ⟨by rfl,?_⟩) ?_ ?_;rotate_left
            ·intro w'
             go_simp
             with_reducible rfl
            rotate_left
            ·simp only [Act.put,List.setIfInBounds_toArray,List.set_cons_zero,List.set_cons_succ,zx,zy]
             rfl
            refine take_ (i:=10) (N:=some 47) (v:= ?_) (a':= ?_) #[true,true,true,true,true,true,true,true,true,true,true,true,false,false,false,false] rfl rfl (yb HT_.out HW_.out (by kernel_rfl)) (fun _ _ _ h=>h) (Or.inl ⟨by rfl,?_⟩) hHeld ?_ ?_;rotate_left
            ·rintro w' ⟨s0,s1,s2,s3,s4,s5,s6,s7⟩
             go_simp
             with_reducible rfl
            rotate_left
            ·simp only [Act.put,List.setIfInBounds_toArray,List.set_cons_zero,List.set_cons_succ,zx,zy]
             rfl
            refine take_ (i:=12) (N:=some 49) (v:= ?_) (a':= ?_) #[true,true,true,true,true,true,true,true,true,true,true,true,true,false,false,false] rfl rfl (yb HT_.out HW_.out (by kernel_rfl)) (fun _ _ _ h=>h) (Or.inl ⟨by rfl,?_⟩) hHeld ?_ ?_;rotate_left
            ·rintro w' ⟨s0,s1,s2,s3,s4,s5,s6,s7⟩
             go_simp
             with_reducible rfl
            rotate_left
            ·simp only [Act.put,List.setIfInBounds_toArray,List.set_cons_zero,List.set_cons_succ,zx,zy]
             rfl
            refine one_ (i:=13) (N:=some 50) #[true,true,true,true,true,true,true,true,true,true,true,true,true,true,false,false] rfl rfl (ym HT_.out (by kernel_rfl)) (by decide) (fun K hK=> ?_);refine Yo Try.func18 (by kernel_rfl) rfl #[.slice A287_0 (zh x7_1 x32_1).length c287_0, .slice A288_0 (zh wY ((zD l0_3 x32_1).f0)).length c288_0, .int .i64 a0_1] (by rfl) rfl rfl QX ?_
            with_reducible refine (zq.calls k1 _ _ (zh x7_1 x32_1) _ _ (zh wY ((zD l0_3 x32_1).f0)) a0_1 t289 _ ?side1 ?side2 ?side3 ?side4 A22.out).mono ?_
            (case side1=>repeat (first|exact QE|(with_reducible refine Kd.C_alloc ?_ _)|(with_reducible refine Kd.C_drewN ?_ _)|(with_reducible refine Kd.C_drew ?_)))
            (case side2=>exact HC287_0.out)
            (case side3=>repeat (first|exact QF|(with_reducible refine Kd.C_alloc ?_ _)|(with_reducible refine Kd.C_drewN ?_ _)|(with_reducible refine Kd.C_drew ?_)))
            (case side4=>exact HC288_0.out)
            rintro e w33 ⟨v290,rfl,ho0,hb⟩;have HS6_:=(hb.cell (ZzA _ _ (hHeld.2.2.2.2.2.2.1))).trans (hHeld.2.2.2.2.2.2.1);have HS7_:=(hb.cell (ZzA _ _ (hHeld.2.2.2.2.2.2.2))).trans (hHeld.2.2.2.2.2.2.2);refine ⟨_,rfl,?_⟩;have n0_:=zA.mk (Kd.N_elder' (Qk wC) (Kd.R_base ho0) hb);have n1_:=zA.mk (Kd.N_elder' (Qk HO_7) (Kd.R_base ho0) hb);have n2_:=zA.mk (Kd.V_elder' (Ql HL287_0) (Kd.R_base ho0) hb);have n3_:=zA.mk (Kd.V_elder' (Ql HL288_0) (Kd.R_base ho0) hb);have n4_:=zA.mk (Kd.R_lower (Kd.R_newM (M:=fun k_=>(w.heap.size≤k_)) ho0 (zE (Qe vY GE286)) (fun k_ h_=>h_)) (zE (Qe vY GE286)));have n5_:=zA.mk (ze (g:=vy) (Qi vb) hb);have n6_:=zA.mk (ze (g:=vo) (Qi vL) hb);have n7_:=zA.mk (Kd.C_below QE hb);have n8_:=zA.mk (Kd.C_below QF hb);have n9_:=zA.mk (zH (Qe vY GE286) hb);clear wC HO_7 HL287_0 HL288_0 vb vL HR287_0 HR288_0 HB;have wC:=n0_;have HO_7:=n1_;have HL287_0:=n2_;have HL288_0:=n3_;have HO291:=n4_;have vb:=n5_;have vL:=n6_;have HR287_0:=n7_;have HR288_0:=n8_;have HB:=n9_;clear n0_ n1_ n2_ n3_ n4_ n5_ n6_ n7_ n8_ n9_;obtain ⟨vA290,vc290,rfl⟩:=Kd.R_slice HO291.out;(try clear hb ho0);have p23:0≤(x32_1:Int):=Qa;have q23:(x32_1:Int) < ((x7_1.length:Int):Int):=Qa;obtain ⟨go23,co23,eo23,gb23,gl23,cl23,HG23⟩:=Kd.N_form HO_7.out (by omega)
            (first|cases eo23|(injection eo23 with ea_ en_ ec_;(first|subst ea_|(injection ea_ with ea_;subst ea_));subst ec_;clear en_))
            have GB23:=zA.mk gb23;have GG23:=zA.mk HG23;clear gb23 gl23 HG23
            (first|simp only [ZC] at hx287_0|skip)
            obtain ⟨ce23,hcl23,hM23,hcc23,hfr23⟩:=Kd.N_elem HO_7.out [] (x32_1:Int) p23 q23;obtain ⟨ua23_0,uc23_0,rfl,ul23_0,ge23_0⟩:=Kd.FK_slice_open hM23;have hx23_0:=hcc23 0 _ rfl;have hf23_0:=hfr23 0
            (try simp only [show ((Kd.slice 9 Kd.string)).sz=1 from rfl,Nat.mul_one,Nat.add_zero] at hx23_0)
            (try simp only [show ((Kd.slice 9 Kd.string)).sz=1 from rfl,Nat.mul_one,Nat.add_zero] at hf23_0)
            clear hcl23 hcc23 hfr23 hM23;replace p23:=eq_true p23;replace q23:=eq_true q23;have HX34:=zA.mk (show Kd.N (Kd.slice 9 Kd.string) 32 _ w.heap.size (fun k_=>(w.heap.size≤k_)∧some k_≠(.slice (some ad288) wY.length co32:Value).ownBlock∧some k_≠((.slice vA290 t289.length vc290):Value).ownBlock∧k_≠vy∧k_≠vo) (.slice (some ⟨go23,0,none⟩) x7_1.length co31) x7_1 from (Kd.N_mono (HO_7.out) (fun k_ hk=>⟨hk.1.1,⟨hk.1.2.1,⟨hk.2,⟨hk.1.2.2.1,hk.1.2.2.2⟩⟩⟩⟩)));replace HX34:=zA.mk (show Kd.N (Kd.slice 9 Kd.string) 32 _ w.heap.size (fun k_=>(w.heap.size≤k_)∧some k_≠(.slice (some ad288) wY.length co32:Value).ownBlock∧k_≠vy∧k_≠vo) (.slice (some ⟨go23,0,none⟩) x7_1.length co31) x7_1 from Kd.N_mono HX34.out (fun k_ hk=>⟨hk.1,⟨hk.2.1,⟨hk.2.2.2.1,hk.2.2.2.2⟩⟩⟩));obtain ⟨ce34,hcl34,hM34,hcc34,hfr34⟩:=Kd.N_elem HX34.out [] (x32_1:Int) (Qa) QW;obtain ⟨ua34_0,uc34_0,rfl,ul34_0,ge34_0⟩:=Kd.FK_slice_open hM34;have HP34:=(Kd.N_seg HX34.out (x32_1:Int) (Qa) QW (seg:= [(.slice vA290 t289.length vc290)]) (j:=0) hcl34 hcc34 (show 1≤1 from by decide) (x':=t289) (Kd.FK_slice_mk (Kd.R_reads' (Kd.R_mono (ok':=(fun k_=>((fun k_=>(w.heap.size≤k_)∧some k_≠(.slice (some ad288) wY.length co32:Value).ownBlock∧k_≠vy∧k_≠vo)) k_∧k_≠go23)) (Kd.R_types (Kd.R_types (Kd.R_apart' (Kd.R_apart' (HO291.out) (Kd.N_typed wC.out) (by decide)) (Kd.N_typed HO_7.out) (by decide)) vb.out (by decide)) vL.out (by decide)) (fun k_ hk=>⟨⟨hk.1.1.1.1.1,⟨hk.1.1.1.2,⟨hk.1.2,hk.2⟩⟩⟩,fun e_=>(hk.1.1.2) (by rw [e_];rfl)⟩))).2.1 (Kd.R_F (Kd.R_mono (ok':=(fun k_=>((fun k_=>(w.heap.size≤k_)∧some k_≠(.slice (some ad288) wY.length co32:Value).ownBlock∧k_≠vy∧k_≠vo)) k_∧k_≠go23)) (Kd.R_types (Kd.R_types (Kd.R_apart' (Kd.R_apart' (HO291.out) (Kd.N_typed wC.out) (by decide)) (Kd.N_typed HO_7.out) (by decide)) vb.out (by decide)) vL.out (by decide)) (fun k_ hk=>⟨⟨hk.1.1.1.1.1,⟨hk.1.1.1.2,⟨hk.1.2,hk.2⟩⟩⟩,fun e_=>(hk.1.1.2) (by rw [e_];rfl)⟩)))) (fun _ hk=>hk)).1
            (try simp only [show ((Kd.slice 9 Kd.string)).sz=1 from rfl,Nat.mul_one,Nat.add_zero] at HP34)
            rw [←Ny292.out] at HP34;have HQ34:=zA.mk HP34;clear hcl34 hcc34 hfr34 hM34 HP34;refine hK.out _ _ ⟨(zR vL.out 0).trans rfl,(zR vL.out 1).trans rfl,(zR vb.out 0).trans rfl,(zR vb.out 1).trans rfl,(zR vb.out 2).trans rfl,(zR vb.out 3).trans rfl,HS6_,HS7_⟩ (fun hHeld=> ?_);clear hK K;refine yl (a':= ?_) ?_ ?_;rotate_left
            ·show Act.put _ (some 50) _=_
             simp only [Act.put,List.setIfInBounds_toArray,List.set_cons_zero,List.set_cons_succ,zx,zy]
             rfl
            refine yM (i:=14) (N:=some 51) (v:= ?_) (a':= ?_) #[true,true,true,true,true,true,true,true,true,true,true,true,true,true,true,false] rfl rfl (yD HT_.out (by kernel_rfl)) (fun _ _ _ h=>h) (Or.inl ⟨by rfl,?_⟩) ?_ ?_;rotate_left
            ·intro w'
             go_simp
             with_reducible rfl
            rotate_left
            ·simp only [Act.put,List.setIfInBounds_toArray,List.set_cons_zero,List.set_cons_succ,zx,zy]
             rfl
            refine last_ (i:=15) (N:=none) #[true,true,true,true,true,true,true,true,true,true,true,true,true,true,true,true] rfl rfl (ym HT_.out (by kernel_rfl)) (by decide) (fun K hK=> ?_);refine qq (w1:= ?_) (by rfl) rfl ?_ ?_;rotate_left
            ·go_simp
             rfl
            refine hK.out _ _ ?_;clear hK K;refine YR (Ze HT_.out (by kernel_rfl)) ?_;have p24:0≤(x32_1:Int):=Qa;have q24:(x32_1:Int) < ((x7_1.length:Int):Int):=Qa;replace p24:=eq_true p24;replace q24:=eq_true q24
            try go_wp2
            go_ret2
            exact ⟨_,by first|rfl|(simp [zS,zT] <;> rfl)|(simp [*,zS,zT] <;> rfl),by first|exact Kd.S_nil _ _ _ _ _|exact Kd.N_nil _ _ _ _ _|exact Kd.V_nil _ _ _ _ _|exact Kd.Q_nil _ _ _ _ _|exact Kd.R_nil _ _ _ _ _,by repeat (first|(with_reducible first|exact HB.out|apply zG|apply zC|apply zF|refine zK ?_ GB23.out|refine zK ?_ vY.out|refine zK ?_ GE286.out)|exact HB.out)⟩
           ·rw [if_neg c25] at H
            have c25b0:=decide_eq_false c25;have c25b1:decide (600 < t289.length)=false:=decide_eq_false (by omega);clear c25;have H':=zA.mk H;clear H;have p285:0≤(x32_1:Int):=Qa;have q285:x32_1 < (l0_3.length:Int):=Qa;obtain ⟨ad285,wv,ww,e285,hx285_0,hx285_1,hl285_1,hi285_1⟩:=yv vw.out x32_1 p285 q285;cases e285;replace hx285_0:=(HB.out.cell (ZzA w _ hx285_0)).trans hx285_0;replace hx285_1:=(HB.out.cell (ZzA w _ hx285_1)).trans hx285_1;have HR285_1:=zA.mk hi285_1;have HC285_1:=zA.mk hl285_1;clear hi285_1 hl285_1;replace p285:=eq_true p285;replace q285:=eq_true q285
            try go_wp2_with (first|((with_reducible refine yB (N:=9) rfl ?_);refine yH ?hg (N:=9) ?hd (cs:= #[.int .i64 0, .slice none 0 0]) (t:=45) ?hr ?_;(case hd=>rfl);(case hg=>rfl);(case hr=>exact Qm);intro vo hg w35 hbox hb;have n0_:=zA.mk (Kd.N_below (Kd.N_elderB (Qk wC) vo (Nat.le_of_eq hg.symm)) hb);have n1_:=zA.mk (Kd.N_below (Kd.N_elderB (Qk HO_7) vo (Nat.le_of_eq hg.symm)) hb);have n2_:=zA.mk (ze (g:=vy) (Qi vb) hb);have n3_:=zA.mk (zH (Qd vY) hb);have n4_:=zA.mk (hbox);have n5_:=zA.mk ((by rw [hg];exact (zE (Qd vY)):w.heap.size≤vo));have n6_:=zA.mk ((by rw [hg];exact (zE (Qd vY)):w.heap.size≤vo));have n7_:=zA.mk ((by rw [hg];exact Nat.ne_of_lt (yG (g:=vy) (Qi vb)):vy≠vo));have n8_:=zA.mk ((by rw [hg];exact Nat.ne_of_gt (yG (g:=vy) (Qi vb)):vo≠vy));clear wC HO_7 vb HB;have wC:=n0_;have HO_7:=n1_;have vb:=n2_;have HB:=n3_;have vL:=n4_;have GW286:=n5_;have GE286:=n6_;have NB273_286:=n7_;have NB286_273:=n8_;clear n0_ n1_ n2_ n3_ n4_ n5_ n6_ n7_ n8_ hb hbox hg;have hnb36:=NB286_273.out;have hnc36:=NB273_286.out;have hcz37_0:=Qn vL 0 rfl;have hcz37_1:=Qn vL 1 rfl;have hfz37_0:=zB vL.out 0;have hfz37_1:=zB vL.out 1))
            have n0_:zA (Kd.N (Kd.slice 9 Kd.string) 32 ((w35.setCell ⟨vo,0,none⟩ (.int .i64 ((zD l0_3 x32_1).f0))).setCell ⟨vo,1,none⟩ (.slice wv ((zD l0_3 x32_1).f1).length ww)) w.heap.size (fun k_=>(w.heap.size≤k_)∧some k_≠(v283:Value).ownBlock∧k_≠vy∧k_≠vo) v275 wY):=⟨by (with_reducible repeat (first|apply Kd.N_alloc|apply Kd.N_drewN|apply Kd.N_drew));exact Kd.N_mono (Kd.N_far (p:=⟨vo,1,none⟩) (Kd.N_far (p:=⟨vo,0,none⟩) (Kd.N_mono wC.out (fun k_ hk=>(⟨hk,hk.2⟩:_∧k_≠vo))) (fun _ hk=>hk.2) (.int .i64 ((zD l0_3 x32_1).f0))) (fun _ hk=>hk.2) (.slice wv ((zD l0_3 x32_1).f1).length ww)) (fun _ hk=>⟨hk.1.1.1,⟨hk.1.1.2.1,⟨hk.1.1.2.2,hk.1.2⟩⟩⟩)⟩;have n1_:zA (Kd.N (Kd.slice 9 Kd.string) 32 ((w35.setCell ⟨vo,0,none⟩ (.int .i64 ((zD l0_3 x32_1).f0))).setCell ⟨vo,1,none⟩ (.slice wv ((zD l0_3 x32_1).f1).length ww)) w.heap.size (fun k_=>(w.heap.size≤k_)∧some k_≠(v275:Value).ownBlock∧k_≠vy∧k_≠vo) v283 x7_1):=⟨by (with_reducible repeat (first|apply Kd.N_alloc|apply Kd.N_drewN|apply Kd.N_drew));exact Kd.N_mono (Kd.N_far (p:=⟨vo,1,none⟩) (Kd.N_far (p:=⟨vo,0,none⟩) (Kd.N_mono HO_7.out (fun k_ hk=>(⟨hk,hk.2⟩:_∧k_≠vo))) (fun _ hk=>hk.2) (.int .i64 ((zD l0_3 x32_1).f0))) (fun _ hk=>hk.2) (.slice wv ((zD l0_3 x32_1).f1).length ww)) (fun _ hk=>⟨hk.1.1.1,⟨hk.1.1.2.1,⟨hk.1.1.2.2,hk.1.2⟩⟩⟩)⟩;have n2_:zA (((w35.setCell ⟨vo,0,none⟩ (.int .i64 ((zD l0_3 x32_1).f0))).setCell ⟨vo,1,none⟩ (.slice wv ((zD l0_3 x32_1).f1).length ww)).heap[vy]? =some (.cells #[.int .i64 a0_0, .int .i64 a0_1, .slice vi l0_2.length vk, .slice (some ad285) l0_3.length vl] 25 (0,0))):=⟨by (with_reducible repeat (first|refine zO ?_ _|refine zQ ?_|refine zM ?_ _));refine yJ ?_ NB273_286.out _;(with_reducible repeat (first|refine zO ?_ _|refine zQ ?_|refine zM ?_ _));refine yJ ?_ NB273_286.out _;(with_reducible repeat (first|refine zO ?_ _|refine zQ ?_|refine zM ?_ _));exact vb.out⟩;have n3_:zA (((w35.setCell ⟨vo,0,none⟩ (.int .i64 ((zD l0_3 x32_1).f0))).setCell ⟨vo,1,none⟩ (.slice wv ((zD l0_3 x32_1).f1).length ww)).heap[vo]? =some (.cells #[.int .i64 ((zD l0_3 x32_1).f0), .slice wv ((zD l0_3 x32_1).f1).length ww] 45 (0,0))):=⟨by (with_reducible repeat (first|refine zO ?_ _|refine zQ ?_|refine zM ?_ _));refine yU (cs:= #[.int .i64 ((zD l0_3 x32_1).f0), .slice none 0 0]) ?_ 1 _ rfl;(with_reducible repeat (first|refine zO ?_ _|refine zQ ?_|refine zM ?_ _));refine yU (cs:= #[.int .i64 0, .slice none 0 0]) ?_ 0 _ rfl;(with_reducible repeat (first|refine zO ?_ _|refine zQ ?_|refine zM ?_ _));exact vL.out⟩;have n4_:zA (Below w.heap.size w ((w35.setCell ⟨vo,0,none⟩ (.int .i64 ((zD l0_3 x32_1).f0))).setCell ⟨vo,1,none⟩ (.slice wv ((zD l0_3 x32_1).f1).length ww))):=⟨by repeat (first|(with_reducible first|exact HB.out|apply zG|apply zC|apply zF|refine zK ?_ vY.out|refine zK ?_ GE286.out)|exact HB.out)⟩;(try clear wC);(try clear HO_7);(try clear vb);(try clear vL);(try clear HB)
            generalize ((w35.setCell ⟨vo,0,none⟩ (.int .i64 ((zD l0_3 x32_1).f0))).setCell ⟨vo,1,none⟩ (.slice wv ((zD l0_3 x32_1).f1).length ww))=w38 at n0_ n1_ n2_ n3_ n4_⊢
            have wC:=n0_;have HO_7:=n1_;have vb:=n2_;have vL:=n3_;have HB:=n4_;clear n0_ n1_ n2_ n3_ n4_;have n0_:=zA.mk (Kd.N_drew wC.out);have n1_:=zA.mk (Kd.N_drew HO_7.out);have n2_:=zA.mk (zQ vb.out);have n3_:=zA.mk (zQ vL.out);have n4_:=zA.mk (zF HB.out);clear wC HO_7 vb vL HB;have wC:=n0_;have HO_7:=n1_;have vb:=n2_;have vL:=n3_;have HB:=n4_;clear n0_ n1_ n2_ n3_ n4_;obtain ⟨Ao40,co40,eo40⟩:=Kd.N_slice HO_7.out
            (first|subst eo40|(injection eo40 with f1_ f2_ f3_;have f4_:=f1_.symm;have f5_:=f3_.symm;clear f1_ f2_ f3_;subst f4_;subst f5_))
            have p287:0≤(x32_1:Int):=Qa;have q287:x32_1 < (x7_1.length:Int):=Qa;obtain ⟨ad287,A287_0,c287_0,e287,hx287_0,hl287_0,hi287_0⟩:=ZV (Kd.N_reads' HO_7.out).2.2 x32_1 p287 q287;cases e287;obtain ⟨ce287,hce287,hMe287,hcc287⟩:=Kd.N_get HO_7.out [] x32_1 p287 (by first|exact q287|exact Qa|(have e_:=(Kd.N_reads' HO_7.out).1;omega));obtain ⟨ua287_0,uc287_0,rfl,ul287_0,ge287_0⟩:=Kd.FK_slice_open hMe287;have hv287_0:=hcc287 0 _ rfl;rw [Nat.add_zero,show ((Kd.slice 9 Kd.string)).sz=1 from rfl,Nat.mul_one] at hv287_0;replace hv287_0:=Option.some.inj (hv287_0.symm.trans hx287_0)
            injection hv287_0 with hva_ hvn_ hvc_
            rw [hva_] at ge287_0;rw [hvc_] at ul287_0;have HL287_0:=zA.mk (show Kd.V Kd.string 9 _ w.heap.size _ _ (zh x7_1 x32_1) from Kd.V_mk ul287_0 ge287_0);clear hva_ hvn_ hvc_ ge287_0 ul287_0 hcc287 hce287;have HR287_0:=zA.mk hi287_0;have HC287_0:=zA.mk hl287_0;clear hi287_0 hl287_0;replace p287:=eq_true p287;replace q287:=eq_true q287;obtain ⟨Ao41,co41,eo41⟩:=Kd.N_slice wC.out
            (first|subst eo41|(injection eo41 with f1_ f2_ f3_;have f4_:=f1_.symm;have f5_:=f3_.symm;clear f1_ f2_ f3_;subst f4_;subst f5_))
            have p288:0≤(((zD l0_3 x32_1).f0):Int):=Qa;have q288:((zD l0_3 x32_1).f0) < (wY.length:Int):=Qa;obtain ⟨ad288,A288_0,c288_0,e288,hx288_0,hl288_0,hi288_0⟩:=ZV (Kd.N_reads' wC.out).2.2 ((zD l0_3 x32_1).f0) p288 q288;cases e288;obtain ⟨ce288,hce288,hMe288,hcc288⟩:=Kd.N_get wC.out [] ((zD l0_3 x32_1).f0) p288 (by first|exact q288|exact Qa|(have e_:=(Kd.N_reads' wC.out).1;omega));obtain ⟨ua288_0,uc288_0,rfl,ul288_0,ge288_0⟩:=Kd.FK_slice_open hMe288;have hv288_0:=hcc288 0 _ rfl;rw [Nat.add_zero,show ((Kd.slice 9 Kd.string)).sz=1 from rfl,Nat.mul_one] at hv288_0;replace hv288_0:=Option.some.inj (hv288_0.symm.trans hx288_0)
            injection hv288_0 with hva_ hvn_ hvc_
            rw [hva_] at ge288_0;rw [hvc_] at ul288_0;have HL288_0:=zA.mk (show Kd.V Kd.string 9 _ w.heap.size _ _ (zh wY ((zD l0_3 x32_1).f0)) from Kd.V_mk ul288_0 ge288_0);clear hva_ hvn_ hvc_ ge288_0 ul288_0 hcc288 hce288;have HR288_0:=zA.mk hi288_0;have HC288_0:=zA.mk hl288_0;clear hi288_0 hl288_0;replace p288:=eq_true p288;replace q288:=eq_true q288;refine Zr (n:=16) (S:=fun w'=>w'.cell? ⟨vo,0,none⟩=some (.int .i64 ((zD l0_3 x32_1).f0))∧w'.cell? ⟨vo,1,none⟩=some (.slice wv ((zD l0_3 x32_1).f1).length ww)∧w'.cell? ⟨vy,0,none⟩=some (.int .i64 a0_0)∧w'.cell? ⟨vy,1,none⟩=some (.int .i64 a0_1)∧w'.cell? ⟨vy,2,none⟩=some (.slice vi l0_2.length vk)∧w'.cell? ⟨vy,3,none⟩=some (.slice (some ad285) l0_3.length vl)∧w'.cell? (ad287.add (x32_1).toNat)=some (.slice A287_0 (zh x7_1 x32_1).length c287_0)∧w'.cell? (ad288.add (((zD l0_3 x32_1).f0)).toNat)=some (.slice A288_0 (zh wY ((zD l0_3 x32_1).f0)).length c288_0)) (ds:= [15]) #[false,false,false,false,false,false,false,false,false,false,false,false,false,false,false,false] (by kernel_rfl) rfl rfl ⟨(zR vL.out 0).trans rfl,(zR vL.out 1).trans rfl,(zR vb.out 0).trans rfl,(zR vb.out 1).trans rfl,(zR vb.out 2).trans rfl,(zR vb.out 3).trans rfl,hx287_0,hx288_0⟩ (fun hHeld=> ?_);refine ZJ yR.tab11 yR.bits11 (fun HT_ HW_=> ?_)
            generalize w38.drew=w39 at wC HO_7 vb vL HB HL287_0 HL288_0 HR287_0 HR288_0 hx287_0 hx288_0 hHeld⊢
            refine yM (i:=0) (N:=some 37) (v:= ?_) (a':= ?_) #[true,false,false,false,false,false,false,false,false,false,false,false,false,false,false,false] rfl rfl (yD HT_.out (by kernel_rfl)) (fun _ _ _ h=>h) (Or.inl ⟨by rfl,?_⟩) ?_ ?_;rotate_left
            ·intro w'
             go_simp
             with_reducible rfl
            rotate_left
            ·simp only [Act.put,List.setIfInBounds_toArray,List.set_cons_zero,List.set_cons_succ,zx,zy]
             rfl
            refine yM (i:=1) (N:=some 38) (v:= ?_) (a':= ?_) #[true,true,false,false,false,false,false,false,false,false,false,false,false,false,false,false] rfl rfl (yD HT_.out (by kernel_rfl)) (fun _ _ _ h=>h) (Or.inl ⟨by rfl,?_⟩) ?_ ?_;rotate_left
            ·intro w'
             go_simp
             with_reducible rfl
            rotate_left
            ·simp only [Act.put,List.setIfInBounds_toArray,List.set_cons_zero,List.set_cons_succ,zx,zy]
             rfl
            refine yM (i:=2) (N:=some 39) (v:= ?_) (a':= ?_) #[true,true,true,false,false,false,false,false,false,false,false,false,false,false,false,false] rfl rfl (yD HT_.out (by kernel_rfl)) (fun _ _ _ h=>h) (Or.inl ⟨by rfl,?_⟩) ?_ ?_;rotate_left
            ·intro w'
             go_simp
             with_reducible rfl
            rotate_left
            ·simp only [Act.put,List.setIfInBounds_toArray,List.set_cons_zero,List.set_cons_succ,zx,zy]
             rfl
            refine yM (i:=3) (N:=some 40) (v:= ?_) (a':= ?_) #[true,true,true,true,false,false,false,false,false,false,false,false,false,false,false,false] rfl rfl (yD HT_.out (by kernel_rfl)) (fun _ _ _ h=>h) (Or.inl ⟨by rfl,?_⟩) ?_ ?_;rotate_left
            ·intro w'
             go_simp
             with_reducible rfl
            rotate_left
            ·simp only [Act.put,List.setIfInBounds_toArray,List.set_cons_zero,List.set_cons_succ,zx,zy]
             rfl
            refine yM (i:=4) (N:=some 41) (v:= ?_) (a':= ?_) #[true,true,true,true,true,false,false,false,false,false,false,false,false,false,false,false] rfl rfl (yD HT_.out (by kernel_rfl)) (fun _ _ _ h=>h) (Or.inl ⟨by rfl,?_⟩) ?_ ?_;rotate_left
            ·intro w'
             go_simp
             with_reducible rfl
            rotate_left
            ·simp only [Act.put,List.setIfInBounds_toArray,List.set_cons_zero,List.set_cons_succ,zx,zy]
             rfl
            refine yM (i:=6) (N:=some 43) (v:= ?_) (a':= ?_) #[true,true,true,true,true,false,true,false,false,false,false,false,false,false,false,false] rfl rfl (yD HT_.out (by kernel_rfl)) (fun _ _ _ h=>h) (Or.inl ⟨by rfl,?_⟩) ?_ ?_;rotate_left
            ·intro w'
             go_simp
             with_reducible rfl
            rotate_left
            ·simp only [Act.put,List.setIfInBounds_toArray,List.set_cons_zero,List.set_cons_succ,zx,zy]
             rfl
            refine yM (i:=7) (N:=some 44) (v:= ?_) (a':= ?_) #[true,true,true,true,true,false,true,true,false,false,false,false,false,false,false,false] rfl rfl (yD HT_.out (by kernel_rfl)) (fun _ _ _ h=>h) (Or.inl ⟨by rfl,?_⟩) ?_ ?_;rotate_left
            ·intro w'
             go_simp
             with_reducible rfl
            rotate_left
            ·simp only [Act.put,List.setIfInBounds_toArray,List.set_cons_zero,List.set_cons_succ,zx,zy]
             rfl
            refine yM (i:=11) (N:=some 48) (v:= ?_) (a':= ?_) #[true,true,true,true,true,false,true,true,false,false,false,true,false,false,false,false] rfl rfl (yD HT_.out (by kernel_rfl)) (fun _ _ _ h=>h) (Or.inl ⟨by rfl,?_⟩) ?_ ?_;rotate_left
            ·intro w'
             go_simp
             with_reducible rfl
            rotate_left
            ·simp only [Act.put,List.setIfInBounds_toArray,List.set_cons_zero,List.set_cons_succ,zx,zy]
             rfl
            refine take_ (i:=5) (N:=some 42) (v:= ?_) (a':= ?_) #[true,true,true,true,true,true,true,true,false,false,false,true,false,false,false,false] rfl rfl (yb HT_.out HW_.out (by kernel_rfl)) (fun _ _ _ h=>h) (Or.inl ⟨by rfl,?_⟩) hHeld ?_ ?_;rotate_left
            ·rintro w' ⟨s0,s1,s2,s3,s4,s5,s6,s7⟩
             go_simp
             with_reducible rfl
            rotate_left
            ·simp only [Act.put,List.setIfInBounds_toArray,List.set_cons_zero,List.set_cons_succ,zx,zy]
             rfl
            refine take_ (i:=8) (N:=some 45) (v:= ?_) (a':= ?_) #[true,true,true,true,true,true,true,true,true,false,false,true,false,false,false,false] rfl rfl (yb HT_.out HW_.out (by kernel_rfl)) (fun _ _ _ h=>h) (Or.inl ⟨by rfl,?_⟩) hHeld ?_ ?_;rotate_left
            ·rintro w' ⟨s0,s1,s2,s3,s4,s5,s6,s7⟩
             go_simp
             with_reducible rfl
            rotate_left
            ·simp only [Act.put,List.setIfInBounds_toArray,List.set_cons_zero,List.set_cons_succ,zx,zy]
             rfl
            refine yM (i:=9) (N:=some 46) (v:= ?_) (a':= ?_) #[true,true,true,true,true,true,true,true,true,true,false,true,false,false,false,false] rfl rfl (yD HT_.out (by kernel_rfl)) (fun _ _ _ h=>h) (Or.inl ⟨by rfl,?_⟩) ?_ ?_;rotate_left
            ·intro w'
             go_simp
             with_reducible rfl
            rotate_left
            ·simp only [Act.put,List.setIfInBounds_toArray,List.set_cons_zero,List.set_cons_succ,zx,zy]
             rfl
            refine take_ (i:=10) (N:=some 47) (v:= ?_) (a':= ?_) #[true,true,true,true,true,true,true,true,true,true,true,true,false,false,false,false] rfl rfl (yb HT_.out HW_.out (by kernel_rfl)) (fun _ _ _ h=>h) (Or.inl ⟨by rfl,?_⟩) hHeld ?_ ?_;rotate_left
            ·rintro w' ⟨s0,s1,s2,s3,s4,s5,s6,s7⟩
             go_simp
             with_reducible rfl
            rotate_left
            ·simp only [Act.put,List.setIfInBounds_toArray,List.set_cons_zero,List.set_cons_succ,zx,zy]
             rfl
            refine take_ (i:=12) (N:=some 49) (v:= ?_) (a':= ?_) #[true,true,true,true,true,true,true,true,true,true,true,true,true,false,false,false] rfl rfl (yb HT_.out HW_.out (by kernel_rfl)) (fun _ _ _ h=>h) (Or.inl ⟨by rfl,?_⟩) hHeld ?_ ?_;rotate_left
            ·rintro w' ⟨s0,s1,s2,s3,s4,s5,s6,s7⟩
             go_simp
             with_reducible rfl
            rotate_left
            ·simp only [Act.put,List.setIfInBounds_toArray,List.set_cons_zero,List.set_cons_succ,zx,zy]
             rfl
            refine one_ (i:=13) (N:=some 50) #[true,true,true,true,true,true,true,true,true,true,true,true,true,true,false,false] rfl rfl (ym HT_.out (by kernel_rfl)) (by decide) (fun K hK=> ?_);refine Yo Try.func18 (by kernel_rfl) rfl #[.slice A287_0 (zh x7_1 x32_1).length c287_0, .slice A288_0 (zh wY ((zD l0_3 x32_1).f0)).length c288_0, .int .i64 a0_1] (by rfl) rfl rfl QX ?_
            with_reducible refine (zq.calls k1 _ _ (zh x7_1 x32_1) _ _ (zh wY ((zD l0_3 x32_1).f0)) a0_1 t289 _ ?side1 ?side2 ?side3 ?side4 A22.out).mono ?_
            (case side1=>repeat (first|exact QE|(with_reducible refine Kd.C_alloc ?_ _)|(with_reducible refine Kd.C_drewN ?_ _)|(with_reducible refine Kd.C_drew ?_)))
            (case side2=>exact HC287_0.out)
            (case side3=>repeat (first|exact QF|(with_reducible refine Kd.C_alloc ?_ _)|(with_reducible refine Kd.C_drewN ?_ _)|(with_reducible refine Kd.C_drew ?_)))
            (case side4=>exact HC288_0.out)
            rintro e w42 ⟨v290,rfl,ho0,hb⟩;have HS6_:=(hb.cell (ZzA _ _ (hHeld.2.2.2.2.2.2.1))).trans (hHeld.2.2.2.2.2.2.1);have HS7_:=(hb.cell (ZzA _ _ (hHeld.2.2.2.2.2.2.2))).trans (hHeld.2.2.2.2.2.2.2);refine ⟨_,rfl,?_⟩;have n0_:=zA.mk (Kd.N_elder' (Qk wC) (Kd.R_base ho0) hb);have n1_:=zA.mk (Kd.N_elder' (Qk HO_7) (Kd.R_base ho0) hb);have n2_:=zA.mk (Kd.V_elder' (Ql HL287_0) (Kd.R_base ho0) hb);have n3_:=zA.mk (Kd.V_elder' (Ql HL288_0) (Kd.R_base ho0) hb);have n4_:=zA.mk (Kd.R_lower (Kd.R_newM (M:=fun k_=>(w.heap.size≤k_)) ho0 (zE (Qe vY GE286)) (fun k_ h_=>h_)) (zE (Qe vY GE286)));have n5_:=zA.mk (ze (g:=vy) (Qi vb) hb);have n6_:=zA.mk (ze (g:=vo) (Qi vL) hb);have n7_:=zA.mk (Kd.C_below QE hb);have n8_:=zA.mk (Kd.C_below QF hb);have n9_:=zA.mk (zH (Qe vY GE286) hb);clear wC HO_7 HL287_0 HL288_0 vb vL HR287_0 HR288_0 HB;have wC:=n0_;have HO_7:=n1_;have HL287_0:=n2_;have HL288_0:=n3_;have HO291:=n4_;have vb:=n5_;have vL:=n6_;have HR287_0:=n7_;have HR288_0:=n8_;have HB:=n9_;clear n0_ n1_ n2_ n3_ n4_ n5_ n6_ n7_ n8_ n9_;obtain ⟨vA290,vc290,rfl⟩:=Kd.R_slice HO291.out;(try clear hb ho0);have p23:0≤(x32_1:Int):=Qa;have q23:(x32_1:Int) < ((x7_1.length:Int):Int):=Qa;obtain ⟨go23,co23,eo23,gb23,gl23,cl23,HG23⟩:=Kd.N_form HO_7.out (by omega)
            (first|cases eo23|(injection eo23 with ea_ en_ ec_;(first|subst ea_|(injection ea_ with ea_;subst ea_));subst ec_;clear en_))
            have GB23:=zA.mk gb23;have GG23:=zA.mk HG23;clear gb23 gl23 HG23
            (first|simp only [ZC] at hx287_0|skip)
            obtain ⟨ce23,hcl23,hM23,hcc23,hfr23⟩:=Kd.N_elem HO_7.out [] (x32_1:Int) p23 q23;obtain ⟨ua23_0,uc23_0,rfl,ul23_0,ge23_0⟩:=Kd.FK_slice_open hM23;have hx23_0:=hcc23 0 _ rfl;have hf23_0:=hfr23 0
            (try simp only [show ((Kd.slice 9 Kd.string)).sz=1 from rfl,Nat.mul_one,Nat.add_zero] at hx23_0)
            (try simp only [show ((Kd.slice 9 Kd.string)).sz=1 from rfl,Nat.mul_one,Nat.add_zero] at hf23_0)
            clear hcl23 hcc23 hfr23 hM23;replace p23:=eq_true p23;replace q23:=eq_true q23;have HX43:=zA.mk (show Kd.N (Kd.slice 9 Kd.string) 32 _ w.heap.size (fun k_=>(w.heap.size≤k_)∧some k_≠(.slice (some ad288) wY.length co41:Value).ownBlock∧some k_≠((.slice vA290 t289.length vc290):Value).ownBlock∧k_≠vy∧k_≠vo) (.slice (some ⟨go23,0,none⟩) x7_1.length co40) x7_1 from (Kd.N_mono (HO_7.out) (fun k_ hk=>⟨hk.1.1,⟨hk.1.2.1,⟨hk.2,⟨hk.1.2.2.1,hk.1.2.2.2⟩⟩⟩⟩)));replace HX43:=zA.mk (show Kd.N (Kd.slice 9 Kd.string) 32 _ w.heap.size (fun k_=>(w.heap.size≤k_)∧some k_≠(.slice (some ad288) wY.length co41:Value).ownBlock∧k_≠vy∧k_≠vo) (.slice (some ⟨go23,0,none⟩) x7_1.length co40) x7_1 from Kd.N_mono HX43.out (fun k_ hk=>⟨hk.1,⟨hk.2.1,⟨hk.2.2.2.1,hk.2.2.2.2⟩⟩⟩));obtain ⟨ce43,hcl43,hM43,hcc43,hfr43⟩:=Kd.N_elem HX43.out [] (x32_1:Int) (Qa) QW;obtain ⟨ua43_0,uc43_0,rfl,ul43_0,ge43_0⟩:=Kd.FK_slice_open hM43;have HP43:=(Kd.N_seg HX43.out (x32_1:Int) (Qa) QW (seg:= [(.slice vA290 t289.length vc290)]) (j:=0) hcl43 hcc43 (show 1≤1 from by decide) (x':=t289) (Kd.FK_slice_mk (Kd.R_reads' (Kd.R_mono (ok':=(fun k_=>((fun k_=>(w.heap.size≤k_)∧some k_≠(.slice (some ad288) wY.length co41:Value).ownBlock∧k_≠vy∧k_≠vo)) k_∧k_≠go23)) (Kd.R_types (Kd.R_types (Kd.R_apart' (Kd.R_apart' (HO291.out) (Kd.N_typed wC.out) (by decide)) (Kd.N_typed HO_7.out) (by decide)) vb.out (by decide)) vL.out (by decide)) (fun k_ hk=>⟨⟨hk.1.1.1.1.1,⟨hk.1.1.1.2,⟨hk.1.2,hk.2⟩⟩⟩,fun e_=>(hk.1.1.2) (by rw [e_];rfl)⟩))).2.1 (Kd.R_F (Kd.R_mono (ok':=(fun k_=>((fun k_=>(w.heap.size≤k_)∧some k_≠(.slice (some ad288) wY.length co41:Value).ownBlock∧k_≠vy∧k_≠vo)) k_∧k_≠go23)) (Kd.R_types (Kd.R_types (Kd.R_apart' (Kd.R_apart' (HO291.out) (Kd.N_typed wC.out) (by decide)) (Kd.N_typed HO_7.out) (by decide)) vb.out (by decide)) vL.out (by decide)) (fun k_ hk=>⟨⟨hk.1.1.1.1.1,⟨hk.1.1.1.2,⟨hk.1.2,hk.2⟩⟩⟩,fun e_=>(hk.1.1.2) (by rw [e_];rfl)⟩)))) (fun _ hk=>hk)).1
            (try simp only [show ((Kd.slice 9 Kd.string)).sz=1 from rfl,Nat.mul_one,Nat.add_zero] at HP43)
            rw [←Ny292.out] at HP43;have HQ43:=zA.mk HP43;clear hcl43 hcc43 hfr43 hM43 HP43;refine hK.out _ _ ⟨(zR vL.out 0).trans rfl,(zR vL.out 1).trans rfl,(zR vb.out 0).trans rfl,(zR vb.out 1).trans rfl,(zR vb.out 2).trans rfl,(zR vb.out 3).trans rfl,HS6_,HS7_⟩ (fun hHeld=> ?_);clear hK K;refine yl (a':= ?_) ?_ ?_;rotate_left
            ·show Act.put _ (some 50) _=_
             simp only [Act.put,List.setIfInBounds_toArray,List.set_cons_zero,List.set_cons_succ,zx,zy]
             rfl
            refine yM (i:=14) (N:=some 51) (v:= ?_) (a':= ?_) #[true,true,true,true,true,true,true,true,true,true,true,true,true,true,true,false] rfl rfl (yD HT_.out (by kernel_rfl)) (fun _ _ _ h=>h) (Or.inl ⟨by rfl,?_⟩) ?_ ?_;rotate_left
            ·intro w'
             go_simp
             with_reducible rfl
            rotate_left
            ·simp only [Act.put,List.setIfInBounds_toArray,List.set_cons_zero,List.set_cons_succ,zx,zy]
             rfl
            refine last_ (i:=15) (N:=none) #[true,true,true,true,true,true,true,true,true,true,true,true,true,true,true,true] rfl rfl (ym HT_.out (by kernel_rfl)) (by decide) (fun K hK=> ?_);refine qq (w1:= ?_) (by rfl) rfl ?_ ?_;rotate_left
            ·go_simp
             rfl
            refine hK.out _ _ ?_;clear hK K;refine YR (Ze HT_.out (by kernel_rfl)) ?_;have p24:0≤(x32_1:Int):=Qa;have q24:(x32_1:Int) < ((x7_1.length:Int):Int):=Qa;replace p24:=eq_true p24;replace q24:=eq_true q24
            try go_wp2
            go_roundg k1
            case measure=>have:=HK1.out;omega
            case rel=>exact ⟨(y292),(wrap64 (x32_1 + 1)),Zb,H',⟨by have:=HK1.out;omega⟩,⟨by (with_reducible repeat (first|apply Kd.N_alloc|apply Kd.N_drewN|apply Kd.N_drew));exact Kd.N_mono (Kd.N_far (p:=⟨go23,(x32_1:Int).toNat,none⟩) (Kd.N_mono wC.out (fun k_ hk=>(⟨hk,fun e_=>hk.1.2.1 (by rw [e_];rfl)⟩:_∧k_≠go23))) (fun _ hk=>hk.2) ((.slice vA290 t289.length vc290))) (fun _ hk=>⟨hk.1.1.1,⟨hk.1.1.2.1,hk.1.1.2.2.1⟩⟩)⟩,⟨by (with_reducible repeat (first|apply Kd.N_alloc|apply Kd.N_drewN|apply Kd.N_drew));exact Kd.N_mono HQ43.out (fun _ hk=>⟨hk.1,⟨hk.2.1,hk.2.2.1⟩⟩)⟩,⟨by (with_reducible repeat (first|refine zO ?_ _|refine zQ ?_|refine zM ?_ _));refine yJ ?_ (by have h_:=Kd.N_away HX43.out (fun _ hk=>hk.2.2.1);intro e_;exact h_ (by rw [e_];rfl)) _;(with_reducible repeat (first|refine zO ?_ _|refine zQ ?_|refine zM ?_ _));exact vb.out⟩,⟨by repeat (first|(with_reducible first|exact HB.out|apply zG|apply zC|apply zF|refine zK ?_ GB23.out|refine zK ?_ vY.out|refine zK ?_ GE286.out)|exact HB.out)⟩⟩
          ·rw [if_neg c21] at H
           exact absurd H (by simp)
         ·rw [if_neg c20] at H
          exact absurd H (by simp)
        ·rw [if_neg c19] at H
         exact absurd H (by simp)
       ·rw [if_neg c18] at H
        exact absurd H (by simp)
      ·rw [if_neg c17] at H
       exact absurd H (by simp)
     ·rw [if_neg c16] at H
      have c16b0:=decide_eq_false c16;clear c16;simp only [Option.some.injEq,Prod.mk.injEq] at H;obtain ⟨rfl,rfl⟩:=H
      go_wp2
      go_ret2
      exact ⟨_,by first|rfl|(simp [zS,zT] <;> rfl)|(simp [*,zS,zT] <;> rfl),by (with_reducible repeat (first|apply Kd.N_alloc|apply Kd.N_drewN|apply Kd.N_drew));exact Kd.N_mono HO_7.out (fun _ hk=>hk.1),by repeat (first|(with_reducible first|exact HB.out|apply zG|apply zC|apply zF|refine zK ?_ vY.out)|exact HB.out)⟩
  ·rw [if_neg c5] at H
   have c5b0:(t281 == 0)=false:=beq_eq_false_iff_ne.mpr c5;have c5b1:(t281 != 0)=true:=bne_iff_ne.mpr c5;simp only [Option.some.injEq,Prod.mk.injEq] at H;obtain ⟨rfl,rfl⟩:=H
   go_enter Try.func6,Try.ntmps6
   go_wp2_with (first|((with_reducible refine yB (N:=1) rfl ?_);refine yH ?hg (N:=1) ?hd (cs:= #[.int .i64 a0_0, .int .i64 a0_1, .slice vi l0_2.length vk, .slice vp l0_3.length vl]) (t:=25) ?hr ?_;(case hd=>rfl);(case hg=>rfl);(case hr=>exact Qm);intro vy hg w44 hbox hb;have n0_:=zA.mk (zH Qc hb);have n1_:=zA.mk (hbox);have n2_:=zA.mk ((by rw [hg];exact (zE Qc):w.heap.size≤vy));have n3_:=zA.mk ((by rw [hg];exact (zE Qc):w.heap.size≤vy));clear HB;have HB:=n0_;have vb:=n1_;have GW273:=n2_;have vY:=n3_;clear n0_ n1_ n2_ n3_ hb hbox hg;have hcz45_0:=Qn vb 0 rfl;have hcz45_1:=Qn vb 1 rfl;have hcz45_2:=Qn vb 2 rfl;have hcz45_3:=Qn vb 3 rfl;have hfz45_0:=zB vb.out 0;have hfz45_1:=zB vb.out 1;have hfz45_2:=zB vb.out 2;have hfz45_3:=zB vb.out 3)|((with_reducible refine zk (f:=15) rfl ?_);refine yQ (some 12) rfl rfl Try.func15 (by kernel_rfl) rfl #[.agg #[.int .i64 a0_0, .int .i64 a0_1, .slice vi l0_2.length vk, .slice vp l0_3.length vl]] rfl QX ?_;(with_reducible refine (yF.calls k a0_0 a0_1 _ _ l0_2 _ _ l0_3 wY t277 _ ?side1 ?side2 ?side3 ?side4 A2.out).mono ?_);(case side1=>exact Qo (Kd.C_below wb.out HB.out));(case side2=>exact wd.out);(case side3=>exact Qo (Kd.C_below vw.out HB.out));(case side4=>exact wg.out);rintro e w46 ⟨v275,rfl,ho0,hb⟩;refine ⟨_,rfl,?_⟩;have n1_:=zA.mk (ze (g:=vy) (Qi vb) hb);have n2_:=zA.mk (zH (Qd vY) hb);clear vb HB;have vb:=n1_;have HB:=n2_;clear n1_ n2_;(try clear hb ho0);have hcz47_0:=Qn vb 0 rfl;have hcz47_1:=Qn vb 1 rfl;have hcz47_2:=Qn vb 2 rfl;have hcz47_3:=Qn vb 3 rfl;have hfz47_0:=zB vb.out 0;have hfz47_1:=zB vb.out 1;have hfz47_2:=zB vb.out 2;have hfz47_3:=zB vb.out 3)|((with_reducible refine zk (f:=16) rfl ?_);refine yQ (some 20) rfl rfl Try.func16 (by kernel_rfl) rfl #[.agg #[.int .i64 a0_0, .int .i64 a0_1, .slice vi l0_2.length vk, .slice vp l0_3.length vl]] rfl QX ?_;(with_reducible refine (zd.calls k a0_0 a0_1 _ _ l0_2 _ _ l0_3 t278 t281 _ ?side1 ?side2 ?side3 ?side4 A4.out).mono ?_);(case side1=>exact Qo (Kd.C_below wb.out HB.out));(case side2=>exact wd.out);(case side3=>exact Qo (Kd.C_below vw.out HB.out));(case side4=>exact wg.out);rintro e w48 ⟨v279,rfl,ho0,hb⟩;refine ⟨_,rfl,?_⟩;have n3_:=zA.mk (zH (Qd vY) hb);clear HB;have HB:=n3_;clear n3_;(try clear hb ho0)))
   go_ret2
   exact ⟨_,by first|rfl|(simp [zS,zT] <;> rfl)|(simp [*,zS,zT] <;> rfl),by first|exact Kd.S_nil _ _ _ _ _|exact Kd.N_nil _ _ _ _ _|exact Kd.V_nil _ _ _ _ _|exact Kd.Q_nil _ _ _ _ _|exact Kd.R_nil _ _ _ _ _,by repeat (first|(with_reducible first|exact HB.out|apply zG|apply zC|apply zF|refine zK ?_ vY.out)|exact HB.out)⟩
 ·rw [if_neg c3] at H
  have c3b0:(t277 == 0)=false:=beq_eq_false_iff_ne.mpr c3;have c3b1:(t277 != 0)=true:=bne_iff_ne.mpr c3;simp only [Option.some.injEq,Prod.mk.injEq] at H;obtain ⟨rfl,rfl⟩:=H
  go_enter Try.func6,Try.ntmps6
  go_wp2_with (first|((with_reducible refine yB (N:=1) rfl ?_);refine yH ?hg (N:=1) ?hd (cs:= #[.int .i64 a0_0, .int .i64 a0_1, .slice vi l0_2.length vk, .slice vp l0_3.length vl]) (t:=25) ?hr ?_;(case hd=>rfl);(case hg=>rfl);(case hr=>exact Qm);intro vy hg w49 hbox hb;have n0_:=zA.mk (zH Qc hb);have n1_:=zA.mk (hbox);have n2_:=zA.mk ((by rw [hg];exact (zE Qc):w.heap.size≤vy));have n3_:=zA.mk ((by rw [hg];exact (zE Qc):w.heap.size≤vy));clear HB;have HB:=n0_;have vb:=n1_;have GW273:=n2_;have vY:=n3_;clear n0_ n1_ n2_ n3_ hb hbox hg;have hcz50_0:=Qn vb 0 rfl;have hcz50_1:=Qn vb 1 rfl;have hcz50_2:=Qn vb 2 rfl;have hcz50_3:=Qn vb 3 rfl;have hfz50_0:=zB vb.out 0;have hfz50_1:=zB vb.out 1;have hfz50_2:=zB vb.out 2;have hfz50_3:=zB vb.out 3)|((with_reducible refine zk (f:=15) rfl ?_);refine yQ (some 12) rfl rfl Try.func15 (by kernel_rfl) rfl #[.agg #[.int .i64 a0_0, .int .i64 a0_1, .slice vi l0_2.length vk, .slice vp l0_3.length vl]] rfl QX ?_;(with_reducible refine (yF.calls k a0_0 a0_1 _ _ l0_2 _ _ l0_3 wY t277 _ ?side1 ?side2 ?side3 ?side4 A2.out).mono ?_);(case side1=>exact Qo (Kd.C_below wb.out HB.out));(case side2=>exact wd.out);(case side3=>exact Qo (Kd.C_below vw.out HB.out));(case side4=>exact wg.out);rintro e w51 ⟨v275,rfl,ho0,hb⟩;refine ⟨_,rfl,?_⟩;have n2_:=zA.mk (zH (Qd vY) hb);clear HB;have HB:=n2_;clear n2_;(try clear hb ho0)))
  go_ret2
  exact ⟨_,by first|rfl|(simp [zS,zT] <;> rfl)|(simp [*,zS,zT] <;> rfl),by first|exact Kd.S_nil _ _ _ _ _|exact Kd.N_nil _ _ _ _ _|exact Kd.V_nil _ _ _ _ _|exact Kd.Q_nil _ _ _ _ _|exact Kd.R_nil _ _ _ _ _,by repeat (first|(with_reducible first|exact HB.out|apply zG|apply zC|apply zF|refine zK ?_ vY.out)|exact HB.out)⟩
end Go.Proofs.Ytlanhkekjhlmjaa.HGuessWords
