-- Written by plus.py for this claim.
import Derived.Test.YtlanhkekjhlmjaaSGuessOfVZip
import Derived.Test.YtlanhkekjhlmjaaHGuessOfx0
import Derived.Test.YtlanhkekjhlmjaaHGuessOfx14
import Derived.Test.YtlanhkekjhlmjaaHGuessOfx15
import Derived.Test.YtlanhkekjhlmjaaHGuessOfx16
namespace Go.Proofs.Ytlanhkekjhlmjaa.HGuessOf
open Go.RowKit Go.Proofs.YtlanhkekjhlmjaaW.PrintWords Go.Proofs.YtlanhkekjhlmjaaW.PrintLast Go.Proofs.YtlanhkekjhlmjaaW.PrintMore
attribute [local go_sem] yq yr ZJ ZK ym yn yt yu   -- for this text's walks alone
set_option linter.unusedVariables false
set_option linter.unusedSimpArgs false
def zg.l0:Nat→List (List ByteArray)→List (List ByteArray)→List (List ByteArray)→Int→Int→Int→List Int→List (S45)→Option ((List (List ByteArray)) × Int)
 | 0,_,_,_,_,_,_,_,_=>none
 | k + 1,x4,x6,x7,x8,x368000,x368001,x368002,x368003=>if x8 < (x368003.length:Int) then (if 0≤x8 then ((zV.f k ((zF x368003 x8).f1) x368001 x4 600).bind fun bt380=>(if 0≤((zF x368003 x8).f0) then (if ((zF x368003 x8).f0) < (x6.length:Int) then ((zM.f k bt380.1 (zl x6 ((zF x368003 x8).f0)) x368001).bind fun t386=>(if (t386.length:Int) > 600 then (some (([]:List (List ByteArray)),15)) else (if x7.length < 5864062014805 then (zg.l0 k x4 x6 (x7 ++ [t386]) (wrap64 (x8 + 1)) x368000 x368001 x368002 x368003) else (none)))) else (none)) else (none))) else (none)) else (some (x7,0))
def zg.f (k:Nat) (a0_0:Int) (a0_1:Int) (l0_2:List Int) (l0_3:List (S45)):Option ((List (List ByteArray)) × Int):=(yJ.f k a0_0 a0_1 l0_2 l0_3).bind fun bt368=>(if bt368.2=0 then ((zK.f k a0_0 a0_1 l0_2 l0_3).bind fun bt372=>(if bt372.2=0 then (zg.l0 k bt368.1 bt372.1 (([]:List (List ByteArray))) 0 a0_0 a0_1 l0_2 l0_3) else (some (([]:List (List ByteArray)),bt372.2)))) else (some (([]:List (List ByteArray)),bt368.2)))
theorem zg.mono_l:∀k,(∀y0 y1 y2 y3 y4 y5 y6 y7,LeO (zg.l0 k y0 y1 y2 y3 y4 y5 y6 y7) (zg.l0 (k + 1) y0 y1 y2 y3 y4 y5 y6 y7))
 | 0=>fun _ _ _ _ _ _ _ _ r h=>by simp [zg.l0] at h
 | k + 1=>by
  have ih0:=zg.mono_l k
  ·intro y0 y1 y2 y3 y4 y5 y6 y7
   unfold zg.l0
   repeat' first
   | with_reducible first|exact ih0 _ _ _ _ _ _ _ _|exact zM.mono _ _ _ _|exact yJ.mono _ _ _ _ _|exact zV.mono _ _ _ _ _|exact zK.mono _ _ _ _ _|exact LeO.refl _|exact LeO.none _|refine LeO.ite ?_ ?_|refine LeO.bind ?_ (fun _=> ?_)
   | exact ih0 _ _ _ _ _ _ _ _|exact zM.mono _ _ _ _|exact yJ.mono _ _ _ _ _|exact zV.mono _ _ _ _ _|exact zK.mono _ _ _ _ _|exact LeO.none _|refine LeO.ite ?_ ?_|refine LeO.bind ?_ (fun _=> ?_)
theorem zg.mono:∀a0 a1 a2 a3 k,LeO (zg.f k a0 a1 a2 a3) (zg.f (k + 1) a0 a1 a2 a3):=by
 intro a0 a1 a2 a3 k;have ih0:=zg.mono_l k
 unfold zg.f
 repeat' first
   | with_reducible first|exact ih0 _ _ _ _ _ _ _ _|exact zM.mono _ _ _ _|exact yJ.mono _ _ _ _ _|exact zV.mono _ _ _ _ _|exact zK.mono _ _ _ _ _|exact LeO.refl _|exact LeO.none _|refine LeO.ite ?_ ?_|refine LeO.bind ?_ (fun _=> ?_)
   | exact ih0 _ _ _ _ _ _ _ _|exact zM.mono _ _ _ _|exact yJ.mono _ _ _ _ _|exact zV.mono _ _ _ _ _|exact zK.mono _ _ _ _ _|exact LeO.none _|refine LeO.ite ?_ ?_|refine LeO.bind ?_ (fun _=> ?_)
def zg.T11:Bool × List (List Nat × List Nat):=(true,[([],[]),([0],[0]),([],[]),([1,2],[1,2]),([3],[3]),([4],[4]),([],[]),([6],[6]),([],[]),([5,7,8],[5,7,8]),([9],[9]),([10],[10]),([10],[10]),([11,9,0,1,2,3,4,5,6,7,8,9,10,11],[11]),([12,13,0,1,2,3,4,5,6,7,8,9,10,11,12,13],[12])])
def zg.B11:List Nat:= [0,1,0,7,15,31,0,64,0,511,1023,2047,2047,4095,16383]
theorem zg.tab11:rtab .any (Yx Try.f7 11)=zg.T11:=by kernel_rfl
theorem zg.bits11:Zh zg.T11.2 zg.B11=true:=by kernel_rfl
def zg.T12:Bool × List (List Nat × List Nat):=(true,[([],[]),([],[]),([],[]),([2],[2]),([],[]),([3,4],[3,4]),([5],[5]),([6],[6]),([1,7],[1,7]),([8],[8]),([],[]),([10],[10]),([0,9,11],[0,9,11]),([12,12,0,1,2,3,4,5,6,7,8,9,10,11,12],[12])])
def zg.B12:List Nat:= [0,0,0,4,0,28,60,124,254,510,0,1024,4095,8191]
theorem zg.tab12:rtab .any (Yx Try.f7 12)=zg.T12:=by kernel_rfl
theorem zg.bits12:Zh zg.T12.2 zg.B12=true:=by kernel_rfl
set_option maxHeartbeats 8000000 in
set_option maxRecDepth 100000 in
theorem zg.calls (k:Nat) (a0_0:Int) (a0_1:Int) (A0_2:Option Addr) (c0_2:Nat) (l0_2:List Int) (A0_3:Option Addr) (c0_3:Nat) (l0_3:List (S45)) (r1:List (List ByteArray)) (r2:Int) (w:World) (hr0_2:Kd.C (Kd.int .i64) w A0_2 l0_2.length l0_2) (hc0_2:l0_2.length≤c0_2) (hr0_3:Kd.C k45 w A0_3 l0_3.length l0_3) (hc0_3:l0_3.length≤c0_3) (h:zg.f k a0_0 a0_1 l0_2 l0_3=some (r1,r2)) :
  Calls Try.prog 7 #[.agg #[.int .i64 a0_0, .int .i64 a0_1, .slice A0_2 l0_2.length c0_2, .slice A0_3 l0_3.length c0_3]] w fun e w'=>∃v0_:Value,e= .returned (.tuple #[v0_, .int .i64 r2])∧Kd.S (Kd.slice 9 Kd.string) 32 w' w.heap.size (fun _=>True) v0_ r1∧Below w.heap.size w w':=by
 have hu25:=Try.underlying25;have vF:=zA.mk hr0_2;have vG:=zA.mk hc0_2;clear hr0_2 hc0_2;have vn:=zA.mk hr0_3;have vK:=zA.mk hc0_3;clear hr0_3 hc0_3;have HB:=zA.mk (Below.refl w.heap.size w);have H:((yJ.f k a0_0 a0_1 l0_2 l0_3).bind fun bt368=>(if bt368.2=0 then ((zK.f k a0_0 a0_1 l0_2 l0_3).bind fun bt372=>(if bt372.2=0 then (zg.l0 k bt368.1 bt372.1 (([]:List (List ByteArray))) 0 a0_0 a0_1 l0_2 l0_3) else (some (([]:List (List ByteArray)),bt372.2)))) else (some (([]:List (List ByteArray)),bt368.2))))=some (r1,r2):=h;clear h;replace H:=ZzB H;obtain ⟨⟨t368,t371⟩,A20,H⟩:=H;replace H:(if t371=0 then ((zK.f k a0_0 a0_1 l0_2 l0_3).bind fun bt372=>(if bt372.2=0 then (zg.l0 k t368 bt372.1 (([]:List (List ByteArray))) 0 a0_0 a0_1 l0_2 l0_3) else (some (([]:List (List ByteArray)),bt372.2)))) else (some (([]:List (List ByteArray)),t371)))=some (r1,r2):=H;have A2:=zA.mk A20;clear A20
 by_cases c3:t371=0
 ·rw [if_pos c3] at H
  have c3b0:(t371 == 0)=true:=beq_iff_eq.mpr c3;have c3b1:(t371 != 0)=false:=bne_eq_false_iff_eq.mpr c3;clear c3;replace H:=ZzB H;obtain ⟨⟨t372,t375⟩,A40,H⟩:=H;replace H:(if t375=0 then (zg.l0 k t368 t372 (([]:List (List ByteArray))) 0 a0_0 a0_1 l0_2 l0_3) else (some (([]:List (List ByteArray)),t375)))=some (r1,r2):=H;have A4:=zA.mk A40;clear A40
  by_cases c5:t375=0
  ·rw [if_pos c5] at H
   have c5b0:(t375 == 0)=true:=beq_iff_eq.mpr c5;have c5b1:(t375 != 0)=false:=bne_eq_false_iff_eq.mpr c5;clear c5;obtain ⟨y376,hy376⟩:∃y_:List (List ByteArray),y_=(([]:List (List ByteArray))):=⟨_,rfl⟩;replace H:(zg.l0 k t368 t372 y376 0 a0_0 a0_1 l0_2 l0_3)=some (r1,r2):=Qb hy376 H;have Ny376:=zA.mk hy376;clear hy376;have H':=zA.mk H;clear H
   go_enter Try.func7,Try.ntmps7
   go_wp2_with (first|((with_reducible refine yC (N:=1) rfl ?_);refine yI ?hg (N:=1) ?hd (cs:= #[.int .i64 a0_0, .int .i64 a0_1, .slice A0_2 l0_2.length c0_2, .slice A0_3 l0_3.length c0_3]) (t:=25) ?hr ?_;(case hd=>rfl);(case hg=>rfl);(case hr=>exact Qm);intro wb hg w6 hbox hb;have n0_:=zA.mk (zE Qc hb);have n1_:=zA.mk (hbox);have n2_:=zA.mk ((by rw [hg];exact (zD Qc):w.heap.size≤wb));have n3_:=zA.mk ((by rw [hg];exact (zD Qc):w.heap.size≤wb));clear HB;have HB:=n0_;have vb:=n1_;have GW367:=n2_;have wF:=n3_;clear n0_ n1_ n2_ n3_ hb hbox hg;have Vt:=Qn vb 0 rfl;have Vu:=Qn vb 1 rfl;have hcz7_2:=Qn vb 2 rfl;have hcz7_3:=Qn vb 3 rfl;have Vv:=zB vb.out 0;have Vw:=zB vb.out 1;have hfz7_2:=zB vb.out 2;have hfz7_3:=zB vb.out 3)|((with_reducible refine zo (f:=19) rfl ?_);refine yQ (some 14) rfl rfl Try.func19 (by kernel_rfl) rfl #[.agg #[.int .i64 a0_0, .int .i64 a0_1, .slice A0_2 l0_2.length c0_2, .slice A0_3 l0_3.length c0_3]] rfl Q4 ?_;(with_reducible refine (yJ.calls k a0_0 a0_1 _ _ l0_2 _ _ l0_3 t368 t371 _ ?side1 ?side2 ?side3 ?side4 A2.out).mono ?_);(case side1=>exact Qo (Kd.C_below vF.out HB.out));(case side2=>exact vG.out);(case side3=>exact Qo (Kd.C_below vn.out HB.out));(case side4=>exact vK.out);rintro e w8 ⟨v369,rfl,ho0,hb⟩;refine ⟨_,rfl,?_⟩;have n0_:=zA.mk (Kd.S_lower ho0 (zD (Qd wF)));have n1_:=zA.mk (zZ (g:=wb) (Qi vb) hb);have n2_:=zA.mk (zE (Qd wF) hb);clear vb HB;have HO370:=n0_;have vb:=n1_;have HB:=n2_;clear n0_ n1_ n2_;(try clear hb ho0);have wR:=Qn vb 0 rfl;have wS:=Qn vb 1 rfl;have Vc:=Qn vb 2 rfl;have Vd:=Qn vb 3 rfl;have wT:=zB vb.out 0;have wU:=zB vb.out 1;have Ve:=zB vb.out 2;have Vf:=zB vb.out 3)|((with_reducible refine zo (f:=20) rfl ?_);refine yQ (some 22) rfl rfl Try.func20 (by kernel_rfl) rfl #[.agg #[.int .i64 a0_0, .int .i64 a0_1, .slice A0_2 l0_2.length c0_2, .slice A0_3 l0_3.length c0_3]] rfl Q4 ?_;(with_reducible refine (zK.calls k a0_0 a0_1 _ _ l0_2 _ _ l0_3 t372 t375 _ ?side1 ?side2 ?side3 ?side4 A4.out).mono ?_);(case side1=>exact Qo (Kd.C_below vF.out HB.out));(case side2=>exact vG.out);(case side3=>exact Qo (Kd.C_below vn.out HB.out));(case side4=>exact vK.out);rintro e w10 ⟨v373,rfl,ho0,hb⟩;refine ⟨_,rfl,?_⟩;have n0_:=zA.mk (Kd.S_elder' (Qj HO370) (Kd.S_base ho0) hb);have n1_:=zA.mk (Kd.S_lower (Kd.S_new' ho0 (Kd.S_lt (Qj HO370))) (zD (Qd wF)));have n2_:=zA.mk (zZ (g:=wb) (Qi vb) hb);have n3_:=zA.mk (zE (Qd wF) hb);clear HO370 vb HB;have HO370:=n0_;have HO374:=n1_;have vb:=n2_;have HB:=n3_;clear n0_ n1_ n2_ n3_;(try clear hb ho0))|((with_reducible refine yC (N:=28) rfl ?_);refine Kd.S_lit (Kd.slice 9 Kd.string) _ 32 ?hg (N:=28) ?hd (xs:=([]:List (List ByteArray))) (inner:= []) (ok:=fun _=>True) (okp:=fun _=>True) ?hr ?hp (fun _ hk=>hk) trivial (Below.refl _ _) (Nat.le_refl _) (by simp) ?_;(case hd=>rfl);(case hg=>rfl);(case hr=>exact Qm);(case hp=>exact (Reps.none _ _));intro v377 w11 ho12 hb hg_ hnew_;clear hg_ hnew_;(first|rw [←Ny376.out] at ho12|(simp only [Int.reduceToNat] at ho12;rw [←Ny376.out] at ho12));have n0_:=zA.mk (Kd.S_elder' (Qj HO370) (Kd.S_base ho12) hb);have n1_:=zA.mk (Kd.S_elder' (Qj HO374) (Kd.S_base ho12) hb);have n2_:=zA.mk (Kd.S_lower (Kd.S_new' (Kd.S_new' ho12 (Kd.S_lt (Qj HO370))) (Kd.S_lt (Qj HO374))) (zD (Qd wF)));have n3_:=zA.mk (zZ (g:=wb) (Qi vb) hb);have n4_:=zA.mk (zE (Qd wF) hb);clear HO370 HO374 vb HB;have HO370:=n0_;have HO374:=n1_;have HO378:=n2_;have vb:=n3_;have HB:=n4_;clear n0_ n1_ n2_ n3_ n4_ hb ho12))
   go_loopg [7,8] k (fun kq v7 v8 w'=>∃(x7_1:List (List ByteArray)) (x8_1:Int),v8= .int .i64 x8_1∧zA (zg.l0 kq t368 t372 x7_1 x8_1 a0_0 a0_1 l0_2 l0_3=some (r1,r2))∧zA (kq≤k)∧zA (Kd.S (Kd.slice 9 Kd.string) 32 w' w.heap.size (fun k_=>some k_≠(v373:Value).ownBlock∧some k_≠(v7:Value).ownBlock) v369 t368)∧zA (Kd.S (Kd.slice 9 Kd.string) 32 w' w.heap.size (fun k_=>some k_≠(v369:Value).ownBlock∧some k_≠(v7:Value).ownBlock) v373 t372)∧zA (Kd.S (Kd.slice 9 Kd.string) 32 w' w.heap.size (fun k_=>some k_≠(v369:Value).ownBlock∧some k_≠(v373:Value).ownBlock) v7 x7_1)∧zA (w'.heap[wb]? =some (.cells #[.int .i64 a0_0, .int .i64 a0_1,(.slice A0_2 l0_2.length c0_2),(.slice A0_3 l0_3.length c0_3)] 25 (0,0)))∧zA (Below w.heap.size w w'))
   case atStart=>exact ⟨(y376),(0),Zf,H',⟨Nat.le_refl _⟩,⟨by (with_reducible repeat (first|apply Kd.S_alloc|apply Kd.S_drewN|apply Kd.S_drew));exact Kd.S_mono HO370.out (fun _ hk=>⟨hk.1.2,hk.2⟩)⟩,⟨by (with_reducible repeat (first|apply Kd.S_alloc|apply Kd.S_drewN|apply Kd.S_drew));exact Kd.S_mono HO374.out (fun _ hk=>⟨hk.1.2,hk.2⟩)⟩,⟨by (with_reducible repeat (first|apply Kd.S_alloc|apply Kd.S_drewN|apply Kd.S_drew));exact Kd.S_mono HO378.out (fun _ hk=>⟨hk.1.2,hk.2⟩)⟩,⟨Qi vb⟩,⟨by repeat (first|(with_reducible first|exact HB.out|apply zG|apply zC|apply zH|refine zJ ?_ wF.out)|exact HB.out)⟩⟩
   case round=>
    clear H';(try clear c1);(try clear c2);(try clear p2);(try clear c3);(try clear c3b0);(try clear c3b1);(try clear c5);(try clear c5b0);(try clear c5b1);(try clear c7);(try clear Vt);(try clear Vu);(try clear hcz7_2);(try clear hcz7_3);(try clear wR);(try clear wS);(try clear Vc);(try clear Vd);(try clear Vv);(try clear Vw);(try clear hfz7_2);(try clear hfz7_3);(try clear wT);(try clear wU);(try clear Ve);(try clear Vf);obtain ⟨x7_1,x8_1,rfl,HA,HK1,vs,HO_6,HO_7,vb,HB⟩:=hrel;cases gk with
    | zero=>exact absurd HA.out (by simp [zg.l0])
    | succ k1=>
     have H:=HA.out;clear HA;simp only [zg.l0] at H
     by_cases c13:x8_1 < (l0_3.length:Int)
     ·rw [if_pos c13] at H
      have c13b0:=decide_eq_true c13;clear c13
      by_cases c14:0≤x8_1
      ·rw [if_pos c14] at H
       have c14b0:=decide_eq_true c14;clear c14;replace H:=ZzB H;obtain ⟨⟨t380,t381⟩,A150,H⟩:=H;replace H:(if 0≤((zF l0_3 x8_1).f0) then (if ((zF l0_3 x8_1).f0) < (t372.length:Int) then ((zM.f k1 t380 (zl t372 ((zF l0_3 x8_1).f0)) a0_1).bind fun t386=>(if (t386.length:Int) > 600 then (some (([]:List (List ByteArray)),15)) else (if x7_1.length < 5864062014805 then (zg.l0 k1 t368 t372 (x7_1 ++ [t386]) (wrap64 (x8_1 + 1)) a0_0 a0_1 l0_2 l0_3) else (none)))) else (none)) else (none))=some (r1,r2):=H;have A15:=zA.mk A150;clear A150
       by_cases c16:0≤((zF l0_3 x8_1).f0)
       ·rw [if_pos c16] at H
        have c16b0:=decide_eq_true c16;clear c16
        by_cases c17:((zF l0_3 x8_1).f0) < (t372.length:Int)
        ·rw [if_pos c17] at H
         have c17b0:=decide_eq_true c17;clear c17;replace H:=ZzB H;obtain ⟨t386,A180,H⟩:=H;replace H:(if (t386.length:Int) > 600 then (some (([]:List (List ByteArray)),15)) else (if x7_1.length < 5864062014805 then (zg.l0 k1 t368 t372 (x7_1 ++ [t386]) (wrap64 (x8_1 + 1)) a0_0 a0_1 l0_2 l0_3) else (none)))=some (r1,r2):=H;have A18:=zA.mk A180;clear A180
         by_cases c19:(t386.length:Int) > 600
         ·rw [if_pos c19] at H
          have c19b0:=decide_eq_true c19;have c19b1:decide (600 < t386.length)=true:=decide_eq_true (by omega);clear c19;simp only [Option.some.injEq,Prod.mk.injEq] at H;obtain ⟨rfl,rfl⟩:=H;have hcz20_0:=Qn vb 0 rfl;have hcz20_1:=Qn vb 1 rfl;have hcz20_2:=Qn vb 2 rfl;have hcz20_3:=Qn vb 3 rfl;have hfz20_0:=zB vb.out 0;have hfz20_1:=zB vb.out 1;have hfz20_2:=zB vb.out 2;have hfz20_3:=zB vb.out 3
          try go_wp2
          have n0_:=zA.mk (Kd.S_drew vs.out);have n1_:=zA.mk (Kd.S_drew HO_6.out);have n2_:=zA.mk (Kd.S_drew HO_7.out);have n3_:=zA.mk (zP vb.out);have n4_:=zA.mk (zH HB.out);clear vs HO_6 HO_7 vb HB;have vs:=n0_;have HO_6:=n1_;have HO_7:=n2_;have vb:=n3_;have HB:=n4_;clear n0_ n1_ n2_ n3_ n4_;have p379:0≤(x8_1:Int):=Qa;have q379:x8_1 < (l0_3.length:Int):=Qa;obtain ⟨ad379,A379_1,c379_1,e379,hx379_0,hx379_1,hl379_1,hi379_1⟩:=yy vn.out x8_1 p379 q379;have hw379_1:=hx379_1;have hw379_0:=hx379_0;cases e379;replace hx379_0:=(HB.out.cell (ZzA w _ hx379_0)).trans hx379_0;replace hx379_1:=(HB.out.cell (ZzA w _ hx379_1)).trans hx379_1;have HR379_1:=zA.mk hi379_1;have HC379_1:=zA.mk hl379_1;clear hi379_1 hl379_1;replace p379:=eq_true p379;replace q379:=eq_true q379;obtain ⟨Ao22,co22,eo22⟩:=Kd.S_slice vs.out
          (first|subst eo22|(injection eo22 with f1_ f2_ f3_;have f4_:=f1_.symm;have f5_:=f3_.symm;clear f1_ f2_ f3_;subst f4_;subst f5_))
          refine Zr (n:=15) (S:=fun w'=>w'.cell? ⟨wb,0,none⟩=some (.int .i64 a0_0)∧w'.cell? ⟨wb,1,none⟩=some (.int .i64 a0_1)∧w'.cell? ⟨wb,2,none⟩=some (.slice A0_2 l0_2.length c0_2)∧w'.cell? ⟨wb,3,none⟩=some (.slice (some ad379) l0_3.length c0_3)∧w'.cell? (ad379.add ((x8_1).toNat * 2))=some (.int .i64 ((zF l0_3 x8_1).f0))∧w'.cell? ⟨(ad379.add ((x8_1).toNat * 2)).block,(ad379.add ((x8_1).toNat * 2)).off + 1,none⟩=some (.slice A379_1 ((zF l0_3 x8_1).f1).length c379_1)) (ds:= []) #[false,false,false,false,false,false,false,false,false,false,false,false,false,false,false] (by kernel_rfl) rfl rfl ⟨(zQ vb.out 0).trans rfl,(zQ vb.out 1).trans rfl,(zQ vb.out 2).trans rfl,(zQ vb.out 3).trans rfl,((HB.out.cell (ZzA w _ hw379_0)).trans hw379_0),((HB.out.cell (ZzA w _ hw379_1)).trans hw379_1)⟩ (fun hHeld=> ?_);refine yw zg.tab11 zg.bits11 (fun HT_ HW_=> ?_)
          generalize wr.drew=w21 at vs HO_6 HO_7 vb HB HR379_1 hx379_0 hx379_1 hHeld⊢
          refine yF (i:=0) (N:=some 37) (v:= ?_) (a':= ?_) #[true,false,false,false,false,false,false,false,false,false,false,false,false,false,false] rfl rfl (yA HT_.out (by kernel_rfl)) (fun _ _ _ h=>h) (Or.inl ⟨by rfl,?_⟩) ?_ ?_;rotate_left
          ·intro w'
           go_simp
           with_reducible rfl
          rotate_left
          ·simp only [Act.put,List.setIfInBounds_toArray,List.set_cons_zero,List.set_cons_succ,zq,zt]
           rfl
          refine yF (i:=2) (N:=some 39) (v:= ?_) (a':= ?_) #[true,false,true,false,false,false,false,false,false,false,false,false,false,false,false] rfl rfl (yA HT_.out (by kernel_rfl)) (fun _ _ _ h=>h) (Or.inl ⟨by rfl,?_⟩) ?_ ?_;rotate_left
          ·intro w'
           go_simp
           with_reducible rfl
          rotate_left
          ·simp only [Act.put,List.setIfInBounds_toArray,List.set_cons_zero,List.set_cons_succ,zq,zt]
           rfl
          refine yF (i:=6) (N:=some 43) (v:= ?_) (a':= ?_) #[true,false,true,false,false,false,true,false,false,false,false,false,false,false,false] rfl rfl (yA HT_.out (by kernel_rfl)) (fun _ _ _ h=>h) (Or.inl ⟨by rfl,?_⟩) ?_ ?_;rotate_left
          ·intro w'
           go_simp
           with_reducible rfl
          rotate_left
          ·simp only [Act.put,List.setIfInBounds_toArray,List.set_cons_zero,List.set_cons_succ,zq,zt]
           rfl
          refine yF (i:=8) (N:=some 45) (v:= ?_) (a':= ?_) #[true,false,true,false,false,false,true,false,true,false,false,false,false,false,false] rfl rfl (yA HT_.out (by kernel_rfl)) (fun _ _ _ h=>h) (Or.inl ⟨by rfl,?_⟩) ?_ ?_;rotate_left
          ·intro w'
           go_simp
           with_reducible rfl
          rotate_left
          ·simp only [Act.put,List.setIfInBounds_toArray,List.set_cons_zero,List.set_cons_succ,zq,zt]
           rfl
          refine take_ (i:=1) (N:=some 38) (v:= ?_) (a':= ?_) #[true,true,true,false,false,false,true,false,true,false,false,false,false,false,false] rfl rfl (yU HT_.out HW_.out (by kernel_rfl)) (fun _ _ _ h=>h) (Or.inl ⟨by rfl,?_⟩) hHeld ?_ ?_;rotate_left
          ·rintro w' ⟨s0,s1,s2,s3,s4,s5⟩
           go_simp
           with_reducible rfl
          rotate_left
          ·simp only [Act.put,List.setIfInBounds_toArray,List.set_cons_zero,List.set_cons_succ,zq,zt]
           rfl
          refine yF (i:=3) (N:=some 40) (v:= ?_) (a':= ?_) #[true,true,true,true,false,false,true,false,true,false,false,false,false,false,false] rfl rfl (yA HT_.out (by kernel_rfl)) (fun _ _ _ h=>h) (Or.inl ⟨by rfl,?_⟩) ?_ ?_;rotate_left
          ·intro w'
           go_simp
           with_reducible rfl
          rotate_left
          ·simp only [Act.put,List.setIfInBounds_toArray,List.set_cons_zero,List.set_cons_succ,zq,zt]
           rfl
          refine yF (i:=4) (N:=some 41) (v:= ?_) (a':= ?_) #[true,true,true,true,true,false,true,false,true,false,false,false,false,false,false] rfl rfl (yA HT_.out (by kernel_rfl)) (fun _ _ _ h=>h) (Or.inl ⟨by rfl,?_⟩) ?_ ?_;rotate_left
          ·intro w'
           go_simp
           with_reducible rfl
          rotate_left
          ·simp only [Act.put,List.setIfInBounds_toArray,List.set_cons_zero,List.set_cons_succ,zq,zt]
           rfl
          refine take_ (i:=5) (N:=some 42) (v:= ?_) (a':= ?_) #[true,true,true,true,true,true,true,false,true,false,false,false,false,false,false] rfl rfl (yU HT_.out HW_.out (by kernel_rfl)) (fun _ _ _ h=>h) (Or.inl ⟨by rfl,?_⟩) hHeld ?_ ?_;rotate_left
          ·rintro w' ⟨s0,s1,s2,s3,s4,s5⟩
           go_simp
           with_reducible rfl
          rotate_left
          ·simp only [Act.put,List.setIfInBounds_toArray,List.set_cons_zero,List.set_cons_succ,zq,zt]
           rfl
          refine take_ (i:=7) (N:=some 44) (v:= ?_) (a':= ?_) #[true,true,true,true,true,true,true,true,true,false,false,false,false,false,false] rfl rfl (yU HT_.out HW_.out (by kernel_rfl)) (fun _ _ _ h=>h) (Or.inl ⟨by rfl,?_⟩) hHeld ?_ ?_;rotate_left
          ·rintro w' ⟨s0,s1,s2,s3,s4,s5⟩
           go_simp
           with_reducible rfl
          rotate_left
          ·simp only [Act.put,List.setIfInBounds_toArray,List.set_cons_zero,List.set_cons_succ,zq,zt]
           rfl
          refine one_ (i:=9) (N:=some 46) #[true,true,true,true,true,true,true,true,true,true,false,false,false,false,false] rfl rfl (yj HT_.out (by kernel_rfl)) (by decide) (fun K hK=> ?_);refine YS Try.func21 (by kernel_rfl) rfl #[.slice A379_1 ((zF l0_3 x8_1).f1).length c379_1, .int .i64 a0_1, .slice Ao22 t368.length co22, .int .i64 600] (by rfl) rfl rfl Q4 ?_
          with_reducible refine (zV.calls k1 _ _ ((zF l0_3 x8_1).f1) a0_1 _ _ t368 600 t380 t381 _ ?side1 ?side2 ?side3 ?side4 A15.out).mono ?_
          (case side1=>exact Qo (Kd.C_below HR379_1.out HB.out))
          (case side2=>exact HC379_1.out)
          (case side3=>repeat (first|exact (Kd.S_reads' vs.out).2.2|(with_reducible refine Kd.C_alloc ?_ _)|(with_reducible refine Kd.C_drewN ?_ _)|(with_reducible refine Kd.C_drew ?_)))
          (case side4=>exact (Kd.S_reads' vs.out).2.1)
          rintro e w23 ⟨v382,rfl,ho0,hb⟩;refine ⟨_,rfl,?_⟩;have n0_:=zA.mk (Kd.S_elder' (Qj vs) (Kd.R_base ho0) hb);have n1_:=zA.mk (Kd.S_elder' (Qj HO_6) (Kd.R_base ho0) hb);have n2_:=zA.mk (Kd.S_elder' (Qj HO_7) (Kd.R_base ho0) hb);have n3_:=zA.mk (Kd.R_lower ho0 (zD (Qd wF)));have n4_:=zA.mk (zZ (g:=wb) (Qi vb) hb);have n5_:=zA.mk (zE (Qd wF) hb);clear vs HO_6 HO_7 vb HB;have vs:=n0_;have HO_6:=n1_;have HO_7:=n2_;have wG:=n3_;have vb:=n4_;have HB:=n5_;clear n0_ n1_ n2_ n3_ n4_ n5_;(try clear hb ho0);refine hK.out _ _ ⟨(zQ vb.out 0).trans rfl,(zQ vb.out 1).trans rfl,(zQ vb.out 2).trans rfl,(zQ vb.out 3).trans rfl,((HB.out.cell (ZzA w _ hw379_0)).trans hw379_0),((HB.out.cell (ZzA w _ hw379_1)).trans hw379_1)⟩ (fun hHeld=> ?_);clear hK K;refine yl (a':= ?_) ?_ ?_;rotate_left
          ·show Act.put _ (some 46) _=_
           simp only [Act.put,List.setIfInBounds_toArray,List.set_cons_zero,List.set_cons_succ,zq,zt]
           rfl
          refine yF (i:=10) (N:=some 36) (v:= ?_) (a':= ?_) #[true,true,true,true,true,true,true,true,true,true,true,false,false,false,false] rfl rfl (yA HT_.out (by kernel_rfl)) (fun _ _ _ h=>h) (Or.inl ⟨by rfl,?_⟩) ?_ ?_;rotate_left
          ·intro w'
           go_simp
           with_reducible rfl
          rotate_left
          ·simp only [Act.put,List.setIfInBounds_toArray,List.set_cons_zero,List.set_cons_succ,zq,zt]
           rfl
          refine yF (i:=11) (N:=some 47) (v:= ?_) (a':= ?_) #[true,true,true,true,true,true,true,true,true,true,true,true,false,false,false] rfl rfl (yA HT_.out (by kernel_rfl)) (fun _ _ _ h=>h) (Or.inl ⟨by rfl,?_⟩) ?_ ?_;rotate_left
          ·intro w'
           go_simp
           with_reducible rfl
          rotate_left
          ·simp only [Act.put,List.setIfInBounds_toArray,List.set_cons_zero,List.set_cons_succ,zq,zt]
           rfl
          refine yF (i:=12) (N:=some 48) (v:= ?_) (a':= ?_) #[true,true,true,true,true,true,true,true,true,true,true,true,true,false,false] rfl rfl (yA HT_.out (by kernel_rfl)) (fun _ _ _ h=>h) (Or.inl ⟨by rfl,?_⟩) ?_ ?_;rotate_left
          ·intro w'
           go_simp
           with_reducible rfl
          rotate_left
          ·simp only [Act.put,List.setIfInBounds_toArray,List.set_cons_zero,List.set_cons_succ,zq,zt]
           rfl
          refine yF (i:=13) (N:=some 9) (v:= ?_) (a':= ?_) #[true,true,true,true,true,true,true,true,true,true,true,true,true,true,false] rfl rfl (yA HT_.out (by kernel_rfl)) (fun _ _ _ h=>h) (Or.inl ⟨by rfl,?_⟩) ?_ ?_;rotate_left
          ·intro w'
           go_simp
           with_reducible rfl
          rotate_left
          ·simp only [Act.put,List.setIfInBounds_toArray,List.set_cons_zero,List.set_cons_succ,zq,zt]
           rfl
          refine yF (i:=14) (N:=some 10) (v:= ?_) (a':= ?_) #[true,true,true,true,true,true,true,true,true,true,true,true,true,true,true] rfl rfl (yA HT_.out (by kernel_rfl)) (fun _ _ _ h=>h) (Or.inl ⟨by rfl,?_⟩) ?_ ?_;rotate_left
          ·intro w'
           go_simp
           with_reducible rfl
          rotate_left
          ·simp only [Act.put,List.setIfInBounds_toArray,List.set_cons_zero,List.set_cons_succ,zq,zt]
           rfl
          refine YD (ZW HT_.out (by kernel_rfl)) ?_
          try go_wp2
          have n0_:=zA.mk (Kd.S_drew vs.out);have n1_:=zA.mk (Kd.S_drew HO_6.out);have n2_:=zA.mk (Kd.S_drew HO_7.out);have n3_:=zA.mk (Kd.R_drew wG.out);have n4_:=zA.mk (zP vb.out);have n5_:=zA.mk (zH HB.out);clear vs HO_6 HO_7 wG vb HB;have vs:=n0_;have HO_6:=n1_;have HO_7:=n2_;have wG:=n3_;have vb:=n4_;have HB:=n5_;clear n0_ n1_ n2_ n3_ n4_ n5_;have p384:0≤(x8_1:Int):=Qa;have q384:x8_1 < (l0_3.length:Int):=Qa;obtain ⟨ad384,A384_1,c384_1,e384,hx384_0,hx384_1,hl384_1,hi384_1⟩:=yy vn.out x8_1 p384 q384;have hw384_1:=hx384_1;have hw384_0:=hx384_0;obtain rfl:ad379=ad384:=(by injection e384);replace hx384_0:=(HB.out.cell (ZzA w _ hx384_0)).trans hx384_0;replace hx384_1:=(HB.out.cell (ZzA w _ hx384_1)).trans hx384_1;have HR384_1:=zA.mk hi384_1;have HC384_1:=zA.mk hl384_1;clear hi384_1 hl384_1;replace p384:=eq_true p384;replace q384:=eq_true q384;obtain ⟨Ao25,co25,eo25⟩:=Kd.S_slice HO_6.out
          (first|subst eo25|(injection eo25 with f1_ f2_ f3_;have f4_:=f1_.symm;have f5_:=f3_.symm;clear f1_ f2_ f3_;subst f4_;subst f5_))
          have p385:0≤(((zF l0_3 x8_1).f0):Int):=Qa;have q385:((zF l0_3 x8_1).f0) < (t372.length:Int):=Qa;obtain ⟨ad385,A385_0,c385_0,e385,hx385_0,hl385_0,hi385_0⟩:=ZQ (Kd.S_reads' HO_6.out).2.2 ((zF l0_3 x8_1).f0) p385 q385;cases e385;obtain ⟨ce385,hce385,hMe385,hcc385⟩:=Kd.S_get HO_6.out [] ((zF l0_3 x8_1).f0) p385 (by first|exact q385|exact Qa|(have e_:=(Kd.S_reads' HO_6.out).1;omega));obtain ⟨ve385_0,rfl,ge385_0⟩:=hMe385;have hv385_0:=hcc385 0 _ rfl;rw [Nat.add_zero,show ((Kd.slice 9 Kd.string)).sz=1 from rfl,Nat.mul_one] at hv385_0;replace hv385_0:=Option.some.inj (hv385_0.symm.trans hx385_0);rw [hv385_0] at ge385_0;have HL385_0:=zA.mk (show Kd.R Kd.string 9 _ _ _ _ (zl t372 ((zF l0_3 x8_1).f0)) from ge385_0);clear hv385_0 ge385_0 hcc385 hce385;have HR385_0:=zA.mk hi385_0;have HC385_0:=zA.mk hl385_0;clear hi385_0 hl385_0;replace p385:=eq_true p385;replace q385:=eq_true q385;obtain ⟨Ao26,co26,eo26⟩:=Kd.R_slice wG.out
          (first|subst eo26|(injection eo26 with f1_ f2_ f3_;have f4_:=f1_.symm;have f5_:=f3_.symm;clear f1_ f2_ f3_;subst f4_;subst f5_))
          refine Zr (n:=14) (S:=fun w'=>w'.cell? ⟨wb,0,none⟩=some (.int .i64 a0_0)∧w'.cell? ⟨wb,1,none⟩=some (.int .i64 a0_1)∧w'.cell? ⟨wb,2,none⟩=some (.slice A0_2 l0_2.length c0_2)∧w'.cell? ⟨wb,3,none⟩=some (.slice (some ad379) l0_3.length c0_3)∧w'.cell? (ad379.add ((x8_1).toNat * 2))=some (.int .i64 ((zF l0_3 x8_1).f0))∧w'.cell? ⟨(ad379.add ((x8_1).toNat * 2)).block,(ad379.add ((x8_1).toNat * 2)).off + 1,none⟩=some (.slice A384_1 ((zF l0_3 x8_1).f1).length c384_1)∧w'.cell? (ad385.add (((zF l0_3 x8_1).f0)).toNat)=some (.slice A385_0 (zl t372 ((zF l0_3 x8_1).f0)).length c385_0)) (ds:= []) #[false,false,false,false,false,false,false,false,false,false,false,false,false,false] (by kernel_rfl) rfl rfl ⟨(zQ vb.out 0).trans rfl,(zQ vb.out 1).trans rfl,(zQ vb.out 2).trans rfl,(zQ vb.out 3).trans rfl,((HB.out.cell (ZzA w _ hw384_0)).trans hw384_0),((HB.out.cell (ZzA w _ hw384_1)).trans hw384_1),hx385_0⟩ (fun hHeld=> ?_);refine yw zg.tab12 zg.bits12 (fun HT_ HW_=> ?_)
          generalize w23.drew=w24 at vs HO_6 HO_7 wG vb HB HL385_0 HR384_1 HR385_0 hx384_0 hx384_1 hx385_0 hHeld⊢
          refine yF (i:=0) (N:=some 49) (v:= ?_) (a':= ?_) #[true,false,false,false,false,false,false,false,false,false,false,false,false,false] rfl rfl (yA HT_.out (by kernel_rfl)) (fun _ _ _ h=>h) (Or.inl ⟨by rfl,?_⟩) ?_ ?_;rotate_left
          ·intro w'
           go_simp
           with_reducible rfl
          rotate_left
          ·simp only [Act.put,List.setIfInBounds_toArray,List.set_cons_zero,List.set_cons_succ,zq,zt]
           rfl
          refine yF (i:=1) (N:=some 50) (v:= ?_) (a':= ?_) #[true,true,false,false,false,false,false,false,false,false,false,false,false,false] rfl rfl (yA HT_.out (by kernel_rfl)) (fun _ _ _ h=>h) (Or.inl ⟨by rfl,?_⟩) ?_ ?_;rotate_left
          ·intro w'
           go_simp
           with_reducible rfl
          rotate_left
          ·simp only [Act.put,List.setIfInBounds_toArray,List.set_cons_zero,List.set_cons_succ,zq,zt]
           rfl
          refine yF (i:=2) (N:=some 51) (v:= ?_) (a':= ?_) #[true,true,true,false,false,false,false,false,false,false,false,false,false,false] rfl rfl (yA HT_.out (by kernel_rfl)) (fun _ _ _ h=>h) (Or.inl ⟨by rfl,?_⟩) ?_ ?_;rotate_left
          ·intro w'
           go_simp
           with_reducible rfl
          rotate_left
          ·simp only [Act.put,List.setIfInBounds_toArray,List.set_cons_zero,List.set_cons_succ,zq,zt]
           rfl
          refine yF (i:=4) (N:=some 53) (v:= ?_) (a':= ?_) #[true,true,true,false,true,false,false,false,false,false,false,false,false,false] rfl rfl (yA HT_.out (by kernel_rfl)) (fun _ _ _ h=>h) (Or.inl ⟨by rfl,?_⟩) ?_ ?_;rotate_left
          ·intro w'
           go_simp
           with_reducible rfl
          rotate_left
          ·simp only [Act.put,List.setIfInBounds_toArray,List.set_cons_zero,List.set_cons_succ,zq,zt]
           rfl
          refine yF (i:=10) (N:=some 59) (v:= ?_) (a':= ?_) #[true,true,true,false,true,false,false,false,false,false,true,false,false,false] rfl rfl (yA HT_.out (by kernel_rfl)) (fun _ _ _ h=>h) (Or.inl ⟨by rfl,?_⟩) ?_ ?_;rotate_left
          ·intro w'
           go_simp
           with_reducible rfl
          rotate_left
          ·simp only [Act.put,List.setIfInBounds_toArray,List.set_cons_zero,List.set_cons_succ,zq,zt]
           rfl
          refine take_ (i:=3) (N:=some 52) (v:= ?_) (a':= ?_) #[true,true,true,true,true,false,false,false,false,false,true,false,false,false] rfl rfl (yU HT_.out HW_.out (by kernel_rfl)) (fun _ _ _ h=>h) (Or.inl ⟨by rfl,?_⟩) hHeld ?_ ?_;rotate_left
          ·rintro w' ⟨s0,s1,s2,s3,s4,s5,s6⟩
           go_simp
           with_reducible rfl
          rotate_left
          ·simp only [Act.put,List.setIfInBounds_toArray,List.set_cons_zero,List.set_cons_succ,zq,zt]
           rfl
          refine yF (i:=5) (N:=some 54) (v:= ?_) (a':= ?_) #[true,true,true,true,true,true,false,false,false,false,true,false,false,false] rfl rfl (yA HT_.out (by kernel_rfl)) (fun _ _ _ h=>h) (Or.inl ⟨by rfl,?_⟩) ?_ ?_;rotate_left
          ·intro w'
           go_simp
           with_reducible rfl
          rotate_left
          ·simp only [Act.put,List.setIfInBounds_toArray,List.set_cons_zero,List.set_cons_succ,zq,zt]
           rfl
          refine yF (i:=6) (N:=some 55) (v:= ?_) (a':= ?_) #[true,true,true,true,true,true,true,false,false,false,true,false,false,false] rfl rfl (yA HT_.out (by kernel_rfl)) (fun _ _ _ h=>h) (Or.inl ⟨by rfl,?_⟩) ?_ ?_;rotate_left
          ·intro w'
           go_simp
           with_reducible rfl
          rotate_left
          ·simp only [Act.put,List.setIfInBounds_toArray,List.set_cons_zero,List.set_cons_succ,zq,zt]
           rfl
          refine take_ (i:=7) (N:=some 56) (v:= ?_) (a':= ?_) #[true,true,true,true,true,true,true,true,false,false,true,false,false,false] rfl rfl (yU HT_.out HW_.out (by kernel_rfl)) (fun _ _ _ h=>h) (Or.inl ⟨by rfl,?_⟩) hHeld ?_ ?_;rotate_left
          ·rintro w' ⟨s0,s1,s2,s3,s4,s5,s6⟩
           go_simp
           with_reducible rfl
          rotate_left
          ·simp only [Act.put,List.setIfInBounds_toArray,List.set_cons_zero,List.set_cons_succ,zq,zt]
           rfl
          refine yF (i:=8) (N:=some 57) (v:= ?_) (a':= ?_) #[true,true,true,true,true,true,true,true,true,false,true,false,false,false] rfl rfl (yA HT_.out (by kernel_rfl)) (fun _ _ _ h=>h) (Or.inl ⟨by rfl,?_⟩) ?_ ?_;rotate_left
          ·intro w'
           go_simp
           with_reducible rfl
          rotate_left
          ·simp only [Act.put,List.setIfInBounds_toArray,List.set_cons_zero,List.set_cons_succ,zq,zt]
           rfl
          refine take_ (i:=9) (N:=some 58) (v:= ?_) (a':= ?_) #[true,true,true,true,true,true,true,true,true,true,true,false,false,false] rfl rfl (yU HT_.out HW_.out (by kernel_rfl)) (fun _ _ _ h=>h) (Or.inl ⟨by rfl,?_⟩) hHeld ?_ ?_;rotate_left
          ·rintro w' ⟨s0,s1,s2,s3,s4,s5,s6⟩
           go_simp
           with_reducible rfl
          rotate_left
          ·simp only [Act.put,List.setIfInBounds_toArray,List.set_cons_zero,List.set_cons_succ,zq,zt]
           rfl
          refine take_ (i:=11) (N:=some 60) (v:= ?_) (a':= ?_) #[true,true,true,true,true,true,true,true,true,true,true,true,false,false] rfl rfl (yU HT_.out HW_.out (by kernel_rfl)) (fun _ _ _ h=>h) (Or.inl ⟨by rfl,?_⟩) hHeld ?_ ?_;rotate_left
          ·rintro w' ⟨s0,s1,s2,s3,s4,s5,s6⟩
           go_simp
           with_reducible rfl
          rotate_left
          ·simp only [Act.put,List.setIfInBounds_toArray,List.set_cons_zero,List.set_cons_succ,zq,zt]
           rfl
          refine one_ (i:=12) (N:=some 61) #[true,true,true,true,true,true,true,true,true,true,true,true,true,false] rfl rfl (yj HT_.out (by kernel_rfl)) (by decide) (fun K hK=> ?_);refine YS Try.func22 (by kernel_rfl) rfl #[.slice Ao26 t380.length co26, .slice A385_0 (zl t372 ((zF l0_3 x8_1).f0)).length c385_0, .int .i64 a0_1] (by rfl) rfl rfl Q4 ?_
          with_reducible refine (zM.calls k1 _ _ t380 _ _ (zl t372 ((zF l0_3 x8_1).f0)) a0_1 t386 _ ?side1 ?side2 ?side3 ?side4 A18.out).mono ?_
          (case side1=>repeat (first|exact (Kd.R_reads' wG.out).2.2|(with_reducible refine Kd.C_alloc ?_ _)|(with_reducible refine Kd.C_drewN ?_ _)|(with_reducible refine Kd.C_drew ?_)))
          (case side2=>exact (Kd.R_reads' wG.out).2.1)
          (case side3=>repeat (first|exact QI|(with_reducible refine Kd.C_alloc ?_ _)|(with_reducible refine Kd.C_drewN ?_ _)|(with_reducible refine Kd.C_drew ?_)))
          (case side4=>exact HC385_0.out)
          rintro e w27 ⟨v387,rfl,ho0,hb⟩;have HS6_:=(hb.cell (ZzA _ _ (hHeld.2.2.2.2.2.2))).trans (hHeld.2.2.2.2.2.2);refine ⟨_,rfl,?_⟩;have n0_:=zA.mk (Kd.S_elder' (Qj vs) (Kd.R_base ho0) hb);have n1_:=zA.mk (Kd.S_elder' (Qj HO_6) (Kd.R_base ho0) hb);have n2_:=zA.mk (Kd.S_elder' (Qj HO_7) (Kd.R_base ho0) hb);have n3_:=zA.mk (Kd.R_elder' (Qh wG) (Kd.R_base ho0) hb);have n4_:=zA.mk (Kd.R_elder' (Qh HL385_0) (Kd.R_base ho0) hb);have n5_:=zA.mk (Kd.R_lower (Kd.R_new' (Kd.R_new' ho0 (Kd.R_lt (Qh wG))) (Kd.R_lt (Qh HL385_0))) (zD (Qd wF)));have n6_:=zA.mk (zZ (g:=wb) (Qi vb) hb);have n7_:=zA.mk (Kd.C_below QI hb);have n8_:=zA.mk (zE (Qd wF) hb);clear vs HO_6 HO_7 wG HL385_0 vb HR385_0 HB;have vs:=n0_;have HO_6:=n1_;have HO_7:=n2_;have wG:=n3_;have HL385_0:=n4_;have HO388:=n5_;have vb:=n6_;have HR385_0:=n7_;have HB:=n8_;clear n0_ n1_ n2_ n3_ n4_ n5_ n6_ n7_ n8_;(try clear hb ho0);refine hK.out _ _ ⟨(zQ vb.out 0).trans rfl,(zQ vb.out 1).trans rfl,(zQ vb.out 2).trans rfl,(zQ vb.out 3).trans rfl,((HB.out.cell (ZzA w _ hw384_0)).trans hw384_0),((HB.out.cell (ZzA w _ hw384_1)).trans hw384_1),HS6_⟩ (fun hHeld=> ?_);clear hK K;refine yl (a':= ?_) ?_ ?_;rotate_left
          ·show Act.put _ (some 61) _=_
           simp only [Act.put,List.setIfInBounds_toArray,List.set_cons_zero,List.set_cons_succ,zq,zt]
           rfl
          refine yF (i:=13) (N:=some 11) (v:= ?_) (a':= ?_) #[true,true,true,true,true,true,true,true,true,true,true,true,true,true] rfl rfl (yA HT_.out (by kernel_rfl)) (fun _ _ _ h=>h) (Or.inl ⟨by rfl,?_⟩) ?_ ?_;rotate_left
          ·intro w'
           go_simp
           with_reducible rfl
          rotate_left
          ·simp only [Act.put,List.setIfInBounds_toArray,List.set_cons_zero,List.set_cons_succ,zq,zt]
           rfl
          refine YD (ZW HT_.out (by kernel_rfl)) ?_;obtain ⟨Ao28,co28,eo28⟩:=Kd.R_slice HO388.out;subst eo28
          try go_wp2
          go_ret2
          exact ⟨_,by first|rfl|(simp [zT,zU] <;> rfl)|(simp [*,zT,zU] <;> rfl),by first|exact Kd.S_nil _ _ _ _ _|exact Kd.N_nil _ _ _ _ _|exact Kd.V_nil _ _ _ _ _|exact Kd.Q_nil _ _ _ _ _|exact Kd.R_nil _ _ _ _ _,by repeat (first|(with_reducible first|exact HB.out|apply zG|apply zC|apply zH|refine zJ ?_ wF.out)|exact HB.out)⟩
         ·rw [if_neg c19] at H
          have c19b0:=decide_eq_false c19;have c19b1:decide (600 < t386.length)=false:=decide_eq_false (by omega);clear c19
          by_cases c29:x7_1.length < 5864062014805
          ·rw [if_pos c29] at H
           have LMc29:=zA.mk c29;clear c29;obtain ⟨y389,hy389⟩:∃y_:List (List ByteArray),y_=(x7_1 ++ [t386]):=⟨_,rfl⟩;replace H:(zg.l0 k1 t368 t372 y389 (wrap64 (x8_1 + 1)) a0_0 a0_1 l0_2 l0_3)=some (r1,r2):=Qb hy389 H;have Ny389:=zA.mk hy389;clear hy389;have H':=zA.mk H;clear H;have hcz30_0:=Qn vb 0 rfl;have hcz30_1:=Qn vb 1 rfl;have hcz30_2:=Qn vb 2 rfl;have hcz30_3:=Qn vb 3 rfl;have hfz30_0:=zB vb.out 0;have hfz30_1:=zB vb.out 1;have hfz30_2:=zB vb.out 2;have hfz30_3:=zB vb.out 3
           try go_wp2
           have n0_:=zA.mk (Kd.S_drew vs.out);have n1_:=zA.mk (Kd.S_drew HO_6.out);have n2_:=zA.mk (Kd.S_drew HO_7.out);have n3_:=zA.mk (zP vb.out);have n4_:=zA.mk (zH HB.out);clear vs HO_6 HO_7 vb HB;have vs:=n0_;have HO_6:=n1_;have HO_7:=n2_;have vb:=n3_;have HB:=n4_;clear n0_ n1_ n2_ n3_ n4_;have p379:0≤(x8_1:Int):=Qa;have q379:x8_1 < (l0_3.length:Int):=Qa;obtain ⟨ad379,A379_1,c379_1,e379,hx379_0,hx379_1,hl379_1,hi379_1⟩:=yy vn.out x8_1 p379 q379;have hw379_1:=hx379_1;have hw379_0:=hx379_0;cases e379;replace hx379_0:=(HB.out.cell (ZzA w _ hx379_0)).trans hx379_0;replace hx379_1:=(HB.out.cell (ZzA w _ hx379_1)).trans hx379_1;have HR379_1:=zA.mk hi379_1;have HC379_1:=zA.mk hl379_1;clear hi379_1 hl379_1;replace p379:=eq_true p379;replace q379:=eq_true q379;obtain ⟨Ao32,co32,eo32⟩:=Kd.S_slice vs.out
           (first|subst eo32|(injection eo32 with f1_ f2_ f3_;have f4_:=f1_.symm;have f5_:=f3_.symm;clear f1_ f2_ f3_;subst f4_;subst f5_))
           refine Zr (n:=15) (S:=fun w'=>w'.cell? ⟨wb,0,none⟩=some (.int .i64 a0_0)∧w'.cell? ⟨wb,1,none⟩=some (.int .i64 a0_1)∧w'.cell? ⟨wb,2,none⟩=some (.slice A0_2 l0_2.length c0_2)∧w'.cell? ⟨wb,3,none⟩=some (.slice (some ad379) l0_3.length c0_3)∧w'.cell? (ad379.add ((x8_1).toNat * 2))=some (.int .i64 ((zF l0_3 x8_1).f0))∧w'.cell? ⟨(ad379.add ((x8_1).toNat * 2)).block,(ad379.add ((x8_1).toNat * 2)).off + 1,none⟩=some (.slice A379_1 ((zF l0_3 x8_1).f1).length c379_1)) (ds:= []) #[false,false,false,false,false,false,false,false,false,false,false,false,false,false,false] (by kernel_rfl) rfl rfl ⟨(zQ vb.out 0).trans rfl,(zQ vb.out 1).trans rfl,(zQ vb.out 2).trans rfl,(zQ vb.out 3).trans rfl,((HB.out.cell (ZzA w _ hw379_0)).trans hw379_0),((HB.out.cell (ZzA w _ hw379_1)).trans hw379_1)⟩ (fun hHeld=> ?_);refine yw zg.tab11 zg.bits11 (fun HT_ HW_=> ?_)
           generalize wr.drew=w31 at vs HO_6 HO_7 vb HB HR379_1 hx379_0 hx379_1 hHeld⊢
           refine yF (i:=0) (N:=some 37) (v:= ?_) (a':= ?_) #[true,false,false,false,false,false,false,false,false,false,false,false,false,false,false] rfl rfl (yA HT_.out (by kernel_rfl)) (fun _ _ _ h=>h) (Or.inl ⟨by rfl,?_⟩) ?_ ?_;rotate_left
           ·intro w'
            go_simp
            with_reducible rfl
           rotate_left
           ·simp only [Act.put,List.setIfInBounds_toArray,List.set_cons_zero,List.set_cons_succ,zq,zt]
            rfl
           refine yF (i:=2) (N:=some 39) (v:= ?_) (a':= ?_) #[true,false,true,false,false,false,false,false,false,false,false,false,false,false,false] rfl rfl (yA HT_.out (by kernel_rfl)) (fun _ _ _ h=>h) (Or.inl ⟨by rfl,?_⟩) ?_ ?_;rotate_left
           ·intro w'
            go_simp
            with_reducible rfl
           rotate_left
           ·simp only [Act.put,List.setIfInBounds_toArray,List.set_cons_zero,List.set_cons_succ,zq,zt]
            rfl
           refine yF (i:=6) (N:=some 43) (v:= ?_) (a':= ?_) #[true,false,true,false,false,false,true,false,false,false,false,false,false,false,false] rfl rfl (yA HT_.out (by kernel_rfl)) (fun _ _ _ h=>h) (Or.inl ⟨by rfl,?_⟩) ?_ ?_;rotate_left
           ·intro w'
            go_simp
            with_reducible rfl
           rotate_left
           ·simp only [Act.put,List.setIfInBounds_toArray,List.set_cons_zero,List.set_cons_succ,zq,zt]
            rfl
           refine yF (i:=8) (N:=some 45) (v:= ?_) (a':= ?_) #[true,false,true,false,false,false,true,false,true,false,false,false,false,false,false] rfl rfl (yA HT_.out (by kernel_rfl)) (fun _ _ _ h=>h) (Or.inl ⟨by rfl,?_⟩) ?_ ?_;rotate_left
           ·intro w'
            go_simp
            with_reducible rfl
           rotate_left
           ·simp only [Act.put,List.setIfInBounds_toArray,List.set_cons_zero,List.set_cons_succ,zq,zt]
            rfl
           refine take_ (i:=1) (N:=some 38) (v:= ?_) (a':= ?_) #[true,true,true,false,false,false,true,false,true,false,false,false,false,false,false] rfl rfl (yU HT_.out HW_.out (by kernel_rfl)) (fun _ _ _ h=>h) (Or.inl ⟨by rfl,?_⟩) hHeld ?_ ?_;rotate_left
           ·rintro w' ⟨s0,s1,s2,s3,s4,s5⟩
            go_simp
            with_reducible rfl
           rotate_left
           ·simp only [Act.put,List.setIfInBounds_toArray,List.set_cons_zero,List.set_cons_succ,zq,zt]
            rfl
           refine yF (i:=3) (N:=some 40) (v:= ?_) (a':= ?_) #[true,true,true,true,false,false,true,false,true,false,false,false,false,false,false] rfl rfl (yA HT_.out (by kernel_rfl)) (fun _ _ _ h=>h) (Or.inl ⟨by rfl,?_⟩) ?_ ?_;rotate_left
           ·intro w'
            go_simp
            with_reducible rfl
           rotate_left
           ·simp only [Act.put,List.setIfInBounds_toArray,List.set_cons_zero,List.set_cons_succ,zq,zt]
            rfl
           refine yF (i:=4) (N:=some 41) (v:= ?_) (a':= ?_) #[true,true,true,true,true,false,true,false,true,false,false,false,false,false,false] rfl rfl (yA HT_.out (by kernel_rfl)) (fun _ _ _ h=>h) (Or.inl ⟨by rfl,?_⟩) ?_ ?_;rotate_left
           ·intro w'
            go_simp
            with_reducible rfl
           rotate_left
           ·simp only [Act.put,List.setIfInBounds_toArray,List.set_cons_zero,List.set_cons_succ,zq,zt]
            rfl
           refine take_ (i:=5) (N:=some 42) (v:= ?_) (a':= ?_) #[true,true,true,true,true,true,true,false,true,false,false,false,false,false,false] rfl rfl (yU HT_.out HW_.out (by kernel_rfl)) (fun _ _ _ h=>h) (Or.inl ⟨by rfl,?_⟩) hHeld ?_ ?_;rotate_left
           ·rintro w' ⟨s0,s1,s2,s3,s4,s5⟩
            go_simp
            with_reducible rfl
           rotate_left
           ·simp only [Act.put,List.setIfInBounds_toArray,List.set_cons_zero,List.set_cons_succ,zq,zt]
            rfl
           refine take_ (i:=7) (N:=some 44) (v:= ?_) (a':= ?_) #[true,true,true,true,true,true,true,true,true,false,false,false,false,false,false] rfl rfl (yU HT_.out HW_.out (by kernel_rfl)) (fun _ _ _ h=>h) (Or.inl ⟨by rfl,?_⟩) hHeld ?_ ?_;rotate_left
           ·rintro w' ⟨s0,s1,s2,s3,s4,s5⟩
            go_simp
            with_reducible rfl
           rotate_left
           ·simp only [Act.put,List.setIfInBounds_toArray,List.set_cons_zero,List.set_cons_succ,zq,zt]
            rfl
           refine one_ (i:=9) (N:=some 46) #[true,true,true,true,true,true,true,true,true,true,false,false,false,false,false] rfl rfl (yj HT_.out (by kernel_rfl)) (by decide) (fun K hK=> ?_);refine YS Try.func21 (by kernel_rfl) rfl #[.slice A379_1 ((zF l0_3 x8_1).f1).length c379_1, .int .i64 a0_1, .slice Ao32 t368.length co32, .int .i64 600] (by rfl) rfl rfl Q4 ?_
           with_reducible refine (zV.calls k1 _ _ ((zF l0_3 x8_1).f1) a0_1 _ _ t368 600 t380 t381 _ ?side1 ?side2 ?side3 ?side4 A15.out).mono ?_
           (case side1=>exact Qo (Kd.C_below HR379_1.out HB.out))
           (case side2=>exact HC379_1.out)
           (case side3=>repeat (first|exact (Kd.S_reads' vs.out).2.2|(with_reducible refine Kd.C_alloc ?_ _)|(with_reducible refine Kd.C_drewN ?_ _)|(with_reducible refine Kd.C_drew ?_)))
           (case side4=>exact (Kd.S_reads' vs.out).2.1)
           rintro e w33 ⟨v382,rfl,ho0,hb⟩;refine ⟨_,rfl,?_⟩;have n0_:=zA.mk (Kd.S_elder' (Qj vs) (Kd.R_base ho0) hb);have n1_:=zA.mk (Kd.S_elder' (Qj HO_6) (Kd.R_base ho0) hb);have n2_:=zA.mk (Kd.S_elder' (Qj HO_7) (Kd.R_base ho0) hb);have n3_:=zA.mk (Kd.R_lower ho0 (zD (Qd wF)));have n4_:=zA.mk (zZ (g:=wb) (Qi vb) hb);have n5_:=zA.mk (zE (Qd wF) hb);clear vs HO_6 HO_7 vb HB;have vs:=n0_;have HO_6:=n1_;have HO_7:=n2_;have wG:=n3_;have vb:=n4_;have HB:=n5_;clear n0_ n1_ n2_ n3_ n4_ n5_;(try clear hb ho0);refine hK.out _ _ ⟨(zQ vb.out 0).trans rfl,(zQ vb.out 1).trans rfl,(zQ vb.out 2).trans rfl,(zQ vb.out 3).trans rfl,((HB.out.cell (ZzA w _ hw379_0)).trans hw379_0),((HB.out.cell (ZzA w _ hw379_1)).trans hw379_1)⟩ (fun hHeld=> ?_);clear hK K;refine yl (a':= ?_) ?_ ?_;rotate_left
           ·show Act.put _ (some 46) _=_
            simp only [Act.put,List.setIfInBounds_toArray,List.set_cons_zero,List.set_cons_succ,zq,zt]
            rfl
           refine yF (i:=10) (N:=some 36) (v:= ?_) (a':= ?_) #[true,true,true,true,true,true,true,true,true,true,true,false,false,false,false] rfl rfl (yA HT_.out (by kernel_rfl)) (fun _ _ _ h=>h) (Or.inl ⟨by rfl,?_⟩) ?_ ?_;rotate_left
           ·intro w'
            go_simp
            with_reducible rfl
           rotate_left
           ·simp only [Act.put,List.setIfInBounds_toArray,List.set_cons_zero,List.set_cons_succ,zq,zt]
            rfl
           refine yF (i:=11) (N:=some 47) (v:= ?_) (a':= ?_) #[true,true,true,true,true,true,true,true,true,true,true,true,false,false,false] rfl rfl (yA HT_.out (by kernel_rfl)) (fun _ _ _ h=>h) (Or.inl ⟨by rfl,?_⟩) ?_ ?_;rotate_left
           ·intro w'
            go_simp
            with_reducible rfl
           rotate_left
           ·simp only [Act.put,List.setIfInBounds_toArray,List.set_cons_zero,List.set_cons_succ,zq,zt]
            rfl
           refine yF (i:=12) (N:=some 48) (v:= ?_) (a':= ?_) #[true,true,true,true,true,true,true,true,true,true,true,true,true,false,false] rfl rfl (yA HT_.out (by kernel_rfl)) (fun _ _ _ h=>h) (Or.inl ⟨by rfl,?_⟩) ?_ ?_;rotate_left
           ·intro w'
            go_simp
            with_reducible rfl
           rotate_left
           ·simp only [Act.put,List.setIfInBounds_toArray,List.set_cons_zero,List.set_cons_succ,zq,zt]
            rfl
           refine yF (i:=13) (N:=some 9) (v:= ?_) (a':= ?_) #[true,true,true,true,true,true,true,true,true,true,true,true,true,true,false] rfl rfl (yA HT_.out (by kernel_rfl)) (fun _ _ _ h=>h) (Or.inl ⟨by rfl,?_⟩) ?_ ?_;rotate_left
           ·intro w'
            go_simp
            with_reducible rfl
           rotate_left
           ·simp only [Act.put,List.setIfInBounds_toArray,List.set_cons_zero,List.set_cons_succ,zq,zt]
            rfl
           refine yF (i:=14) (N:=some 10) (v:= ?_) (a':= ?_) #[true,true,true,true,true,true,true,true,true,true,true,true,true,true,true] rfl rfl (yA HT_.out (by kernel_rfl)) (fun _ _ _ h=>h) (Or.inl ⟨by rfl,?_⟩) ?_ ?_;rotate_left
           ·intro w'
            go_simp
            with_reducible rfl
           rotate_left
           ·simp only [Act.put,List.setIfInBounds_toArray,List.set_cons_zero,List.set_cons_succ,zq,zt]
            rfl
           refine YD (ZW HT_.out (by kernel_rfl)) ?_
           try go_wp2
           have n0_:=zA.mk (Kd.S_drew vs.out);have n1_:=zA.mk (Kd.S_drew HO_6.out);have n2_:=zA.mk (Kd.S_drew HO_7.out);have n3_:=zA.mk (Kd.R_drew wG.out);have n4_:=zA.mk (zP vb.out);have n5_:=zA.mk (zH HB.out);clear vs HO_6 HO_7 wG vb HB;have vs:=n0_;have HO_6:=n1_;have HO_7:=n2_;have wG:=n3_;have vb:=n4_;have HB:=n5_;clear n0_ n1_ n2_ n3_ n4_ n5_;have p384:0≤(x8_1:Int):=Qa;have q384:x8_1 < (l0_3.length:Int):=Qa;obtain ⟨ad384,A384_1,c384_1,e384,hx384_0,hx384_1,hl384_1,hi384_1⟩:=yy vn.out x8_1 p384 q384;have hw384_1:=hx384_1;have hw384_0:=hx384_0;obtain rfl:ad379=ad384:=(by injection e384);replace hx384_0:=(HB.out.cell (ZzA w _ hx384_0)).trans hx384_0;replace hx384_1:=(HB.out.cell (ZzA w _ hx384_1)).trans hx384_1;have HR384_1:=zA.mk hi384_1;have HC384_1:=zA.mk hl384_1;clear hi384_1 hl384_1;replace p384:=eq_true p384;replace q384:=eq_true q384;obtain ⟨Ao35,co35,eo35⟩:=Kd.S_slice HO_6.out
           (first|subst eo35|(injection eo35 with f1_ f2_ f3_;have f4_:=f1_.symm;have f5_:=f3_.symm;clear f1_ f2_ f3_;subst f4_;subst f5_))
           have p385:0≤(((zF l0_3 x8_1).f0):Int):=Qa;have q385:((zF l0_3 x8_1).f0) < (t372.length:Int):=Qa;obtain ⟨ad385,A385_0,c385_0,e385,hx385_0,hl385_0,hi385_0⟩:=ZQ (Kd.S_reads' HO_6.out).2.2 ((zF l0_3 x8_1).f0) p385 q385;cases e385;obtain ⟨ce385,hce385,hMe385,hcc385⟩:=Kd.S_get HO_6.out [] ((zF l0_3 x8_1).f0) p385 (by first|exact q385|exact Qa|(have e_:=(Kd.S_reads' HO_6.out).1;omega));obtain ⟨ve385_0,rfl,ge385_0⟩:=hMe385;have hv385_0:=hcc385 0 _ rfl;rw [Nat.add_zero,show ((Kd.slice 9 Kd.string)).sz=1 from rfl,Nat.mul_one] at hv385_0;replace hv385_0:=Option.some.inj (hv385_0.symm.trans hx385_0);rw [hv385_0] at ge385_0;have HL385_0:=zA.mk (show Kd.R Kd.string 9 _ _ _ _ (zl t372 ((zF l0_3 x8_1).f0)) from ge385_0);clear hv385_0 ge385_0 hcc385 hce385;have HR385_0:=zA.mk hi385_0;have HC385_0:=zA.mk hl385_0;clear hi385_0 hl385_0;replace p385:=eq_true p385;replace q385:=eq_true q385;obtain ⟨Ao36,co36,eo36⟩:=Kd.R_slice wG.out
           (first|subst eo36|(injection eo36 with f1_ f2_ f3_;have f4_:=f1_.symm;have f5_:=f3_.symm;clear f1_ f2_ f3_;subst f4_;subst f5_))
           refine Zr (n:=14) (S:=fun w'=>w'.cell? ⟨wb,0,none⟩=some (.int .i64 a0_0)∧w'.cell? ⟨wb,1,none⟩=some (.int .i64 a0_1)∧w'.cell? ⟨wb,2,none⟩=some (.slice A0_2 l0_2.length c0_2)∧w'.cell? ⟨wb,3,none⟩=some (.slice (some ad379) l0_3.length c0_3)∧w'.cell? (ad379.add ((x8_1).toNat * 2))=some (.int .i64 ((zF l0_3 x8_1).f0))∧w'.cell? ⟨(ad379.add ((x8_1).toNat * 2)).block,(ad379.add ((x8_1).toNat * 2)).off + 1,none⟩=some (.slice A384_1 ((zF l0_3 x8_1).f1).length c384_1)∧w'.cell? (ad385.add (((zF l0_3 x8_1).f0)).toNat)=some (.slice A385_0 (zl t372 ((zF l0_3 x8_1).f0)).length c385_0)) (ds:= []) #[false,false,false,false,false,false,false,false,false,false,false,false,false,false] (by kernel_rfl) rfl rfl ⟨(zQ vb.out 0).trans rfl,(zQ vb.out 1).trans rfl,(zQ vb.out 2).trans rfl,(zQ vb.out 3).trans rfl,((HB.out.cell (ZzA w _ hw384_0)).trans hw384_0),((HB.out.cell (ZzA w _ hw384_1)).trans hw384_1),hx385_0⟩ (fun hHeld=> ?_);refine yw zg.tab12 zg.bits12 (fun HT_ HW_=> ?_)
           generalize w33.drew=w34 at vs HO_6 HO_7 wG vb HB HL385_0 HR384_1 HR385_0 hx384_0 hx384_1 hx385_0 hHeld⊢
           refine yF (i:=0) (N:=some 49) (v:= ?_) (a':= ?_) #[true,false,false,false,false,false,false,false,false,false,false,false,false,false] rfl rfl (yA HT_.out (by kernel_rfl)) (fun _ _ _ h=>h) (Or.inl ⟨by rfl,?_⟩) ?_ ?_;rotate_left
           ·intro w'
            go_simp
            with_reducible rfl
           rotate_left
           ·simp only [Act.put,List.setIfInBounds_toArray,List.set_cons_zero,List.set_cons_succ,zq,zt]
            rfl
           refine yF (i:=1) (N:=some 50) (v:= ?_) (a':= ?_) #[true,true,false,false,false,false,false,false,false,false,false,false,false,false] rfl rfl (yA HT_.out (by kernel_rfl)) (fun _ _ _ h=>h) (Or.inl ⟨by rfl,?_⟩) ?_ ?_;rotate_left
           ·intro w'
            go_simp
            with_reducible rfl
           rotate_left
           ·simp only [Act.put,List.setIfInBounds_toArray,List.set_cons_zero,List.set_cons_succ,zq,zt]
            rfl
           refine yF (i:=2) (N:=some 51) (v:= ?_) (a':= ?_) #[true,true,true,false,false,false,false,false,false,false,false,false,false,false] rfl rfl (yA HT_.out (by kernel_rfl)) (fun _ _ _ h=>h) (Or.inl ⟨by rfl,?_⟩) ?_ ?_;rotate_left
           ·intro w'
            go_simp
            with_reducible rfl
           rotate_left
           ·simp only [Act.put,List.setIfInBounds_toArray,List.set_cons_zero,List.set_cons_succ,zq,zt]
            rfl
           refine yF (i:=4) (N:=some 53) (v:= ?_) (a':= ?_) #[true,true,true,false,true,false,false,false,false,false,false,false,false,false] rfl rfl (yA HT_.out (by kernel_rfl)) (fun _ _ _ h=>h) (Or.inl ⟨by rfl,?_⟩) ?_ ?_;rotate_left
           ·intro w'
            go_simp
            with_reducible rfl
           rotate_left
           ·simp only [Act.put,List.setIfInBounds_toArray,List.set_cons_zero,List.set_cons_succ,zq,zt]
            rfl
           refine yF (i:=10) (N:=some 59) (v:= ?_) (a':= ?_) #[true,true,true,false,true,false,false,false,false,false,true,false,false,false] rfl rfl (yA HT_.out (by kernel_rfl)) (fun _ _ _ h=>h) (Or.inl ⟨by rfl,?_⟩) ?_ ?_;rotate_left
           ·intro w'
            go_simp
            with_reducible rfl
           rotate_left
           ·simp only [Act.put,List.setIfInBounds_toArray,List.set_cons_zero,List.set_cons_succ,zq,zt]
            rfl
           refine take_ (i:=3) (N:=some 52) (v:= ?_) (a':= ?_) #[true,true,true,true,true,false,false,false,false,false,true,false,false,false] rfl rfl (yU HT_.out HW_.out (by kernel_rfl)) (fun _ _ _ h=>h) (Or.inl ⟨by rfl,?_⟩) hHeld ?_ ?_;rotate_left
           ·rintro w' ⟨s0,s1,s2,s3,s4,s5,s6⟩
            go_simp
            with_reducible rfl
           rotate_left
           ·simp only [Act.put,List.setIfInBounds_toArray,List.set_cons_zero,List.set_cons_succ,zq,zt]
            rfl
           refine yF (i:=5) (N:=some 54) (v:= ?_) (a':= ?_) #[true,true,true,true,true,true,false,false,false,false,true,false,false,false] rfl rfl (yA HT_.out (by kernel_rfl)) (fun _ _ _ h=>h) (Or.inl ⟨by rfl,?_⟩) ?_ ?_;rotate_left
           ·intro w'
            go_simp
            with_reducible rfl
           rotate_left
           ·simp only [Act.put,List.setIfInBounds_toArray,List.set_cons_zero,List.set_cons_succ,zq,zt]
            rfl
           refine yF (i:=6) (N:=some 55) (v:= ?_) (a':= ?_) #[true,true,true,true,true,true,true,false,false,false,true,false,false,false] rfl rfl (yA HT_.out (by kernel_rfl)) (fun _ _ _ h=>h) (Or.inl ⟨by rfl,?_⟩) ?_ ?_;rotate_left
           ·intro w'
            go_simp
            with_reducible rfl
           rotate_left
           ·simp only [Act.put,List.setIfInBounds_toArray,List.set_cons_zero,List.set_cons_succ,zq,zt]
            rfl
           refine take_ (i:=7) (N:=some 56) (v:= ?_) (a':= ?_) #[true,true,true,true,true,true,true,true,false,false,true,false,false,false] rfl rfl (yU HT_.out HW_.out (by kernel_rfl)) (fun _ _ _ h=>h) (Or.inl ⟨by rfl,?_⟩) hHeld ?_ ?_;rotate_left
           ·rintro w' ⟨s0,s1,s2,s3,s4,s5,s6⟩
            go_simp
            with_reducible rfl
           rotate_left
           ·simp only [Act.put,List.setIfInBounds_toArray,List.set_cons_zero,List.set_cons_succ,zq,zt]
            rfl
           refine yF (i:=8) (N:=some 57) (v:= ?_) (a':= ?_) #[true,true,true,true,true,true,true,true,true,false,true,false,false,false] rfl rfl (yA HT_.out (by kernel_rfl)) (fun _ _ _ h=>h) (Or.inl ⟨by rfl,?_⟩) ?_ ?_;rotate_left
           ·intro w'
            go_simp
            with_reducible rfl
           rotate_left
           ·simp only [Act.put,List.setIfInBounds_toArray,List.set_cons_zero,List.set_cons_succ,zq,zt]
            rfl
           refine take_ (i:=9) (N:=some 58) (v:= ?_) (a':= ?_) #[true,true,true,true,true,true,true,true,true,true,true,false,false,false] rfl rfl (yU HT_.out HW_.out (by kernel_rfl)) (fun _ _ _ h=>h) (Or.inl ⟨by rfl,?_⟩) hHeld ?_ ?_;rotate_left
           ·rintro w' ⟨s0,s1,s2,s3,s4,s5,s6⟩
            go_simp
            with_reducible rfl
           rotate_left
           ·simp only [Act.put,List.setIfInBounds_toArray,List.set_cons_zero,List.set_cons_succ,zq,zt]
            rfl
           refine take_ (i:=11) (N:=some 60) (v:= ?_) (a':= ?_) #[true,true,true,true,true,true,true,true,true,true,true,true,false,false] rfl rfl (yU HT_.out HW_.out (by kernel_rfl)) (fun _ _ _ h=>h) (Or.inl ⟨by rfl,?_⟩) hHeld ?_ ?_;rotate_left
           ·rintro w' ⟨s0,s1,s2,s3,s4,s5,s6⟩
            go_simp
            with_reducible rfl
           rotate_left
           ·simp only [Act.put,List.setIfInBounds_toArray,List.set_cons_zero,List.set_cons_succ,zq,zt]
            rfl
           refine one_ (i:=12) (N:=some 61) #[true,true,true,true,true,true,true,true,true,true,true,true,true,false] rfl rfl (yj HT_.out (by kernel_rfl)) (by decide) (fun K hK=> ?_);refine YS Try.func22 (by kernel_rfl) rfl #[.slice Ao36 t380.length co36, .slice A385_0 (zl t372 ((zF l0_3 x8_1).f0)).length c385_0, .int .i64 a0_1] (by rfl) rfl rfl Q4 ?_
           with_reducible refine (zM.calls k1 _ _ t380 _ _ (zl t372 ((zF l0_3 x8_1).f0)) a0_1 t386 _ ?side1 ?side2 ?side3 ?side4 A18.out).mono ?_
           (case side1=>repeat (first|exact (Kd.R_reads' wG.out).2.2|(with_reducible refine Kd.C_alloc ?_ _)|(with_reducible refine Kd.C_drewN ?_ _)|(with_reducible refine Kd.C_drew ?_)))
           (case side2=>exact (Kd.R_reads' wG.out).2.1)
           (case side3=>repeat (first|exact QI|(with_reducible refine Kd.C_alloc ?_ _)|(with_reducible refine Kd.C_drewN ?_ _)|(with_reducible refine Kd.C_drew ?_)))
           (case side4=>exact HC385_0.out)
           rintro e w37 ⟨v387,rfl,ho0,hb⟩;have HS6_:=(hb.cell (ZzA _ _ (hHeld.2.2.2.2.2.2))).trans (hHeld.2.2.2.2.2.2);refine ⟨_,rfl,?_⟩;have n0_:=zA.mk (Kd.S_elder' (Qj vs) (Kd.R_base ho0) hb);have n1_:=zA.mk (Kd.S_elder' (Qj HO_6) (Kd.R_base ho0) hb);have n2_:=zA.mk (Kd.S_elder' (Qj HO_7) (Kd.R_base ho0) hb);have n3_:=zA.mk (Kd.R_elder' (Qh wG) (Kd.R_base ho0) hb);have n4_:=zA.mk (Kd.R_elder' (Qh HL385_0) (Kd.R_base ho0) hb);have n5_:=zA.mk (Kd.R_lower (Kd.R_new' (Kd.R_new' ho0 (Kd.R_lt (Qh wG))) (Kd.R_lt (Qh HL385_0))) (zD (Qd wF)));have n6_:=zA.mk (zZ (g:=wb) (Qi vb) hb);have n7_:=zA.mk (Kd.C_below QI hb);have n8_:=zA.mk (zE (Qd wF) hb);clear vs HO_6 HO_7 wG HL385_0 vb HR385_0 HB;have vs:=n0_;have HO_6:=n1_;have HO_7:=n2_;have wG:=n3_;have HL385_0:=n4_;have HO388:=n5_;have vb:=n6_;have HR385_0:=n7_;have HB:=n8_;clear n0_ n1_ n2_ n3_ n4_ n5_ n6_ n7_ n8_;(try clear hb ho0);refine hK.out _ _ ⟨(zQ vb.out 0).trans rfl,(zQ vb.out 1).trans rfl,(zQ vb.out 2).trans rfl,(zQ vb.out 3).trans rfl,((HB.out.cell (ZzA w _ hw384_0)).trans hw384_0),((HB.out.cell (ZzA w _ hw384_1)).trans hw384_1),HS6_⟩ (fun hHeld=> ?_);clear hK K;refine yl (a':= ?_) ?_ ?_;rotate_left
           ·show Act.put _ (some 61) _=_
            simp only [Act.put,List.setIfInBounds_toArray,List.set_cons_zero,List.set_cons_succ,zq,zt]
            rfl
           refine yF (i:=13) (N:=some 11) (v:= ?_) (a':= ?_) #[true,true,true,true,true,true,true,true,true,true,true,true,true,true] rfl rfl (yA HT_.out (by kernel_rfl)) (fun _ _ _ h=>h) (Or.inl ⟨by rfl,?_⟩) ?_ ?_;rotate_left
           ·intro w'
            go_simp
            with_reducible rfl
           rotate_left
           ·simp only [Act.put,List.setIfInBounds_toArray,List.set_cons_zero,List.set_cons_succ,zq,zt]
            rfl
           refine YD (ZW HT_.out (by kernel_rfl)) ?_;obtain ⟨Ao38,co38,eo38⟩:=Kd.R_slice HO388.out;subst eo38
           try go_wp2_with (first|((with_reducible refine ZY (b:= .append) (xs:= #[.tmp 65, .tmp 67]) rfl ?_);at_builtin;refine Kd.S_append (Kd.slice 9 Kd.string) (w0:=w) w.heap.size rfl (.tmp 65) (.tmp 67) 27 32 (.slice none 0 0) 24 rfl Try.underlying27 info32 rfl (by decide) (by omega) u7 x7_1 t386 [.slice Ao38 t386.length co38] (fun k_=>some k_≠(.slice Ao32 t368.length co32:Value).ownBlock∧some k_≠(.slice (some ad385) t372.length co35:Value).ownBlock∧some k_≠(.slice Ao36 t380.length co36:Value).ownBlock) (fun k_=>some k_=(.slice Ao38 t386.length co38:Value).ownBlock) rfl rfl ?aP (fun k_ hk_=>((Kd.R_mono (ok':=fun k_=>((fun k_=>some k_≠(.slice Ao32 t368.length co32:Value).ownBlock∧some k_≠(.slice (some ad385) t372.length co35:Value).ownBlock∧some k_≠(.slice Ao36 t380.length co36:Value).ownBlock)) k_∧some k_≠(u7:Value).ownBlock) (Kd.R_apart' (Kd.R_apart' (Kd.R_apart' (HO388.out) (Kd.S_typed vs.out) (by decide)) (Kd.S_typed HO_6.out) (by decide)) (Kd.S_typed HO_7.out) (by decide)) (fun k_ hk=>⟨⟨hk.1.1.2,⟨hk.1.2,hk.1.1.1.1.2⟩⟩,hk.2⟩))).1 k_ hk_.symm) ?aF ?aO ?aB ?aS ?aL ?_;(case aP=>exact Kd.M_row (Kd.R_mono (Kd.R_tight rfl (Kd.R_mono (ok':=fun k_=>((fun k_=>some k_≠(.slice Ao32 t368.length co32:Value).ownBlock∧some k_≠(.slice (some ad385) t372.length co35:Value).ownBlock∧some k_≠(.slice Ao36 t380.length co36:Value).ownBlock)) k_∧some k_≠(u7:Value).ownBlock) (Kd.R_apart' (Kd.R_apart' (Kd.R_apart' (HO388.out) (Kd.S_typed vs.out) (by decide)) (Kd.S_typed HO_6.out) (by decide)) (Kd.S_typed HO_7.out) (by decide)) (fun k_ hk=>⟨⟨hk.1.1.2,⟨hk.1.2,hk.1.1.1.1.2⟩⟩,hk.2⟩))) (fun _ h_=>h_)));(case aB=>exact (Qd wF));(case aF=>exact (fun k_ hk=>⟨Kd.fresh' (Kd.S_lt (Qj vs)) k_ hk,Kd.fresh' (Kd.S_lt (Qj HO_6)) k_ hk,Kd.fresh' (Kd.R_lt (Qh wG)) k_ hk⟩));(case aO=>exact (by (with_reducible repeat (first|apply Kd.S_alloc|apply Kd.S_drewN|apply Kd.S_drew));exact Kd.S_mono HO_7.out (fun k_ hk=>⟨⟨hk.1.1.1,⟨hk.1.1.2,hk.1.2⟩⟩,fun e_=>hk.2 e_⟩)));(case aS=>exact (zD (Qd wF)));(case aL=>have:=LMc29.out;omega);intro v390 w39 ho hb hg hat;rw [←Ny389.out] at ho;have n0_:=zA.mk (Kd.S_after (ok:=(fun k_=>some k_≠(.slice (some ad385) t372.length co35:Value).ownBlock∧some k_≠(.slice Ao36 t380.length co36:Value).ownBlock∧some k_≠(.slice Ao38 t386.length co38:Value).ownBlock)) (by (with_reducible repeat (first|apply Kd.S_alloc|apply Kd.S_drewN|apply Kd.S_drew));exact Kd.S_mono vs.out (fun _ hk=>⟨⟨hk.1.1.1,⟨hk.1.2,hk.2⟩⟩,hk.1.1.2⟩)) hg hat);have n1_:=zA.mk (Kd.S_after (ok:=(fun k_=>some k_≠(.slice Ao32 t368.length co32:Value).ownBlock∧some k_≠(.slice Ao36 t380.length co36:Value).ownBlock∧some k_≠(.slice Ao38 t386.length co38:Value).ownBlock)) (by (with_reducible repeat (first|apply Kd.S_alloc|apply Kd.S_drewN|apply Kd.S_drew));exact Kd.S_mono HO_6.out (fun _ hk=>⟨⟨hk.1.1.1,⟨hk.1.2,hk.2⟩⟩,hk.1.1.2⟩)) hg hat);have n2_:=zA.mk (ZB (g:=wb) (Qi vb) hg (Kd.S_ne HO_7.out vb.out (by decide)));have n3_:=zA.mk (Kd.R_over' (Qh wG) (Kd.S_typed (Qj HO_7)) (by decide) hg);have n4_:=zA.mk (Kd.R_after (ok:=(fun k_=>some k_≠(.slice Ao32 t368.length co32:Value).ownBlock∧some k_≠(.slice (some ad385) t372.length co35:Value).ownBlock∧some k_≠(.slice Ao36 t380.length co36:Value).ownBlock∧some k_≠(.slice Ao38 t386.length co38:Value).ownBlock)) (by (with_reducible repeat (first|apply Kd.R_alloc|apply Kd.R_drewN|apply Kd.R_drew));exact Kd.R_mono HL385_0.out (fun _ hk=>⟨⟨hk.1.1.1.1,⟨hk.1.2,⟨hk.1.1.2,hk.2⟩⟩⟩,hk.1.1.1.2⟩)) hg hat);have n5_:=zA.mk (hb);have n6_:=zA.mk (ho);clear vs HO_6 vb wG HL385_0 HB HO_7 HO388;have vs:=n0_;have HO_6:=n1_;have vb:=n2_;have wG:=n3_;have HL385_0:=n4_;have HB:=n5_;have HO391:=n6_;clear n0_ n1_ n2_ n3_ n4_ n5_ n6_ ho hb hg hat))
           go_roundg k1
           case measure=>have:=HK1.out;omega
           case rel=>exact ⟨(y389),(wrap64 (x8_1 + 1)),Zf,H',⟨by have:=HK1.out;omega⟩,⟨by (with_reducible repeat (first|apply Kd.S_alloc|apply Kd.S_drewN|apply Kd.S_drew));exact Kd.S_mono vs.out (fun _ hk=>⟨hk.1.1,hk.2⟩)⟩,⟨by (with_reducible repeat (first|apply Kd.S_alloc|apply Kd.S_drewN|apply Kd.S_drew));exact Kd.S_mono HO_6.out (fun _ hk=>⟨hk.1.1,hk.2⟩)⟩,⟨by (with_reducible repeat (first|apply Kd.S_alloc|apply Kd.S_drewN|apply Kd.S_drew));exact Kd.S_mono HO391.out (fun _ hk=>⟨hk.1,hk.2.1⟩)⟩,⟨Qi vb⟩,⟨by repeat (first|(with_reducible first|exact HB.out|apply zG|apply zC|apply zH|refine zJ ?_ wF.out)|exact HB.out)⟩⟩
          ·rw [if_neg c29] at H
           exact absurd H (by simp)
        ·rw [if_neg c17] at H
         exact absurd H (by simp)
       ·rw [if_neg c16] at H
        exact absurd H (by simp)
      ·rw [if_neg c14] at H
       exact absurd H (by simp)
     ·rw [if_neg c13] at H
      have c13b0:=decide_eq_false c13;clear c13;simp only [Option.some.injEq,Prod.mk.injEq] at H;obtain ⟨rfl,rfl⟩:=H;have hcz40_0:=Qn vb 0 rfl;have hcz40_1:=Qn vb 1 rfl;have hcz40_2:=Qn vb 2 rfl;have hcz40_3:=Qn vb 3 rfl;have hfz40_0:=zB vb.out 0;have hfz40_1:=zB vb.out 1;have hfz40_2:=zB vb.out 2;have hfz40_3:=zB vb.out 3
      go_wp2
      go_ret2
      exact ⟨_,by first|rfl|(simp [zT,zU] <;> rfl)|(simp [*,zT,zU] <;> rfl),by (with_reducible repeat (first|apply Kd.S_alloc|apply Kd.S_drewN|apply Kd.S_drew));exact Kd.S_mono HO_7.out (fun _ hk=>trivial),by repeat (first|(with_reducible first|exact HB.out|apply zG|apply zC|apply zH|refine zJ ?_ wF.out)|exact HB.out)⟩
  ·rw [if_neg c5] at H
   have c5b0:(t375 == 0)=false:=beq_eq_false_iff_ne.mpr c5;have c5b1:(t375 != 0)=true:=bne_iff_ne.mpr c5;simp only [Option.some.injEq,Prod.mk.injEq] at H;obtain ⟨rfl,rfl⟩:=H
   go_enter Try.func7,Try.ntmps7
   go_wp2_with (first|((with_reducible refine yC (N:=1) rfl ?_);refine yI ?hg (N:=1) ?hd (cs:= #[.int .i64 a0_0, .int .i64 a0_1, .slice A0_2 l0_2.length c0_2, .slice A0_3 l0_3.length c0_3]) (t:=25) ?hr ?_;(case hd=>rfl);(case hg=>rfl);(case hr=>exact Qm);intro wb hg w41 hbox hb;have n0_:=zA.mk (zE Qc hb);have n1_:=zA.mk (hbox);have n2_:=zA.mk ((by rw [hg];exact (zD Qc):w.heap.size≤wb));have n3_:=zA.mk ((by rw [hg];exact (zD Qc):w.heap.size≤wb));clear HB;have HB:=n0_;have vb:=n1_;have GW367:=n2_;have wF:=n3_;clear n0_ n1_ n2_ n3_ hb hbox hg;have hcz42_0:=Qn vb 0 rfl;have hcz42_1:=Qn vb 1 rfl;have hcz42_2:=Qn vb 2 rfl;have hcz42_3:=Qn vb 3 rfl;have hfz42_0:=zB vb.out 0;have hfz42_1:=zB vb.out 1;have hfz42_2:=zB vb.out 2;have hfz42_3:=zB vb.out 3)|((with_reducible refine zo (f:=19) rfl ?_);refine yQ (some 14) rfl rfl Try.func19 (by kernel_rfl) rfl #[.agg #[.int .i64 a0_0, .int .i64 a0_1, .slice A0_2 l0_2.length c0_2, .slice A0_3 l0_3.length c0_3]] rfl Q4 ?_;(with_reducible refine (yJ.calls k a0_0 a0_1 _ _ l0_2 _ _ l0_3 t368 t371 _ ?side1 ?side2 ?side3 ?side4 A2.out).mono ?_);(case side1=>exact Qo (Kd.C_below vF.out HB.out));(case side2=>exact vG.out);(case side3=>exact Qo (Kd.C_below vn.out HB.out));(case side4=>exact vK.out);rintro e w43 ⟨v369,rfl,ho0,hb⟩;refine ⟨_,rfl,?_⟩;have n1_:=zA.mk (zZ (g:=wb) (Qi vb) hb);have n2_:=zA.mk (zE (Qd wF) hb);clear vb HB;have vb:=n1_;have HB:=n2_;clear n1_ n2_;(try clear hb ho0);have hcz44_0:=Qn vb 0 rfl;have hcz44_1:=Qn vb 1 rfl;have hcz44_2:=Qn vb 2 rfl;have hcz44_3:=Qn vb 3 rfl;have hfz44_0:=zB vb.out 0;have hfz44_1:=zB vb.out 1;have hfz44_2:=zB vb.out 2;have hfz44_3:=zB vb.out 3)|((with_reducible refine zo (f:=20) rfl ?_);refine yQ (some 22) rfl rfl Try.func20 (by kernel_rfl) rfl #[.agg #[.int .i64 a0_0, .int .i64 a0_1, .slice A0_2 l0_2.length c0_2, .slice A0_3 l0_3.length c0_3]] rfl Q4 ?_;(with_reducible refine (zK.calls k a0_0 a0_1 _ _ l0_2 _ _ l0_3 t372 t375 _ ?side1 ?side2 ?side3 ?side4 A4.out).mono ?_);(case side1=>exact Qo (Kd.C_below vF.out HB.out));(case side2=>exact vG.out);(case side3=>exact Qo (Kd.C_below vn.out HB.out));(case side4=>exact vK.out);rintro e w45 ⟨v373,rfl,ho0,hb⟩;refine ⟨_,rfl,?_⟩;have n3_:=zA.mk (zE (Qd wF) hb);clear HB;have HB:=n3_;clear n3_;(try clear hb ho0)))
   go_ret2
   exact ⟨_,by first|rfl|(simp [zT,zU] <;> rfl)|(simp [*,zT,zU] <;> rfl),by first|exact Kd.S_nil _ _ _ _ _|exact Kd.N_nil _ _ _ _ _|exact Kd.V_nil _ _ _ _ _|exact Kd.Q_nil _ _ _ _ _|exact Kd.R_nil _ _ _ _ _,by repeat (first|(with_reducible first|exact HB.out|apply zG|apply zC|apply zH|refine zJ ?_ wF.out)|exact HB.out)⟩
 ·rw [if_neg c3] at H
  have c3b0:(t371 == 0)=false:=beq_eq_false_iff_ne.mpr c3;have c3b1:(t371 != 0)=true:=bne_iff_ne.mpr c3;simp only [Option.some.injEq,Prod.mk.injEq] at H;obtain ⟨rfl,rfl⟩:=H
  go_enter Try.func7,Try.ntmps7
  go_wp2_with (first|((with_reducible refine yC (N:=1) rfl ?_);refine yI ?hg (N:=1) ?hd (cs:= #[.int .i64 a0_0, .int .i64 a0_1, .slice A0_2 l0_2.length c0_2, .slice A0_3 l0_3.length c0_3]) (t:=25) ?hr ?_;(case hd=>rfl);(case hg=>rfl);(case hr=>exact Qm);intro wb hg w46 hbox hb;have n0_:=zA.mk (zE Qc hb);have n1_:=zA.mk (hbox);have n2_:=zA.mk ((by rw [hg];exact (zD Qc):w.heap.size≤wb));have n3_:=zA.mk ((by rw [hg];exact (zD Qc):w.heap.size≤wb));clear HB;have HB:=n0_;have vb:=n1_;have GW367:=n2_;have wF:=n3_;clear n0_ n1_ n2_ n3_ hb hbox hg;have hcz47_0:=Qn vb 0 rfl;have hcz47_1:=Qn vb 1 rfl;have hcz47_2:=Qn vb 2 rfl;have hcz47_3:=Qn vb 3 rfl;have hfz47_0:=zB vb.out 0;have hfz47_1:=zB vb.out 1;have hfz47_2:=zB vb.out 2;have hfz47_3:=zB vb.out 3)|((with_reducible refine zo (f:=19) rfl ?_);refine yQ (some 14) rfl rfl Try.func19 (by kernel_rfl) rfl #[.agg #[.int .i64 a0_0, .int .i64 a0_1, .slice A0_2 l0_2.length c0_2, .slice A0_3 l0_3.length c0_3]] rfl Q4 ?_;(with_reducible refine (yJ.calls k a0_0 a0_1 _ _ l0_2 _ _ l0_3 t368 t371 _ ?side1 ?side2 ?side3 ?side4 A2.out).mono ?_);(case side1=>exact Qo (Kd.C_below vF.out HB.out));(case side2=>exact vG.out);(case side3=>exact Qo (Kd.C_below vn.out HB.out));(case side4=>exact vK.out);rintro e w48 ⟨v369,rfl,ho0,hb⟩;refine ⟨_,rfl,?_⟩;have n2_:=zA.mk (zE (Qd wF) hb);clear HB;have HB:=n2_;clear n2_;(try clear hb ho0)))
  go_ret2
  exact ⟨_,by first|rfl|(simp [zT,zU] <;> rfl)|(simp [*,zT,zU] <;> rfl),by first|exact Kd.S_nil _ _ _ _ _|exact Kd.N_nil _ _ _ _ _|exact Kd.V_nil _ _ _ _ _|exact Kd.Q_nil _ _ _ _ _|exact Kd.R_nil _ _ _ _ _,by repeat (first|(with_reducible first|exact HB.out|apply zG|apply zC|apply zH|refine zJ ?_ wF.out)|exact HB.out)⟩
end Go.Proofs.Ytlanhkekjhlmjaa.HGuessOf
