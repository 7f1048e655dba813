-- Written by plus.py for this claim.
import Derived.Test.YtlanhkekjhlmjaaSGuessWordsVZip
import Derived.Test.YtlanhkekjhlmjaaHGuessWordsx0
import Derived.Test.YtlanhkekjhlmjaaHGuessWordsx2
namespace Go.Proofs.Ytlanhkekjhlmjaa.HGuessWords
open Go.RowKit Go.Proofs.YtlanhkekjhlmjaaW.PrintWords Go.Proofs.YtlanhkekjhlmjaaW.PrintLast Go.Proofs.YtlanhkekjhlmjaaW.PrintMore
attribute [local go_sem] yq yr ZM ZN yj yk yt yu   -- for this text's walks alone
set_option linter.unusedVariables false
set_option linter.unusedSimpArgs false
def zj.l0:Nat→Int→Int→Int→List Int→List (S45)→Option (Int × Int × List Int × (List (S45)))
 | 0,_,_,_,_,_=>none
 | k + 1,x4,x140000,x140001,x140002,x140003=>if x4 < (x140003.length:Int) then (if 0≤x4 then (if 0≤(mn (((zD x140003 x4).f1).length:Int) 4) then (if (mn (((zD x140003 x4).f1).length:Int) 4)≤(((zD x140003 x4).f1).length:Int) then (zj.l0 k (wrap64 (x4 + 1)) x140000 x140001 x140002 (x140003.set (x4:Int).toNat (⟨(zD x140003 x4).f0,(((zD x140003 x4).f1).take ((mn (((zD x140003 x4).f1).length:Int) 4):Int).toNat)⟩:S45))) else (none)) else (none)) else (none)) else (some (x140000,x140001,x140002,x140003))
def zj.f (k:Nat) (a0_0:Int) (a0_1:Int) (l0_2:List Int) (l0_3:List (S45)):Option (Int × Int × List Int × (List (S45))):=(zg.f k a0_0 a0_1 l0_2 l0_3 8 14).bind fun bt131=>(zj.l0 k 0 bt131.1 bt131.2.1 bt131.2.2.1 bt131.2.2.2)
theorem zj.mono_l:∀k,(∀y0 y1 y2 y3 y4,LeO (zj.l0 k y0 y1 y2 y3 y4) (zj.l0 (k + 1) y0 y1 y2 y3 y4))
 | 0=>fun _ _ _ _ _ r h=>by simp [zj.l0] at h
 | k + 1=>by
  have ih0:=zj.mono_l k
  ·intro y0 y1 y2 y3 y4
   unfold zj.l0
   repeat' first
   | with_reducible first|exact ih0 _ _ _ _ _|exact zg.mono _ _ _ _ _ _ _|exact LeO.refl _|exact LeO.none _|refine LeO.ite ?_ ?_|refine LeO.bind ?_ (fun _=> ?_)
   | exact ih0 _ _ _ _ _|exact zg.mono _ _ _ _ _ _ _|exact LeO.none _|refine LeO.ite ?_ ?_|refine LeO.bind ?_ (fun _=> ?_)
theorem zj.mono:∀a0 a1 a2 a3 k,LeO (zj.f k a0 a1 a2 a3) (zj.f (k + 1) a0 a1 a2 a3):=by
 intro a0 a1 a2 a3 k;have ih0:=zj.mono_l k
 unfold zj.f
 repeat' first
   | with_reducible first|exact ih0 _ _ _ _ _|exact zg.mono _ _ _ _ _ _ _|exact LeO.refl _|exact LeO.none _|refine LeO.ite ?_ ?_|refine LeO.bind ?_ (fun _=> ?_)
   | exact ih0 _ _ _ _ _|exact zg.mono _ _ _ _ _ _ _|exact LeO.none _|refine LeO.ite ?_ ?_|refine LeO.bind ?_ (fun _=> ?_)
def zj.T6:Bool × List (List Nat × List Nat):=(true,[([],[]),([0],[0]),([],[]),([],[]),([],[]),([4],[4]),([5],[5]),([3,6],[3,6]),([1,2,0,1,2,3,4,5,6,7],[1,2]),([8,0,1,2,3,4,5,6,7],[8]),([9,7,0,1,2,3,4,5,6,7],[7,9])])
def zj.B6:List Nat:= [0,1,0,0,0,16,48,120,255,511,1023]
theorem zj.tab6:rtab .any (qV Try.f5 6)=zj.T6:=by kernel_rfl
theorem zj.bits6:Zk zj.T6.2 zj.B6=true:=by kernel_rfl
set_option maxHeartbeats 8000000 in
set_option maxRecDepth 100000 in
theorem zj.calls (k:Nat) (a0_0:Int) (a0_1:Int) (vi:Option Addr) (vk:Nat) (l0_2:List Int) (vp:Option Addr) (vl:Nat) (l0_3:List (S45)) (r1:Int) (r2:Int) (r3:List Int) (r4:List (S45)) (w:World) (hr0_2:Kd.C (Kd.int .i64) w vi l0_2.length l0_2) (hc0_2:l0_2.length≤vk) (hr0_3:Kd.C k45 w vp l0_3.length l0_3) (hc0_3:l0_3.length≤vl) (h:zj.f k a0_0 a0_1 l0_2 l0_3=some (r1,r2,r3,r4)) :
  Calls Try.prog 5 #[.agg #[.int .i64 a0_0, .int .i64 a0_1, .slice vi l0_2.length vk, .slice vp l0_3.length vl]] w fun e w'=>∃v2_ v3_:Value,e= .returned (.agg #[.int .i64 r1, .int .i64 r2,v2_,v3_])∧Kd.R (Kd.int .i64) 3 w' w.heap.size (fun k_=>(w.heap.size≤k_)) v2_ r3∧Kd.N k45 45 w' w.heap.size (fun k_=>(w.heap.size≤k_)∧some k_≠(v2_:Value).ownBlock) v3_ r4∧Below w.heap.size w w':=by
 have hu25:=Try.underlying25;have wb:=zA.mk hr0_2;have wd:=zA.mk hc0_2;clear hr0_2 hc0_2;have vw:=zA.mk hr0_3;have wg:=zA.mk hc0_3;clear hr0_3 hc0_3;have HB:=zA.mk (Below.refl w.heap.size w);have H:((zg.f k a0_0 a0_1 l0_2 l0_3 8 14).bind fun bt131=>(zj.l0 k 0 bt131.1 bt131.2.1 bt131.2.2.1 bt131.2.2.2))=some (r1,r2,r3,r4):=h;clear h;replace H:=ZzB H;obtain ⟨⟨t131,t132,t133,t136⟩,A20,H⟩:=H;replace H:(zj.l0 k 0 t131 t132 t133 t136)=some (r1,r2,r3,r4):=H;have A2:=zA.mk A20;clear A20;have H':=zA.mk H;clear H
 go_enter Try.func5,Try.ntmps5
 go_wp2_with (first|((with_reducible refine yB (N:=1) rfl ?_);refine yH ?hg (N:=1) ?hd (cs:= #[.int .i64 a0_0, .int .i64 a0_1, .slice vi l0_2.length vk, .slice vp l0_3.length vl]) (t:=25) ?hr ?_;(case hd=>rfl);(case hg=>rfl);(case hr=>exact Qm);intro Vc hg w3 hbox hb;have n0_:=zA.mk (zH Qc hb);have n1_:=zA.mk (hbox);have n2_:=zA.mk ((by rw [hg];exact (zE Qc):w.heap.size≤Vc));have n3_:=zA.mk ((by rw [hg];exact (zE Qc):w.heap.size≤Vc));clear HB;have HB:=n0_;have wp:=n1_;have GW129:=n2_;have GE129:=n3_;clear n0_ n1_ n2_ n3_ hb hbox hg)|((with_reducible refine yB (N:=2) rfl ?_);refine yH ?hg (N:=2) ?hd (cs:= #[.int .i64 0, .int .i64 0, .slice none 0 0, .slice none 0 0]) (t:=25) ?hr ?_;(case hd=>rfl);(case hg=>rfl);(case hr=>exact Qm);intro wy hg w4 hbox hb;have n0_:=zA.mk (ze (g:=Vc) (Qi wp) hb);have n1_:=zA.mk (zH (Qd GE129) hb);have n2_:=zA.mk (hbox);have n3_:=zA.mk ((by rw [hg];exact (zE (Qd GE129)):w.heap.size≤wy));have n4_:=zA.mk ((by rw [hg];exact (zE (Qd GE129)):w.heap.size≤wy));have n5_:=zA.mk ((by rw [hg];exact Nat.ne_of_lt (yG (g:=Vc) (Qi wp)):Vc≠wy));have n6_:=zA.mk ((by rw [hg];exact Nat.ne_of_gt (yG (g:=Vc) (Qi wp)):wy≠Vc));clear wp HB;have wp:=n0_;have HB:=n1_;have wB:=n2_;have GW130:=n3_;have GE130:=n4_;have NB129_130:=n5_;have NB130_129:=n6_;clear n0_ n1_ n2_ n3_ n4_ n5_ n6_ hb hbox hg;have hnb5:=NB129_130.out;have hnc5:=NB130_129.out;have hcz6_0:=Qn wp 0 rfl;have hcz6_1:=Qn wp 1 rfl;have hcz6_2:=Qn wp 2 rfl;have hcz6_3:=Qn wp 3 rfl;have hfz6_0:=zB wp.out 0;have hfz6_1:=zB wp.out 1;have hfz6_2:=zB wp.out 2;have hfz6_3:=zB wp.out 3)|((with_reducible refine zk (f:=14) rfl ?_);refine yQ (some 7) rfl rfl Try.func14 (by kernel_rfl) rfl #[.agg #[.int .i64 a0_0, .int .i64 a0_1, .slice vi l0_2.length vk, .slice vp l0_3.length vl], .int .i64 8, .int .i64 14] rfl QX ?_;(with_reducible refine (zg.calls k a0_0 a0_1 _ _ l0_2 _ _ l0_3 8 14 t131 t132 t133 t136 _ ?side1 ?side2 ?side3 ?side4 A2.out).mono ?_);(case side1=>exact Qo (Kd.C_below wb.out HB.out));(case side2=>exact wd.out);(case side3=>exact Qo (Kd.C_below vw.out HB.out));(case side4=>exact wg.out);rintro e w7 ⟨v134,v137,rfl,ho0,ho1,hb⟩;refine ⟨_,rfl,?_⟩;have n0_:=zA.mk (Kd.R_lower (Kd.R_newM (M:=fun k_=>(w.heap.size≤k_)) ho0 (zE (Qe GE129 GE130)) (fun k_ h_=>h_)) (zE (Qe GE129 GE130)));have n1_:=zA.mk (Kd.N_lower (Kd.N_mono (ok':=fun k_=>(w.heap.size≤k_)∧some k_≠(v134:Value).ownBlock∧k_≠Vc∧k_≠wy) (Kd.S_N (Kd.S_bound (Kd.S_apart' ho1 (Kd.R_typed ho0) (by decide)))) (fun k_ hk_=>⟨(Nat.le_trans (zE (Qe GE129 GE130)) hk_.2.1),hk_.1.2,(Kd.freshB (g:=Vc) (Qi wp) k_ hk_.2.1),(Kd.freshB (g:=wy) (Qi wB) k_ hk_.2.1)⟩)) (zE (Qe GE129 GE130)));have n2_:=zA.mk (ze (g:=Vc) (Qi wp) hb);have n3_:=zA.mk (ze (g:=wy) (Qi wB) hb);have n4_:=zA.mk (zH (Qe GE129 GE130) hb);clear wp wB HB;have HO135:=n0_;have HO138:=n1_;have wp:=n2_;have wB:=n3_;have HB:=n4_;clear n0_ n1_ n2_ n3_ n4_;(try clear hb ho0);(try clear ho1))|((with_reducible refine yB (N:=3) rfl ?_);refine yH ?hg (N:=3) ?hd (cs:= #[.int .i64 0, .int .i64 0, .slice none 0 0, .slice none 0 0]) (t:=25) ?hr ?_;(case hd=>rfl);(case hg=>rfl);(case hr=>exact Qm);intro wE hg w8 hbox hb;have n0_:=zA.mk (Kd.R_below (Qh HO135) hb);have n1_:=zA.mk (Kd.N_below (Kd.N_elderB (Qk HO138) wE (Nat.le_of_eq hg.symm)) hb);have n2_:=zA.mk (ze (g:=Vc) (Qi wp) hb);have n3_:=zA.mk (ze (g:=wy) (Qi wB) hb);have n4_:=zA.mk (zH (Qe GE129 GE130) hb);have n5_:=zA.mk (hbox);have n6_:=zA.mk ((by rw [hg];exact (zE (Qe GE129 GE130)):w.heap.size≤wE));have n7_:=zA.mk ((by rw [hg];exact (zE (Qe GE129 GE130)):w.heap.size≤wE));have n8_:=zA.mk ((by rw [hg];exact Nat.ne_of_lt (yG (g:=Vc) (Qi wp)):Vc≠wE));have n9_:=zA.mk ((by rw [hg];exact Nat.ne_of_gt (yG (g:=Vc) (Qi wp)):wE≠Vc));have n10_:=zA.mk ((by rw [hg];exact Nat.ne_of_lt (yG (g:=wy) (Qi wB)):wy≠wE));have n11_:=zA.mk ((by rw [hg];exact Nat.ne_of_gt (yG (g:=wy) (Qi wB)):wE≠wy));clear HO135 HO138 wp wB HB;have HO135:=n0_;have HO138:=n1_;have wp:=n2_;have wB:=n3_;have HB:=n4_;have vV:=n5_;have GW139:=n6_;have GE139:=n7_;have NB129_139:=n8_;have NB139_129:=n9_;have NB130_139:=n10_;have NB139_130:=n11_;clear n0_ n1_ n2_ n3_ n4_ n5_ n6_ n7_ n8_ n9_ n10_ n11_ hb hbox hg;have hnb9:=NB139_129.out;have hnc9:=NB129_139.out;have hnb10:=NB139_130.out;have hnc10:=NB130_139.out;have wl:=Qn vV 0 rfl;have wm:=Qn vV 1 rfl;have wH:=Qn vV 2 rfl;have wI:=Qn vV 3 rfl;have wn:=zB vV.out 0;have wo:=zB vV.out 1;have wV:=zB vV.out 2;have wW:=zB vV.out 3;obtain ⟨Ao12,co12,eo12⟩:=Kd.R_slice HO135.out;subst eo12;obtain ⟨Ao13,co13,eo13⟩:=Kd.N_slice HO138.out;subst eo13))
 go_loopg [4] k (fun kq v4 w'=>∃(x4_1:Int) (x140003_1:List (S45)) (u140003:Value),v4= .int .i64 x4_1∧zA (zj.l0 kq x4_1 t131 t132 t133 x140003_1=some (r1,r2,r3,r4))∧zA (kq≤k)∧zA (Kd.R (Kd.int .i64) 3 w' w.heap.size (fun k_=>(w.heap.size≤k_)) (.slice Ao12 t133.length co12) t133)∧zA (Kd.N k45 45 w' w.heap.size (fun k_=>(w.heap.size≤k_)∧some k_≠((.slice Ao12 t133.length co12):Value).ownBlock∧k_≠Vc∧k_≠wy∧k_≠wE) u140003 x140003_1)∧zA (w'.heap[Vc]? =some (.cells #[.int .i64 a0_0, .int .i64 a0_1,(.slice vi l0_2.length vk),(.slice vp l0_3.length vl)] 25 (0,0)))∧zA (w'.heap[wy]? =some (.cells #[.int .i64 0, .int .i64 0,(.slice none 0 0),(.slice none 0 0)] 25 (0,0)))∧zA (w'.heap[wE]? =some (.cells #[.int .i64 t131, .int .i64 t132,(.slice Ao12 t133.length co12),u140003] 25 (0,0)))∧zA (Below w.heap.size w w'))
 case atStart=>exact ⟨(0),(t136),(.slice Ao13 t136.length co13),Zb,H',⟨Nat.le_refl _⟩,⟨by (with_reducible repeat (first|apply Kd.R_alloc|apply Kd.R_drewN|apply Kd.R_drew));exact Kd.R_mono (Kd.R_far (p:=⟨wE,3,none⟩) (Kd.R_far (p:=⟨wE,2,none⟩) (Kd.R_far (p:=⟨wE,1,none⟩) (Kd.R_far (p:=⟨wE,0,none⟩) (Kd.R_types HO135.out vV.out (by decide)) (fun _ hk=>hk.2) (.int .i64 t131)) (fun _ hk=>hk.2) (.int .i64 t132)) (fun _ hk=>hk.2) (.slice Ao12 t133.length co12)) (fun _ hk=>hk.2) (.slice Ao13 t136.length co13)) (fun _ hk=>hk.1.1)⟩,⟨by (with_reducible repeat (first|apply Kd.N_alloc|apply Kd.N_drewN|apply Kd.N_drew));exact Kd.N_mono (Kd.N_far (p:=⟨wE,3,none⟩) (Kd.N_far (p:=⟨wE,2,none⟩) (Kd.N_far (p:=⟨wE,1,none⟩) (Kd.N_far (p:=⟨wE,0,none⟩) (Kd.N_mono HO138.out (fun k_ hk=>(⟨hk,hk.2⟩:_∧k_≠wE))) (fun _ hk=>hk.2) (.int .i64 t131)) (fun _ hk=>hk.2) (.int .i64 t132)) (fun _ hk=>hk.2) (.slice Ao12 t133.length co12)) (fun _ hk=>hk.2) (.slice Ao13 t136.length co13)) (fun _ hk=>⟨hk.1.1.1,⟨hk.1.1.2.1,⟨hk.1.1.2.2.1,⟨hk.1.1.2.2.2,hk.1.2⟩⟩⟩⟩)⟩,⟨by (with_reducible repeat (first|refine zO ?_ _|refine zQ ?_|refine zM ?_ _));refine yJ ?_ NB129_139.out _;(with_reducible repeat (first|refine zO ?_ _|refine zQ ?_|refine zM ?_ _));refine yJ ?_ NB129_139.out _;(with_reducible repeat (first|refine zO ?_ _|refine zQ ?_|refine zM ?_ _));refine yJ ?_ NB129_139.out _;(with_reducible repeat (first|refine zO ?_ _|refine zQ ?_|refine zM ?_ _));refine yJ ?_ NB129_139.out _;(with_reducible repeat (first|refine zO ?_ _|refine zQ ?_|refine zM ?_ _));exact wp.out⟩,⟨by (with_reducible repeat (first|refine zO ?_ _|refine zQ ?_|refine zM ?_ _));refine yJ ?_ NB130_139.out _;(with_reducible repeat (first|refine zO ?_ _|refine zQ ?_|refine zM ?_ _));refine yJ ?_ NB130_139.out _;(with_reducible repeat (first|refine zO ?_ _|refine zQ ?_|refine zM ?_ _));refine yJ ?_ NB130_139.out _;(with_reducible repeat (first|refine zO ?_ _|refine zQ ?_|refine zM ?_ _));refine yJ ?_ NB130_139.out _;(with_reducible repeat (first|refine zO ?_ _|refine zQ ?_|refine zM ?_ _));exact wB.out⟩,⟨by (with_reducible repeat (first|refine zO ?_ _|refine zQ ?_|refine zM ?_ _));refine yU (cs:= #[.int .i64 t131, .int .i64 t132, .slice Ao12 t133.length co12, .slice none 0 0]) ?_ 3 _ rfl;(with_reducible repeat (first|refine zO ?_ _|refine zQ ?_|refine zM ?_ _));refine yU (cs:= #[.int .i64 t131, .int .i64 t132, .slice none 0 0, .slice none 0 0]) ?_ 2 _ rfl;(with_reducible repeat (first|refine zO ?_ _|refine zQ ?_|refine zM ?_ _));refine yU (cs:= #[.int .i64 t131, .int .i64 0, .slice none 0 0, .slice none 0 0]) ?_ 1 _ rfl;(with_reducible repeat (first|refine zO ?_ _|refine zQ ?_|refine zM ?_ _));refine yU (cs:= #[.int .i64 0, .int .i64 0, .slice none 0 0, .slice none 0 0]) ?_ 0 _ rfl;(with_reducible repeat (first|refine zO ?_ _|refine zQ ?_|refine zM ?_ _));exact vV.out⟩,⟨by repeat (first|(with_reducible first|exact HB.out|apply zG|apply zC|apply zF|refine zK ?_ GE129.out|refine zK ?_ GE130.out|refine zK ?_ GE139.out)|exact HB.out)⟩⟩
 case round=>
  clear H';(try clear c1);(try clear p2);(try clear c5);(try clear c9);(try clear c10);(try clear wl);(try clear wm);(try clear wH);(try clear wI);(try clear hcz6_0);(try clear hcz6_1);(try clear hcz6_2);(try clear hcz6_3);(try clear wn);(try clear wo);(try clear wV);(try clear wW);(try clear hfz6_0);(try clear hfz6_1);(try clear hfz6_2);(try clear hfz6_3);obtain ⟨x4_1,x140003_1,u140003,rfl,HA,HK1,HO_140002,HO_140003,wp,wB,vV,HB⟩:=hrel;cases gk with
  | zero=>exact absurd HA.out (by simp [zj.l0])
  | succ k1=>
   have H:=HA.out;clear HA;simp only [zj.l0] at H
   by_cases c14:x4_1 < (x140003_1.length:Int)
   ·rw [if_pos c14] at H
    have c14b0:=decide_eq_true c14;clear c14
    by_cases c15:0≤x4_1
    ·rw [if_pos c15] at H
     have c15b0:=decide_eq_true c15;clear c15;obtain ⟨ji16,hji16⟩:∃j_:Int,(mn (((zD x140003_1 x4_1).f1).length:Int) 4)=j_:=⟨_,rfl⟩
     replace H:(if 0≤(ji16) then (if (ji16)≤(((zD x140003_1 x4_1).f1).length:Int) then (zj.l0 k1 (wrap64 (x4_1 + 1)) t131 t132 t133 (x140003_1.set (x4_1:Int).toNat (⟨(zD x140003_1 x4_1).f0,(((zD x140003_1 x4_1).f1).take ((ji16):Int).toNat)⟩:S45))) else (none)) else (none))=some (r1,r2,r3,r4):=by first|(rw [hji16] at H;exact H)|(simp only [hji16] at H⊢;exact H)
     have hji16_:(if 4 < (((zD x140003_1 x4_1).f1).length:Int) then 4 else (((zD x140003_1 x4_1).f1).length:Int))=ji16:=hji16
     by_cases c17:0≤(ji16)
     ·rw [if_pos c17] at H
      have c17b0:=eq_true c17;have c17b1:=decide_eq_true c17;clear c17
      by_cases c18:(ji16)≤(((zD x140003_1 x4_1).f1).length:Int)
      ·rw [if_pos c18] at H
       have c18b0:=eq_true c18;have c18b1:=decide_eq_true c18;clear c18;obtain ⟨y141,hy141⟩:∃y_:List (S51),y_=(((zD x140003_1 x4_1).f1).take ((ji16):Int).toNat):=⟨_,rfl⟩;replace H:(zj.l0 k1 (wrap64 (x4_1 + 1)) t131 t132 t133 (x140003_1.set (x4_1:Int).toNat (⟨(zD x140003_1 x4_1).f0,y141⟩:S45)))=some (r1,r2,r3,r4):=Qb hy141 H;have Ny141:=zA.mk hy141;clear hy141;obtain ⟨y146,hy146⟩:∃y_:List (S45),y_=(x140003_1.set (x4_1:Int).toNat (⟨(zD x140003_1 x4_1).f0,y141⟩:S45)):=⟨_,rfl⟩;replace H:(zj.l0 k1 (wrap64 (x4_1 + 1)) t131 t132 t133 y146)=some (r1,r2,r3,r4):=Qb hy146 H;have Ny146:=zA.mk hy146;clear hy146;have H':=zA.mk H;clear H;have hnb20:=NB139_129.out;have hnc20:=NB129_139.out;have hnb21:=NB139_130.out;have hnc21:=NB130_139.out;have hcz22_0:=Qn vV 0 rfl;have hcz22_1:=Qn vV 1 rfl;have hcz22_2:=Qn vV 2 rfl;have hcz22_3:=Qn vV 3 rfl;have hfz22_0:=zB vV.out 0;have hfz22_1:=zB vV.out 1;have hfz22_2:=zB vV.out 2;have hfz22_3:=zB vV.out 3;obtain ⟨Ao23,co23,eo23⟩:=Kd.N_slice HO_140003.out;subst eo23;have p140:0≤(x4_1:Int):=Qa;have q140:x4_1 < (x140003_1.length:Int):=Qa;obtain ⟨ad140,A140_1,c140_1,e140,hx140_0,hx140_1,hl140_1,hi140_1⟩:=yv (Kd.N_reads' HO_140003.out).2.2 x4_1 p140 q140;cases e140;obtain ⟨ce140,hce140,hMe140,hcc140⟩:=Kd.N_get HO_140003.out z45 x4_1 p140 (by first|exact q140|exact Qa|(have e_:=(Kd.N_reads' HO_140003.out).1;omega));obtain ⟨ua140_1,uc140_1,rfl,ul140_1,ge140_1⟩:=qj hMe140;have hv140_1:=hcc140 1 _ rfl;rw [Yi _ _ 1 (by omega)] at hv140_1;replace hv140_1:=Option.some.inj (hv140_1.symm.trans hx140_1)
       injection hv140_1 with hva_ hvn_ hvc_
       rw [hva_] at ge140_1;rw [hvc_] at ul140_1;have HL140_1:=zA.mk (show Kd.V k51 51 _ w.heap.size _ _ ((zD x140003_1 x4_1).f1) from Kd.V_mk ul140_1 ge140_1);clear hva_ hvn_ hvc_ ge140_1 ul140_1 hcc140 hce140;have HR140_1:=zA.mk hi140_1;have HC140_1:=zA.mk hl140_1;clear hi140_1 hl140_1;replace p140:=eq_true p140;replace q140:=eq_true q140
       try go_wp2
       have n0_:=zA.mk (Kd.R_drew HO_140002.out);have n1_:=zA.mk (Kd.N_drew HO_140003.out);have n2_:=zA.mk (Kd.V_drew HL140_1.out);have n3_:=zA.mk (zQ wp.out);have n4_:=zA.mk (zQ wB.out);have n5_:=zA.mk (zQ vV.out);have n6_:=zA.mk (Kd.C_drew HR140_1.out);have n7_:=zA.mk (zF HB.out);clear HO_140002 HO_140003 HL140_1 wp wB vV HR140_1 HB;have HO_140002:=n0_;have HO_140003:=n1_;have HL140_1:=n2_;have wp:=n3_;have wB:=n4_;have vV:=n5_;have HR140_1:=n6_;have HB:=n7_;clear n0_ n1_ n2_ n3_ n4_ n5_ n6_ n7_;have q25:((ji16):Int)≤((((zD x140003_1 x4_1).f1).length:Int):Int):=Qa;obtain ⟨i025,hi025,_,hsz25,_⟩:=info_parts info51;have hroom25:((zD x140003_1 x4_1).f1).length≤c140_1:=HC140_1.out;have hC25:Kd.F k51 _ _ A140_1 ((zD x140003_1 x4_1).f1).length ((zD x140003_1 x4_1).f1):=(Kd.V_at (base:=w.heap.size) HL140_1.out).2.2;have hcut25:=cut_to (P:=Try.prog) 43 51 .i64 Try.underlying43 hi025 A140_1 ((zD x140003_1 x4_1).f1).length c140_1 (ji16) (Qa) q25 hroom25;have hr25:=Kd.F_take (m:=((ji16):Int).toNat) hC25 (by omega);have hy25:y141.length=((ji16):Int).toNat:=(by rw [Ny141.out,List.length_take];omega);rw [←Ny141.out] at hr25;rw [←hy25] at hcut25;have HO145:=zA.mk (show Kd.V k51 51 _ w.heap.size _ (.slice A140_1 y141.length c140_1) y141 from Kd.V_mk (by omega) hr25);have HC145:=zA.mk (show y141.length≤c140_1 from by omega);clear hr25 hC25 hroom25 hi025 hsz25;have KY25:=zA.mk hy25;clear hy25;replace q25:=eq_true q25;have p19:0≤(x4_1:Int):=Qa;have q19:(x4_1:Int) < ((x140003_1.length:Int):Int):=Qa;obtain ⟨go19,co19,eo19,gb19,gl19,cl19,HG19⟩:=Kd.N_form HO_140003.out (by omega)
       (first|cases eo19|(injection eo19 with ea_ en_ ec_;(first|subst ea_|(injection ea_ with ea_;subst ea_));subst ec_;clear en_))
       have GB19:=zA.mk gb19;have GG19:=zA.mk HG19;clear gb19 gl19 HG19
       (first|simp only [ZC] at hx140_0|skip)
       (first|simp only [ZC] at hx140_1|skip)
       obtain ⟨ce19,hcl19,hM19,hcc19,hfr19⟩:=Kd.N_elem HO_140003.out z45 (x4_1:Int) p19 q19;obtain ⟨ua19_1,uc19_1,rfl,ul19_1,ge19_1⟩:=qj hM19;have hx19_0:World.cell? _ ⟨go19,(x4_1:Int).toNat * 2,none⟩=some (.int .i64 ((zD x140003_1 x4_1).f0)):=hcc19 0 _ rfl;have hx19_1:World.cell? _ ⟨go19,(x4_1:Int).toNat * 2 + 1,none⟩=some (.slice ua19_1 ((zD x140003_1 x4_1).f1).length uc19_1):=hcc19 1 _ rfl;have hf19_0:World.frozen? _ ⟨go19,(x4_1:Int).toNat * 2,none⟩=false:=hfr19 0;have hf19_1:World.frozen? _ ⟨go19,(x4_1:Int).toNat * 2 + 1,none⟩=false:=hfr19 1;clear hcl19 hcc19 hfr19 hM19;replace p19:=eq_true p19;replace q19:=eq_true q19;have HX26:=zA.mk (show Kd.N k45 45 _ w.heap.size (fun k_=>(w.heap.size≤k_)∧some k_≠(.slice Ao12 t133.length co12:Value).ownBlock∧k_≠Vc∧k_≠wy∧k_≠wE) (.slice (some ⟨go19,0,none⟩) x140003_1.length co23) x140003_1 from (Kd.N_mono (HO_140003.out) (fun k_ hk=>⟨hk.1,⟨hk.2.1,⟨hk.2.2.1,⟨hk.2.2.2.1,hk.2.2.2.2⟩⟩⟩⟩)));obtain ⟨ce26,hcl26,hM26,hcc26,hfr26⟩:=Kd.N_elem HX26.out z45 (x4_1:Int) (Qa) QS;obtain ⟨ua26_1,uc26_1,rfl,ul26_1,ge26_1⟩:=qj hM26;have HP26:=(Kd.N_seg HX26.out (x4_1:Int) (Qa) QS (seg:= [.slice A140_1 y141.length c140_1]) (j:=1) hcl26 hcc26 (show 2≤2 from by decide) (x':=(⟨(zD x140003_1 x4_1).f0,y141⟩:S45)) (k45_mkF _ _ (⟨(zD x140003_1 x4_1).f0,y141⟩:S45) (Kd.V_reads' (Kd.V_mono (ok':=(fun k_=>((fun k_=>(w.heap.size≤k_)∧some k_≠(.slice Ao12 t133.length co12:Value).ownBlock∧k_≠Vc∧k_≠wy∧k_≠wE)) k_∧k_≠go19)) (HO145.out) (fun k_ hk=>⟨⟨hk.1.1,⟨hk.1.2.1,⟨hk.1.2.2.1,⟨hk.1.2.2.2.1,hk.1.2.2.2.2⟩⟩⟩⟩,fun e_=>(hk.2) (by rw [e_];rfl)⟩))).2.1 (Kd.V_F (Kd.V_mono (ok':=(fun k_=>((fun k_=>(w.heap.size≤k_)∧some k_≠(.slice Ao12 t133.length co12:Value).ownBlock∧k_≠Vc∧k_≠wy∧k_≠wE)) k_∧k_≠go19)) (HO145.out) (fun k_ hk=>⟨⟨hk.1.1,⟨hk.1.2.1,⟨hk.1.2.2.1,⟨hk.1.2.2.2.1,hk.1.2.2.2.2⟩⟩⟩⟩,fun e_=>(hk.2) (by rw [e_];rfl)⟩)))) (fun _ hk=>hk)).1;rw [←Ny146.out] at HP26;have HQ26:=zA.mk HP26;clear hcl26 hcc26 hfr26 hM26 HP26;refine Zr (n:=11) (S:=fun w'=>w'.cell? ⟨wE,0,none⟩=some (.int .i64 t131)∧w'.cell? ⟨wE,1,none⟩=some (.int .i64 t132)∧w'.cell? ⟨wE,2,none⟩=some (.slice Ao12 t133.length co12)∧w'.cell? ⟨wE,3,none⟩=some (.slice (some ⟨go19,0,none⟩) x140003_1.length co23)) (ds:= [10]) #[false,false,false,false,false,false,false,false,false,false,false] (by kernel_rfl) rfl rfl ⟨(zR vV.out 0).trans rfl,(zR vV.out 1).trans rfl,(zR vV.out 2).trans rfl,(zR vV.out 3).trans rfl⟩ (fun hHeld=> ?_);refine ZJ zj.tab6 zj.bits6 (fun HT_ HW_=> ?_)
       generalize wr.drew=w24 at HO_140002 HO_140003 HL140_1 wp wB vV HR140_1 HB GG19 HO145 HQ26 hf19_0 hf19_1 hx140_0 hx140_1 hx19_0 hx19_1 hHeld⊢
       refine yM (i:=0) (N:=some 21) (v:= ?_) (a':= ?_) #[true,false,false,false,false,false,false,false,false,false,false] rfl rfl (yD HT_.out (by kernel_rfl)) (fun _ _ _ h=>h) (Or.inl ⟨by rfl,?_⟩) ?_ ?_;rotate_left
       ·intro w'
        go_simp
        with_reducible rfl
       rotate_left
       ·simp only [Act.put,List.setIfInBounds_toArray,List.set_cons_zero,List.set_cons_succ,zx,zy]
        rfl
       refine yM (i:=2) (N:=some 23) (v:= ?_) (a':= ?_) #[true,false,true,false,false,false,false,false,false,false,false] rfl rfl (yD HT_.out (by kernel_rfl)) (fun _ _ _ h=>h) (Or.inl ⟨by rfl,?_⟩) ?_ ?_;rotate_left
       ·intro w'
        go_simp
        with_reducible rfl
       rotate_left
       ·simp only [Act.put,List.setIfInBounds_toArray,List.set_cons_zero,List.set_cons_succ,zx,zy]
        rfl
       refine yM (i:=3) (N:=some 24) (v:= ?_) (a':= ?_) #[true,false,true,true,false,false,false,false,false,false,false] rfl rfl (yD HT_.out (by kernel_rfl)) (fun _ _ _ h=>h) (Or.inl ⟨by rfl,?_⟩) ?_ ?_;rotate_left
       ·intro w'
        go_simp
        with_reducible rfl
       rotate_left
       ·simp only [Act.put,List.setIfInBounds_toArray,List.set_cons_zero,List.set_cons_succ,zx,zy]
        rfl
       refine yM (i:=4) (N:=some 25) (v:= ?_) (a':= ?_) #[true,false,true,true,true,false,false,false,false,false,false] rfl rfl (yD HT_.out (by kernel_rfl)) (fun _ _ _ h=>h) (Or.inl ⟨by rfl,?_⟩) ?_ ?_;rotate_left
       ·intro w'
        go_simp
        with_reducible rfl
       rotate_left
       ·simp only [Act.put,List.setIfInBounds_toArray,List.set_cons_zero,List.set_cons_succ,zx,zy]
        rfl
       refine yM (i:=5) (N:=some 26) (v:= ?_) (a':= ?_) #[true,false,true,true,true,true,false,false,false,false,false] rfl rfl (yD HT_.out (by kernel_rfl)) (fun _ _ _ h=>h) (Or.inl ⟨by rfl,?_⟩) ?_ ?_;rotate_left
       ·intro w'
        go_simp
        with_reducible rfl
       rotate_left
       ·simp only [Act.put,List.setIfInBounds_toArray,List.set_cons_zero,List.set_cons_succ,zx,zy]
        rfl
       refine yM (i:=6) (N:=some 27) (v:= ?_) (a':= ?_) #[true,false,true,true,true,true,true,false,false,false,false] rfl rfl (yD HT_.out (by kernel_rfl)) (fun _ _ _ h=>h) (Or.inl ⟨by rfl,?_⟩) ?_ ?_;rotate_left
       ·intro w'
        go_simp
        with_reducible rfl
       rotate_left
       ·simp only [Act.put,List.setIfInBounds_toArray,List.set_cons_zero,List.set_cons_succ,zx,zy]
        rfl
       refine yM (i:=7) (N:=some 28) (v:= ?_) (a':= ?_) #[true,false,true,true,true,true,true,true,false,false,false] rfl rfl (yD HT_.out (by kernel_rfl)) (fun _ _ _ h=>h) (Or.inl ⟨by rfl,?_⟩) ?_ ?_;rotate_left
       ·intro w'
        go_simp
        with_reducible rfl
       rotate_left
       ·simp only [Act.put,List.setIfInBounds_toArray,List.set_cons_zero,List.set_cons_succ,zx,zy]
        rfl
       refine take_ (i:=1) (N:=some 22) (v:= ?_) (a':= ?_) #[true,true,true,true,true,true,true,true,false,false,false] rfl rfl (yb HT_.out HW_.out (by kernel_rfl)) (fun _ _ _ h=>h) (Or.inl ⟨by rfl,?_⟩) hHeld ?_ ?_;rotate_left
       ·rintro w' ⟨s0,s1,s2,s3⟩
        go_simp
        with_reducible rfl
       rotate_left
       ·simp only [Act.put,List.setIfInBounds_toArray,List.set_cons_zero,List.set_cons_succ,zx,zy]
        rfl
       refine yM (i:=8) (N:=some 29) (v:= ?_) (a':= ?_) #[true,true,true,true,true,true,true,true,true,false,false] rfl rfl (yD HT_.out (by kernel_rfl)) (fun _ _ _ h=>h) (Or.inl ⟨by rfl,?_⟩) ?_ ?_;rotate_left
       ·intro w'
        go_simp
        with_reducible rfl
       rotate_left
       ·simp only [Act.put,List.setIfInBounds_toArray,List.set_cons_zero,List.set_cons_succ,zx,zy]
        rfl
       refine yM (i:=9) (N:=some 30) (v:= ?_) (a':= ?_) #[true,true,true,true,true,true,true,true,true,true,false] rfl rfl (yD HT_.out (by kernel_rfl)) (fun _ _ _ h=>h) (Or.inl ⟨by rfl,?_⟩) ?_ ?_;rotate_left
       ·intro w'
        go_simp
        with_reducible rfl
       rotate_left
       ·simp only [Act.put,List.setIfInBounds_toArray,List.set_cons_zero,List.set_cons_succ,zx,zy]
        rfl
       refine last_ (i:=10) (N:=none) #[true,true,true,true,true,true,true,true,true,true,true] rfl rfl (ym HT_.out (by kernel_rfl)) (by decide) (fun K hK=> ?_);refine qq (w1:= ?_) (by rfl) rfl ?_ ?_;rotate_left
       ·go_simp
        rfl
       refine hK.out _ _ ?_;clear hK K;refine YR (Ze HT_.out (by kernel_rfl)) ?_
       try go_wp2
       go_roundg k1
       case measure=>have:=HK1.out;omega
       case rel=>exact ⟨(wrap64 (x4_1 + 1)),(y146),(.slice (some ⟨go19,0,none⟩) x140003_1.length co23),Zb,H',⟨by have:=HK1.out;omega⟩,⟨by (with_reducible repeat (first|apply Kd.R_alloc|apply Kd.R_drewN|apply Kd.R_drew));exact Kd.R_mono (Kd.R_far (p:=⟨go19,(x4_1:Int).toNat * 2 + 1,none⟩) (Kd.R_types HO_140002.out GG19.out (by decide)) (fun _ hk=>hk.2) (.slice A140_1 y141.length c140_1)) (fun _ hk=>hk.1)⟩,⟨Qk HQ26⟩,⟨by (with_reducible repeat (first|refine zO ?_ _|refine zQ ?_|refine zM ?_ _));refine yJ ?_ (by have h_:=Kd.N_away HX26.out (fun _ hk=>hk.2.2.1);intro e_;exact h_ (by rw [e_];rfl)) _;(with_reducible repeat (first|refine zO ?_ _|refine zQ ?_|refine zM ?_ _));exact wp.out⟩,⟨by (with_reducible repeat (first|refine zO ?_ _|refine zQ ?_|refine zM ?_ _));refine yJ ?_ (by have h_:=Kd.N_away HX26.out (fun _ hk=>hk.2.2.2.1);intro e_;exact h_ (by rw [e_];rfl)) _;(with_reducible repeat (first|refine zO ?_ _|refine zQ ?_|refine zM ?_ _));exact wB.out⟩,⟨by (with_reducible repeat (first|refine zO ?_ _|refine zQ ?_|refine zM ?_ _));refine yJ ?_ (by have h_:=Kd.N_away HX26.out (fun _ hk=>hk.2.2.2.2);intro e_;exact h_ (by rw [e_];rfl)) _;(with_reducible repeat (first|refine zO ?_ _|refine zQ ?_|refine zM ?_ _));exact vV.out⟩,⟨by repeat (first|(with_reducible first|exact HB.out|apply zG|apply zC|apply zF|refine zK ?_ GB19.out|refine zK ?_ GE129.out|refine zK ?_ GE130.out|refine zK ?_ GE139.out)|exact HB.out)⟩⟩
      ·rw [if_neg c18] at H
       exact absurd H (by simp)
     ·rw [if_neg c17] at H
      exact absurd H (by simp)
    ·rw [if_neg c15] at H
     exact absurd H (by simp)
   ·rw [if_neg c14] at H
    have c14b0:=decide_eq_false c14;clear c14;simp only [Option.some.injEq,Prod.mk.injEq] at H;obtain ⟨rfl,rfl,rfl,rfl⟩:=H;have hnb27:=NB139_129.out;have hnc27:=NB129_139.out;have hnb28:=NB139_130.out;have hnc28:=NB130_139.out;have hcz29_0:=Qn vV 0 rfl;have hcz29_1:=Qn vV 1 rfl;have hcz29_2:=Qn vV 2 rfl;have hcz29_3:=Qn vV 3 rfl;have hfz29_0:=zB vV.out 0;have hfz29_1:=zB vV.out 1;have hfz29_2:=zB vV.out 2;have hfz29_3:=zB vV.out 3;obtain ⟨Ao30,co30,eo30⟩:=Kd.N_slice HO_140003.out;subst eo30;have hnb31:=NB130_129.out;have hnc31:=NB129_130.out;have hcz32_0:=Qn wB 0 rfl;have hcz32_1:=Qn wB 1 rfl;have hcz32_2:=Qn wB 2 rfl;have hcz32_3:=Qn wB 3 rfl;have hfz32_0:=zB wB.out 0;have hfz32_1:=zB wB.out 1;have hfz32_2:=zB wB.out 2;have hfz32_3:=zB wB.out 3
    go_wp2
    refine bodyPost_ret (results_cell_row rfl _ _ wy 25 #[.int .i64 t131, .int .i64 t132, .slice Ao12 t133.length co12, .slice Ao30 x140003_1.length co30] (0,0) _ rfl (by (with_reducible repeat (first|refine zO ?_ _|refine zQ ?_|refine zM ?_ _));refine yU (cs:= #[.int .i64 t131, .int .i64 t132, .slice Ao12 t133.length co12, .slice none 0 0]) ?_ 3 _ rfl;(with_reducible repeat (first|refine zO ?_ _|refine zQ ?_|refine zM ?_ _));refine yU (cs:= #[.int .i64 t131, .int .i64 t132, .slice none 0 0, .slice none 0 0]) ?_ 2 _ rfl;(with_reducible repeat (first|refine zO ?_ _|refine zQ ?_|refine zM ?_ _));refine yU (cs:= #[.int .i64 t131, .int .i64 0, .slice none 0 0, .slice none 0 0]) ?_ 1 _ rfl;(with_reducible repeat (first|refine zO ?_ _|refine zQ ?_|refine zM ?_ _));refine yU (cs:= #[.int .i64 0, .int .i64 0, .slice none 0 0, .slice none 0 0]) ?_ 0 _ rfl;(with_reducible repeat (first|refine zO ?_ _|refine zQ ?_|refine zM ?_ _));exact wB.out) Try.underlying25 rfl (by kernel_rfl)) rfl ?_
    exact ⟨_,_,by first|rfl|(simp [zS,zT] <;> rfl)|(simp [*,zS,zT] <;> rfl),by (with_reducible repeat (first|apply Kd.R_alloc|apply Kd.R_drewN|apply Kd.R_drew));exact Kd.R_mono (Kd.R_far (p:=⟨wy,3,none⟩) (Kd.R_far (p:=⟨wy,2,none⟩) (Kd.R_far (p:=⟨wy,1,none⟩) (Kd.R_far (p:=⟨wy,0,none⟩) (Kd.R_types HO_140002.out wB.out (by decide)) (fun _ hk=>hk.2) (.int .i64 t131)) (fun _ hk=>hk.2) (.int .i64 t132)) (fun _ hk=>hk.2) (.slice Ao12 t133.length co12)) (fun _ hk=>hk.2) (.slice Ao30 x140003_1.length co30)) (fun _ hk=>hk.1),by (with_reducible repeat (first|apply Kd.N_alloc|apply Kd.N_drewN|apply Kd.N_drew));exact Kd.N_mono (Kd.N_far (p:=⟨wy,3,none⟩) (Kd.N_far (p:=⟨wy,2,none⟩) (Kd.N_far (p:=⟨wy,1,none⟩) (Kd.N_far (p:=⟨wy,0,none⟩) (Kd.N_mono HO_140003.out (fun k_ hk=>(⟨hk,hk.2.2.2.1⟩:_∧k_≠wy))) (fun _ hk=>hk.2) (.int .i64 t131)) (fun _ hk=>hk.2) (.int .i64 t132)) (fun _ hk=>hk.2) (.slice Ao12 t133.length co12)) (fun _ hk=>hk.2) (.slice Ao30 x140003_1.length co30)) (fun _ hk=>⟨hk.1.1,hk.1.2.1⟩),by repeat (first|(with_reducible first|exact HB.out|apply zG|apply zC|apply zF|refine zK ?_ GE129.out|refine zK ?_ GE130.out|refine zK ?_ GE139.out)|exact HB.out)⟩
def YP.f (a0:ByteArray) (a1:ByteArray) (a2:Int):Option (ByteArray):=if (a0.size:Int)≥a2 then (if 0≤(mx a2 0) then (if (mx a2 0)≤(a0.size:Int) then (some (a0.extract 0 ((mx a2 0):Int).toNat)) else (none)) else (none)) else (if 0≤(mn (wrap64 (a2 - (a0.size:Int))) (a1.size:Int)) then (if (mn (wrap64 (a2 - (a0.size:Int))) (a1.size:Int))≤(a1.size:Int) then (if a0.size + (a1.extract 0 ((mn (wrap64 (a2 - (a0.size:Int))) (a1.size:Int)):Int).toNat).size≤9223372036854775807 then (some (a0 ++ (a1.extract 0 ((mn (wrap64 (a2 - (a0.size:Int))) (a1.size:Int)):Int).toNat))) else (none)) else (none)) else (none))
set_option maxHeartbeats 8000000 in
set_option maxRecDepth 100000 in
theorem YP.calls (a0:ByteArray) (a1:ByteArray) (a2:Int) (r:ByteArray) (w:World) (h:YP.f a0 a1 a2=some r) :
  Calls Try.prog 36 #[.string a0, .string a1, .int .i64 a2] w fun e w'=>e= .returned (.string r)∧Below w.heap.size w w':=by
 have HB:=zA.mk (Below.refl w.heap.size w);have H:(if (a0.size:Int)≥a2 then (if 0≤(mx a2 0) then (if (mx a2 0)≤(a0.size:Int) then (some (a0.extract 0 ((mx a2 0):Int).toNat)) else (none)) else (none)) else (if 0≤(mn (wrap64 (a2 - (a0.size:Int))) (a1.size:Int)) then (if (mn (wrap64 (a2 - (a0.size:Int))) (a1.size:Int))≤(a1.size:Int) then (if a0.size + (a1.extract 0 ((mn (wrap64 (a2 - (a0.size:Int))) (a1.size:Int)):Int).toNat).size≤9223372036854775807 then (some (a0 ++ (a1.extract 0 ((mn (wrap64 (a2 - (a0.size:Int))) (a1.size:Int)):Int).toNat))) else (none)) else (none)) else (none)))=some r:=h;clear h
 by_cases c4:(a0.size:Int)≥a2
 ·rw [if_pos c4] at H
  have c4b0:=decide_eq_true c4;clear c4;obtain ⟨ji5,hji5⟩:∃j_:Int,(mx a2 0)=j_:=⟨_,rfl⟩
  replace H:(if 0≤(ji5) then (if (ji5)≤(a0.size:Int) then (some (a0.extract 0 ((ji5):Int).toNat)) else (none)) else (none))=some r:=by first|(rw [hji5] at H;exact H)|(simp only [hji5] at H⊢;exact H)
  (try (have hji5l:0≤ji5:=by (rw [←hji5];unfold mx;(repeat' split) <;> omega)))
  (try (have hji5m:0≤ji5:=by omega))
  have hji5_:(if a2 < 0 then 0 else a2)=ji5:=hji5
  by_cases c6:0≤(ji5)
  ·rw [if_pos c6] at H
   have c6b0:=eq_true c6;have c6b1:=decide_eq_true c6;clear c6
   by_cases c7:(ji5)≤(a0.size:Int)
   ·rw [if_pos c7] at H
    have c7b0:=eq_true c7;have c7b1:=decide_eq_true c7;clear c7;obtain rfl:=Option.some.inj H
    go_enter Try.func36,Try.ntmps36
    go_wp2
    go_ret
    exact ⟨by first|rfl|(simp [zS,zT] <;> rfl)|(simp only [←hji5];first|rfl|(simp [zS,zT] <;> rfl))|(simp [*,zS,zT] <;> rfl),by repeat (first|(with_reducible first|exact HB.out|apply zG|apply zC|apply zF)|exact HB.out)⟩
   ·rw [if_neg c7] at H
    exact absurd H (by simp)
  ·rw [if_neg c6] at H
   exact absurd H (by simp)
 ·rw [if_neg c4] at H
  have c4b0:=decide_eq_false c4;clear c4;obtain ⟨ji8,hji8⟩:∃j_:Int,(mn (wrap64 (a2 - (a0.size:Int))) (a1.size:Int))=j_:=⟨_,rfl⟩
  replace H:(if 0≤(ji8) then (if (ji8)≤(a1.size:Int) then (if a0.size + (a1.extract 0 ((ji8):Int).toNat).size≤9223372036854775807 then (some (a0 ++ (a1.extract 0 ((ji8):Int).toNat))) else (none)) else (none)) else (none))=some r:=by first|(rw [hji8] at H;exact H)|(simp only [hji8] at H⊢;exact H)
  have hji8_:(if (a1.size:Int) < (wrap64 (a2 - (a0.size:Int))) then (a1.size:Int) else (wrap64 (a2 - (a0.size:Int))))=ji8:=hji8
  by_cases c9:0≤(ji8)
  ·rw [if_pos c9] at H
   have c9b0:=eq_true c9;have c9b1:=decide_eq_true c9;clear c9
   by_cases c10:(ji8)≤(a1.size:Int)
   ·rw [if_pos c10] at H
    have c10b0:=eq_true c10;have c10b1:=decide_eq_true c10;clear c10
    by_cases c11:a0.size + (a1.extract 0 ((ji8):Int).toNat).size≤9223372036854775807
    ·rw [if_pos c11] at H
     have c11b0:=eq_true c11;have c11b1:=decide_eq_true c11
     try have c11b2:(9223372036854775807 < a0.size + (a1.extract 0 ((ji8):Int).toNat).size)=False:=eq_false (Nat.not_lt.2 c11)
     obtain rfl:=Option.some.inj H
     go_enter Try.func36,Try.ntmps36
     go_wp2
     go_ret
     exact ⟨by first|rfl|(simp [zS,zT] <;> rfl)|(simp only [←hji8];first|rfl|(simp [zS,zT] <;> rfl))|(simp [*,zS,zT] <;> rfl),by repeat (first|(with_reducible first|exact HB.out|apply zG|apply zC|apply zF)|exact HB.out)⟩
    ·rw [if_neg c11] at H
     exact absurd H (by simp)
   ·rw [if_neg c10] at H
    exact absurd H (by simp)
  ·rw [if_neg c9] at H
   exact absurd H (by simp)
section
open Go.Sort Go.Plus
def zZ.keys (l:List ByteArray):List Txt:=l.map (·.data.toList)
def zZ.texts (l:List Txt):List ByteArray:=l.map fun t=>⟨t.toArray⟩
theorem zZ.enc_texts (l:List Txt):(zZ.texts l).map Value.string=l.map encStr:=by unfold zZ.texts;rw [List.map_map];rfl
theorem zZ.enc_keys (l:List ByteArray):l.map Value.string=(zZ.keys l).map encStr:=by
 unfold zZ.keys
 rw [List.map_map]
 exact List.map_congr_left fun x _=>by simp [encStr]
def zZ.f (l0:List ByteArray):Option (List ByteArray):=if l0.length * 16≤140737488355328 then some (zZ.texts (tset (zZ.keys l0))) else none
theorem zZ.add_at (b off j:Nat):(⟨b,off,none⟩:Addr).add j=⟨b,off + j,none⟩:=by unfold Addr.add;split <;> simp_all
theorem zZ.grow_none (w:World):grow w #[]=w:=by cases w;simp [grow]
theorem zZ.spot {w:World} {a:Addr} {v:Value} (h:w.cell? a=some v):a=⟨a.block,a.off,none⟩:=by
 obtain ⟨b,o,s⟩:=a;cases s with
 | none=>rfl
 | some s=>unfold World.cell? at h;split at h <;> simp at h
theorem zZ.own_cut {w:World} {base g cap m:Nat} {e:TypeId} {cur:Array Value} {ts:List Txt} (hbase:base≤g) (hb:w.heap[g]? =some (.cells cur e (0,0))) (h1:m≤cap) (h2:cap≤maxLen) (h3:cur.size=cap) (hm:ts.length=m) (h4:cur.toList.take m=ts.map encStr) :
  w.ownsRow base e 1 (.slice (some ⟨g,0,none⟩) m cap) m (ts.map encStr):=
 ⟨by simp [hm], .inr ⟨g,cap,cur,rfl,hbase,hb,h1,h2,by omega,by rw [Nat.mul_one];exact h4⟩⟩
set_option maxHeartbeats 8000000 in
set_option maxRecDepth 100000 in
theorem zZ.calls (A0:Option Addr) (c0:Nat) (l0:List ByteArray) (r:List ByteArray) (w:World) (hr0:Kd.C Kd.string w A0 l0.length l0) (hc0:l0.length≤c0) (h:zZ.f l0=some r) :
  Calls Try.prog 37 #[.slice A0 l0.length c0] w fun e w'=>∃v0_:Value,e= .returned v0_∧Kd.R Kd.string 9 w' w.heap.size (fun _=>True) v0_ r∧Below w.heap.size w w':=by
 unfold zZ.f at h
 split at h
 case isFalse=>cases h
 rename_i hsz
 obtain rfl:=Option.some.inj h;clear h
 rcases Nat.eq_zero_or_pos l0.length with h0|h0
 ·obtain rfl:l0= []:=List.eq_nil_of_length_eq_zero h0
  have hcl:Calls Try.prog 59 #[.slice A0 0 c0] w fun e w'=>∃A1 c1,e= .returned (.slice A1 0 c1)∧Kd.R Kd.string 9 w' w.heap.size (fun _=>True) (.slice A1 0 c1) []∧Below w.heap.size w w':=by
   cases A0 with
   | none=>exact (Try.slices_Clone_string_nil 0 c0 w).mono fun e w' ⟨he,hw⟩=>⟨none,0,he,hw▸Kd.R_nil _ _ _ _ _,hw▸Below.refl _ _⟩
   | some a=>
    refine (Try.slices_Clone_string_zero a c0 w).mono fun e w' ⟨v',he,ho,_,hb⟩=> ?_
    have hR:Kd.R Kd.string 9 w' w.heap.size (fun _=>True) v' []:=Kd.R_of_own (enc:=Value.string) (h1:=fun _=>rfl) ho (fun _ _=>trivial);obtain ⟨A1,c1,rfl⟩:=Kd.R_slice hR
    exact ⟨A1,c1,he,hR,hb⟩
  have hR0:zZ.texts (tset (zZ.keys []))= []:=by rw [show zZ.keys []= [] from rfl,Yf qC];rfl
  rw [hR0]
  go_enter Try.func37,Try.ntmps37
  go_wp2_with (first
   | (go_at_call 59;refine hcl.mono ?_;rintro e w1 ⟨A1,c1,rfl,hR,hb⟩)
   | (go_at_call 60;refine (Try.slices_Sort_string_none A1 c1 _).mono ?_;rintro e w2 ⟨rfl,rfl⟩)
   | (go_at_call 61;refine (Try.slices_Compact_string_empty A1 c1 _).mono ?_;rintro e w3 ⟨rfl,rfl⟩)
   | go_in)
  go_ret
  exact ⟨_,rfl,hR,hb⟩
 ·obtain ⟨ad,rfl,hcells⟩:=(Kd.reads_of_C (enc:=Value.string) (d:=ByteArray.empty) (h1:=fun _=>rfl) hr0).2.2 h0
  have hk:(zZ.keys l0).length=l0.length:=by simp [zZ.keys]
  have hsp:=zZ.spot (hcells 0 h0)
  obtain ⟨b,off,rfl⟩:∃b off,ad=⟨b,off,none⟩:=by
   have e:ad.add 0=ad:=by simp [Addr.add]
   rw [e] at hsp
   exact ⟨_,_,hsp⟩
  have hc:∀j,j < l0.length→w.cell? ⟨b,off + j,none⟩=some (.string (l0.getD j ByteArray.empty)):=fun j hj=>by
   have:=hcells j hj;rwa [zZ.add_at] at this
  have hlen:l0.length≤8796093022208:=by omega
  have hcl:Calls Try.prog 59 #[.slice (some ⟨b,off,none⟩) l0.length c0] w fun e w'=>∃g cap cur,e= .returned (.slice (some ⟨g,0,none⟩) l0.length cap)∧w.heap.size≤g∧w'.heap[g]? =some (.cells cur 9 (0,0))∧l0.length≤cap∧cap≤maxLen∧cur.size=cap∧cur.toList.take l0.length=(zZ.keys l0).map encStr∧Below w.heap.size w w':=by
   refine (Try.slices_Clone_string b off l0.length c0 l0 w (Nat.le_refl _) hsz hc).mono fun e w' ⟨v',he,ho,hne,hb⟩=> ?_
   rcases ho.2 with ⟨hnil,_⟩|⟨g,cap,cur,rfl,hbase,hbk,h1,h2,h3,h4⟩
   ·exact absurd hnil hne
   ·refine ⟨g,cap,cur,he,hbase,hbk,h1,h2,by omega,?_,hb⟩
    rw [Nat.mul_one,List.take_length,zZ.enc_keys] at h4
    exact h4
  have hso:∀g cap cur w1,w1.heap[g]? =some (.cells cur 9 (0,0))→l0.length≤cap→cur.size=cap→cur.toList.take l0.length=(zZ.keys l0).map encStr→
    Calls Try.prog 60 #[.slice (some ⟨g,0,none⟩) l0.length cap] w1 fun e w'=>e= .returned (.tuple #[])∧∃cur',w'.heap[g]? =some (.cells cur' 9 (0,0))∧cur'.size=cap∧cur'.toList.take l0.length=((zZ.keys l0).mergeSort fun x y=>decide (x≤y)).map encStr∧w1.grownBy w' (some g):=by
   intro g cap cur w1 hbk h1 h3 h4;have hgl:g < w1.heap.size:=(Array.getElem?_eq_some_iff.1 hbk).1;have hh:=Try.slices_Sort_string g 0 cap (zZ.keys l0) w1 (holds_of_block hbk (by rw [hk];exact h4)) hgl (by rw [hk];omega);rw [hk] at hh
   refine hh.mono fun e w' ⟨he,n,os,hw⟩=>⟨he,?_⟩
   subst hw
   have hl:((zZ.keys l0).mergeSort fun x y=>decide (x≤y)).length=l0.length:=by rw [List.length_mergeSort,hk]
   refine ⟨_,heap_sorted _ hbk,by simp [putCells,h3],?_,grownBy_sorted _⟩;rw [←hl]
   exact take_putCells cur _ (by omega)
  have hco:∀g cap cur w1,w1.heap[g]? =some (.cells cur 9 (0,0))→l0.length≤cap→cur.size=cap→cur.toList.take l0.length=((zZ.keys l0).mergeSort fun x y=>decide (x≤y)).map encStr→
    Calls Try.prog 61 #[.slice (some ⟨g,0,none⟩) l0.length cap] w1 fun e w'=>∃cur',e= .returned (.slice (some ⟨g,0,none⟩) (tset (zZ.keys l0)).length cap)∧w'.heap[g]? =some (.cells cur' 9 (0,0))∧cur'.size=cap∧cur'.toList.take (tset (zZ.keys l0)).length=(tset (zZ.keys l0)).map encStr∧w1.grownBy w' (some g):=by
   intro g cap cur w1 hbk h1 h3 h4
   have hl:((zZ.keys l0).mergeSort fun x y=>decide (x≤y)).length=l0.length:=by rw [List.length_mergeSort,hk]
   have hh:=Try.slices_Compact_string g 0 cap ((zZ.keys l0).mergeSort fun x y=>decide (x≤y)) w1 (holds_of_block hbk (by rw [hl];exact h4)) (by rw [hl];omega) (by rw [hl];omega);rw [hl] at hh
   refine hh.mono fun e w' ⟨he,q,hw⟩=> ?_
   have hts:Lib.compact ((zZ.keys l0).mergeSort fun x y=>decide (x≤y))=tset (zZ.keys l0):=rfl;rw [hts] at he hw
   have hm:(tset (zZ.keys l0)).length≤l0.length:=by rw [←hk];exact YT _
   have hg0:w'=grow (putRow encStr (Sort.ahead w1 q) g 0 (tset (zZ.keys l0) ++ List.replicate (l0.length - (tset (zZ.keys l0)).length) []).toArray) #[]:=by rw [hw,zZ.grow_none]
   have hlt:(tset (zZ.keys l0) ++ List.replicate (l0.length - (tset (zZ.keys l0)).length) []).length=l0.length:=by simp;omega
   have htk:=take_putCells cur (tset (zZ.keys l0) ++ List.replicate (l0.length - (tset (zZ.keys l0)).length) []) (by omega);rw [hlt] at htk;refine ⟨putCells encStr 0 (tset (zZ.keys l0) ++ List.replicate (l0.length - (tset (zZ.keys l0)).length) []).toArray cur,he,by rw [hg0];exact heap_sorted _ hbk,by simp [putCells,h3],?_,by rw [hg0];exact grownBy_sorted _⟩;have:=congrArg (List.take (tset (zZ.keys l0)).length) htk;rw [List.take_take,Nat.min_eq_left hm,List.map_append,List.take_left' (by simp)] at this
   exact this
  have hm:(tset (zZ.keys l0)).length≤l0.length:=by rw [←hk];exact YT _
  clear hcells hr0 hsp;have HCL:=Plus.Kept.mk hcl;have HSO:=Plus.Kept.mk hso;have HCO:=Plus.Kept.mk hco;clear hcl hso hco hc
  go_enter Try.func37,Try.ntmps37
  go_wp2_with (first
   | (go_at_call 59;refine HCL.out.mono ?_;rintro e w1 ⟨g,cap,cur,rfl,hge,hbk1,h1,h2,h3,h4,hb1⟩)
   | (go_at_call 60;refine (HSO.out g cap cur w1 hbk1 h1 h3 h4).mono ?_;rintro e w2 ⟨rfl,cur2,hbk2,h32,h42,hg2⟩)
   | (go_at_call 61;refine (HCO.out g cap cur2 w2 hbk2 h1 h32 h42).mono ?_;rintro e w3 ⟨cur3,rfl,hbk3,h33,h43,hg3⟩)
   | go_in)
  go_ret
  have hown:=zZ.own_cut (base:=w.heap.size) hge hbk3 (Nat.le_trans hm h1) h2 h33 rfl h43;rw [←zZ.enc_texts] at hown;refine ⟨_,rfl,Kd.R_of_own (enc:=Value.string) (h1:=fun _=>rfl) ?_ (fun _ _=>trivial),?_⟩
  ·have e:(zZ.texts (tset (zZ.keys l0))).length=(tset (zZ.keys l0)).length:=by simp [zZ.texts]
   rw [e];exact hown
  ·have b2:=hb1.grown hg2 hb1.size (fun j hj=>by cases hj;exact hge)
   exact b2.grown hg3 b2.size (fun j hj=>by cases hj;exact hge)
end
end Go.Proofs.Ytlanhkekjhlmjaa.HGuessWords
