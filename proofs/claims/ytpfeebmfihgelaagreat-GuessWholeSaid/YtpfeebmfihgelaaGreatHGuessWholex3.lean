-- Written by plus.py for this claim.
import Derived.Test.YtpfeebmfihgelaaGreatSGuessWholeVZip
import Derived.Test.YtpfeebmfihgelaaGreatHGuessWholex0
import Derived.Test.YtpfeebmfihgelaaGreatHGuessWholex2
namespace Go.Proofs.YtpfeebmfihgelaaGreat.HGuessWhole
open Go.RowKit Go.Proofs.YtpfeebmfihgelaaGreatW.PrintWords Go.Proofs.YtpfeebmfihgelaaGreatW.PrintLast Go.Proofs.YtpfeebmfihgelaaGreatW.PrintMore
attribute [local go_sem] ym yn ZG ZH yd ye yo yp   -- for this text's walks alone
set_option linter.unusedVariables false
set_option maxHeartbeats 8000000
set_option maxRecDepth 100000
set_option linter.unusedSimpArgs false
def zh.l0:Nat→Int→Int→Int→List Int→List (S42)→Option (Int × Int × List Int × (List (S42)))
 | 0,_,_,_,_,_=>none
 | k + 1,x4,x140000,x140001,x140002,x140003=>if x4 < (x140003.length:Int) then (if 0≤x4 then (if 0≤(mn (((zF x140003 x4).f1).length:Int) 4) then (if (mn (((zF x140003 x4).f1).length:Int) 4)≤(((zF x140003 x4).f1).length:Int) then (zh.l0 k (wrap64 (x4 + 1)) x140000 x140001 x140002 (x140003.set (x4:Int).toNat (⟨(zF x140003 x4).f0,(((zF x140003 x4).f1).take ((mn (((zF x140003 x4).f1).length:Int) 4):Int).toNat)⟩:S42))) else (none)) else (none)) else (none)) else (some (x140000,x140001,x140002,x140003))
def zh.f (k:Nat) (a0_0:Int) (a0_1:Int) (l0_2:List Int) (va:List (S42)):Option (Int × Int × List Int × (List (S42))):=(zX.f k a0_0 a0_1 l0_2 va 8 14).bind fun bt131=>(zh.l0 k 0 bt131.1 bt131.2.1 bt131.2.2.1 bt131.2.2.2)
theorem zh.mono_l:∀k,(∀y0 y1 y2 y3 y4,LeO (zh.l0 k y0 y1 y2 y3 y4) (zh.l0 (k + 1) y0 y1 y2 y3 y4))
 | 0=>fun _ _ _ _ _ r h=>by simp [zh.l0] at h
 | k + 1=>by
  have ih0:=zh.mono_l k
  ·intro y0 y1 y2 y3 y4
   unfold zh.l0
   repeat' first
   | with_reducible first|exact ih0 _ _ _ _ _|exact zX.mono _ _ _ _ _ _ _|exact LeO.refl _|exact LeO.none _|refine LeO.ite ?_ ?_|refine LeO.bind ?_ (fun _=> ?_)
theorem zh.mono:∀a0 a1 a2 a3 k,LeO (zh.f k a0 a1 a2 a3) (zh.f (k + 1) a0 a1 a2 a3):=by
 intro a0 a1 a2 a3 k;have ih0:=zh.mono_l k
 unfold zh.f
 repeat' first
   | with_reducible first|exact ih0 _ _ _ _ _|exact zX.mono _ _ _ _ _ _ _|exact LeO.refl _|exact LeO.none _|refine LeO.ite ?_ ?_|refine LeO.bind ?_ (fun _=> ?_)
def zh.T6:Bool × List (List Nat × List Nat):=(true,[([],[]),([0],[0]),([],[]),([],[]),([],[]),([4],[4]),([5],[5]),([3,6],[3,6]),([1,2,0,1,2,3,4,5,6,7],[1,2]),([8,0,1,2,3,4,5,6,7],[8]),([9,7,0,1,2,3,4,5,6,7],[7,9])])
def zh.B6:List Nat:= [0,1,0,0,0,16,48,120,255,511,1023]
theorem zh.tab6:rtab .any (qw Tryz.f5 6)=zh.T6:=by kernel_rfl
theorem zh.bits6:ZL zh.T6.2 zh.B6=true:=by kernel_rfl
theorem zh.calls (k:Nat) (a0_0:Int) (a0_1:Int) (vn:Option Addr) (vo:Nat) (l0_2:List Int) (vA:Option Addr) (vq:Nat) (va:List (S42)) (r1:Int) (r2:Int) (r3:List Int) (r4:List (S42)) (w:World) (hr0_2:Kd.C (Kd.int .i64) w vn l0_2.length l0_2) (hc0_2:l0_2.length≤vo) (hr0_3:Kd.C k42 w vA va.length va) (hc0_3:va.length≤vq) (h:zh.f k a0_0 a0_1 l0_2 va=some (r1,r2,r3,r4)) :
  Calls Tryz.prog 5 #[.agg #[.int .i64 a0_0, .int .i64 a0_1, .slice vn l0_2.length vo, .slice vA va.length vq]] w fun e w'=>∃v2_ v3_:Value,e= .returned (.agg #[.int .i64 r1, .int .i64 r2,v2_,v3_])∧Kd.R (Kd.int .i64) 3 w' w.heap.size (fun k_=>(w.heap.size≤k_)) v2_ r3∧Kd.N k42 42 w' w.heap.size (fun k_=>(w.heap.size≤k_)∧some k_≠(v2_:Value).ownBlock) v3_ r4∧Below w.heap.size w w':=by
 have hu25:=Tryz.underlying25;have wh:=zA.mk hr0_2;have wi:=zA.mk hc0_2;clear hr0_2 hc0_2;have vQ:=zA.mk hr0_3;have wj:=zA.mk hc0_3;clear hr0_3 hc0_3;have HB:=zA.mk (Below.refl w.heap.size w);have H:((zX.f k a0_0 a0_1 l0_2 va 8 14).bind fun bt131=>(zh.l0 k 0 bt131.1 bt131.2.1 bt131.2.2.1 bt131.2.2.2))=some (r1,r2,r3,r4):=h;clear h;replace H:=ZzB H;obtain ⟨⟨t131,t132,t133,t136⟩,A20,H⟩:=H;replace H:(zh.l0 k 0 t131 t132 t133 t136)=some (r1,r2,r3,r4):=H;have A2:=zA.mk A20;clear A20;have H':=zA.mk H;clear H
 go_enter Tryz.func5,Tryz.ntmps5
 go_wp2_with (first|((with_reducible refine zx (N:=1) rfl ?_);refine yF (by rfl) (N:=1) (by rfl) (cs:= #[.int .i64 a0_0, .int .i64 a0_1, .slice vn l0_2.length vo, .slice vA va.length vq]) (t:=25) Qm ?_;intro wz hg w3 hbox hb;have n0_:=zA.mk (zD Qc hb);have n1_:=zA.mk (hbox);have n2_:=zA.mk ((by rw [hg];exact (zE Qc):w.heap.size≤wz));have n3_:=zA.mk ((by rw [hg];exact (zE Qc):w.heap.size≤wz));clear HB;have HB:=n0_;have vT:=n1_;have GW129:=n2_;have GE129:=n3_;clear n0_ n1_ n2_ n3_ hb hbox hg)|((with_reducible refine zx (N:=2) rfl ?_);refine yF (by rfl) (N:=2) (by rfl) (cs:= #[.int .i64 0, .int .i64 0, .slice none 0 0, .slice none 0 0]) (t:=25) Qm ?_;intro vX hg w4 hbox hb;have n0_:=zA.mk (zY (g:=wz) (Qi vT) hb);have n1_:=zA.mk (zD (Qd GE129) hb);have n2_:=zA.mk (hbox);have n3_:=zA.mk ((by rw [hg];exact (zE (Qd GE129)):w.heap.size≤vX));have n4_:=zA.mk ((by rw [hg];exact (zE (Qd GE129)):w.heap.size≤vX));have n5_:=zA.mk ((by rw [hg];exact Nat.ne_of_lt (yA (g:=wz) (Qi vT)):wz≠vX));have n6_:=zA.mk ((by rw [hg];exact Nat.ne_of_gt (yA (g:=wz) (Qi vT)):vX≠wz));clear vT HB;have vT:=n0_;have HB:=n1_;have wa:=n2_;have GW130:=n3_;have GE130:=n4_;have NB129_130:=n5_;have NB130_129:=n6_;clear n0_ n1_ n2_ n3_ n4_ n5_ n6_ hb hbox hg;have hnb5:=NB129_130.out;have hnc5:=NB130_129.out;have hcz6_0:=Qn vT 0 rfl;have hcz6_1:=Qn vT 1 rfl;have hcz6_2:=Qn vT 2 rfl;have hcz6_3:=Qn vT 3 rfl;have hfz6_0:=zB vT.out 0;have hfz6_1:=zB vT.out 1;have hfz6_2:=zB vT.out 2;have hfz6_3:=zB vT.out 3)|((with_reducible refine zm (f:=16) rfl ?_);refine yJ (some 7) rfl rfl Tryz.func16 (by kernel_rfl) rfl #[.agg #[.int .i64 a0_0, .int .i64 a0_1, .slice vn l0_2.length vo, .slice vA va.length vq], .int .i64 8, .int .i64 14] rfl QZ ?_;(with_reducible refine (zX.calls k a0_0 a0_1 _ _ l0_2 _ _ va 8 14 t131 t132 t133 t136 _ ?side1 ?side2 ?side3 ?side4 A2.out).mono ?_);(case side1=>exact Qo (Kd.C_below wh.out HB.out));(case side2=>exact wi.out);(case side3=>exact Qo (Kd.C_below vQ.out HB.out));(case side4=>exact wj.out);rintro e w7 ⟨v134,v137,rfl,ho0,ho1,hb⟩;refine ⟨_,rfl,?_⟩;have n0_:=zA.mk (Kd.R_lower (Kd.R_newM (M:=fun k_=>(w.heap.size≤k_)) ho0 (zE (Qe GE129 GE130)) (fun k_ h_=>h_)) (zE (Qe GE129 GE130)));have n1_:=zA.mk (Kd.N_lower (Kd.N_mono (ok':=fun k_=>(w.heap.size≤k_)∧some k_≠(v134:Value).ownBlock∧k_≠wz∧k_≠vX) (Kd.S_N (Kd.S_bound (Kd.S_apart' ho1 (Kd.R_typed ho0) (by decide)))) (fun k_ hk_=>⟨(Nat.le_trans (zE (Qe GE129 GE130)) hk_.2.1),hk_.1.2,(Kd.freshB (g:=wz) (Qi vT) k_ hk_.2.1),(Kd.freshB (g:=vX) (Qi wa) k_ hk_.2.1)⟩)) (zE (Qe GE129 GE130)));have n2_:=zA.mk (zY (g:=wz) (Qi vT) hb);have n3_:=zA.mk (zY (g:=vX) (Qi wa) hb);have n4_:=zA.mk (zD (Qe GE129 GE130) hb);clear vT wa HB;have HO135:=n0_;have HO138:=n1_;have vT:=n2_;have wa:=n3_;have HB:=n4_;clear n0_ n1_ n2_ n3_ n4_;(try clear hb ho0);(try clear ho1))|((with_reducible refine zx (N:=3) rfl ?_);refine yF (by rfl) (N:=3) (by rfl) (cs:= #[.int .i64 0, .int .i64 0, .slice none 0 0, .slice none 0 0]) (t:=25) Qm ?_;intro wd hg w8 hbox hb;have n0_:=zA.mk (Kd.R_below (Qh HO135) hb);have n1_:=zA.mk (Kd.N_below (Kd.N_elderB (Qk HO138) wd (Nat.le_of_eq hg.symm)) hb);have n2_:=zA.mk (zY (g:=wz) (Qi vT) hb);have n3_:=zA.mk (zY (g:=vX) (Qi wa) hb);have n4_:=zA.mk (zD (Qe GE129 GE130) hb);have n5_:=zA.mk (hbox);have n6_:=zA.mk ((by rw [hg];exact (zE (Qe GE129 GE130)):w.heap.size≤wd));have n7_:=zA.mk ((by rw [hg];exact (zE (Qe GE129 GE130)):w.heap.size≤wd));have n8_:=zA.mk ((by rw [hg];exact Nat.ne_of_lt (yA (g:=wz) (Qi vT)):wz≠wd));have n9_:=zA.mk ((by rw [hg];exact Nat.ne_of_gt (yA (g:=wz) (Qi vT)):wd≠wz));have n10_:=zA.mk ((by rw [hg];exact Nat.ne_of_lt (yA (g:=vX) (Qi wa)):vX≠wd));have n11_:=zA.mk ((by rw [hg];exact Nat.ne_of_gt (yA (g:=vX) (Qi wa)):wd≠vX));clear HO135 HO138 vT wa HB;have HO135:=n0_;have HO138:=n1_;have vT:=n2_;have wa:=n3_;have HB:=n4_;have vL:=n5_;have GW139:=n6_;have GE139:=n7_;have NB129_139:=n8_;have NB139_129:=n9_;have NB130_139:=n10_;have NB139_130:=n11_;clear n0_ n1_ n2_ n3_ n4_ n5_ n6_ n7_ n8_ n9_ n10_ n11_ hb hbox hg;have hnb9:=NB139_129.out;have hnc9:=NB129_139.out;have hnb10:=NB139_130.out;have hnc10:=NB130_139.out;have hcz11_0:=Qn vL 0 rfl;have hcz11_1:=Qn vL 1 rfl;have hcz11_2:=Qn vL 2 rfl;have hcz11_3:=Qn vL 3 rfl;have hfz11_0:=zB vL.out 0;have hfz11_1:=zB vL.out 1;have hfz11_2:=zB vL.out 2;have hfz11_3:=zB vL.out 3;obtain ⟨Ao12,co12,eo12⟩:=Kd.R_slice HO135.out;subst eo12;obtain ⟨Ao13,co13,eo13⟩:=Kd.N_slice HO138.out;subst eo13))
 go_loopg [4] k (fun kq v4 w'=>∃(x4_1:Int) (x140003_1:List (S42)) (u140003:Value),v4= .int .i64 x4_1∧zA (zh.l0 kq x4_1 t131 t132 t133 x140003_1=some (r1,r2,r3,r4))∧zA (kq≤k)∧zA (Kd.R (Kd.int .i64) 3 w' w.heap.size (fun k_=>(w.heap.size≤k_)) (.slice Ao12 t133.length co12) t133)∧zA (Kd.N k42 42 w' w.heap.size (fun k_=>(w.heap.size≤k_)∧some k_≠((.slice Ao12 t133.length co12):Value).ownBlock∧k_≠wz∧k_≠vX∧k_≠wd) u140003 x140003_1)∧zA (w'.heap[wz]? =some (.cells #[.int .i64 a0_0, .int .i64 a0_1,(.slice vn l0_2.length vo),(.slice vA va.length vq)] 25 (0,0)))∧zA (w'.heap[vX]? =some (.cells #[.int .i64 0, .int .i64 0,(.slice none 0 0),(.slice none 0 0)] 25 (0,0)))∧zA (w'.heap[wd]? =some (.cells #[.int .i64 t131, .int .i64 t132,(.slice Ao12 t133.length co12),u140003] 25 (0,0)))∧zA (Below w.heap.size w w'))
 case atStart=>exact ⟨(0),(t136),(.slice Ao13 t136.length co13),Q6,H',⟨Nat.le_refl _⟩,⟨by (with_reducible repeat (first|apply Kd.R_alloc|apply Kd.R_drewN|apply Kd.R_drew));exact Kd.R_mono (Kd.R_far (p:=⟨wd,3,none⟩) (Kd.R_far (p:=⟨wd,2,none⟩) (Kd.R_far (p:=⟨wd,1,none⟩) (Kd.R_far (p:=⟨wd,0,none⟩) (Kd.R_types HO135.out vL.out (by decide)) (fun _ hk=>hk.2) (.int .i64 t131)) (fun _ hk=>hk.2) (.int .i64 t132)) (fun _ hk=>hk.2) (.slice Ao12 t133.length co12)) (fun _ hk=>hk.2) (.slice Ao13 t136.length co13)) (fun _ hk=>hk.1.1)⟩,⟨by (with_reducible repeat (first|apply Kd.N_alloc|apply Kd.N_drewN|apply Kd.N_drew));exact Kd.N_mono (Kd.N_far (p:=⟨wd,3,none⟩) (Kd.N_far (p:=⟨wd,2,none⟩) (Kd.N_far (p:=⟨wd,1,none⟩) (Kd.N_far (p:=⟨wd,0,none⟩) (Kd.N_mono HO138.out (fun k_ hk=>(⟨hk,hk.2⟩:_∧k_≠wd))) (fun _ hk=>hk.2) (.int .i64 t131)) (fun _ hk=>hk.2) (.int .i64 t132)) (fun _ hk=>hk.2) (.slice Ao12 t133.length co12)) (fun _ hk=>hk.2) (.slice Ao13 t136.length co13)) (fun _ hk=>⟨hk.1.1.1,⟨hk.1.1.2.1,⟨hk.1.1.2.2.1,⟨hk.1.1.2.2.2,hk.1.2⟩⟩⟩⟩)⟩,⟨by (with_reducible repeat (first|refine zM ?_ _|refine zN ?_|refine zL ?_ _));refine yE ?_ NB129_139.out _;(with_reducible repeat (first|refine zM ?_ _|refine zN ?_|refine zL ?_ _));refine yE ?_ NB129_139.out _;(with_reducible repeat (first|refine zM ?_ _|refine zN ?_|refine zL ?_ _));refine yE ?_ NB129_139.out _;(with_reducible repeat (first|refine zM ?_ _|refine zN ?_|refine zL ?_ _));refine yE ?_ NB129_139.out _;(with_reducible repeat (first|refine zM ?_ _|refine zN ?_|refine zL ?_ _));exact vT.out⟩,⟨by (with_reducible repeat (first|refine zM ?_ _|refine zN ?_|refine zL ?_ _));refine yE ?_ NB130_139.out _;(with_reducible repeat (first|refine zM ?_ _|refine zN ?_|refine zL ?_ _));refine yE ?_ NB130_139.out _;(with_reducible repeat (first|refine zM ?_ _|refine zN ?_|refine zL ?_ _));refine yE ?_ NB130_139.out _;(with_reducible repeat (first|refine zM ?_ _|refine zN ?_|refine zL ?_ _));refine yE ?_ NB130_139.out _;(with_reducible repeat (first|refine zM ?_ _|refine zN ?_|refine zL ?_ _));exact wa.out⟩,⟨by (with_reducible repeat (first|refine zM ?_ _|refine zN ?_|refine zL ?_ _));refine yO (cs:= #[.int .i64 t131, .int .i64 t132, .slice Ao12 t133.length co12, .slice none 0 0]) ?_ 3 _ rfl;(with_reducible repeat (first|refine zM ?_ _|refine zN ?_|refine zL ?_ _));refine yO (cs:= #[.int .i64 t131, .int .i64 t132, .slice none 0 0, .slice none 0 0]) ?_ 2 _ rfl;(with_reducible repeat (first|refine zM ?_ _|refine zN ?_|refine zL ?_ _));refine yO (cs:= #[.int .i64 t131, .int .i64 0, .slice none 0 0, .slice none 0 0]) ?_ 1 _ rfl;(with_reducible repeat (first|refine zM ?_ _|refine zN ?_|refine zL ?_ _));refine yO (cs:= #[.int .i64 0, .int .i64 0, .slice none 0 0, .slice none 0 0]) ?_ 0 _ rfl;(with_reducible repeat (first|refine zM ?_ _|refine zN ?_|refine zL ?_ _));exact vL.out⟩,⟨by repeat (first|(with_reducible first|exact HB.out|apply zG|apply zC|apply zI|refine zK ?_ GE129.out|refine zK ?_ GE130.out|refine zK ?_ GE139.out)|exact HB.out)⟩⟩
 case round=>
  clear H';(try clear c1);(try clear p2);(try clear c5);(try clear c9);(try clear c10);(try clear hcz11_0);(try clear hcz11_1);(try clear hcz11_2);(try clear hcz11_3);(try clear hcz6_0);(try clear hcz6_1);(try clear hcz6_2);(try clear hcz6_3);(try clear hfz11_0);(try clear hfz11_1);(try clear hfz11_2);(try clear hfz11_3);(try clear hfz6_0);(try clear hfz6_1);(try clear hfz6_2);(try clear hfz6_3);obtain ⟨x4_1,x140003_1,u140003,rfl,HA,HK1,HO_140002,HO_140003,vT,wa,vL,HB⟩:=hrel;cases gk with
  | zero=>exact absurd HA.out (by simp [zh.l0])
  | succ k1=>
   have H:=HA.out;clear HA;simp only [zh.l0] at H
   by_cases c14:x4_1 < (x140003_1.length:Int)
   ·rw [if_pos c14] at H
    have c14b0:=decide_eq_true c14;clear c14
    by_cases c15:0≤x4_1
    ·rw [if_pos c15] at H
     have c15b0:=decide_eq_true c15;clear c15;obtain ⟨ji16,hji16⟩:∃j_:Int,(mn (((zF x140003_1 x4_1).f1).length:Int) 4)=j_:=⟨_,rfl⟩
     replace H:(if 0≤(ji16) then (if (ji16)≤(((zF x140003_1 x4_1).f1).length:Int) then (zh.l0 k1 (wrap64 (x4_1 + 1)) t131 t132 t133 (x140003_1.set (x4_1:Int).toNat (⟨(zF x140003_1 x4_1).f0,(((zF x140003_1 x4_1).f1).take ((ji16):Int).toNat)⟩:S42))) else (none)) else (none))=some (r1,r2,r3,r4):=by first|(rw [hji16] at H;exact H)|(simp only [hji16] at H⊢;exact H)
     have hji16_:(if 4 < (((zF x140003_1 x4_1).f1).length:Int) then 4 else (((zF x140003_1 x4_1).f1).length:Int))=ji16:=hji16
     by_cases c17:0≤(ji16)
     ·rw [if_pos c17] at H
      have c17b0:=eq_true c17;have c17b1:=decide_eq_true c17;clear c17
      by_cases c18:(ji16)≤(((zF x140003_1 x4_1).f1).length:Int)
      ·rw [if_pos c18] at H
       have c18b0:=eq_true c18;have c18b1:=decide_eq_true c18;clear c18;obtain ⟨y141,hy141⟩:∃y_:List (S70),y_=(((zF x140003_1 x4_1).f1).take ((ji16):Int).toNat):=⟨_,rfl⟩;replace H:(zh.l0 k1 (wrap64 (x4_1 + 1)) t131 t132 t133 (x140003_1.set (x4_1:Int).toNat (⟨(zF x140003_1 x4_1).f0,y141⟩:S42)))=some (r1,r2,r3,r4):=Qb hy141 H;have Ny141:=zA.mk hy141;clear hy141;obtain ⟨y146,hy146⟩:∃y_:List (S42),y_=(x140003_1.set (x4_1:Int).toNat (⟨(zF x140003_1 x4_1).f0,y141⟩:S42)):=⟨_,rfl⟩;replace H:(zh.l0 k1 (wrap64 (x4_1 + 1)) t131 t132 t133 y146)=some (r1,r2,r3,r4):=Qb hy146 H;have Ny146:=zA.mk hy146;clear hy146;have H':=zA.mk H;clear H;have hnb20:=NB139_129.out;have hnc20:=NB129_139.out;have hnb21:=NB139_130.out;have hnc21:=NB130_139.out;have hcz22_0:=Qn vL 0 rfl;have hcz22_1:=Qn vL 1 rfl;have hcz22_2:=Qn vL 2 rfl;have hcz22_3:=Qn vL 3 rfl;have hfz22_0:=zB vL.out 0;have hfz22_1:=zB vL.out 1;have hfz22_2:=zB vL.out 2;have hfz22_3:=zB vL.out 3;obtain ⟨Ao23,co23,eo23⟩:=Kd.N_slice HO_140003.out;subst eo23;have p140:0≤(x4_1:Int):=Qa;have q140:x4_1 < (x140003_1.length:Int):=Qa;obtain ⟨ad140,A140_1,c140_1,e140,hx140_0,hx140_1,hl140_1,hi140_1⟩:=ZX (Kd.N_reads' HO_140003.out).2.2 x4_1 p140 q140;cases e140;obtain ⟨ce140,hce140,hMe140,hcc140⟩:=Kd.N_get HO_140003.out z42 x4_1 p140 (by first|exact q140|exact Qa|(have e_:=(Kd.N_reads' HO_140003.out).1;omega));obtain ⟨ua140_1,uc140_1,rfl,ul140_1,ge140_1⟩:=qS hMe140;have hv140_1:=hcc140 1 _ rfl;rw [YP _ _ 1 (by omega)] at hv140_1;replace hv140_1:=Option.some.inj (hv140_1.symm.trans hx140_1)
       injection hv140_1 with hva_ hvn_ hvc_
       rw [hva_] at ge140_1;rw [hvc_] at ul140_1;have HL140_1:=zA.mk (show Kd.V k70 70 _ w.heap.size _ _ ((zF x140003_1 x4_1).f1) from Kd.V_mk ul140_1 ge140_1);clear hva_ hvn_ hvc_ ge140_1 ul140_1 hcc140 hce140;have HR140_1:=zA.mk hi140_1;have HC140_1:=zA.mk hl140_1;clear hi140_1 hl140_1;replace p140:=eq_true p140;replace q140:=eq_true q140
       try go_wp2
       have n0_:=zA.mk (Kd.R_drew HO_140002.out);have n1_:=zA.mk (Kd.N_drew HO_140003.out);have n2_:=zA.mk (Kd.V_drew HL140_1.out);have n3_:=zA.mk (zN vT.out);have n4_:=zA.mk (zN wa.out);have n5_:=zA.mk (zN vL.out);have n6_:=zA.mk (Kd.C_drew HR140_1.out);have n7_:=zA.mk (zI HB.out);clear HO_140002 HO_140003 HL140_1 vT wa vL HR140_1 HB;have HO_140002:=n0_;have HO_140003:=n1_;have HL140_1:=n2_;have vT:=n3_;have wa:=n4_;have vL:=n5_;have HR140_1:=n6_;have HB:=n7_;clear n0_ n1_ n2_ n3_ n4_ n5_ n6_ n7_;have q25:((ji16):Int)≤((((zF x140003_1 x4_1).f1).length:Int):Int):=Qa;obtain ⟨i025,hi025,_,hsz25,_⟩:=info_parts qu;have hroom25:((zF x140003_1 x4_1).f1).length≤c140_1:=HC140_1.out;have hC25:Kd.F k70 _ _ A140_1 ((zF x140003_1 x4_1).f1).length ((zF x140003_1 x4_1).f1):=(Kd.V_at (base:=w.heap.size) HL140_1.out).2.2;have hcut25:=cut_to (P:=Tryz.prog) 40 70 .i64 Tryz.underlying40 hi025 A140_1 ((zF x140003_1 x4_1).f1).length c140_1 (ji16) (Qa) q25 hroom25;have hr25:=Kd.F_take (m:=((ji16):Int).toNat) hC25 (by omega);have hy25:y141.length=((ji16):Int).toNat:=(by rw [Ny141.out,List.length_take];omega);rw [←Ny141.out] at hr25;rw [←hy25] at hcut25;have HO145:=zA.mk (show Kd.V k70 70 _ w.heap.size _ (.slice A140_1 y141.length c140_1) y141 from Kd.V_mk (by omega) hr25);have HC145:=zA.mk (show y141.length≤c140_1 from by omega);clear hr25 hC25 hroom25 hi025 hsz25;have KY25:=zA.mk hy25;clear hy25;replace q25:=eq_true q25;have p19:0≤(x4_1:Int):=Qa;have q19:(x4_1:Int) < ((x140003_1.length:Int):Int):=Qa;obtain ⟨go19,co19,eo19,gb19,gl19,cl19,HG19⟩:=Kd.N_form HO_140003.out (by omega)
       (first|cases eo19|(injection eo19 with ea_ en_ ec_;(first|subst ea_|(injection ea_ with ea_;subst ea_));subst ec_;clear en_))
       have GB19:=zA.mk gb19;have GG19:=zA.mk HG19;clear gb19 gl19 HG19
       (first|simp only [ZE] at hx140_0|skip)
       (first|simp only [ZE] at hx140_1|skip)
       obtain ⟨ce19,hcl19,hM19,hcc19,hfr19⟩:=Kd.N_elem HO_140003.out z42 (x4_1:Int) p19 q19;obtain ⟨ua19_1,uc19_1,rfl,ul19_1,ge19_1⟩:=qS hM19;have hx19_0:World.cell? _ ⟨go19,(x4_1:Int).toNat * 2,none⟩=some (.int .i64 ((zF x140003_1 x4_1).f0)):=hcc19 0 _ rfl;have hx19_1:World.cell? _ ⟨go19,(x4_1:Int).toNat * 2 + 1,none⟩=some (.slice ua19_1 ((zF x140003_1 x4_1).f1).length uc19_1):=hcc19 1 _ rfl;have hf19_0:World.frozen? _ ⟨go19,(x4_1:Int).toNat * 2,none⟩=false:=hfr19 0;have hf19_1:World.frozen? _ ⟨go19,(x4_1:Int).toNat * 2 + 1,none⟩=false:=hfr19 1;clear hcl19 hcc19 hfr19 hM19;replace p19:=eq_true p19;replace q19:=eq_true q19;have HX26:=zA.mk (show Kd.N k42 42 _ w.heap.size (fun k_=>(w.heap.size≤k_)∧some k_≠(.slice Ao12 t133.length co12:Value).ownBlock∧k_≠wz∧k_≠vX∧k_≠wd) (.slice (some ⟨go19,0,none⟩) x140003_1.length co23) x140003_1 from (Kd.N_mono (HO_140003.out) (fun k_ hk=>⟨hk.1,⟨hk.2.1,⟨hk.2.2.1,⟨hk.2.2.2.1,hk.2.2.2.2⟩⟩⟩⟩)));obtain ⟨ce26,hcl26,hM26,hcc26,hfr26⟩:=Kd.N_elem HX26.out z42 (x4_1:Int) (Qa) QU;obtain ⟨ua26_1,uc26_1,rfl,ul26_1,ge26_1⟩:=qS hM26;have HP26:=(Kd.N_seg HX26.out (x4_1:Int) (Qa) QU (seg:= [.slice A140_1 y141.length c140_1]) (j:=1) hcl26 hcc26 (show 2≤2 from by decide) (x':=(⟨(zF x140003_1 x4_1).f0,y141⟩:S42)) (k42_mkF _ _ (⟨(zF x140003_1 x4_1).f0,y141⟩:S42) (Kd.V_reads' (Kd.V_mono (ok':=(fun k_=>((fun k_=>(w.heap.size≤k_)∧some k_≠(.slice Ao12 t133.length co12:Value).ownBlock∧k_≠wz∧k_≠vX∧k_≠wd)) k_∧k_≠go19)) (HO145.out) (fun k_ hk=>⟨⟨hk.1.1,⟨hk.1.2.1,⟨hk.1.2.2.1,⟨hk.1.2.2.2.1,hk.1.2.2.2.2⟩⟩⟩⟩,fun e_=>(hk.2) (by rw [e_];rfl)⟩))).2.1 (Kd.V_F (Kd.V_mono (ok':=(fun k_=>((fun k_=>(w.heap.size≤k_)∧some k_≠(.slice Ao12 t133.length co12:Value).ownBlock∧k_≠wz∧k_≠vX∧k_≠wd)) k_∧k_≠go19)) (HO145.out) (fun k_ hk=>⟨⟨hk.1.1,⟨hk.1.2.1,⟨hk.1.2.2.1,⟨hk.1.2.2.2.1,hk.1.2.2.2.2⟩⟩⟩⟩,fun e_=>(hk.2) (by rw [e_];rfl)⟩)))) (fun _ hk=>hk)).1;rw [←Ny146.out] at HP26;have HQ26:=zA.mk HP26;clear hcl26 hcc26 hfr26 hM26 HP26;refine YL (n:=11) (S:=fun w'=>w'.cell? ⟨wd,0,none⟩=some (.int .i64 t131)∧w'.cell? ⟨wd,1,none⟩=some (.int .i64 t132)∧w'.cell? ⟨wd,2,none⟩=some (.slice Ao12 t133.length co12)∧w'.cell? ⟨wd,3,none⟩=some (.slice (some ⟨go19,0,none⟩) x140003_1.length co23)) (ds:= [10]) #[false,false,false,false,false,false,false,false,false,false,false] (by kernel_rfl) rfl rfl ⟨(zO vL.out 0).trans rfl,(zO vL.out 1).trans rfl,(zO vL.out 2).trans rfl,(zO vL.out 3).trans rfl⟩ (fun hHeld=> ?_);refine ZV zh.tab6 zh.bits6 (fun HT_ HW_=> ?_)
       generalize wr.drew=w24 at HO_140002 HO_140003 HL140_1 vT wa vL HR140_1 HB GG19 HO145 HQ26 hf19_0 hf19_1 hx140_0 hx140_1 hx19_0 hx19_1 hHeld⊢
       refine Qq (i:=0) (N:=some 21) #[true,false,false,false,false,false,false,false,false,false,false] HT_.out ?_;refine Qq (i:=2) (N:=some 23) #[true,false,true,false,false,false,false,false,false,false,false] HT_.out ?_;refine Qq (i:=3) (N:=some 24) #[true,false,true,true,false,false,false,false,false,false,false] HT_.out ?_;refine Qq (i:=4) (N:=some 25) #[true,false,true,true,true,false,false,false,false,false,false] HT_.out ?_;refine Qq (i:=5) (N:=some 26) #[true,false,true,true,true,true,false,false,false,false,false] HT_.out ?_;refine Qq (i:=6) (N:=some 27) #[true,false,true,true,true,true,true,false,false,false,false] HT_.out ?_;refine Qq (i:=7) (N:=some 28) #[true,false,true,true,true,true,true,true,false,false,false] HT_.out ?_;refine Qr (i:=1) (N:=some 22) #[true,true,true,true,true,true,true,true,false,false,false] HT_.out HW_.out hHeld ?_;refine Qq (i:=8) (N:=some 29) #[true,true,true,true,true,true,true,true,true,false,false] HT_.out ?_;refine Qq (i:=9) (N:=some 30) #[true,true,true,true,true,true,true,true,true,true,false] HT_.out ?_;refine qx (i:=10) (N:=none) #[true,true,true,true,true,true,true,true,true,true,true] rfl rfl (ZD HT_.out (by kernel_rfl)) (by decide) (fun K hK=> ?_);refine qc (w1:= ?_) (by rfl) rfl ?_ ?_;rotate_left
       ·go_simp
        rfl
       refine hK.out _ _ ?_;clear hK K;refine Yu (Zn HT_.out (by kernel_rfl)) ?_
       try go_wp2
       go_roundg k1
       case measure=>have:=HK1.out;omega
       case rel=>exact ⟨(wrap64 (x4_1 + 1)),(y146),(.slice (some ⟨go19,0,none⟩) x140003_1.length co23),Q6,H',⟨by have:=HK1.out;omega⟩,⟨by (with_reducible repeat (first|apply Kd.R_alloc|apply Kd.R_drewN|apply Kd.R_drew));exact Kd.R_mono (Kd.R_far (p:=⟨go19,(x4_1:Int).toNat * 2 + 1,none⟩) (Kd.R_types HO_140002.out GG19.out (by decide)) (fun _ hk=>hk.2) (.slice A140_1 y141.length c140_1)) (fun _ hk=>hk.1)⟩,⟨Qk HQ26⟩,⟨by (with_reducible repeat (first|refine zM ?_ _|refine zN ?_|refine zL ?_ _));refine yE ?_ (by have h_:=Kd.N_away HX26.out (fun _ hk=>hk.2.2.1);intro e_;exact h_ (by rw [e_];rfl)) _;(with_reducible repeat (first|refine zM ?_ _|refine zN ?_|refine zL ?_ _));exact vT.out⟩,⟨by (with_reducible repeat (first|refine zM ?_ _|refine zN ?_|refine zL ?_ _));refine yE ?_ (by have h_:=Kd.N_away HX26.out (fun _ hk=>hk.2.2.2.1);intro e_;exact h_ (by rw [e_];rfl)) _;(with_reducible repeat (first|refine zM ?_ _|refine zN ?_|refine zL ?_ _));exact wa.out⟩,⟨by (with_reducible repeat (first|refine zM ?_ _|refine zN ?_|refine zL ?_ _));refine yE ?_ (by have h_:=Kd.N_away HX26.out (fun _ hk=>hk.2.2.2.2);intro e_;exact h_ (by rw [e_];rfl)) _;(with_reducible repeat (first|refine zM ?_ _|refine zN ?_|refine zL ?_ _));exact vL.out⟩,⟨by repeat (first|(with_reducible first|exact HB.out|apply zG|apply zC|apply zI|refine zK ?_ GB19.out|refine zK ?_ GE129.out|refine zK ?_ GE130.out|refine zK ?_ GE139.out)|exact HB.out)⟩⟩
      ·rw [if_neg c18] at H
       exact absurd H (by simp)
     ·rw [if_neg c17] at H
      exact absurd H (by simp)
    ·rw [if_neg c15] at H
     exact absurd H (by simp)
   ·rw [if_neg c14] at H
    have c14b0:=decide_eq_false c14;clear c14;simp only [Option.some.injEq,Prod.mk.injEq] at H;obtain ⟨rfl,rfl,rfl,rfl⟩:=H;have hnb27:=NB139_129.out;have hnc27:=NB129_139.out;have hnb28:=NB139_130.out;have hnc28:=NB130_139.out;have hcz29_0:=Qn vL 0 rfl;have hcz29_1:=Qn vL 1 rfl;have hcz29_2:=Qn vL 2 rfl;have hcz29_3:=Qn vL 3 rfl;have hfz29_0:=zB vL.out 0;have hfz29_1:=zB vL.out 1;have hfz29_2:=zB vL.out 2;have hfz29_3:=zB vL.out 3;obtain ⟨Ao30,co30,eo30⟩:=Kd.N_slice HO_140003.out;subst eo30;have hnb31:=NB130_129.out;have hnc31:=NB129_130.out;have hcz32_0:=Qn wa 0 rfl;have hcz32_1:=Qn wa 1 rfl;have hcz32_2:=Qn wa 2 rfl;have hcz32_3:=Qn wa 3 rfl;have hfz32_0:=zB wa.out 0;have hfz32_1:=zB wa.out 1;have hfz32_2:=zB wa.out 2;have hfz32_3:=zB wa.out 3
    go_wp2
    refine bodyPost_ret (results_cell_row rfl _ _ vX 25 #[.int .i64 t131, .int .i64 t132, .slice Ao12 t133.length co12, .slice Ao30 x140003_1.length co30] (0,0) _ rfl (by (with_reducible repeat (first|refine zM ?_ _|refine zN ?_|refine zL ?_ _));refine yO (cs:= #[.int .i64 t131, .int .i64 t132, .slice Ao12 t133.length co12, .slice none 0 0]) ?_ 3 _ rfl;(with_reducible repeat (first|refine zM ?_ _|refine zN ?_|refine zL ?_ _));refine yO (cs:= #[.int .i64 t131, .int .i64 t132, .slice none 0 0, .slice none 0 0]) ?_ 2 _ rfl;(with_reducible repeat (first|refine zM ?_ _|refine zN ?_|refine zL ?_ _));refine yO (cs:= #[.int .i64 t131, .int .i64 0, .slice none 0 0, .slice none 0 0]) ?_ 1 _ rfl;(with_reducible repeat (first|refine zM ?_ _|refine zN ?_|refine zL ?_ _));refine yO (cs:= #[.int .i64 0, .int .i64 0, .slice none 0 0, .slice none 0 0]) ?_ 0 _ rfl;(with_reducible repeat (first|refine zM ?_ _|refine zN ?_|refine zL ?_ _));exact wa.out) Tryz.underlying25 rfl (by kernel_rfl)) rfl ?_
    exact ⟨_,_,by first|rfl|(simp [zb,zc] <;> rfl)|(simp [*,zb,zc] <;> rfl),by (with_reducible repeat (first|apply Kd.R_alloc|apply Kd.R_drewN|apply Kd.R_drew));exact Kd.R_mono (Kd.R_far (p:=⟨vX,3,none⟩) (Kd.R_far (p:=⟨vX,2,none⟩) (Kd.R_far (p:=⟨vX,1,none⟩) (Kd.R_far (p:=⟨vX,0,none⟩) (Kd.R_types HO_140002.out wa.out (by decide)) (fun _ hk=>hk.2) (.int .i64 t131)) (fun _ hk=>hk.2) (.int .i64 t132)) (fun _ hk=>hk.2) (.slice Ao12 t133.length co12)) (fun _ hk=>hk.2) (.slice Ao30 x140003_1.length co30)) (fun _ hk=>hk.1),by (with_reducible repeat (first|apply Kd.N_alloc|apply Kd.N_drewN|apply Kd.N_drew));exact Kd.N_mono (Kd.N_far (p:=⟨vX,3,none⟩) (Kd.N_far (p:=⟨vX,2,none⟩) (Kd.N_far (p:=⟨vX,1,none⟩) (Kd.N_far (p:=⟨vX,0,none⟩) (Kd.N_mono HO_140003.out (fun k_ hk=>(⟨hk,hk.2.2.2.1⟩:_∧k_≠vX))) (fun _ hk=>hk.2) (.int .i64 t131)) (fun _ hk=>hk.2) (.int .i64 t132)) (fun _ hk=>hk.2) (.slice Ao12 t133.length co12)) (fun _ hk=>hk.2) (.slice Ao30 x140003_1.length co30)) (fun _ hk=>⟨hk.1.1,hk.1.2.1⟩),by repeat (first|(with_reducible first|exact HB.out|apply zG|apply zC|apply zI|refine zK ?_ GE129.out|refine zK ?_ GE130.out|refine zK ?_ GE139.out)|exact HB.out)⟩
def Zx.f (a0:ByteArray) (a1:ByteArray) (a2:Int):Option (ByteArray):=if (a0.size:Int)≥a2 then (if 0≤(mx a2 0) then (if (mx a2 0)≤(a0.size:Int) then (some (a0.extract 0 ((mx a2 0):Int).toNat)) else (none)) else (none)) else (if 0≤(mn (wrap64 (a2 - (a0.size:Int))) (a1.size:Int)) then (if (mn (wrap64 (a2 - (a0.size:Int))) (a1.size:Int))≤(a1.size:Int) then (if a0.size + (a1.extract 0 ((mn (wrap64 (a2 - (a0.size:Int))) (a1.size:Int)):Int).toNat).size≤9223372036854775807 then (some (a0 ++ (a1.extract 0 ((mn (wrap64 (a2 - (a0.size:Int))) (a1.size:Int)):Int).toNat))) else (none)) else (none)) else (none))
theorem Zx.calls (a0:ByteArray) (a1:ByteArray) (a2:Int) (r:ByteArray) (w:World) (h:Zx.f a0 a1 a2=some r) :
  Calls Tryz.prog 51 #[.string a0, .string a1, .int .i64 a2] w fun e w'=>e= .returned (.string r)∧Below w.heap.size w w':=by
 have HB:=zA.mk (Below.refl w.heap.size w);have H:(if (a0.size:Int)≥a2 then (if 0≤(mx a2 0) then (if (mx a2 0)≤(a0.size:Int) then (some (a0.extract 0 ((mx a2 0):Int).toNat)) else (none)) else (none)) else (if 0≤(mn (wrap64 (a2 - (a0.size:Int))) (a1.size:Int)) then (if (mn (wrap64 (a2 - (a0.size:Int))) (a1.size:Int))≤(a1.size:Int) then (if a0.size + (a1.extract 0 ((mn (wrap64 (a2 - (a0.size:Int))) (a1.size:Int)):Int).toNat).size≤9223372036854775807 then (some (a0 ++ (a1.extract 0 ((mn (wrap64 (a2 - (a0.size:Int))) (a1.size:Int)):Int).toNat))) else (none)) else (none)) else (none)))=some r:=h;clear h
 by_cases c4:(a0.size:Int)≥a2
 ·rw [if_pos c4] at H
  have c4b0:=decide_eq_true c4;clear c4;obtain ⟨ji5,hji5⟩:∃j_:Int,(mx a2 0)=j_:=⟨_,rfl⟩
  replace H:(if 0≤(ji5) then (if (ji5)≤(a0.size:Int) then (some (a0.extract 0 ((ji5):Int).toNat)) else (none)) else (none))=some r:=by first|(rw [hji5] at H;exact H)|(simp only [hji5] at H⊢;exact H)
  (try (have hji5l:0≤ji5:=by (rw [←hji5];unfold mx;(repeat' split) <;> omega)))
  (try (have hji5m:0≤ji5:=by omega))
  have hji5_:(if a2 < 0 then 0 else a2)=ji5:=hji5
  by_cases c6:0≤(ji5)
  ·rw [if_pos c6] at H
   have c6b0:=eq_true c6;have c6b1:=decide_eq_true c6;clear c6
   by_cases c7:(ji5)≤(a0.size:Int)
   ·rw [if_pos c7] at H
    have c7b0:=eq_true c7;have c7b1:=decide_eq_true c7;clear c7;obtain rfl:=Option.some.inj H
    go_enter Tryz.func51,Tryz.ntmps51
    go_wp2
    go_ret
    exact ⟨by first|rfl|(simp [zb,zc] <;> rfl)|(simp only [←hji5];first|rfl|(simp [zb,zc] <;> rfl))|(simp [*,zb,zc] <;> rfl),by repeat (first|(with_reducible first|exact HB.out|apply zG|apply zC|apply zI)|exact HB.out)⟩
   ·rw [if_neg c7] at H
    exact absurd H (by simp)
  ·rw [if_neg c6] at H
   exact absurd H (by simp)
 ·rw [if_neg c4] at H
  have c4b0:=decide_eq_false c4;clear c4;obtain ⟨ji8,hji8⟩:∃j_:Int,(mn (wrap64 (a2 - (a0.size:Int))) (a1.size:Int))=j_:=⟨_,rfl⟩
  replace H:(if 0≤(ji8) then (if (ji8)≤(a1.size:Int) then (if a0.size + (a1.extract 0 ((ji8):Int).toNat).size≤9223372036854775807 then (some (a0 ++ (a1.extract 0 ((ji8):Int).toNat))) else (none)) else (none)) else (none))=some r:=by first|(rw [hji8] at H;exact H)|(simp only [hji8] at H⊢;exact H)
  have hji8_:(if (a1.size:Int) < (wrap64 (a2 - (a0.size:Int))) then (a1.size:Int) else (wrap64 (a2 - (a0.size:Int))))=ji8:=hji8
  by_cases c9:0≤(ji8)
  ·rw [if_pos c9] at H
   have c9b0:=eq_true c9;have c9b1:=decide_eq_true c9;clear c9
   by_cases c10:(ji8)≤(a1.size:Int)
   ·rw [if_pos c10] at H
    have c10b0:=eq_true c10;have c10b1:=decide_eq_true c10;clear c10
    by_cases c11:a0.size + (a1.extract 0 ((ji8):Int).toNat).size≤9223372036854775807
    ·rw [if_pos c11] at H
     have c11b0:=eq_true c11;have c11b1:=decide_eq_true c11
     try have c11b2:(9223372036854775807 < a0.size + (a1.extract 0 ((ji8):Int).toNat).size)=False:=eq_false (Nat.not_lt.2 c11)
     obtain rfl:=Option.some.inj H
     go_enter Tryz.func51,Tryz.ntmps51
     go_wp2
     go_ret
     exact ⟨by first|rfl|(simp [zb,zc] <;> rfl)|(simp only [←hji8];first|rfl|(simp [zb,zc] <;> rfl))|(simp [*,zb,zc] <;> rfl),by repeat (first|(with_reducible first|exact HB.out|apply zG|apply zC|apply zI)|exact HB.out)⟩
    ·rw [if_neg c11] at H
     exact absurd H (by simp)
   ·rw [if_neg c10] at H
    exact absurd H (by simp)
  ·rw [if_neg c9] at H
   exact absurd H (by simp)
section
open Go.Sort Go.Plus
def zV.keys (l:List ByteArray):List Txt:=l.map (·.data.toList)
def zV.texts (l:List Txt):List ByteArray:=l.map fun t=>⟨t.toArray⟩
theorem zV.enc_texts (l:List Txt):(zV.texts l).map Value.string=l.map encStr:=by unfold zV.texts;rw [List.map_map];rfl
theorem zV.enc_keys (l:List ByteArray):l.map Value.string=(zV.keys l).map encStr:=by
 unfold zV.keys
 rw [List.map_map]
 exact List.map_congr_left fun x _=>by simp [encStr]
def zV.f (l0:List ByteArray):Option (List ByteArray):=if l0.length * 16≤140737488355328 then some (zV.texts (tset (zV.keys l0))) else none
theorem zV.add_at (b off j:Nat):(⟨b,off,none⟩:Addr).add j=⟨b,off + j,none⟩:=by unfold Addr.add;split <;> simp_all
theorem zV.grow_none (w:World):grow w #[]=w:=by cases w;simp [grow]
theorem zV.spot {w:World} {a:Addr} {v:Value} (h:w.cell? a=some v):a=⟨a.block,a.off,none⟩:=by
 obtain ⟨b,o,s⟩:=a;cases s with
 | none=>rfl
 | some s=>unfold World.cell? at h;split at h <;> simp at h
theorem zV.own_cut {w:World} {base g cap m:Nat} {e:TypeId} {cur:Array Value} {ts:List Txt} (hbase:base≤g) (hb:w.heap[g]? =some (.cells cur e (0,0))) (h1:m≤cap) (h2:cap≤maxLen) (h3:cur.size=cap) (hm:ts.length=m) (h4:cur.toList.take m=ts.map encStr) :
  w.ownsRow base e 1 (.slice (some ⟨g,0,none⟩) m cap) m (ts.map encStr):=
 ⟨by simp [hm], .inr ⟨g,cap,cur,rfl,hbase,hb,h1,h2,by omega,by rw [Nat.mul_one];exact h4⟩⟩
theorem zV.calls (A0:Option Addr) (c0:Nat) (l0:List ByteArray) (r:List ByteArray) (w:World) (hr0:Kd.C Kd.string w A0 l0.length l0) (hc0:l0.length≤c0) (h:zV.f l0=some r) :
  Calls Tryz.prog 52 #[.slice A0 l0.length c0] w fun e w'=>∃v0_:Value,e= .returned v0_∧Kd.R Kd.string 9 w' w.heap.size (fun _=>True) v0_ r∧Below w.heap.size w w':=by
 unfold zV.f at h
 split at h
 case isFalse=>cases h
 rename_i hsz
 obtain rfl:=Option.some.inj h;clear h
 rcases Nat.eq_zero_or_pos l0.length with h0|h0
 ·obtain rfl:l0= []:=List.eq_nil_of_length_eq_zero h0
  have hcl:Calls Tryz.prog 71 #[.slice A0 0 c0] w fun e w'=>∃A1 c1,e= .returned (.slice A1 0 c1)∧Kd.R Kd.string 9 w' w.heap.size (fun _=>True) (.slice A1 0 c1) []∧Below w.heap.size w w':=by
   cases A0 with
   | none=>exact (Tryz.slices_Clone_string_nil 0 c0 w).mono fun e w' ⟨he,hw⟩=>⟨none,0,he,hw▸Kd.R_nil _ _ _ _ _,hw▸Below.refl _ _⟩
   | some a=>
    refine (Tryz.slices_Clone_string_zero a c0 w).mono fun e w' ⟨v',he,ho,_,hb⟩=> ?_
    have hR:Kd.R Kd.string 9 w' w.heap.size (fun _=>True) v' []:=Kd.R_of_own (enc:=Value.string) (h1:=fun _=>rfl) ho (fun _ _=>trivial);obtain ⟨A1,c1,rfl⟩:=Kd.R_slice hR
    exact ⟨A1,c1,he,hR,hb⟩
  have hR0:zV.texts (tset (zV.keys []))= []:=by rw [show zV.keys []= [] from rfl,YM Yk];rfl
  rw [hR0]
  go_enter Tryz.func52,Tryz.ntmps52
  go_wp2_with (first
   | (go_at_call 71;refine hcl.mono ?_;rintro e w1 ⟨A1,c1,rfl,hR,hb⟩)
   | (go_at_call 72;refine (Tryz.slices_Sort_string_none A1 c1 _).mono ?_;rintro e w2 ⟨rfl,rfl⟩)
   | (go_at_call 73;refine (Tryz.slices_Compact_string_empty A1 c1 _).mono ?_;rintro e w3 ⟨rfl,rfl⟩)
   | go_in)
  go_ret
  exact ⟨_,rfl,hR,hb⟩
 ·obtain ⟨ad,rfl,hcells⟩:=(Kd.reads_of_C (enc:=Value.string) (d:=ByteArray.empty) (h1:=fun _=>rfl) hr0).2.2 h0
  have hk:(zV.keys l0).length=l0.length:=by simp [zV.keys]
  have hsp:=zV.spot (hcells 0 h0)
  obtain ⟨b,off,rfl⟩:∃b off,ad=⟨b,off,none⟩:=by
   have e:ad.add 0=ad:=by simp [Addr.add]
   rw [e] at hsp
   exact ⟨_,_,hsp⟩
  have hc:∀j,j < l0.length→w.cell? ⟨b,off + j,none⟩=some (.string (l0.getD j ByteArray.empty)):=fun j hj=>by
   have:=hcells j hj;rwa [zV.add_at] at this
  have hlen:l0.length≤8796093022208:=by omega
  have hcl:Calls Tryz.prog 71 #[.slice (some ⟨b,off,none⟩) l0.length c0] w fun e w'=>∃g cap cur,e= .returned (.slice (some ⟨g,0,none⟩) l0.length cap)∧w.heap.size≤g∧w'.heap[g]? =some (.cells cur 9 (0,0))∧l0.length≤cap∧cap≤maxLen∧cur.size=cap∧cur.toList.take l0.length=(zV.keys l0).map encStr∧Below w.heap.size w w':=by
   refine (Tryz.slices_Clone_string b off l0.length c0 l0 w (Nat.le_refl _) hsz hc).mono fun e w' ⟨v',he,ho,hne,hb⟩=> ?_
   rcases ho.2 with ⟨hnil,_⟩|⟨g,cap,cur,rfl,hbase,hbk,h1,h2,h3,h4⟩
   ·exact absurd hnil hne
   ·refine ⟨g,cap,cur,he,hbase,hbk,h1,h2,by omega,?_,hb⟩
    rw [Nat.mul_one,List.take_length,zV.enc_keys] at h4
    exact h4
  have hso:∀g cap cur w1,w1.heap[g]? =some (.cells cur 9 (0,0))→l0.length≤cap→cur.size=cap→cur.toList.take l0.length=(zV.keys l0).map encStr→
    Calls Tryz.prog 72 #[.slice (some ⟨g,0,none⟩) l0.length cap] w1 fun e w'=>e= .returned (.tuple #[])∧∃cur',w'.heap[g]? =some (.cells cur' 9 (0,0))∧cur'.size=cap∧cur'.toList.take l0.length=((zV.keys l0).mergeSort fun x y=>decide (x≤y)).map encStr∧w1.grownBy w' (some g):=by
   intro g cap cur w1 hbk h1 h3 h4;have hgl:g < w1.heap.size:=(Array.getElem?_eq_some_iff.1 hbk).1;have hh:=Tryz.slices_Sort_string g 0 cap (zV.keys l0) w1 (holds_of_block hbk (by rw [hk];exact h4)) hgl (by rw [hk];omega);rw [hk] at hh
   refine hh.mono fun e w' ⟨he,n,os,hw⟩=>⟨he,?_⟩
   subst hw
   have hl:((zV.keys l0).mergeSort fun x y=>decide (x≤y)).length=l0.length:=by rw [List.length_mergeSort,hk]
   refine ⟨_,heap_sorted _ hbk,by simp [putCells,h3],?_,grownBy_sorted _⟩;rw [←hl]
   exact take_putCells cur _ (by omega)
  have hco:∀g cap cur w1,w1.heap[g]? =some (.cells cur 9 (0,0))→l0.length≤cap→cur.size=cap→cur.toList.take l0.length=((zV.keys l0).mergeSort fun x y=>decide (x≤y)).map encStr→
    Calls Tryz.prog 73 #[.slice (some ⟨g,0,none⟩) l0.length cap] w1 fun e w'=>∃cur',e= .returned (.slice (some ⟨g,0,none⟩) (tset (zV.keys l0)).length cap)∧w'.heap[g]? =some (.cells cur' 9 (0,0))∧cur'.size=cap∧cur'.toList.take (tset (zV.keys l0)).length=(tset (zV.keys l0)).map encStr∧w1.grownBy w' (some g):=by
   intro g cap cur w1 hbk h1 h3 h4
   have hl:((zV.keys l0).mergeSort fun x y=>decide (x≤y)).length=l0.length:=by rw [List.length_mergeSort,hk]
   have hh:=Tryz.slices_Compact_string g 0 cap ((zV.keys l0).mergeSort fun x y=>decide (x≤y)) w1 (holds_of_block hbk (by rw [hl];exact h4)) (by rw [hl];omega) (by rw [hl];omega);rw [hl] at hh
   refine hh.mono fun e w' ⟨he,q,hw⟩=> ?_
   have hts:Lib.compact ((zV.keys l0).mergeSort fun x y=>decide (x≤y))=tset (zV.keys l0):=rfl;rw [hts] at he hw
   have hm:(tset (zV.keys l0)).length≤l0.length:=by rw [←hk];exact Zz _
   have hg0:w'=grow (putRow encStr (Sort.ahead w1 q) g 0 (tset (zV.keys l0) ++ List.replicate (l0.length - (tset (zV.keys l0)).length) []).toArray) #[]:=by rw [hw,zV.grow_none]
   have hlt:(tset (zV.keys l0) ++ List.replicate (l0.length - (tset (zV.keys l0)).length) []).length=l0.length:=by simp;omega
   have htk:=take_putCells cur (tset (zV.keys l0) ++ List.replicate (l0.length - (tset (zV.keys l0)).length) []) (by omega);rw [hlt] at htk;refine ⟨putCells encStr 0 (tset (zV.keys l0) ++ List.replicate (l0.length - (tset (zV.keys l0)).length) []).toArray cur,he,by rw [hg0];exact heap_sorted _ hbk,by simp [putCells,h3],?_,by rw [hg0];exact grownBy_sorted _⟩;have:=congrArg (List.take (tset (zV.keys l0)).length) htk;rw [List.take_take,Nat.min_eq_left hm,List.map_append,List.take_left' (by simp)] at this
   exact this
  have hm:(tset (zV.keys l0)).length≤l0.length:=by rw [←hk];exact Zz _
  clear hcells hr0 hsp;have HCL:=Plus.Kept.mk hcl;have HSO:=Plus.Kept.mk hso;have HCO:=Plus.Kept.mk hco;clear hcl hso hco hc
  go_enter Tryz.func52,Tryz.ntmps52
  go_wp2_with (first
   | (go_at_call 71;refine HCL.out.mono ?_;rintro e w1 ⟨g,cap,cur,rfl,hge,hbk1,h1,h2,h3,h4,hb1⟩)
   | (go_at_call 72;refine (HSO.out g cap cur w1 hbk1 h1 h3 h4).mono ?_;rintro e w2 ⟨rfl,cur2,hbk2,h32,h42,hg2⟩)
   | (go_at_call 73;refine (HCO.out g cap cur2 w2 hbk2 h1 h32 h42).mono ?_;rintro e w3 ⟨cur3,rfl,hbk3,h33,h43,hg3⟩)
   | go_in)
  go_ret
  have hown:=zV.own_cut (base:=w.heap.size) hge hbk3 (Nat.le_trans hm h1) h2 h33 rfl h43;rw [←zV.enc_texts] at hown;refine ⟨_,rfl,Kd.R_of_own (enc:=Value.string) (h1:=fun _=>rfl) ?_ (fun _ _=>trivial),?_⟩
  ·have e:(zV.texts (tset (zV.keys l0))).length=(tset (zV.keys l0)).length:=by simp [zV.texts]
   rw [e];exact hown
  ·have b2:=hb1.grown hg2 hb1.size (fun j hj=>by cases hj;exact hge)
   exact b2.grown hg3 b2.size (fun j hj=>by cases hj;exact hge)
end
end Go.Proofs.YtpfeebmfihgelaaGreat.HGuessWhole
