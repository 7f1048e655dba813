-- Written by plus.py for this claim.
import Derived.Test.YtlanhkekjhlmjaaSGuessWordsVZip
import Derived.Test.YtlanhkekjhlmjaaHGuessWordsx0
import Derived.Test.YtlanhkekjhlmjaaHGuessWordsx4
namespace Go.Proofs.Ytlanhkekjhlmjaa.HGuessWords
open Go.RowKit Go.Proofs.YtlanhkekjhlmjaaW.PrintWords Go.Proofs.YtlanhkekjhlmjaaW.PrintLast Go.Proofs.YtlanhkekjhlmjaaW.PrintMore
attribute [local go_sem] yq yr ZM ZN yj yk yt yu   -- for this text's walks alone
set_option linter.unusedVariables false
set_option linter.unusedSimpArgs false
mutual
def yA.l0:Nat→List (List ByteArray)→List (List ByteArray)→List (S45)→Int→Int→Int→Int→List Int→List (S45)→Option ((List (List ByteArray)))
 | 0,_,_,_,_,_,_,_,_,_=>none
 | k + 1,x1,x5,x16,x17,x18,x245000,x245001,x245002,x245003=>if x18 < x17 then (if 0≤x18 then (if x18 < (x16.length:Int) then (if x18 < (x5.length:Int) then (yA.l1 k x1 (x5.set (x18:Int).toNat (([(⟨#[]⟩:ByteArray)]:List ByteArray))) x18 x16 x17 x18 ((zD x16 x18).f1) (((zD x16 x18).f1).length:Int) 0 x245000 x245001 x245002 x245003) else (none)) else (none)) else (none)) else (some x5)
def yA.l1:Nat→List (List ByteArray)→List (List ByteArray)→Int→List (S45)→Int→Int→List (S51)→Int→Int→Int→Int→List Int→List (S45)→Option ((List (List ByteArray)))
 | 0,_,_,_,_,_,_,_,_,_,_,_,_,_=>none
 | k + 1,x1,x5,x6,x16,x17,x18,x28,x29,x30,x245000,x245001,x245002,x245003=>if x30 < x29 then (if 0≤x30 then (if x30 < (x28.length:Int) then (if (zi x28 x30).f0=true then (if 0≤x6 then (if x6 < (x5.length:Int) then ((zq.f k (zh x5 x6) (([strOfNums (([((zi x28 x30).f1) % 256]:List Int))]:List ByteArray)) x245001).bind fun t263=>(yA.l1 k x1 (x5.set (x6:Int).toNat t263) x6 x16 x17 x18 x28 x29 (wrap64 (x30 + 1)) x245000 x245001 x245002 x245003)) else (none)) else (none)) else (if 0≤((zi x28 x30).f1) then (if ((zi x28 x30).f1) < (x1.length:Int) then (if 0≤x6 then (if x6 < (x5.length:Int) then ((zq.f k (zh x5 x6) (zh x1 ((zi x28 x30).f1)) x245001).bind fun t269=>(yA.l1 k x1 (x5.set (x6:Int).toNat t269) x6 x16 x17 x18 x28 x29 (wrap64 (x30 + 1)) x245000 x245001 x245002 x245003)) else (none)) else (none)) else (none)) else (none))) else (none)) else (none)) else (yA.l0 k x1 x5 x16 x17 (wrap64 (x18 + 1)) x245000 x245001 x245002 x245003)
end
def yA.f (k:Nat) (a0_0:Int) (a0_1:Int) (l0_2:List Int) (l0_3:List (S45)) (l1:List (List ByteArray)):Option ((List (List ByteArray))):=if 0≤(l0_3.length:Int) then (if ((l0_3.length:Int):Int).toNat≤11728124029610 then (yA.l0 k l1 (List.replicate ((l0_3.length:Int):Int).toNat []) l0_3 (l0_3.length:Int) 0 a0_0 a0_1 l0_2 l0_3) else (none)) else (none)
theorem yA.mono_l:∀k,(∀y0 y1 y2 y3 y4 y5 y6 y7 y8,LeO (yA.l0 k y0 y1 y2 y3 y4 y5 y6 y7 y8) (yA.l0 (k + 1) y0 y1 y2 y3 y4 y5 y6 y7 y8))∧(∀y0 y1 y2 y3 y4 y5 y6 y7 y8 y9 y10 y11 y12,LeO (yA.l1 k y0 y1 y2 y3 y4 y5 y6 y7 y8 y9 y10 y11 y12) (yA.l1 (k + 1) y0 y1 y2 y3 y4 y5 y6 y7 y8 y9 y10 y11 y12))
 | 0=>⟨fun _ _ _ _ _ _ _ _ _ r h=>by simp [yA.l0] at h,fun _ _ _ _ _ _ _ _ _ _ _ _ _ r h=>by simp [yA.l1] at h⟩
 | k + 1=>by
  obtain ⟨ih0,ih1⟩:=yA.mono_l k;refine ⟨?_,?_⟩
  ·intro y0 y1 y2 y3 y4 y5 y6 y7 y8
   unfold yA.l0
   repeat' first
   | with_reducible first|exact ih0 _ _ _ _ _ _ _ _ _|exact ih1 _ _ _ _ _ _ _ _ _ _ _ _ _|exact zq.mono _ _ _ _|exact LeO.refl _|exact LeO.none _|refine LeO.ite ?_ ?_|refine LeO.bind ?_ (fun _=> ?_)
   | exact ih0 _ _ _ _ _ _ _ _ _|exact ih1 _ _ _ _ _ _ _ _ _ _ _ _ _|exact zq.mono _ _ _ _|exact LeO.none _|refine LeO.ite ?_ ?_|refine LeO.bind ?_ (fun _=> ?_)
  ·intro y0 y1 y2 y3 y4 y5 y6 y7 y8 y9 y10 y11 y12
   unfold yA.l1
   repeat' first
   | with_reducible first|exact ih0 _ _ _ _ _ _ _ _ _|exact ih1 _ _ _ _ _ _ _ _ _ _ _ _ _|exact zq.mono _ _ _ _|exact LeO.refl _|exact LeO.none _|refine LeO.ite ?_ ?_|refine LeO.bind ?_ (fun _=> ?_)
   | exact ih0 _ _ _ _ _ _ _ _ _|exact ih1 _ _ _ _ _ _ _ _ _ _ _ _ _|exact zq.mono _ _ _ _|exact LeO.none _|refine LeO.ite ?_ ?_|refine LeO.bind ?_ (fun _=> ?_)
theorem yA.mono:∀a0 a1 a2 a3 a4 k,LeO (yA.f k a0 a1 a2 a3 a4) (yA.f (k + 1) a0 a1 a2 a3 a4):=by
 intro a0 a1 a2 a3 a4 k;obtain ⟨ih0,ih1⟩:=yA.mono_l k
 unfold yA.f
 repeat' first
   | with_reducible first|exact ih0 _ _ _ _ _ _ _ _ _|exact ih1 _ _ _ _ _ _ _ _ _ _ _ _ _|exact zq.mono _ _ _ _|exact LeO.refl _|exact LeO.none _|refine LeO.ite ?_ ?_|refine LeO.bind ?_ (fun _=> ?_)
   | exact ih0 _ _ _ _ _ _ _ _ _|exact ih1 _ _ _ _ _ _ _ _ _ _ _ _ _|exact zq.mono _ _ _ _|exact LeO.none _|refine LeO.ite ?_ ?_|refine LeO.bind ?_ (fun _=> ?_)
def yA.T12:Bool × List (List Nat × List Nat):=(true,[([],[]),([],[]),([],[]),([],[]),([2,3],[2,3]),([4],[4]),([],[]),([],[]),([7],[7]),([5,6,8],[5,6,8]),([0,1,0,1,2,3,4,5,6,7,8,9],[0,1]),([10,9,9,0,1,2,3,4,5,6,7,8,9],[9,10])])
def yA.B12:List Nat:= [0,0,0,0,12,28,0,0,128,508,1023,2047]
theorem yA.tab12:rtab .any (qV Try.f17 12)=yA.T12:=by kernel_rfl
theorem yA.bits12:Zk yA.T12.2 yA.B12=true:=by kernel_rfl
set_option maxHeartbeats 8000000 in
set_option maxRecDepth 100000 in
theorem yA.calls (k:Nat) (a0_0:Int) (a0_1:Int) (vi:Option Addr) (vk:Nat) (l0_2:List Int) (vp:Option Addr) (vl:Nat) (l0_3:List (S45)) (A1:Option Addr) (c1:Nat) (l1:List (List ByteArray)) (r:List (List ByteArray)) (w:World) (hr0_2:Kd.C (Kd.int .i64) w vi l0_2.length l0_2) (hc0_2:l0_2.length≤vk) (hr0_3:Kd.C k45 w vp l0_3.length l0_3) (hc0_3:l0_3.length≤vl) (hr1:Kd.C (Kd.slice 9 Kd.string) w A1 l1.length l1) (hc1:l1.length≤c1) (h:yA.f k a0_0 a0_1 l0_2 l0_3 l1=some r) :
  Calls Try.prog 17 #[.agg #[.int .i64 a0_0, .int .i64 a0_1, .slice vi l0_2.length vk, .slice vp l0_3.length vl], .slice A1 l1.length c1] w fun e w'=>∃v0_:Value,e= .returned (v0_)∧Kd.N (Kd.slice 9 Kd.string) 32 w' w.heap.size (fun k_=>(w.heap.size≤k_)) v0_ r∧Below w.heap.size w w':=by
 have hu25:=Try.underlying25;have hu45:=Try.underlying45;have hu51:=Try.underlying51;have wb:=zA.mk hr0_2;have wd:=zA.mk hc0_2;clear hr0_2 hc0_2;have vw:=zA.mk hr0_3;have wg:=zA.mk hc0_3;clear hr0_3 hc0_3;have HR1:=zA.mk hr1;have HC1:=zA.mk hc1;clear hr1 hc1;have HB:=zA.mk (Below.refl w.heap.size w);have H:(if 0≤(l0_3.length:Int) then (if ((l0_3.length:Int):Int).toNat≤11728124029610 then (yA.l0 k l1 (List.replicate ((l0_3.length:Int):Int).toNat []) l0_3 (l0_3.length:Int) 0 a0_0 a0_1 l0_2 l0_3) else (none)) else (none))=some r:=h;clear h
 by_cases c3:0≤(l0_3.length:Int)
 ·rw [if_pos c3] at H
  have c3b0:=eq_true c3;have c3b1:=decide_eq_true c3;clear c3
  by_cases c4:((l0_3.length:Int):Int).toNat≤11728124029610
  ·rw [if_pos c4] at H
   have c4b0:=eq_true c4;have c4b1:=decide_eq_true c4;clear c4;obtain ⟨y245,hy245⟩:∃y_:List (List ByteArray),y_=(List.replicate ((l0_3.length:Int):Int).toNat []):=⟨_,rfl⟩;replace H:(yA.l0 k l1 y245 l0_3 (l0_3.length:Int) 0 a0_0 a0_1 l0_2 l0_3)=some r:=Qb hy245 H;have Ny245:=zA.mk hy245;clear hy245;have H':=zA.mk H;clear H
   go_enter Try.func17,Try.ntmps17
   go_wp2_with (first|((with_reducible refine yB (N:=2) rfl ?_);refine yH ?hg (N:=2) ?hd (cs:= #[.int .i64 a0_0, .int .i64 a0_1, .slice vi l0_2.length vk, .slice vp l0_3.length vl]) (t:=25) ?hr ?_;(case hd=>rfl);(case hg=>rfl);(case hr=>exact Qm);intro vz hg w5 hbox hb;have n0_:=zA.mk (zH Qc hb);have n1_:=zA.mk (hbox);have n2_:=zA.mk ((by rw [hg];exact (zE Qc):w.heap.size≤vz));have n3_:=zA.mk ((by rw [hg];exact (zE Qc):w.heap.size≤vz));clear HB;have HB:=n0_;have BK244:=n1_;have GW244:=n2_;have vP:=n3_;clear n0_ n1_ n2_ n3_ hb hbox hg;have hcz6_0:=Qn BK244 0 rfl;have hcz6_1:=Qn BK244 1 rfl;have hcz6_2:=Qn BK244 2 rfl;have hcz6_3:=Qn BK244 3 rfl;have hfz6_0:=zB BK244.out 0;have hfz6_1:=zB BK244.out 1;have hfz6_2:=zB BK244.out 2;have hfz6_3:=zB BK244.out 3)|((with_reducible refine yB (N:=14) rfl ?_);refine Kd.N_make (Kd.slice 9 Kd.string) _ 32 rfl (N':=14) rfl 27 _ _ rfl (l0_3.length:Int) rfl rfl Try.underlying27 (.slice none 0 0) 24 info32 rfl (by decide) (by omega) [] (ok:=fun k_=>w5.heap.size≤k_) (okp:=fun _=>False) (Kd.FK_slice_mk (Nat.le_refl _) (Kd.F_nil _ _ _)) (fun _ hk=>hk.elim) (Nat.le_refl _) (Qa) (Nat.le_trans (Nat.mul_le_mul_right _ (Qa:(l0_3.length:Int).toNat≤11728124029610)) (by omega)) (Below.refl _ _) (Nat.le_refl _) ?_;intro v246 w7 ho8 hb hg_ hnew_;clear hg_ hnew_;(first|rw [←Ny245.out] at ho8|(simp only [Int.reduceToNat] at ho8;rw [←Ny245.out] at ho8));have n0_:=zA.mk (Kd.N_lower (Kd.N_mono (ok':=fun k_=>(w.heap.size≤k_)∧k_≠vz) ho8 (fun k_ hk_=>⟨(Nat.le_trans (zE (Qd vP)) hk_),(Kd.freshB (g:=vz) (Qi BK244) k_ hk_)⟩)) (zE (Qd vP)));have n1_:=zA.mk (ze (g:=vz) (Qi BK244) hb);have n2_:=zA.mk (zH (Qd vP) hb);clear BK244 HB;have HO247:=n0_;have BK244:=n1_;have HB:=n2_;clear n0_ n1_ n2_ hb ho8;have hcz9_0:=Qn BK244 0 rfl;have hcz9_1:=Qn BK244 1 rfl;have hcz9_2:=Qn BK244 2 rfl;have hcz9_3:=Qn BK244 3 rfl;have hfz9_0:=zB BK244.out 0;have hfz9_1:=zB BK244.out 1;have hfz9_2:=zB BK244.out 2;have hfz9_3:=zB BK244.out 3))
   go_loopg [18] k (fun kq v18 w'=>∃(x5_1:List (List ByteArray)) (x18_1:Int),v18= .int .i64 x18_1∧zA (yA.l0 kq l1 x5_1 l0_3 (l0_3.length:Int) x18_1 a0_0 a0_1 l0_2 l0_3=some r)∧zA (kq≤k)∧zA (Kd.N (Kd.slice 9 Kd.string) 32 w' w.heap.size (fun k_=>(w.heap.size≤k_)∧k_≠vz) v246 x5_1)∧zA (w'.heap[vz]? =some (.cells #[.int .i64 a0_0, .int .i64 a0_1,(.slice vi l0_2.length vk),(.slice vp l0_3.length vl)] 25 (0,0)))∧zA (Below w.heap.size w w'))
   case atStart=>exact ⟨(y245),(0),Zb,H',⟨Nat.le_refl _⟩,⟨Qk HO247⟩,⟨Qi BK244⟩,⟨by repeat (first|(with_reducible first|exact HB.out|apply zG|apply zC|apply zF|refine zK ?_ vP.out)|exact HB.out)⟩⟩
   case round=>
    clear H';(try clear c1);(try clear p2);(try clear c3);(try clear c3b0);(try clear c3b1);(try clear c4);(try clear c4b0);(try clear c4b1);(try clear hcz6_0);(try clear hcz6_1);(try clear hcz6_2);(try clear hcz6_3);(try clear hcz9_0);(try clear hcz9_1);(try clear hcz9_2);(try clear hcz9_3);(try clear hfz6_0);(try clear hfz6_1);(try clear hfz6_2);(try clear hfz6_3);(try clear hfz9_0);(try clear hfz9_1);(try clear hfz9_2);(try clear hfz9_3);obtain ⟨x5_1,x18_1,rfl,HA,HK1,HO_5,BK244,HB⟩:=hrel;cases gk with
    | zero=>exact absurd HA.out (by simp [yA.l0])
    | succ k1=>
     have H:=HA.out;clear HA;simp only [yA.l0] at H
     by_cases c10:x18_1 < (l0_3.length:Int)
     ·rw [if_pos c10] at H
      have c10b0:=decide_eq_true c10;clear c10
      by_cases c11:0≤x18_1
      ·rw [if_pos c11] at H
       have c11b0:=decide_eq_true c11;clear c11
       by_cases c12:x18_1 < (l0_3.length:Int)
       ·rw [if_pos c12] at H
        have c12b0:=decide_eq_true c12;clear c12;obtain ⟨y250,hy250⟩:∃y_:List ByteArray,y_=(([(⟨#[]⟩:ByteArray)]:List ByteArray)):=⟨_,rfl⟩;replace H:(if x18_1 < (x5_1.length:Int) then (yA.l1 k1 l1 (x5_1.set (x18_1:Int).toNat y250) x18_1 l0_3 (l0_3.length:Int) x18_1 ((zD l0_3 x18_1).f1) (((zD l0_3 x18_1).f1).length:Int) 0 a0_0 a0_1 l0_2 l0_3) else (none))=some r:=Qb hy250 H;have Ny250:=zA.mk hy250;clear hy250
        by_cases c13:x18_1 < (x5_1.length:Int)
        ·rw [if_pos c13] at H
         have c13b0:=decide_eq_true c13;clear c13;obtain ⟨y253,hy253⟩:∃y_:List (List ByteArray),y_=(x5_1.set (x18_1:Int).toNat y250):=⟨_,rfl⟩;replace H:(yA.l1 k1 l1 y253 x18_1 l0_3 (l0_3.length:Int) x18_1 ((zD l0_3 x18_1).f1) (((zD l0_3 x18_1).f1).length:Int) 0 a0_0 a0_1 l0_2 l0_3)=some r:=Qb hy253 H;have Ny253:=zA.mk hy253;clear hy253;have H':=zA.mk H;clear H;have p248:0≤(x18_1:Int):=Qa;have q248:x18_1 < (l0_3.length:Int):=Qa;obtain ⟨ad248,A248_1,c248_1,e248,hx248_0,hx248_1,hl248_1,hi248_1⟩:=yv vw.out x18_1 p248 q248;cases e248;replace hx248_0:=(HB.out.cell (ZzA w _ hx248_0)).trans hx248_0;replace hx248_1:=(HB.out.cell (ZzA w _ hx248_1)).trans hx248_1;have HR248_1:=zA.mk hi248_1;have HC248_1:=zA.mk hl248_1;clear hi248_1 hl248_1;replace p248:=eq_true p248;replace q248:=eq_true q248
         go_wp2_with (first|((with_reducible refine yB (N:=7) rfl ?_);refine yH ?hg (N:=7) ?hd (cs:= #[.int .i64 0, .slice none 0 0]) (t:=45) ?hr ?_;(case hd=>rfl);(case hg=>rfl);(case hr=>exact Qm);intro vM hg w15 hbox hb;have n0_:=zA.mk (Kd.N_below (Kd.N_elderB (Qk HO_5) vM (Nat.le_of_eq hg.symm)) hb);have n1_:=zA.mk (ze (g:=vz) (Qi BK244) hb);have n2_:=zA.mk (zH (Qd vP) hb);have n3_:=zA.mk (hbox);have n4_:=zA.mk ((by rw [hg];exact (zE (Qd vP)):w.heap.size≤vM));have n5_:=zA.mk ((by rw [hg];exact (zE (Qd vP)):w.heap.size≤vM));have n6_:=zA.mk ((by rw [hg];exact Nat.ne_of_lt (yG (g:=vz) (Qi BK244)):vz≠vM));have n7_:=zA.mk ((by rw [hg];exact Nat.ne_of_gt (yG (g:=vz) (Qi BK244)):vM≠vz));clear HO_5 BK244 HB;have HO_5:=n0_;have BK244:=n1_;have HB:=n2_;have BK249:=n3_;have GW249:=n4_;have wh:=n5_;have NB244_249:=n6_;have NB249_244:=n7_;clear n0_ n1_ n2_ n3_ n4_ n5_ n6_ n7_ hb hbox hg;have hnb16:=NB249_244.out;have hnc16:=NB244_249.out;have hcz17_0:=Qn BK249 0 rfl;have hcz17_1:=Qn BK249 1 rfl;have hfz17_0:=zB BK249.out 0;have hfz17_1:=zB BK249.out 1)|((with_reducible refine yB (N:=25) rfl ?_);refine Kd.R_lit Kd.string _ 9 ?hg (N:=25) ?hd (xs:=([(⟨#[]⟩:ByteArray)]:List ByteArray)) (inner:= [.string (⟨#[]⟩:ByteArray)]) (ok:=fun _=>True) (okp:=fun _=>True) ?hr ?hp (fun _ hk=>hk) trivial (Below.refl _ _) (Nat.le_refl _) (by simp) ?_;(case hd=>rfl);(case hg=>rfl);(case hr=>exact Qm);(case hp=>exact (Reps.one (show Kd.M Kd.string _ _ _ (⟨#[]⟩:ByteArray) [.string (⟨#[]⟩:ByteArray)] from rfl) (Reps.none _ _)));intro v251 w18 ho19 hb hg_ hnew_;clear hg_ hnew_;(first|rw [←Ny250.out] at ho19|(simp only [Int.reduceToNat] at ho19;rw [←Ny250.out] at ho19));have n0_:=zA.mk (Kd.N_elder' (by (with_reducible repeat (first|apply Kd.N_alloc|apply Kd.N_drewN|apply Kd.N_drew));exact (Kd.N_mono (Kd.N_far (p:=⟨vM,1,none⟩) (Kd.N_far (p:=⟨vM,0,none⟩) (Kd.N_mono HO_5.out (fun k_ hk=>(⟨hk,hk.2⟩:_∧k_≠vM))) (fun _ hk=>hk.2) (.int .i64 ((zD l0_3 x18_1).f0))) (fun _ hk=>hk.2) (.slice A248_1 ((zD l0_3 x18_1).f1).length c248_1)) (fun _ h_=>h_.1))) (Kd.R_base ho19) hb);have n1_:=zA.mk (Kd.R_lower (Kd.R_newM (M:=fun k_=>(w.heap.size≤k_)) ho19 (zE (Qe vP wh)) (fun k_ h_=>h_)) (zE (Qe vP wh)));have n2_:=zA.mk (ze (g:=vz) (o:= .cells #[.int .i64 a0_0, .int .i64 a0_1, .slice vi l0_2.length vk, .slice (some ad248) l0_3.length vl] 25 (0,0)) (by (with_reducible repeat (first|refine zO ?_ _|refine zQ ?_|refine zM ?_ _));refine yJ ?_ NB244_249.out _;(with_reducible repeat (first|refine zO ?_ _|refine zQ ?_|refine zM ?_ _));refine yJ ?_ NB244_249.out _;(with_reducible repeat (first|refine zO ?_ _|refine zQ ?_|refine zM ?_ _));exact BK244.out) hb);have n3_:=zA.mk (ze (g:=vM) (o:= .cells #[.int .i64 ((zD l0_3 x18_1).f0), .slice A248_1 ((zD l0_3 x18_1).f1).length c248_1] 45 (0,0)) (by (with_reducible repeat (first|refine zO ?_ _|refine zQ ?_|refine zM ?_ _));refine yU (cs:= #[.int .i64 ((zD l0_3 x18_1).f0), .slice none 0 0]) ?_ 1 _ rfl;(with_reducible repeat (first|refine zO ?_ _|refine zQ ?_|refine zM ?_ _));refine yU (cs:= #[.int .i64 0, .slice none 0 0]) ?_ 0 _ rfl;(with_reducible repeat (first|refine zO ?_ _|refine zQ ?_|refine zM ?_ _));exact BK249.out) hb);have n4_:=zA.mk (zH (Qe vP wh) hb);clear HO_5 BK244 BK249 HB;have HO_5:=n0_;have HO252:=n1_;have BK244:=n2_;have BK249:=n3_;have HB:=n4_;clear n0_ n1_ n2_ n3_ n4_;obtain ⟨vA251,vc251,rfl⟩:=Kd.R_slice HO252.out;clear hb ho19;have p14:0≤(x18_1:Int):=Qa;have q14:(x18_1:Int) < ((x5_1.length:Int):Int):=Qa;obtain ⟨go14,co14,eo14,gb14,gl14,cl14,HG14⟩:=Kd.N_form HO_5.out (by omega);(first|cases eo14|(injection eo14 with ea_ en_ ec_;(first|subst ea_|(injection ea_ with ea_;subst ea_));subst ec_;clear en_));have GB14:=zA.mk gb14;have GG14:=zA.mk HG14;clear gb14 gl14 HG14;obtain ⟨ce14,hcl14,hM14,hcc14,hfr14⟩:=Kd.N_elem HO_5.out [] (x18_1:Int) p14 q14;obtain ⟨ua14_0,uc14_0,rfl,ul14_0,ge14_0⟩:=Kd.FK_slice_open hM14;have hx14_0:=hcc14 0 _ rfl;have hf14_0:=hfr14 0;(try simp only [show ((Kd.slice 9 Kd.string)).sz=1 from rfl,Nat.mul_one,Nat.add_zero] at hx14_0);(try simp only [show ((Kd.slice 9 Kd.string)).sz=1 from rfl,Nat.mul_one,Nat.add_zero] at hf14_0);clear hcl14 hcc14 hfr14 hM14;replace p14:=eq_true p14;replace q14:=eq_true q14;have n_:=zA.mk (Kd.N_mono (ok':=(fun k_=>(w.heap.size≤k_)∧some k_≠((.slice vA251 y250.length vc251):Value).ownBlock∧k_≠vz∧k_≠vM)) HO_5.out (fun k_ hk=>⟨hk.1.1.1,⟨hk.2,⟨hk.1.1.2,hk.1.2⟩⟩⟩));clear HO_5;have HO_5:=n_;clear n_;have HX20:=zA.mk (show Kd.N (Kd.slice 9 Kd.string) 32 w18 w.heap.size (fun k_=>(w.heap.size≤k_)∧k_≠vz∧k_≠vM) (.slice (some ⟨go14,0,none⟩) x5_1.length co14) x5_1 from (by (with_reducible repeat (first|apply Kd.N_alloc|apply Kd.N_drewN|apply Kd.N_drew));exact Kd.N_mono HO_5.out (fun _ hk=>⟨hk.1,⟨hk.2.2.1,hk.2.2.2⟩⟩)));obtain ⟨ce20,hcl20,hM20,hcc20,hfr20⟩:=Kd.N_elem HX20.out [] (x18_1:Int) (Qa) QU;obtain ⟨ua20_0,uc20_0,rfl,ul20_0,ge20_0⟩:=Kd.FK_slice_open hM20;have HP20:=Kd.N_seg HX20.out (x18_1:Int) (Qa) QU (seg:= [(.slice vA251 y250.length vc251)]) (j:=0) hcl20 hcc20 (show 1≤1 from by decide) (x':=y250) (Kd.FK_slice_mk (Kd.R_reads' (Kd.R_mono (ok':=(fun k_=>((fun k_=>(w.heap.size≤k_)∧k_≠vz∧k_≠vM)) k_∧k_≠go14)) (Kd.R_types (Kd.R_types (Kd.R_apart' (HO252.out) (Kd.N_typed HO_5.out) (by decide)) BK244.out (by decide)) BK249.out (by decide)) (fun k_ hk=>⟨⟨hk.1.1.1.1,⟨hk.1.2,hk.2⟩⟩,fun e_=>(hk.1.1.2) (by rw [e_];rfl)⟩))).2.1 (Kd.R_F (Kd.R_mono (ok':=(fun k_=>((fun k_=>(w.heap.size≤k_)∧k_≠vz∧k_≠vM)) k_∧k_≠go14)) (Kd.R_types (Kd.R_types (Kd.R_apart' (HO252.out) (Kd.N_typed HO_5.out) (by decide)) BK244.out (by decide)) BK249.out (by decide)) (fun k_ hk=>⟨⟨hk.1.1.1.1,⟨hk.1.2,hk.2⟩⟩,fun e_=>(hk.1.1.2) (by rw [e_];rfl)⟩)))) (fun _ hk=>hk);have hx20_0:=hcc20 0 _ rfl;(try simp only [show ((Kd.slice 9 Kd.string)).sz=1 from rfl,Nat.mul_one,Nat.add_zero] at hx20_0);have hf20_0:=hfr20 0;(try simp only [show ((Kd.slice 9 Kd.string)).sz=1 from rfl,Nat.mul_one,Nat.add_zero] at hf20_0);clear hcl20 hcc20 hfr20 hM20;(try simp only [show ((Kd.slice 9 Kd.string)).sz=1 from rfl,Nat.mul_one,Nat.add_zero] at HP20);(try simp only [show ((Kd.slice 9 Kd.string)).sz=1 from rfl,Nat.mul_one,Nat.add_zero] at HP20))|((with_reducible refine qQ (t:=32) (p:=26) rfl ?_);refine Yr (t:=32) (p:=26) (v:= ?vo_w21) (w1:=(w18.setCell ⟨go14,(x18_1:Int).toNat,none⟩ ((.slice vA251 y250.length vc251)))) ?hg ?ho ?hn ?hr ?_;(case ho=>rfl);(case hg=>rfl);(case hn=>rfl);(case hr=>exact Qm);intro w21 hw;have hg:w18.grownBy w21 (some go14):=(by rw [hw];exact HP20.2);have hp_:Kd.N (Kd.slice 9 Kd.string) 32 w21 w.heap.size (fun k_=>(w.heap.size≤k_)∧k_≠vz∧k_≠vM) (.slice (some ⟨go14,0,none⟩) x5_1.length co14) y253:=(by rw [hw,Ny253.out];exact HP20.1);clear HP20;have n0_:=zA.mk (hp_);have n1_:=zA.mk (yy (g:=vz) (Qi BK244) hg (Kd.N_ne HO_5.out BK244.out (by decide)));have n2_:=zA.mk (yy (g:=vM) (Qi BK249) hg (Kd.N_ne HO_5.out BK249.out (by decide)));have n3_:=zA.mk ((by rw [hw];exact zK (HB.out) GB14.out:Below w.heap.size w w21));clear HO_5 BK244 BK249 HB HO252;have HO_5:=n0_;have BK244:=n1_;have BK249:=n2_;have HB:=n3_;clear n0_ n1_ n2_ n3_ hg hw hp_;have hcz22_0:=Qn BK249 0 rfl;have hcz22_1:=Qn BK249 1 rfl;have hfz22_0:=zB BK249.out 0;have hfz22_1:=zB BK249.out 1))
         go_loopg [30] k1 (fun kq v30 w'=>∃(x5_2:List (List ByteArray)) (x30_2:Int),v30= .int .i64 x30_2∧zA (yA.l1 kq l1 x5_2 x18_1 l0_3 (l0_3.length:Int) x18_1 ((zD l0_3 x18_1).f1) (((zD l0_3 x18_1).f1).length:Int) x30_2 a0_0 a0_1 l0_2 l0_3=some r)∧zA (kq≤k1)∧zA (Kd.N (Kd.slice 9 Kd.string) 32 w' w.heap.size (fun k_=>(w.heap.size≤k_)∧k_≠vz∧k_≠vM) (.slice (some ⟨go14,0,none⟩) x5_1.length co14) x5_2)∧zA (w'.heap[vz]? =some (.cells #[.int .i64 a0_0, .int .i64 a0_1,(.slice vi l0_2.length vk),(.slice (some ad248) l0_3.length vl)] 25 (0,0)))∧zA (w'.heap[vM]? =some (.cells #[.int .i64 ((zD l0_3 x18_1).f0),(.slice A248_1 ((zD l0_3 x18_1).f1).length c248_1)] 45 (0,0)))∧zA (Below w.heap.size w w'))
         case atStart=>exact ⟨(y253),(0),Zb,H',⟨Nat.le_refl _⟩,⟨Qk HO_5⟩,⟨Qi BK244⟩,⟨Qi BK249⟩,⟨by repeat (first|(with_reducible first|exact HB.out|apply zG|apply zC|apply zF|refine zK ?_ vP.out|refine zK ?_ wh.out)|exact HB.out)⟩⟩
         case round=>
          clear H';(try clear c1);(try clear p1);(try clear q1);(try clear hx1);(try clear c2);(try clear p2);(try clear q2);(try clear hx2);(try clear hf2);(try clear c3);(try clear c3b0);(try clear c3b1);(try clear c4);(try clear c4b0);(try clear c4b1);(try clear c10);(try clear c10b0);(try clear c11);(try clear c11b0);(try clear c12);(try clear c12b0);(try clear c13);(try clear c13b0);(try clear c14);(try clear p14);(try clear q14);(try clear hx14);(try clear hf14);(try clear c16);(try clear c17);(try clear c20);(try clear hx20);(try clear hf20);(try clear hcz17_0);(try clear hcz17_1);(try clear hcz22_0);(try clear hcz22_1);(try clear hcz6_0);(try clear hcz6_1);(try clear hcz6_2);(try clear hcz6_3);(try clear hcz9_0);(try clear hcz9_1);(try clear hcz9_2);(try clear hcz9_3);(try clear hfz17_0);(try clear hfz17_1);(try clear hfz22_0);(try clear hfz22_1);(try clear hfz6_0);(try clear hfz6_1);(try clear hfz6_2);(try clear hfz6_3);(try clear hfz9_0);(try clear hfz9_1);(try clear hfz9_2);(try clear hfz9_3);(try clear hx14_0);(try clear hx20_0);(try clear hx248_0);(try clear hx248_1);(try clear p14);(try clear p2);(try clear p248);(try clear q14);(try clear q248);obtain ⟨x5_2,x30_2,rfl,HA,HK2,HO_5,BK244,BK249,HB⟩:=hrel;have hl5_2:=(Kd.N_reads' HO_5.out).1;rw [hl5_2] at HO_5;(try simp only [hl5_2]);(try simp only [hl5_2] at BK244);(try simp only [hl5_2] at BK249);cases gk with
          | zero=>exact absurd HA.out (by simp [yA.l1])
          | succ k2=>
           have H:=HA.out;clear HA;simp only [yA.l1] at H
           by_cases c23:x30_2 < (((zD l0_3 x18_1).f1).length:Int)
           ·rw [if_pos c23] at H
            have c23b0:=decide_eq_true c23;clear c23
            by_cases c24:0≤x30_2
            ·rw [if_pos c24] at H
             have c24b0:=decide_eq_true c24;clear c24
             by_cases c25:x30_2 < (((zD l0_3 x18_1).f1).length:Int)
             ·rw [if_pos c25] at H
              have c25b0:=decide_eq_true c25;clear c25;obtain ⟨y256,hy256⟩:∃y_:List Int,y_=(([((zi ((zD l0_3 x18_1).f1) x30_2).f1) % 256]:List Int)):=⟨_,rfl⟩;replace H:(if (zi ((zD l0_3 x18_1).f1) x30_2).f0=true then (if 0≤x18_1 then (if x18_1 < (x5_2.length:Int) then ((zq.f k2 (zh x5_2 x18_1) (([strOfNums y256]:List ByteArray)) a0_1).bind fun t263=>(yA.l1 k2 l1 (x5_2.set (x18_1:Int).toNat t263) x18_1 l0_3 (l0_3.length:Int) x18_1 ((zD l0_3 x18_1).f1) (((zD l0_3 x18_1).f1).length:Int) (wrap64 (x30_2 + 1)) a0_0 a0_1 l0_2 l0_3)) else (none)) else (none)) else (if 0≤((zi ((zD l0_3 x18_1).f1) x30_2).f1) then (if ((zi ((zD l0_3 x18_1).f1) x30_2).f1) < (l1.length:Int) then (if 0≤x18_1 then (if x18_1 < (x5_2.length:Int) then ((zq.f k2 (zh x5_2 x18_1) (zh l1 ((zi ((zD l0_3 x18_1).f1) x30_2).f1)) a0_1).bind fun t269=>(yA.l1 k2 l1 (x5_2.set (x18_1:Int).toNat t269) x18_1 l0_3 (l0_3.length:Int) x18_1 ((zD l0_3 x18_1).f1) (((zD l0_3 x18_1).f1).length:Int) (wrap64 (x30_2 + 1)) a0_0 a0_1 l0_2 l0_3)) else (none)) else (none)) else (none)) else (none)))=some r:=Qb hy256 H;have Ny256:=zA.mk hy256;clear hy256;obtain ⟨y259,hy259⟩:∃y_:List ByteArray,y_=(([strOfNums y256]:List ByteArray)):=⟨_,rfl⟩;replace H:(if (zi ((zD l0_3 x18_1).f1) x30_2).f0=true then (if 0≤x18_1 then (if x18_1 < (x5_2.length:Int) then ((zq.f k2 (zh x5_2 x18_1) y259 a0_1).bind fun t263=>(yA.l1 k2 l1 (x5_2.set (x18_1:Int).toNat t263) x18_1 l0_3 (l0_3.length:Int) x18_1 ((zD l0_3 x18_1).f1) (((zD l0_3 x18_1).f1).length:Int) (wrap64 (x30_2 + 1)) a0_0 a0_1 l0_2 l0_3)) else (none)) else (none)) else (if 0≤((zi ((zD l0_3 x18_1).f1) x30_2).f1) then (if ((zi ((zD l0_3 x18_1).f1) x30_2).f1) < (l1.length:Int) then (if 0≤x18_1 then (if x18_1 < (x5_2.length:Int) then ((zq.f k2 (zh x5_2 x18_1) (zh l1 ((zi ((zD l0_3 x18_1).f1) x30_2).f1)) a0_1).bind fun t269=>(yA.l1 k2 l1 (x5_2.set (x18_1:Int).toNat t269) x18_1 l0_3 (l0_3.length:Int) x18_1 ((zD l0_3 x18_1).f1) (((zD l0_3 x18_1).f1).length:Int) (wrap64 (x30_2 + 1)) a0_0 a0_1 l0_2 l0_3)) else (none)) else (none)) else (none)) else (none)))=some r:=Qb hy259 H;have Ny259:=zA.mk hy259;clear hy259;obtain ⟨bq26,hbq26⟩:∃b_:Bool,b_=((zi ((zD l0_3 x18_1).f1) x30_2).f0):=⟨_,rfl⟩
              replace H:(if bq26=true then (if 0≤x18_1 then (if x18_1 < (x5_2.length:Int) then ((zq.f k2 (zh x5_2 x18_1) y259 a0_1).bind fun t263=>(yA.l1 k2 l1 (x5_2.set (x18_1:Int).toNat t263) x18_1 l0_3 (l0_3.length:Int) x18_1 ((zD l0_3 x18_1).f1) (((zD l0_3 x18_1).f1).length:Int) (wrap64 (x30_2 + 1)) a0_0 a0_1 l0_2 l0_3)) else (none)) else (none)) else (if 0≤((zi ((zD l0_3 x18_1).f1) x30_2).f1) then (if ((zi ((zD l0_3 x18_1).f1) x30_2).f1) < (l1.length:Int) then (if 0≤x18_1 then (if x18_1 < (x5_2.length:Int) then ((zq.f k2 (zh x5_2 x18_1) (zh l1 ((zi ((zD l0_3 x18_1).f1) x30_2).f1)) a0_1).bind fun t269=>(yA.l1 k2 l1 (x5_2.set (x18_1:Int).toNat t269) x18_1 l0_3 (l0_3.length:Int) x18_1 ((zD l0_3 x18_1).f1) (((zD l0_3 x18_1).f1).length:Int) (wrap64 (x30_2 + 1)) a0_0 a0_1 l0_2 l0_3)) else (none)) else (none)) else (none)) else (none)))=some r:=by rw [←hbq26] at H;exact H
              have Nbq26:=zA.mk hbq26;clear hbq26
              by_cases c27:bq26=true
              ·subst c27
               have H1:(if 0≤x18_1 then (if x18_1 < (x5_2.length:Int) then ((zq.f k2 (zh x5_2 x18_1) y259 a0_1).bind fun t263=>(yA.l1 k2 l1 (x5_2.set (x18_1:Int).toNat t263) x18_1 l0_3 (l0_3.length:Int) x18_1 ((zD l0_3 x18_1).f1) (((zD l0_3 x18_1).f1).length:Int) (wrap64 (x30_2 + 1)) a0_0 a0_1 l0_2 l0_3)) else (none)) else (none))=some r:=by rw [if_pos rfl] at H;exact H
               clear H;have H:=H1;clear H1
               by_cases c28:0≤x18_1
               ·rw [if_pos c28] at H
                have c28b0:=decide_eq_true c28;clear c28
                by_cases c29:x18_1 < (x5_2.length:Int)
                ·rw [if_pos c29] at H
                 have c29b0:=decide_eq_true c29;clear c29;replace H:=ZzB H;obtain ⟨t263,A300,H⟩:=H;replace H:(yA.l1 k2 l1 (x5_2.set (x18_1:Int).toNat t263) x18_1 l0_3 (l0_3.length:Int) x18_1 ((zD l0_3 x18_1).f1) (((zD l0_3 x18_1).f1).length:Int) (wrap64 (x30_2 + 1)) a0_0 a0_1 l0_2 l0_3)=some r:=H;have A30:=zA.mk A300;clear A300;obtain ⟨y266,hy266⟩:∃y_:List (List ByteArray),y_=(x5_2.set (x18_1:Int).toNat t263):=⟨_,rfl⟩;replace H:(yA.l1 k2 l1 y266 x18_1 l0_3 (l0_3.length:Int) x18_1 ((zD l0_3 x18_1).f1) (((zD l0_3 x18_1).f1).length:Int) (wrap64 (x30_2 + 1)) a0_0 a0_1 l0_2 l0_3)=some r:=Qb hy266 H;have Ny266:=zA.mk hy266;clear hy266;have H':=zA.mk H;clear H;have p254:0≤(x30_2:Int):=Qa;have q254:x30_2 < (((zD l0_3 x18_1).f1).length:Int):=Qa;obtain ⟨ad254,e254,hx254_0,hx254_1⟩:=ZF HR248_1.out x30_2 p254 q254
                 (try rw [←Nbq26.out] at hx254_0)
                 cases e254;replace hx254_0:=(HB.out.cell (ZzA w _ hx254_0)).trans hx254_0;replace hx254_1:=(HB.out.cell (ZzA w _ hx254_1)).trans hx254_1;replace p254:=eq_true p254;replace q254:=eq_true q254
                 try go_wp2_with (first|((with_reducible refine yB (N:=9) rfl ?_);refine yH ?hg (N:=9) ?hd (cs:= #[.bool false, .int .i64 0]) (t:=51) ?hr ?_;(case hd=>rfl);(case hg=>rfl);(case hr=>exact Qm);intro vT hg w32 hbox hb;have n0_:=zA.mk (Kd.N_below (Kd.N_elderB (Qk HO_5) vT (Nat.le_of_eq hg.symm)) hb);have n1_:=zA.mk (ze (g:=vz) (Qi BK244) hb);have n2_:=zA.mk (ze (g:=vM) (Qi BK249) hb);have n3_:=zA.mk (zH (Qe vP wh) hb);have n4_:=zA.mk (hbox);have n5_:=zA.mk ((by rw [hg];exact (zE (Qe vP wh)):w.heap.size≤vT));have n6_:=zA.mk ((by rw [hg];exact (zE (Qe vP wh)):w.heap.size≤vT));have n7_:=zA.mk ((by rw [hg];exact Nat.ne_of_lt (yG (g:=vz) (Qi BK244)):vz≠vT));have n8_:=zA.mk ((by rw [hg];exact Nat.ne_of_gt (yG (g:=vz) (Qi BK244)):vT≠vz));have n9_:=zA.mk ((by rw [hg];exact Nat.ne_of_lt (yG (g:=vM) (Qi BK249)):vM≠vT));have n10_:=zA.mk ((by rw [hg];exact Nat.ne_of_gt (yG (g:=vM) (Qi BK249)):vT≠vM));clear HO_5 BK244 BK249 HB;have HO_5:=n0_;have BK244:=n1_;have BK249:=n2_;have HB:=n3_;have vD:=n4_;have GW255:=n5_;have wQ:=n6_;have NB244_255:=n7_;have NB255_244:=n8_;have NB249_255:=n9_;have NB255_249:=n10_;clear n0_ n1_ n2_ n3_ n4_ n5_ n6_ n7_ n8_ n9_ n10_ hb hbox hg;have hnb33:=NB255_244.out;have hnc33:=NB244_255.out;have hnb34:=NB255_249.out;have hnc34:=NB249_255.out;have hcz35_0:=Qn vD 0 rfl;have hcz35_1:=Qn vD 1 rfl;have hfz35_0:=zB vD.out 0;have hfz35_1:=zB vD.out 1)|((with_reducible refine yB (N:=37) rfl ?_);refine Kd.R_lit (Kd.int .u8) _ 5 ?hg (N:=37) ?hd (xs:=([((zi ((zD l0_3 x18_1).f1) x30_2).f1) % 256]:List Int)) (inner:= [.int .u8 (((zi ((zD l0_3 x18_1).f1) x30_2).f1) % 256)]) (ok:=fun _=>True) (okp:=fun _=>True) ?hr ?hp (fun _ hk=>hk) trivial (Below.refl _ _) (Nat.le_refl _) (by simp) ?_;(case hd=>rfl);(case hg=>rfl);(case hr=>exact Qm);(case hp=>exact (Reps.one (show Kd.M (Kd.int .u8) _ _ _ (((zi ((zD l0_3 x18_1).f1) x30_2).f1) % 256) [.int .u8 (((zi ((zD l0_3 x18_1).f1) x30_2).f1) % 256)] from rfl) (Reps.none _ _)));intro v257 w36 ho37 hb hg_ hnew_;clear hg_ hnew_;(first|rw [←Ny256.out] at ho37|(simp only [Int.reduceToNat] at ho37;rw [←Ny256.out] at ho37));have n0_:=zA.mk (Kd.N_elder' (by (with_reducible repeat (first|apply Kd.N_alloc|apply Kd.N_drewN|apply Kd.N_drew));exact (Kd.N_mono (Kd.N_far (p:=⟨vT,1,none⟩) (Kd.N_far (p:=⟨vT,0,none⟩) (Kd.N_mono HO_5.out (fun k_ hk=>(⟨hk,hk.2⟩:_∧k_≠vT))) (fun _ hk=>hk.2) (.bool true)) (fun _ hk=>hk.2) (.int .i64 ((zi ((zD l0_3 x18_1).f1) x30_2).f1))) (fun _ h_=>h_.1))) (Kd.R_base ho37) hb);have n1_:=zA.mk (Kd.R_lower (Kd.R_newM (M:=fun k_=>(w.heap.size≤k_)) ho37 (zE (Qf vP wh wQ)) (fun k_ h_=>h_)) (zE (Qf vP wh wQ)));have n2_:=zA.mk (ze (g:=vz) (o:= .cells #[.int .i64 a0_0, .int .i64 a0_1, .slice vi l0_2.length vk, .slice (some ad248) l0_3.length vl] 25 (0,0)) Qv hb);have n3_:=zA.mk (ze (g:=vM) (o:= .cells #[.int .i64 ((zD l0_3 x18_1).f0), .slice (some ad254) ((zD l0_3 x18_1).f1).length c248_1] 45 (0,0)) Qw hb);have n4_:=zA.mk (ze (g:=vT) (o:= .cells #[.bool true, .int .i64 ((zi ((zD l0_3 x18_1).f1) x30_2).f1)] 51 (0,0)) (by (with_reducible repeat (first|refine zO ?_ _|refine zQ ?_|refine zM ?_ _));refine yU (cs:= #[.bool true, .int .i64 0]) ?_ 1 _ rfl;(with_reducible repeat (first|refine zO ?_ _|refine zQ ?_|refine zM ?_ _));refine yU (cs:= #[.bool false, .int .i64 0]) ?_ 0 _ rfl;(with_reducible repeat (first|refine zO ?_ _|refine zQ ?_|refine zM ?_ _));exact vD.out) hb);have n5_:=zA.mk (zH (Qf vP wh wQ) hb);clear HO_5 BK244 BK249 vD HB;have HO_5:=n0_;have wx:=n1_;have BK244:=n2_;have BK249:=n3_;have vD:=n4_;have HB:=n5_;clear n0_ n1_ n2_ n3_ n4_ n5_ hb ho37;have hcv38:=Zf (P:=Try.prog) Try.underlying76 Try.underlying5 Try.underlying9 (Kd.own_of_R wx.out))|((with_reducible refine yB (N:=39) rfl ?_);refine Kd.R_lit Kd.string _ 9 ?hg (N:=39) ?hd (xs:=([strOfNums y256]:List ByteArray)) (inner:= [.string (strOfNums y256)]) (ok:=fun _=>True) (okp:=fun _=>True) ?hr ?hp (fun _ hk=>hk) trivial (Below.refl _ _) (Nat.le_refl _) (by simp) ?_;(case hd=>rfl);(case hg=>rfl);(case hr=>exact Qm);(case hp=>exact (Reps.one (show Kd.M Kd.string _ _ _ (strOfNums y256) [.string (strOfNums y256)] from rfl) (Reps.none _ _)));intro v260 w39 ho40 hb hg_ hnew_;clear hg_ hnew_;(first|rw [←Ny259.out] at ho40|(simp only [Int.reduceToNat] at ho40;rw [←Ny259.out] at ho40));have n0_:=zA.mk (Kd.N_elder' (Qk HO_5) (Kd.R_base ho40) hb);have n1_:=zA.mk (Kd.R_below (Qh wx) hb);have n2_:=zA.mk (Kd.R_lower (Kd.R_newM (M:=fun k_=>(w.heap.size≤k_)) ho40 (zE (Qf vP wh wQ)) (fun k_ h_=>h_)) (zE (Qf vP wh wQ)));have n3_:=zA.mk (ze (g:=vz) (Qi BK244) hb);have n4_:=zA.mk (ze (g:=vM) (Qi BK249) hb);have n5_:=zA.mk (ze (g:=vT) (o:= .cells #[.bool true, .int .i64 ((zi ((zD l0_3 x18_1).f1) x30_2).f1)] 51 (0,0)) (Qi vD) hb);have n6_:=zA.mk (zH (Qf vP wh wQ) hb);clear HO_5 wx BK244 BK249 vD HB;have HO_5:=n0_;have wx:=n1_;have Vb:=n2_;have BK244:=n3_;have BK249:=n4_;have vD:=n5_;have HB:=n6_;clear n0_ n1_ n2_ n3_ n4_ n5_ n6_ hb ho40;have hcz41_0:=Qn vD 0 rfl;have hcz41_1:w39.cell? ⟨vT,1,none⟩=some (.int .i64 ((zi ((zD l0_3 x18_1).f1) x30_2).f1)):=(zR vD.out 1).trans rfl;have hfz41_0:=zB vD.out 0;have hfz41_1:=zB vD.out 1))
                 have n0_:=zA.mk (Kd.N_drew HO_5.out);have n1_:=zA.mk (Kd.R_drew wx.out);have n2_:=zA.mk (Kd.R_drew Vb.out);have n3_:=zA.mk (zQ BK244.out);have n4_:=zA.mk (zQ BK249.out);have n5_:=zA.mk (zQ vD.out);have n6_:=zA.mk (zF HB.out);clear HO_5 wx Vb BK244 BK249 vD HB;have HO_5:=n0_;have wx:=n1_;have Vb:=n2_;have BK244:=n3_;have BK249:=n4_;have vD:=n5_;have HB:=n6_;clear n0_ n1_ n2_ n3_ n4_ n5_ n6_;have p262:0≤(x18_1:Int):=Qa;have q262:x18_1 < (x5_2.length:Int):=Qa;obtain ⟨ad262,A262_0,c262_0,e262,hx262_0,hl262_0,hi262_0⟩:=ZV (Kd.N_reads' HO_5.out).2.2 x18_1 p262 q262;obtain rfl:(⟨go14,0,none⟩:Addr)=ad262:=(by injection e262);obtain ⟨ce262,hce262,hMe262,hcc262⟩:=Kd.N_get HO_5.out [] x18_1 p262 (by first|exact q262|exact Qa|(have e_:=(Kd.N_reads' HO_5.out).1;omega));obtain ⟨ua262_0,uc262_0,rfl,ul262_0,ge262_0⟩:=Kd.FK_slice_open hMe262;have hv262_0:=hcc262 0 _ rfl;rw [Nat.add_zero,show ((Kd.slice 9 Kd.string)).sz=1 from rfl,Nat.mul_one] at hv262_0;replace hv262_0:=Option.some.inj (hv262_0.symm.trans hx262_0)
                 injection hv262_0 with hva_ hvn_ hvc_
                 rw [hva_] at ge262_0;rw [hvc_] at ul262_0;have HL262_0:=zA.mk (show Kd.V Kd.string 9 _ w.heap.size _ _ (zh x5_2 x18_1) from Kd.V_mk ul262_0 ge262_0);clear hva_ hvn_ hvc_ ge262_0 ul262_0 hcc262 hce262
                 (first|simp only [ZC] at hx262_0|simp only [add_at] at hx262_0|simp only [Addr.add,Nat.zero_add] at hx262_0|skip)
                 have HR262_0:=zA.mk hi262_0;have HC262_0:=zA.mk hl262_0;clear hi262_0 hl262_0;replace p262:=eq_true p262;replace q262:=eq_true q262;obtain ⟨Ao43,co43,eo43⟩:=Kd.R_slice Vb.out
                 (first|subst eo43|(injection eo43 with f1_ f2_ f3_;have f4_:=f1_.symm;have f5_:=f3_.symm;clear f1_ f2_ f3_;subst f4_;subst f5_))
                 refine Zr (n:=12) (S:=fun w'=>w'.cell? ⟨vz,0,none⟩=some (.int .i64 a0_0)∧w'.cell? ⟨vz,1,none⟩=some (.int .i64 a0_1)∧w'.cell? ⟨vz,2,none⟩=some (.slice vi l0_2.length vk)∧w'.cell? ⟨vz,3,none⟩=some (.slice (some ad248) l0_3.length vl)∧w'.cell? ⟨go14,(x18_1).toNat,none⟩=some (.slice A262_0 (zh x5_2 x18_1).length c262_0)) (ds:= [11]) #[false,false,false,false,false,false,false,false,false,false,false,false] (by kernel_rfl) rfl rfl ⟨(zR BK244.out 0).trans rfl,(zR BK244.out 1).trans rfl,(zR BK244.out 2).trans rfl,(zR BK244.out 3).trans rfl,hx262_0⟩ (fun hHeld=> ?_);refine ZJ yA.tab12 yA.bits12 (fun HT_ HW_=> ?_)
                 generalize w39.drew=w42 at HO_5 wx Vb BK244 BK249 vD HB HL262_0 HR262_0 hx262_0 hHeld⊢
                 refine yM (i:=0) (N:=some 48) (v:= ?_) (a':= ?_) #[true,false,false,false,false,false,false,false,false,false,false,false] rfl rfl (yD HT_.out (by kernel_rfl)) (fun _ _ _ h=>h) (Or.inl ⟨by rfl,?_⟩) ?_ ?_;rotate_left
                 ·intro w'
                  go_simp
                  with_reducible rfl
                 rotate_left
                 ·simp only [Act.put,List.setIfInBounds_toArray,List.set_cons_zero,List.set_cons_succ,zx,zy]
                  rfl
                 refine yM (i:=1) (N:=some 49) (v:= ?_) (a':= ?_) #[true,true,false,false,false,false,false,false,false,false,false,false] rfl rfl (yD HT_.out (by kernel_rfl)) (fun _ _ _ h=>h) (Or.inl ⟨by rfl,?_⟩) ?_ ?_;rotate_left
                 ·intro w'
                  go_simp
                  with_reducible rfl
                 rotate_left
                 ·simp only [Act.put,List.setIfInBounds_toArray,List.set_cons_zero,List.set_cons_succ,zx,zy]
                  rfl
                 refine yM (i:=2) (N:=some 50) (v:= ?_) (a':= ?_) #[true,true,true,false,false,false,false,false,false,false,false,false] rfl rfl (yD HT_.out (by kernel_rfl)) (fun _ _ _ h=>h) (Or.inl ⟨by rfl,?_⟩) ?_ ?_;rotate_left
                 ·intro w'
                  go_simp
                  with_reducible rfl
                 rotate_left
                 ·simp only [Act.put,List.setIfInBounds_toArray,List.set_cons_zero,List.set_cons_succ,zx,zy]
                  rfl
                 refine yM (i:=3) (N:=some 51) (v:= ?_) (a':= ?_) #[true,true,true,true,false,false,false,false,false,false,false,false] rfl rfl (yD HT_.out (by kernel_rfl)) (fun _ _ _ h=>h) (Or.inl ⟨by rfl,?_⟩) ?_ ?_;rotate_left
                 ·intro w'
                  go_simp
                  with_reducible rfl
                 rotate_left
                 ·simp only [Act.put,List.setIfInBounds_toArray,List.set_cons_zero,List.set_cons_succ,zx,zy]
                  rfl
                 refine yM (i:=4) (N:=some 52) (v:= ?_) (a':= ?_) #[true,true,true,true,true,false,false,false,false,false,false,false] rfl rfl (yD HT_.out (by kernel_rfl)) (fun _ _ _ h=>h) (Or.inl ⟨by rfl,?_⟩) ?_ ?_;rotate_left
                 ·intro w'
                  go_simp
                  with_reducible rfl
                 rotate_left
                 ·simp only [Act.put,List.setIfInBounds_toArray,List.set_cons_zero,List.set_cons_succ,zx,zy]
                  rfl
                 refine yM (i:=6) (N:=some 54) (v:= ?_) (a':= ?_) #[true,true,true,true,true,false,true,false,false,false,false,false] rfl rfl (yD HT_.out (by kernel_rfl)) (fun _ _ _ h=>h) (Or.inl ⟨by rfl,?_⟩) ?_ ?_;rotate_left
                 ·intro w'
                  go_simp
                  with_reducible rfl
                 rotate_left
                 ·simp only [Act.put,List.setIfInBounds_toArray,List.set_cons_zero,List.set_cons_succ,zx,zy]
                  rfl
                 refine yM (i:=7) (N:=some 55) (v:= ?_) (a':= ?_) #[true,true,true,true,true,false,true,true,false,false,false,false] rfl rfl (yD HT_.out (by kernel_rfl)) (fun _ _ _ h=>h) (Or.inl ⟨by rfl,?_⟩) ?_ ?_;rotate_left
                 ·intro w'
                  go_simp
                  with_reducible rfl
                 rotate_left
                 ·simp only [Act.put,List.setIfInBounds_toArray,List.set_cons_zero,List.set_cons_succ,zx,zy]
                  rfl
                 refine take_ (i:=5) (N:=some 53) (v:= ?_) (a':= ?_) #[true,true,true,true,true,true,true,true,false,false,false,false] rfl rfl (yb HT_.out HW_.out (by kernel_rfl)) (fun _ _ _ h=>h) (Or.inl ⟨by rfl,?_⟩) hHeld ?_ ?_;rotate_left
                 ·rintro w' ⟨s0,s1,s2,s3,s4⟩
                  go_simp
                  with_reducible rfl
                 rotate_left
                 ·simp only [Act.put,List.setIfInBounds_toArray,List.set_cons_zero,List.set_cons_succ,zx,zy]
                  rfl
                 refine take_ (i:=8) (N:=some 56) (v:= ?_) (a':= ?_) #[true,true,true,true,true,true,true,true,true,false,false,false] rfl rfl (yb HT_.out HW_.out (by kernel_rfl)) (fun _ _ _ h=>h) (Or.inl ⟨by rfl,?_⟩) hHeld ?_ ?_;rotate_left
                 ·rintro w' ⟨s0,s1,s2,s3,s4⟩
                  go_simp
                  with_reducible rfl
                 rotate_left
                 ·simp only [Act.put,List.setIfInBounds_toArray,List.set_cons_zero,List.set_cons_succ,zx,zy]
                  rfl
                 refine one_ (i:=9) (N:=some 57) #[true,true,true,true,true,true,true,true,true,true,false,false] rfl rfl (ym HT_.out (by kernel_rfl)) (by decide) (fun K hK=> ?_);refine Yo Try.func18 (by kernel_rfl) rfl #[.slice A262_0 (zh x5_2 x18_1).length c262_0, .slice Ao43 y259.length co43, .int .i64 a0_1] (by rfl) rfl rfl QX ?_
                 with_reducible refine (zq.calls k2 _ _ (zh x5_2 x18_1) _ _ y259 a0_1 t263 _ ?side1 ?side2 ?side3 ?side4 A30.out).mono ?_
                 (case side1=>repeat (first|exact QC|(with_reducible refine Kd.C_alloc ?_ _)|(with_reducible refine Kd.C_drewN ?_ _)|(with_reducible refine Kd.C_drew ?_)))
                 (case side2=>exact HC262_0.out)
                 (case side3=>repeat (first|exact (Kd.R_reads' Vb.out).2.2|(with_reducible refine Kd.C_alloc ?_ _)|(with_reducible refine Kd.C_drewN ?_ _)|(with_reducible refine Kd.C_drew ?_)))
                 (case side4=>exact (Kd.R_reads' Vb.out).2.1)
                 rintro e w44 ⟨v264,rfl,ho0,hb⟩;have HS4_:=(hb.cell (ZzA _ _ (hHeld.2.2.2.2))).trans (hHeld.2.2.2.2);refine ⟨_,rfl,?_⟩;have n0_:=zA.mk (Kd.N_elder' (Qk HO_5) (Kd.R_base ho0) hb);have n1_:=zA.mk (Kd.R_below (Qh wx) hb);have n2_:=zA.mk (Kd.R_elder' (Qh Vb) (Kd.R_base ho0) hb);have n3_:=zA.mk (Kd.V_elder' (Ql HL262_0) (Kd.R_base ho0) hb);have n4_:=zA.mk (Kd.R_lower (Kd.R_new' (Kd.R_newM (M:=fun k_=>(w.heap.size≤k_)) ho0 (zE (Qf vP wh wQ)) (fun k_ h_=>h_)) (Kd.R_lt (Qh Vb))) (zE (Qf vP wh wQ)));have n5_:=zA.mk (ze (g:=vz) (Qi BK244) hb);have n6_:=zA.mk (ze (g:=vM) (Qi BK249) hb);have n7_:=zA.mk (ze (g:=vT) (o:= .cells #[.bool true, .int .i64 ((zi ((zD l0_3 x18_1).f1) x30_2).f1)] 51 (0,0)) (Qi vD) hb);have n8_:=zA.mk (Kd.C_below QC hb);have n9_:=zA.mk (zH (Qf vP wh wQ) hb);clear HO_5 wx Vb HL262_0 BK244 BK249 vD HR262_0 HB;have HO_5:=n0_;have wx:=n1_;have Vb:=n2_;have HL262_0:=n3_;have HO265:=n4_;have BK244:=n5_;have BK249:=n6_;have vD:=n7_;have HR262_0:=n8_;have HB:=n9_;clear n0_ n1_ n2_ n3_ n4_ n5_ n6_ n7_ n8_ n9_;obtain ⟨vA264,vc264,rfl⟩:=Kd.R_slice HO265.out;(try clear hb ho0);have p31:0≤(x18_1:Int):=Qa;have q31:(x18_1:Int) < ((x5_2.length:Int):Int):=Qa;obtain ⟨ce31,hcl31,hM31,hcc31,hfr31⟩:=Kd.N_elem HO_5.out [] (x18_1:Int) p31 q31;obtain ⟨ua31_0,uc31_0,rfl,ul31_0,ge31_0⟩:=Kd.FK_slice_open hM31;have hx31_0:=hcc31 0 _ rfl;have hf31_0:=hfr31 0
                 (try simp only [show ((Kd.slice 9 Kd.string)).sz=1 from rfl,Nat.mul_one,Nat.add_zero] at hx31_0)
                 (try simp only [show ((Kd.slice 9 Kd.string)).sz=1 from rfl,Nat.mul_one,Nat.add_zero] at hf31_0)
                 clear hcl31 hcc31 hfr31 hM31;replace p31:=eq_true p31;replace q31:=eq_true q31;have HX45:=zA.mk (show Kd.N (Kd.slice 9 Kd.string) 32 _ w.heap.size (fun k_=>(w.heap.size≤k_)∧some k_≠(v257:Value).ownBlock∧some k_≠(.slice Ao43 y259.length co43:Value).ownBlock∧some k_≠((.slice vA264 t263.length vc264):Value).ownBlock∧k_≠vz∧k_≠vM∧k_≠vT) (.slice (some ⟨go14,0,none⟩) x5_2.length co14) x5_2 from (Kd.N_mono (HO_5.out) (fun k_ hk=>⟨hk.1.1.1.1.1,⟨hk.1.1.2,⟨hk.1.2,⟨hk.2,⟨hk.1.1.1.1.2.1,⟨hk.1.1.1.1.2.2,hk.1.1.1.2⟩⟩⟩⟩⟩⟩)));replace HX45:=zA.mk (show Kd.N (Kd.slice 9 Kd.string) 32 _ w.heap.size (fun k_=>(w.heap.size≤k_)∧some k_≠(v257:Value).ownBlock∧some k_≠(.slice Ao43 y259.length co43:Value).ownBlock∧k_≠vz∧k_≠vM∧k_≠vT) (.slice (some ⟨go14,0,none⟩) x5_2.length co14) x5_2 from Kd.N_mono HX45.out (fun k_ hk=>⟨hk.1,⟨hk.2.1,⟨hk.2.2.1,⟨hk.2.2.2.2.1,⟨hk.2.2.2.2.2.1,hk.2.2.2.2.2.2⟩⟩⟩⟩⟩));obtain ⟨ce45,hcl45,hM45,hcc45,hfr45⟩:=Kd.N_elem HX45.out [] (x18_1:Int) (Qa) QV;obtain ⟨ua45_0,uc45_0,rfl,ul45_0,ge45_0⟩:=Kd.FK_slice_open hM45;have HP45:=(Kd.N_seg HX45.out (x18_1:Int) (Qa) QV (seg:= [(.slice vA264 t263.length vc264)]) (j:=0) hcl45 hcc45 (show 1≤1 from by decide) (x':=t263) (Kd.FK_slice_mk (Kd.R_reads' (Kd.R_mono (ok':=(fun k_=>((fun k_=>(w.heap.size≤k_)∧some k_≠(v257:Value).ownBlock∧some k_≠(.slice Ao43 y259.length co43:Value).ownBlock∧k_≠vz∧k_≠vM∧k_≠vT)) k_∧k_≠go14)) (Kd.R_types (Kd.R_types (Kd.R_types (Kd.R_apart' (Kd.R_apart' (HO265.out) (Kd.R_typed wx.out) (by decide)) (Kd.N_typed HO_5.out) (by decide)) BK244.out (by decide)) BK249.out (by decide)) vD.out (by decide)) (fun k_ hk=>⟨⟨hk.1.1.1.1.1.1.1,⟨hk.1.1.1.1.2,⟨hk.1.1.1.1.1.2,⟨hk.1.1.2,⟨hk.1.2,hk.2⟩⟩⟩⟩⟩,fun e_=>(hk.1.1.1.2) (by rw [e_];rfl)⟩))).2.1 (Kd.R_F (Kd.R_mono (ok':=(fun k_=>((fun k_=>(w.heap.size≤k_)∧some k_≠(v257:Value).ownBlock∧some k_≠(.slice Ao43 y259.length co43:Value).ownBlock∧k_≠vz∧k_≠vM∧k_≠vT)) k_∧k_≠go14)) (Kd.R_types (Kd.R_types (Kd.R_types (Kd.R_apart' (Kd.R_apart' (HO265.out) (Kd.R_typed wx.out) (by decide)) (Kd.N_typed HO_5.out) (by decide)) BK244.out (by decide)) BK249.out (by decide)) vD.out (by decide)) (fun k_ hk=>⟨⟨hk.1.1.1.1.1.1.1,⟨hk.1.1.1.1.2,⟨hk.1.1.1.1.1.2,⟨hk.1.1.2,⟨hk.1.2,hk.2⟩⟩⟩⟩⟩,fun e_=>(hk.1.1.1.2) (by rw [e_];rfl)⟩)))) (fun _ hk=>hk)).1
                 (try simp only [show ((Kd.slice 9 Kd.string)).sz=1 from rfl,Nat.mul_one,Nat.add_zero] at HP45)
                 rw [←Ny266.out] at HP45;have HQ45:=zA.mk HP45;clear hcl45 hcc45 hfr45 hM45 HP45;refine hK.out _ _ ⟨(zR BK244.out 0).trans rfl,(zR BK244.out 1).trans rfl,(zR BK244.out 2).trans rfl,(zR BK244.out 3).trans rfl,HS4_⟩ (fun hHeld=> ?_);clear hK K;refine yl (a':= ?_) ?_ ?_;rotate_left
                 ·show Act.put _ (some 57) _=_
                  simp only [Act.put,List.setIfInBounds_toArray,List.set_cons_zero,List.set_cons_succ,zx,zy]
                  rfl
                 refine yM (i:=10) (N:=some 58) (v:= ?_) (a':= ?_) #[true,true,true,true,true,true,true,true,true,true,true,false] rfl rfl (yD HT_.out (by kernel_rfl)) (fun _ _ _ h=>h) (Or.inl ⟨by rfl,?_⟩) ?_ ?_;rotate_left
                 ·intro w'
                  go_simp
                  with_reducible rfl
                 rotate_left
                 ·simp only [Act.put,List.setIfInBounds_toArray,List.set_cons_zero,List.set_cons_succ,zx,zy]
                  rfl
                 refine last_ (i:=11) (N:=none) #[true,true,true,true,true,true,true,true,true,true,true,true] rfl rfl (ym HT_.out (by kernel_rfl)) (by decide) (fun K hK=> ?_);refine qq (w1:= ?_) (by rfl) rfl ?_ ?_;rotate_left
                 ·go_simp
                  rfl
                 refine hK.out _ _ ?_;clear hK K;refine YR (Ze HT_.out (by kernel_rfl)) ?_
                 try go_wp2
                 (try simp only [←hl5_2])
                 go_roundg k2
                 case measure=>have:=HK1.out;have:=HK2.out;omega
                 case rel=>exact ⟨(y266),(wrap64 (x30_2 + 1)),Zb,H',⟨by have:=HK1.out;have:=HK2.out;omega⟩,⟨by (try simp only [hl5_2]);(with_reducible repeat (first|apply Kd.N_alloc|apply Kd.N_drewN|apply Kd.N_drew));exact Kd.N_mono HQ45.out (fun _ hk=>⟨hk.1,⟨hk.2.2.2.1,hk.2.2.2.2.1⟩⟩)⟩,⟨by (try simp only [hl5_2]);(with_reducible repeat (first|refine zO ?_ _|refine zQ ?_|refine zM ?_ _));refine yJ ?_ (by have h_:=Kd.N_away HX45.out (fun _ hk=>hk.2.2.2.1);intro e_;exact h_ (by rw [e_];rfl)) _;(with_reducible repeat (first|refine zO ?_ _|refine zQ ?_|refine zM ?_ _));exact BK244.out⟩,⟨by (try simp only [hl5_2]);(with_reducible repeat (first|refine zO ?_ _|refine zQ ?_|refine zM ?_ _));refine yJ ?_ (by have h_:=Kd.N_away HX45.out (fun _ hk=>hk.2.2.2.2.1);intro e_;exact h_ (by rw [e_];rfl)) _;(with_reducible repeat (first|refine zO ?_ _|refine zQ ?_|refine zM ?_ _));exact BK249.out⟩,⟨by repeat (first|(with_reducible first|exact HB.out|apply zG|apply zC|apply zF|refine zK ?_ GB14.out|refine zK ?_ vP.out|refine zK ?_ wh.out|refine zK ?_ wQ.out)|exact HB.out)⟩⟩
                ·rw [if_neg c29] at H
                 exact absurd H (by simp)
               ·rw [if_neg c28] at H
                exact absurd H (by simp)
              ·replace c27:=Bool.eq_false_iff.mpr c27
               subst c27
               have H1:(if 0≤((zi ((zD l0_3 x18_1).f1) x30_2).f1) then (if ((zi ((zD l0_3 x18_1).f1) x30_2).f1) < (l1.length:Int) then (if 0≤x18_1 then (if x18_1 < (x5_2.length:Int) then ((zq.f k2 (zh x5_2 x18_1) (zh l1 ((zi ((zD l0_3 x18_1).f1) x30_2).f1)) a0_1).bind fun t269=>(yA.l1 k2 l1 (x5_2.set (x18_1:Int).toNat t269) x18_1 l0_3 (l0_3.length:Int) x18_1 ((zD l0_3 x18_1).f1) (((zD l0_3 x18_1).f1).length:Int) (wrap64 (x30_2 + 1)) a0_0 a0_1 l0_2 l0_3)) else (none)) else (none)) else (none)) else (none))=some r:=by rw [if_neg (show ¬(false=true) by decide)] at H;exact H
               clear H;have H:=H1;clear H1
               by_cases c46:0≤((zi ((zD l0_3 x18_1).f1) x30_2).f1)
               ·rw [if_pos c46] at H
                have c46b0:=decide_eq_true c46;clear c46
                by_cases c47:((zi ((zD l0_3 x18_1).f1) x30_2).f1) < (l1.length:Int)
                ·rw [if_pos c47] at H
                 have c47b0:=decide_eq_true c47;clear c47
                 by_cases c48:0≤x18_1
                 ·rw [if_pos c48] at H
                  have c48b0:=decide_eq_true c48;clear c48
                  by_cases c49:x18_1 < (x5_2.length:Int)
                  ·rw [if_pos c49] at H
                   have c49b0:=decide_eq_true c49;clear c49;replace H:=ZzB H;obtain ⟨t269,A500,H⟩:=H;replace H:(yA.l1 k2 l1 (x5_2.set (x18_1:Int).toNat t269) x18_1 l0_3 (l0_3.length:Int) x18_1 ((zD l0_3 x18_1).f1) (((zD l0_3 x18_1).f1).length:Int) (wrap64 (x30_2 + 1)) a0_0 a0_1 l0_2 l0_3)=some r:=H;have A50:=zA.mk A500;clear A500;obtain ⟨y272,hy272⟩:∃y_:List (List ByteArray),y_=(x5_2.set (x18_1:Int).toNat t269):=⟨_,rfl⟩;replace H:(yA.l1 k2 l1 y272 x18_1 l0_3 (l0_3.length:Int) x18_1 ((zD l0_3 x18_1).f1) (((zD l0_3 x18_1).f1).length:Int) (wrap64 (x30_2 + 1)) a0_0 a0_1 l0_2 l0_3)=some r:=Qb hy272 H;have Ny272:=zA.mk hy272;clear hy272;have H':=zA.mk H;clear H;have p254:0≤(x30_2:Int):=Qa;have q254:x30_2 < (((zD l0_3 x18_1).f1).length:Int):=Qa;obtain ⟨ad254,e254,hx254_0,hx254_1⟩:=ZF HR248_1.out x30_2 p254 q254
                   (try rw [←Nbq26.out] at hx254_0)
                   cases e254;replace hx254_0:=(HB.out.cell (ZzA w _ hx254_0)).trans hx254_0;replace hx254_1:=(HB.out.cell (ZzA w _ hx254_1)).trans hx254_1;replace p254:=eq_true p254;replace q254:=eq_true q254
                   try go_wp2_with (first|((with_reducible refine yB (N:=9) rfl ?_);refine yH ?hg (N:=9) ?hd (cs:= #[.bool false, .int .i64 0]) (t:=51) ?hr ?_;(case hd=>rfl);(case hg=>rfl);(case hr=>exact Qm);intro vT hg w52 hbox hb;have n0_:=zA.mk (Kd.N_below (Kd.N_elderB (Qk HO_5) vT (Nat.le_of_eq hg.symm)) hb);have n1_:=zA.mk (ze (g:=vz) (Qi BK244) hb);have n2_:=zA.mk (ze (g:=vM) (Qi BK249) hb);have n3_:=zA.mk (zH (Qe vP wh) hb);have n4_:=zA.mk (hbox);have n5_:=zA.mk ((by rw [hg];exact (zE (Qe vP wh)):w.heap.size≤vT));have n6_:=zA.mk ((by rw [hg];exact (zE (Qe vP wh)):w.heap.size≤vT));have n7_:=zA.mk ((by rw [hg];exact Nat.ne_of_lt (yG (g:=vz) (Qi BK244)):vz≠vT));have n8_:=zA.mk ((by rw [hg];exact Nat.ne_of_gt (yG (g:=vz) (Qi BK244)):vT≠vz));have n9_:=zA.mk ((by rw [hg];exact Nat.ne_of_lt (yG (g:=vM) (Qi BK249)):vM≠vT));have n10_:=zA.mk ((by rw [hg];exact Nat.ne_of_gt (yG (g:=vM) (Qi BK249)):vT≠vM));clear HO_5 BK244 BK249 HB;have HO_5:=n0_;have BK244:=n1_;have BK249:=n2_;have HB:=n3_;have vD:=n4_;have GW255:=n5_;have wQ:=n6_;have NB244_255:=n7_;have NB255_244:=n8_;have NB249_255:=n9_;have NB255_249:=n10_;clear n0_ n1_ n2_ n3_ n4_ n5_ n6_ n7_ n8_ n9_ n10_ hb hbox hg;have hnb53:=NB255_244.out;have hnc53:=NB244_255.out;have hnb54:=NB255_249.out;have hnc54:=NB249_255.out;have hcz55_0:=Qn vD 0 rfl;have hcz55_1:=Qn vD 1 rfl;have hfz55_0:=zB vD.out 0;have hfz55_1:=zB vD.out 1)|((with_reducible refine yB (N:=37) rfl ?_);refine Kd.R_lit (Kd.int .u8) _ 5 ?hg (N:=37) ?hd (xs:=([((zi ((zD l0_3 x18_1).f1) x30_2).f1) % 256]:List Int)) (inner:= [.int .u8 (((zi ((zD l0_3 x18_1).f1) x30_2).f1) % 256)]) (ok:=fun _=>True) (okp:=fun _=>True) ?hr ?hp (fun _ hk=>hk) trivial (Below.refl _ _) (Nat.le_refl _) (by simp) ?_;(case hd=>rfl);(case hg=>rfl);(case hr=>exact Qm);(case hp=>exact (Reps.one (show Kd.M (Kd.int .u8) _ _ _ (((zi ((zD l0_3 x18_1).f1) x30_2).f1) % 256) [.int .u8 (((zi ((zD l0_3 x18_1).f1) x30_2).f1) % 256)] from rfl) (Reps.none _ _)));intro v257 w56 ho57 hb hg_ hnew_;clear hg_ hnew_;(first|rw [←Ny256.out] at ho57|(simp only [Int.reduceToNat] at ho57;rw [←Ny256.out] at ho57));have n0_:=zA.mk (Kd.N_elder' (by (with_reducible repeat (first|apply Kd.N_alloc|apply Kd.N_drewN|apply Kd.N_drew));exact (Kd.N_mono (Kd.N_far (p:=⟨vT,1,none⟩) (Kd.N_far (p:=⟨vT,0,none⟩) (Kd.N_mono HO_5.out (fun k_ hk=>(⟨hk,hk.2⟩:_∧k_≠vT))) (fun _ hk=>hk.2) (.bool false)) (fun _ hk=>hk.2) (.int .i64 ((zi ((zD l0_3 x18_1).f1) x30_2).f1))) (fun _ h_=>h_.1))) (Kd.R_base ho57) hb);have n1_:=zA.mk (Kd.R_lower (Kd.R_newM (M:=fun k_=>(w.heap.size≤k_)) ho57 (zE (Qf vP wh wQ)) (fun k_ h_=>h_)) (zE (Qf vP wh wQ)));have n2_:=zA.mk (ze (g:=vz) (o:= .cells #[.int .i64 a0_0, .int .i64 a0_1, .slice vi l0_2.length vk, .slice (some ad248) l0_3.length vl] 25 (0,0)) Qv hb);have n3_:=zA.mk (ze (g:=vM) (o:= .cells #[.int .i64 ((zD l0_3 x18_1).f0), .slice (some ad254) ((zD l0_3 x18_1).f1).length c248_1] 45 (0,0)) Qw hb);have n4_:=zA.mk (ze (g:=vT) (o:= .cells #[.bool false, .int .i64 ((zi ((zD l0_3 x18_1).f1) x30_2).f1)] 51 (0,0)) (by (with_reducible repeat (first|refine zO ?_ _|refine zQ ?_|refine zM ?_ _));refine yU (cs:= #[.bool false, .int .i64 0]) ?_ 1 _ rfl;(with_reducible repeat (first|refine zO ?_ _|refine zQ ?_|refine zM ?_ _));refine yU (cs:= #[.bool false, .int .i64 0]) ?_ 0 _ rfl;(with_reducible repeat (first|refine zO ?_ _|refine zQ ?_|refine zM ?_ _));exact vD.out) hb);have n5_:=zA.mk (zH (Qf vP wh wQ) hb);clear HO_5 BK244 BK249 vD HB;have HO_5:=n0_;have wx:=n1_;have BK244:=n2_;have BK249:=n3_;have vD:=n4_;have HB:=n5_;clear n0_ n1_ n2_ n3_ n4_ n5_ hb ho57;have hcv58:=Zf (P:=Try.prog) Try.underlying76 Try.underlying5 Try.underlying9 (Kd.own_of_R wx.out))|((with_reducible refine yB (N:=39) rfl ?_);refine Kd.R_lit Kd.string _ 9 ?hg (N:=39) ?hd (xs:=([strOfNums y256]:List ByteArray)) (inner:= [.string (strOfNums y256)]) (ok:=fun _=>True) (okp:=fun _=>True) ?hr ?hp (fun _ hk=>hk) trivial (Below.refl _ _) (Nat.le_refl _) (by simp) ?_;(case hd=>rfl);(case hg=>rfl);(case hr=>exact Qm);(case hp=>exact (Reps.one (show Kd.M Kd.string _ _ _ (strOfNums y256) [.string (strOfNums y256)] from rfl) (Reps.none _ _)));intro v260 w59 ho60 hb hg_ hnew_;clear hg_ hnew_;(first|rw [←Ny259.out] at ho60|(simp only [Int.reduceToNat] at ho60;rw [←Ny259.out] at ho60));have n0_:=zA.mk (Kd.N_elder' (Qk HO_5) (Kd.R_base ho60) hb);have n1_:=zA.mk (Kd.R_below (Qh wx) hb);have n2_:=zA.mk (Kd.R_lower (Kd.R_newM (M:=fun k_=>(w.heap.size≤k_)) ho60 (zE (Qf vP wh wQ)) (fun k_ h_=>h_)) (zE (Qf vP wh wQ)));have n3_:=zA.mk (ze (g:=vz) (Qi BK244) hb);have n4_:=zA.mk (ze (g:=vM) (Qi BK249) hb);have n5_:=zA.mk (ze (g:=vT) (o:= .cells #[.bool false, .int .i64 ((zi ((zD l0_3 x18_1).f1) x30_2).f1)] 51 (0,0)) (Qi vD) hb);have n6_:=zA.mk (zH (Qf vP wh wQ) hb);clear HO_5 wx BK244 BK249 vD HB;have HO_5:=n0_;have wx:=n1_;have Vb:=n2_;have BK244:=n3_;have BK249:=n4_;have vD:=n5_;have HB:=n6_;clear n0_ n1_ n2_ n3_ n4_ n5_ n6_ hb ho60;have hcz61_0:=Qn vD 0 rfl;have hcz61_1:w59.cell? ⟨vT,1,none⟩=some (.int .i64 ((zi ((zD l0_3 x18_1).f1) x30_2).f1)):=(zR vD.out 1).trans rfl;have hfz61_0:=zB vD.out 0;have hfz61_1:=zB vD.out 1;have p267:0≤(((zi ((zD l0_3 x18_1).f1) x30_2).f1):Int):=Qa;have q267:((zi ((zD l0_3 x18_1).f1) x30_2).f1) < (l1.length:Int):=Qa;obtain ⟨ad267,A267_0,c267_0,e267,hx267_0,hl267_0,hi267_0⟩:=ZV HR1.out ((zi ((zD l0_3 x18_1).f1) x30_2).f1) p267 q267;cases e267;replace hx267_0:=(HB.out.cell (ZzA w _ hx267_0)).trans hx267_0;have HR267_0:=zA.mk hi267_0;have HC267_0:=zA.mk hl267_0;clear hi267_0 hl267_0;replace p267:=eq_true p267;replace q267:=eq_true q267))
                   have n0_:=zA.mk (Kd.N_drew HO_5.out);have n1_:=zA.mk (Kd.R_drew wx.out);have n2_:=zA.mk (Kd.R_drew Vb.out);have n3_:=zA.mk (zQ BK244.out);have n4_:=zA.mk (zQ BK249.out);have n5_:=zA.mk (zQ vD.out);have n6_:=zA.mk (zF HB.out);clear HO_5 wx Vb BK244 BK249 vD HB;have HO_5:=n0_;have wx:=n1_;have Vb:=n2_;have BK244:=n3_;have BK249:=n4_;have vD:=n5_;have HB:=n6_;clear n0_ n1_ n2_ n3_ n4_ n5_ n6_;have p268:0≤(x18_1:Int):=Qa;have q268:x18_1 < (x5_2.length:Int):=Qa;obtain ⟨ad268,A268_0,c268_0,e268,hx268_0,hl268_0,hi268_0⟩:=ZV (Kd.N_reads' HO_5.out).2.2 x18_1 p268 q268;obtain rfl:(⟨go14,0,none⟩:Addr)=ad268:=(by injection e268);obtain ⟨ce268,hce268,hMe268,hcc268⟩:=Kd.N_get HO_5.out [] x18_1 p268 (by first|exact q268|exact Qa|(have e_:=(Kd.N_reads' HO_5.out).1;omega));obtain ⟨ua268_0,uc268_0,rfl,ul268_0,ge268_0⟩:=Kd.FK_slice_open hMe268;have hv268_0:=hcc268 0 _ rfl;rw [Nat.add_zero,show ((Kd.slice 9 Kd.string)).sz=1 from rfl,Nat.mul_one] at hv268_0;replace hv268_0:=Option.some.inj (hv268_0.symm.trans hx268_0)
                   injection hv268_0 with hva_ hvn_ hvc_
                   rw [hva_] at ge268_0;rw [hvc_] at ul268_0;have HL268_0:=zA.mk (show Kd.V Kd.string 9 _ w.heap.size _ _ (zh x5_2 x18_1) from Kd.V_mk ul268_0 ge268_0);clear hva_ hvn_ hvc_ ge268_0 ul268_0 hcc268 hce268
                   (first|simp only [ZC] at hx268_0|simp only [add_at] at hx268_0|simp only [Addr.add,Nat.zero_add] at hx268_0|skip)
                   have HR268_0:=zA.mk hi268_0;have HC268_0:=zA.mk hl268_0;clear hi268_0 hl268_0;replace p268:=eq_true p268;replace q268:=eq_true q268;refine Zr (n:=12) (S:=fun w'=>w'.cell? ⟨vz,0,none⟩=some (.int .i64 a0_0)∧w'.cell? ⟨vz,1,none⟩=some (.int .i64 a0_1)∧w'.cell? ⟨vz,2,none⟩=some (.slice vi l0_2.length vk)∧w'.cell? ⟨vz,3,none⟩=some (.slice (some ad248) l0_3.length vl)∧w'.cell? ⟨go14,(x18_1).toNat,none⟩=some (.slice A268_0 (zh x5_2 x18_1).length c268_0)) (ds:= [11]) #[false,false,false,false,false,false,false,false,false,false,false,false] (by kernel_rfl) rfl rfl ⟨(zR BK244.out 0).trans rfl,(zR BK244.out 1).trans rfl,(zR BK244.out 2).trans rfl,(zR BK244.out 3).trans rfl,hx268_0⟩ (fun hHeld=> ?_);refine ZJ yA.tab12 yA.bits12 (fun HT_ HW_=> ?_)
                   generalize w59.drew=w62 at HO_5 wx Vb BK244 BK249 vD HB HL268_0 HR268_0 hx268_0 hHeld⊢
                   refine yM (i:=0) (N:=some 48) (v:= ?_) (a':= ?_) #[true,false,false,false,false,false,false,false,false,false,false,false] rfl rfl (yD HT_.out (by kernel_rfl)) (fun _ _ _ h=>h) (Or.inl ⟨by rfl,?_⟩) ?_ ?_;rotate_left
                   ·intro w'
                    go_simp
                    with_reducible rfl
                   rotate_left
                   ·simp only [Act.put,List.setIfInBounds_toArray,List.set_cons_zero,List.set_cons_succ,zx,zy]
                    rfl
                   refine yM (i:=1) (N:=some 49) (v:= ?_) (a':= ?_) #[true,true,false,false,false,false,false,false,false,false,false,false] rfl rfl (yD HT_.out (by kernel_rfl)) (fun _ _ _ h=>h) (Or.inl ⟨by rfl,?_⟩) ?_ ?_;rotate_left
                   ·intro w'
                    go_simp
                    with_reducible rfl
                   rotate_left
                   ·simp only [Act.put,List.setIfInBounds_toArray,List.set_cons_zero,List.set_cons_succ,zx,zy]
                    rfl
                   refine yM (i:=2) (N:=some 50) (v:= ?_) (a':= ?_) #[true,true,true,false,false,false,false,false,false,false,false,false] rfl rfl (yD HT_.out (by kernel_rfl)) (fun _ _ _ h=>h) (Or.inl ⟨by rfl,?_⟩) ?_ ?_;rotate_left
                   ·intro w'
                    go_simp
                    with_reducible rfl
                   rotate_left
                   ·simp only [Act.put,List.setIfInBounds_toArray,List.set_cons_zero,List.set_cons_succ,zx,zy]
                    rfl
                   refine yM (i:=3) (N:=some 51) (v:= ?_) (a':= ?_) #[true,true,true,true,false,false,false,false,false,false,false,false] rfl rfl (yD HT_.out (by kernel_rfl)) (fun _ _ _ h=>h) (Or.inl ⟨by rfl,?_⟩) ?_ ?_;rotate_left
                   ·intro w'
                    go_simp
                    with_reducible rfl
                   rotate_left
                   ·simp only [Act.put,List.setIfInBounds_toArray,List.set_cons_zero,List.set_cons_succ,zx,zy]
                    rfl
                   refine yM (i:=4) (N:=some 52) (v:= ?_) (a':= ?_) #[true,true,true,true,true,false,false,false,false,false,false,false] rfl rfl (yD HT_.out (by kernel_rfl)) (fun _ _ _ h=>h) (Or.inl ⟨by rfl,?_⟩) ?_ ?_;rotate_left
                   ·intro w'
                    go_simp
                    with_reducible rfl
                   rotate_left
                   ·simp only [Act.put,List.setIfInBounds_toArray,List.set_cons_zero,List.set_cons_succ,zx,zy]
                    rfl
                   refine yM (i:=6) (N:=some 54) (v:= ?_) (a':= ?_) #[true,true,true,true,true,false,true,false,false,false,false,false] rfl rfl (yD HT_.out (by kernel_rfl)) (fun _ _ _ h=>h) (Or.inl ⟨by rfl,?_⟩) ?_ ?_;rotate_left
                   ·intro w'
                    go_simp
                    with_reducible rfl
                   rotate_left
                   ·simp only [Act.put,List.setIfInBounds_toArray,List.set_cons_zero,List.set_cons_succ,zx,zy]
                    rfl
                   refine yM (i:=7) (N:=some 55) (v:= ?_) (a':= ?_) #[true,true,true,true,true,false,true,true,false,false,false,false] rfl rfl (yD HT_.out (by kernel_rfl)) (fun _ _ _ h=>h) (Or.inl ⟨by rfl,?_⟩) ?_ ?_;rotate_left
                   ·intro w'
                    go_simp
                    with_reducible rfl
                   rotate_left
                   ·simp only [Act.put,List.setIfInBounds_toArray,List.set_cons_zero,List.set_cons_succ,zx,zy]
                    rfl
                   refine take_ (i:=5) (N:=some 53) (v:= ?_) (a':= ?_) #[true,true,true,true,true,true,true,true,false,false,false,false] rfl rfl (yb HT_.out HW_.out (by kernel_rfl)) (fun _ _ _ h=>h) (Or.inl ⟨by rfl,?_⟩) hHeld ?_ ?_;rotate_left
                   ·rintro w' ⟨s0,s1,s2,s3,s4⟩
                    go_simp
                    with_reducible rfl
                   rotate_left
                   ·simp only [Act.put,List.setIfInBounds_toArray,List.set_cons_zero,List.set_cons_succ,zx,zy]
                    rfl
                   refine take_ (i:=8) (N:=some 56) (v:= ?_) (a':= ?_) #[true,true,true,true,true,true,true,true,true,false,false,false] rfl rfl (yb HT_.out HW_.out (by kernel_rfl)) (fun _ _ _ h=>h) (Or.inl ⟨by rfl,?_⟩) hHeld ?_ ?_;rotate_left
                   ·rintro w' ⟨s0,s1,s2,s3,s4⟩
                    go_simp
                    with_reducible rfl
                   rotate_left
                   ·simp only [Act.put,List.setIfInBounds_toArray,List.set_cons_zero,List.set_cons_succ,zx,zy]
                    rfl
                   refine one_ (i:=9) (N:=some 57) #[true,true,true,true,true,true,true,true,true,true,false,false] rfl rfl (ym HT_.out (by kernel_rfl)) (by decide) (fun K hK=> ?_);refine Yo Try.func18 (by kernel_rfl) rfl #[.slice A268_0 (zh x5_2 x18_1).length c268_0, .slice A267_0 (zh l1 ((zi ((zD l0_3 x18_1).f1) x30_2).f1)).length c267_0, .int .i64 a0_1] (by rfl) rfl rfl QX ?_
                   with_reducible refine (zq.calls k2 _ _ (zh x5_2 x18_1) _ _ (zh l1 ((zi ((zD l0_3 x18_1).f1) x30_2).f1)) a0_1 t269 _ ?side1 ?side2 ?side3 ?side4 A50.out).mono ?_
                   (case side1=>repeat (first|exact QD|(with_reducible refine Kd.C_alloc ?_ _)|(with_reducible refine Kd.C_drewN ?_ _)|(with_reducible refine Kd.C_drew ?_)))
                   (case side2=>exact HC268_0.out)
                   (case side3=>exact Qo (Kd.C_below HR267_0.out HB.out))
                   (case side4=>exact HC267_0.out)
                   rintro e w63 ⟨v270,rfl,ho0,hb⟩;have HS4_:=(hb.cell (ZzA _ _ (hHeld.2.2.2.2))).trans (hHeld.2.2.2.2);refine ⟨_,rfl,?_⟩;have n0_:=zA.mk (Kd.N_elder' (Qk HO_5) (Kd.R_base ho0) hb);have n1_:=zA.mk (Kd.R_below (Qh wx) hb);have n2_:=zA.mk (Kd.R_elder' (Qh Vb) (Kd.R_base ho0) hb);have n3_:=zA.mk (Kd.V_elder' (Ql HL268_0) (Kd.R_base ho0) hb);have n4_:=zA.mk (Kd.R_lower (Kd.R_new' (Kd.R_newM (M:=fun k_=>(w.heap.size≤k_)) ho0 (zE (Qf vP wh wQ)) (fun k_ h_=>h_)) (Kd.R_lt (Qh Vb))) (zE (Qf vP wh wQ)));have n5_:=zA.mk (ze (g:=vz) (Qi BK244) hb);have n6_:=zA.mk (ze (g:=vM) (Qi BK249) hb);have n7_:=zA.mk (ze (g:=vT) (o:= .cells #[.bool false, .int .i64 ((zi ((zD l0_3 x18_1).f1) x30_2).f1)] 51 (0,0)) (Qi vD) hb);have n8_:=zA.mk (Kd.C_below QD hb);have n9_:=zA.mk (zH (Qf vP wh wQ) hb);clear HO_5 wx Vb HL268_0 BK244 BK249 vD HR268_0 HB;have HO_5:=n0_;have wx:=n1_;have Vb:=n2_;have HL268_0:=n3_;have HO271:=n4_;have BK244:=n5_;have BK249:=n6_;have vD:=n7_;have HR268_0:=n8_;have HB:=n9_;clear n0_ n1_ n2_ n3_ n4_ n5_ n6_ n7_ n8_ n9_;obtain ⟨vA270,vc270,rfl⟩:=Kd.R_slice HO271.out;(try clear hb ho0);have p51:0≤(x18_1:Int):=Qa;have q51:(x18_1:Int) < ((x5_2.length:Int):Int):=Qa;obtain ⟨ce51,hcl51,hM51,hcc51,hfr51⟩:=Kd.N_elem HO_5.out [] (x18_1:Int) p51 q51;obtain ⟨ua51_0,uc51_0,rfl,ul51_0,ge51_0⟩:=Kd.FK_slice_open hM51;have hx51_0:=hcc51 0 _ rfl;have hf51_0:=hfr51 0
                   (try simp only [show ((Kd.slice 9 Kd.string)).sz=1 from rfl,Nat.mul_one,Nat.add_zero] at hx51_0)
                   (try simp only [show ((Kd.slice 9 Kd.string)).sz=1 from rfl,Nat.mul_one,Nat.add_zero] at hf51_0)
                   clear hcl51 hcc51 hfr51 hM51;replace p51:=eq_true p51;replace q51:=eq_true q51;have HX64:=zA.mk (show Kd.N (Kd.slice 9 Kd.string) 32 _ w.heap.size (fun k_=>(w.heap.size≤k_)∧some k_≠(v257:Value).ownBlock∧some k_≠(v260:Value).ownBlock∧some k_≠((.slice vA270 t269.length vc270):Value).ownBlock∧k_≠vz∧k_≠vM∧k_≠vT) (.slice (some ⟨go14,0,none⟩) x5_2.length co14) x5_2 from (Kd.N_mono (HO_5.out) (fun k_ hk=>⟨hk.1.1.1.1.1,⟨hk.1.1.2,⟨hk.1.2,⟨hk.2,⟨hk.1.1.1.1.2.1,⟨hk.1.1.1.1.2.2,hk.1.1.1.2⟩⟩⟩⟩⟩⟩)));replace HX64:=zA.mk (show Kd.N (Kd.slice 9 Kd.string) 32 _ w.heap.size (fun k_=>(w.heap.size≤k_)∧some k_≠(v257:Value).ownBlock∧some k_≠(v260:Value).ownBlock∧k_≠vz∧k_≠vM∧k_≠vT) (.slice (some ⟨go14,0,none⟩) x5_2.length co14) x5_2 from Kd.N_mono HX64.out (fun k_ hk=>⟨hk.1,⟨hk.2.1,⟨hk.2.2.1,⟨hk.2.2.2.2.1,⟨hk.2.2.2.2.2.1,hk.2.2.2.2.2.2⟩⟩⟩⟩⟩));obtain ⟨ce64,hcl64,hM64,hcc64,hfr64⟩:=Kd.N_elem HX64.out [] (x18_1:Int) (Qa) QV;obtain ⟨ua64_0,uc64_0,rfl,ul64_0,ge64_0⟩:=Kd.FK_slice_open hM64;have HP64:=(Kd.N_seg HX64.out (x18_1:Int) (Qa) QV (seg:= [(.slice vA270 t269.length vc270)]) (j:=0) hcl64 hcc64 (show 1≤1 from by decide) (x':=t269) (Kd.FK_slice_mk (Kd.R_reads' (Kd.R_mono (ok':=(fun k_=>((fun k_=>(w.heap.size≤k_)∧some k_≠(v257:Value).ownBlock∧some k_≠(v260:Value).ownBlock∧k_≠vz∧k_≠vM∧k_≠vT)) k_∧k_≠go14)) (Kd.R_types (Kd.R_types (Kd.R_types (Kd.R_apart' (Kd.R_apart' (HO271.out) (Kd.R_typed wx.out) (by decide)) (Kd.N_typed HO_5.out) (by decide)) BK244.out (by decide)) BK249.out (by decide)) vD.out (by decide)) (fun k_ hk=>⟨⟨hk.1.1.1.1.1.1.1,⟨hk.1.1.1.1.2,⟨hk.1.1.1.1.1.2,⟨hk.1.1.2,⟨hk.1.2,hk.2⟩⟩⟩⟩⟩,fun e_=>(hk.1.1.1.2) (by rw [e_];rfl)⟩))).2.1 (Kd.R_F (Kd.R_mono (ok':=(fun k_=>((fun k_=>(w.heap.size≤k_)∧some k_≠(v257:Value).ownBlock∧some k_≠(v260:Value).ownBlock∧k_≠vz∧k_≠vM∧k_≠vT)) k_∧k_≠go14)) (Kd.R_types (Kd.R_types (Kd.R_types (Kd.R_apart' (Kd.R_apart' (HO271.out) (Kd.R_typed wx.out) (by decide)) (Kd.N_typed HO_5.out) (by decide)) BK244.out (by decide)) BK249.out (by decide)) vD.out (by decide)) (fun k_ hk=>⟨⟨hk.1.1.1.1.1.1.1,⟨hk.1.1.1.1.2,⟨hk.1.1.1.1.1.2,⟨hk.1.1.2,⟨hk.1.2,hk.2⟩⟩⟩⟩⟩,fun e_=>(hk.1.1.1.2) (by rw [e_];rfl)⟩)))) (fun _ hk=>hk)).1
                   (try simp only [show ((Kd.slice 9 Kd.string)).sz=1 from rfl,Nat.mul_one,Nat.add_zero] at HP64)
                   rw [←Ny272.out] at HP64;have HQ64:=zA.mk HP64;clear hcl64 hcc64 hfr64 hM64 HP64;refine hK.out _ _ ⟨(zR BK244.out 0).trans rfl,(zR BK244.out 1).trans rfl,(zR BK244.out 2).trans rfl,(zR BK244.out 3).trans rfl,HS4_⟩ (fun hHeld=> ?_);clear hK K;refine yl (a':= ?_) ?_ ?_;rotate_left
                   ·show Act.put _ (some 57) _=_
                    simp only [Act.put,List.setIfInBounds_toArray,List.set_cons_zero,List.set_cons_succ,zx,zy]
                    rfl
                   refine yM (i:=10) (N:=some 58) (v:= ?_) (a':= ?_) #[true,true,true,true,true,true,true,true,true,true,true,false] rfl rfl (yD HT_.out (by kernel_rfl)) (fun _ _ _ h=>h) (Or.inl ⟨by rfl,?_⟩) ?_ ?_;rotate_left
                   ·intro w'
                    go_simp
                    with_reducible rfl
                   rotate_left
                   ·simp only [Act.put,List.setIfInBounds_toArray,List.set_cons_zero,List.set_cons_succ,zx,zy]
                    rfl
                   refine last_ (i:=11) (N:=none) #[true,true,true,true,true,true,true,true,true,true,true,true] rfl rfl (ym HT_.out (by kernel_rfl)) (by decide) (fun K hK=> ?_);refine qq (w1:= ?_) (by rfl) rfl ?_ ?_;rotate_left
                   ·go_simp
                    rfl
                   refine hK.out _ _ ?_;clear hK K;refine YR (Ze HT_.out (by kernel_rfl)) ?_
                   try go_wp2
                   (try simp only [←hl5_2])
                   go_roundg k2
                   case measure=>have:=HK1.out;have:=HK2.out;omega
                   case rel=>exact ⟨(y272),(wrap64 (x30_2 + 1)),Zb,H',⟨by have:=HK1.out;have:=HK2.out;omega⟩,⟨by (try simp only [hl5_2]);(with_reducible repeat (first|apply Kd.N_alloc|apply Kd.N_drewN|apply Kd.N_drew));exact Kd.N_mono HQ64.out (fun _ hk=>⟨hk.1,⟨hk.2.2.2.1,hk.2.2.2.2.1⟩⟩)⟩,⟨by (try simp only [hl5_2]);(with_reducible repeat (first|refine zO ?_ _|refine zQ ?_|refine zM ?_ _));refine yJ ?_ (by have h_:=Kd.N_away HX64.out (fun _ hk=>hk.2.2.2.1);intro e_;exact h_ (by rw [e_];rfl)) _;(with_reducible repeat (first|refine zO ?_ _|refine zQ ?_|refine zM ?_ _));exact BK244.out⟩,⟨by (try simp only [hl5_2]);(with_reducible repeat (first|refine zO ?_ _|refine zQ ?_|refine zM ?_ _));refine yJ ?_ (by have h_:=Kd.N_away HX64.out (fun _ hk=>hk.2.2.2.2.1);intro e_;exact h_ (by rw [e_];rfl)) _;(with_reducible repeat (first|refine zO ?_ _|refine zQ ?_|refine zM ?_ _));exact BK249.out⟩,⟨by repeat (first|(with_reducible first|exact HB.out|apply zG|apply zC|apply zF|refine zK ?_ GB14.out|refine zK ?_ vP.out|refine zK ?_ wh.out|refine zK ?_ wQ.out)|exact HB.out)⟩⟩
                  ·rw [if_neg c49] at H
                   exact absurd H (by simp)
                 ·rw [if_neg c48] at H
                  exact absurd H (by simp)
                ·rw [if_neg c47] at H
                 exact absurd H (by simp)
               ·rw [if_neg c46] at H
                exact absurd H (by simp)
             ·rw [if_neg c25] at H
              exact absurd H (by simp)
            ·rw [if_neg c24] at H
             exact absurd H (by simp)
           ·rw [if_neg c23] at H
            have c23b0:=decide_eq_false c23;clear c23;have H':=zA.mk H;clear H
            go_wp2
            (try simp only [←hl5_2])
            go_roundg k2
            case measure=>have:=HK1.out;have:=HK2.out;omega
            case rel=>exact ⟨(x5_2),(wrap64 (x18_1 + 1)),Zb,H',⟨by have:=HK1.out;have:=HK2.out;omega⟩,⟨by (try simp only [hl5_2]);(with_reducible repeat (first|apply Kd.N_alloc|apply Kd.N_drewN|apply Kd.N_drew));exact Kd.N_mono HO_5.out (fun _ hk=>⟨hk.1,hk.2.1⟩)⟩,⟨by (try simp only [hl5_2]);(with_reducible repeat (first|refine zO ?_ _|refine zQ ?_|refine zM ?_ _));exact BK244.out⟩,⟨by repeat (first|(with_reducible first|exact HB.out|apply zG|apply zC|apply zF|refine zK ?_ vP.out|refine zK ?_ wh.out)|exact HB.out)⟩⟩
        ·rw [if_neg c13] at H
         exact absurd H (by simp)
       ·rw [if_neg c12] at H
        exact absurd H (by simp)
      ·rw [if_neg c11] at H
       exact absurd H (by simp)
     ·rw [if_neg c10] at H
      have c10b0:=decide_eq_false c10;clear c10;obtain rfl:=Option.some.inj H
      go_wp2
      go_ret
      exact ⟨_,by first|rfl|(simp [zS,zT] <;> rfl)|(simp [*,zS,zT] <;> rfl),by (with_reducible repeat (first|apply Kd.N_alloc|apply Kd.N_drewN|apply Kd.N_drew));exact Kd.N_mono HO_5.out (fun _ hk=>hk.1),by repeat (first|(with_reducible first|exact HB.out|apply zG|apply zC|apply zF|refine zK ?_ vP.out)|exact HB.out)⟩
  ·rw [if_neg c4] at H
   exact absurd H (by simp)
 ·rw [if_neg c3] at H
  exact absurd H (by simp)
end Go.Proofs.Ytlanhkekjhlmjaa.HGuessWords
