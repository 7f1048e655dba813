-- Written by plus.py for this claim.
import Derived.Test.YtlanhkekjhlmjaaSGuessWordsVZip
import Derived.Test.YtlanhkekjhlmjaaHGuessWordsx0
import Derived.Test.YtlanhkekjhlmjaaHGuessWordsx1
namespace Go.Proofs.Ytlanhkekjhlmjaa.HGuessWords
open Go.RowKit Go.Proofs.YtlanhkekjhlmjaaW.PrintWords Go.Proofs.YtlanhkekjhlmjaaW.PrintLast Go.Proofs.YtlanhkekjhlmjaaW.PrintMore
attribute [local go_sem] yq yr ZM ZN yj yk yt yu   -- for this text's walks alone
set_option linter.unusedVariables false
set_option linter.unusedSimpArgs false
def zg.l0:Nat→Int→Int→Int→Int→List Int→List (S45)→Int→Int→List Int→List (S45)→Option (Int × Int × List Int × (List (S45)))
 | 0,_,_,_,_,_,_,_,_,_,_=>none
 | k + 1,x2,x8,x108000,x108001,x108002,x108003,x114000,x114001,x114002,x114003=>if x8 < (x108003.length:Int) then (if x8 < x2 then (if 0≤x8 then ((some (([]:List (S51)):List (S51))).bind fun y116=>(if 0≤(mn (((zD x108003 x8).f1).length:Int) 8) then (if (mn (((zD x108003 x8).f1).length:Int) 8)≤(((zD x108003 x8).f1).length:Int) then ((some (((zD x108003 x8).f1).take ((mn (((zD x108003 x8).f1).length:Int) 8):Int).toNat:List (S51))).bind fun y119=>(if y116.length + y119.length < 8796093022208 then (if x114003.length < 4398046511104 then (zg.l0 k x2 (wrap64 (x8 + 1)) x108000 x108001 x108002 x108003 x114000 x114001 x114002 (x114003 ++ [(⟨(zD x108003 x8).f0,(y116 ++ y119)⟩:S45)])) else (none)) else (none))) else (none)) else (none))) else (none)) else (some (x114000,x114001,x114002,x114003))) else (some (x114000,x114001,x114002,x114003))
def zg.f (k:Nat) (a0_0:Int) (a0_1:Int) (l0_2:List Int) (l0_3:List (S45)) (a1:Int) (a2:Int):Option (Int × Int × List Int × (List (S45))):=if 0≤(mn (l0_2.length:Int) a1) then (if (mn (l0_2.length:Int) a1)≤(l0_2.length:Int) then ((yo.f (l0_2.take ((mn (l0_2.length:Int) a1):Int).toNat)).bind fun t110=>(zg.l0 k a2 0 a0_0 a0_1 l0_2 l0_3 a0_0 a0_1 t110 ([]:List (S45)))) else (none)) else (none)
theorem zg.mono_l:∀k,(∀y0 y1 y2 y3 y4 y5 y6 y7 y8 y9,LeO (zg.l0 k y0 y1 y2 y3 y4 y5 y6 y7 y8 y9) (zg.l0 (k + 1) y0 y1 y2 y3 y4 y5 y6 y7 y8 y9))
 | 0=>fun _ _ _ _ _ _ _ _ _ _ r h=>by simp [zg.l0] at h
 | k + 1=>by
  have ih0:=zg.mono_l k
  ·intro y0 y1 y2 y3 y4 y5 y6 y7 y8 y9
   unfold zg.l0
   repeat' first
   | with_reducible first|exact ih0 _ _ _ _ _ _ _ _ _ _|exact LeO.refl _|exact LeO.none _|refine LeO.ite ?_ ?_|refine LeO.bind ?_ (fun _=> ?_)
   | exact ih0 _ _ _ _ _ _ _ _ _ _|exact LeO.none _|refine LeO.ite ?_ ?_|refine LeO.bind ?_ (fun _=> ?_)
theorem zg.mono:∀a0 a1 a2 a3 a4 a5 k,LeO (zg.f k a0 a1 a2 a3 a4 a5) (zg.f (k + 1) a0 a1 a2 a3 a4 a5):=by
 intro a0 a1 a2 a3 a4 a5 k;have ih0:=zg.mono_l k
 unfold zg.f
 repeat' first
   | with_reducible first|exact ih0 _ _ _ _ _ _ _ _ _ _|exact LeO.refl _|exact LeO.none _|refine LeO.ite ?_ ?_|refine LeO.bind ?_ (fun _=> ?_)
   | exact ih0 _ _ _ _ _ _ _ _ _ _|exact LeO.none _|refine LeO.ite ?_ ?_|refine LeO.bind ?_ (fun _=> ?_)
def zg.T1:Bool × List (List Nat × List Nat):=(true,[([],[]),([0],[0]),([],[]),([2],[2]),([],[]),([4],[4]),([],[]),([6],[6]),([7],[7]),([],[]),([8,9],[8,9]),([5,10],[5,10]),([11],[11]),([1,3,12],[1,3,12]),([],[]),([14,13,12,0,1,2,3,4,5,6,7,8,9,10,11,12,13,14],[13,14])])
def zg.B1:List Nat:= [0,1,0,4,0,16,0,64,192,0,960,2032,4080,8191,0,32767]
theorem zg.tab1:rtab .any (qV Try.f14 1)=zg.T1:=by kernel_rfl
theorem zg.bits1:Zk zg.T1.2 zg.B1=true:=by kernel_rfl
def zg.T6:Bool × List (List Nat × List Nat):=(true,[([],[]),([0],[0]),([],[]),([2],[2]),([],[]),([3,4],[3,4]),([5],[5]),([6],[6]),([],[]),([],[]),([],[]),([10],[10]),([11],[11]),([9,12],[9,12]),([8,13],[8,13]),([7,14],[7,14]),([15],[15]),([1,16,14],[1,16]),([0,1,2,3,4,5,6,7,8,9,10,11,12,13,14,15,16,17],[]),([18,17,17,0,1,2,3,4,5,6,7,8,9,10,11,12,13,14,15,16,17],[17,18])])
def zg.B6:List Nat:= [0,1,0,4,0,28,60,124,0,0,0,1024,3072,7680,16128,32764,65532,131071,262143,524287]
theorem zg.tab6:rtab .any (qV Try.f14 6)=zg.T6:=by kernel_rfl
theorem zg.bits6:Zk zg.T6.2 zg.B6=true:=by kernel_rfl
set_option maxHeartbeats 8000000 in
set_option maxRecDepth 100000 in
theorem zg.calls (k:Nat) (a0_0:Int) (a0_1:Int) (vi:Option Addr) (vk:Nat) (l0_2:List Int) (vp:Option Addr) (vl:Nat) (l0_3:List (S45)) (a1:Int) (a2:Int) (r1:Int) (r2:Int) (r3:List Int) (r4:List (S45)) (w:World) (hr0_2:Kd.C (Kd.int .i64) w vi l0_2.length l0_2) (hc0_2:l0_2.length≤vk) (hr0_3:Kd.C k45 w vp l0_3.length l0_3) (hc0_3:l0_3.length≤vl) (h:zg.f k a0_0 a0_1 l0_2 l0_3 a1 a2=some (r1,r2,r3,r4)) :
  Calls Try.prog 14 #[.agg #[.int .i64 a0_0, .int .i64 a0_1, .slice vi l0_2.length vk, .slice vp l0_3.length vl], .int .i64 a1, .int .i64 a2] w fun e w'=>∃v2_ v3_:Value,e= .returned (.agg #[.int .i64 r1, .int .i64 r2,v2_,v3_])∧Kd.R (Kd.int .i64) 3 w' w.heap.size (fun _=>True) v2_ r3∧Kd.S k45 45 w' w.heap.size (fun _=>True) v3_ r4∧Below w.heap.size w w':=by
 have hu25:=Try.underlying25;have hu45:=Try.underlying45;have wb:=zA.mk hr0_2;have wd:=zA.mk hc0_2;clear hr0_2 hc0_2;have vw:=zA.mk hr0_3;have wg:=zA.mk hc0_3;clear hr0_3 hc0_3;have HB:=zA.mk (Below.refl w.heap.size w);have H:(if 0≤(mn (l0_2.length:Int) a1) then (if (mn (l0_2.length:Int) a1)≤(l0_2.length:Int) then ((yo.f (l0_2.take ((mn (l0_2.length:Int) a1):Int).toNat)).bind fun t110=>(zg.l0 k a2 0 a0_0 a0_1 l0_2 l0_3 a0_0 a0_1 t110 ([]:List (S45)))) else (none)) else (none))=some (r1,r2,r3,r4):=h;clear h;obtain ⟨ji4,hji4⟩:∃j_:Int,(mn (l0_2.length:Int) a1)=j_:=⟨_,rfl⟩
 replace H:(if 0≤(ji4) then (if (ji4)≤(l0_2.length:Int) then ((yo.f (l0_2.take ((ji4):Int).toNat)).bind fun t110=>(zg.l0 k a2 0 a0_0 a0_1 l0_2 l0_3 a0_0 a0_1 t110 ([]:List (S45)))) else (none)) else (none))=some (r1,r2,r3,r4):=by first|(rw [hji4] at H;exact H)|(simp only [hji4] at H⊢;exact H)
 have hji4_:(if a1 < (l0_2.length:Int) then a1 else (l0_2.length:Int))=ji4:=hji4
 by_cases c5:0≤(ji4)
 ·rw [if_pos c5] at H
  have c5b0:=eq_true c5;have c5b1:=decide_eq_true c5;clear c5
  by_cases c6:(ji4)≤(l0_2.length:Int)
  ·rw [if_pos c6] at H
   have c6b0:=eq_true c6;have c6b1:=decide_eq_true c6;clear c6;replace H:=ZzB H;obtain ⟨t110,A70,H⟩:=H;replace H:(zg.l0 k a2 0 a0_0 a0_1 l0_2 l0_3 a0_0 a0_1 t110 ([]:List (S45)))=some (r1,r2,r3,r4):=H;have A7:=zA.mk A70;clear A70;have H':=zA.mk H;clear H
   go_enter Try.func14,Try.ntmps14
   try go_wp2_with (first|((with_reducible refine yB (N:=3) rfl ?_);refine yH ?hg (N:=3) ?hd (cs:= #[.int .i64 a0_0, .int .i64 a0_1, .slice vi l0_2.length vk, .slice vp l0_3.length vl]) (t:=25) ?hr ?_;(case hd=>rfl);(case hg=>rfl);(case hr=>exact Qm);intro vG hg w8 hbox hb;have n0_:=zA.mk (zH Qc hb);have n1_:=zA.mk (hbox);have n2_:=zA.mk ((by rw [hg];exact (zE Qc):w.heap.size≤vG));have n3_:=zA.mk ((by rw [hg];exact (zE Qc):w.heap.size≤vG));clear HB;have HB:=n0_;have vd:=n1_;have GW107:=n2_;have wF:=n3_;clear n0_ n1_ n2_ n3_ hb hbox hg)|((with_reducible refine yB (N:=6) rfl ?_);refine yH ?hg (N:=6) ?hd (cs:= #[.int .i64 0, .int .i64 0, .slice none 0 0, .slice none 0 0]) (t:=25) ?hr ?_;(case hd=>rfl);(case hg=>rfl);(case hr=>exact Qm);intro vH hg w9 hbox hb;have n0_:=zA.mk (ze (g:=vG) (Qi vd) hb);have n1_:=zA.mk (zH (Qd wF) hb);have n2_:=zA.mk (hbox);have n3_:=zA.mk ((by rw [hg];exact (zE (Qd wF)):w.heap.size≤vH));have n4_:=zA.mk ((by rw [hg];exact (zE (Qd wF)):w.heap.size≤vH));have n5_:=zA.mk ((by rw [hg];exact Nat.ne_of_lt (yG (g:=vG) (Qi vd)):vG≠vH));have n6_:=zA.mk ((by rw [hg];exact Nat.ne_of_gt (yG (g:=vG) (Qi vd)):vH≠vG));clear vd HB;have vd:=n0_;have HB:=n1_;have BK108:=n2_;have GW108:=n3_;have wP:=n4_;have NB107_108:=n5_;have NB108_107:=n6_;clear n0_ n1_ n2_ n3_ n4_ n5_ n6_ hb hbox hg))
   have n0_:=zA.mk (zQ vd.out);have n1_:=zA.mk (zQ BK108.out);have n2_:=zA.mk (zF HB.out);clear vd BK108 HB;have vd:=n0_;have BK108:=n1_;have HB:=n2_;clear n0_ n1_ n2_;obtain ⟨i011,hi011,_,hsz11,_⟩:=info_parts info3;obtain ⟨hcut11,hA11,hC11⟩:=Ye (P:=Try.prog) (Value.int .i64) 0 22 3 .i64 Try.underlying22 hi011 hsz11 vi vk l0_2 (ji4) (Qa) (Qa) wd.out;have HR109:=zA.mk (Kd.C_of_reads (h1:=fun _=>rfl) (hA11 _ (Kd.reads_of_C wb.out)));have HC109:=zA.mk hC11;clear hA11 hC11 hi011 hsz11;refine Zr (n:=16) (S:=fun w'=>w'.cell? ⟨vG,0,none⟩=some (.int .i64 a0_0)∧w'.cell? ⟨vG,1,none⟩=some (.int .i64 a0_1)∧w'.cell? ⟨vG,2,none⟩=some (.slice vi l0_2.length vk)∧w'.cell? ⟨vG,3,none⟩=some (.slice vp l0_3.length vl)) (ds:= []) #[false,false,false,false,false,false,false,false,false,false,false,false,false,false,false,false] (by kernel_rfl) rfl rfl ⟨(zR vd.out 0).trans rfl,(zR vd.out 1).trans rfl,(zR vd.out 2).trans rfl,(zR vd.out 3).trans rfl⟩ (fun hHeld=> ?_);refine ZJ zg.tab1 zg.bits1 (fun HT_ HW_=> ?_)
   generalize w9.drew=w10 at vd BK108 HB HR109 hHeld⊢
   refine yM (i:=0) (N:=some 10) (v:= ?_) (a':= ?_) #[true,false,false,false,false,false,false,false,false,false,false,false,false,false,false,false] rfl rfl (yD HT_.out (by kernel_rfl)) (fun _ _ _ h=>h) (Or.inl ⟨by rfl,?_⟩) ?_ ?_;rotate_left
   ·intro w'
    go_simp
    with_reducible rfl
   rotate_left
   ·simp only [Act.put,List.setIfInBounds_toArray,List.set_cons_zero,List.set_cons_succ,zx,zy]
    rfl
   refine yM (i:=2) (N:=some 12) (v:= ?_) (a':= ?_) #[true,false,true,false,false,false,false,false,false,false,false,false,false,false,false,false] rfl rfl (yD HT_.out (by kernel_rfl)) (fun _ _ _ h=>h) (Or.inl ⟨by rfl,?_⟩) ?_ ?_;rotate_left
   ·intro w'
    go_simp
    with_reducible rfl
   rotate_left
   ·simp only [Act.put,List.setIfInBounds_toArray,List.set_cons_zero,List.set_cons_succ,zx,zy]
    rfl
   refine yM (i:=4) (N:=some 14) (v:= ?_) (a':= ?_) #[true,false,true,false,true,false,false,false,false,false,false,false,false,false,false,false] rfl rfl (yD HT_.out (by kernel_rfl)) (fun _ _ _ h=>h) (Or.inl ⟨by rfl,?_⟩) ?_ ?_;rotate_left
   ·intro w'
    go_simp
    with_reducible rfl
   rotate_left
   ·simp only [Act.put,List.setIfInBounds_toArray,List.set_cons_zero,List.set_cons_succ,zx,zy]
    rfl
   refine yM (i:=6) (N:=some 16) (v:= ?_) (a':= ?_) #[true,false,true,false,true,false,true,false,false,false,false,false,false,false,false,false] rfl rfl (yD HT_.out (by kernel_rfl)) (fun _ _ _ h=>h) (Or.inl ⟨by rfl,?_⟩) ?_ ?_;rotate_left
   ·intro w'
    go_simp
    with_reducible rfl
   rotate_left
   ·simp only [Act.put,List.setIfInBounds_toArray,List.set_cons_zero,List.set_cons_succ,zx,zy]
    rfl
   refine yM (i:=9) (N:=some 19) (v:= ?_) (a':= ?_) #[true,false,true,false,true,false,true,false,false,true,false,false,false,false,false,false] rfl rfl (yD HT_.out (by kernel_rfl)) (fun _ _ _ h=>h) (Or.inl ⟨by rfl,?_⟩) ?_ ?_;rotate_left
   ·intro w'
    go_simp
    with_reducible rfl
   rotate_left
   ·simp only [Act.put,List.setIfInBounds_toArray,List.set_cons_zero,List.set_cons_succ,zx,zy]
    rfl
   refine take_ (i:=1) (N:=some 11) (v:= ?_) (a':= ?_) #[true,true,true,false,true,false,true,false,false,true,false,false,false,false,false,false] rfl rfl (yb HT_.out HW_.out (by kernel_rfl)) (fun _ _ _ h=>h) (Or.inl ⟨by rfl,?_⟩) hHeld ?_ ?_;rotate_left
   ·rintro w' ⟨s0,s1,s2,s3⟩
    go_simp
    with_reducible rfl
   rotate_left
   ·simp only [Act.put,List.setIfInBounds_toArray,List.set_cons_zero,List.set_cons_succ,zx,zy]
    rfl
   refine take_ (i:=3) (N:=some 13) (v:= ?_) (a':= ?_) #[true,true,true,true,true,false,true,false,false,true,false,false,false,false,false,false] rfl rfl (yb HT_.out HW_.out (by kernel_rfl)) (fun _ _ _ h=>h) (Or.inl ⟨by rfl,?_⟩) hHeld ?_ ?_;rotate_left
   ·rintro w' ⟨s0,s1,s2,s3⟩
    go_simp
    with_reducible rfl
   rotate_left
   ·simp only [Act.put,List.setIfInBounds_toArray,List.set_cons_zero,List.set_cons_succ,zx,zy]
    rfl
   refine take_ (i:=5) (N:=some 15) (v:= ?_) (a':= ?_) #[true,true,true,true,true,true,true,false,false,true,false,false,false,false,false,false] rfl rfl (yb HT_.out HW_.out (by kernel_rfl)) (fun _ _ _ h=>h) (Or.inl ⟨by rfl,?_⟩) hHeld ?_ ?_;rotate_left
   ·rintro w' ⟨s0,s1,s2,s3⟩
    go_simp
    with_reducible rfl
   rotate_left
   ·simp only [Act.put,List.setIfInBounds_toArray,List.set_cons_zero,List.set_cons_succ,zx,zy]
    rfl
   refine take_ (i:=7) (N:=some 17) (v:= ?_) (a':= ?_) #[true,true,true,true,true,true,true,true,false,true,false,false,false,false,false,false] rfl rfl (yb HT_.out HW_.out (by kernel_rfl)) (fun _ _ _ h=>h) (Or.inl ⟨by rfl,?_⟩) hHeld ?_ ?_;rotate_left
   ·rintro w' ⟨s0,s1,s2,s3⟩
    go_simp
    with_reducible rfl
   rotate_left
   ·simp only [Act.put,List.setIfInBounds_toArray,List.set_cons_zero,List.set_cons_succ,zx,zy]
    rfl
   refine yM (i:=8) (N:=some 18) (v:= ?_) (a':= ?_) #[true,true,true,true,true,true,true,true,true,true,false,false,false,false,false,false] rfl rfl (yD HT_.out (by kernel_rfl)) (fun _ _ _ h=>h) (Or.inl ⟨by rfl,?_⟩) ?_ ?_;rotate_left
   ·intro w'
    go_simp
    with_reducible rfl
   rotate_left
   ·simp only [Act.put,List.setIfInBounds_toArray,List.set_cons_zero,List.set_cons_succ,zx,zy]
    rfl
   refine yM (i:=10) (N:=some 20) (v:= ?_) (a':= ?_) #[true,true,true,true,true,true,true,true,true,true,true,false,false,false,false,false] rfl rfl (yD HT_.out (by kernel_rfl)) (fun _ _ _ h=>h) (Or.inl ⟨by rfl,?_⟩) ?_ ?_;rotate_left
   ·intro w'
    go_simp
    with_reducible rfl
   rotate_left
   ·simp only [Act.put,List.setIfInBounds_toArray,List.set_cons_zero,List.set_cons_succ,zx,zy]
    rfl
   refine yM (i:=11) (N:=some 21) (v:= ?_) (a':= ?_) #[true,true,true,true,true,true,true,true,true,true,true,true,false,false,false,false] rfl rfl (yD HT_.out (by kernel_rfl)) (fun _ _ _ h=>h) (Or.inl ⟨by rfl,?_⟩) ?_ ?_;rotate_left
   ·intro w'
    go_simp
    with_reducible rfl
   rotate_left
   ·simp only [Act.put,List.setIfInBounds_toArray,List.set_cons_zero,List.set_cons_succ,zx,zy]
    rfl
   refine join_ (σ:=Value × Nat) 1 #[true,true,true,true,true,true,true,true,true,true,true,true,true,true,true,false] (fun s_=> [(22,s_.1),(7, .pointer (some ⟨s_.2,0,none⟩)),(23, .agg #[.int .i64 a0_0, .int .i64 a0_1,s_.1, .slice none 0 0])]) (fun s_ w'=>(w'.cell? ⟨vG,0,none⟩=some (.int .i64 a0_0)∧w'.cell? ⟨vG,1,none⟩=some (.int .i64 a0_1)∧w'.cell? ⟨vG,2,none⟩=some (.slice vi l0_2.length vk)∧w'.cell? ⟨vG,3,none⟩=some (.slice vp l0_3.length vl))∧(Kd.R (Kd.int .i64) 3 w' w.heap.size (fun _=>True) s_.1 t110)∧(w'.heap[vG]? =some (.cells #[.int .i64 a0_0, .int .i64 a0_1, .slice vi l0_2.length vk, .slice vp l0_3.length vl] 25 (0,0)))∧(w'.heap[vH]? =some (.cells #[.int .i64 0, .int .i64 0, .slice none 0 0, .slice none 0 0] 25 (0,0)))∧(w'.heap[s_.2]? =some (.cells #[.int .i64 0, .int .i64 0, .slice none 0 0, .slice none 0 0] 25 (0,0)))∧(w.heap.size≤s_.2)∧(w.heap.size≤s_.2)∧(vG≠s_.2)∧(s_.2≠vG)∧(vH≠s_.2)∧(s_.2≠vH)∧(Below w.heap.size w w')) ?_ ?_;rotate_left
   ·intro hCont
    refine two_ (i:=12) (j:=14) (Ni:=some 22) (Nj:=some 7) #[true,true,true,true,true,true,true,true,true,true,true,true,true,false,false,false] #[true,true,true,true,true,true,true,true,true,true,true,true,false,false,true,false] rfl rfl rfl rfl (two_of HT_.out (by kernel_rfl)) (by decide) (by decide) (fun K hK=> ?_) (fun K hK=> ?_)
    ·skip
     refine Yo Try.func29 (by kernel_rfl) rfl #[.slice vi (l0_2.take ((ji4):Int).toNat).length vk] (by rfl) rfl rfl Qx ?_
     with_reducible refine (yo.calls _ _ (l0_2.take ((ji4):Int).toNat) t110 _ ?side1 ?side2 A7.out).mono ?_
     (case side1=>exact Qo (Kd.C_below HR109.out HB.out))
     (case side2=>exact HC109.out)
     rintro e w12 ⟨v111,rfl,ho0,hb⟩;refine ⟨_,rfl,?_⟩;have n0_:=zA.mk (Kd.R_lower ho0 (zE (Qe wF wP)));have n1_:=zA.mk (ze (g:=vG) (Qi vd) hb);have n2_:=zA.mk (ze (g:=vH) (Qi BK108) hb);have n3_:=zA.mk (zH (Qe wF wP) hb);clear vd BK108 HB;have HO112:=n0_;have vd:=n1_;have BK108:=n2_;have HB:=n3_;clear n0_ n1_ n2_ n3_;(try clear hb ho0);obtain ⟨Ao13,co13,eo13⟩:=Kd.R_slice HO112.out
     (first|subst eo13|(injection eo13 with f1_ f2_ f3_;have f4_:=f1_.symm;have f5_:=f3_.symm;clear f1_ f2_ f3_;subst f4_;subst f5_))
     refine hK.out _ _ ⟨(zR vd.out 0).trans rfl,(zR vd.out 1).trans rfl,(zR vd.out 2).trans rfl,(zR vd.out 3).trans rfl⟩ (fun hHeld=> ?_);clear hK K;refine yl (a':= ?_) ?_ ?_;rotate_left
     ·show Act.put _ (some 22) _=_
      simp only [Act.put,List.setIfInBounds_toArray,List.set_cons_zero,List.set_cons_succ,zx,zy]
      rfl
     refine yM (i:=13) (N:=some 23) (v:= ?_) (a':= ?_) #[true,true,true,true,true,true,true,true,true,true,true,true,true,true,false,false] rfl rfl (yD HT_.out (by kernel_rfl)) (fun _ _ _ h=>h) (Or.inl ⟨by rfl,?_⟩) ?_ ?_;rotate_left
     ·intro w'
      go_simp
      with_reducible rfl
     rotate_left
     ·simp only [Act.put,List.setIfInBounds_toArray,List.set_cons_zero,List.set_cons_succ,zx,zy]
      rfl
     refine one_ (i:=14) (N:=some 7) #[true,true,true,true,true,true,true,true,true,true,true,true,true,true,true,false] rfl rfl (ym HT_.out (by kernel_rfl)) (by decide) (fun K hK=> ?_);refine box_step ?hg (N:=7) ?hd (cs:= #[.int .i64 0, .int .i64 0, .slice none 0 0, .slice none 0 0]) (t:=25) ?hr ?_;(case hd=>rfl);(case hg=>rfl);(case hr=>exact Qm);intro vv hg w14 hbox hb;have n0_:=zA.mk (Kd.R_below (Qh HO112) hb);have n1_:=zA.mk (ze (g:=vG) (Qi vd) hb);have n2_:=zA.mk (ze (g:=vH) (Qi BK108) hb);have n3_:=zA.mk (zH (Qe wF wP) hb);have n4_:=zA.mk (hbox);have n5_:=zA.mk ((by rw [hg];exact (zE (Qe wF wP)):w.heap.size≤vv));have n6_:=zA.mk ((by rw [hg];exact (zE (Qe wF wP)):w.heap.size≤vv));have n7_:=zA.mk ((by rw [hg];exact Nat.ne_of_lt (yG (g:=vG) (Qi vd)):vG≠vv));have n8_:=zA.mk ((by rw [hg];exact Nat.ne_of_gt (yG (g:=vG) (Qi vd)):vv≠vG));have n9_:=zA.mk ((by rw [hg];exact Nat.ne_of_lt (yG (g:=vH) (Qi BK108)):vH≠vv));have n10_:=zA.mk ((by rw [hg];exact Nat.ne_of_gt (yG (g:=vH) (Qi BK108)):vv≠vH));clear HO112 vd BK108 HB;have HO112:=n0_;have vd:=n1_;have BK108:=n2_;have HB:=n3_;have vn:=n4_;have GW113:=n5_;have GE113:=n6_;have NB107_113:=n7_;have NB113_107:=n8_;have NB108_113:=n9_;have NB113_108:=n10_;clear n0_ n1_ n2_ n3_ n4_ n5_ n6_ n7_ n8_ n9_ n10_ hb hbox hg;refine hK.out _ _ ⟨(zR vd.out 0).trans rfl,(zR vd.out 1).trans rfl,(zR vd.out 2).trans rfl,(zR vd.out 3).trans rfl⟩ (fun hHeld=> ?_);clear hK K;refine yl (a':= ?_) ?_ ?_;rotate_left
     ·show Act.put _ (some 7) _=_
      simp only [Act.put,List.setIfInBounds_toArray,List.set_cons_zero,List.set_cons_succ,zx,zy]
      rfl
     exact yl Q5 (hCont (.slice Ao13 t110.length co13,vv) _ ⟨hHeld,(Qh HO112),(Qi vd),(Qi BK108),(Qi vn),GW113.out,GE113.out,NB107_113.out,NB113_107.out,NB108_113.out,NB113_108.out,(Qf wF wP GE113)⟩)
    ·skip
     refine box_step ?hg (N:=7) ?hd (cs:= #[.int .i64 0, .int .i64 0, .slice none 0 0, .slice none 0 0]) (t:=25) ?hr ?_;(case hd=>rfl);(case hg=>rfl);(case hr=>exact Qm);intro vv hg w12 hbox hb;have n0_:=zA.mk (ze (g:=vG) (Qi vd) hb);have n1_:=zA.mk (ze (g:=vH) (Qi BK108) hb);have n2_:=zA.mk (zH (Qe wF wP) hb);have n3_:=zA.mk (hbox);have n4_:=zA.mk ((by rw [hg];exact (zE (Qe wF wP)):w.heap.size≤vv));have n5_:=zA.mk ((by rw [hg];exact (zE (Qe wF wP)):w.heap.size≤vv));have n6_:=zA.mk ((by rw [hg];exact Nat.ne_of_lt (yG (g:=vG) (Qi vd)):vG≠vv));have n7_:=zA.mk ((by rw [hg];exact Nat.ne_of_gt (yG (g:=vG) (Qi vd)):vv≠vG));have n8_:=zA.mk ((by rw [hg];exact Nat.ne_of_lt (yG (g:=vH) (Qi BK108)):vH≠vv));have n9_:=zA.mk ((by rw [hg];exact Nat.ne_of_gt (yG (g:=vH) (Qi BK108)):vv≠vH));clear vd BK108 HB;have vd:=n0_;have BK108:=n1_;have HB:=n2_;have vn:=n3_;have GW113:=n4_;have GE113:=n5_;have NB107_113:=n6_;have NB113_107:=n7_;have NB108_113:=n8_;have NB113_108:=n9_;clear n0_ n1_ n2_ n3_ n4_ n5_ n6_ n7_ n8_ n9_ hb hbox hg;refine hK.out _ _ ⟨(zR vd.out 0).trans rfl,(zR vd.out 1).trans rfl,(zR vd.out 2).trans rfl,(zR vd.out 3).trans rfl⟩ (fun hHeld=> ?_);clear hK K;refine yl (a':= ?_) ?_ ?_;rotate_left
     ·show Act.put _ (some 7) _=_
      simp only [Act.put,List.setIfInBounds_toArray,List.set_cons_zero,List.set_cons_succ,zx,zy]
      rfl
     refine one_ (i:=12) (N:=some 22) #[true,true,true,true,true,true,true,true,true,true,true,true,true,false,true,false] rfl rfl (ym HT_.out (by kernel_rfl)) (by decide) (fun K hK=> ?_);refine Yo Try.func29 (by kernel_rfl) rfl #[.slice vi (l0_2.take ((ji4):Int).toNat).length vk] (by rfl) rfl rfl Qx ?_
     with_reducible refine (yo.calls _ _ (l0_2.take ((ji4):Int).toNat) t110 _ ?side1 ?side2 A7.out).mono ?_
     (case side1=>exact Qo (Kd.C_below HR109.out HB.out))
     (case side2=>exact HC109.out)
     rintro e w13 ⟨v111,rfl,ho0,hb⟩;refine ⟨_,rfl,?_⟩;have n0_:=zA.mk (Kd.R_lower ho0 (zE (Qf wF wP GE113)));have n1_:=zA.mk (ze (g:=vG) (Qi vd) hb);have n2_:=zA.mk (ze (g:=vH) (Qi BK108) hb);have n3_:=zA.mk (ze (g:=vv) (Qi vn) hb);have n4_:=zA.mk (zH (Qf wF wP GE113) hb);clear vd BK108 vn HB;have HO112:=n0_;have vd:=n1_;have BK108:=n2_;have vn:=n3_;have HB:=n4_;clear n0_ n1_ n2_ n3_ n4_;(try clear hb ho0);obtain ⟨Ao14,co14,eo14⟩:=Kd.R_slice HO112.out
     (first|subst eo14|(injection eo14 with f1_ f2_ f3_;have f4_:=f1_.symm;have f5_:=f3_.symm;clear f1_ f2_ f3_;subst f4_;subst f5_))
     refine hK.out _ _ ⟨(zR vd.out 0).trans rfl,(zR vd.out 1).trans rfl,(zR vd.out 2).trans rfl,(zR vd.out 3).trans rfl⟩ (fun hHeld=> ?_);clear hK K;refine yl (a':= ?_) ?_ ?_;rotate_left
     ·show Act.put _ (some 22) _=_
      simp only [Act.put,List.setIfInBounds_toArray,List.set_cons_zero,List.set_cons_succ,zx,zy]
      rfl
     refine yM (i:=13) (N:=some 23) (v:= ?_) (a':= ?_) #[true,true,true,true,true,true,true,true,true,true,true,true,true,true,true,false] rfl rfl (yD HT_.out (by kernel_rfl)) (fun _ _ _ h=>h) (Or.inl ⟨by rfl,?_⟩) ?_ ?_;rotate_left
     ·intro w'
      go_simp
      with_reducible rfl
     rotate_left
     ·simp only [Act.put,List.setIfInBounds_toArray,List.set_cons_zero,List.set_cons_succ,zx,zy]
      rfl
     exact yl Q5 (hCont (.slice Ao14 t110.length co14,vv) _ ⟨hHeld,(Qh HO112),(Qi vd),(Qi BK108),(Qi vn),GW113.out,GE113.out,NB107_113.out,NB113_107.out,NB108_113.out,NB113_108.out,(Qf wF wP GE113)⟩)
   rintro ⟨v111,vv⟩ w15 ⟨hS_,h0_,h1_,h2_,h3_,h4_,h5_,h6_,h7_,h8_,h9_,h10_⟩;have n0_:zA (Kd.R (Kd.int .i64) 3 w15 w.heap.size (fun _=>True) v111 t110):=⟨h0_⟩;have n1_:zA (w15.heap[vG]? =some (.cells #[.int .i64 a0_0, .int .i64 a0_1, .slice vi l0_2.length vk, .slice vp l0_3.length vl] 25 (0,0))):=⟨h1_⟩;have n2_:zA (w15.heap[vH]? =some (.cells #[.int .i64 0, .int .i64 0, .slice none 0 0, .slice none 0 0] 25 (0,0))):=⟨h2_⟩;have n3_:zA (w15.heap[vv]? =some (.cells #[.int .i64 0, .int .i64 0, .slice none 0 0, .slice none 0 0] 25 (0,0))):=⟨h3_⟩;have n4_:zA (w.heap.size≤vv):=⟨h4_⟩;have n5_:zA (w.heap.size≤vv):=⟨h5_⟩;have n6_:zA (vG≠vv):=⟨h6_⟩;have n7_:zA (vv≠vG):=⟨h7_⟩;have n8_:zA (vH≠vv):=⟨h8_⟩;have n9_:zA (vv≠vH):=⟨h9_⟩;have n10_:zA (Below w.heap.size w w15):=⟨h10_⟩;clear vd BK108 HB h0_ h1_ h2_ h3_ h4_ h5_ h6_ h7_ h8_ h9_ h10_;have HO112:=n0_;have vd:=n1_;have BK108:=n2_;have vn:=n3_;have GW113:=n4_;have GE113:=n5_;have NB107_113:=n6_;have NB113_107:=n7_;have NB108_113:=n8_;have NB113_108:=n9_;have HB:=n10_;clear n0_ n1_ n2_ n3_ n4_ n5_ n6_ n7_ n8_ n9_ n10_;have hHeld:w15.cell? ⟨vG,0,none⟩=some (.int .i64 a0_0)∧w15.cell? ⟨vG,1,none⟩=some (.int .i64 a0_1)∧w15.cell? ⟨vG,2,none⟩=some (.slice vi l0_2.length vk)∧w15.cell? ⟨vG,3,none⟩=some (.slice vp l0_3.length vl):=hS_;obtain ⟨Ao16,co16,eo16⟩:=Kd.R_slice HO112.out
   (first|subst eo16|(injection eo16 with f1_ f2_ f3_;have f4_:=f1_.symm;have f5_:=f3_.symm;clear f1_ f2_ f3_;subst f4_;subst f5_))
   refine yl (a':= ?_) ?_ ?_;rotate_left
   ·simp only [Zt,Act.put,List.setIfInBounds_toArray,List.set_cons_zero,List.set_cons_succ]
    rfl
   refine one_ (i:=15) (N:=none) #[true,true,true,true,true,true,true,true,true,true,true,true,true,true,true,true] rfl rfl (ym HT_.out (by kernel_rfl)) (by decide) (fun K hK=> ?_);have hs17:w15.cell? ⟨vv,0,none⟩=some (.int .i64 0):=(zR vn.out 0).trans rfl;have hfs17:=zB vn.out 0;have hns17_0:=NB107_113.out;have hns17_1:=NB108_113.out;have hms17_0:=NB113_107.out;have hms17_1:=NB113_108.out;have hs18:w15.cell? ⟨vv,1,none⟩=some (.int .i64 0):=(zR vn.out 1).trans rfl;have hfs18:=zB vn.out 1;have hns18_0:=NB107_113.out;have hns18_1:=NB108_113.out;have hms18_0:=NB113_107.out;have hms18_1:=NB113_108.out;have hs19:w15.cell? ⟨vv,2,none⟩=some (.slice none 0 0):=(zR vn.out 2).trans rfl;have hfs19:=zB vn.out 2;have hns19_0:=NB107_113.out;have hns19_1:=NB108_113.out;have hms19_0:=NB113_107.out;have hms19_1:=NB113_108.out;have hs20:w15.cell? ⟨vv,3,none⟩=some (.slice none 0 0):=(zR vn.out 3).trans rfl;have hfs20:=zB vn.out 3;have hns20_0:=NB107_113.out;have hns20_1:=NB108_113.out;have hms20_0:=NB113_107.out;have hms20_1:=NB113_108.out;refine qq (w1:= ?_) (by rfl) rfl ?_ ?_;rotate_left
   ·go_simp
    rfl
   refine hK.out _ _ ⟨((ZQ (p:=⟨vv,_,none⟩) NB107_113.out _).trans (((ZQ (p:=⟨vv,_,none⟩) NB107_113.out _).trans (((ZQ (p:=⟨vv,_,none⟩) NB107_113.out _).trans (((ZQ (p:=⟨vv,_,none⟩) NB107_113.out _).trans (hHeld.1)))))))),((ZQ (p:=⟨vv,_,none⟩) NB107_113.out _).trans (((ZQ (p:=⟨vv,_,none⟩) NB107_113.out _).trans (((ZQ (p:=⟨vv,_,none⟩) NB107_113.out _).trans (((ZQ (p:=⟨vv,_,none⟩) NB107_113.out _).trans (hHeld.2.1)))))))),((ZQ (p:=⟨vv,_,none⟩) NB107_113.out _).trans (((ZQ (p:=⟨vv,_,none⟩) NB107_113.out _).trans (((ZQ (p:=⟨vv,_,none⟩) NB107_113.out _).trans (((ZQ (p:=⟨vv,_,none⟩) NB107_113.out _).trans (hHeld.2.2.1)))))))),((ZQ (p:=⟨vv,_,none⟩) NB107_113.out _).trans (((ZQ (p:=⟨vv,_,none⟩) NB107_113.out _).trans (((ZQ (p:=⟨vv,_,none⟩) NB107_113.out _).trans (((ZQ (p:=⟨vv,_,none⟩) NB107_113.out _).trans (hHeld.2.2.2))))))))⟩ (fun hHeld=> ?_);clear hK K;refine YR (Ze HT_.out (by kernel_rfl)) ?_
   try go_wp2
   go_loopg [8] k (fun kq v8 w'=>∃(x8_1:Int) (x114003_1:List (S45)) (u114003:Value),v8= .int .i64 x8_1∧zA (zg.l0 kq a2 x8_1 a0_0 a0_1 l0_2 l0_3 a0_0 a0_1 t110 x114003_1=some (r1,r2,r3,r4))∧zA (kq≤k)∧zA (Kd.R (Kd.int .i64) 3 w' w.heap.size (fun _=>True) (.slice Ao16 t110.length co16) t110)∧zA (Kd.S k45 45 w' w.heap.size (fun _=>True) u114003 x114003_1)∧zA (w'.heap[vG]? =some (.cells #[.int .i64 a0_0, .int .i64 a0_1,(.slice vi l0_2.length vk),(.slice vp l0_3.length vl)] 25 (0,0)))∧zA (w'.heap[vH]? =some (.cells #[.int .i64 0, .int .i64 0,(.slice none 0 0),(.slice none 0 0)] 25 (0,0)))∧zA (w'.heap[vv]? =some (.cells #[.int .i64 a0_0, .int .i64 a0_1,(.slice Ao16 t110.length co16),u114003] 25 (0,0)))∧zA (Below w.heap.size w w'))
   case atStart=>exact ⟨(0),(([]:List (S45))),(.slice none 0 0),Zb,H',⟨Nat.le_refl _⟩,⟨by (with_reducible repeat (first|apply Kd.R_alloc|apply Kd.R_drewN|apply Kd.R_drew));exact Kd.R_mono (Kd.R_far (p:=⟨vv,3,none⟩) (Kd.R_far (p:=⟨vv,2,none⟩) (Kd.R_far (p:=⟨vv,1,none⟩) (Kd.R_far (p:=⟨vv,0,none⟩) (Kd.R_types HO112.out vn.out (by decide)) (fun _ hk=>hk.2) (.int .i64 a0_0)) (fun _ hk=>hk.2) (.int .i64 a0_1)) (fun _ hk=>hk.2) (.slice Ao16 t110.length co16)) (fun _ hk=>hk.2) (.slice none 0 0)) (fun _ hk=>trivial)⟩,⟨by first|exact Kd.S_nil _ _ _ _ _|exact Kd.N_nil _ _ _ _ _|exact Kd.V_nil _ _ _ _ _|exact Kd.Q_nil _ _ _ _ _|exact Kd.R_nil _ _ _ _ _⟩,⟨by (with_reducible repeat (first|refine zO ?_ _|refine zQ ?_|refine zM ?_ _));refine yJ ?_ NB107_113.out _;(with_reducible repeat (first|refine zO ?_ _|refine zQ ?_|refine zM ?_ _));refine yJ ?_ NB107_113.out _;(with_reducible repeat (first|refine zO ?_ _|refine zQ ?_|refine zM ?_ _));refine yJ ?_ NB107_113.out _;(with_reducible repeat (first|refine zO ?_ _|refine zQ ?_|refine zM ?_ _));refine yJ ?_ NB107_113.out _;(with_reducible repeat (first|refine zO ?_ _|refine zQ ?_|refine zM ?_ _));exact vd.out⟩,⟨by (with_reducible repeat (first|refine zO ?_ _|refine zQ ?_|refine zM ?_ _));refine yJ ?_ NB108_113.out _;(with_reducible repeat (first|refine zO ?_ _|refine zQ ?_|refine zM ?_ _));refine yJ ?_ NB108_113.out _;(with_reducible repeat (first|refine zO ?_ _|refine zQ ?_|refine zM ?_ _));refine yJ ?_ NB108_113.out _;(with_reducible repeat (first|refine zO ?_ _|refine zQ ?_|refine zM ?_ _));refine yJ ?_ NB108_113.out _;(with_reducible repeat (first|refine zO ?_ _|refine zQ ?_|refine zM ?_ _));exact BK108.out⟩,⟨by (with_reducible repeat (first|refine zO ?_ _|refine zQ ?_|refine zM ?_ _));refine yU (cs:= #[.int .i64 a0_0, .int .i64 a0_1, .slice Ao16 t110.length co16, .slice none 0 0]) ?_ 3 _ rfl;(with_reducible repeat (first|refine zO ?_ _|refine zQ ?_|refine zM ?_ _));refine yU (cs:= #[.int .i64 a0_0, .int .i64 a0_1, .slice none 0 0, .slice none 0 0]) ?_ 2 _ rfl;(with_reducible repeat (first|refine zO ?_ _|refine zQ ?_|refine zM ?_ _));refine yU (cs:= #[.int .i64 a0_0, .int .i64 0, .slice none 0 0, .slice none 0 0]) ?_ 1 _ rfl;(with_reducible repeat (first|refine zO ?_ _|refine zQ ?_|refine zM ?_ _));refine yU (cs:= #[.int .i64 0, .int .i64 0, .slice none 0 0, .slice none 0 0]) ?_ 0 _ rfl;(with_reducible repeat (first|refine zO ?_ _|refine zQ ?_|refine zM ?_ _));exact vn.out⟩,⟨by repeat (first|(with_reducible first|exact HB.out|apply zG|apply zC|apply zF|refine zK ?_ wF.out|refine zK ?_ wP.out|refine zK ?_ GE113.out)|exact HB.out)⟩⟩
   case round=>
    clear H';(try clear c1);(try clear c2);(try clear p2);(try clear c5);(try clear c5b0);(try clear c5b1);(try clear c6);(try clear c6b0);(try clear c6b1);(try clear c14);obtain ⟨x8_1,x114003_1,u114003,rfl,HA,HK1,vQ,vB,vd,BK108,vn,HB⟩:=hrel;cases gk with
    | zero=>exact absurd HA.out (by simp [zg.l0])
    | succ k1=>
     have H:=HA.out;clear HA;simp only [zg.l0] at H
     by_cases c21:x8_1 < (l0_3.length:Int)
     ·rw [if_pos c21] at H
      have c21b0:=decide_eq_true c21;clear c21
      by_cases c22:x8_1 < a2
      ·rw [if_pos c22] at H
       have c22b0:=decide_eq_true c22;clear c22
       by_cases c23:0≤x8_1
       ·rw [if_pos c23] at H
        have c23b0:=decide_eq_true c23;clear c23;obtain ⟨y116,hy116⟩:∃y_:List (S51),y_=(([]:List (S51))):=⟨_,rfl⟩;replace H:(if 0≤(mn (((zD l0_3 x8_1).f1).length:Int) 8) then (if (mn (((zD l0_3 x8_1).f1).length:Int) 8)≤(((zD l0_3 x8_1).f1).length:Int) then ((some (((zD l0_3 x8_1).f1).take ((mn (((zD l0_3 x8_1).f1).length:Int) 8):Int).toNat:List (S51))).bind fun y119=>(if y116.length + y119.length < 8796093022208 then (if x114003_1.length < 4398046511104 then (zg.l0 k1 a2 (wrap64 (x8_1 + 1)) a0_0 a0_1 l0_2 l0_3 a0_0 a0_1 t110 (x114003_1 ++ [(⟨(zD l0_3 x8_1).f0,(y116 ++ y119)⟩:S45)])) else (none)) else (none))) else (none)) else (none))=some (r1,r2,r3,r4):=Qb hy116 H;have Ny116:=zA.mk hy116;clear hy116;obtain ⟨ji24,hji24⟩:∃j_:Int,(mn (((zD l0_3 x8_1).f1).length:Int) 8)=j_:=⟨_,rfl⟩
        replace H:(if 0≤(ji24) then (if (ji24)≤(((zD l0_3 x8_1).f1).length:Int) then ((some (((zD l0_3 x8_1).f1).take ((ji24):Int).toNat:List (S51))).bind fun y119=>(if y116.length + y119.length < 8796093022208 then (if x114003_1.length < 4398046511104 then (zg.l0 k1 a2 (wrap64 (x8_1 + 1)) a0_0 a0_1 l0_2 l0_3 a0_0 a0_1 t110 (x114003_1 ++ [(⟨(zD l0_3 x8_1).f0,(y116 ++ y119)⟩:S45)])) else (none)) else (none))) else (none)) else (none))=some (r1,r2,r3,r4):=by first|(rw [hji24] at H;exact H)|(simp only [hji24] at H⊢;exact H)
        have hji24_:(if 8 < (((zD l0_3 x8_1).f1).length:Int) then 8 else (((zD l0_3 x8_1).f1).length:Int))=ji24:=hji24
        by_cases c25:0≤(ji24)
        ·rw [if_pos c25] at H
         have c25b0:=eq_true c25;have c25b1:=decide_eq_true c25;clear c25
         by_cases c26:(ji24)≤(((zD l0_3 x8_1).f1).length:Int)
         ·rw [if_pos c26] at H
          have c26b0:=eq_true c26;have c26b1:=decide_eq_true c26;clear c26;obtain ⟨y119,hy119⟩:∃y_:List (S51),y_=(((zD l0_3 x8_1).f1).take ((ji24):Int).toNat):=⟨_,rfl⟩;replace H:(if y116.length + y119.length < 8796093022208 then (if x114003_1.length < 4398046511104 then (zg.l0 k1 a2 (wrap64 (x8_1 + 1)) a0_0 a0_1 l0_2 l0_3 a0_0 a0_1 t110 (x114003_1 ++ [(⟨(zD l0_3 x8_1).f0,(y116 ++ y119)⟩:S45)])) else (none)) else (none))=some (r1,r2,r3,r4):=Qb hy119 H;have Ny119:=zA.mk hy119;clear hy119
          by_cases c27:y116.length + y119.length < 8796093022208
          ·rw [if_pos c27] at H
           have LMc27:=zA.mk c27;clear c27;obtain ⟨y123,hy123⟩:∃y_:List (S51),y_=(y116 ++ y119):=⟨_,rfl⟩;replace H:(if x114003_1.length < 4398046511104 then (zg.l0 k1 a2 (wrap64 (x8_1 + 1)) a0_0 a0_1 l0_2 l0_3 a0_0 a0_1 t110 (x114003_1 ++ [(⟨(zD l0_3 x8_1).f0,y123⟩:S45)])) else (none))=some (r1,r2,r3,r4):=Qb hy123 H;have Ny123:=zA.mk hy123;clear hy123
           by_cases c28:x114003_1.length < 4398046511104
           ·rw [if_pos c28] at H
            have LMc28:=zA.mk c28;clear c28;obtain ⟨y126,hy126⟩:∃y_:List (S45),y_=(x114003_1 ++ [(⟨(zD l0_3 x8_1).f0,y123⟩:S45)]):=⟨_,rfl⟩;replace H:(zg.l0 k1 a2 (wrap64 (x8_1 + 1)) a0_0 a0_1 l0_2 l0_3 a0_0 a0_1 t110 y126)=some (r1,r2,r3,r4):=Qb hy126 H;have Ny126:=zA.mk hy126;clear hy126;have H':=zA.mk H;clear H;have hnb29:=NB107_108.out;have hnc29:=NB108_107.out;have hnb30:=NB107_113.out;have hnc30:=NB113_107.out;have hcz31_0:=Qn vd 0 rfl;have hcz31_1:=Qn vd 1 rfl;have hcz31_2:=Qn vd 2 rfl;have hcz31_3:=Qn vd 3 rfl;have hfz31_0:=zB vd.out 0;have hfz31_1:=zB vd.out 1;have hfz31_2:=zB vd.out 2;have hfz31_3:=zB vd.out 3;have p114:0≤(x8_1:Int):=Qa;have q114:x8_1 < (l0_3.length:Int):=Qa;obtain ⟨ad114,A114_1,c114_1,e114,hx114_0,hx114_1,hl114_1,hi114_1⟩:=yv vw.out x8_1 p114 q114;cases e114;replace hx114_0:=(HB.out.cell (ZzA w _ hx114_0)).trans hx114_0;replace hx114_1:=(HB.out.cell (ZzA w _ hx114_1)).trans hx114_1;have HR114_1:=zA.mk hi114_1;have HC114_1:=zA.mk hl114_1;clear hi114_1 hl114_1;replace p114:=eq_true p114;replace q114:=eq_true q114
            try go_wp2
            have n0_:=zA.mk (Kd.R_drew vQ.out);have n1_:=zA.mk (Kd.S_drew vB.out);have n2_:=zA.mk (zQ vd.out);have n3_:=zA.mk (zQ BK108.out);have n4_:=zA.mk (zQ vn.out);have n5_:=zA.mk (zF HB.out);clear vQ vB vd BK108 vn HB;have vQ:=n0_;have vB:=n1_;have vd:=n2_;have BK108:=n3_;have vn:=n4_;have HB:=n5_;clear n0_ n1_ n2_ n3_ n4_ n5_;have p115:0≤(x8_1:Int):=Qa;have q115:x8_1 < (l0_3.length:Int):=Qa;obtain ⟨ad115,A115_1,c115_1,e115,hx115_0,hx115_1,hl115_1,hi115_1⟩:=yv vw.out x8_1 p115 q115;have hw115_1:=hx115_1;have hw115_0:=hx115_0;obtain rfl:ad114=ad115:=(by injection e115);replace hx115_0:=(HB.out.cell (ZzA w _ hx115_0)).trans hx115_0;replace hx115_1:=(HB.out.cell (ZzA w _ hx115_1)).trans hx115_1;have HR115_1:=zA.mk hi115_1;have HC115_1:=zA.mk hl115_1;clear hi115_1 hl115_1;replace p115:=eq_true p115;replace q115:=eq_true q115;have q33:((ji24):Int)≤((((zD l0_3 x8_1).f1).length:Int):Int):=Qa;obtain ⟨i033,hi033,_,hsz33,_⟩:=info_parts info51;have hroom33:((zD l0_3 x8_1).f1).length≤c114_1:=HC114_1.out;have hC33:Kd.C k51 _ A114_1 ((zD l0_3 x8_1).f1).length ((zD l0_3 x8_1).f1):=HR114_1.out;have hcut33:=cut_to (P:=Try.prog) 43 51 .i64 Try.underlying43 hi033 A114_1 ((zD l0_3 x8_1).f1).length c114_1 (ji24) (Qa) q33 hroom33;have hr33:=Kd.C_take (m:=((ji24):Int).toNat) hC33 (by omega);have hy33:y119.length=((ji24):Int).toNat:=(by rw [Ny119.out,List.length_take];omega);rw [←Ny119.out] at hr33;rw [←hy33] at hcut33;have HR122:=zA.mk hr33;have HC122:=zA.mk (show y119.length≤c114_1 from by omega);clear hr33 hC33 hroom33 hi033 hsz33;have KY33:=zA.mk hy33;clear hy33;replace q33:=eq_true q33;refine Zr (n:=20) (S:=fun w'=>w'.cell? ⟨vv,0,none⟩=some (.int .i64 a0_0)∧w'.cell? ⟨vv,1,none⟩=some (.int .i64 a0_1)∧w'.cell? ⟨vv,2,none⟩=some (.slice Ao16 t110.length co16)∧w'.cell? ⟨vv,3,none⟩=some (u114003)∧w'.cell? ⟨vG,0,none⟩=some (.int .i64 a0_0)∧w'.cell? ⟨vG,1,none⟩=some (.int .i64 a0_1)∧w'.cell? ⟨vG,2,none⟩=some (.slice vi l0_2.length vk)∧w'.cell? ⟨vG,3,none⟩=some (.slice (some ad114) l0_3.length vl)∧w'.cell? (ad114.add ((x8_1).toNat * 2))=some (.int .i64 ((zD l0_3 x8_1).f0))∧w'.cell? ⟨(ad114.add ((x8_1).toNat * 2)).block,(ad114.add ((x8_1).toNat * 2)).off + 1,none⟩=some (.slice A115_1 ((zD l0_3 x8_1).f1).length c115_1)) (ds:= [19]) #[false,false,false,false,false,false,false,false,false,false,false,false,false,false,false,false,false,false,false,false] (by kernel_rfl) rfl rfl ⟨(zR vn.out 0).trans rfl,(zR vn.out 1).trans rfl,(zR vn.out 2).trans rfl,(zR vn.out 3).trans rfl,(zR vd.out 0).trans rfl,(zR vd.out 1).trans rfl,(zR vd.out 2).trans rfl,(zR vd.out 3).trans rfl,((HB.out.cell (ZzA w _ hw115_0)).trans hw115_0),((HB.out.cell (ZzA w _ hw115_1)).trans hw115_1)⟩ (fun hHeld=> ?_);refine ZJ zg.tab6 zg.bits6 (fun HT_ HW_=> ?_)
            generalize wr.drew=w32 at vQ vB vd BK108 vn HB HR115_1 HR122 hx115_0 hx115_1 hHeld⊢
            refine yM (i:=0) (N:=some 42) (v:= ?_) (a':= ?_) #[true,false,false,false,false,false,false,false,false,false,false,false,false,false,false,false,false,false,false,false] rfl rfl (yD HT_.out (by kernel_rfl)) (fun _ _ _ h=>h) (Or.inl ⟨by rfl,?_⟩) ?_ ?_;rotate_left
            ·intro w'
             go_simp
             with_reducible rfl
            rotate_left
            ·simp only [Act.put,List.setIfInBounds_toArray,List.set_cons_zero,List.set_cons_succ,zx,zy]
             rfl
            refine yM (i:=2) (N:=some 44) (v:= ?_) (a':= ?_) #[true,false,true,false,false,false,false,false,false,false,false,false,false,false,false,false,false,false,false,false] rfl rfl (yD HT_.out (by kernel_rfl)) (fun _ _ _ h=>h) (Or.inl ⟨by rfl,?_⟩) ?_ ?_;rotate_left
            ·intro w'
             go_simp
             with_reducible rfl
            rotate_left
            ·simp only [Act.put,List.setIfInBounds_toArray,List.set_cons_zero,List.set_cons_succ,zx,zy]
             rfl
            refine yM (i:=4) (N:=some 46) (v:= ?_) (a':= ?_) #[true,false,true,false,true,false,false,false,false,false,false,false,false,false,false,false,false,false,false,false] rfl rfl (yD HT_.out (by kernel_rfl)) (fun _ _ _ h=>h) (Or.inl ⟨by rfl,?_⟩) ?_ ?_;rotate_left
            ·intro w'
             go_simp
             with_reducible rfl
            rotate_left
            ·simp only [Act.put,List.setIfInBounds_toArray,List.set_cons_zero,List.set_cons_succ,zx,zy]
             rfl
            refine yM (i:=9) (N:=some 51) (v:= ?_) (a':= ?_) #[true,false,true,false,true,false,false,false,false,true,false,false,false,false,false,false,false,false,false,false] rfl rfl (yD HT_.out (by kernel_rfl)) (fun _ _ _ h=>h) (Or.inl ⟨by rfl,?_⟩) ?_ ?_;rotate_left
            ·intro w'
             go_simp
             with_reducible rfl
            rotate_left
            ·simp only [Act.put,List.setIfInBounds_toArray,List.set_cons_zero,List.set_cons_succ,zx,zy]
             rfl
            refine yM (i:=10) (N:=some 52) (v:= ?_) (a':= ?_) #[true,false,true,false,true,false,false,false,false,true,true,false,false,false,false,false,false,false,false,false] rfl rfl (yD HT_.out (by kernel_rfl)) (fun _ _ _ h=>h) (Or.inl ⟨by rfl,?_⟩) ?_ ?_;rotate_left
            ·intro w'
             go_simp
             with_reducible rfl
            rotate_left
            ·simp only [Act.put,List.setIfInBounds_toArray,List.set_cons_zero,List.set_cons_succ,zx,zy]
             rfl
            refine yM (i:=11) (N:=some 53) (v:= ?_) (a':= ?_) #[true,false,true,false,true,false,false,false,false,true,true,true,false,false,false,false,false,false,false,false] rfl rfl (yD HT_.out (by kernel_rfl)) (fun _ _ _ h=>h) (Or.inl ⟨by rfl,?_⟩) ?_ ?_;rotate_left
            ·intro w'
             go_simp
             with_reducible rfl
            rotate_left
            ·simp only [Act.put,List.setIfInBounds_toArray,List.set_cons_zero,List.set_cons_succ,zx,zy]
             rfl
            refine yM (i:=12) (N:=some 54) (v:= ?_) (a':= ?_) #[true,false,true,false,true,false,false,false,false,true,true,true,true,false,false,false,false,false,false,false] rfl rfl (yD HT_.out (by kernel_rfl)) (fun _ _ _ h=>h) (Or.inl ⟨by rfl,?_⟩) ?_ ?_;rotate_left
            ·intro w'
             go_simp
             with_reducible rfl
            rotate_left
            ·simp only [Act.put,List.setIfInBounds_toArray,List.set_cons_zero,List.set_cons_succ,zx,zy]
             rfl
            refine yM (i:=13) (N:=some 55) (v:= ?_) (a':= ?_) #[true,false,true,false,true,false,false,false,false,true,true,true,true,true,false,false,false,false,false,false] rfl rfl (yD HT_.out (by kernel_rfl)) (fun _ _ _ h=>h) (Or.inl ⟨by rfl,?_⟩) ?_ ?_;rotate_left
            ·intro w'
             go_simp
             with_reducible rfl
            rotate_left
            ·simp only [Act.put,List.setIfInBounds_toArray,List.set_cons_zero,List.set_cons_succ,zx,zy]
             rfl
            refine take_ (i:=1) (N:=some 43) (v:= ?_) (a':= ?_) #[true,true,true,false,true,false,false,false,false,true,true,true,true,true,false,false,false,false,false,false] rfl rfl (yb HT_.out HW_.out (by kernel_rfl)) (fun _ _ _ h=>h) (Or.inl ⟨by rfl,?_⟩) hHeld ?_ ?_;rotate_left
            ·rintro w' ⟨s0,s1,s2,s3,s4,s5,s6,s7,s8,s9⟩
             go_simp
             with_reducible rfl
            rotate_left
            ·simp only [Act.put,List.setIfInBounds_toArray,List.set_cons_zero,List.set_cons_succ,zx,zy]
             rfl
            refine take_ (i:=3) (N:=some 45) (v:= ?_) (a':= ?_) #[true,true,true,true,true,false,false,false,false,true,true,true,true,true,false,false,false,false,false,false] rfl rfl (yb HT_.out HW_.out (by kernel_rfl)) (fun _ _ _ h=>h) (Or.inl ⟨by rfl,?_⟩) hHeld ?_ ?_;rotate_left
            ·rintro w' ⟨s0,s1,s2,s3,s4,s5,s6,s7,s8,s9⟩
             go_simp
             with_reducible rfl
            rotate_left
            ·simp only [Act.put,List.setIfInBounds_toArray,List.set_cons_zero,List.set_cons_succ,zx,zy]
             rfl
            refine yM (i:=5) (N:=some 47) (v:= ?_) (a':= ?_) #[true,true,true,true,true,true,false,false,false,true,true,true,true,true,false,false,false,false,false,false] rfl rfl (yD HT_.out (by kernel_rfl)) (fun _ _ _ h=>h) (Or.inl ⟨by rfl,?_⟩) ?_ ?_;rotate_left
            ·intro w'
             go_simp
             with_reducible rfl
            rotate_left
            ·simp only [Act.put,List.setIfInBounds_toArray,List.set_cons_zero,List.set_cons_succ,zx,zy]
             rfl
            refine yM (i:=6) (N:=some 48) (v:= ?_) (a':= ?_) #[true,true,true,true,true,true,true,false,false,true,true,true,true,true,false,false,false,false,false,false] rfl rfl (yD HT_.out (by kernel_rfl)) (fun _ _ _ h=>h) (Or.inl ⟨by rfl,?_⟩) ?_ ?_;rotate_left
            ·intro w'
             go_simp
             with_reducible rfl
            rotate_left
            ·simp only [Act.put,List.setIfInBounds_toArray,List.set_cons_zero,List.set_cons_succ,zx,zy]
             rfl
            refine take_ (i:=7) (N:=some 49) (v:= ?_) (a':= ?_) #[true,true,true,true,true,true,true,true,false,true,true,true,true,true,false,false,false,false,false,false] rfl rfl (yb HT_.out HW_.out (by kernel_rfl)) (fun _ _ _ h=>h) (Or.inl ⟨by rfl,?_⟩) hHeld ?_ ?_;rotate_left
            ·rintro w' ⟨s0,s1,s2,s3,s4,s5,s6,s7,s8,s9⟩
             go_simp
             with_reducible rfl
            rotate_left
            ·simp only [Act.put,List.setIfInBounds_toArray,List.set_cons_zero,List.set_cons_succ,zx,zy]
             rfl
            refine one_ (i:=8) (N:=some 50) #[true,true,true,true,true,true,true,true,true,true,true,true,true,true,false,false,false,false,false,false] rfl rfl (ym HT_.out (by kernel_rfl)) (by decide) (fun K hK=> ?_);refine Kd.R_lit_step k51 _ 51 ?hg (N:=50) ?hd (xs:=([]:List (S51))) (inner:= []) (ok:=fun _=>True) (okp:=fun _=>True) ?hr ?hp (fun _ hk=>hk) trivial (Below.refl _ _) (Nat.le_refl _) (by simp) ?_;(case hd=>rfl);(case hg=>rfl);(case hr=>exact Qm);(case hp=>exact (Reps.none _ _));intro v117 w34 ho35 hb hg_ hnew_;clear hg_ hnew_
            (first|rw [←Ny116.out] at ho35|(simp only [Int.reduceToNat] at ho35;rw [←Ny116.out] at ho35))
            have n0_:=zA.mk (Kd.R_below (Qh vQ) hb);have n1_:=zA.mk (Kd.S_elder' (Qj vB) (Kd.R_base ho35) hb);have n2_:=zA.mk (Kd.R_lower ho35 (zE (Qf wF wP GE113)));have n3_:=zA.mk (ze (g:=vG) (Qi vd) hb);have n4_:=zA.mk (ze (g:=vH) (Qi BK108) hb);have n5_:=zA.mk (ze (g:=vv) (Qi vn) hb);have n6_:=zA.mk (zH (Qf wF wP GE113) hb);clear vQ vB vd BK108 vn HB;have vQ:=n0_;have vB:=n1_;have HO118:=n2_;have vd:=n3_;have BK108:=n4_;have vn:=n5_;have HB:=n6_;clear n0_ n1_ n2_ n3_ n4_ n5_ n6_ hb ho35;refine hK.out _ _ ⟨(zR vn.out 0).trans rfl,(zR vn.out 1).trans rfl,(zR vn.out 2).trans rfl,(zR vn.out 3).trans rfl,(zR vd.out 0).trans rfl,(zR vd.out 1).trans rfl,(zR vd.out 2).trans rfl,(zR vd.out 3).trans rfl,((HB.out.cell (ZzA w _ hw115_0)).trans hw115_0),((HB.out.cell (ZzA w _ hw115_1)).trans hw115_1)⟩ (fun hHeld=> ?_);clear hK K;refine yl (a':= ?_) ?_ ?_;rotate_left
            ·show Act.put _ (some 50) _=_
             simp only [Act.put,List.setIfInBounds_toArray,List.set_cons_zero,List.set_cons_succ,zx,zy]
             rfl
            refine one_ (i:=14) (N:=some 56) #[true,true,true,true,true,true,true,true,true,true,true,true,true,true,true,false,false,false,false,false] rfl rfl (ym HT_.out (by kernel_rfl)) (by decide) (fun K hK=> ?_);refine Kd.R_append_rows_step k51 (w0:=w) w.heap.size (by rfl) (.tmp 50) (.tmp 55) 43 51 (.agg #[(.bool false),(.int .i64 0)]) 16 rfl Try.underlying43 info51 rfl (by decide) (by omega) v117 y116 y119 _ _ _ (fun _=>True) (fun _=>False) rfl rfl ?aO ?aR (fun _ _ h=>h) (fun _ h=>h.elim) ?aF ?aB ?aS ?aL ?_
            (case aR=>exact Qo (Kd.C_below HR122.out HB.out))
            (case aB=>exact (Qf wF wP GE113))
            (case aF=>exact (fun _ _=>trivial))
            (case aO=>exact (Qh HO118))
            (case aS=>exact (zE (Qf wF wP GE113)))
            (case aL=>have:=LMc27.out;omega)
            intro v124 w36 ho hb hg hat
            rw [←Ny123.out] at ho;have n0_:=zA.mk (Kd.R_over' (Qh vQ) (Kd.R_typed (Qh HO118)) (by decide) hg);have n1_:=zA.mk (Kd.S_after (ok:=(fun _=>True)) (Qj vB) hg hat);have n2_:=zA.mk (yy (g:=vG) (Qi vd) hg (Kd.R_ne HO118.out vd.out (by decide)));have n3_:=zA.mk (yy (g:=vH) (Qi BK108) hg (Kd.R_ne HO118.out BK108.out (by decide)));have n4_:=zA.mk (yy (g:=vv) (Qi vn) hg (Kd.R_ne HO118.out vn.out (by decide)));have n5_:=zA.mk (hb);have n6_:=zA.mk (ho);clear vQ vB vd BK108 vn HB HO118;have vQ:=n0_;have vB:=n1_;have vd:=n2_;have BK108:=n3_;have vn:=n4_;have HB:=n5_;have HO125:=n6_
            clear n0_ n1_ n2_ n3_ n4_ n5_ n6_ ho hb hg hat
            obtain ⟨Ao37,co37,eo37⟩:=Kd.R_slice HO125.out
            (first|subst eo37|(injection eo37 with f1_ f2_ f3_;have f4_:=f1_.symm;have f5_:=f3_.symm;clear f1_ f2_ f3_;subst f4_;subst f5_))
            refine hK.out _ _ ⟨(zR vn.out 0).trans rfl,(zR vn.out 1).trans rfl,(zR vn.out 2).trans rfl,(zR vn.out 3).trans rfl,(zR vd.out 0).trans rfl,(zR vd.out 1).trans rfl,(zR vd.out 2).trans rfl,(zR vd.out 3).trans rfl,((HB.out.cell (ZzA w _ hw115_0)).trans hw115_0),((HB.out.cell (ZzA w _ hw115_1)).trans hw115_1)⟩ (fun hHeld=> ?_);clear hK K;refine yl (a':= ?_) ?_ ?_;rotate_left
            ·show Act.put _ (some 56) _=_
             simp only [Act.put,List.setIfInBounds_toArray,List.set_cons_zero,List.set_cons_succ,zx,zy]
             rfl
            refine yM (i:=15) (N:=some 57) (v:= ?_) (a':= ?_) #[true,true,true,true,true,true,true,true,true,true,true,true,true,true,true,true,false,false,false,false] rfl rfl (yD HT_.out (by kernel_rfl)) (fun _ _ _ h=>h) (Or.inl ⟨by rfl,?_⟩) ?_ ?_;rotate_left
            ·intro w'
             go_simp
             with_reducible rfl
            rotate_left
            ·simp only [Act.put,List.setIfInBounds_toArray,List.set_cons_zero,List.set_cons_succ,zx,zy]
             rfl
            refine one_ (i:=16) (N:=some 58) #[true,true,true,true,true,true,true,true,true,true,true,true,true,true,true,true,true,false,false,false] rfl rfl (ym HT_.out (by kernel_rfl)) (by decide) (fun K hK=> ?_);refine value_ (w1:= ?_) (v:= ?_) (by rfl) rfl ?_ ?_;rotate_left 2
            ·go_simp
             constructor
             ·rfl
             ·rfl
            refine hK.out _ _ ⟨(zR (zM vn.out _) 0).trans rfl,(zR (zM vn.out _) 1).trans rfl,(zR (zM vn.out _) 2).trans rfl,(zR (zM vn.out _) 3).trans rfl,(zR (zM vd.out _) 0).trans rfl,(zR (zM vd.out _) 1).trans rfl,(zR (zM vd.out _) 2).trans rfl,(zR (zM vd.out _) 3).trans rfl,(World.cell?_alloc_lt _ _ _ (ZzA _ _ (((HB.out.cell (ZzA w _ hw115_0)).trans hw115_0)))).trans (((HB.out.cell (ZzA w _ hw115_0)).trans hw115_0)),(World.cell?_alloc_lt _ _ _ (ZzA _ _ (((HB.out.cell (ZzA w _ hw115_1)).trans hw115_1)))).trans (((HB.out.cell (ZzA w _ hw115_1)).trans hw115_1))⟩ (fun hHeld=> ?_);clear hK K;refine yl (a':= ?_) ?_ ?_;rotate_left
            ·show Act.put _ (some 58) _=_
             simp only [Act.put,List.setIfInBounds_toArray,List.set_cons_zero,List.set_cons_succ,zx,zy]
             rfl
            refine one_ (i:=17) (N:=some 59) #[true,true,true,true,true,true,true,true,true,true,true,true,true,true,true,true,true,true,false,false] rfl rfl (ym HT_.out (by kernel_rfl)) (by decide) (fun K hK=> ?_);refine Kd.S_append_step k45 (w0:=w) w.heap.size (by rfl) (.tmp 43) (.tmp 58) 23 45 (.agg #[(.int .i64 0),(.slice none 0 0)]) 32 rfl Try.underlying23 info45 rfl (by decide) (by omega) u114003 x114003_1 (⟨(zD l0_3 x8_1).f0,y123⟩:S45) [.int .i64 ((zD l0_3 x8_1).f0), .slice Ao37 y123.length co37] (fun _=>True) (fun k_=>some k_=(.slice Ao37 y123.length co37:Value).ownBlock) rfl rfl ?aP (fun k_ hk_=>((Kd.R_mono (ok':=fun k_=>((fun _=>True)) k_∧some k_≠(u114003:Value).ownBlock) (Kd.R_apart' (HO125.out) (Kd.S_typed vB.out) (by decide)) (fun k_ hk=>⟨trivial,hk.2⟩))).1 k_ hk_.symm) ?aF ?aO ?aB ?aS ?aL ?_
            (case aP=>exact k45_mkM _ _ _ (⟨(zD l0_3 x8_1).f0,y123⟩:S45) (Kd.R_mono (Kd.R_tight rfl (Kd.R_mono (ok':=fun k_=>((fun _=>True)) k_∧some k_≠(u114003:Value).ownBlock) (Kd.R_apart' (HO125.out) (Kd.S_typed vB.out) (by decide)) (fun k_ hk=>⟨trivial,hk.2⟩))) (fun _ h_=>h_)))
            (case aB=>exact (Qf wF wP GE113))
            (case aF=>exact (fun _ _=>trivial))
            (case aO=>exact (by (with_reducible repeat (first|apply Kd.S_alloc|apply Kd.S_drewN|apply Kd.S_drew));exact Kd.S_mono vB.out (fun k_ hk=>⟨trivial,fun e_=>hk.2 e_⟩)))
            (case aS=>exact (zE (Qf wF wP GE113)))
            (case aL=>have:=LMc28.out;omega)
            intro v127 w38 ho hb hg hat
            rw [←Ny126.out] at ho;have n0_:=zA.mk (Kd.R_over' (Qh vQ) (Kd.S_typed (Qj vB)) (by decide) hg);have n1_:=zA.mk (yy (g:=vG) (Qi vd) hg (Kd.S_ne vB.out vd.out (by decide)));have n2_:=zA.mk (yy (g:=vH) (Qi BK108) hg (Kd.S_ne vB.out BK108.out (by decide)));have n3_:=zA.mk (yy (g:=vv) (Qi vn) hg (Kd.S_ne vB.out vn.out (by decide)));have n4_:=zA.mk (hb);have n5_:=zA.mk (ho);clear vQ vd BK108 vn HB vB HO125;have vQ:=n0_;have vd:=n1_;have BK108:=n2_;have vn:=n3_;have HB:=n4_;have HO128:=n5_
            clear n0_ n1_ n2_ n3_ n4_ n5_ ho hb hg hat
            obtain ⟨Ao39,co39,eo39⟩:=Kd.S_slice HO128.out
            (first|subst eo39|(injection eo39 with f1_ f2_ f3_;have f4_:=f1_.symm;have f5_:=f3_.symm;clear f1_ f2_ f3_;subst f4_;subst f5_))
            refine hK.out _ _ ⟨(zR vn.out 0).trans rfl,(zR vn.out 1).trans rfl,(zR vn.out 2).trans rfl,(zR vn.out 3).trans rfl,(zR vd.out 0).trans rfl,(zR vd.out 1).trans rfl,(zR vd.out 2).trans rfl,(zR vd.out 3).trans rfl,((HB.out.cell (ZzA w _ hw115_0)).trans hw115_0),((HB.out.cell (ZzA w _ hw115_1)).trans hw115_1)⟩ (fun hHeld=> ?_);clear hK K;refine yl (a':= ?_) ?_ ?_;rotate_left
            ·show Act.put _ (some 59) _=_
             simp only [Act.put,List.setIfInBounds_toArray,List.set_cons_zero,List.set_cons_succ,zx,zy]
             rfl
            refine yM (i:=18) (N:=some 60) (v:= ?_) (a':= ?_) #[true,true,true,true,true,true,true,true,true,true,true,true,true,true,true,true,true,true,true,false] rfl rfl (yD HT_.out (by kernel_rfl)) (fun _ _ _ h=>h) (Or.inl ⟨by rfl,?_⟩) ?_ ?_;rotate_left
            ·intro w'
             go_simp
             with_reducible rfl
            rotate_left
            ·simp only [Act.put,List.setIfInBounds_toArray,List.set_cons_zero,List.set_cons_succ,zx,zy]
             rfl
            refine last_ (i:=19) (N:=none) #[true,true,true,true,true,true,true,true,true,true,true,true,true,true,true,true,true,true,true,true] rfl rfl (ym HT_.out (by kernel_rfl)) (by decide) (fun K hK=> ?_);have hs40:w38.cell? ⟨vv,3,none⟩=some (u114003):=(zR vn.out 3).trans rfl;have hfs40:=zB vn.out 3;have hns40_0:=NB107_113.out;have hns40_1:=NB108_113.out;have hms40_0:=NB113_107.out;have hms40_1:=NB113_108.out;refine qq (w1:= ?_) (by rfl) rfl ?_ ?_;rotate_left
            ·go_simp
             rfl
            refine hK.out _ _ ?_;clear hK K;refine YR (Ze HT_.out (by kernel_rfl)) ?_
            try go_wp2
            go_roundg k1
            case measure=>have:=HK1.out;omega
            case rel=>exact ⟨(wrap64 (x8_1 + 1)),(y126),(.slice Ao39 y126.length co39),Zb,H',⟨by have:=HK1.out;omega⟩,⟨by (with_reducible repeat (first|apply Kd.R_alloc|apply Kd.R_drewN|apply Kd.R_drew));exact Kd.R_mono (Kd.R_far (p:=⟨vv,3,none⟩) (Kd.R_types vQ.out vn.out (by decide)) (fun _ hk=>hk.2) (.slice Ao39 y126.length co39)) (fun _ hk=>trivial)⟩,⟨by (with_reducible repeat (first|apply Kd.S_alloc|apply Kd.S_drewN|apply Kd.S_drew));exact Kd.S_mono (Kd.S_far (p:=⟨vv,3,none⟩) (Kd.S_types HO128.out vn.out (by decide)) (fun _ hk=>hk.2) (.slice Ao39 y126.length co39)) (fun _ hk=>trivial)⟩,⟨by (with_reducible repeat (first|refine zO ?_ _|refine zQ ?_|refine zM ?_ _));refine yJ ?_ NB107_113.out _;(with_reducible repeat (first|refine zO ?_ _|refine zQ ?_|refine zM ?_ _));exact vd.out⟩,⟨by (with_reducible repeat (first|refine zO ?_ _|refine zQ ?_|refine zM ?_ _));refine yJ ?_ NB108_113.out _;(with_reducible repeat (first|refine zO ?_ _|refine zQ ?_|refine zM ?_ _));exact BK108.out⟩,⟨by (with_reducible repeat (first|refine zO ?_ _|refine zQ ?_|refine zM ?_ _));refine yU (cs:= #[.int .i64 a0_0, .int .i64 a0_1, .slice Ao16 t110.length co16,u114003]) ?_ 3 _ rfl;(with_reducible repeat (first|refine zO ?_ _|refine zQ ?_|refine zM ?_ _));exact vn.out⟩,⟨by repeat (first|(with_reducible first|exact HB.out|apply zG|apply zC|apply zF|refine zK ?_ wF.out|refine zK ?_ wP.out|refine zK ?_ GE113.out)|exact HB.out)⟩⟩
           ·rw [if_neg c28] at H
            exact absurd H (by simp)
          ·rw [if_neg c27] at H
           exact absurd H (by simp)
         ·rw [if_neg c26] at H
          exact absurd H (by simp)
        ·rw [if_neg c25] at H
         exact absurd H (by simp)
       ·rw [if_neg c23] at H
        exact absurd H (by simp)
      ·rw [if_neg c22] at H
       have c22b0:=decide_eq_false c22;clear c22;simp only [Option.some.injEq,Prod.mk.injEq] at H;obtain ⟨rfl,rfl,rfl,rfl⟩:=H;have hnb41:=NB107_108.out;have hnc41:=NB108_107.out;have hnb42:=NB107_113.out;have hnc42:=NB113_107.out;have hcz43_0:=Qn vd 0 rfl;have hcz43_1:=Qn vd 1 rfl;have hcz43_2:=Qn vd 2 rfl;have hcz43_3:=Qn vd 3 rfl;have hfz43_0:=zB vd.out 0;have hfz43_1:=zB vd.out 1;have hfz43_2:=zB vd.out 2;have hfz43_3:=zB vd.out 3;have hnb44:=NB113_108.out;have hnc44:=NB108_113.out;have hcz45_0:=Qn vn 0 rfl;have hcz45_1:=Qn vn 1 rfl;have hcz45_2:=Qn vn 2 rfl;have hcz45_3:=Qn vn 3 rfl;have hfz45_0:=zB vn.out 0;have hfz45_1:=zB vn.out 1;have hfz45_2:=zB vn.out 2;have hfz45_3:=zB vn.out 3;have hcz46_0:=Qn BK108 0 rfl;have hcz46_1:=Qn BK108 1 rfl;have hcz46_2:=Qn BK108 2 rfl;have hcz46_3:=Qn BK108 3 rfl;have hfz46_0:=zB BK108.out 0;have hfz46_1:=zB BK108.out 1;have hfz46_2:=zB BK108.out 2;have hfz46_3:=zB BK108.out 3;obtain ⟨Ao47,co47,eo47⟩:=Kd.S_slice vB.out;subst eo47
       go_wp2
       refine bodyPost_ret (results_cell_row rfl _ _ vH 25 #[.int .i64 a0_0, .int .i64 a0_1, .slice Ao16 t110.length co16, .slice Ao47 x114003_1.length co47] (0,0) _ rfl Qp Try.underlying25 rfl (by kernel_rfl)) rfl ?_
       exact ⟨_,_,by first|rfl|(simp [zS,zT] <;> rfl)|(simp only [←hji4];first|rfl|(simp [zS,zT] <;> rfl))|(simp [*,zS,zT] <;> rfl),by (with_reducible repeat (first|apply Kd.R_alloc|apply Kd.R_drewN|apply Kd.R_drew));exact Kd.R_mono (Kd.R_far (p:=⟨vH,3,none⟩) (Kd.R_far (p:=⟨vH,2,none⟩) (Kd.R_far (p:=⟨vH,1,none⟩) (Kd.R_far (p:=⟨vH,0,none⟩) (Kd.R_types vQ.out BK108.out (by decide)) (fun _ hk=>hk.2) (.int .i64 a0_0)) (fun _ hk=>hk.2) (.int .i64 a0_1)) (fun _ hk=>hk.2) (.slice Ao16 t110.length co16)) (fun _ hk=>hk.2) (.slice Ao47 x114003_1.length co47)) (fun _ hk=>trivial),by (with_reducible repeat (first|apply Kd.S_alloc|apply Kd.S_drewN|apply Kd.S_drew));exact Kd.S_mono (Kd.S_far (p:=⟨vH,3,none⟩) (Kd.S_far (p:=⟨vH,2,none⟩) (Kd.S_far (p:=⟨vH,1,none⟩) (Kd.S_far (p:=⟨vH,0,none⟩) (Kd.S_types vB.out BK108.out (by decide)) (fun _ hk=>hk.2) (.int .i64 a0_0)) (fun _ hk=>hk.2) (.int .i64 a0_1)) (fun _ hk=>hk.2) (.slice Ao16 t110.length co16)) (fun _ hk=>hk.2) (.slice Ao47 x114003_1.length co47)) (fun _ hk=>trivial),by repeat (first|(with_reducible first|exact HB.out|apply zG|apply zC|apply zF|refine zK ?_ wF.out|refine zK ?_ wP.out|refine zK ?_ GE113.out)|exact HB.out)⟩
     ·rw [if_neg c21] at H
      have c21b0:=decide_eq_false c21;clear c21;simp only [Option.some.injEq,Prod.mk.injEq] at H;obtain ⟨rfl,rfl,rfl,rfl⟩:=H;have hnb48:=NB107_108.out;have hnc48:=NB108_107.out;have hnb49:=NB107_113.out;have hnc49:=NB113_107.out;have hcz50_0:=Qn vd 0 rfl;have hcz50_1:=Qn vd 1 rfl;have hcz50_2:=Qn vd 2 rfl;have hcz50_3:=Qn vd 3 rfl;have hfz50_0:=zB vd.out 0;have hfz50_1:=zB vd.out 1;have hfz50_2:=zB vd.out 2;have hfz50_3:=zB vd.out 3;have hnb51:=NB113_108.out;have hnc51:=NB108_113.out;have hcz52_0:=Qn vn 0 rfl;have hcz52_1:=Qn vn 1 rfl;have hcz52_2:=Qn vn 2 rfl;have hcz52_3:=Qn vn 3 rfl;have hfz52_0:=zB vn.out 0;have hfz52_1:=zB vn.out 1;have hfz52_2:=zB vn.out 2;have hfz52_3:=zB vn.out 3;have hcz53_0:=Qn BK108 0 rfl;have hcz53_1:=Qn BK108 1 rfl;have hcz53_2:=Qn BK108 2 rfl;have hcz53_3:=Qn BK108 3 rfl;have hfz53_0:=zB BK108.out 0;have hfz53_1:=zB BK108.out 1;have hfz53_2:=zB BK108.out 2;have hfz53_3:=zB BK108.out 3;obtain ⟨Ao54,co54,eo54⟩:=Kd.S_slice vB.out;subst eo54
      go_wp2
      refine bodyPost_ret (results_cell_row rfl _ _ vH 25 #[.int .i64 a0_0, .int .i64 a0_1, .slice Ao16 t110.length co16, .slice Ao54 x114003_1.length co54] (0,0) _ rfl Qp Try.underlying25 rfl (by kernel_rfl)) rfl ?_
      exact ⟨_,_,by first|rfl|(simp [zS,zT] <;> rfl)|(simp only [←hji4];first|rfl|(simp [zS,zT] <;> rfl))|(simp [*,zS,zT] <;> rfl),by (with_reducible repeat (first|apply Kd.R_alloc|apply Kd.R_drewN|apply Kd.R_drew));exact Kd.R_mono (Kd.R_far (p:=⟨vH,3,none⟩) (Kd.R_far (p:=⟨vH,2,none⟩) (Kd.R_far (p:=⟨vH,1,none⟩) (Kd.R_far (p:=⟨vH,0,none⟩) (Kd.R_types vQ.out BK108.out (by decide)) (fun _ hk=>hk.2) (.int .i64 a0_0)) (fun _ hk=>hk.2) (.int .i64 a0_1)) (fun _ hk=>hk.2) (.slice Ao16 t110.length co16)) (fun _ hk=>hk.2) (.slice Ao54 x114003_1.length co54)) (fun _ hk=>trivial),by (with_reducible repeat (first|apply Kd.S_alloc|apply Kd.S_drewN|apply Kd.S_drew));exact Kd.S_mono (Kd.S_far (p:=⟨vH,3,none⟩) (Kd.S_far (p:=⟨vH,2,none⟩) (Kd.S_far (p:=⟨vH,1,none⟩) (Kd.S_far (p:=⟨vH,0,none⟩) (Kd.S_types vB.out BK108.out (by decide)) (fun _ hk=>hk.2) (.int .i64 a0_0)) (fun _ hk=>hk.2) (.int .i64 a0_1)) (fun _ hk=>hk.2) (.slice Ao16 t110.length co16)) (fun _ hk=>hk.2) (.slice Ao54 x114003_1.length co54)) (fun _ hk=>trivial),by repeat (first|(with_reducible first|exact HB.out|apply zG|apply zC|apply zF|refine zK ?_ wF.out|refine zK ?_ wP.out|refine zK ?_ GE113.out)|exact HB.out)⟩
  ·rw [if_neg c6] at H
   exact absurd H (by simp)
 ·rw [if_neg c5] at H
  exact absurd H (by simp)
end Go.Proofs.Ytlanhkekjhlmjaa.HGuessWords
