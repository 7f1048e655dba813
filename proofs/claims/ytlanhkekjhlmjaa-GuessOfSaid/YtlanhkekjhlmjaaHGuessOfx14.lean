-- Written by plus.py for this claim.
import Derived.Test.YtlanhkekjhlmjaaSGuessOfVZip
import Derived.Test.YtlanhkekjhlmjaaHGuessOfx0
import Derived.Test.YtlanhkekjhlmjaaHGuessOfx1
import Derived.Test.YtlanhkekjhlmjaaHGuessOfx13
namespace Go.Proofs.Ytlanhkekjhlmjaa.HGuessOf
open Go.RowKit Go.Proofs.YtlanhkekjhlmjaaW.PrintWords Go.Proofs.YtlanhkekjhlmjaaW.PrintLast Go.Proofs.YtlanhkekjhlmjaaW.PrintMore
attribute [local go_sem] yq yr ZJ ZK ym yn yt yu   -- for this text's walks alone
set_option linter.unusedVariables false
set_option linter.unusedSimpArgs false
def ZR.f (a0:ByteArray) (a1:ByteArray) (a2:Int):Option (ByteArray):=if a0.size + a1.size≤9223372036854775807 then (if 0≤(mx (mn ((a0 ++ a1).size:Int) a2) 0) then (if (mx (mn ((a0 ++ a1).size:Int) a2) 0)≤((a0 ++ a1).size:Int) then (some ((a0 ++ a1).extract 0 ((mx (mn ((a0 ++ a1).size:Int) a2) 0):Int).toNat)) else (none)) else (none)) else (none)
set_option maxHeartbeats 8000000 in
set_option maxRecDepth 100000 in
theorem ZR.calls (a0:ByteArray) (a1:ByteArray) (a2:Int) (r:ByteArray) (w:World) (h:ZR.f a0 a1 a2=some r) :
  Calls Try.prog 40 #[.string a0, .string a1, .int .i64 a2] w fun e w'=>e= .returned (.string r)∧Below w.heap.size w w':=by
 have HB:=zA.mk (Below.refl w.heap.size w);have H:(if a0.size + a1.size≤9223372036854775807 then (if 0≤(mx (mn ((a0 ++ a1).size:Int) a2) 0) then (if (mx (mn ((a0 ++ a1).size:Int) a2) 0)≤((a0 ++ a1).size:Int) then (some ((a0 ++ a1).extract 0 ((mx (mn ((a0 ++ a1).size:Int) a2) 0):Int).toNat)) else (none)) else (none)) else (none))=some r:=h;clear h
 by_cases c4:a0.size + a1.size≤9223372036854775807
 ·rw [if_pos c4] at H
  have c4b0:=eq_true c4;have c4b1:=decide_eq_true c4
  try have c4b2:(9223372036854775807 < a0.size + a1.size)=False:=eq_false (Nat.not_lt.2 c4)
  obtain ⟨ji5,hji5⟩:∃j_:Int,(mn ((a0 ++ a1).size:Int) a2)=j_:=⟨_,rfl⟩
  replace H:(if 0≤(mx (ji5) 0) then (if (mx (ji5) 0)≤((a0 ++ a1).size:Int) then (some ((a0 ++ a1).extract 0 ((mx (ji5) 0):Int).toNat)) else (none)) else (none))=some r:=by first|(rw [hji5] at H;exact H)|(simp only [hji5] at H⊢;exact H)
  have hji5_:(if a2 < ((a0 ++ a1).size:Int) then a2 else ((a0 ++ a1).size:Int))=ji5:=hji5
  have hji5_s:(if a2 < ((a0.size:Int) + (a1.size:Int)) then a2 else ((a0.size:Int) + (a1.size:Int)))=ji5:=by rw [←hji5_];rw [show ((if a2 < ((a0.size:Int) + (a1.size:Int)) then a2 else ((a0.size:Int) + (a1.size:Int))))=_ from rfl];simp only [ByteArray.size_append,Int.natCast_add]
  obtain ⟨ji6,hji6⟩:∃j_:Int,(mx (ji5) 0)=j_:=⟨_,rfl⟩
  replace H:(if 0≤(ji6) then (if (ji6)≤((a0 ++ a1).size:Int) then (some ((a0 ++ a1).extract 0 ((ji6):Int).toNat)) else (none)) else (none))=some r:=by first|(rw [hji6] at H;exact H)|(simp only [hji6] at H⊢;exact H)
  have hji6_:(if (ji5) < 0 then 0 else (ji5))=ji6:=hji6
  by_cases c7:0≤(ji6)
  ·rw [if_pos c7] at H
   have c7b0:=eq_true c7;have c7b1:=decide_eq_true c7;clear c7
   by_cases c8:(ji6)≤((a0 ++ a1).size:Int)
   ·rw [if_pos c8] at H
    have c8b0:=eq_true c8;have c8b1:=decide_eq_true c8;obtain rfl:=Option.some.inj H
    go_enter Try.func40,Try.ntmps40
    go_wp2
    go_ret
    exact ⟨by first|rfl|(simp [zT,zU] <;> rfl)|(simp only [←hji5,←hji6];first|rfl|(simp [zT,zU] <;> rfl))|(simp [*,zT,zU] <;> rfl),by repeat (first|(with_reducible first|exact HB.out|apply zG|apply zC|apply zH)|exact HB.out)⟩
   ·rw [if_neg c8] at H
    exact absurd H (by simp)
  ·rw [if_neg c7] at H
   exact absurd H (by simp)
 ·rw [if_neg c4] at H
  exact absurd H (by simp)
mutual
def zM.l0:Nat→List ByteArray→List ByteArray→Int→List ByteArray→Int→Option (List ByteArray)
 | 0,_,_,_,_,_=>none
 | k + 1,x0,x1,x2,x7,x8=>if x8 < (x0.length:Int) then (zM.l1 k x0 x1 x2 x7 x8 0) else (some x7)
def zM.l1:Nat→List ByteArray→List ByteArray→Int→List ByteArray→Int→Int→Option (List ByteArray)
 | 0,_,_,_,_,_,_=>none
 | k + 1,x0,x1,x2,x7,x8,x9=>if x9 < (x1.length:Int) then (if 0≤x8 then (if x8 < (x0.length:Int) then (if 0≤x9 then ((ZR.f (rdOf ByteArray.empty x0 x8) (rdOf ByteArray.empty x1 x9) x2).bind fun t305=>((ze.f k x7 t305).bind fun t306=>(zM.l1 k x0 x1 x2 t306 x8 (wrap64 (x9 + 1))))) else (none)) else (none)) else (none)) else (zM.l0 k x0 x1 x2 x7 (wrap64 (x8 + 1)))
end
def zM.f (k:Nat) (l0:List ByteArray) (l1:List ByteArray) (a2:Int):Option (List ByteArray):=zM.l0 k l0 l1 a2 (([]:List ByteArray)) 0
theorem zM.mono_l:∀k,(∀y0 y1 y2 y3 y4,LeO (zM.l0 k y0 y1 y2 y3 y4) (zM.l0 (k + 1) y0 y1 y2 y3 y4))∧(∀y0 y1 y2 y3 y4 y5,LeO (zM.l1 k y0 y1 y2 y3 y4 y5) (zM.l1 (k + 1) y0 y1 y2 y3 y4 y5))
 | 0=>⟨fun _ _ _ _ _ r h=>by simp [zM.l0] at h,fun _ _ _ _ _ _ r h=>by simp [zM.l1] at h⟩
 | k + 1=>by
  obtain ⟨ih0,ih1⟩:=zM.mono_l k;refine ⟨?_,?_⟩
  ·intro y0 y1 y2 y3 y4
   unfold zM.l0
   repeat' first
   | with_reducible first|exact ih0 _ _ _ _ _|exact ih1 _ _ _ _ _ _|exact ze.mono _ _ _|exact LeO.refl _|exact LeO.none _|refine LeO.ite ?_ ?_|refine LeO.bind ?_ (fun _=> ?_)
   | exact ih0 _ _ _ _ _|exact ih1 _ _ _ _ _ _|exact ze.mono _ _ _|exact LeO.none _|refine LeO.ite ?_ ?_|refine LeO.bind ?_ (fun _=> ?_)
  ·intro y0 y1 y2 y3 y4 y5
   unfold zM.l1
   repeat' first
   | with_reducible first|exact ih0 _ _ _ _ _|exact ih1 _ _ _ _ _ _|exact ze.mono _ _ _|exact LeO.refl _|exact LeO.none _|refine LeO.ite ?_ ?_|refine LeO.bind ?_ (fun _=> ?_)
   | exact ih0 _ _ _ _ _|exact ih1 _ _ _ _ _ _|exact ze.mono _ _ _|exact LeO.none _|refine LeO.ite ?_ ?_|refine LeO.bind ?_ (fun _=> ?_)
theorem zM.mono:∀a0 a1 a2 k,LeO (zM.f k a0 a1 a2) (zM.f (k + 1) a0 a1 a2):=by
 intro a0 a1 a2 k;obtain ⟨ih0,ih1⟩:=zM.mono_l k
 unfold zM.f
 repeat' first
   | with_reducible first|exact ih0 _ _ _ _ _|exact ih1 _ _ _ _ _ _|exact ze.mono _ _ _|exact LeO.refl _|exact LeO.none _|refine LeO.ite ?_ ?_|refine LeO.bind ?_ (fun _=> ?_)
   | exact ih0 _ _ _ _ _|exact ih1 _ _ _ _ _ _|exact ze.mono _ _ _|exact LeO.none _|refine LeO.ite ?_ ?_|refine LeO.bind ?_ (fun _=> ?_)
def zM.T8:Bool × List (List Nat × List Nat):=(true,[([],[]),([],[]),([],[]),([1,2],[1,2]),([3],[3]),([],[]),([],[]),([5,6],[5,6]),([7],[7]),([],[]),([4,8,9],[4,8,9]),([0,10,10],[0,10]),([11,11,0,1,2,3,4,5,6,7,8,9,10,11],[0,11])])
def zM.B8:List Nat:= [0,0,0,6,14,0,0,96,224,0,1022,2047,4095]
theorem zM.tab8:rtab .any (Yx Try.f22 8)=zM.T8:=by kernel_rfl
theorem zM.bits8:Zh zM.T8.2 zM.B8=true:=by kernel_rfl
set_option maxHeartbeats 8000000 in
set_option maxRecDepth 100000 in
theorem zM.calls (k:Nat) (A0:Option Addr) (c0:Nat) (l0:List ByteArray) (A1:Option Addr) (c1:Nat) (l1:List ByteArray) (a2:Int) (r:List ByteArray) (w:World) (hr0:Kd.C Kd.string w A0 l0.length l0) (hc0:l0.length≤c0) (hr1:Kd.C Kd.string w A1 l1.length l1) (hc1:l1.length≤c1) (h:zM.f k l0 l1 a2=some r) :
  Calls Try.prog 22 #[.slice A0 l0.length c0, .slice A1 l1.length c1, .int .i64 a2] w fun e w'=>∃v0_:Value,e= .returned (v0_)∧Kd.R Kd.string 9 w' w.heap.size (fun _=>True) v0_ r∧Below w.heap.size w w':=by
 have HR0:=zA.mk hr0;have HC0:=zA.mk hc0;clear hr0 hc0;have HR1:=zA.mk hr1;have HC1:=zA.mk hc1;clear hr1 hc1;have HB:=zA.mk (Below.refl w.heap.size w);have H:(zM.l0 k l0 l1 a2 (([]:List ByteArray)) 0)=some r:=h;clear h;obtain ⟨y300,hy300⟩:∃y_:List ByteArray,y_=(([]:List ByteArray)):=⟨_,rfl⟩;replace H:(zM.l0 k l0 l1 a2 y300 0)=some r:=Qb hy300 H;have Ny300:=zA.mk hy300;clear hy300;have H':=zA.mk H;clear H
 go_enter Try.func22,Try.ntmps22
 go_wp2_with (first|((with_reducible refine yC (N:=10) rfl ?_);refine Kd.R_lit Kd.string _ 9 ?hg (N:=10) ?hd (xs:=([]:List ByteArray)) (inner:= []) (ok:=fun _=>True) (okp:=fun _=>True) ?hr ?hp (fun _ hk=>hk) trivial (Below.refl _ _) (Nat.le_refl _) (by simp) ?_;(case hd=>rfl);(case hg=>rfl);(case hr=>exact Qm);(case hp=>exact (Reps.none _ _));intro v301 w4 ho5 hb hg_ hnew_;clear hg_ hnew_;(first|rw [←Ny300.out] at ho5|(simp only [Int.reduceToNat] at ho5;rw [←Ny300.out] at ho5));have n0_:=zA.mk (Kd.R_lower ho5 (zD Qc));have n1_:=zA.mk (zE Qc hb);clear HB;have HO302:=n0_;have HB:=n1_;clear n0_ n1_ hb ho5))
 go_loopg [7,8] k (fun kq v7 v8 w'=>∃(x7_1:List ByteArray) (x8_1:Int),v8= .int .i64 x8_1∧zA (zM.l0 kq l0 l1 a2 x7_1 x8_1=some r)∧zA (kq≤k)∧zA (Kd.R Kd.string 9 w' w.heap.size (fun _=>True) v7 x7_1)∧zA (Below w.heap.size w w'))
 case atStart=>exact ⟨(y300),(0),Zf,H',⟨Nat.le_refl _⟩,⟨Qh HO302⟩,⟨by repeat (first|(with_reducible first|exact HB.out|apply zG|apply zC|apply zH)|exact HB.out)⟩⟩
 case round=>
  clear H';(try clear c1);(try clear c2);(try clear p2);obtain ⟨x7_1,x8_1,rfl,HA,HK1,HO_7,HB⟩:=hrel;cases gk with
  | zero=>exact absurd HA.out (by simp [zM.l0])
  | succ k1=>
   have H:=HA.out;clear HA;simp only [zM.l0] at H
   by_cases c6:x8_1 < (l0.length:Int)
   ·rw [if_pos c6] at H
    have c6b0:=decide_eq_true c6;clear c6;have H':=zA.mk H;clear H
    go_wp2
    go_loopg [7,9] k1 (fun kq v7 v9 w'=>∃(x7_2:List ByteArray) (x9_2:Int),v9= .int .i64 x9_2∧zA (zM.l1 kq l0 l1 a2 x7_2 x8_1 x9_2=some r)∧zA (kq≤k1)∧zA (Kd.R Kd.string 9 w' w.heap.size (fun _=>True) v7 x7_2)∧zA (Below w.heap.size w w'))
    case atStart=>exact ⟨(x7_1),(0),Zf,H',⟨Nat.le_refl _⟩,⟨Qh HO_7⟩,⟨by repeat (first|(with_reducible first|exact HB.out|apply zG|apply zC|apply zH)|exact HB.out)⟩⟩
    case round=>
     clear H';(try clear c1);(try clear c2);(try clear p2);(try clear c6);(try clear c6b0);(try clear p2);obtain ⟨x7_2,x9_2,rfl,HA,HK2,HO_7,HB⟩:=hrel;cases gk with
     | zero=>exact absurd HA.out (by simp [zM.l1])
     | succ k2=>
      have H:=HA.out;clear HA;simp only [zM.l1] at H
      by_cases c7:x9_2 < (l1.length:Int)
      ·rw [if_pos c7] at H
       have c7b0:=decide_eq_true c7;clear c7
       by_cases c8:0≤x8_1
       ·rw [if_pos c8] at H
        have c8b0:=decide_eq_true c8;clear c8
        by_cases c9:x8_1 < (l0.length:Int)
        ·rw [if_pos c9] at H
         have c9b0:=decide_eq_true c9;clear c9
         by_cases c10:0≤x9_2
         ·rw [if_pos c10] at H
          have c10b0:=decide_eq_true c10;clear c10;replace H:=ZzB H;obtain ⟨t305,A110,H⟩:=H;replace H:((ze.f k2 x7_2 t305).bind fun t306=>(zM.l1 k2 l0 l1 a2 t306 x8_1 (wrap64 (x9_2 + 1))))=some r:=H;have A11:=zA.mk A110;clear A110;replace H:=ZzB H;obtain ⟨t306,A120,H⟩:=H;replace H:(zM.l1 k2 l0 l1 a2 t306 x8_1 (wrap64 (x9_2 + 1)))=some r:=H;have A12:=zA.mk A120;clear A120;have H':=zA.mk H;clear H
          try go_wp2
          have n0_:=zA.mk (Kd.R_drew HO_7.out);have n1_:=zA.mk (zH HB.out);clear HO_7 HB;have HO_7:=n0_;have HB:=n1_;clear n0_ n1_;have p303:0≤(x8_1:Int):=Qa;have q303:x8_1 < (l0.length:Int):=Qa;obtain ⟨ad303,e303,hx303_0⟩:=Kd.at_string HR0.out x8_1 p303 q303;have hw303_0:=hx303_0;cases e303;replace hx303_0:=(HB.out.cell (ZzA w _ hx303_0)).trans hx303_0;replace p303:=eq_true p303;replace q303:=eq_true q303;have p304:0≤(x9_2:Int):=Qa;have q304:x9_2 < (l1.length:Int):=Qa;obtain ⟨ad304,e304,hx304_0⟩:=Kd.at_string HR1.out x9_2 p304 q304;have hw304_0:=hx304_0;cases e304;replace hx304_0:=(HB.out.cell (ZzA w _ hx304_0)).trans hx304_0;replace p304:=eq_true p304;replace q304:=eq_true q304;refine Zr (n:=13) (S:=fun w'=>w'.cell? (ad303.add (x8_1).toNat)=some (.string (rdOf ByteArray.empty l0 x8_1))∧w'.cell? (ad304.add (x9_2).toNat)=some (.string (rdOf ByteArray.empty l1 x9_2))) (ds:= []) #[false,false,false,false,false,false,false,false,false,false,false,false,false] (by kernel_rfl) rfl rfl ⟨((HB.out.cell (ZzA w _ hw303_0)).trans hw303_0),((HB.out.cell (ZzA w _ hw304_0)).trans hw304_0)⟩ (fun hHeld=> ?_);refine yw zM.tab8 zM.bits8 (fun HT_ HW_=> ?_)
          generalize wr.drew=w13 at HO_7 HB hx303_0 hx304_0 hHeld⊢
          refine yF (i:=0) (N:=some 23) (v:= ?_) (a':= ?_) #[true,false,false,false,false,false,false,false,false,false,false,false,false] rfl rfl (yA HT_.out (by kernel_rfl)) (fun _ _ _ h=>h) (Or.inl ⟨by rfl,?_⟩) ?_ ?_;rotate_left
          ·intro w'
           go_simp
           with_reducible rfl
          rotate_left
          ·simp only [Act.put,List.setIfInBounds_toArray,List.set_cons_zero,List.set_cons_succ,zq,zt]
           rfl
          refine yF (i:=1) (N:=some 24) (v:= ?_) (a':= ?_) #[true,true,false,false,false,false,false,false,false,false,false,false,false] rfl rfl (yA HT_.out (by kernel_rfl)) (fun _ _ _ h=>h) (Or.inl ⟨by rfl,?_⟩) ?_ ?_;rotate_left
          ·intro w'
           go_simp
           with_reducible rfl
          rotate_left
          ·simp only [Act.put,List.setIfInBounds_toArray,List.set_cons_zero,List.set_cons_succ,zq,zt]
           rfl
          refine yF (i:=2) (N:=some 25) (v:= ?_) (a':= ?_) #[true,true,true,false,false,false,false,false,false,false,false,false,false] rfl rfl (yA HT_.out (by kernel_rfl)) (fun _ _ _ h=>h) (Or.inl ⟨by rfl,?_⟩) ?_ ?_;rotate_left
          ·intro w'
           go_simp
           with_reducible rfl
          rotate_left
          ·simp only [Act.put,List.setIfInBounds_toArray,List.set_cons_zero,List.set_cons_succ,zq,zt]
           rfl
          refine yF (i:=3) (N:=some 26) (v:= ?_) (a':= ?_) #[true,true,true,true,false,false,false,false,false,false,false,false,false] rfl rfl (yA HT_.out (by kernel_rfl)) (fun _ _ _ h=>h) (Or.inl ⟨by rfl,?_⟩) ?_ ?_;rotate_left
          ·intro w'
           go_simp
           with_reducible rfl
          rotate_left
          ·simp only [Act.put,List.setIfInBounds_toArray,List.set_cons_zero,List.set_cons_succ,zq,zt]
           rfl
          refine yF (i:=5) (N:=some 28) (v:= ?_) (a':= ?_) #[true,true,true,true,false,true,false,false,false,false,false,false,false] rfl rfl (yA HT_.out (by kernel_rfl)) (fun _ _ _ h=>h) (Or.inl ⟨by rfl,?_⟩) ?_ ?_;rotate_left
          ·intro w'
           go_simp
           with_reducible rfl
          rotate_left
          ·simp only [Act.put,List.setIfInBounds_toArray,List.set_cons_zero,List.set_cons_succ,zq,zt]
           rfl
          refine yF (i:=6) (N:=some 29) (v:= ?_) (a':= ?_) #[true,true,true,true,false,true,true,false,false,false,false,false,false] rfl rfl (yA HT_.out (by kernel_rfl)) (fun _ _ _ h=>h) (Or.inl ⟨by rfl,?_⟩) ?_ ?_;rotate_left
          ·intro w'
           go_simp
           with_reducible rfl
          rotate_left
          ·simp only [Act.put,List.setIfInBounds_toArray,List.set_cons_zero,List.set_cons_succ,zq,zt]
           rfl
          refine yF (i:=7) (N:=some 30) (v:= ?_) (a':= ?_) #[true,true,true,true,false,true,true,true,false,false,false,false,false] rfl rfl (yA HT_.out (by kernel_rfl)) (fun _ _ _ h=>h) (Or.inl ⟨by rfl,?_⟩) ?_ ?_;rotate_left
          ·intro w'
           go_simp
           with_reducible rfl
          rotate_left
          ·simp only [Act.put,List.setIfInBounds_toArray,List.set_cons_zero,List.set_cons_succ,zq,zt]
           rfl
          refine yF (i:=9) (N:=some 32) (v:= ?_) (a':= ?_) #[true,true,true,true,false,true,true,true,false,true,false,false,false] rfl rfl (yA HT_.out (by kernel_rfl)) (fun _ _ _ h=>h) (Or.inl ⟨by rfl,?_⟩) ?_ ?_;rotate_left
          ·intro w'
           go_simp
           with_reducible rfl
          rotate_left
          ·simp only [Act.put,List.setIfInBounds_toArray,List.set_cons_zero,List.set_cons_succ,zq,zt]
           rfl
          refine take_ (i:=4) (N:=some 27) (v:= ?_) (a':= ?_) #[true,true,true,true,true,true,true,true,false,true,false,false,false] rfl rfl (yU HT_.out HW_.out (by kernel_rfl)) (fun _ _ _ h=>h) (Or.inl ⟨by rfl,?_⟩) hHeld ?_ ?_;rotate_left
          ·rintro w' ⟨s0,s1⟩
           go_simp
           with_reducible rfl
          rotate_left
          ·simp only [Act.put,List.setIfInBounds_toArray,List.set_cons_zero,List.set_cons_succ,zq,zt]
           rfl
          refine take_ (i:=8) (N:=some 31) (v:= ?_) (a':= ?_) #[true,true,true,true,true,true,true,true,true,true,false,false,false] rfl rfl (yU HT_.out HW_.out (by kernel_rfl)) (fun _ _ _ h=>h) (Or.inl ⟨by rfl,?_⟩) hHeld ?_ ?_;rotate_left
          ·rintro w' ⟨s0,s1⟩
           go_simp
           with_reducible rfl
          rotate_left
          ·simp only [Act.put,List.setIfInBounds_toArray,List.set_cons_zero,List.set_cons_succ,zq,zt]
           rfl
          refine one_ (i:=10) (N:=some 33) #[true,true,true,true,true,true,true,true,true,true,true,false,false] rfl rfl (yj HT_.out (by kernel_rfl)) (by decide) (fun K hK=> ?_);refine YS Try.func40 (by kernel_rfl) rfl #[.string (rdOf ByteArray.empty l0 x8_1), .string (rdOf ByteArray.empty l1 x9_2), .int .i64 a2] (by rfl) rfl rfl Q4 ?_
          with_reducible refine (ZR.calls (rdOf ByteArray.empty l0 x8_1) (rdOf ByteArray.empty l1 x9_2) a2 t305 _ A11.out).mono ?_
          rintro e w14 ⟨rfl,hb⟩;refine ⟨_,rfl,?_⟩;have n0_:=zA.mk (Kd.R_below (Qh HO_7) hb);have n1_:=zA.mk (zE Qc hb);clear HO_7 HB;have HO_7:=n0_;have HB:=n1_;clear n0_ n1_;(try clear hb);(try clear hb2);(try clear hk);(try clear hi);obtain ⟨Ao15,co15,eo15⟩:=Kd.R_slice HO_7.out
          (first|subst eo15|(injection eo15 with f1_ f2_ f3_;have f4_:=f1_.symm;have f5_:=f3_.symm;clear f1_ f2_ f3_;subst f4_;subst f5_))
          refine hK.out _ _ ⟨((HB.out.cell (ZzA w _ hw303_0)).trans hw303_0),((HB.out.cell (ZzA w _ hw304_0)).trans hw304_0)⟩ (fun hHeld=> ?_);clear hK K;refine yl (a':= ?_) ?_ ?_;rotate_left
          ·show Act.put _ (some 33) _=_
           simp only [Act.put,List.setIfInBounds_toArray,List.set_cons_zero,List.set_cons_succ,zq,zt]
           rfl
          refine one_ (i:=11) (N:=some 34) #[true,true,true,true,true,true,true,true,true,true,true,true,false] rfl rfl (yj HT_.out (by kernel_rfl)) (by decide) (fun K hK=> ?_);refine YS Try.func39 (by kernel_rfl) rfl #[.slice Ao15 x7_2.length co15, .string t305] (by rfl) rfl rfl Q4 ?_
          with_reducible refine (ze.calls k2 _ _ x7_2 t305 t306 _ ?side1 ?side2 A12.out).mono ?_
          (case side1=>repeat (first|exact (Kd.R_reads' HO_7.out).2.2|(with_reducible refine Kd.C_alloc ?_ _)|(with_reducible refine Kd.C_drewN ?_ _)|(with_reducible refine Kd.C_drew ?_)))
          (case side2=>exact (Kd.R_reads' HO_7.out).2.1)
          rintro e w16 ⟨v307,rfl,ho0,hb⟩;refine ⟨_,rfl,?_⟩;have n0_:=zA.mk True.intro;have n1_:=zA.mk (ze.own ho0 (Kd.R_below (Qh HO_7) hb) (zD Qc));have n2_:=zA.mk (zE Qc hb);clear HO_7 HB;have HO_7:=n0_;have HO308:=n1_;have HB:=n2_;clear n0_ n1_ n2_;(try clear hb ho0);refine hK.out _ _ ⟨((HB.out.cell (ZzA w _ hw303_0)).trans hw303_0),((HB.out.cell (ZzA w _ hw304_0)).trans hw304_0)⟩ (fun hHeld=> ?_);clear hK K;refine yl (a':= ?_) ?_ ?_;rotate_left
          ·show Act.put _ (some 34) _=_
           simp only [Act.put,List.setIfInBounds_toArray,List.set_cons_zero,List.set_cons_succ,zq,zt]
           rfl
          refine yF (i:=12) (N:=some 7) (v:= ?_) (a':= ?_) #[true,true,true,true,true,true,true,true,true,true,true,true,true] rfl rfl (yA HT_.out (by kernel_rfl)) (fun _ _ _ h=>h) (Or.inl ⟨by rfl,?_⟩) ?_ ?_;rotate_left
          ·intro w'
           go_simp
           with_reducible rfl
          rotate_left
          ·simp only [Act.put,List.setIfInBounds_toArray,List.set_cons_zero,List.set_cons_succ,zq,zt]
           rfl
          refine YD (ZW HT_.out (by kernel_rfl)) ?_
          try go_wp2
          go_roundg k2
          case measure=>have:=HK1.out;have:=HK2.out;omega
          case rel=>exact ⟨(t306),(wrap64 (x9_2 + 1)),Zf,H',⟨by have:=HK1.out;have:=HK2.out;omega⟩,⟨by (with_reducible repeat (first|apply Kd.R_alloc|apply Kd.R_drewN|apply Kd.R_drew));exact Kd.R_mono HO308.out (fun _ hk=>trivial)⟩,⟨by repeat (first|(with_reducible first|exact HB.out|apply zG|apply zC|apply zH)|exact HB.out)⟩⟩
         ·rw [if_neg c10] at H
          exact absurd H (by simp)
        ·rw [if_neg c9] at H
         exact absurd H (by simp)
       ·rw [if_neg c8] at H
        exact absurd H (by simp)
      ·rw [if_neg c7] at H
       have c7b0:=decide_eq_false c7;clear c7;have H':=zA.mk H;clear H
       go_wp2
       go_roundg k2
       case measure=>have:=HK1.out;have:=HK2.out;omega
       case rel=>exact ⟨(x7_2),(wrap64 (x8_1 + 1)),Zf,H',⟨by have:=HK1.out;have:=HK2.out;omega⟩,⟨Qh HO_7⟩,⟨by repeat (first|(with_reducible first|exact HB.out|apply zG|apply zC|apply zH)|exact HB.out)⟩⟩
   ·rw [if_neg c6] at H
    have c6b0:=decide_eq_false c6;clear c6;obtain rfl:=Option.some.inj H
    go_wp2
    go_ret
    exact ⟨_,by first|rfl|(simp [zT,zU] <;> rfl)|(simp [*,zT,zU] <;> rfl),by (with_reducible repeat (first|apply Kd.R_alloc|apply Kd.R_drewN|apply Kd.R_drew));exact HO_7.out,by repeat (first|(with_reducible first|exact HB.out|apply zG|apply zC|apply zH)|exact HB.out)⟩
def zV.l0:Nat→List (S51)→Int→List (List ByteArray)→Int→List ByteArray→Int→Option (List ByteArray × Bool)
 | 0,_,_,_,_,_,_=>none
 | k + 1,x0,x1,x2,x3,x10,x11=>if x11 < (x0.length:Int) then (if 0≤x11 then (if (zi x0 x11).f0=true then ((zM.f k x10 (([strOfNums (([((zi x0 x11).f1) % 256]:List Int))]:List ByteArray)) x1).bind fun t320=>(if (t320.length:Int) > x3 then (some (([]:List ByteArray),false)) else (zV.l0 k x0 x1 x2 x3 t320 (wrap64 (x11 + 1))))) else (if 0≤((zi x0 x11).f1) then (if ((zi x0 x11).f1) < (x2.length:Int) then ((zM.f k x10 (zl x2 ((zi x0 x11).f1)) x1).bind fun t325=>(if (t325.length:Int) > x3 then (some (([]:List ByteArray),false)) else (zV.l0 k x0 x1 x2 x3 t325 (wrap64 (x11 + 1))))) else (none)) else (none))) else (none)) else (some (x10,true))
def zV.f (k:Nat) (l0:List (S51)) (a1:Int) (l2:List (List ByteArray)) (a3:Int):Option (List ByteArray × Bool):=zV.l0 k l0 a1 l2 a3 (([(⟨#[]⟩:ByteArray)]:List ByteArray)) 0
theorem zV.mono_l:∀k,(∀y0 y1 y2 y3 y4 y5,LeO (zV.l0 k y0 y1 y2 y3 y4 y5) (zV.l0 (k + 1) y0 y1 y2 y3 y4 y5))
 | 0=>fun _ _ _ _ _ _ r h=>by simp [zV.l0] at h
 | k + 1=>by
  have ih0:=zV.mono_l k
  ·intro y0 y1 y2 y3 y4 y5
   unfold zV.l0
   repeat' first
   | with_reducible first|exact ih0 _ _ _ _ _ _|exact zM.mono _ _ _ _|exact LeO.refl _|exact LeO.none _|refine LeO.ite ?_ ?_|refine LeO.bind ?_ (fun _=> ?_)
   | exact ih0 _ _ _ _ _ _|exact zM.mono _ _ _ _|exact LeO.none _|refine LeO.ite ?_ ?_|refine LeO.bind ?_ (fun _=> ?_)
theorem zV.mono:∀a0 a1 a2 a3 k,LeO (zV.f k a0 a1 a2 a3) (zV.f (k + 1) a0 a1 a2 a3):=by
 intro a0 a1 a2 a3 k;have ih0:=zV.mono_l k
 unfold zV.f
 repeat' first
   | with_reducible first|exact ih0 _ _ _ _ _ _|exact zM.mono _ _ _ _|exact LeO.refl _|exact LeO.none _|refine LeO.ite ?_ ?_|refine LeO.bind ?_ (fun _=> ?_)
   | exact ih0 _ _ _ _ _ _|exact zM.mono _ _ _ _|exact LeO.none _|refine LeO.ite ?_ ?_|refine LeO.bind ?_ (fun _=> ?_)
set_option maxHeartbeats 8000000 in
set_option maxRecDepth 100000 in
theorem zV.calls (k:Nat) (A0:Option Addr) (c0:Nat) (l0:List (S51)) (a1:Int) (A2:Option Addr) (c2:Nat) (l2:List (List ByteArray)) (a3:Int) (r1:List ByteArray) (r2:Bool) (w:World) (hr0:Kd.C k51 w A0 l0.length l0) (hc0:l0.length≤c0) (hr2:Kd.C (Kd.slice 9 Kd.string) w A2 l2.length l2) (hc2:l2.length≤c2) (h:zV.f k l0 a1 l2 a3=some (r1,r2)) :
  Calls Try.prog 21 #[.slice A0 l0.length c0, .int .i64 a1, .slice A2 l2.length c2, .int .i64 a3] w fun e w'=>∃v0_:Value,e= .returned (.tuple #[v0_, .bool r2])∧Kd.R Kd.string 9 w' w.heap.size (fun _=>True) v0_ r1∧Below w.heap.size w w':=by
 have HR0:=zA.mk hr0;have HC0:=zA.mk hc0;clear hr0 hc0;have HR2:=zA.mk hr2;have HC2:=zA.mk hc2;clear hr2 hc2;have HB:=zA.mk (Below.refl w.heap.size w);have H:(zV.l0 k l0 a1 l2 a3 (([(⟨#[]⟩:ByteArray)]:List ByteArray)) 0)=some (r1,r2):=h;clear h;obtain ⟨y309,hy309⟩:∃y_:List ByteArray,y_=(([(⟨#[]⟩:ByteArray)]:List ByteArray)):=⟨_,rfl⟩;replace H:(zV.l0 k l0 a1 l2 a3 y309 0)=some (r1,r2):=Qb hy309 H;have Ny309:=zA.mk hy309;clear hy309;have H':=zA.mk H;clear H
 go_enter Try.func21,Try.ntmps21
 go_wp2_with (first|((with_reducible refine yC (N:=13) rfl ?_);refine Kd.R_lit Kd.string _ 9 ?hg (N:=13) ?hd (xs:=([(⟨#[]⟩:ByteArray)]:List ByteArray)) (inner:= [.string (⟨#[]⟩:ByteArray)]) (ok:=fun _=>True) (okp:=fun _=>True) ?hr ?hp (fun _ hk=>hk) trivial (Below.refl _ _) (Nat.le_refl _) (by simp) ?_;(case hd=>rfl);(case hg=>rfl);(case hr=>exact Qm);(case hp=>exact (Reps.one (show Kd.M Kd.string _ _ _ (⟨#[]⟩:ByteArray) [.string (⟨#[]⟩:ByteArray)] from rfl) (Reps.none _ _)));intro v310 w5 ho6 hb hg_ hnew_;clear hg_ hnew_;(first|rw [←Ny309.out] at ho6|(simp only [Int.reduceToNat] at ho6;rw [←Ny309.out] at ho6));have n0_:=zA.mk (Kd.R_lower ho6 (zD Qc));have n1_:=zA.mk (zE Qc hb);clear HB;have HO311:=n0_;have HB:=n1_;clear n0_ n1_ hb ho6))
 go_loopg [10,11] k (fun kq v10 v11 w'=>∃(x10_1:List ByteArray) (x11_1:Int),v11= .int .i64 x11_1∧zA (zV.l0 kq l0 a1 l2 a3 x10_1 x11_1=some (r1,r2))∧zA (kq≤k)∧zA (Kd.R Kd.string 9 w' w.heap.size (fun _=>True) v10 x10_1)∧zA (Below w.heap.size w w'))
 case atStart=>exact ⟨(y309),(0),Zf,H',⟨Nat.le_refl _⟩,⟨Qh HO311⟩,⟨by repeat (first|(with_reducible first|exact HB.out|apply zG|apply zC|apply zH)|exact HB.out)⟩⟩
 case round=>
  clear H';(try clear c2);(try clear p2);obtain ⟨x10_1,x11_1,rfl,HA,HK1,vR,HB⟩:=hrel;cases gk with
  | zero=>exact absurd HA.out (by simp [zV.l0])
  | succ k1=>
   have H:=HA.out;clear HA;simp only [zV.l0] at H
   by_cases c7:x11_1 < (l0.length:Int)
   ·rw [if_pos c7] at H
    have c7b0:=decide_eq_true c7;clear c7
    by_cases c8:0≤x11_1
    ·rw [if_pos c8] at H
     have c8b0:=decide_eq_true c8;clear c8;obtain ⟨y313,hy313⟩:∃y_:List Int,y_=(([((zi l0 x11_1).f1) % 256]:List Int)):=⟨_,rfl⟩;replace H:(if (zi l0 x11_1).f0=true then ((zM.f k1 x10_1 (([strOfNums y313]:List ByteArray)) a1).bind fun t320=>(if (t320.length:Int) > a3 then (some (([]:List ByteArray),false)) else (zV.l0 k1 l0 a1 l2 a3 t320 (wrap64 (x11_1 + 1))))) else (if 0≤((zi l0 x11_1).f1) then (if ((zi l0 x11_1).f1) < (l2.length:Int) then ((zM.f k1 x10_1 (zl l2 ((zi l0 x11_1).f1)) a1).bind fun t325=>(if (t325.length:Int) > a3 then (some (([]:List ByteArray),false)) else (zV.l0 k1 l0 a1 l2 a3 t325 (wrap64 (x11_1 + 1))))) else (none)) else (none)))=some (r1,r2):=Qb hy313 H;have Ny313:=zA.mk hy313;clear hy313;obtain ⟨y316,hy316⟩:∃y_:List ByteArray,y_=(([strOfNums y313]:List ByteArray)):=⟨_,rfl⟩;replace H:(if (zi l0 x11_1).f0=true then ((zM.f k1 x10_1 y316 a1).bind fun t320=>(if (t320.length:Int) > a3 then (some (([]:List ByteArray),false)) else (zV.l0 k1 l0 a1 l2 a3 t320 (wrap64 (x11_1 + 1))))) else (if 0≤((zi l0 x11_1).f1) then (if ((zi l0 x11_1).f1) < (l2.length:Int) then ((zM.f k1 x10_1 (zl l2 ((zi l0 x11_1).f1)) a1).bind fun t325=>(if (t325.length:Int) > a3 then (some (([]:List ByteArray),false)) else (zV.l0 k1 l0 a1 l2 a3 t325 (wrap64 (x11_1 + 1))))) else (none)) else (none)))=some (r1,r2):=Qb hy316 H;have Ny316:=zA.mk hy316;clear hy316;obtain ⟨bq9,hbq9⟩:∃b_:Bool,b_=((zi l0 x11_1).f0):=⟨_,rfl⟩
     replace H:(if bq9=true then ((zM.f k1 x10_1 y316 a1).bind fun t320=>(if (t320.length:Int) > a3 then (some (([]:List ByteArray),false)) else (zV.l0 k1 l0 a1 l2 a3 t320 (wrap64 (x11_1 + 1))))) else (if 0≤((zi l0 x11_1).f1) then (if ((zi l0 x11_1).f1) < (l2.length:Int) then ((zM.f k1 x10_1 (zl l2 ((zi l0 x11_1).f1)) a1).bind fun t325=>(if (t325.length:Int) > a3 then (some (([]:List ByteArray),false)) else (zV.l0 k1 l0 a1 l2 a3 t325 (wrap64 (x11_1 + 1))))) else (none)) else (none)))=some (r1,r2):=by rw [←hbq9] at H;exact H
     have Nbq9:=zA.mk hbq9;clear hbq9
     by_cases c10:bq9=true
     ·subst c10
      have H1:((zM.f k1 x10_1 y316 a1).bind fun t320=>(if (t320.length:Int) > a3 then (some (([]:List ByteArray),false)) else (zV.l0 k1 l0 a1 l2 a3 t320 (wrap64 (x11_1 + 1)))))=some (r1,r2):=by rw [if_pos rfl] at H;exact H
      clear H;have H:=H1;clear H1;replace H:=ZzB H;obtain ⟨t320,A110,H⟩:=H;replace H:(if (t320.length:Int) > a3 then (some (([]:List ByteArray),false)) else (zV.l0 k1 l0 a1 l2 a3 t320 (wrap64 (x11_1 + 1))))=some (r1,r2):=H;have A11:=zA.mk A110;clear A110
      by_cases c12:(t320.length:Int) > a3
      ·rw [if_pos c12] at H
       have c12b0:=decide_eq_true c12;clear c12;simp only [Option.some.injEq,Prod.mk.injEq] at H;obtain ⟨rfl,rfl⟩:=H;have p312:0≤(x11_1:Int):=Qa;have q312:x11_1 < (l0.length:Int):=Qa;obtain ⟨ad312,e312,hx312_0,hx312_1⟩:=ZE HR0.out x11_1 p312 q312
       (try rw [←Nbq9.out] at hx312_0)
       cases e312;replace hx312_0:=(HB.out.cell (ZzA w _ hx312_0)).trans hx312_0;replace hx312_1:=(HB.out.cell (ZzA w _ hx312_1)).trans hx312_1;replace p312:=eq_true p312;replace q312:=eq_true q312
       go_wp2_with (first|((with_reducible refine yC (N:=26) rfl ?_);refine Kd.R_lit (Kd.int .u8) _ 5 ?hg (N:=26) ?hd (xs:=([((zi l0 x11_1).f1) % 256]:List Int)) (inner:= [.int .u8 (((zi l0 x11_1).f1) % 256)]) (ok:=fun _=>True) (okp:=fun _=>True) ?hr ?hp (fun _ hk=>hk) trivial (Below.refl _ _) (Nat.le_refl _) (by simp) ?_;(case hd=>rfl);(case hg=>rfl);(case hr=>exact Qm);(case hp=>exact (Reps.one (show Kd.M (Kd.int .u8) _ _ _ (((zi l0 x11_1).f1) % 256) [.int .u8 (((zi l0 x11_1).f1) % 256)] from rfl) (Reps.none _ _)));intro v314 w13 ho14 hb hg_ hnew_;clear hg_ hnew_;(first|rw [←Ny313.out] at ho14|(simp only [Int.reduceToNat] at ho14;rw [←Ny313.out] at ho14));have n0_:=zA.mk (Kd.R_below (Qh vR) hb);have n1_:=zA.mk (Kd.R_lower ho14 (zD Qc));have n2_:=zA.mk (zE Qc hb);clear vR HB;have vR:=n0_;have HO315:=n1_;have HB:=n2_;clear n0_ n1_ n2_ hb ho14;have hcv15:=ZV (P:=Try.prog) Try.underlying76 Try.underlying5 Try.underlying9 (Kd.own_of_R HO315.out))|((with_reducible refine yC (N:=28) rfl ?_);refine Kd.R_lit Kd.string _ 9 ?hg (N:=28) ?hd (xs:=([strOfNums y313]:List ByteArray)) (inner:= [.string (strOfNums y313)]) (ok:=fun _=>True) (okp:=fun _=>True) ?hr ?hp (fun _ hk=>hk) trivial (Below.refl _ _) (Nat.le_refl _) (by simp) ?_;(case hd=>rfl);(case hg=>rfl);(case hr=>exact Qm);(case hp=>exact (Reps.one (show Kd.M Kd.string _ _ _ (strOfNums y313) [.string (strOfNums y313)] from rfl) (Reps.none _ _)));intro v317 w16 ho17 hb hg_ hnew_;clear hg_ hnew_;(first|rw [←Ny316.out] at ho17|(simp only [Int.reduceToNat] at ho17;rw [←Ny316.out] at ho17));have n0_:=zA.mk (Kd.R_elder' (Qh vR) (Kd.R_base ho17) hb);have n2_:=zA.mk (Kd.R_lower (Kd.R_new' ho17 (Kd.R_lt (Qh vR))) (zD Qc));have n3_:=zA.mk (zE Qc hb);clear vR HB;have vR:=n0_;have HO318:=n2_;have HB:=n3_;clear n0_ n2_ n3_ hb ho17;have p319:0≤(x11_1:Int):=Qa;have q319:x11_1 < (l0.length:Int):=Qa;obtain ⟨ad319,e319,hx319_0,hx319_1⟩:=ZE HR0.out x11_1 p319 q319;(try rw [←Nbq9.out] at hx319_0);obtain rfl:ad312=ad319:=(by injection e319);replace hx319_0:=(HB.out.cell (ZzA w _ hx319_0)).trans hx319_0;replace hx319_1:=(HB.out.cell (ZzA w _ hx319_1)).trans hx319_1;replace p319:=eq_true p319;replace q319:=eq_true q319;obtain ⟨Ao18,co18,eo18⟩:=Kd.R_slice vR.out;subst eo18;obtain ⟨Ao19,co19,eo19⟩:=Kd.R_slice HO318.out;subst eo19)|((with_reducible refine zo (f:=22) rfl ?_);refine yQ (some 46) rfl rfl Try.func22 (by kernel_rfl) rfl #[.slice Ao18 x10_1.length co18, .slice Ao19 y316.length co19, .int .i64 a1] rfl Q4 ?_;(with_reducible refine (zM.calls k1 _ _ x10_1 _ _ y316 a1 t320 _ ?side1 ?side2 ?side3 ?side4 A11.out).mono ?_);(case side1=>repeat (first|exact (Kd.R_reads' vR.out).2.2|(with_reducible refine Kd.C_alloc ?_ _)|(with_reducible refine Kd.C_drewN ?_ _)|(with_reducible refine Kd.C_drew ?_)));(case side2=>exact (Kd.R_reads' vR.out).2.1);(case side3=>repeat (first|exact (Kd.R_reads' HO318.out).2.2|(with_reducible refine Kd.C_alloc ?_ _)|(with_reducible refine Kd.C_drewN ?_ _)|(with_reducible refine Kd.C_drew ?_)));(case side4=>exact (Kd.R_reads' HO318.out).2.1);rintro e w20 ⟨v321,rfl,ho0,hb⟩;refine ⟨_,rfl,?_⟩;have n3_:=zA.mk (Kd.R_lower (yo (yo ho0)) (zD Qc));have n4_:=zA.mk (zE Qc hb);clear HB;have HO322:=n3_;have HB:=n4_;clear n3_ n4_;(try clear hb ho0);obtain ⟨Ao21,co21,eo21⟩:=Kd.R_slice HO322.out;subst eo21))
       go_ret2
       exact ⟨_,by first|rfl|(simp [zT,zU] <;> rfl)|(simp [*,zT,zU] <;> rfl),by first|exact Kd.R_nil _ _ _ _ _|exact Kd.N_nil _ _ _ _ _|exact Kd.V_nil _ _ _ _ _|exact Kd.Q_nil _ _ _ _ _|exact Kd.S_nil _ _ _ _ _,by repeat (first|(with_reducible first|exact HB.out|apply zG|apply zC|apply zH)|exact HB.out)⟩
      ·rw [if_neg c12] at H
       have c12b0:=decide_eq_false c12;clear c12;have H':=zA.mk H;clear H;have p312:0≤(x11_1:Int):=Qa;have q312:x11_1 < (l0.length:Int):=Qa;obtain ⟨ad312,e312,hx312_0,hx312_1⟩:=ZE HR0.out x11_1 p312 q312
       (try rw [←Nbq9.out] at hx312_0)
       cases e312;replace hx312_0:=(HB.out.cell (ZzA w _ hx312_0)).trans hx312_0;replace hx312_1:=(HB.out.cell (ZzA w _ hx312_1)).trans hx312_1;replace p312:=eq_true p312;replace q312:=eq_true q312
       go_wp2_with (first|((with_reducible refine yC (N:=26) rfl ?_);refine Kd.R_lit (Kd.int .u8) _ 5 ?hg (N:=26) ?hd (xs:=([((zi l0 x11_1).f1) % 256]:List Int)) (inner:= [.int .u8 (((zi l0 x11_1).f1) % 256)]) (ok:=fun _=>True) (okp:=fun _=>True) ?hr ?hp (fun _ hk=>hk) trivial (Below.refl _ _) (Nat.le_refl _) (by simp) ?_;(case hd=>rfl);(case hg=>rfl);(case hr=>exact Qm);(case hp=>exact (Reps.one (show Kd.M (Kd.int .u8) _ _ _ (((zi l0 x11_1).f1) % 256) [.int .u8 (((zi l0 x11_1).f1) % 256)] from rfl) (Reps.none _ _)));intro v314 w22 ho23 hb hg_ hnew_;clear hg_ hnew_;(first|rw [←Ny313.out] at ho23|(simp only [Int.reduceToNat] at ho23;rw [←Ny313.out] at ho23));have n0_:=zA.mk (Kd.R_below (Qh vR) hb);have n1_:=zA.mk (Kd.R_lower ho23 (zD Qc));have n2_:=zA.mk (zE Qc hb);clear vR HB;have vR:=n0_;have HO315:=n1_;have HB:=n2_;clear n0_ n1_ n2_ hb ho23;have hcv24:=ZV (P:=Try.prog) Try.underlying76 Try.underlying5 Try.underlying9 (Kd.own_of_R HO315.out))|((with_reducible refine yC (N:=28) rfl ?_);refine Kd.R_lit Kd.string _ 9 ?hg (N:=28) ?hd (xs:=([strOfNums y313]:List ByteArray)) (inner:= [.string (strOfNums y313)]) (ok:=fun _=>True) (okp:=fun _=>True) ?hr ?hp (fun _ hk=>hk) trivial (Below.refl _ _) (Nat.le_refl _) (by simp) ?_;(case hd=>rfl);(case hg=>rfl);(case hr=>exact Qm);(case hp=>exact (Reps.one (show Kd.M Kd.string _ _ _ (strOfNums y313) [.string (strOfNums y313)] from rfl) (Reps.none _ _)));intro v317 w25 ho26 hb hg_ hnew_;clear hg_ hnew_;(first|rw [←Ny316.out] at ho26|(simp only [Int.reduceToNat] at ho26;rw [←Ny316.out] at ho26));have n0_:=zA.mk (Kd.R_elder' (Qh vR) (Kd.R_base ho26) hb);have n2_:=zA.mk (Kd.R_lower (Kd.R_new' ho26 (Kd.R_lt (Qh vR))) (zD Qc));have n3_:=zA.mk (zE Qc hb);clear vR HB;have vR:=n0_;have HO318:=n2_;have HB:=n3_;clear n0_ n2_ n3_ hb ho26;have p319:0≤(x11_1:Int):=Qa;have q319:x11_1 < (l0.length:Int):=Qa;obtain ⟨ad319,e319,hx319_0,hx319_1⟩:=ZE HR0.out x11_1 p319 q319;(try rw [←Nbq9.out] at hx319_0);obtain rfl:ad312=ad319:=(by injection e319);replace hx319_0:=(HB.out.cell (ZzA w _ hx319_0)).trans hx319_0;replace hx319_1:=(HB.out.cell (ZzA w _ hx319_1)).trans hx319_1;replace p319:=eq_true p319;replace q319:=eq_true q319;obtain ⟨Ao27,co27,eo27⟩:=Kd.R_slice vR.out;subst eo27;obtain ⟨Ao28,co28,eo28⟩:=Kd.R_slice HO318.out;subst eo28)|((with_reducible refine zo (f:=22) rfl ?_);refine yQ (some 46) rfl rfl Try.func22 (by kernel_rfl) rfl #[.slice Ao27 x10_1.length co27, .slice Ao28 y316.length co28, .int .i64 a1] rfl Q4 ?_;(with_reducible refine (zM.calls k1 _ _ x10_1 _ _ y316 a1 t320 _ ?side1 ?side2 ?side3 ?side4 A11.out).mono ?_);(case side1=>repeat (first|exact (Kd.R_reads' vR.out).2.2|(with_reducible refine Kd.C_alloc ?_ _)|(with_reducible refine Kd.C_drewN ?_ _)|(with_reducible refine Kd.C_drew ?_)));(case side2=>exact (Kd.R_reads' vR.out).2.1);(case side3=>repeat (first|exact (Kd.R_reads' HO318.out).2.2|(with_reducible refine Kd.C_alloc ?_ _)|(with_reducible refine Kd.C_drewN ?_ _)|(with_reducible refine Kd.C_drew ?_)));(case side4=>exact (Kd.R_reads' HO318.out).2.1);rintro e w29 ⟨v321,rfl,ho0,hb⟩;refine ⟨_,rfl,?_⟩;have n3_:=zA.mk (Kd.R_lower (yo (yo ho0)) (zD Qc));have n4_:=zA.mk (zE Qc hb);clear HB;have HO322:=n3_;have HB:=n4_;clear n3_ n4_;(try clear hb ho0);obtain ⟨Ao30,co30,eo30⟩:=Kd.R_slice HO322.out;subst eo30))
       go_roundg k1
       case measure=>have:=HK1.out;omega
       case rel=>exact ⟨(t320),(wrap64 (x11_1 + 1)),Zf,H',⟨by have:=HK1.out;omega⟩,⟨by (with_reducible repeat (first|apply Kd.R_alloc|apply Kd.R_drewN|apply Kd.R_drew));exact Kd.R_mono HO322.out (fun _ hk=>trivial)⟩,⟨by repeat (first|(with_reducible first|exact HB.out|apply zG|apply zC|apply zH)|exact HB.out)⟩⟩
     ·replace c10:=Bool.eq_false_iff.mpr c10
      subst c10
      have H1:(if 0≤((zi l0 x11_1).f1) then (if ((zi l0 x11_1).f1) < (l2.length:Int) then ((zM.f k1 x10_1 (zl l2 ((zi l0 x11_1).f1)) a1).bind fun t325=>(if (t325.length:Int) > a3 then (some (([]:List ByteArray),false)) else (zV.l0 k1 l0 a1 l2 a3 t325 (wrap64 (x11_1 + 1))))) else (none)) else (none))=some (r1,r2):=by rw [if_neg (show ¬(false=true) by decide)] at H;exact H
      clear H;have H:=H1;clear H1
      by_cases c31:0≤((zi l0 x11_1).f1)
      ·rw [if_pos c31] at H
       have c31b0:=decide_eq_true c31;clear c31
       by_cases c32:((zi l0 x11_1).f1) < (l2.length:Int)
       ·rw [if_pos c32] at H
        have c32b0:=decide_eq_true c32;clear c32;replace H:=ZzB H;obtain ⟨t325,A330,H⟩:=H;replace H:(if (t325.length:Int) > a3 then (some (([]:List ByteArray),false)) else (zV.l0 k1 l0 a1 l2 a3 t325 (wrap64 (x11_1 + 1))))=some (r1,r2):=H;have A33:=zA.mk A330;clear A330
        by_cases c34:(t325.length:Int) > a3
        ·rw [if_pos c34] at H
         have c34b0:=decide_eq_true c34;clear c34;simp only [Option.some.injEq,Prod.mk.injEq] at H;obtain ⟨rfl,rfl⟩:=H;have p312:0≤(x11_1:Int):=Qa;have q312:x11_1 < (l0.length:Int):=Qa;obtain ⟨ad312,e312,hx312_0,hx312_1⟩:=ZE HR0.out x11_1 p312 q312
         (try rw [←Nbq9.out] at hx312_0)
         cases e312;replace hx312_0:=(HB.out.cell (ZzA w _ hx312_0)).trans hx312_0;replace hx312_1:=(HB.out.cell (ZzA w _ hx312_1)).trans hx312_1;replace p312:=eq_true p312;replace q312:=eq_true q312
         go_wp2_with (first|((with_reducible refine yC (N:=26) rfl ?_);refine Kd.R_lit (Kd.int .u8) _ 5 ?hg (N:=26) ?hd (xs:=([((zi l0 x11_1).f1) % 256]:List Int)) (inner:= [.int .u8 (((zi l0 x11_1).f1) % 256)]) (ok:=fun _=>True) (okp:=fun _=>True) ?hr ?hp (fun _ hk=>hk) trivial (Below.refl _ _) (Nat.le_refl _) (by simp) ?_;(case hd=>rfl);(case hg=>rfl);(case hr=>exact Qm);(case hp=>exact (Reps.one (show Kd.M (Kd.int .u8) _ _ _ (((zi l0 x11_1).f1) % 256) [.int .u8 (((zi l0 x11_1).f1) % 256)] from rfl) (Reps.none _ _)));intro v314 w35 ho36 hb hg_ hnew_;clear hg_ hnew_;(first|rw [←Ny313.out] at ho36|(simp only [Int.reduceToNat] at ho36;rw [←Ny313.out] at ho36));have n0_:=zA.mk (Kd.R_below (Qh vR) hb);have n1_:=zA.mk (Kd.R_lower ho36 (zD Qc));have n2_:=zA.mk (zE Qc hb);clear vR HB;have vR:=n0_;have HO315:=n1_;have HB:=n2_;clear n0_ n1_ n2_ hb ho36;have hcv37:=ZV (P:=Try.prog) Try.underlying76 Try.underlying5 Try.underlying9 (Kd.own_of_R HO315.out))|((with_reducible refine yC (N:=28) rfl ?_);refine Kd.R_lit Kd.string _ 9 ?hg (N:=28) ?hd (xs:=([strOfNums y313]:List ByteArray)) (inner:= [.string (strOfNums y313)]) (ok:=fun _=>True) (okp:=fun _=>True) ?hr ?hp (fun _ hk=>hk) trivial (Below.refl _ _) (Nat.le_refl _) (by simp) ?_;(case hd=>rfl);(case hg=>rfl);(case hr=>exact Qm);(case hp=>exact (Reps.one (show Kd.M Kd.string _ _ _ (strOfNums y313) [.string (strOfNums y313)] from rfl) (Reps.none _ _)));intro v317 w38 ho39 hb hg_ hnew_;clear hg_ hnew_;(first|rw [←Ny316.out] at ho39|(simp only [Int.reduceToNat] at ho39;rw [←Ny316.out] at ho39));have n0_:=zA.mk (Kd.R_elder' (Qh vR) (Kd.R_base ho39) hb);have n3_:=zA.mk (zE Qc hb);clear vR HB;have vR:=n0_;have HB:=n3_;clear n0_ n3_ hb ho39;have p319:0≤(x11_1:Int):=Qa;have q319:x11_1 < (l0.length:Int):=Qa;obtain ⟨ad319,e319,hx319_0,hx319_1⟩:=ZE HR0.out x11_1 p319 q319;(try rw [←Nbq9.out] at hx319_0);obtain rfl:ad312=ad319:=(by injection e319);replace hx319_0:=(HB.out.cell (ZzA w _ hx319_0)).trans hx319_0;replace hx319_1:=(HB.out.cell (ZzA w _ hx319_1)).trans hx319_1;replace p319:=eq_true p319;replace q319:=eq_true q319;have p323:0≤(x11_1:Int):=Qa;have q323:x11_1 < (l0.length:Int):=Qa;obtain ⟨ad323,e323,hx323_0,hx323_1⟩:=ZE HR0.out x11_1 p323 q323;(try rw [←Nbq9.out] at hx323_0);obtain rfl:ad312=ad323:=(by injection e323);replace hx323_0:=(HB.out.cell (ZzA w _ hx323_0)).trans hx323_0;replace hx323_1:=(HB.out.cell (ZzA w _ hx323_1)).trans hx323_1;replace p323:=eq_true p323;replace q323:=eq_true q323;have p324:0≤(((zi l0 x11_1).f1):Int):=Qa;have q324:((zi l0 x11_1).f1) < (l2.length:Int):=Qa;obtain ⟨ad324,A324_0,c324_0,e324,hx324_0,hl324_0,hi324_0⟩:=ZQ HR2.out ((zi l0 x11_1).f1) p324 q324;cases e324;replace hx324_0:=(HB.out.cell (ZzA w _ hx324_0)).trans hx324_0;have HR324_0:=zA.mk hi324_0;have HC324_0:=zA.mk hl324_0;clear hi324_0 hl324_0;replace p324:=eq_true p324;replace q324:=eq_true q324;obtain ⟨Ao40,co40,eo40⟩:=Kd.R_slice vR.out;subst eo40)|((with_reducible refine zo (f:=22) rfl ?_);refine yQ (some 46) rfl rfl Try.func22 (by kernel_rfl) rfl #[.slice Ao40 x10_1.length co40, .slice A324_0 (zl l2 ((zi l0 x11_1).f1)).length c324_0, .int .i64 a1] rfl Q4 ?_;(with_reducible refine (zM.calls k1 _ _ x10_1 _ _ (zl l2 ((zi l0 x11_1).f1)) a1 t325 _ ?side1 ?side2 ?side3 ?side4 A33.out).mono ?_);(case side1=>repeat (first|exact (Kd.R_reads' vR.out).2.2|(with_reducible refine Kd.C_alloc ?_ _)|(with_reducible refine Kd.C_drewN ?_ _)|(with_reducible refine Kd.C_drew ?_)));(case side2=>exact (Kd.R_reads' vR.out).2.1);(case side3=>exact Qo (Kd.C_below HR324_0.out HB.out));(case side4=>exact HC324_0.out);rintro e w41 ⟨v326,rfl,ho0,hb⟩;refine ⟨_,rfl,?_⟩;have n3_:=zA.mk (Kd.R_lower (yo (yo ho0)) (zD Qc));have n4_:=zA.mk (zE Qc hb);clear HB;have HO327:=n3_;have HB:=n4_;clear n3_ n4_;(try clear hb ho0);obtain ⟨Ao42,co42,eo42⟩:=Kd.R_slice HO327.out;subst eo42))
         go_ret2
         exact ⟨_,by first|rfl|(simp [zT,zU] <;> rfl)|(simp [*,zT,zU] <;> rfl),by first|exact Kd.R_nil _ _ _ _ _|exact Kd.N_nil _ _ _ _ _|exact Kd.V_nil _ _ _ _ _|exact Kd.Q_nil _ _ _ _ _|exact Kd.S_nil _ _ _ _ _,by repeat (first|(with_reducible first|exact HB.out|apply zG|apply zC|apply zH)|exact HB.out)⟩
        ·rw [if_neg c34] at H
         have c34b0:=decide_eq_false c34;clear c34;have H':=zA.mk H;clear H;have p312:0≤(x11_1:Int):=Qa;have q312:x11_1 < (l0.length:Int):=Qa;obtain ⟨ad312,e312,hx312_0,hx312_1⟩:=ZE HR0.out x11_1 p312 q312
         (try rw [←Nbq9.out] at hx312_0)
         cases e312;replace hx312_0:=(HB.out.cell (ZzA w _ hx312_0)).trans hx312_0;replace hx312_1:=(HB.out.cell (ZzA w _ hx312_1)).trans hx312_1;replace p312:=eq_true p312;replace q312:=eq_true q312
         go_wp2_with (first|((with_reducible refine yC (N:=26) rfl ?_);refine Kd.R_lit (Kd.int .u8) _ 5 ?hg (N:=26) ?hd (xs:=([((zi l0 x11_1).f1) % 256]:List Int)) (inner:= [.int .u8 (((zi l0 x11_1).f1) % 256)]) (ok:=fun _=>True) (okp:=fun _=>True) ?hr ?hp (fun _ hk=>hk) trivial (Below.refl _ _) (Nat.le_refl _) (by simp) ?_;(case hd=>rfl);(case hg=>rfl);(case hr=>exact Qm);(case hp=>exact (Reps.one (show Kd.M (Kd.int .u8) _ _ _ (((zi l0 x11_1).f1) % 256) [.int .u8 (((zi l0 x11_1).f1) % 256)] from rfl) (Reps.none _ _)));intro v314 w43 ho44 hb hg_ hnew_;clear hg_ hnew_;(first|rw [←Ny313.out] at ho44|(simp only [Int.reduceToNat] at ho44;rw [←Ny313.out] at ho44));have n0_:=zA.mk (Kd.R_below (Qh vR) hb);have n1_:=zA.mk (Kd.R_lower ho44 (zD Qc));have n2_:=zA.mk (zE Qc hb);clear vR HB;have vR:=n0_;have HO315:=n1_;have HB:=n2_;clear n0_ n1_ n2_ hb ho44;have hcv45:=ZV (P:=Try.prog) Try.underlying76 Try.underlying5 Try.underlying9 (Kd.own_of_R HO315.out))|((with_reducible refine yC (N:=28) rfl ?_);refine Kd.R_lit Kd.string _ 9 ?hg (N:=28) ?hd (xs:=([strOfNums y313]:List ByteArray)) (inner:= [.string (strOfNums y313)]) (ok:=fun _=>True) (okp:=fun _=>True) ?hr ?hp (fun _ hk=>hk) trivial (Below.refl _ _) (Nat.le_refl _) (by simp) ?_;(case hd=>rfl);(case hg=>rfl);(case hr=>exact Qm);(case hp=>exact (Reps.one (show Kd.M Kd.string _ _ _ (strOfNums y313) [.string (strOfNums y313)] from rfl) (Reps.none _ _)));intro v317 w46 ho47 hb hg_ hnew_;clear hg_ hnew_;(first|rw [←Ny316.out] at ho47|(simp only [Int.reduceToNat] at ho47;rw [←Ny316.out] at ho47));have n0_:=zA.mk (Kd.R_elder' (Qh vR) (Kd.R_base ho47) hb);have n3_:=zA.mk (zE Qc hb);clear vR HB;have vR:=n0_;have HB:=n3_;clear n0_ n3_ hb ho47;have p319:0≤(x11_1:Int):=Qa;have q319:x11_1 < (l0.length:Int):=Qa;obtain ⟨ad319,e319,hx319_0,hx319_1⟩:=ZE HR0.out x11_1 p319 q319;(try rw [←Nbq9.out] at hx319_0);obtain rfl:ad312=ad319:=(by injection e319);replace hx319_0:=(HB.out.cell (ZzA w _ hx319_0)).trans hx319_0;replace hx319_1:=(HB.out.cell (ZzA w _ hx319_1)).trans hx319_1;replace p319:=eq_true p319;replace q319:=eq_true q319;have p323:0≤(x11_1:Int):=Qa;have q323:x11_1 < (l0.length:Int):=Qa;obtain ⟨ad323,e323,hx323_0,hx323_1⟩:=ZE HR0.out x11_1 p323 q323;(try rw [←Nbq9.out] at hx323_0);obtain rfl:ad312=ad323:=(by injection e323);replace hx323_0:=(HB.out.cell (ZzA w _ hx323_0)).trans hx323_0;replace hx323_1:=(HB.out.cell (ZzA w _ hx323_1)).trans hx323_1;replace p323:=eq_true p323;replace q323:=eq_true q323;have p324:0≤(((zi l0 x11_1).f1):Int):=Qa;have q324:((zi l0 x11_1).f1) < (l2.length:Int):=Qa;obtain ⟨ad324,A324_0,c324_0,e324,hx324_0,hl324_0,hi324_0⟩:=ZQ HR2.out ((zi l0 x11_1).f1) p324 q324;cases e324;replace hx324_0:=(HB.out.cell (ZzA w _ hx324_0)).trans hx324_0;have HR324_0:=zA.mk hi324_0;have HC324_0:=zA.mk hl324_0;clear hi324_0 hl324_0;replace p324:=eq_true p324;replace q324:=eq_true q324;obtain ⟨Ao48,co48,eo48⟩:=Kd.R_slice vR.out;subst eo48)|((with_reducible refine zo (f:=22) rfl ?_);refine yQ (some 46) rfl rfl Try.func22 (by kernel_rfl) rfl #[.slice Ao48 x10_1.length co48, .slice A324_0 (zl l2 ((zi l0 x11_1).f1)).length c324_0, .int .i64 a1] rfl Q4 ?_;(with_reducible refine (zM.calls k1 _ _ x10_1 _ _ (zl l2 ((zi l0 x11_1).f1)) a1 t325 _ ?side1 ?side2 ?side3 ?side4 A33.out).mono ?_);(case side1=>repeat (first|exact (Kd.R_reads' vR.out).2.2|(with_reducible refine Kd.C_alloc ?_ _)|(with_reducible refine Kd.C_drewN ?_ _)|(with_reducible refine Kd.C_drew ?_)));(case side2=>exact (Kd.R_reads' vR.out).2.1);(case side3=>exact Qo (Kd.C_below HR324_0.out HB.out));(case side4=>exact HC324_0.out);rintro e w49 ⟨v326,rfl,ho0,hb⟩;refine ⟨_,rfl,?_⟩;have n3_:=zA.mk (Kd.R_lower (yo (yo ho0)) (zD Qc));have n4_:=zA.mk (zE Qc hb);clear HB;have HO327:=n3_;have HB:=n4_;clear n3_ n4_;(try clear hb ho0);obtain ⟨Ao50,co50,eo50⟩:=Kd.R_slice HO327.out;subst eo50))
         go_roundg k1
         case measure=>have:=HK1.out;omega
         case rel=>exact ⟨(t325),(wrap64 (x11_1 + 1)),Zf,H',⟨by have:=HK1.out;omega⟩,⟨by (with_reducible repeat (first|apply Kd.R_alloc|apply Kd.R_drewN|apply Kd.R_drew));exact Kd.R_mono HO327.out (fun _ hk=>trivial)⟩,⟨by repeat (first|(with_reducible first|exact HB.out|apply zG|apply zC|apply zH)|exact HB.out)⟩⟩
       ·rw [if_neg c32] at H
        exact absurd H (by simp)
      ·rw [if_neg c31] at H
       exact absurd H (by simp)
    ·rw [if_neg c8] at H
     exact absurd H (by simp)
   ·rw [if_neg c7] at H
    have c7b0:=decide_eq_false c7;clear c7;simp only [Option.some.injEq,Prod.mk.injEq] at H;obtain ⟨rfl,rfl⟩:=H
    go_wp2
    go_ret2
    exact ⟨_,by first|rfl|(simp [zT,zU] <;> rfl)|(simp [*,zT,zU] <;> rfl),by (with_reducible repeat (first|apply Kd.R_alloc|apply Kd.R_drewN|apply Kd.R_drew));exact vR.out,by repeat (first|(with_reducible first|exact HB.out|apply zG|apply zC|apply zH)|exact HB.out)⟩
def yE.l0:Nat→List ByteArray→List ByteArray→Int→Option (List ByteArray)
 | 0,_,_,_=>none
 | k + 1,x0,x3,x4=>if x4 < (x0.length:Int) then (if 0≤x4 then ((ze.f k x3 (rdOf ByteArray.empty x0 x4)).bind fun t332=>(yE.l0 k x0 t332 (wrap64 (x4 + 1)))) else (none)) else (some x3)
def yE.f (k:Nat) (l0:List ByteArray):Option (List ByteArray):=yE.l0 k l0 (([]:List ByteArray)) 0
theorem yE.mono_l:∀k,(∀y0 y1 y2,LeO (yE.l0 k y0 y1 y2) (yE.l0 (k + 1) y0 y1 y2))
 | 0=>fun _ _ _ r h=>by simp [yE.l0] at h
 | k + 1=>by
  have ih0:=yE.mono_l k
  ·intro y0 y1 y2
   unfold yE.l0
   repeat' first
   | with_reducible first|exact ih0 _ _ _|exact ze.mono _ _ _|exact LeO.refl _|exact LeO.none _|refine LeO.ite ?_ ?_|refine LeO.bind ?_ (fun _=> ?_)
   | exact ih0 _ _ _|exact ze.mono _ _ _|exact LeO.none _|refine LeO.ite ?_ ?_|refine LeO.bind ?_ (fun _=> ?_)
theorem yE.mono:∀a0 k,LeO (yE.f k a0) (yE.f (k + 1) a0):=by
 intro a0 k;have ih0:=yE.mono_l k
 unfold yE.f
 repeat' first
   | with_reducible first|exact ih0 _ _ _|exact ze.mono _ _ _|exact LeO.refl _|exact LeO.none _|refine LeO.ite ?_ ?_|refine LeO.bind ?_ (fun _=> ?_)
   | exact ih0 _ _ _|exact ze.mono _ _ _|exact LeO.none _|refine LeO.ite ?_ ?_|refine LeO.bind ?_ (fun _=> ?_)
set_option maxHeartbeats 8000000 in
set_option maxRecDepth 100000 in
theorem yE.calls (k:Nat) (A0:Option Addr) (c0:Nat) (l0:List ByteArray) (r:List ByteArray) (w:World) (hr0:Kd.C Kd.string w A0 l0.length l0) (hc0:l0.length≤c0) (h:yE.f k l0=some r) :
  Calls Try.prog 42 #[.slice A0 l0.length c0] w fun e w'=>∃v0_:Value,e= .returned (v0_)∧Kd.R Kd.string 9 w' w.heap.size (fun _=>True) v0_ r∧Below w.heap.size w w':=by
 have HR0:=zA.mk hr0;have HC0:=zA.mk hc0;clear hr0 hc0;have HB:=zA.mk (Below.refl w.heap.size w);have H:(yE.l0 k l0 (([]:List ByteArray)) 0)=some r:=h;clear h;obtain ⟨y328,hy328⟩:∃y_:List ByteArray,y_=(([]:List ByteArray)):=⟨_,rfl⟩;replace H:(yE.l0 k l0 y328 0)=some r:=Qb hy328 H;have Ny328:=zA.mk hy328;clear hy328;have H':=zA.mk H;clear H
 go_enter Try.func42,Try.ntmps42
 go_wp2_with (first|((with_reducible refine yC (N:=5) rfl ?_);refine Kd.R_lit Kd.string _ 9 ?hg (N:=5) ?hd (xs:=([]:List ByteArray)) (inner:= []) (ok:=fun _=>True) (okp:=fun _=>True) ?hr ?hp (fun _ hk=>hk) trivial (Below.refl _ _) (Nat.le_refl _) (by simp) ?_;(case hd=>rfl);(case hg=>rfl);(case hr=>exact Qm);(case hp=>exact (Reps.none _ _));intro v329 w2 ho3 hb hg_ hnew_;clear hg_ hnew_;(first|rw [←Ny328.out] at ho3|(simp only [Int.reduceToNat] at ho3;rw [←Ny328.out] at ho3));have n0_:=zA.mk (Kd.R_lower ho3 (zD Qc));have n1_:=zA.mk (zE Qc hb);clear HB;have HO330:=n0_;have HB:=n1_;clear n0_ n1_ hb ho3))
 go_loopg [3,4] k (fun kq v3 v4 w'=>∃(x3_1:List ByteArray) (x4_1:Int),v4= .int .i64 x4_1∧zA (yE.l0 kq l0 x3_1 x4_1=some r)∧zA (kq≤k)∧zA (Kd.R Kd.string 9 w' w.heap.size (fun _=>True) v3 x3_1)∧zA (Below w.heap.size w w'))
 case atStart=>exact ⟨(y328),(0),Zf,H',⟨Nat.le_refl _⟩,⟨Qh HO330⟩,⟨by repeat (first|(with_reducible first|exact HB.out|apply zG|apply zC|apply zH)|exact HB.out)⟩⟩
 case round=>
  clear H';(try clear p2);obtain ⟨x3_1,x4_1,rfl,HA,HK1,HO_3,HB⟩:=hrel;cases gk with
  | zero=>exact absurd HA.out (by simp [yE.l0])
  | succ k1=>
   have H:=HA.out;clear HA;simp only [yE.l0] at H
   by_cases c4:x4_1 < (l0.length:Int)
   ·rw [if_pos c4] at H
    have c4b0:=decide_eq_true c4;clear c4
    by_cases c5:0≤x4_1
    ·rw [if_pos c5] at H
     have c5b0:=decide_eq_true c5;clear c5;replace H:=ZzB H;obtain ⟨t332,A60,H⟩:=H;replace H:(yE.l0 k1 l0 t332 (wrap64 (x4_1 + 1)))=some r:=H;have A6:=zA.mk A60;clear A60;have H':=zA.mk H;clear H;have p331:0≤(x4_1:Int):=Qa;have q331:x4_1 < (l0.length:Int):=Qa;obtain ⟨ad331,e331,hx331_0⟩:=Kd.at_string HR0.out x4_1 p331 q331;cases e331;replace hx331_0:=(HB.out.cell (ZzA w _ hx331_0)).trans hx331_0;replace p331:=eq_true p331;replace q331:=eq_true q331;obtain ⟨Ao7,co7,eo7⟩:=Kd.R_slice HO_3.out;subst eo7
     go_wp2_with (first|((with_reducible refine zo (f:=39) rfl ?_);refine yQ (some 17) rfl rfl Try.func39 (by kernel_rfl) rfl #[.slice Ao7 x3_1.length co7, .string (rdOf ByteArray.empty l0 x4_1)] rfl Q4 ?_;(with_reducible refine (ze.calls k1 _ _ x3_1 (rdOf ByteArray.empty l0 x4_1) t332 _ ?side1 ?side2 A6.out).mono ?_);(case side1=>repeat (first|exact (Kd.R_reads' HO_3.out).2.2|(with_reducible refine Kd.C_alloc ?_ _)|(with_reducible refine Kd.C_drewN ?_ _)|(with_reducible refine Kd.C_drew ?_)));(case side2=>exact (Kd.R_reads' HO_3.out).2.1);rintro e w8 ⟨v333,rfl,ho0,hb⟩;refine ⟨_,rfl,?_⟩;have n1_:=zA.mk (ze.own ho0 (Kd.R_below (Qh HO_3) hb) (zD Qc));have n2_:=zA.mk (zE Qc hb);clear HB;have HO334:=n1_;have HB:=n2_;clear n1_ n2_;(try clear hb ho0)))
     go_roundg k1
     case measure=>have:=HK1.out;omega
     case rel=>exact ⟨(t332),(wrap64 (x4_1 + 1)),Zf,H',⟨by have:=HK1.out;omega⟩,⟨by (with_reducible repeat (first|apply Kd.R_alloc|apply Kd.R_drewN|apply Kd.R_drew));exact Kd.R_mono HO334.out (fun _ hk=>trivial)⟩,⟨by repeat (first|(with_reducible first|exact HB.out|apply zG|apply zC|apply zH)|exact HB.out)⟩⟩
    ·rw [if_neg c5] at H
     exact absurd H (by simp)
   ·rw [if_neg c4] at H
    have c4b0:=decide_eq_false c4;clear c4;obtain rfl:=Option.some.inj H
    go_wp2
    go_ret
    exact ⟨_,by first|rfl|(simp [zT,zU] <;> rfl)|(simp [*,zT,zU] <;> rfl),by (with_reducible repeat (first|apply Kd.R_alloc|apply Kd.R_drewN|apply Kd.R_drew));exact HO_3.out,by repeat (first|(with_reducible first|exact HB.out|apply zG|apply zC|apply zH)|exact HB.out)⟩
def zj.l0:Nat→List ByteArray→List ByteArray→Int→Option (List ByteArray)
 | 0,_,_,_=>none
 | k + 1,x1,x5,x6=>if x6 < (x1.length:Int) then (if 0≤x6 then ((ze.f k x5 (rdOf ByteArray.empty x1 x6)).bind fun t339=>(zj.l0 k x1 t339 (wrap64 (x6 + 1)))) else (none)) else (some x5)
def zj.f (k:Nat) (l0:List ByteArray) (l1:List ByteArray):Option (List ByteArray):=(yE.f k l0).bind fun t335=>(zj.l0 k l1 t335 0)
theorem zj.mono_l:∀k,(∀y0 y1 y2,LeO (zj.l0 k y0 y1 y2) (zj.l0 (k + 1) y0 y1 y2))
 | 0=>fun _ _ _ r h=>by simp [zj.l0] at h
 | k + 1=>by
  have ih0:=zj.mono_l k
  ·intro y0 y1 y2
   unfold zj.l0
   repeat' first
   | with_reducible first|exact ih0 _ _ _|exact yE.mono _ _|exact ze.mono _ _ _|exact LeO.refl _|exact LeO.none _|refine LeO.ite ?_ ?_|refine LeO.bind ?_ (fun _=> ?_)
   | exact ih0 _ _ _|exact yE.mono _ _|exact ze.mono _ _ _|exact LeO.none _|refine LeO.ite ?_ ?_|refine LeO.bind ?_ (fun _=> ?_)
theorem zj.mono:∀a0 a1 k,LeO (zj.f k a0 a1) (zj.f (k + 1) a0 a1):=by
 intro a0 a1 k;have ih0:=zj.mono_l k
 unfold zj.f
 repeat' first
   | with_reducible first|exact ih0 _ _ _|exact yE.mono _ _|exact ze.mono _ _ _|exact LeO.refl _|exact LeO.none _|refine LeO.ite ?_ ?_|refine LeO.bind ?_ (fun _=> ?_)
   | exact ih0 _ _ _|exact yE.mono _ _|exact ze.mono _ _ _|exact LeO.none _|refine LeO.ite ?_ ?_|refine LeO.bind ?_ (fun _=> ?_)
set_option maxHeartbeats 8000000 in
set_option maxRecDepth 100000 in
theorem zj.calls (k:Nat) (A0:Option Addr) (c0:Nat) (l0:List ByteArray) (A1:Option Addr) (c1:Nat) (l1:List ByteArray) (r:List ByteArray) (w:World) (hr0:Kd.C Kd.string w A0 l0.length l0) (hc0:l0.length≤c0) (hr1:Kd.C Kd.string w A1 l1.length l1) (hc1:l1.length≤c1) (h:zj.f k l0 l1=some r) :
  Calls Try.prog 26 #[.slice A0 l0.length c0, .slice A1 l1.length c1] w fun e w'=>∃v0_:Value,e= .returned (v0_)∧Kd.R Kd.string 9 w' w.heap.size (fun _=>True) v0_ r∧Below w.heap.size w w':=by
 have HR0:=zA.mk hr0;have HC0:=zA.mk hc0;clear hr0 hc0;have HR1:=zA.mk hr1;have HC1:=zA.mk hc1;clear hr1 hc1;have HB:=zA.mk (Below.refl w.heap.size w);have H:((yE.f k l0).bind fun t335=>(zj.l0 k l1 t335 0))=some r:=h;clear h;replace H:=ZzB H;obtain ⟨t335,A30,H⟩:=H;replace H:(zj.l0 k l1 t335 0)=some r:=H;have A3:=zA.mk A30;clear A30;have H':=zA.mk H;clear H
 go_enter Try.func26,Try.ntmps26
 go_wp2_with (first|((with_reducible refine zo (f:=42) rfl ?_);refine yQ (some 8) rfl rfl Try.func42 (by kernel_rfl) rfl #[.slice A0 l0.length c0] rfl Q4 ?_;(with_reducible refine (yE.calls k _ _ l0 t335 _ ?side1 ?side2 A3.out).mono ?_);(case side1=>exact Qo HR0.out);(case side2=>exact HC0.out);rintro e w4 ⟨v336,rfl,ho0,hb⟩;refine ⟨_,rfl,?_⟩;have n0_:=zA.mk (Kd.R_lower ho0 (zD Qc));have n1_:=zA.mk (zE Qc hb);clear HB;have HO337:=n0_;have HB:=n1_;clear n0_ n1_;(try clear hb ho0)))
 go_loopg [5,6] k (fun kq v5 v6 w'=>∃(x5_1:List ByteArray) (x6_1:Int),v6= .int .i64 x6_1∧zA (zj.l0 kq l1 x5_1 x6_1=some r)∧zA (kq≤k)∧zA (Kd.R Kd.string 9 w' w.heap.size (fun _=>True) v5 x5_1)∧zA (Below w.heap.size w w'))
 case atStart=>exact ⟨(t335),(0),Zf,H',⟨Nat.le_refl _⟩,⟨Qh HO337⟩,⟨by repeat (first|(with_reducible first|exact HB.out|apply zG|apply zC|apply zH)|exact HB.out)⟩⟩
 case round=>
  clear H';(try clear c1);(try clear c2);(try clear p2);(try clear c4);obtain ⟨x5_1,x6_1,rfl,HA,HK1,HO_5,HB⟩:=hrel;cases gk with
  | zero=>exact absurd HA.out (by simp [zj.l0])
  | succ k1=>
   have H:=HA.out;clear HA;simp only [zj.l0] at H
   by_cases c5:x6_1 < (l1.length:Int)
   ·rw [if_pos c5] at H
    have c5b0:=decide_eq_true c5;clear c5
    by_cases c6:0≤x6_1
    ·rw [if_pos c6] at H
     have c6b0:=decide_eq_true c6;clear c6;replace H:=ZzB H;obtain ⟨t339,A70,H⟩:=H;replace H:(zj.l0 k1 l1 t339 (wrap64 (x6_1 + 1)))=some r:=H;have A7:=zA.mk A70;clear A70;have H':=zA.mk H;clear H;have p338:0≤(x6_1:Int):=Qa;have q338:x6_1 < (l1.length:Int):=Qa;obtain ⟨ad338,e338,hx338_0⟩:=Kd.at_string HR1.out x6_1 p338 q338;cases e338;replace hx338_0:=(HB.out.cell (ZzA w _ hx338_0)).trans hx338_0;replace p338:=eq_true p338;replace q338:=eq_true q338;obtain ⟨Ao8,co8,eo8⟩:=Kd.R_slice HO_5.out;subst eo8
     go_wp2_with (first|((with_reducible refine zo (f:=39) rfl ?_);refine yQ (some 20) rfl rfl Try.func39 (by kernel_rfl) rfl #[.slice Ao8 x5_1.length co8, .string (rdOf ByteArray.empty l1 x6_1)] rfl Q4 ?_;(with_reducible refine (ze.calls k1 _ _ x5_1 (rdOf ByteArray.empty l1 x6_1) t339 _ ?side1 ?side2 A7.out).mono ?_);(case side1=>repeat (first|exact (Kd.R_reads' HO_5.out).2.2|(with_reducible refine Kd.C_alloc ?_ _)|(with_reducible refine Kd.C_drewN ?_ _)|(with_reducible refine Kd.C_drew ?_)));(case side2=>exact (Kd.R_reads' HO_5.out).2.1);rintro e w9 ⟨v340,rfl,ho0,hb⟩;refine ⟨_,rfl,?_⟩;have n1_:=zA.mk (ze.own ho0 (Kd.R_below (Qh HO_5) hb) (zD Qc));have n2_:=zA.mk (zE Qc hb);clear HB;have HO341:=n1_;have HB:=n2_;clear n1_ n2_;(try clear hb ho0)))
     go_roundg k1
     case measure=>have:=HK1.out;omega
     case rel=>exact ⟨(t339),(wrap64 (x6_1 + 1)),Zf,H',⟨by have:=HK1.out;omega⟩,⟨by (with_reducible repeat (first|apply Kd.R_alloc|apply Kd.R_drewN|apply Kd.R_drew));exact Kd.R_mono HO341.out (fun _ hk=>trivial)⟩,⟨by repeat (first|(with_reducible first|exact HB.out|apply zG|apply zC|apply zH)|exact HB.out)⟩⟩
    ·rw [if_neg c6] at H
     exact absurd H (by simp)
   ·rw [if_neg c5] at H
    have c5b0:=decide_eq_false c5;clear c5;obtain rfl:=Option.some.inj H
    go_wp2
    go_ret
    exact ⟨_,by first|rfl|(simp [zT,zU] <;> rfl)|(simp [*,zT,zU] <;> rfl),by (with_reducible repeat (first|apply Kd.R_alloc|apply Kd.R_drewN|apply Kd.R_drew));exact HO_5.out,by repeat (first|(with_reducible first|exact HB.out|apply zG|apply zC|apply zH)|exact HB.out)⟩
end Go.Proofs.Ytlanhkekjhlmjaa.HGuessOf
