-- Written by plus.py for this claim.
import Derived.Test.YtpfeebmfihgelaaGreatSGuessPicksVZip
import Derived.Test.YtpfeebmfihgelaaGreatHGuessPicksx0
import Derived.Test.YtpfeebmfihgelaaGreatHGuessPicksx1
import Derived.Test.YtpfeebmfihgelaaGreatHGuessPicksx16
namespace Go.Proofs.YtpfeebmfihgelaaGreat.HGuessPicks
open Go.RowKit Go.Proofs.YtpfeebmfihgelaaGreatW.PrintWords Go.Proofs.YtpfeebmfihgelaaGreatW.PrintLast Go.Proofs.YtpfeebmfihgelaaGreatW.PrintMore
attribute [local go_sem] yx yy ZI ZJ yo yp yz ZA
set_option linter.unusedVariables false
set_option maxHeartbeats 8000000
set_option maxRecDepth 100000
set_option linter.unusedSimpArgs false
def ZZ.f (a0:ByteArray) (a1:ByteArray) (a2:Int):Option (ByteArray):=if a0.size + a1.size≤9223372036854775807 then (if 0≤(mx (mn ((a0 ++ a1).size:Int) a2) 0) then (if (mx (mn ((a0 ++ a1).size:Int) a2) 0)≤((a0 ++ a1).size:Int) then (some ((a0 ++ a1).extract 0 ((mx (mn ((a0 ++ a1).size:Int) a2) 0):Int).toNat)) else (none)) else (none)) else (none)
theorem ZZ.calls (a0:ByteArray) (a1:ByteArray) (a2:Int) (r:ByteArray) (w:World) (h:ZZ.f a0 a1 a2=some r) :
  Calls Tryz.prog 44 #[.string a0, .string a1, .int .i64 a2] w fun e w'=>e= .returned (.string r)∧Below w.heap.size w w':=by
 have HB:=zA.mk (Below.refl w.heap.size w);have H:(if a0.size + a1.size≤9223372036854775807 then (if 0≤(mx (mn ((a0 ++ a1).size:Int) a2) 0) then (if (mx (mn ((a0 ++ a1).size:Int) a2) 0)≤((a0 ++ a1).size:Int) then (some ((a0 ++ a1).extract 0 ((mx (mn ((a0 ++ a1).size:Int) a2) 0):Int).toNat)) else (none)) else (none)) else (none))=some r:=h;clear h
 by_cases c4:a0.size + a1.size≤9223372036854775807
 ·rw [if_pos c4] at H
  have c4b0:=eq_true c4;have c4b1:=decide_eq_true c4
  try have c4b2:(9223372036854775807 < a0.size + a1.size)=False:=eq_false (Nat.not_lt.2 c4)
  obtain ⟨ji5,hji5⟩:∃j_:Int,(mn ((a0 ++ a1).size:Int) a2)=j_:=⟨_,rfl⟩
  replace H:(if 0≤(mx (ji5) 0) then (if (mx (ji5) 0)≤((a0 ++ a1).size:Int) then (some ((a0 ++ a1).extract 0 ((mx (ji5) 0):Int).toNat)) else (none)) else (none))=some r:=by first|(rw [hji5] at H;exact H)|(simp only [hji5] at H⊢;exact H)
  have hji5_:(if a2 < ((a0 ++ a1).size:Int) then a2 else ((a0 ++ a1).size:Int))=ji5:=hji5
  have hji5_s:(if a2 < ((a0.size:Int) + (a1.size:Int)) then a2 else ((a0.size:Int) + (a1.size:Int)))=ji5:=by rw [←hji5_];rw [show ((if a2 < ((a0.size:Int) + (a1.size:Int)) then a2 else ((a0.size:Int) + (a1.size:Int))))=_ from rfl];simp only [ByteArray.size_append,Int.natCast_add]
  obtain ⟨ji6,hji6⟩:∃j_:Int,(mx (ji5) 0)=j_:=⟨_,rfl⟩
  replace H:(if 0≤(ji6) then (if (ji6)≤((a0 ++ a1).size:Int) then (some ((a0 ++ a1).extract 0 ((ji6):Int).toNat)) else (none)) else (none))=some r:=by first|(rw [hji6] at H;exact H)|(simp only [hji6] at H⊢;exact H)
  have hji6_:(if (ji5) < 0 then 0 else (ji5))=ji6:=hji6
  by_cases c7:0≤(ji6)
  ·rw [if_pos c7] at H
   have c7b0:=eq_true c7;have c7b1:=decide_eq_true c7;clear c7
   by_cases c8:(ji6)≤((a0 ++ a1).size:Int)
   ·rw [if_pos c8] at H
    have c8b0:=eq_true c8;have c8b1:=decide_eq_true c8;obtain rfl:=Option.some.inj H
    go_enter Tryz.func44,Tryz.ntmps44
    go_wp2
    go_ret
    exact ⟨by first|rfl|(simp [zR,zS] <;> rfl)|(simp only [←hji5,←hji6];first|rfl|(simp [zR,zS] <;> rfl))|(simp [*,zR,zS] <;> rfl),by repeat (first|(with_reducible first|exact HB.out|apply zE|apply zC|apply zG)|exact HB.out)⟩
   ·rw [if_neg c8] at H
    exact absurd H (by simp)
  ·rw [if_neg c7] at H
   exact absurd H (by simp)
 ·rw [if_neg c4] at H
  exact absurd H (by simp)
mutual
def zQ.l0:Nat→List ByteArray→List ByteArray→Int→List ByteArray→Int→Option (List ByteArray)
 | 0,_,_,_,_,_=>none
 | k + 1,x0,x1,x2,x7,x8=>if x8 < (x0.length:Int) then (zQ.l1 k x0 x1 x2 x7 x8 0) else (some x7)
def zQ.l1:Nat→List ByteArray→List ByteArray→Int→List ByteArray→Int→Int→Option (List ByteArray)
 | 0,_,_,_,_,_,_=>none
 | k + 1,x0,x1,x2,x7,x8,x9=>if x9 < (x1.length:Int) then (if 0≤x8 then (if x8 < (x0.length:Int) then (if 0≤x9 then ((ZZ.f (rdOf ByteArray.empty x0 x8) (rdOf ByteArray.empty x1 x9) x2).bind fun t335=>((zh.f k x7 t335).bind fun t336=>(zQ.l1 k x0 x1 x2 t336 x8 (wrap64 (x9 + 1))))) else (none)) else (none)) else (none)) else (zQ.l0 k x0 x1 x2 x7 (wrap64 (x8 + 1)))
end
def zQ.f (k:Nat) (l0:List ByteArray) (l1:List ByteArray) (a2:Int):Option (List ByteArray):=zQ.l0 k l0 l1 a2 (([]:List ByteArray)) 0
theorem zQ.mono_l:∀k,(∀y0 y1 y2 y3 y4,LeO (zQ.l0 k y0 y1 y2 y3 y4) (zQ.l0 (k + 1) y0 y1 y2 y3 y4))∧(∀y0 y1 y2 y3 y4 y5,LeO (zQ.l1 k y0 y1 y2 y3 y4 y5) (zQ.l1 (k + 1) y0 y1 y2 y3 y4 y5))
 | 0=>⟨fun _ _ _ _ _ r h=>by simp [zQ.l0] at h,fun _ _ _ _ _ _ r h=>by simp [zQ.l1] at h⟩
 | k + 1=>by
  obtain ⟨ih0,ih1⟩:=zQ.mono_l k;refine ⟨?_,?_⟩
  ·intro y0 y1 y2 y3 y4
   unfold zQ.l0
   repeat' first
   | with_reducible first|exact ih0 _ _ _ _ _|exact ih1 _ _ _ _ _ _|exact zh.mono _ _ _|exact LeO.refl _|exact LeO.none _|refine LeO.ite ?_ ?_|refine LeO.bind ?_ (fun _=> ?_)
  ·intro y0 y1 y2 y3 y4 y5
   unfold zQ.l1
   repeat' first
   | with_reducible first|exact ih0 _ _ _ _ _|exact ih1 _ _ _ _ _ _|exact zh.mono _ _ _|exact LeO.refl _|exact LeO.none _|refine LeO.ite ?_ ?_|refine LeO.bind ?_ (fun _=> ?_)
theorem zQ.mono:∀a0 a1 a2 k,LeO (zQ.f k a0 a1 a2) (zQ.f (k + 1) a0 a1 a2):=by
 intro a0 a1 a2 k;obtain ⟨ih0,ih1⟩:=zQ.mono_l k
 unfold zQ.f
 repeat' first
   | with_reducible first|exact ih0 _ _ _ _ _|exact ih1 _ _ _ _ _ _|exact zh.mono _ _ _|exact LeO.refl _|exact LeO.none _|refine LeO.ite ?_ ?_|refine LeO.bind ?_ (fun _=> ?_)
def zQ.T8:Bool × List (List Nat × List Nat):=(true,[([],[]),([],[]),([],[]),([1,2],[1,2]),([3],[3]),([],[]),([],[]),([5,6],[5,6]),([7],[7]),([],[]),([4,8,9],[4,8,9]),([0,10,10],[0,10]),([11,11,0,1,2,3,4,5,6,7,8,9,10,11],[0,11])])
def zQ.B8:List Nat:= [0,0,0,6,14,0,0,96,224,0,1022,2047,4095]
theorem zQ.tab8:rtab .any (qJ Tryz.f23 8)=zQ.T8:=by kernel_rfl
theorem zQ.bits8:ZP zQ.T8.2 zQ.B8=true:=by kernel_rfl
theorem zQ.calls (k:Nat) (A0:Option Addr) (c0:Nat) (l0:List ByteArray) (A1:Option Addr) (c1:Nat) (l1:List ByteArray) (a2:Int) (r:List ByteArray) (w:World) (hr0:Kd.C Kd.string w A0 l0.length l0) (hc0:l0.length≤c0) (hr1:Kd.C Kd.string w A1 l1.length l1) (hc1:l1.length≤c1) (h:zQ.f k l0 l1 a2=some r) :
  Calls Tryz.prog 23 #[.slice A0 l0.length c0, .slice A1 l1.length c1, .int .i64 a2] w fun e w'=>∃v0_:Value,e= .returned (v0_)∧Kd.R Kd.string 9 w' w.heap.size (fun _=>True) v0_ r∧Below w.heap.size w w':=by
 have HR0:=zA.mk hr0;have HC0:=zA.mk hc0;clear hr0 hc0;have HR1:=zA.mk hr1;have HC1:=zA.mk hc1;clear hr1 hc1;have HB:=zA.mk (Below.refl w.heap.size w);have H:(zQ.l0 k l0 l1 a2 (([]:List ByteArray)) 0)=some r:=h;clear h;obtain ⟨y330,hy330⟩:∃y_:List ByteArray,y_=(([]:List ByteArray)):=⟨_,rfl⟩;replace H:(zQ.l0 k l0 l1 a2 y330 0)=some r:=Qb hy330 H;have Ny330:=zA.mk hy330;clear hy330;have H':=zA.mk H;clear H
 go_enter Tryz.func23,Tryz.ntmps23
 go_wp2_with (first|((with_reducible refine zw (N:=10) rfl ?_);refine Kd.R_lit Kd.string _ 9 (by rfl) (N:=10) (by rfl) (xs:=([]:List ByteArray)) (inner:= []) (ok:=fun _=>True) (okp:=fun _=>True) Qm ?hp (fun _ hk=>hk) trivial (Below.refl _ _) (Nat.le_refl _) (by simp) ?_;(case hp=>exact (Reps.none _ _));intro v331 w4 ho5 hb hg_ hnew_;clear hg_ hnew_;(first|rw [←Ny330.out] at ho5|(simp only [Int.reduceToNat] at ho5;rw [←Ny330.out] at ho5));have n0_:=zA.mk (Kd.R_lower ho5 (zD Qc));have n1_:=zA.mk (zF Qc hb);clear HB;have HO332:=n0_;have HB:=n1_;clear n0_ n1_ hb ho5))
 go_loopg [7,8] k (fun kq v7 v8 w'=>∃(x7_1:List ByteArray) (x8_1:Int),v8= .int .i64 x8_1∧zA (zQ.l0 kq l0 l1 a2 x7_1 x8_1=some r)∧zA (kq≤k)∧zA (Kd.R Kd.string 9 w' w.heap.size (fun _=>True) v7 x7_1)∧zA (Below w.heap.size w w'))
 case atStart=>exact ⟨(y330),(0),Zk,H',⟨Nat.le_refl _⟩,⟨Qh HO332⟩,⟨by repeat (first|(with_reducible first|exact HB.out|apply zE|apply zC|apply zG)|exact HB.out)⟩⟩
 case round=>
  clear H';(try clear c1);(try clear c2);(try clear p2);obtain ⟨x7_1,x8_1,rfl,HA,HK1,HO_7,HB⟩:=hrel;cases gk with
  | zero=>exact absurd HA.out (by simp [zQ.l0])
  | succ k1=>
   have H:=HA.out;clear HA;simp only [zQ.l0] at H
   by_cases c6:x8_1 < (l0.length:Int)
   ·rw [if_pos c6] at H
    have c6b0:=decide_eq_true c6;clear c6;have H':=zA.mk H;clear H
    go_wp2
    go_loopg [7,9] k1 (fun kq v7 v9 w'=>∃(x7_2:List ByteArray) (x9_2:Int),v9= .int .i64 x9_2∧zA (zQ.l1 kq l0 l1 a2 x7_2 x8_1 x9_2=some r)∧zA (kq≤k1)∧zA (Kd.R Kd.string 9 w' w.heap.size (fun _=>True) v7 x7_2)∧zA (Below w.heap.size w w'))
    case atStart=>exact ⟨(x7_1),(0),Zk,H',⟨Nat.le_refl _⟩,⟨Qh HO_7⟩,⟨by repeat (first|(with_reducible first|exact HB.out|apply zE|apply zC|apply zG)|exact HB.out)⟩⟩
    case round=>
     clear H';(try clear c1);(try clear c2);(try clear p2);(try clear c6);(try clear c6b0);(try clear p2);obtain ⟨x7_2,x9_2,rfl,HA,HK2,HO_7,HB⟩:=hrel;cases gk with
     | zero=>exact absurd HA.out (by simp [zQ.l1])
     | succ k2=>
      have H:=HA.out;clear HA;simp only [zQ.l1] at H
      by_cases c7:x9_2 < (l1.length:Int)
      ·rw [if_pos c7] at H
       have c7b0:=decide_eq_true c7;clear c7
       by_cases c8:0≤x8_1
       ·rw [if_pos c8] at H
        have c8b0:=decide_eq_true c8;clear c8
        by_cases c9:x8_1 < (l0.length:Int)
        ·rw [if_pos c9] at H
         have c9b0:=decide_eq_true c9;clear c9
         by_cases c10:0≤x9_2
         ·rw [if_pos c10] at H
          have c10b0:=decide_eq_true c10;clear c10;replace H:=ZzB H;obtain ⟨t335,A110,H⟩:=H;replace H:((zh.f k2 x7_2 t335).bind fun t336=>(zQ.l1 k2 l0 l1 a2 t336 x8_1 (wrap64 (x9_2 + 1))))=some r:=H;have A11:=zA.mk A110;clear A110;replace H:=ZzB H;obtain ⟨t336,A120,H⟩:=H;replace H:(zQ.l1 k2 l0 l1 a2 t336 x8_1 (wrap64 (x9_2 + 1)))=some r:=H;have A12:=zA.mk A120;clear A120;have H':=zA.mk H;clear H
          try go_wp2
          have n0_:=zA.mk (Kd.R_drew HO_7.out);have n1_:=zA.mk (zG HB.out);clear HO_7 HB;have HO_7:=n0_;have HB:=n1_;clear n0_ n1_;have p333:0≤(x8_1:Int):=Qa;have q333:x8_1 < (l0.length:Int):=Qa;obtain ⟨ad333,e333,hx333_0⟩:=Kd.at_string HR0.out x8_1 p333 q333;have hw333_0:=hx333_0;cases e333;replace hx333_0:=Qp HB hx333_0;replace p333:=eq_true p333;replace q333:=eq_true q333;have p334:0≤(x9_2:Int):=Qa;have q334:x9_2 < (l1.length:Int):=Qa;obtain ⟨ad334,e334,hx334_0⟩:=Kd.at_string HR1.out x9_2 p334 q334;have hw334_0:=hx334_0;cases e334;replace hx334_0:=Qp HB hx334_0;replace p334:=eq_true p334;replace q334:=eq_true q334;refine YJ (n:=13) (S:=fun w'=>w'.cell? (ad333.add (x8_1).toNat)=some (.string (rdOf ByteArray.empty l0 x8_1))∧w'.cell? (ad334.add (x9_2).toNat)=some (.string (rdOf ByteArray.empty l1 x9_2))) (ds:= []) #[false,false,false,false,false,false,false,false,false,false,false,false,false] (by kernel_rfl) rfl rfl ⟨(Qp HB hw333_0),(Qp HB hw334_0)⟩ (fun hHeld=> ?_);refine ZG zQ.tab8 zQ.bits8 (fun HT_ HW_=> ?_)
          generalize wr.drew=w13 at HO_7 HB hx333_0 hx334_0 hHeld⊢
          refine Qq (i:=0) (N:=some 23) #[true,false,false,false,false,false,false,false,false,false,false,false,false] HT_.out ?_;refine Qq (i:=1) (N:=some 24) #[true,true,false,false,false,false,false,false,false,false,false,false,false] HT_.out ?_;refine Qq (i:=2) (N:=some 25) #[true,true,true,false,false,false,false,false,false,false,false,false,false] HT_.out ?_;refine Qq (i:=3) (N:=some 26) #[true,true,true,true,false,false,false,false,false,false,false,false,false] HT_.out ?_;refine Qq (i:=5) (N:=some 28) #[true,true,true,true,false,true,false,false,false,false,false,false,false] HT_.out ?_;refine Qq (i:=6) (N:=some 29) #[true,true,true,true,false,true,true,false,false,false,false,false,false] HT_.out ?_;refine Qq (i:=7) (N:=some 30) #[true,true,true,true,false,true,true,true,false,false,false,false,false] HT_.out ?_;refine Qq (i:=9) (N:=some 32) #[true,true,true,true,false,true,true,true,false,true,false,false,false] HT_.out ?_;refine Qt (i:=4) (N:=some 27) #[true,true,true,true,true,true,true,true,false,true,false,false,false] HT_.out HW_.out hHeld ?_;refine Qt (i:=8) (N:=some 31) #[true,true,true,true,true,true,true,true,true,true,false,false,false] HT_.out HW_.out hHeld ?_;refine one_ (i:=10) (N:=some 33) #[true,true,true,true,true,true,true,true,true,true,true,false,false] rfl rfl (yr HT_.out (by kernel_rfl)) (by decide) (fun K hK=> ?_);refine Yg Tryz.func44 (by kernel_rfl) rfl #[.string (rdOf ByteArray.empty l0 x8_1), .string (rdOf ByteArray.empty l1 x9_2), .int .i64 a2] (by rfl) rfl rfl Q8 ?_
          with_reducible refine (ZZ.calls (rdOf ByteArray.empty l0 x8_1) (rdOf ByteArray.empty l1 x9_2) a2 t335 _ A11.out).mono ?_
          rintro e w14 ⟨rfl,hb⟩;refine ⟨_,rfl,?_⟩;have n0_:=zA.mk (Kd.R_below (Qh HO_7) hb);have n1_:=zA.mk (zF Qc hb);clear HO_7 HB;have HO_7:=n0_;have HB:=n1_;clear n0_ n1_;(try clear hb);(try clear hb2);(try clear hk);(try clear hi);obtain ⟨Ao15,co15,eo15⟩:=Kd.R_slice HO_7.out
          (first|subst eo15|(injection eo15 with f1_ f2_ f3_;have f4_:=f1_.symm;have f5_:=f3_.symm;clear f1_ f2_ f3_;subst f4_;subst f5_))
          refine hK.out _ _ ⟨(Qp HB hw333_0),(Qp HB hw334_0)⟩ (fun hHeld=> ?_);clear hK K;refine yu (a':= ?_) ?_ ?_;rotate_left
          ·show Act.put _ (some 33) _=_
           simp only [Act.put,List.setIfInBounds_toArray,List.set_cons_zero,List.set_cons_succ,yl,yq]
           rfl
          refine one_ (i:=11) (N:=some 34) #[true,true,true,true,true,true,true,true,true,true,true,true,false] rfl rfl (yr HT_.out (by kernel_rfl)) (by decide) (fun K hK=> ?_);refine Yg Tryz.func43 (by kernel_rfl) rfl #[.slice Ao15 x7_2.length co15, .string t335] (by rfl) rfl rfl Q8 ?_
          with_reducible refine (zh.calls k2 _ _ x7_2 t335 t336 _ ?side1 ?side2 A12.out).mono ?_
          (case side1=>exact Qo ((Kd.R_reads' HO_7.out).2.2))
          (case side2=>exact (Kd.R_reads' HO_7.out).2.1)
          rintro e w16 ⟨v337,rfl,ho0,hb⟩;refine ⟨_,rfl,?_⟩;have n0_:=zA.mk True.intro;have n1_:=zA.mk (zh.own ho0 (Kd.R_below (Qh HO_7) hb) (zD Qc));have n2_:=zA.mk (zF Qc hb);clear HO_7 HB;have HO_7:=n0_;have HO338:=n1_;have HB:=n2_;clear n0_ n1_ n2_;(try clear hb ho0);refine hK.out _ _ ⟨(Qp HB hw333_0),(Qp HB hw334_0)⟩ (fun hHeld=> ?_);clear hK K;refine yu (a':= ?_) ?_ ?_;rotate_left
          ·show Act.put _ (some 34) _=_
           simp only [Act.put,List.setIfInBounds_toArray,List.set_cons_zero,List.set_cons_succ,yl,yq]
           rfl
          refine Qq (i:=12) (N:=some 7) #[true,true,true,true,true,true,true,true,true,true,true,true,true] HT_.out ?_;refine YS (Zq HT_.out (by kernel_rfl)) ?_
          try go_wp2
          go_roundg k2
          case measure=>have:=HK1.out;have:=HK2.out;omega
          case rel=>exact ⟨(t336),(wrap64 (x9_2 + 1)),Zk,H',⟨by have:=HK1.out;have:=HK2.out;omega⟩,⟨by (with_reducible repeat (first|apply Kd.R_alloc|apply Kd.R_drewN|apply Kd.R_drew));exact Kd.R_mono HO338.out (fun _ hk=>trivial)⟩,⟨by repeat (first|(with_reducible first|exact HB.out|apply zE|apply zC|apply zG)|exact HB.out)⟩⟩
         ·rw [if_neg c10] at H
          exact absurd H (by simp)
        ·rw [if_neg c9] at H
         exact absurd H (by simp)
       ·rw [if_neg c8] at H
        exact absurd H (by simp)
      ·rw [if_neg c7] at H
       have c7b0:=decide_eq_false c7;clear c7;have H':=zA.mk H;clear H
       go_wp2
       go_roundg k2
       case measure=>have:=HK1.out;have:=HK2.out;omega
       case rel=>exact ⟨(x7_2),(wrap64 (x8_1 + 1)),Zk,H',⟨by have:=HK1.out;have:=HK2.out;omega⟩,⟨Qh HO_7⟩,⟨by repeat (first|(with_reducible first|exact HB.out|apply zE|apply zC|apply zG)|exact HB.out)⟩⟩
   ·rw [if_neg c6] at H
    have c6b0:=decide_eq_false c6;clear c6;obtain rfl:=Option.some.inj H
    go_wp2
    go_ret
    exact ⟨_,by first|rfl|(simp [zR,zS] <;> rfl)|(simp [*,zR,zS] <;> rfl),by (with_reducible repeat (first|apply Kd.R_alloc|apply Kd.R_drewN|apply Kd.R_drew));exact HO_7.out,by repeat (first|(with_reducible first|exact HB.out|apply zE|apply zC|apply zG)|exact HB.out)⟩
def zf.l0:Nat→List (S70)→Int→List (List ByteArray)→Int→List ByteArray→Int→Option (List ByteArray × Bool)
 | 0,_,_,_,_,_,_=>none
 | k + 1,x0,x1,x2,x3,x10,x11=>if x11 < (x0.length:Int) then (if 0≤x11 then (if (zg x0 x11).f0=true then ((zQ.f k x10 (([strOfNums (([((zg x0 x11).f1) % 256]:List Int))]:List ByteArray)) x1).bind fun t350=>(if (t350.length:Int) > x3 then (some (([]:List ByteArray),false)) else (zf.l0 k x0 x1 x2 x3 t350 (wrap64 (x11 + 1))))) else (if 0≤((zg x0 x11).f1) then (if ((zg x0 x11).f1) < (x2.length:Int) then ((zQ.f k x10 (zk x2 ((zg x0 x11).f1)) x1).bind fun t355=>(if (t355.length:Int) > x3 then (some (([]:List ByteArray),false)) else (zf.l0 k x0 x1 x2 x3 t355 (wrap64 (x11 + 1))))) else (none)) else (none))) else (none)) else (some (x10,true))
def zf.f (k:Nat) (l0:List (S70)) (a1:Int) (l2:List (List ByteArray)) (a3:Int):Option (List ByteArray × Bool):=zf.l0 k l0 a1 l2 a3 (([(⟨#[]⟩:ByteArray)]:List ByteArray)) 0
theorem zf.mono_l:∀k,(∀y0 y1 y2 y3 y4 y5,LeO (zf.l0 k y0 y1 y2 y3 y4 y5) (zf.l0 (k + 1) y0 y1 y2 y3 y4 y5))
 | 0=>fun _ _ _ _ _ _ r h=>by simp [zf.l0] at h
 | k + 1=>by
  have ih0:=zf.mono_l k
  ·intro y0 y1 y2 y3 y4 y5
   unfold zf.l0
   repeat' first
   | with_reducible first|exact ih0 _ _ _ _ _ _|exact zQ.mono _ _ _ _|exact LeO.refl _|exact LeO.none _|refine LeO.ite ?_ ?_|refine LeO.bind ?_ (fun _=> ?_)
theorem zf.mono:∀a0 a1 a2 a3 k,LeO (zf.f k a0 a1 a2 a3) (zf.f (k + 1) a0 a1 a2 a3):=by
 intro a0 a1 a2 a3 k;have ih0:=zf.mono_l k
 unfold zf.f
 repeat' first
   | with_reducible first|exact ih0 _ _ _ _ _ _|exact zQ.mono _ _ _ _|exact LeO.refl _|exact LeO.none _|refine LeO.ite ?_ ?_|refine LeO.bind ?_ (fun _=> ?_)
theorem zf.calls (k:Nat) (A0:Option Addr) (c0:Nat) (l0:List (S70)) (a1:Int) (A2:Option Addr) (c2:Nat) (l2:List (List ByteArray)) (a3:Int) (r1:List ByteArray) (r2:Bool) (w:World) (hr0:Kd.C k70 w A0 l0.length l0) (hc0:l0.length≤c0) (hr2:Kd.C (Kd.slice 9 Kd.string) w A2 l2.length l2) (hc2:l2.length≤c2) (h:zf.f k l0 a1 l2 a3=some (r1,r2)) :
  Calls Tryz.prog 22 #[.slice A0 l0.length c0, .int .i64 a1, .slice A2 l2.length c2, .int .i64 a3] w fun e w'=>∃v0_:Value,e= .returned (.tuple #[v0_, .bool r2])∧Kd.R Kd.string 9 w' w.heap.size (fun _=>True) v0_ r1∧Below w.heap.size w w':=by
 have HR0:=zA.mk hr0;have HC0:=zA.mk hc0;clear hr0 hc0;have HR2:=zA.mk hr2;have HC2:=zA.mk hc2;clear hr2 hc2;have HB:=zA.mk (Below.refl w.heap.size w);have H:(zf.l0 k l0 a1 l2 a3 (([(⟨#[]⟩:ByteArray)]:List ByteArray)) 0)=some (r1,r2):=h;clear h;obtain ⟨y339,hy339⟩:∃y_:List ByteArray,y_=(([(⟨#[]⟩:ByteArray)]:List ByteArray)):=⟨_,rfl⟩;replace H:(zf.l0 k l0 a1 l2 a3 y339 0)=some (r1,r2):=Qb hy339 H;have Ny339:=zA.mk hy339;clear hy339;have H':=zA.mk H;clear H
 go_enter Tryz.func22,Tryz.ntmps22
 go_wp2_with (first|((with_reducible refine zw (N:=13) rfl ?_);refine Kd.R_lit Kd.string _ 9 (by rfl) (N:=13) (by rfl) (xs:=([(⟨#[]⟩:ByteArray)]:List ByteArray)) (inner:= [.string (⟨#[]⟩:ByteArray)]) (ok:=fun _=>True) (okp:=fun _=>True) Qm ?hp (fun _ hk=>hk) trivial (Below.refl _ _) (Nat.le_refl _) (by simp) ?_;(case hp=>exact (Reps.one (show Kd.M Kd.string _ _ _ (⟨#[]⟩:ByteArray) [.string (⟨#[]⟩:ByteArray)] from rfl) (Reps.none _ _)));intro v340 w5 ho6 hb hg_ hnew_;clear hg_ hnew_;(first|rw [←Ny339.out] at ho6|(simp only [Int.reduceToNat] at ho6;rw [←Ny339.out] at ho6));have n0_:=zA.mk (Kd.R_lower ho6 (zD Qc));have n1_:=zA.mk (zF Qc hb);clear HB;have HO341:=n0_;have HB:=n1_;clear n0_ n1_ hb ho6))
 go_loopg [10,11] k (fun kq v10 v11 w'=>∃(x10_1:List ByteArray) (x11_1:Int),v11= .int .i64 x11_1∧zA (zf.l0 kq l0 a1 l2 a3 x10_1 x11_1=some (r1,r2))∧zA (kq≤k)∧zA (Kd.R Kd.string 9 w' w.heap.size (fun _=>True) v10 x10_1)∧zA (Below w.heap.size w w'))
 case atStart=>exact ⟨(y339),(0),Zk,H',⟨Nat.le_refl _⟩,⟨Qh HO341⟩,⟨by repeat (first|(with_reducible first|exact HB.out|apply zE|apply zC|apply zG)|exact HB.out)⟩⟩
 case round=>
  clear H';(try clear c2);(try clear p2);obtain ⟨x10_1,x11_1,rfl,HA,HK1,vT,HB⟩:=hrel;cases gk with
  | zero=>exact absurd HA.out (by simp [zf.l0])
  | succ k1=>
   have H:=HA.out;clear HA;simp only [zf.l0] at H
   by_cases c7:x11_1 < (l0.length:Int)
   ·rw [if_pos c7] at H
    have c7b0:=decide_eq_true c7;clear c7
    by_cases c8:0≤x11_1
    ·rw [if_pos c8] at H
     have c8b0:=decide_eq_true c8;clear c8;obtain ⟨wS,hy343⟩:∃y_:List Int,y_=(([((zg l0 x11_1).f1) % 256]:List Int)):=⟨_,rfl⟩;replace H:(if (zg l0 x11_1).f0=true then ((zQ.f k1 x10_1 (([strOfNums wS]:List ByteArray)) a1).bind fun t350=>(if (t350.length:Int) > a3 then (some (([]:List ByteArray),false)) else (zf.l0 k1 l0 a1 l2 a3 t350 (wrap64 (x11_1 + 1))))) else (if 0≤((zg l0 x11_1).f1) then (if ((zg l0 x11_1).f1) < (l2.length:Int) then ((zQ.f k1 x10_1 (zk l2 ((zg l0 x11_1).f1)) a1).bind fun t355=>(if (t355.length:Int) > a3 then (some (([]:List ByteArray),false)) else (zf.l0 k1 l0 a1 l2 a3 t355 (wrap64 (x11_1 + 1))))) else (none)) else (none)))=some (r1,r2):=Qb hy343 H;have Ny343:=zA.mk hy343;clear hy343;obtain ⟨y346,hy346⟩:∃y_:List ByteArray,y_=(([strOfNums wS]:List ByteArray)):=⟨_,rfl⟩;replace H:(if (zg l0 x11_1).f0=true then ((zQ.f k1 x10_1 y346 a1).bind fun t350=>(if (t350.length:Int) > a3 then (some (([]:List ByteArray),false)) else (zf.l0 k1 l0 a1 l2 a3 t350 (wrap64 (x11_1 + 1))))) else (if 0≤((zg l0 x11_1).f1) then (if ((zg l0 x11_1).f1) < (l2.length:Int) then ((zQ.f k1 x10_1 (zk l2 ((zg l0 x11_1).f1)) a1).bind fun t355=>(if (t355.length:Int) > a3 then (some (([]:List ByteArray),false)) else (zf.l0 k1 l0 a1 l2 a3 t355 (wrap64 (x11_1 + 1))))) else (none)) else (none)))=some (r1,r2):=Qb hy346 H;have Ny346:=zA.mk hy346;clear hy346;obtain ⟨bq9,hbq9⟩:∃b_:Bool,b_=((zg l0 x11_1).f0):=⟨_,rfl⟩
     replace H:(if bq9=true then ((zQ.f k1 x10_1 y346 a1).bind fun t350=>(if (t350.length:Int) > a3 then (some (([]:List ByteArray),false)) else (zf.l0 k1 l0 a1 l2 a3 t350 (wrap64 (x11_1 + 1))))) else (if 0≤((zg l0 x11_1).f1) then (if ((zg l0 x11_1).f1) < (l2.length:Int) then ((zQ.f k1 x10_1 (zk l2 ((zg l0 x11_1).f1)) a1).bind fun t355=>(if (t355.length:Int) > a3 then (some (([]:List ByteArray),false)) else (zf.l0 k1 l0 a1 l2 a3 t355 (wrap64 (x11_1 + 1))))) else (none)) else (none)))=some (r1,r2):=by rw [←hbq9] at H;exact H
     have Nbq9:=zA.mk hbq9;clear hbq9
     by_cases c10:bq9=true
     ·subst c10
      have H1:((zQ.f k1 x10_1 y346 a1).bind fun t350=>(if (t350.length:Int) > a3 then (some (([]:List ByteArray),false)) else (zf.l0 k1 l0 a1 l2 a3 t350 (wrap64 (x11_1 + 1)))))=some (r1,r2):=by rw [if_pos rfl] at H;exact H
      clear H;have H:=H1;clear H1;replace H:=ZzB H;obtain ⟨t350,A110,H⟩:=H;replace H:(if (t350.length:Int) > a3 then (some (([]:List ByteArray),false)) else (zf.l0 k1 l0 a1 l2 a3 t350 (wrap64 (x11_1 + 1))))=some (r1,r2):=H;have A11:=zA.mk A110;clear A110
      by_cases c12:(t350.length:Int) > a3
      ·rw [if_pos c12] at H
       have c12b0:=decide_eq_true c12;clear c12;simp only [Option.some.injEq,Prod.mk.injEq] at H;obtain ⟨rfl,rfl⟩:=H;have p342:0≤(x11_1:Int):=Qa;have q342:x11_1 < (l0.length:Int):=Qa;obtain ⟨ad342,e342,hx342_0,hx342_1⟩:=ZQ HR0.out x11_1 p342 q342
       (try rw [←Nbq9.out] at hx342_0)
       cases e342;replace hx342_0:=Qp HB hx342_0;replace hx342_1:=Qp HB hx342_1;replace p342:=eq_true p342;replace q342:=eq_true q342
       go_wp2_with (first|((with_reducible refine zw (N:=26) rfl ?_);refine Kd.R_lit (Kd.int .u8) _ 5 (by rfl) (N:=26) (by rfl) (xs:=([((zg l0 x11_1).f1) % 256]:List Int)) (inner:= [.int .u8 (((zg l0 x11_1).f1) % 256)]) (ok:=fun _=>True) (okp:=fun _=>True) Qm ?hp (fun _ hk=>hk) trivial (Below.refl _ _) (Nat.le_refl _) (by simp) ?_;(case hp=>exact (Reps.one (show Kd.M (Kd.int .u8) _ _ _ (((zg l0 x11_1).f1) % 256) [.int .u8 (((zg l0 x11_1).f1) % 256)] from rfl) (Reps.none _ _)));intro v344 w13 ho14 hb hg_ hnew_;clear hg_ hnew_;(first|rw [←Ny343.out] at ho14|(simp only [Int.reduceToNat] at ho14;rw [←Ny343.out] at ho14));have n0_:=zA.mk (Kd.R_below (Qh vT) hb);have n1_:=zA.mk (Kd.R_lower ho14 (zD Qc));have n2_:=zA.mk (zF Qc hb);clear vT HB;have vT:=n0_;have HO345:=n1_;have HB:=n2_;clear n0_ n1_ n2_ hb ho14;have hcv15:=Zp (P:=Tryz.prog) Tryz.underlying72 Tryz.underlying5 Tryz.underlying9 (Kd.own_of_R HO345.out))|((with_reducible refine zw (N:=28) rfl ?_);refine Kd.R_lit Kd.string _ 9 (by rfl) (N:=28) (by rfl) (xs:=([strOfNums wS]:List ByteArray)) (inner:= [.string (strOfNums wS)]) (ok:=fun _=>True) (okp:=fun _=>True) Qm ?hp (fun _ hk=>hk) trivial (Below.refl _ _) (Nat.le_refl _) (by simp) ?_;(case hp=>exact (Reps.one (show Kd.M Kd.string _ _ _ (strOfNums wS) [.string (strOfNums wS)] from rfl) (Reps.none _ _)));intro v347 w16 ho17 hb hg_ hnew_;clear hg_ hnew_;(first|rw [←Ny346.out] at ho17|(simp only [Int.reduceToNat] at ho17;rw [←Ny346.out] at ho17));have n0_:=zA.mk (Kd.R_elder' (Qh vT) (Kd.R_base ho17) hb);have n2_:=zA.mk (Kd.R_lower (Kd.R_new' ho17 (Kd.R_lt (Qh vT))) (zD Qc));have n3_:=zA.mk (zF Qc hb);clear vT HB;have vT:=n0_;have HO348:=n2_;have HB:=n3_;clear n0_ n2_ n3_ hb ho17;have p349:0≤(x11_1:Int):=Qa;have q349:x11_1 < (l0.length:Int):=Qa;obtain ⟨ad349,e349,hx349_0,hx349_1⟩:=ZQ HR0.out x11_1 p349 q349;(try rw [←Nbq9.out] at hx349_0);obtain rfl:ad342=ad349:=(by injection e349);replace hx349_0:=Qp HB hx349_0;replace hx349_1:=Qp HB hx349_1;replace p349:=eq_true p349;replace q349:=eq_true q349;obtain ⟨Ao18,co18,eo18⟩:=Kd.R_slice vT.out;subst eo18;obtain ⟨Ao19,co19,eo19⟩:=Kd.R_slice HO348.out;subst eo19)|((with_reducible refine zj (f:=23) rfl ?_);refine yS (some 46) rfl rfl Tryz.func23 (by kernel_rfl) rfl #[.slice Ao18 x10_1.length co18, .slice Ao19 y346.length co19, .int .i64 a1] rfl Q8 ?_;(with_reducible refine (zQ.calls k1 _ _ x10_1 _ _ y346 a1 t350 _ ?side1 ?side2 ?side3 ?side4 A11.out).mono ?_);(case side1=>exact Qo ((Kd.R_reads' vT.out).2.2));(case side2=>exact (Kd.R_reads' vT.out).2.1);(case side3=>exact Qo ((Kd.R_reads' HO348.out).2.2));(case side4=>exact (Kd.R_reads' HO348.out).2.1);rintro e w20 ⟨v351,rfl,ho0,hb⟩;refine ⟨_,rfl,?_⟩;have n3_:=zA.mk (Kd.R_lower (yv (yv ho0)) (zD Qc));have n4_:=zA.mk (zF Qc hb);clear HB;have HO352:=n3_;have HB:=n4_;clear n3_ n4_;(try clear hb ho0);obtain ⟨Ao21,co21,eo21⟩:=Kd.R_slice HO352.out;subst eo21))
       go_ret2
       exact ⟨_,by first|rfl|(simp [zR,zS] <;> rfl)|(simp [*,zR,zS] <;> rfl),by first|exact Kd.R_nil _ _ _ _ _|exact Kd.N_nil _ _ _ _ _|exact Kd.V_nil _ _ _ _ _|exact Kd.Q_nil _ _ _ _ _|exact Kd.S_nil _ _ _ _ _,by repeat (first|(with_reducible first|exact HB.out|apply zE|apply zC|apply zG)|exact HB.out)⟩
      ·rw [if_neg c12] at H
       have c12b0:=decide_eq_false c12;clear c12;have H':=zA.mk H;clear H;have p342:0≤(x11_1:Int):=Qa;have q342:x11_1 < (l0.length:Int):=Qa;obtain ⟨ad342,e342,hx342_0,hx342_1⟩:=ZQ HR0.out x11_1 p342 q342
       (try rw [←Nbq9.out] at hx342_0)
       cases e342;replace hx342_0:=Qp HB hx342_0;replace hx342_1:=Qp HB hx342_1;replace p342:=eq_true p342;replace q342:=eq_true q342
       go_wp2_with (first|((with_reducible refine zw (N:=26) rfl ?_);refine Kd.R_lit (Kd.int .u8) _ 5 (by rfl) (N:=26) (by rfl) (xs:=([((zg l0 x11_1).f1) % 256]:List Int)) (inner:= [.int .u8 (((zg l0 x11_1).f1) % 256)]) (ok:=fun _=>True) (okp:=fun _=>True) Qm ?hp (fun _ hk=>hk) trivial (Below.refl _ _) (Nat.le_refl _) (by simp) ?_;(case hp=>exact (Reps.one (show Kd.M (Kd.int .u8) _ _ _ (((zg l0 x11_1).f1) % 256) [.int .u8 (((zg l0 x11_1).f1) % 256)] from rfl) (Reps.none _ _)));intro v344 w22 ho23 hb hg_ hnew_;clear hg_ hnew_;(first|rw [←Ny343.out] at ho23|(simp only [Int.reduceToNat] at ho23;rw [←Ny343.out] at ho23));have n0_:=zA.mk (Kd.R_below (Qh vT) hb);have n1_:=zA.mk (Kd.R_lower ho23 (zD Qc));have n2_:=zA.mk (zF Qc hb);clear vT HB;have vT:=n0_;have HO345:=n1_;have HB:=n2_;clear n0_ n1_ n2_ hb ho23;have hcv24:=Zp (P:=Tryz.prog) Tryz.underlying72 Tryz.underlying5 Tryz.underlying9 (Kd.own_of_R HO345.out))|((with_reducible refine zw (N:=28) rfl ?_);refine Kd.R_lit Kd.string _ 9 (by rfl) (N:=28) (by rfl) (xs:=([strOfNums wS]:List ByteArray)) (inner:= [.string (strOfNums wS)]) (ok:=fun _=>True) (okp:=fun _=>True) Qm ?hp (fun _ hk=>hk) trivial (Below.refl _ _) (Nat.le_refl _) (by simp) ?_;(case hp=>exact (Reps.one (show Kd.M Kd.string _ _ _ (strOfNums wS) [.string (strOfNums wS)] from rfl) (Reps.none _ _)));intro v347 w25 ho26 hb hg_ hnew_;clear hg_ hnew_;(first|rw [←Ny346.out] at ho26|(simp only [Int.reduceToNat] at ho26;rw [←Ny346.out] at ho26));have n0_:=zA.mk (Kd.R_elder' (Qh vT) (Kd.R_base ho26) hb);have n2_:=zA.mk (Kd.R_lower (Kd.R_new' ho26 (Kd.R_lt (Qh vT))) (zD Qc));have n3_:=zA.mk (zF Qc hb);clear vT HB;have vT:=n0_;have HO348:=n2_;have HB:=n3_;clear n0_ n2_ n3_ hb ho26;have p349:0≤(x11_1:Int):=Qa;have q349:x11_1 < (l0.length:Int):=Qa;obtain ⟨ad349,e349,hx349_0,hx349_1⟩:=ZQ HR0.out x11_1 p349 q349;(try rw [←Nbq9.out] at hx349_0);obtain rfl:ad342=ad349:=(by injection e349);replace hx349_0:=Qp HB hx349_0;replace hx349_1:=Qp HB hx349_1;replace p349:=eq_true p349;replace q349:=eq_true q349;obtain ⟨Ao27,co27,eo27⟩:=Kd.R_slice vT.out;subst eo27;obtain ⟨Ao28,co28,eo28⟩:=Kd.R_slice HO348.out;subst eo28)|((with_reducible refine zj (f:=23) rfl ?_);refine yS (some 46) rfl rfl Tryz.func23 (by kernel_rfl) rfl #[.slice Ao27 x10_1.length co27, .slice Ao28 y346.length co28, .int .i64 a1] rfl Q8 ?_;(with_reducible refine (zQ.calls k1 _ _ x10_1 _ _ y346 a1 t350 _ ?side1 ?side2 ?side3 ?side4 A11.out).mono ?_);(case side1=>exact Qo ((Kd.R_reads' vT.out).2.2));(case side2=>exact (Kd.R_reads' vT.out).2.1);(case side3=>exact Qo ((Kd.R_reads' HO348.out).2.2));(case side4=>exact (Kd.R_reads' HO348.out).2.1);rintro e w29 ⟨v351,rfl,ho0,hb⟩;refine ⟨_,rfl,?_⟩;have n3_:=zA.mk (Kd.R_lower (yv (yv ho0)) (zD Qc));have n4_:=zA.mk (zF Qc hb);clear HB;have HO352:=n3_;have HB:=n4_;clear n3_ n4_;(try clear hb ho0);obtain ⟨Ao30,co30,eo30⟩:=Kd.R_slice HO352.out;subst eo30))
       go_roundg k1
       case measure=>have:=HK1.out;omega
       case rel=>exact ⟨(t350),(wrap64 (x11_1 + 1)),Zk,H',⟨by have:=HK1.out;omega⟩,⟨by (with_reducible repeat (first|apply Kd.R_alloc|apply Kd.R_drewN|apply Kd.R_drew));exact Kd.R_mono HO352.out (fun _ hk=>trivial)⟩,⟨by repeat (first|(with_reducible first|exact HB.out|apply zE|apply zC|apply zG)|exact HB.out)⟩⟩
     ·replace c10:=Bool.eq_false_iff.mpr c10
      subst c10
      have H1:(if 0≤((zg l0 x11_1).f1) then (if ((zg l0 x11_1).f1) < (l2.length:Int) then ((zQ.f k1 x10_1 (zk l2 ((zg l0 x11_1).f1)) a1).bind fun t355=>(if (t355.length:Int) > a3 then (some (([]:List ByteArray),false)) else (zf.l0 k1 l0 a1 l2 a3 t355 (wrap64 (x11_1 + 1))))) else (none)) else (none))=some (r1,r2):=by rw [if_neg (show ¬(false=true) by decide)] at H;exact H
      clear H;have H:=H1;clear H1
      by_cases c31:0≤((zg l0 x11_1).f1)
      ·rw [if_pos c31] at H
       have c31b0:=decide_eq_true c31;clear c31
       by_cases c32:((zg l0 x11_1).f1) < (l2.length:Int)
       ·rw [if_pos c32] at H
        have c32b0:=decide_eq_true c32;clear c32;replace H:=ZzB H;obtain ⟨t355,A330,H⟩:=H;replace H:(if (t355.length:Int) > a3 then (some (([]:List ByteArray),false)) else (zf.l0 k1 l0 a1 l2 a3 t355 (wrap64 (x11_1 + 1))))=some (r1,r2):=H;have A33:=zA.mk A330;clear A330
        by_cases c34:(t355.length:Int) > a3
        ·rw [if_pos c34] at H
         have c34b0:=decide_eq_true c34;clear c34;simp only [Option.some.injEq,Prod.mk.injEq] at H;obtain ⟨rfl,rfl⟩:=H;have p342:0≤(x11_1:Int):=Qa;have q342:x11_1 < (l0.length:Int):=Qa;obtain ⟨ad342,e342,hx342_0,hx342_1⟩:=ZQ HR0.out x11_1 p342 q342
         (try rw [←Nbq9.out] at hx342_0)
         cases e342;replace hx342_0:=Qp HB hx342_0;replace hx342_1:=Qp HB hx342_1;replace p342:=eq_true p342;replace q342:=eq_true q342
         go_wp2_with (first|((with_reducible refine zw (N:=26) rfl ?_);refine Kd.R_lit (Kd.int .u8) _ 5 (by rfl) (N:=26) (by rfl) (xs:=([((zg l0 x11_1).f1) % 256]:List Int)) (inner:= [.int .u8 (((zg l0 x11_1).f1) % 256)]) (ok:=fun _=>True) (okp:=fun _=>True) Qm ?hp (fun _ hk=>hk) trivial (Below.refl _ _) (Nat.le_refl _) (by simp) ?_;(case hp=>exact (Reps.one (show Kd.M (Kd.int .u8) _ _ _ (((zg l0 x11_1).f1) % 256) [.int .u8 (((zg l0 x11_1).f1) % 256)] from rfl) (Reps.none _ _)));intro v344 w35 ho36 hb hg_ hnew_;clear hg_ hnew_;(first|rw [←Ny343.out] at ho36|(simp only [Int.reduceToNat] at ho36;rw [←Ny343.out] at ho36));have n0_:=zA.mk (Kd.R_below (Qh vT) hb);have n1_:=zA.mk (Kd.R_lower ho36 (zD Qc));have n2_:=zA.mk (zF Qc hb);clear vT HB;have vT:=n0_;have HO345:=n1_;have HB:=n2_;clear n0_ n1_ n2_ hb ho36;have hcv37:=Zp (P:=Tryz.prog) Tryz.underlying72 Tryz.underlying5 Tryz.underlying9 (Kd.own_of_R HO345.out))|((with_reducible refine zw (N:=28) rfl ?_);refine Kd.R_lit Kd.string _ 9 (by rfl) (N:=28) (by rfl) (xs:=([strOfNums wS]:List ByteArray)) (inner:= [.string (strOfNums wS)]) (ok:=fun _=>True) (okp:=fun _=>True) Qm ?hp (fun _ hk=>hk) trivial (Below.refl _ _) (Nat.le_refl _) (by simp) ?_;(case hp=>exact (Reps.one (show Kd.M Kd.string _ _ _ (strOfNums wS) [.string (strOfNums wS)] from rfl) (Reps.none _ _)));intro v347 w38 ho39 hb hg_ hnew_;clear hg_ hnew_;(first|rw [←Ny346.out] at ho39|(simp only [Int.reduceToNat] at ho39;rw [←Ny346.out] at ho39));have n0_:=zA.mk (Kd.R_elder' (Qh vT) (Kd.R_base ho39) hb);have n3_:=zA.mk (zF Qc hb);clear vT HB;have vT:=n0_;have HB:=n3_;clear n0_ n3_ hb ho39;have p349:0≤(x11_1:Int):=Qa;have q349:x11_1 < (l0.length:Int):=Qa;obtain ⟨ad349,e349,hx349_0,hx349_1⟩:=ZQ HR0.out x11_1 p349 q349;(try rw [←Nbq9.out] at hx349_0);obtain rfl:ad342=ad349:=(by injection e349);replace hx349_0:=Qp HB hx349_0;replace hx349_1:=Qp HB hx349_1;replace p349:=eq_true p349;replace q349:=eq_true q349;have p353:0≤(x11_1:Int):=Qa;have q353:x11_1 < (l0.length:Int):=Qa;obtain ⟨ad353,e353,hx353_0,hx353_1⟩:=ZQ HR0.out x11_1 p353 q353;(try rw [←Nbq9.out] at hx353_0);obtain rfl:ad342=ad353:=(by injection e353);replace hx353_0:=Qp HB hx353_0;replace hx353_1:=Qp HB hx353_1;replace p353:=eq_true p353;replace q353:=eq_true q353;have p354:0≤(((zg l0 x11_1).f1):Int):=Qa;have q354:((zg l0 x11_1).f1) < (l2.length:Int):=Qa;obtain ⟨ad354,A354_0,c354_0,e354,hx354_0,hl354_0,hi354_0⟩:=ZY HR2.out ((zg l0 x11_1).f1) p354 q354;cases e354;replace hx354_0:=Qp HB hx354_0;have HR354_0:=zA.mk hi354_0;have HC354_0:=zA.mk hl354_0;clear hi354_0 hl354_0;replace p354:=eq_true p354;replace q354:=eq_true q354;obtain ⟨Ao40,co40,eo40⟩:=Kd.R_slice vT.out;subst eo40)|((with_reducible refine zj (f:=23) rfl ?_);refine yS (some 46) rfl rfl Tryz.func23 (by kernel_rfl) rfl #[.slice Ao40 x10_1.length co40, .slice A354_0 (zk l2 ((zg l0 x11_1).f1)).length c354_0, .int .i64 a1] rfl Q8 ?_;(with_reducible refine (zQ.calls k1 _ _ x10_1 _ _ (zk l2 ((zg l0 x11_1).f1)) a1 t355 _ ?side1 ?side2 ?side3 ?side4 A33.out).mono ?_);(case side1=>exact Qo ((Kd.R_reads' vT.out).2.2));(case side2=>exact (Kd.R_reads' vT.out).2.1);(case side3=>exact Qo (Kd.C_below HR354_0.out HB.out));(case side4=>exact HC354_0.out);rintro e w41 ⟨v356,rfl,ho0,hb⟩;refine ⟨_,rfl,?_⟩;have n3_:=zA.mk (Kd.R_lower (yv (yv ho0)) (zD Qc));have n4_:=zA.mk (zF Qc hb);clear HB;have HO357:=n3_;have HB:=n4_;clear n3_ n4_;(try clear hb ho0);obtain ⟨Ao42,co42,eo42⟩:=Kd.R_slice HO357.out;subst eo42))
         go_ret2
         exact ⟨_,by first|rfl|(simp [zR,zS] <;> rfl)|(simp [*,zR,zS] <;> rfl),by first|exact Kd.R_nil _ _ _ _ _|exact Kd.N_nil _ _ _ _ _|exact Kd.V_nil _ _ _ _ _|exact Kd.Q_nil _ _ _ _ _|exact Kd.S_nil _ _ _ _ _,by repeat (first|(with_reducible first|exact HB.out|apply zE|apply zC|apply zG)|exact HB.out)⟩
        ·rw [if_neg c34] at H
         have c34b0:=decide_eq_false c34;clear c34;have H':=zA.mk H;clear H;have p342:0≤(x11_1:Int):=Qa;have q342:x11_1 < (l0.length:Int):=Qa;obtain ⟨ad342,e342,hx342_0,hx342_1⟩:=ZQ HR0.out x11_1 p342 q342
         (try rw [←Nbq9.out] at hx342_0)
         cases e342;replace hx342_0:=Qp HB hx342_0;replace hx342_1:=Qp HB hx342_1;replace p342:=eq_true p342;replace q342:=eq_true q342
         go_wp2_with (first|((with_reducible refine zw (N:=26) rfl ?_);refine Kd.R_lit (Kd.int .u8) _ 5 (by rfl) (N:=26) (by rfl) (xs:=([((zg l0 x11_1).f1) % 256]:List Int)) (inner:= [.int .u8 (((zg l0 x11_1).f1) % 256)]) (ok:=fun _=>True) (okp:=fun _=>True) Qm ?hp (fun _ hk=>hk) trivial (Below.refl _ _) (Nat.le_refl _) (by simp) ?_;(case hp=>exact (Reps.one (show Kd.M (Kd.int .u8) _ _ _ (((zg l0 x11_1).f1) % 256) [.int .u8 (((zg l0 x11_1).f1) % 256)] from rfl) (Reps.none _ _)));intro v344 w43 ho44 hb hg_ hnew_;clear hg_ hnew_;(first|rw [←Ny343.out] at ho44|(simp only [Int.reduceToNat] at ho44;rw [←Ny343.out] at ho44));have n0_:=zA.mk (Kd.R_below (Qh vT) hb);have n1_:=zA.mk (Kd.R_lower ho44 (zD Qc));have n2_:=zA.mk (zF Qc hb);clear vT HB;have vT:=n0_;have HO345:=n1_;have HB:=n2_;clear n0_ n1_ n2_ hb ho44;have hcv45:=Zp (P:=Tryz.prog) Tryz.underlying72 Tryz.underlying5 Tryz.underlying9 (Kd.own_of_R HO345.out))|((with_reducible refine zw (N:=28) rfl ?_);refine Kd.R_lit Kd.string _ 9 (by rfl) (N:=28) (by rfl) (xs:=([strOfNums wS]:List ByteArray)) (inner:= [.string (strOfNums wS)]) (ok:=fun _=>True) (okp:=fun _=>True) Qm ?hp (fun _ hk=>hk) trivial (Below.refl _ _) (Nat.le_refl _) (by simp) ?_;(case hp=>exact (Reps.one (show Kd.M Kd.string _ _ _ (strOfNums wS) [.string (strOfNums wS)] from rfl) (Reps.none _ _)));intro v347 w46 ho47 hb hg_ hnew_;clear hg_ hnew_;(first|rw [←Ny346.out] at ho47|(simp only [Int.reduceToNat] at ho47;rw [←Ny346.out] at ho47));have n0_:=zA.mk (Kd.R_elder' (Qh vT) (Kd.R_base ho47) hb);have n3_:=zA.mk (zF Qc hb);clear vT HB;have vT:=n0_;have HB:=n3_;clear n0_ n3_ hb ho47;have p349:0≤(x11_1:Int):=Qa;have q349:x11_1 < (l0.length:Int):=Qa;obtain ⟨ad349,e349,hx349_0,hx349_1⟩:=ZQ HR0.out x11_1 p349 q349;(try rw [←Nbq9.out] at hx349_0);obtain rfl:ad342=ad349:=(by injection e349);replace hx349_0:=Qp HB hx349_0;replace hx349_1:=Qp HB hx349_1;replace p349:=eq_true p349;replace q349:=eq_true q349;have p353:0≤(x11_1:Int):=Qa;have q353:x11_1 < (l0.length:Int):=Qa;obtain ⟨ad353,e353,hx353_0,hx353_1⟩:=ZQ HR0.out x11_1 p353 q353;(try rw [←Nbq9.out] at hx353_0);obtain rfl:ad342=ad353:=(by injection e353);replace hx353_0:=Qp HB hx353_0;replace hx353_1:=Qp HB hx353_1;replace p353:=eq_true p353;replace q353:=eq_true q353;have p354:0≤(((zg l0 x11_1).f1):Int):=Qa;have q354:((zg l0 x11_1).f1) < (l2.length:Int):=Qa;obtain ⟨ad354,A354_0,c354_0,e354,hx354_0,hl354_0,hi354_0⟩:=ZY HR2.out ((zg l0 x11_1).f1) p354 q354;cases e354;replace hx354_0:=Qp HB hx354_0;have HR354_0:=zA.mk hi354_0;have HC354_0:=zA.mk hl354_0;clear hi354_0 hl354_0;replace p354:=eq_true p354;replace q354:=eq_true q354;obtain ⟨Ao48,co48,eo48⟩:=Kd.R_slice vT.out;subst eo48)|((with_reducible refine zj (f:=23) rfl ?_);refine yS (some 46) rfl rfl Tryz.func23 (by kernel_rfl) rfl #[.slice Ao48 x10_1.length co48, .slice A354_0 (zk l2 ((zg l0 x11_1).f1)).length c354_0, .int .i64 a1] rfl Q8 ?_;(with_reducible refine (zQ.calls k1 _ _ x10_1 _ _ (zk l2 ((zg l0 x11_1).f1)) a1 t355 _ ?side1 ?side2 ?side3 ?side4 A33.out).mono ?_);(case side1=>exact Qo ((Kd.R_reads' vT.out).2.2));(case side2=>exact (Kd.R_reads' vT.out).2.1);(case side3=>exact Qo (Kd.C_below HR354_0.out HB.out));(case side4=>exact HC354_0.out);rintro e w49 ⟨v356,rfl,ho0,hb⟩;refine ⟨_,rfl,?_⟩;have n3_:=zA.mk (Kd.R_lower (yv (yv ho0)) (zD Qc));have n4_:=zA.mk (zF Qc hb);clear HB;have HO357:=n3_;have HB:=n4_;clear n3_ n4_;(try clear hb ho0);obtain ⟨Ao50,co50,eo50⟩:=Kd.R_slice HO357.out;subst eo50))
         go_roundg k1
         case measure=>have:=HK1.out;omega
         case rel=>exact ⟨(t355),(wrap64 (x11_1 + 1)),Zk,H',⟨by have:=HK1.out;omega⟩,⟨by (with_reducible repeat (first|apply Kd.R_alloc|apply Kd.R_drewN|apply Kd.R_drew));exact Kd.R_mono HO357.out (fun _ hk=>trivial)⟩,⟨by repeat (first|(with_reducible first|exact HB.out|apply zE|apply zC|apply zG)|exact HB.out)⟩⟩
       ·rw [if_neg c32] at H
        exact absurd H (by simp)
      ·rw [if_neg c31] at H
       exact absurd H (by simp)
    ·rw [if_neg c8] at H
     exact absurd H (by simp)
   ·rw [if_neg c7] at H
    have c7b0:=decide_eq_false c7;clear c7;simp only [Option.some.injEq,Prod.mk.injEq] at H;obtain ⟨rfl,rfl⟩:=H
    go_wp2
    go_ret2
    exact ⟨_,by first|rfl|(simp [zR,zS] <;> rfl)|(simp [*,zR,zS] <;> rfl),by (with_reducible repeat (first|apply Kd.R_alloc|apply Kd.R_drewN|apply Kd.R_drew));exact vT.out,by repeat (first|(with_reducible first|exact HB.out|apply zE|apply zC|apply zG)|exact HB.out)⟩
def yI.l0:Nat→List ByteArray→List ByteArray→Int→Option (List ByteArray)
 | 0,_,_,_=>none
 | k + 1,x0,x3,x4=>if x4 < (x0.length:Int) then (if 0≤x4 then ((zh.f k x3 (rdOf ByteArray.empty x0 x4)).bind fun t362=>(yI.l0 k x0 t362 (wrap64 (x4 + 1)))) else (none)) else (some x3)
def yI.f (k:Nat) (l0:List ByteArray):Option (List ByteArray):=yI.l0 k l0 (([]:List ByteArray)) 0
theorem yI.mono_l:∀k,(∀y0 y1 y2,LeO (yI.l0 k y0 y1 y2) (yI.l0 (k + 1) y0 y1 y2))
 | 0=>fun _ _ _ r h=>by simp [yI.l0] at h
 | k + 1=>by
  have ih0:=yI.mono_l k
  ·intro y0 y1 y2
   unfold yI.l0
   repeat' first
   | with_reducible first|exact ih0 _ _ _|exact zh.mono _ _ _|exact LeO.refl _|exact LeO.none _|refine LeO.ite ?_ ?_|refine LeO.bind ?_ (fun _=> ?_)
theorem yI.mono:∀a0 k,LeO (yI.f k a0) (yI.f (k + 1) a0):=by
 intro a0 k;have ih0:=yI.mono_l k
 unfold yI.f
 repeat' first
   | with_reducible first|exact ih0 _ _ _|exact zh.mono _ _ _|exact LeO.refl _|exact LeO.none _|refine LeO.ite ?_ ?_|refine LeO.bind ?_ (fun _=> ?_)
theorem yI.calls (k:Nat) (A0:Option Addr) (c0:Nat) (l0:List ByteArray) (r:List ByteArray) (w:World) (hr0:Kd.C Kd.string w A0 l0.length l0) (hc0:l0.length≤c0) (h:yI.f k l0=some r) :
  Calls Tryz.prog 60 #[.slice A0 l0.length c0] w fun e w'=>∃v0_:Value,e= .returned (v0_)∧Kd.R Kd.string 9 w' w.heap.size (fun _=>True) v0_ r∧Below w.heap.size w w':=by
 have HR0:=zA.mk hr0;have HC0:=zA.mk hc0;clear hr0 hc0;have HB:=zA.mk (Below.refl w.heap.size w);have H:(yI.l0 k l0 (([]:List ByteArray)) 0)=some r:=h;clear h;obtain ⟨y358,hy358⟩:∃y_:List ByteArray,y_=(([]:List ByteArray)):=⟨_,rfl⟩;replace H:(yI.l0 k l0 y358 0)=some r:=Qb hy358 H;have Ny358:=zA.mk hy358;clear hy358;have H':=zA.mk H;clear H
 go_enter Tryz.func60,Tryz.ntmps60
 go_wp2_with (first|((with_reducible refine zw (N:=5) rfl ?_);refine Kd.R_lit Kd.string _ 9 (by rfl) (N:=5) (by rfl) (xs:=([]:List ByteArray)) (inner:= []) (ok:=fun _=>True) (okp:=fun _=>True) Qm ?hp (fun _ hk=>hk) trivial (Below.refl _ _) (Nat.le_refl _) (by simp) ?_;(case hp=>exact (Reps.none _ _));intro v359 w2 ho3 hb hg_ hnew_;clear hg_ hnew_;(first|rw [←Ny358.out] at ho3|(simp only [Int.reduceToNat] at ho3;rw [←Ny358.out] at ho3));have n0_:=zA.mk (Kd.R_lower ho3 (zD Qc));have n1_:=zA.mk (zF Qc hb);clear HB;have HO360:=n0_;have HB:=n1_;clear n0_ n1_ hb ho3))
 go_loopg [3,4] k (fun kq v3 v4 w'=>∃(x3_1:List ByteArray) (x4_1:Int),v4= .int .i64 x4_1∧zA (yI.l0 kq l0 x3_1 x4_1=some r)∧zA (kq≤k)∧zA (Kd.R Kd.string 9 w' w.heap.size (fun _=>True) v3 x3_1)∧zA (Below w.heap.size w w'))
 case atStart=>exact ⟨(y358),(0),Zk,H',⟨Nat.le_refl _⟩,⟨Qh HO360⟩,⟨by repeat (first|(with_reducible first|exact HB.out|apply zE|apply zC|apply zG)|exact HB.out)⟩⟩
 case round=>
  clear H';(try clear p2);obtain ⟨x3_1,x4_1,rfl,HA,HK1,HO_3,HB⟩:=hrel;cases gk with
  | zero=>exact absurd HA.out (by simp [yI.l0])
  | succ k1=>
   have H:=HA.out;clear HA;simp only [yI.l0] at H
   by_cases c4:x4_1 < (l0.length:Int)
   ·rw [if_pos c4] at H
    have c4b0:=decide_eq_true c4;clear c4
    by_cases c5:0≤x4_1
    ·rw [if_pos c5] at H
     have c5b0:=decide_eq_true c5;clear c5;replace H:=ZzB H;obtain ⟨t362,A60,H⟩:=H;replace H:(yI.l0 k1 l0 t362 (wrap64 (x4_1 + 1)))=some r:=H;have A6:=zA.mk A60;clear A60;have H':=zA.mk H;clear H;have p361:0≤(x4_1:Int):=Qa;have q361:x4_1 < (l0.length:Int):=Qa;obtain ⟨ad361,e361,hx361_0⟩:=Kd.at_string HR0.out x4_1 p361 q361;cases e361;replace hx361_0:=Qp HB hx361_0;replace p361:=eq_true p361;replace q361:=eq_true q361;obtain ⟨Ao7,co7,eo7⟩:=Kd.R_slice HO_3.out;subst eo7
     go_wp2_with (first|((with_reducible refine zj (f:=43) rfl ?_);refine yS (some 17) rfl rfl Tryz.func43 (by kernel_rfl) rfl #[.slice Ao7 x3_1.length co7, .string (rdOf ByteArray.empty l0 x4_1)] rfl Q8 ?_;(with_reducible refine (zh.calls k1 _ _ x3_1 (rdOf ByteArray.empty l0 x4_1) t362 _ ?side1 ?side2 A6.out).mono ?_);(case side1=>exact Qo ((Kd.R_reads' HO_3.out).2.2));(case side2=>exact (Kd.R_reads' HO_3.out).2.1);rintro e w8 ⟨v363,rfl,ho0,hb⟩;refine ⟨_,rfl,?_⟩;have n1_:=zA.mk (zh.own ho0 (Kd.R_below (Qh HO_3) hb) (zD Qc));have n2_:=zA.mk (zF Qc hb);clear HB;have HO364:=n1_;have HB:=n2_;clear n1_ n2_;(try clear hb ho0)))
     go_roundg k1
     case measure=>have:=HK1.out;omega
     case rel=>exact ⟨(t362),(wrap64 (x4_1 + 1)),Zk,H',⟨by have:=HK1.out;omega⟩,⟨by (with_reducible repeat (first|apply Kd.R_alloc|apply Kd.R_drewN|apply Kd.R_drew));exact Kd.R_mono HO364.out (fun _ hk=>trivial)⟩,⟨by repeat (first|(with_reducible first|exact HB.out|apply zE|apply zC|apply zG)|exact HB.out)⟩⟩
    ·rw [if_neg c5] at H
     exact absurd H (by simp)
   ·rw [if_neg c4] at H
    have c4b0:=decide_eq_false c4;clear c4;obtain rfl:=Option.some.inj H
    go_wp2
    go_ret
    exact ⟨_,by first|rfl|(simp [zR,zS] <;> rfl)|(simp [*,zR,zS] <;> rfl),by (with_reducible repeat (first|apply Kd.R_alloc|apply Kd.R_drewN|apply Kd.R_drew));exact HO_3.out,by repeat (first|(with_reducible first|exact HB.out|apply zE|apply zC|apply zG)|exact HB.out)⟩
def zo.l0:Nat→List ByteArray→List ByteArray→Int→Option (List ByteArray)
 | 0,_,_,_=>none
 | k + 1,x1,x5,x6=>if x6 < (x1.length:Int) then (if 0≤x6 then ((zh.f k x5 (rdOf ByteArray.empty x1 x6)).bind fun t369=>(zo.l0 k x1 t369 (wrap64 (x6 + 1)))) else (none)) else (some x5)
def zo.f (k:Nat) (l0:List ByteArray) (l1:List ByteArray):Option (List ByteArray):=(yI.f k l0).bind fun t365=>(zo.l0 k l1 t365 0)
theorem zo.mono_l:∀k,(∀y0 y1 y2,LeO (zo.l0 k y0 y1 y2) (zo.l0 (k + 1) y0 y1 y2))
 | 0=>fun _ _ _ r h=>by simp [zo.l0] at h
 | k + 1=>by
  have ih0:=zo.mono_l k
  ·intro y0 y1 y2
   unfold zo.l0
   repeat' first
   | with_reducible first|exact ih0 _ _ _|exact yI.mono _ _|exact zh.mono _ _ _|exact LeO.refl _|exact LeO.none _|refine LeO.ite ?_ ?_|refine LeO.bind ?_ (fun _=> ?_)
theorem zo.mono:∀a0 a1 k,LeO (zo.f k a0 a1) (zo.f (k + 1) a0 a1):=by
 intro a0 a1 k;have ih0:=zo.mono_l k
 unfold zo.f
 repeat' first
   | with_reducible first|exact ih0 _ _ _|exact yI.mono _ _|exact zh.mono _ _ _|exact LeO.refl _|exact LeO.none _|refine LeO.ite ?_ ?_|refine LeO.bind ?_ (fun _=> ?_)
theorem zo.calls (k:Nat) (A0:Option Addr) (c0:Nat) (l0:List ByteArray) (A1:Option Addr) (c1:Nat) (l1:List ByteArray) (r:List ByteArray) (w:World) (hr0:Kd.C Kd.string w A0 l0.length l0) (hc0:l0.length≤c0) (hr1:Kd.C Kd.string w A1 l1.length l1) (hc1:l1.length≤c1) (h:zo.f k l0 l1=some r) :
  Calls Tryz.prog 42 #[.slice A0 l0.length c0, .slice A1 l1.length c1] w fun e w'=>∃v0_:Value,e= .returned (v0_)∧Kd.R Kd.string 9 w' w.heap.size (fun _=>True) v0_ r∧Below w.heap.size w w':=by
 have HR0:=zA.mk hr0;have HC0:=zA.mk hc0;clear hr0 hc0;have HR1:=zA.mk hr1;have HC1:=zA.mk hc1;clear hr1 hc1;have HB:=zA.mk (Below.refl w.heap.size w);have H:((yI.f k l0).bind fun t365=>(zo.l0 k l1 t365 0))=some r:=h;clear h;replace H:=ZzB H;obtain ⟨t365,A30,H⟩:=H;replace H:(zo.l0 k l1 t365 0)=some r:=H;have A3:=zA.mk A30;clear A30;have H':=zA.mk H;clear H
 go_enter Tryz.func42,Tryz.ntmps42
 go_wp2_with (first|((with_reducible refine zj (f:=60) rfl ?_);refine yS (some 8) rfl rfl Tryz.func60 (by kernel_rfl) rfl #[.slice A0 l0.length c0] rfl Q8 ?_;(with_reducible refine (yI.calls k _ _ l0 t365 _ ?side1 ?side2 A3.out).mono ?_);(case side1=>exact Qo HR0.out);(case side2=>exact HC0.out);rintro e w4 ⟨v366,rfl,ho0,hb⟩;refine ⟨_,rfl,?_⟩;have n0_:=zA.mk (Kd.R_lower ho0 (zD Qc));have n1_:=zA.mk (zF Qc hb);clear HB;have HO367:=n0_;have HB:=n1_;clear n0_ n1_;(try clear hb ho0)))
 go_loopg [5,6] k (fun kq v5 v6 w'=>∃(x5_1:List ByteArray) (x6_1:Int),v6= .int .i64 x6_1∧zA (zo.l0 kq l1 x5_1 x6_1=some r)∧zA (kq≤k)∧zA (Kd.R Kd.string 9 w' w.heap.size (fun _=>True) v5 x5_1)∧zA (Below w.heap.size w w'))
 case atStart=>exact ⟨(t365),(0),Zk,H',⟨Nat.le_refl _⟩,⟨Qh HO367⟩,⟨by repeat (first|(with_reducible first|exact HB.out|apply zE|apply zC|apply zG)|exact HB.out)⟩⟩
 case round=>
  clear H';(try clear c1);(try clear p2);(try clear c4);obtain ⟨x5_1,x6_1,rfl,HA,HK1,HO_5,HB⟩:=hrel;cases gk with
  | zero=>exact absurd HA.out (by simp [zo.l0])
  | succ k1=>
   have H:=HA.out;clear HA;simp only [zo.l0] at H
   by_cases c5:x6_1 < (l1.length:Int)
   ·rw [if_pos c5] at H
    have c5b0:=decide_eq_true c5;clear c5
    by_cases c6:0≤x6_1
    ·rw [if_pos c6] at H
     have c6b0:=decide_eq_true c6;clear c6;replace H:=ZzB H;obtain ⟨t369,A70,H⟩:=H;replace H:(zo.l0 k1 l1 t369 (wrap64 (x6_1 + 1)))=some r:=H;have A7:=zA.mk A70;clear A70;have H':=zA.mk H;clear H;have p368:0≤(x6_1:Int):=Qa;have q368:x6_1 < (l1.length:Int):=Qa;obtain ⟨ad368,e368,hx368_0⟩:=Kd.at_string HR1.out x6_1 p368 q368;cases e368;replace hx368_0:=Qp HB hx368_0;replace p368:=eq_true p368;replace q368:=eq_true q368;obtain ⟨Ao8,co8,eo8⟩:=Kd.R_slice HO_5.out;subst eo8
     go_wp2_with (first|((with_reducible refine zj (f:=43) rfl ?_);refine yS (some 20) rfl rfl Tryz.func43 (by kernel_rfl) rfl #[.slice Ao8 x5_1.length co8, .string (rdOf ByteArray.empty l1 x6_1)] rfl Q8 ?_;(with_reducible refine (zh.calls k1 _ _ x5_1 (rdOf ByteArray.empty l1 x6_1) t369 _ ?side1 ?side2 A7.out).mono ?_);(case side1=>exact Qo ((Kd.R_reads' HO_5.out).2.2));(case side2=>exact (Kd.R_reads' HO_5.out).2.1);rintro e w9 ⟨v370,rfl,ho0,hb⟩;refine ⟨_,rfl,?_⟩;have n1_:=zA.mk (zh.own ho0 (Kd.R_below (Qh HO_5) hb) (zD Qc));have n2_:=zA.mk (zF Qc hb);clear HB;have HO371:=n1_;have HB:=n2_;clear n1_ n2_;(try clear hb ho0)))
     go_roundg k1
     case measure=>have:=HK1.out;omega
     case rel=>exact ⟨(t369),(wrap64 (x6_1 + 1)),Zk,H',⟨by have:=HK1.out;omega⟩,⟨by (with_reducible repeat (first|apply Kd.R_alloc|apply Kd.R_drewN|apply Kd.R_drew));exact Kd.R_mono HO371.out (fun _ hk=>trivial)⟩,⟨by repeat (first|(with_reducible first|exact HB.out|apply zE|apply zC|apply zG)|exact HB.out)⟩⟩
    ·rw [if_neg c6] at H
     exact absurd H (by simp)
   ·rw [if_neg c5] at H
    have c5b0:=decide_eq_false c5;clear c5;obtain rfl:=Option.some.inj H
    go_wp2
    go_ret
    exact ⟨_,by first|rfl|(simp [zR,zS] <;> rfl)|(simp [*,zR,zS] <;> rfl),by (with_reducible repeat (first|apply Kd.R_alloc|apply Kd.R_drewN|apply Kd.R_drew));exact HO_5.out,by repeat (first|(with_reducible first|exact HB.out|apply zE|apply zC|apply zG)|exact HB.out)⟩
end Go.Proofs.YtpfeebmfihgelaaGreat.HGuessPicks
