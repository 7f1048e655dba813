-- Written by plus.py for this claim.
import Derived.Test.YtpfeebmfihgelaaGreatSGuessPicksVZip
import Derived.Test.YtpfeebmfihgelaaGreatHGuessPicksx0
import Derived.Test.YtpfeebmfihgelaaGreatHGuessPicksx1
import Derived.Test.YtpfeebmfihgelaaGreatHGuessPicksx21
namespace Go.Proofs.YtpfeebmfihgelaaGreat.HGuessPicks
open Go.RowKit Go.Proofs.YtpfeebmfihgelaaGreatW.PrintWords Go.Proofs.YtpfeebmfihgelaaGreatW.PrintLast Go.Proofs.YtpfeebmfihgelaaGreatW.PrintMore
attribute [local go_sem] yx yy ZI ZJ yo yp yz ZA
set_option linter.unusedVariables false
set_option maxHeartbeats 8000000
set_option maxRecDepth 100000
set_option linter.unusedSimpArgs false
def yD.l0:Nat→List Int→List Int→Int→Option (Bool)
 | 0,_,_,_=>none
 | k + 1,x0,x1,x5=>if x5 < (x0.length:Int) then (if 0≤x5 then (if x5 < (x1.length:Int) then (if (rd x0 x5)=(rd x1 x5) then (yD.l0 k x0 x1 (wrap64 (x5 + 1))) else (some false)) else (none)) else (none)) else (some true)
def yD.f (k:Nat) (l0:List Int) (l1:List Int):Option (Bool):=if (l0.length:Int)=(l1.length:Int) then (yD.l0 k l0 l1 0) else (some false)
theorem yD.mono_l:∀k,(∀y0 y1 y2,LeO (yD.l0 k y0 y1 y2) (yD.l0 (k + 1) y0 y1 y2))
 | 0=>fun _ _ _ r h=>by simp [yD.l0] at h
 | k + 1=>by
  have ih0:=yD.mono_l k
  ·intro y0 y1 y2
   unfold yD.l0
   repeat' first
   | with_reducible first|exact ih0 _ _ _|exact LeO.refl _|exact LeO.none _|refine LeO.ite ?_ ?_|refine LeO.bind ?_ (fun _=> ?_)
theorem yD.mono:∀a0 a1 k,LeO (yD.f k a0 a1) (yD.f (k + 1) a0 a1):=by
 intro a0 a1 k;have ih0:=yD.mono_l k
 unfold yD.f
 repeat' first
   | with_reducible first|exact ih0 _ _ _|exact LeO.refl _|exact LeO.none _|refine LeO.ite ?_ ?_|refine LeO.bind ?_ (fun _=> ?_)
theorem yD.calls (k:Nat) (A0:Option Addr) (c0:Nat) (l0:List Int) (A1:Option Addr) (c1:Nat) (l1:List Int) (r:Bool) (w:World) (hr0:Kd.C (Kd.int .i64) w A0 l0.length l0) (hc0:l0.length≤c0) (hr1:Kd.C (Kd.int .i64) w A1 l1.length l1) (hc1:l1.length≤c1) (h:yD.f k l0 l1=some r) :
  Calls Tryz.prog 11 #[.slice A0 l0.length c0, .slice A1 l1.length c1] w fun e w'=>e= .returned (.bool r)∧yL w w':=by
 have HR0:=zA.mk hr0;have HC0:=zA.mk hc0;clear hr0 hc0;have HR1:=zA.mk hr1;have HC1:=zA.mk hc1;clear hr1 hc1;have H:(if (l0.length:Int)=(l1.length:Int) then (yD.l0 k l0 l1 0) else (some false))=some r:=h;clear h
 by_cases c3:(l0.length:Int)=(l1.length:Int)
 ·rw [if_pos c3] at H
  have c3b0:((l0.length:Int) == (l1.length:Int))=true:=beq_iff_eq.mpr c3;have c3b1:((l0.length:Int) != (l1.length:Int))=false:=bne_eq_false_iff_eq.mpr c3
  have c3b2:(l0.length == l1.length)=true:=by first|simpa using c3|(simp at c3⊢;omega)
  clear c3;have H':=zA.mk H;clear H
  go_enter Tryz.func11,Tryz.ntmps11
  go_wp2
  repeat (go_quiet (fail);try go_wp2)
  go_loopg [5] k (fun kq v5 w'=>∃(x5_1:Int),v5= .int .i64 x5_1∧zA (yD.l0 kq l0 l1 x5_1=some r)∧zA (kq≤k)∧yL w w')
  case atStart=>exact ⟨(0),Zk,H',⟨Nat.le_refl _⟩,by repeat (first|exact yL.refl _|apply yL.step)⟩
  case round=>
   clear H';(try clear c1);(try clear p2);(try clear c3);(try clear c3b0);(try clear c3b1);(try clear c3b2);obtain ⟨x5_1,rfl,HA,HK1,⟨m1,rfl⟩⟩:=hrel;cases gk with
   | zero=>exact absurd HA.out (by simp [yD.l0])
   | succ k1=>
    have H:=HA.out;clear HA;simp only [yD.l0] at H
    by_cases c4:x5_1 < (l0.length:Int)
    ·rw [if_pos c4] at H
     have c4b0:=decide_eq_true c4;clear c4
     by_cases c5:0≤x5_1
     ·rw [if_pos c5] at H
      have c5b0:=decide_eq_true c5;clear c5
      by_cases c6:x5_1 < (l1.length:Int)
      ·rw [if_pos c6] at H
       have c6b0:=decide_eq_true c6;clear c6
       by_cases c7:(rd l0 x5_1)=(rd l1 x5_1)
       ·rw [if_pos c7] at H
        have c7b0:((rd l0 x5_1) == (rd l1 x5_1))=true:=beq_iff_eq.mpr c7;have c7b1:((rd l0 x5_1) != (rd l1 x5_1))=false:=bne_eq_false_iff_eq.mpr c7;clear c7;have H':=zA.mk H;clear H;have p483:0≤(x5_1:Int):=Qa;have q483:x5_1 < (l0.length:Int):=Qa;obtain ⟨ad483,e483,hx483_0⟩:=Kd.at_int HR0.out x5_1 p483 q483;cases e483;replace p483:=eq_true p483;replace q483:=eq_true q483;have p484:0≤(x5_1:Int):=Qa;have q484:x5_1 < (l1.length:Int):=Qa;obtain ⟨ad484,e484,hx484_0⟩:=Kd.at_int HR1.out x5_1 p484 q484;cases e484;replace p484:=eq_true p484;replace q484:=eq_true q484
        go_wp2
        repeat (go_quiet (fail);try go_wp2)
        go_roundg k1
        case measure=>have:=HK1.out;omega
        case rel=>exact ⟨(wrap64 (x5_1 + 1)),Zk,H',⟨by have:=HK1.out;omega⟩,by repeat (first|exact yL.refl _|apply yL.step)⟩
       ·rw [if_neg c7] at H
        have c7b0:((rd l0 x5_1) == (rd l1 x5_1))=false:=beq_eq_false_iff_ne.mpr c7;have c7b1:((rd l0 x5_1) != (rd l1 x5_1))=true:=bne_iff_ne.mpr c7;obtain rfl:=Option.some.inj H;have p483:0≤(x5_1:Int):=Qa;have q483:x5_1 < (l0.length:Int):=Qa;obtain ⟨ad483,e483,hx483_0⟩:=Kd.at_int HR0.out x5_1 p483 q483;cases e483;replace p483:=eq_true p483;replace q483:=eq_true q483;have p484:0≤(x5_1:Int):=Qa;have q484:x5_1 < (l1.length:Int):=Qa;obtain ⟨ad484,e484,hx484_0⟩:=Kd.at_int HR1.out x5_1 p484 q484;cases e484;replace p484:=eq_true p484;replace q484:=eq_true q484
        go_wp2
        repeat (go_quiet (fail);try go_wp2)
        go_ret
        exact ⟨by first|rfl|(simp;done)|(simp [*];done),by repeat (first|exact yL.refl _|apply yL.step)⟩
      ·rw [if_neg c6] at H
       exact absurd H (by simp)
     ·rw [if_neg c5] at H
      exact absurd H (by simp)
    ·rw [if_neg c4] at H
     have c4b0:=decide_eq_false c4;clear c4;obtain rfl:=Option.some.inj H
     go_wp2
     repeat (go_quiet (fail);try go_wp2)
     go_ret
     exact ⟨by first|rfl|(simp;done)|(simp [*];done),by repeat (first|exact yL.refl _|apply yL.step)⟩
 ·rw [if_neg c3] at H
  have c3b0:((l0.length:Int) == (l1.length:Int))=false:=beq_eq_false_iff_ne.mpr c3;have c3b1:((l0.length:Int) != (l1.length:Int))=true:=bne_iff_ne.mpr c3
  have c3b2:(l0.length == l1.length)=false:=by first|simpa using c3|(simp at c3⊢;omega)
  obtain rfl:=Option.some.inj H
  go_enter Tryz.func11,Tryz.ntmps11
  go_wp2
  repeat (go_quiet (fail);try go_wp2)
  go_ret
  exact ⟨by first|rfl|(simp;done)|(simp [*];done),by repeat (first|exact yL.refl _|apply yL.step)⟩
def yG.l0:Nat→List Int→Int→Int→Option (Bool)
 | 0,_,_,_=>none
 | k + 1,x0,x1,x5=>if x5 < (x0.length:Int) then (if 0≤x5 then (if (rd x0 x5)=x1 then (some true) else (yG.l0 k x0 x1 (wrap64 (x5 + 1)))) else (none)) else (some false)
def yG.f (k:Nat) (l0:List Int) (a1:Int):Option (Bool):=yG.l0 k l0 a1 0
theorem yG.mono_l:∀k,(∀y0 y1 y2,LeO (yG.l0 k y0 y1 y2) (yG.l0 (k + 1) y0 y1 y2))
 | 0=>fun _ _ _ r h=>by simp [yG.l0] at h
 | k + 1=>by
  have ih0:=yG.mono_l k
  ·intro y0 y1 y2
   unfold yG.l0
   repeat' first
   | with_reducible first|exact ih0 _ _ _|exact LeO.refl _|exact LeO.none _|refine LeO.ite ?_ ?_|refine LeO.bind ?_ (fun _=> ?_)
theorem yG.mono:∀a0 a1 k,LeO (yG.f k a0 a1) (yG.f (k + 1) a0 a1):=by
 intro a0 a1 k;have ih0:=yG.mono_l k
 unfold yG.f
 repeat' first
   | with_reducible first|exact ih0 _ _ _|exact LeO.refl _|exact LeO.none _|refine LeO.ite ?_ ?_|refine LeO.bind ?_ (fun _=> ?_)
theorem yG.calls (k:Nat) (A0:Option Addr) (c0:Nat) (l0:List Int) (a1:Int) (r:Bool) (w:World) (hr0:Kd.C (Kd.int .i64) w A0 l0.length l0) (hc0:l0.length≤c0) (h:yG.f k l0 a1=some r) :
  Calls Tryz.prog 15 #[.slice A0 l0.length c0, .int .i64 a1] w fun e w'=>e= .returned (.bool r)∧yL w w':=by
 have HR0:=zA.mk hr0;have HC0:=zA.mk hc0;clear hr0 hc0;have H:(yG.l0 k l0 a1 0)=some r:=h;clear h;have H':=zA.mk H;clear H
 go_enter Tryz.func15,Tryz.ntmps15
 go_wp2
 go_loopg [5] k (fun kq v5 w'=>∃(x5_1:Int),v5= .int .i64 x5_1∧zA (yG.l0 kq l0 a1 x5_1=some r)∧zA (kq≤k)∧yL w w')
 case atStart=>exact ⟨(0),Zk,H',⟨Nat.le_refl _⟩,by repeat (first|exact yL.refl _|apply yL.step)⟩
 case round=>
  clear H';(try clear c1);(try clear p2);obtain ⟨x5_1,rfl,HA,HK1,⟨m1,rfl⟩⟩:=hrel;cases gk with
  | zero=>exact absurd HA.out (by simp [yG.l0])
  | succ k1=>
   have H:=HA.out;clear HA;simp only [yG.l0] at H
   by_cases c3:x5_1 < (l0.length:Int)
   ·rw [if_pos c3] at H
    have c3b0:=decide_eq_true c3;clear c3
    by_cases c4:0≤x5_1
    ·rw [if_pos c4] at H
     have c4b0:=decide_eq_true c4;clear c4
     by_cases c5:(rd l0 x5_1)=a1
     ·rw [if_pos c5] at H
      have c5b0:((rd l0 x5_1) == a1)=true:=beq_iff_eq.mpr c5;have c5b1:((rd l0 x5_1) != a1)=false:=bne_eq_false_iff_eq.mpr c5;clear c5;obtain rfl:=Option.some.inj H;have p485:0≤(x5_1:Int):=Qa;have q485:x5_1 < (l0.length:Int):=Qa;obtain ⟨ad485,e485,hx485_0⟩:=Kd.at_int HR0.out x5_1 p485 q485;cases e485;replace p485:=eq_true p485;replace q485:=eq_true q485
      go_wp2
      go_ret
      exact ⟨by first|rfl|(simp;done)|(simp [*];done),by repeat (first|exact yL.refl _|apply yL.step)⟩
     ·rw [if_neg c5] at H
      have c5b0:((rd l0 x5_1) == a1)=false:=beq_eq_false_iff_ne.mpr c5;have c5b1:((rd l0 x5_1) != a1)=true:=bne_iff_ne.mpr c5;have H':=zA.mk H;clear H;have p485:0≤(x5_1:Int):=Qa;have q485:x5_1 < (l0.length:Int):=Qa;obtain ⟨ad485,e485,hx485_0⟩:=Kd.at_int HR0.out x5_1 p485 q485;cases e485;replace p485:=eq_true p485;replace q485:=eq_true q485
      go_wp2
      go_roundg k1
      case measure=>have:=HK1.out;omega
      case rel=>exact ⟨(wrap64 (x5_1 + 1)),Zk,H',⟨by have:=HK1.out;omega⟩,by repeat (first|exact yL.refl _|apply yL.step)⟩
    ·rw [if_neg c4] at H
     exact absurd H (by simp)
   ·rw [if_neg c3] at H
    have c3b0:=decide_eq_false c3;clear c3;obtain rfl:=Option.some.inj H
    go_wp2
    go_ret
    exact ⟨by first|rfl|(simp;done)|(simp [*];done),by repeat (first|exact yL.refl _|apply yL.step)⟩
mutual
def zi.l0:Nat→List ByteArray→List Int→Int→Option (List Int)
 | 0,_,_,_=>none
 | k + 1,x0,x3,x4=>if x4 < 256 then (zi.l1 k x0 x3 x4 0) else (some x3)
def zi.l1:Nat→List ByteArray→List Int→Int→Int→Option (List Int)
 | 0,_,_,_,_=>none
 | k + 1,x0,x3,x4,x5=>if x5 < (x0.length:Int) then (if 0≤x5 then (if ((rdOf ByteArray.empty x0 x5).size:Int) > 0 then (if 0 < ((rdOf ByteArray.empty x0 x5).size:Int) then (if (wrap64 (bt (rdOf ByteArray.empty x0 x5) 0))=x4 then ((yG.f k x3 x4).bind fun t491=>(if t491=true then (zi.l1 k x0 x3 x4 (wrap64 (x5 + 1))) else (if x3.length < 17592186044416 then (zi.l1 k x0 (x3 ++ [x4]) x4 (wrap64 (x5 + 1))) else (none)))) else (zi.l1 k x0 x3 x4 (wrap64 (x5 + 1)))) else (none)) else (zi.l1 k x0 x3 x4 (wrap64 (x5 + 1)))) else (none)) else (zi.l0 k x0 x3 (wrap64 (x4 + 1)))
end
def zi.f (k:Nat) (l0:List ByteArray):Option (List Int):=zi.l0 k l0 (([]:List Int)) 0
theorem zi.mono_l:∀k,(∀y0 y1 y2,LeO (zi.l0 k y0 y1 y2) (zi.l0 (k + 1) y0 y1 y2))∧(∀y0 y1 y2 y3,LeO (zi.l1 k y0 y1 y2 y3) (zi.l1 (k + 1) y0 y1 y2 y3))
 | 0=>⟨fun _ _ _ r h=>by simp [zi.l0] at h,fun _ _ _ _ r h=>by simp [zi.l1] at h⟩
 | k + 1=>by
  obtain ⟨ih0,ih1⟩:=zi.mono_l k;refine ⟨?_,?_⟩
  ·intro y0 y1 y2
   unfold zi.l0
   repeat' first
   | with_reducible first|exact ih0 _ _ _|exact ih1 _ _ _ _|exact yG.mono _ _ _|exact LeO.refl _|exact LeO.none _|refine LeO.ite ?_ ?_|refine LeO.bind ?_ (fun _=> ?_)
  ·intro y0 y1 y2 y3
   unfold zi.l1
   repeat' first
   | with_reducible first|exact ih0 _ _ _|exact ih1 _ _ _ _|exact yG.mono _ _ _|exact LeO.refl _|exact LeO.none _|refine LeO.ite ?_ ?_|refine LeO.bind ?_ (fun _=> ?_)
theorem zi.mono:∀a0 k,LeO (zi.f k a0) (zi.f (k + 1) a0):=by
 intro a0 k;obtain ⟨ih0,ih1⟩:=zi.mono_l k
 unfold zi.f
 repeat' first
   | with_reducible first|exact ih0 _ _ _|exact ih1 _ _ _ _|exact yG.mono _ _ _|exact LeO.refl _|exact LeO.none _|refine LeO.ite ?_ ?_|refine LeO.bind ?_ (fun _=> ?_)
theorem zi.calls (k:Nat) (A0:Option Addr) (c0:Nat) (l0:List ByteArray) (r:List Int) (w:World) (hr0:Kd.C Kd.string w A0 l0.length l0) (hc0:l0.length≤c0) (h:zi.f k l0=some r) :
  Calls Tryz.prog 28 #[.slice A0 l0.length c0] w fun e w'=>∃v0_:Value,e= .returned (v0_)∧Kd.R (Kd.int .i64) 3 w' w.heap.size (fun _=>True) v0_ r∧Below w.heap.size w w':=by
 have HR0:=zA.mk hr0;have HC0:=zA.mk hc0;clear hr0 hc0;have HB:=zA.mk (Below.refl w.heap.size w);have H:(zi.l0 k l0 (([]:List Int)) 0)=some r:=h;clear h;obtain ⟨y486,hy486⟩:∃y_:List Int,y_=(([]:List Int)):=⟨_,rfl⟩;replace H:(zi.l0 k l0 y486 0)=some r:=Qb hy486 H;have Ny486:=zA.mk hy486;clear hy486;have H':=zA.mk H;clear H
 go_enter Tryz.func28,Tryz.ntmps28
 go_wp2_with (first|((with_reducible refine zw (N:=6) rfl ?_);refine Kd.R_lit (Kd.int .i64) _ 3 (by rfl) (N:=6) (by rfl) (xs:=([]:List Int)) (inner:= []) (ok:=fun _=>True) (okp:=fun _=>True) Qm ?hp (fun _ hk=>hk) trivial (Below.refl _ _) (Nat.le_refl _) (by simp) ?_;(case hp=>exact (Reps.none _ _));intro v487 w2 ho3 hb hg_ hnew_;clear hg_ hnew_;(first|rw [←Ny486.out] at ho3|(simp only [Int.reduceToNat] at ho3;rw [←Ny486.out] at ho3));have n0_:=zA.mk (Kd.R_lower ho3 (zD Qc));have n1_:=zA.mk (zF Qc hb);clear HB;have HO488:=n0_;have HB:=n1_;clear n0_ n1_ hb ho3))
 go_loopg [3,4] k (fun kq v3 v4 w'=>∃(x3_1:List Int) (x4_1:Int),v4= .int .i64 x4_1∧zA (zi.l0 kq l0 x3_1 x4_1=some r)∧zA (kq≤k)∧zA (Kd.R (Kd.int .i64) 3 w' w.heap.size (fun _=>True) v3 x3_1)∧zA (Below w.heap.size w w'))
 case atStart=>exact ⟨(y486),(0),Zk,H',⟨Nat.le_refl _⟩,⟨Qh HO488⟩,⟨by repeat (first|(with_reducible first|exact HB.out|apply zE|apply zC|apply zG)|exact HB.out)⟩⟩
 case round=>
  clear H';(try clear c2);(try clear p2);obtain ⟨x3_1,x4_1,rfl,HA,HK1,HO_3,HB⟩:=hrel;cases gk with
  | zero=>exact absurd HA.out (by simp [zi.l0])
  | succ k1=>
   have H:=HA.out;clear HA;simp only [zi.l0] at H
   by_cases c4:x4_1 < 256
   ·rw [if_pos c4] at H
    have c4b0:=decide_eq_true c4;clear c4;have H':=zA.mk H;clear H
    go_wp2
    go_loopg [3,5] k1 (fun kq v3 v5 w'=>∃(x3_2:List Int) (x5_2:Int),v5= .int .i64 x5_2∧zA (zi.l1 kq l0 x3_2 x4_1 x5_2=some r)∧zA (kq≤k1)∧zA (Kd.R (Kd.int .i64) 3 w' w.heap.size (fun _=>True) v3 x3_2)∧zA (Below w.heap.size w w'))
    case atStart=>exact ⟨(x3_1),(0),Zk,H',⟨Nat.le_refl _⟩,⟨Qh HO_3⟩,⟨by repeat (first|(with_reducible first|exact HB.out|apply zE|apply zC|apply zG)|exact HB.out)⟩⟩
    case round=>
     clear H';(try clear c2);(try clear p2);(try clear c4);(try clear c4b0);(try clear p2);obtain ⟨x3_2,x5_2,rfl,HA,HK2,HO_3,HB⟩:=hrel;cases gk with
     | zero=>exact absurd HA.out (by simp [zi.l1])
     | succ k2=>
      have H:=HA.out;clear HA;simp only [zi.l1] at H
      by_cases c5:x5_2 < (l0.length:Int)
      ·rw [if_pos c5] at H
       have c5b0:=decide_eq_true c5;clear c5
       by_cases c6:0≤x5_2
       ·rw [if_pos c6] at H
        have c6b0:=decide_eq_true c6;clear c6
        by_cases c7:((rdOf ByteArray.empty l0 x5_2).size:Int) > 0
        ·rw [if_pos c7] at H
         have c7b0:=decide_eq_true c7;have c7b1:decide (0 < (rdOf ByteArray.empty l0 x5_2).size)=true:=decide_eq_true (by omega);clear c7
         by_cases c8:0 < ((rdOf ByteArray.empty l0 x5_2).size:Int)
         ·rw [if_pos c8] at H
          have c8b0:=decide_eq_true c8;have c8b1:decide (0 < (rdOf ByteArray.empty l0 x5_2).size)=true:=decide_eq_true (by omega);clear c8
          by_cases c10:(wrap64 (bt (rdOf ByteArray.empty l0 x5_2) 0))=x4_1
          ·rw [if_pos c10] at H
           have c10b0:((wrap64 (bt (rdOf ByteArray.empty l0 x5_2) 0)) == x4_1)=true:=beq_iff_eq.mpr c10;have c10b1:((wrap64 (bt (rdOf ByteArray.empty l0 x5_2) 0)) != x4_1)=false:=bne_eq_false_iff_eq.mpr c10;clear c10;replace H:=ZzB H;obtain ⟨t491,A110,H⟩:=H;replace H:(if t491=true then (zi.l1 k2 l0 x3_2 x4_1 (wrap64 (x5_2 + 1))) else (if x3_2.length < 17592186044416 then (zi.l1 k2 l0 (x3_2 ++ [x4_1]) x4_1 (wrap64 (x5_2 + 1))) else (none)))=some r:=H;have A11:=zA.mk A110;clear A110
           by_cases c12:t491=true
           ·subst c12
            have H1:(zi.l1 k2 l0 x3_2 x4_1 (wrap64 (x5_2 + 1)))=some r:=by rw [if_pos rfl] at H;exact H
            clear H;have H:=H1;clear H1;have H':=zA.mk H;clear H;have p489:0≤(x5_2:Int):=Qa;have q489:x5_2 < (l0.length:Int):=Qa;obtain ⟨ad489,e489,hx489_0⟩:=Kd.at_string HR0.out x5_2 p489 q489;cases e489;replace hx489_0:=Qp HB hx489_0;replace p489:=eq_true p489;replace q489:=eq_true q489;have p490:0≤(x5_2:Int):=Qa;have q490:x5_2 < (l0.length:Int):=Qa;obtain ⟨ad490,e490,hx490_0⟩:=Kd.at_string HR0.out x5_2 p490 q490;obtain rfl:ad489=ad490:=(by injection e490);replace hx490_0:=Qp HB hx490_0;replace p490:=eq_true p490;replace q490:=eq_true q490;have p9:0≤(0:Int):=(by omega);have q9:0 < (rdOf ByteArray.empty l0 x5_2).size:=Zi;have hx9:∀h:0 < (rdOf ByteArray.empty l0 x5_2).size,(((rdOf ByteArray.empty l0 x5_2)[0]'h).toNat:Int)=bt (rdOf ByteArray.empty l0 x5_2) 0:=bt_at (rdOf ByteArray.empty l0 x5_2) 0;clear p9;have qi9:(0 < ((rdOf ByteArray.empty l0 x5_2).size:Int))=True:=eq_true (Qa);replace q9:=eq_true q9;obtain ⟨Ao13,co13,eo13⟩:=Kd.R_slice HO_3.out;subst eo13
            go_wp2_with (first|(go_at_call 15;(with_reducible refine (yG.calls k2 _ _ x3_2 x4_1 true _ ?side1 ?side2 A11.out).mono ?_);(case side1=>exact Qo ((Kd.R_reads' HO_3.out).2.2));(case side2=>exact (Kd.R_reads' HO_3.out).2.1);rintro e w' ⟨rfl,⟨nd,rfl⟩⟩))
            go_roundg k2
            case measure=>have:=HK1.out;have:=HK2.out;omega
            case rel=>exact ⟨(x3_2),(wrap64 (x5_2 + 1)),Zk,H',⟨by have:=HK1.out;have:=HK2.out;omega⟩,⟨Qh HO_3⟩,⟨by repeat (first|(with_reducible first|exact HB.out|apply zE|apply zC|apply zG)|exact HB.out)⟩⟩
           ·replace c12:=Bool.eq_false_iff.mpr c12
            subst c12
            have H1:(if x3_2.length < 17592186044416 then (zi.l1 k2 l0 (x3_2 ++ [x4_1]) x4_1 (wrap64 (x5_2 + 1))) else (none))=some r:=by rw [if_neg (show ¬(false=true) by decide)] at H;exact H
            clear H;have H:=H1;clear H1
            by_cases c14:x3_2.length < 17592186044416
            ·rw [if_pos c14] at H
             have LMc14:=zA.mk c14;clear c14;obtain ⟨y492,hy492⟩:∃y_:List Int,y_=(x3_2 ++ [x4_1]):=⟨_,rfl⟩;replace H:(zi.l1 k2 l0 y492 x4_1 (wrap64 (x5_2 + 1)))=some r:=Qb hy492 H;have Ny492:=zA.mk hy492;clear hy492;have H':=zA.mk H;clear H;have p489:0≤(x5_2:Int):=Qa;have q489:x5_2 < (l0.length:Int):=Qa;obtain ⟨ad489,e489,hx489_0⟩:=Kd.at_string HR0.out x5_2 p489 q489;cases e489;replace hx489_0:=Qp HB hx489_0;replace p489:=eq_true p489;replace q489:=eq_true q489;have p490:0≤(x5_2:Int):=Qa;have q490:x5_2 < (l0.length:Int):=Qa;obtain ⟨ad490,e490,hx490_0⟩:=Kd.at_string HR0.out x5_2 p490 q490;obtain rfl:ad489=ad490:=(by injection e490);replace hx490_0:=Qp HB hx490_0;replace p490:=eq_true p490;replace q490:=eq_true q490;have p9:0≤(0:Int):=(by omega);have q9:0 < (rdOf ByteArray.empty l0 x5_2).size:=Zi;have hx9:∀h:0 < (rdOf ByteArray.empty l0 x5_2).size,(((rdOf ByteArray.empty l0 x5_2)[0]'h).toNat:Int)=bt (rdOf ByteArray.empty l0 x5_2) 0:=bt_at (rdOf ByteArray.empty l0 x5_2) 0;clear p9;have qi9:(0 < ((rdOf ByteArray.empty l0 x5_2).size:Int))=True:=eq_true (Qa);replace q9:=eq_true q9;obtain ⟨Ao15,co15,eo15⟩:=Kd.R_slice HO_3.out;subst eo15
             go_wp2_with (first|(go_at_call 15;(with_reducible refine (yG.calls k2 _ _ x3_2 x4_1 false _ ?side1 ?side2 A11.out).mono ?_);(case side1=>exact Qo ((Kd.R_reads' HO_3.out).2.2));(case side2=>exact (Kd.R_reads' HO_3.out).2.1);rintro e w' ⟨rfl,⟨nd,rfl⟩⟩)|((with_reducible refine ZK (b:= .append) (xs:= #[.tmp 39, .tmp 41]) rfl ?_);at_builtin;refine Kd.R_append (Kd.int .i64) (w0:=w) w.heap.size rfl (.tmp 39) (.tmp 41) 22 3 (.int .i64 0) 8 rfl Tryz.underlying22 info3 rfl (by decide) (by omega) (.slice Ao15 x3_2.length co15) x3_2 x4_1 [.int .i64 x4_1] (fun _=>True) (fun _=>False) rfl rfl ?aP (fun _ hk=>hk.elim) ?aF ?aO ?aB ?aS ?aL ?_;(case aP=>exact rfl);(case aB=>exact Qc);(case aF=>exact (fun _ _=>trivial));(case aO=>exact (Qh HO_3));(case aS=>exact (zD Qc));(case aL=>have:=LMc14.out;omega);intro v493 w16 ho hb hg hat;rw [←Ny492.out] at ho;have n0_:=zA.mk (hb);have n1_:=zA.mk (ho);clear HB HO_3;have HB:=n0_;have HO494:=n1_;clear n0_ n1_ ho hb hg hat))
             go_roundg k2
             case measure=>have:=HK1.out;have:=HK2.out;omega
             case rel=>exact ⟨(y492),(wrap64 (x5_2 + 1)),Zk,H',⟨by have:=HK1.out;have:=HK2.out;omega⟩,⟨Qh HO494⟩,⟨by repeat (first|(with_reducible first|exact HB.out|apply zE|apply zC|apply zG)|exact HB.out)⟩⟩
            ·rw [if_neg c14] at H
             exact absurd H (by simp)
          ·rw [if_neg c10] at H
           have c10b0:((wrap64 (bt (rdOf ByteArray.empty l0 x5_2) 0)) == x4_1)=false:=beq_eq_false_iff_ne.mpr c10;have c10b1:((wrap64 (bt (rdOf ByteArray.empty l0 x5_2) 0)) != x4_1)=true:=bne_iff_ne.mpr c10;have H':=zA.mk H;clear H;have p489:0≤(x5_2:Int):=Qa;have q489:x5_2 < (l0.length:Int):=Qa;obtain ⟨ad489,e489,hx489_0⟩:=Kd.at_string HR0.out x5_2 p489 q489;cases e489;replace hx489_0:=Qp HB hx489_0;replace p489:=eq_true p489;replace q489:=eq_true q489;have p490:0≤(x5_2:Int):=Qa;have q490:x5_2 < (l0.length:Int):=Qa;obtain ⟨ad490,e490,hx490_0⟩:=Kd.at_string HR0.out x5_2 p490 q490;obtain rfl:ad489=ad490:=(by injection e490);replace hx490_0:=Qp HB hx490_0;replace p490:=eq_true p490;replace q490:=eq_true q490;have p9:0≤(0:Int):=(by omega);have q9:0 < (rdOf ByteArray.empty l0 x5_2).size:=Zi;have hx9:∀h:0 < (rdOf ByteArray.empty l0 x5_2).size,(((rdOf ByteArray.empty l0 x5_2)[0]'h).toNat:Int)=bt (rdOf ByteArray.empty l0 x5_2) 0:=bt_at (rdOf ByteArray.empty l0 x5_2) 0;clear p9;have qi9:(0 < ((rdOf ByteArray.empty l0 x5_2).size:Int))=True:=eq_true (Qa);replace q9:=eq_true q9
           go_wp2
           go_roundg k2
           case measure=>have:=HK1.out;have:=HK2.out;omega
           case rel=>exact ⟨(x3_2),(wrap64 (x5_2 + 1)),Zk,H',⟨by have:=HK1.out;have:=HK2.out;omega⟩,⟨Qh HO_3⟩,⟨by repeat (first|(with_reducible first|exact HB.out|apply zE|apply zC|apply zG)|exact HB.out)⟩⟩
         ·rw [if_neg c8] at H
          exact absurd H (by simp)
        ·rw [if_neg c7] at H
         have c7b0:=decide_eq_false c7;have c7b1:decide (0 < (rdOf ByteArray.empty l0 x5_2).size)=false:=decide_eq_false (by omega);clear c7;have H':=zA.mk H;clear H;have p489:0≤(x5_2:Int):=Qa;have q489:x5_2 < (l0.length:Int):=Qa;obtain ⟨ad489,e489,hx489_0⟩:=Kd.at_string HR0.out x5_2 p489 q489;cases e489;replace hx489_0:=Qp HB hx489_0;replace p489:=eq_true p489;replace q489:=eq_true q489
         go_wp2
         go_roundg k2
         case measure=>have:=HK1.out;have:=HK2.out;omega
         case rel=>exact ⟨(x3_2),(wrap64 (x5_2 + 1)),Zk,H',⟨by have:=HK1.out;have:=HK2.out;omega⟩,⟨Qh HO_3⟩,⟨by repeat (first|(with_reducible first|exact HB.out|apply zE|apply zC|apply zG)|exact HB.out)⟩⟩
       ·rw [if_neg c6] at H
        exact absurd H (by simp)
      ·rw [if_neg c5] at H
       have c5b0:=decide_eq_false c5;clear c5;have H':=zA.mk H;clear H
       go_wp2
       go_roundg k2
       case measure=>have:=HK1.out;have:=HK2.out;omega
       case rel=>exact ⟨(x3_2),(wrap64 (x4_1 + 1)),Zk,H',⟨by have:=HK1.out;have:=HK2.out;omega⟩,⟨Qh HO_3⟩,⟨by repeat (first|(with_reducible first|exact HB.out|apply zE|apply zC|apply zG)|exact HB.out)⟩⟩
   ·rw [if_neg c4] at H
    have c4b0:=decide_eq_false c4;clear c4;obtain rfl:=Option.some.inj H
    go_wp2
    go_ret
    exact ⟨_,by first|rfl|(simp [zR,zS] <;> rfl)|(simp [*,zR,zS] <;> rfl),by (with_reducible repeat (first|apply Kd.R_alloc|apply Kd.R_drewN|apply Kd.R_drew));exact HO_3.out,by repeat (first|(with_reducible first|exact HB.out|apply zE|apply zC|apply zG)|exact HB.out)⟩
def yE.l0:Nat→List (List ByteArray)→List Int→List ByteArray→Int→Option (List Int)
 | 0,_,_,_,_=>none
 | k + 1,x1,x7,x8,x9=>if x9 < (x7.length:Int) then (if 0≤x9 then (if 0≤(rd x7 x9) then (if (rd x7 x9) < (x1.length:Int) then (if x8.length + (zk x1 (rd x7 x9)).length < 8796093022208 then (yE.l0 k x1 x7 (x8 ++ (zk x1 (rd x7 x9))) (wrap64 (x9 + 1))) else (none)) else (none)) else (none)) else (none)) else ((zi.f k x8).bind fun t507=>(some t507))
def yE.f (k:Nat) (a0_0:Int) (a0_1:Int) (l0_2:List Int) (l0_3:List (S42)) (l1:List (List ByteArray)) (a2:Int):Option (List Int):=(zx.f k a0_0 a0_1 l0_2 l0_3 a2).bind fun t496=>(yE.l0 k l1 t496 (([]:List ByteArray)) 0)
theorem yE.mono_l:∀k,(∀y0 y1 y2 y3,LeO (yE.l0 k y0 y1 y2 y3) (yE.l0 (k + 1) y0 y1 y2 y3))
 | 0=>fun _ _ _ _ r h=>by simp [yE.l0] at h
 | k + 1=>by
  have ih0:=yE.mono_l k
  ·intro y0 y1 y2 y3
   unfold yE.l0
   repeat' first
   | with_reducible first|exact ih0 _ _ _ _|exact zx.mono _ _ _ _ _ _|exact zi.mono _ _|exact LeO.refl _|exact LeO.none _|refine LeO.ite ?_ ?_|refine LeO.bind ?_ (fun _=> ?_)
theorem yE.mono:∀a0 a1 a2 a3 a4 a5 k,LeO (yE.f k a0 a1 a2 a3 a4 a5) (yE.f (k + 1) a0 a1 a2 a3 a4 a5):=by
 intro a0 a1 a2 a3 a4 a5 k;have ih0:=yE.mono_l k
 unfold yE.f
 repeat' first
   | with_reducible first|exact ih0 _ _ _ _|exact zx.mono _ _ _ _ _ _|exact zi.mono _ _|exact LeO.refl _|exact LeO.none _|refine LeO.ite ?_ ?_|refine LeO.bind ?_ (fun _=> ?_)
theorem yE.calls (k:Nat) (a0_0:Int) (a0_1:Int) (vg:Option Addr) (vh:Nat) (l0_2:List Int) (vl:Option Addr) (vi:Nat) (l0_3:List (S42)) (A1:Option Addr) (c1:Nat) (l1:List (List ByteArray)) (a2:Int) (r:List Int) (w:World) (hr0_2:Kd.C (Kd.int .i64) w vg l0_2.length l0_2) (hc0_2:l0_2.length≤vh) (hr0_3:Kd.C k42 w vl l0_3.length l0_3) (hc0_3:l0_3.length≤vi) (hr1:Kd.C (Kd.slice 9 Kd.string) w A1 l1.length l1) (hc1:l1.length≤c1) (h:yE.f k a0_0 a0_1 l0_2 l0_3 l1 a2=some r) :
  Calls Tryz.prog 12 #[.agg #[.int .i64 a0_0, .int .i64 a0_1, .slice vg l0_2.length vh, .slice vl l0_3.length vi], .slice A1 l1.length c1, .int .i64 a2] w fun e w'=>∃v0_:Value,e= .returned (v0_)∧Kd.R (Kd.int .i64) 3 w' w.heap.size (fun _=>True) v0_ r∧Below w.heap.size w w':=by
 have hu25:=Tryz.underlying25;have vI:=zA.mk hr0_2;have vJ:=zA.mk hc0_2;clear hr0_2 hc0_2;have vp:=zA.mk hr0_3;have vL:=zA.mk hc0_3;clear hr0_3 hc0_3;have HR1:=zA.mk hr1;have HC1:=zA.mk hc1;clear hr1 hc1;have HB:=zA.mk (Below.refl w.heap.size w);have H:((zx.f k a0_0 a0_1 l0_2 l0_3 a2).bind fun t496=>(yE.l0 k l1 t496 (([]:List ByteArray)) 0))=some r:=h;clear h;replace H:=ZzB H;obtain ⟨t496,A40,H⟩:=H;replace H:(yE.l0 k l1 t496 (([]:List ByteArray)) 0)=some r:=H;have A4:=zA.mk A40;clear A40;obtain ⟨y499,hy499⟩:∃y_:List ByteArray,y_=(([]:List ByteArray)):=⟨_,rfl⟩;replace H:(yE.l0 k l1 t496 y499 0)=some r:=Qb hy499 H;have Ny499:=zA.mk hy499;clear hy499;have H':=zA.mk H;clear H
 go_enter Tryz.func12,Tryz.ntmps12
 go_wp2_with (first|((with_reducible refine zw (N:=3) rfl ?_);refine yM (by rfl) (N:=3) (by rfl) (cs:= #[.int .i64 a0_0, .int .i64 a0_1, .slice vg l0_2.length vh, .slice vl l0_3.length vi]) (t:=25) Qm ?_;intro gb495 hg w5 hbox hb;have n0_:=zA.mk (zF Qc hb);have n1_:=zA.mk (hbox);have n2_:=zA.mk ((by rw [hg];exact (zD Qc):w.heap.size≤gb495));have n3_:=zA.mk ((by rw [hg];exact (zD Qc):w.heap.size≤gb495));clear HB;have HB:=n0_;have Vn:=n1_;have GW495:=n2_;have GE495:=n3_;clear n0_ n1_ n2_ n3_ hb hbox hg;have hcz6_0:=Qn Vn 0 rfl;have hcz6_1:=Qn Vn 1 rfl;have hcz6_2:=Qn Vn 2 rfl;have hcz6_3:=Qn Vn 3 rfl;have hfz6_0:=zB Vn.out 0;have hfz6_1:=zB Vn.out 1;have hfz6_2:=zB Vn.out 2;have hfz6_3:=zB Vn.out 3)|((with_reducible refine zj (f:=26) rfl ?_);refine yS (some 12) rfl rfl Tryz.func26 (by kernel_rfl) rfl #[.agg #[.int .i64 a0_0, .int .i64 a0_1, .slice vg l0_2.length vh, .slice vl l0_3.length vi], .int .i64 a2] rfl Q8 ?_;(with_reducible refine (zx.calls k a0_0 a0_1 _ _ l0_2 _ _ l0_3 a2 t496 _ ?side1 ?side2 ?side3 ?side4 A4.out).mono ?_);(case side1=>exact Qo (Kd.C_below vI.out HB.out));(case side2=>exact vJ.out);(case side3=>exact Qo (Kd.C_below vp.out HB.out));(case side4=>exact vL.out);rintro e w7 ⟨v497,rfl,ho0,hb⟩;refine ⟨_,rfl,?_⟩;have n0_:=zA.mk (Kd.R_lower ho0 (zD (Qd GE495)));have n1_:=zA.mk (zZ (g:=gb495) (Qi Vn) hb);have n2_:=zA.mk (zF (Qd GE495) hb);clear Vn HB;have HO498:=n0_;have Vn:=n1_;have HB:=n2_;clear n0_ n1_ n2_;(try clear hb ho0))|((with_reducible refine zw (N:=13) rfl ?_);refine Kd.R_lit Kd.string _ 9 (by rfl) (N:=13) (by rfl) (xs:=([]:List ByteArray)) (inner:= []) (ok:=fun _=>True) (okp:=fun _=>True) Qm ?hp (fun _ hk=>hk) trivial (Below.refl _ _) (Nat.le_refl _) (by simp) ?_;(case hp=>exact (Reps.none _ _));intro v500 w8 ho9 hb hg_ hnew_;clear hg_ hnew_;(first|rw [←Ny499.out] at ho9|(simp only [Int.reduceToNat] at ho9;rw [←Ny499.out] at ho9));have n0_:=zA.mk (Kd.R_below (Qh HO498) hb);have n1_:=zA.mk (Kd.R_lower ho9 (zD (Qd GE495)));have n2_:=zA.mk (zZ (g:=gb495) (Qi Vn) hb);have n3_:=zA.mk (zF (Qd GE495) hb);clear HO498 Vn HB;have HO498:=n0_;have HO501:=n1_;have Vn:=n2_;have HB:=n3_;clear n0_ n1_ n2_ n3_ hb ho9))
 go_loopg [8,9] k (fun kq v8 v9 w'=>∃(x8_1:List ByteArray) (x9_1:Int),v9= .int .i64 x9_1∧zA (yE.l0 kq l1 t496 x8_1 x9_1=some r)∧zA (kq≤k)∧zA (Kd.R (Kd.int .i64) 3 w' w.heap.size (fun _=>True) v497 t496)∧zA (Kd.R Kd.string 9 w' w.heap.size (fun _=>True) v8 x8_1)∧zA (w'.heap[gb495]? =some (.cells #[.int .i64 a0_0, .int .i64 a0_1,(.slice vg l0_2.length vh),(.slice vl l0_3.length vi)] 25 (0,0)))∧zA (Below w.heap.size w w'))
 case atStart=>exact ⟨(y499),(0),Zk,H',⟨Nat.le_refl _⟩,⟨Qh HO498⟩,⟨Qh HO501⟩,⟨Qi Vn⟩,⟨by repeat (first|(with_reducible first|exact HB.out|apply zE|apply zC|apply zG|refine zJ ?_ GE495.out)|exact HB.out)⟩⟩
 case round=>
  clear H';(try clear c1);(try clear c2);(try clear p2);(try clear hcz6_0);(try clear hcz6_1);(try clear hcz6_2);(try clear hcz6_3);(try clear hfz6_0);(try clear hfz6_1);(try clear hfz6_2);(try clear hfz6_3);obtain ⟨x8_1,x9_1,rfl,HA,HK1,HO_7,HO_8,Vn,HB⟩:=hrel;cases gk with
  | zero=>exact absurd HA.out (by simp [yE.l0])
  | succ k1=>
   have H:=HA.out;clear HA;simp only [yE.l0] at H
   by_cases c10:x9_1 < (t496.length:Int)
   ·rw [if_pos c10] at H
    have c10b0:=decide_eq_true c10;clear c10
    by_cases c11:0≤x9_1
    ·rw [if_pos c11] at H
     have c11b0:=decide_eq_true c11;clear c11
     by_cases c12:0≤(rd t496 x9_1)
     ·rw [if_pos c12] at H
      have c12b0:=decide_eq_true c12;clear c12
      by_cases c13:(rd t496 x9_1) < (l1.length:Int)
      ·rw [if_pos c13] at H
       have c13b0:=decide_eq_true c13;clear c13
       by_cases c14:x8_1.length + (zk l1 (rd t496 x9_1)).length < 8796093022208
       ·rw [if_pos c14] at H
        have LMc14:=zA.mk c14;clear c14;obtain ⟨y504,hy504⟩:∃y_:List ByteArray,y_=(x8_1 ++ (zk l1 (rd t496 x9_1))):=⟨_,rfl⟩;replace H:(yE.l0 k1 l1 t496 y504 (wrap64 (x9_1 + 1)))=some r:=Qb hy504 H;have Ny504:=zA.mk hy504;clear hy504;have H':=zA.mk H;clear H;obtain ⟨Ao15,co15,eo15⟩:=Kd.R_slice HO_7.out;subst eo15;have p502:0≤(x9_1:Int):=Qa;have q502:x9_1 < (t496.length:Int):=Qa;obtain ⟨ad502,e502,hx502_0⟩:=Kd.at_int (Kd.R_reads' HO_7.out).2.2 x9_1 p502 q502;cases e502;replace p502:=eq_true p502;replace q502:=eq_true q502;have p503:0≤((rd t496 x9_1):Int):=Qa;have q503:(rd t496 x9_1) < (l1.length:Int):=Qa;obtain ⟨ad503,A503_0,c503_0,e503,hx503_0,hl503_0,hi503_0⟩:=ZY HR1.out (rd t496 x9_1) p503 q503;cases e503;replace hx503_0:=Qp HB hx503_0;have HR503_0:=zA.mk hi503_0;have HC503_0:=zA.mk hl503_0;clear hi503_0 hl503_0;replace p503:=eq_true p503;replace q503:=eq_true q503
        go_wp2_with (first|((with_reducible refine ZK (b:= .append) (xs:= #[.tmp 20, .tmp 27]) rfl ?_);at_builtin;refine Kd.R_append_rows Kd.string (w0:=w) w.heap.size rfl (.tmp 20) (.tmp 27) 43 9 (.string ⟨#[]⟩) 16 rfl Tryz.underlying43 YM rfl (by decide) (by omega) u8 x8_1 (zk l1 (rd t496 x9_1)) _ _ _ (fun _=>True) (fun _=>False) rfl rfl ?aO ?aR (fun _ _ h=>h) (fun _ h=>h.elim) ?aF ?aB ?aS ?aL ?_;(case aR=>exact Qo (Kd.C_below HR503_0.out HB.out));(case aB=>exact (Qd GE495));(case aF=>exact (fun _ _=>trivial));(case aO=>exact (Qh HO_8));(case aS=>exact (zD (Qd GE495)));(case aL=>have:=LMc14.out;omega);intro v505 w16 ho hb hg hat;rw [←Ny504.out] at ho;have n0_:=zA.mk (Kd.R_over' (Qh HO_7) (Kd.R_typed (Qh HO_8)) (by decide) hg);have n1_:=zA.mk (ZD (g:=gb495) (Qi Vn) hg (Kd.R_ne HO_8.out Vn.out (by decide)));have n2_:=zA.mk (hb);have n3_:=zA.mk (ho);clear HO_7 Vn HB HO_8;have HO_7:=n0_;have Vn:=n1_;have HB:=n2_;have HO506:=n3_;clear n0_ n1_ n2_ n3_ ho hb hg hat))
        go_roundg k1
        case measure=>have:=HK1.out;omega
        case rel=>exact ⟨(y504),(wrap64 (x9_1 + 1)),Zk,H',⟨by have:=HK1.out;omega⟩,⟨Qh HO_7⟩,⟨Qh HO506⟩,⟨Qi Vn⟩,⟨by repeat (first|(with_reducible first|exact HB.out|apply zE|apply zC|apply zG|refine zJ ?_ GE495.out)|exact HB.out)⟩⟩
       ·rw [if_neg c14] at H
        exact absurd H (by simp)
      ·rw [if_neg c13] at H
       exact absurd H (by simp)
     ·rw [if_neg c12] at H
      exact absurd H (by simp)
    ·rw [if_neg c11] at H
     exact absurd H (by simp)
   ·rw [if_neg c10] at H
    have c10b0:=decide_eq_false c10;clear c10;replace H:=ZzB H;obtain ⟨t507,A170,H⟩:=H;replace H:(some t507)=some r:=H;have A17:=zA.mk A170;clear A170;obtain rfl:=Option.some.inj H;obtain ⟨Ao18,co18,eo18⟩:=Kd.R_slice HO_7.out;subst eo18;obtain ⟨Ao19,co19,eo19⟩:=Kd.R_slice HO_8.out;subst eo19
    go_wp2_with (first|((with_reducible refine zj (f:=28) rfl ?_);refine yS (some 30) rfl rfl Tryz.func28 (by kernel_rfl) rfl #[.slice Ao19 x8_1.length co19] rfl Q8 ?_;(with_reducible refine (zi.calls k1 _ _ x8_1 t507 _ ?side1 ?side2 A17.out).mono ?_);(case side1=>exact Qo ((Kd.R_reads' HO_8.out).2.2));(case side2=>exact (Kd.R_reads' HO_8.out).2.1);rintro e w20 ⟨v508,rfl,ho0,hb⟩;refine ⟨_,rfl,?_⟩;have n2_:=zA.mk (Kd.R_lower (yv ho0) (zD (Qd GE495)));have n4_:=zA.mk (zF (Qd GE495) hb);clear HB;have HO509:=n2_;have HB:=n4_;clear n2_ n4_;(try clear hb ho0)))
    go_ret
    exact ⟨_,by first|rfl|(simp [zR,zS] <;> rfl)|(simp [*,zR,zS] <;> rfl),by (with_reducible repeat (first|apply Kd.R_alloc|apply Kd.R_drewN|apply Kd.R_drew));exact Kd.R_mono HO509.out (fun _ hk=>trivial),by repeat (first|(with_reducible first|exact HB.out|apply zE|apply zC|apply zG|refine zJ ?_ GE495.out)|exact HB.out)⟩
end Go.Proofs.YtpfeebmfihgelaaGreat.HGuessPicks
