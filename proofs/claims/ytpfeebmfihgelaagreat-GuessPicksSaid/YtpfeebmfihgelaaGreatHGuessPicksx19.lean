-- Written by plus.py for this claim.
import Derived.Test.YtpfeebmfihgelaaGreatSGuessPicksVZip
import Derived.Test.YtpfeebmfihgelaaGreatHGuessPicksx0
import Derived.Test.YtpfeebmfihgelaaGreatHGuessPicksx6
import Derived.Test.YtpfeebmfihgelaaGreatHGuessPicksx17
import Derived.Test.YtpfeebmfihgelaaGreatHGuessPicksx18
namespace Go.Proofs.YtpfeebmfihgelaaGreat.HGuessPicks
open Go.RowKit Go.Proofs.YtpfeebmfihgelaaGreatW.PrintWords Go.Proofs.YtpfeebmfihgelaaGreatW.PrintLast Go.Proofs.YtpfeebmfihgelaaGreatW.PrintMore
attribute [local go_sem] yx yy ZI ZJ yo yp yz ZA
set_option linter.unusedVariables false
set_option linter.unusedSimpArgs false
mutual
def zK.l0:Nat→List (List ByteArray)→List (List ByteArray)→Int→Int→Int→List Int→List (S42)→Option ((List (List ByteArray)) × Int)
 | 0,_,_,_,_,_,_,_=>none
 | k + 1,x4,x6,x7,wM,wm,wD,wn=>if x7 < (wD.length:Int) then (if x6.length < 5864062014805 then (zK.l0 k x4 (x6 ++ [([]:List ByteArray)]) (wrap64 (x7 + 1)) wM wm wD wn) else (none)) else (zK.l1 k x4 x6 (⟨#[]⟩:ByteArray) 0 wM wm wD wn)
def zK.l1:Nat→List (List ByteArray)→List (List ByteArray)→ByteArray→Int→Int→Int→List Int→List (S42)→Option ((List (List ByteArray)) × Int)
 | 0,_,_,_,_,_,_,_,_=>none
 | k + 1,x4,x6,x8,x9,wM,wm,wD,wn=>if x9 < wm then (if x8.size + 1≤9223372036854775807 then (zK.l1 k x4 x6 (x8 ++ (⟨#[0]⟩:ByteArray)) (wrap64 (x9 + 1)) wM wm wD wn) else (none)) else (if 0 < (x6.length:Int) then (zK.l2 k x4 (x6.set (0:Int).toNat (([x8]:List ByteArray))) true wM wm wD wn) else (none))
def zK.l2:Nat→List (List ByteArray)→List (List ByteArray)→Bool→Int→Int→List Int→List (S42)→Option ((List (List ByteArray)) × Int)
 | 0,_,_,_,_,_,_,_=>none
 | k + 1,x4,x6,x10,wM,wm,wD,wn=>if x10=true then (zK.l3 k x4 x6 false 0 wM wm wD wn) else (some (x6,0))
def zK.l3:Nat→List (List ByteArray)→List (List ByteArray)→Bool→Int→Int→Int→List Int→List (S42)→Option ((List (List ByteArray)) × Int)
 | 0,_,_,_,_,_,_,_,_=>none
 | k + 1,x4,x6,x10,x11,wM,wm,wD,wn=>if x11 < (wn.length:Int) then (if 0≤x11 then (zK.l4 k x4 x6 x10 x11 0 wM wm wD wn ((zH wn x11).f0) ((zH wn x11).f1)) else (none)) else (zK.l2 k x4 x6 x10 wM wm wD wn)
def zK.l4:Nat→List (List ByteArray)→List (List ByteArray)→Bool→Int→Int→Int→Int→List Int→List (S42)→Int→List (S70)→Option ((List (List ByteArray)) × Int)
 | 0,_,_,_,_,_,_,_,_,_,_,_=>none
 | k + 1,x4,x6,x10,x11,x13,wM,wm,wD,wn,x378000,Vs=>if x13 < (Vs.length:Int) then (if 0≤x13 then (if (zg Vs x13).f0=true then (zK.l4 k x4 x6 x10 x11 (wrap64 (x13 + 1)) wM wm wD wn x378000 Vs) else (if 0≤(wrap64 (x13 + 1)) then (if (wrap64 (x13 + 1))≤(Vs.length:Int) then ((zf.f k (Vs.drop ((wrap64 (x13 + 1)):Int).toNat) wm x4 600).bind fun bt383=>(if bt383.2=true then (if 0≤((zg Vs x13).f1) then (if ((zg Vs x13).f1) < (x6.length:Int) then (if 0≤x378000 then (if x378000 < (x6.length:Int) then ((zQ.f k bt383.1 (zk x6 x378000) wm).bind fun t390=>((zo.f k (zk x6 ((zg Vs x13).f1)) t390).bind fun t393=>(if (t393.length:Int) > 600 then (some (([]:List (List ByteArray)),15)) else (if (t393.length:Int) > ((zk x6 ((zg Vs x13).f1)).length:Int) then (zK.l4 k x4 (x6.set (((zg Vs x13).f1):Int).toNat t393) true x11 (wrap64 (x13 + 1)) wM wm wD wn x378000 Vs) else (zK.l4 k x4 x6 x10 x11 (wrap64 (x13 + 1)) wM wm wD wn x378000 Vs))))) else (none)) else (none)) else (none)) else (none)) else (some (([]:List (List ByteArray)),15)))) else (none)) else (none))) else (none)) else (zK.l3 k x4 x6 x10 (wrap64 (x11 + 1)) wM wm wD wn)
end
def zK.f (k:Nat) (a0_0:Int) (a0_1:Int) (l0_2:List Int) (l0_3:List (S42)):Option ((List (List ByteArray)) × Int):=(yV.f k a0_0 a0_1 l0_2 l0_3).bind fun bt362=>(if bt362.2=0 then (zK.l0 k bt362.1 (([]:List (List ByteArray))) 0 a0_0 a0_1 l0_2 l0_3) else (some (([]:List (List ByteArray)),bt362.2)))
theorem zK.mono_l:∀k,(∀y0 y1 y2 y3 y4 y5 y6,LeO (zK.l0 k y0 y1 y2 y3 y4 y5 y6) (zK.l0 (k + 1) y0 y1 y2 y3 y4 y5 y6))∧(∀y0 y1 y2 y3 y4 y5 y6 y7,LeO (zK.l1 k y0 y1 y2 y3 y4 y5 y6 y7) (zK.l1 (k + 1) y0 y1 y2 y3 y4 y5 y6 y7))∧(∀y0 y1 y2 y3 y4 y5 y6,LeO (zK.l2 k y0 y1 y2 y3 y4 y5 y6) (zK.l2 (k + 1) y0 y1 y2 y3 y4 y5 y6))∧(∀y0 y1 y2 y3 y4 y5 y6 y7,LeO (zK.l3 k y0 y1 y2 y3 y4 y5 y6 y7) (zK.l3 (k + 1) y0 y1 y2 y3 y4 y5 y6 y7))∧(∀y0 y1 y2 y3 y4 y5 y6 y7 y8 y9 y10,LeO (zK.l4 k y0 y1 y2 y3 y4 y5 y6 y7 y8 y9 y10) (zK.l4 (k + 1) y0 y1 y2 y3 y4 y5 y6 y7 y8 y9 y10))
 | 0=>⟨fun _ _ _ _ _ _ _ r h=>by simp [zK.l0] at h,fun _ _ _ _ _ _ _ _ r h=>by simp [zK.l1] at h,fun _ _ _ _ _ _ _ r h=>by simp [zK.l2] at h,fun _ _ _ _ _ _ _ _ r h=>by simp [zK.l3] at h,fun _ _ _ _ _ _ _ _ _ _ _ r h=>by simp [zK.l4] at h⟩
 | k + 1=>by
  obtain ⟨ih0,ih1,ih2,ih3,ih4⟩:=zK.mono_l k;refine ⟨?_,?_,?_,?_,?_⟩
  ·intro y0 y1 y2 y3 y4 y5 y6
   unfold zK.l0
   repeat' first
   | with_reducible first|exact ih0 _ _ _ _ _ _ _|exact ih1 _ _ _ _ _ _ _ _|exact ih2 _ _ _ _ _ _ _|exact ih3 _ _ _ _ _ _ _ _|exact ih4 _ _ _ _ _ _ _ _ _ _ _|exact zQ.mono _ _ _ _|exact zo.mono _ _ _|exact yV.mono _ _ _ _ _|exact zf.mono _ _ _ _ _|exact LeO.refl _|exact LeO.none _|refine LeO.ite ?_ ?_|refine LeO.bind ?_ (fun _=> ?_)
  ·intro y0 y1 y2 y3 y4 y5 y6 y7
   unfold zK.l1
   repeat' first
   | with_reducible first|exact ih0 _ _ _ _ _ _ _|exact ih1 _ _ _ _ _ _ _ _|exact ih2 _ _ _ _ _ _ _|exact ih3 _ _ _ _ _ _ _ _|exact ih4 _ _ _ _ _ _ _ _ _ _ _|exact zQ.mono _ _ _ _|exact zo.mono _ _ _|exact yV.mono _ _ _ _ _|exact zf.mono _ _ _ _ _|exact LeO.refl _|exact LeO.none _|refine LeO.ite ?_ ?_|refine LeO.bind ?_ (fun _=> ?_)
  ·intro y0 y1 y2 y3 y4 y5 y6
   unfold zK.l2
   repeat' first
   | with_reducible first|exact ih0 _ _ _ _ _ _ _|exact ih1 _ _ _ _ _ _ _ _|exact ih2 _ _ _ _ _ _ _|exact ih3 _ _ _ _ _ _ _ _|exact ih4 _ _ _ _ _ _ _ _ _ _ _|exact zQ.mono _ _ _ _|exact zo.mono _ _ _|exact yV.mono _ _ _ _ _|exact zf.mono _ _ _ _ _|exact LeO.refl _|exact LeO.none _|refine LeO.ite ?_ ?_|refine LeO.bind ?_ (fun _=> ?_)
  ·intro y0 y1 y2 y3 y4 y5 y6 y7
   unfold zK.l3
   repeat' first
   | with_reducible first|exact ih0 _ _ _ _ _ _ _|exact ih1 _ _ _ _ _ _ _ _|exact ih2 _ _ _ _ _ _ _|exact ih3 _ _ _ _ _ _ _ _|exact ih4 _ _ _ _ _ _ _ _ _ _ _|exact zQ.mono _ _ _ _|exact zo.mono _ _ _|exact yV.mono _ _ _ _ _|exact zf.mono _ _ _ _ _|exact LeO.refl _|exact LeO.none _|refine LeO.ite ?_ ?_|refine LeO.bind ?_ (fun _=> ?_)
  ·intro y0 y1 y2 y3 y4 y5 y6 y7 y8 y9 y10
   unfold zK.l4
   repeat' first
   | with_reducible first|exact ih0 _ _ _ _ _ _ _|exact ih1 _ _ _ _ _ _ _ _|exact ih2 _ _ _ _ _ _ _|exact ih3 _ _ _ _ _ _ _ _|exact ih4 _ _ _ _ _ _ _ _ _ _ _|exact zQ.mono _ _ _ _|exact zo.mono _ _ _|exact yV.mono _ _ _ _ _|exact zf.mono _ _ _ _ _|exact LeO.refl _|exact LeO.none _|refine LeO.ite ?_ ?_|refine LeO.bind ?_ (fun _=> ?_)
theorem zK.mono:∀a0 a1 a2 a3 k,LeO (zK.f k a0 a1 a2 a3) (zK.f (k + 1) a0 a1 a2 a3):=by
 intro a0 a1 a2 a3 k;obtain ⟨ih0,ih1,ih2,ih3,ih4⟩:=zK.mono_l k
 unfold zK.f
 repeat' first
   | with_reducible first|exact ih0 _ _ _ _ _ _ _|exact ih1 _ _ _ _ _ _ _ _|exact ih2 _ _ _ _ _ _ _|exact ih3 _ _ _ _ _ _ _ _|exact ih4 _ _ _ _ _ _ _ _ _ _ _|exact zQ.mono _ _ _ _|exact zo.mono _ _ _|exact yV.mono _ _ _ _ _|exact zf.mono _ _ _ _ _|exact LeO.refl _|exact LeO.none _|refine LeO.ite ?_ ?_|refine LeO.bind ?_ (fun _=> ?_)
def zK.T26:Bool × List (List Nat × List Nat):=(true,[([],[]),([0],[0]),([],[]),([2],[2]),([1,3],[1,3]),([],[]),([5],[5]),([],[]),([4,6,7],[4,6,7]),([8],[8]),([9],[9]),([9],[9]),([10,8,0,1,2,3,4,5,6,7,8,9,10],[10]),([11,12,0,1,2,3,4,5,6,7,8,9,10,11,12],[11])])
def zK.B26:List Nat:= [0,1,0,4,15,0,32,0,255,511,1023,1023,2047,8191]
theorem zK.tab26:rtab .any (qJ Tryz.f21 26)=zK.T26:=by kernel_rfl
theorem zK.bits26:ZP zK.T26.2 zK.B26=true:=by kernel_rfl
set_option maxHeartbeats 8000000 in
set_option maxRecDepth 100000 in
theorem zK.calls (k:Nat) (a0_0 a0_1:Int) (A2:Option Addr) (c2:Nat) (l0_2:List Int) (A3:Option Addr) (c3:Nat) (l0_3:List S42) (r1:List (List ByteArray)) (r2:Int) (w:World)
  (hr2:Kd.C (Kd.int .i64) w A2 l0_2.length l0_2) (hc2:l0_2.length≤c2) (hr3:Kd.C k42 w A3 l0_3.length l0_3) (hc3:l0_3.length≤c3) (h:zK.f k a0_0 a0_1 l0_2 l0_3=some (r1,r2)) :
  Calls Tryz.prog 21 #[.agg #[.int .i64 a0_0, .int .i64 a0_1, .slice A2 l0_2.length c2, .slice A3 l0_3.length c3]] w fun e w'=>∃v0_:Value,e= .returned (.tuple #[v0_, .int .i64 r2])∧Kd.S (Kd.slice 9 Kd.string) 43 w' w.heap.size (fun _=>True) v0_ r1∧Below w.heap.size w w':=by
 obtain ⟨⟨x4,e4⟩,hx,ha⟩:=ZzB h;have HX:=zA.mk hx;have HR2:=zA.mk hr2;have HC2:=zA.mk hc2;have HR3:=zA.mk hr3;have HC3:=zA.mk hc3;have hu:=Tryz.underlying25;have hu61:=Tryz.underlying42;have hu71:=Tryz.underlying70
 by_cases h0:e4=0
 ·subst h0
  rw [if_pos rfl] at ha;have H':=zA.mk ha;clear h ha hx hr2 hr3 hc2 hc3
  go_enter Tryz.func21,Tryz.ntmps21
  go_wp2_with fail
  refine (yV.calls k a0_0 a0_1 A2 c2 l0_2 A3 c3 l0_3 x4 0 _ (Kd.C_alloc HR2.out _) HC2.out (Kd.C_alloc HR3.out _) HC3.out HX.out).mono ?_;rintro e w1 ⟨v1,rfl,hS1,hb1⟩;have q0:=(hb1.cell (p:=⟨w.heap.size,0,none⟩) (by simp)).trans (zN (yh _ _) 0);have q1:=(hb1.cell (p:=⟨w.heap.size,1,none⟩) (by simp)).trans (zN (yh _ _) 1);have q2:=(hb1.cell (p:=⟨w.heap.size,2,none⟩) (by simp)).trans (zN (yh _ _) 2);have q3:=(hb1.cell (p:=⟨w.heap.size,3,none⟩) (by simp)).trans (zN (yh _ _) 3);have HB1:=zA.mk (zF (zE (Below.refl w.heap.size w) _) hb1);have HR3':=zA.mk (Kd.C_below (Kd.C_alloc HR3.out _) hb1);obtain ⟨Af,cf,ef⟩:=Kd.S_slice hS1;subst ef;have HF:=zA.mk (Kd.S_reads' hS1).2.2;have HFL:=zA.mk (Kd.S_reads' hS1).2.1;have Q1:=zA.mk q1;have Q2:=zA.mk q2;have Q3:=zA.mk q3;clear hb1 hS1
  go_wp2_with (first|((with_reducible refine zw (N:=26) rfl ?_);refine Kd.S_lit (Kd.slice 9 Kd.string) _ 43 (by rfl) (N:=26) (by rfl) (xs:=([]:List (List ByteArray))) (inner:= []) (ok:=fun _=>True) (okp:=fun _=>True) Qm ?hp (fun _ hk=>hk) trivial (Below.refl _ _) (Nat.le_refl _) (by simp) ?_;(case hp=>exact (Reps.none _ _));intro v26 w7 ho8 hb hg_ hnew_;clear hg_ hnew_;have HO:=zA.mk ho8;have HB7:=zA.mk hb;clear ho8 hb))
  clear q0 q1 q2 q3
  go_loopg [6,7] k (fun kq v6 v7 wr=>∃(x6:List (List ByteArray)) (x7:Int),v7= .int .i64 x7∧zA (zK.l0 kq x4 x6 x7 a0_0 a0_1 l0_2 l0_3=some (r1,r2))∧zA (kq≤k)∧zA (Kd.S (Kd.slice 9 Kd.string) 43 wr w1.heap.size (fun _=>True) v6 x6)∧zA (Below w1.heap.size w1 wr))
  case atStart=>exact ⟨[],0,rfl,H',⟨Nat.le_refl _⟩,HO,HB7⟩
  case round=>
   clear H' HO HB7;obtain ⟨x6,x7,rfl,HA,HK1,HO,HB⟩:=hrel;have q2:=(HB.out.cell (ZzA _ _ Q2.out)).trans Q2.out;cases gk with
   | zero=>exact absurd HA.out (by simp [zK.l0])
   | succ k1=>
    have H:=HA.out;clear HA;simp only [zK.l0] at H
    by_cases c9:x7 < (l0_2.length:Int)
    ·rw [if_pos c9] at H
     have c9b0:=decide_eq_true c9
     by_cases c10:x6.length < 5864062014805
     ·rw [if_pos c10] at H
      have LM:=zA.mk c10;have H':=zA.mk H;clear H c9 c10
      go_wp2_with (first|((with_reducible refine ZK (b:= .append) (xs:= #[.tmp 34, .tmp 35]) rfl ?_);at_builtin;refine Kd.S_append (Kd.slice 9 Kd.string) (w0:=w1) w1.heap.size rfl (.tmp 34) (.tmp 35) 32 43 (.slice none 0 0) 24 rfl Tryz.underlying32 (show (Tryz.prog.info? 43).map (fun i=>(i.zero,i.size,i.bytes))=some (some (.slice none 0 0),1,24) from by kernel_rfl) rfl (by decide) (by omega) u6 x6 ([]:List ByteArray) [.slice none 0 0] (fun _=>True) (fun _=>False) rfl rfl ?aP (fun k_ hk_=>hk_.elim) ?aF ?aO ?aB ?aS ?aL ?_;(case aP=>exact Kd.M_row (Kd.R_nil _ _ _ _ _));(case aB=>exact (by repeat (first|exact HB.out|apply zE|apply zC|apply zG)));(case aF=>exact (fun k_ hk=>trivial));(case aO=>exact (by (with_reducible repeat (first|apply Kd.S_alloc|apply Kd.S_drewN|apply Kd.S_drew));exact Kd.S_mono HO.out (fun k_ hk=>⟨hk,fun e_=>e_⟩)));(case aS=>exact (zD (by repeat (first|exact HB.out|apply zE|apply zC|apply zG))));(case aL=>have:=LM.out;omega);intro v36 w12 ho hb hg hat;have HO2:=zA.mk ho;have HB2:=zA.mk hb;clear ho hb hg hat))
      go_roundg k1
      case measure=>have:=HK1.out;omega
      case rel=>exact ⟨_,_,rfl,H',⟨by have:=HK1.out;omega⟩,HO2,HB2⟩
     ·rw [if_neg c10] at H;cases H
    ·rw [if_neg c9] at H
     have c9b0:=decide_eq_false c9;have H':=zA.mk H;clear H c9
     go_wp2
     clear q2 c9b0
     go_loopg [8,9] k1 (fun kq v8 v9 wr=>∃(x8:ByteArray) (x9:Int),v8= .string x8∧v9= .int .i64 x9∧zA (zK.l1 kq x4 x6 x8 x9 a0_0 a0_1 l0_2 l0_3=some (r1,r2))∧zA (kq≤k1)∧zA (Kd.S (Kd.slice 9 Kd.string) 43 wr w1.heap.size (fun _=>True) u6 x6)∧zA (Below w1.heap.size w1 wr))
     case atStart=>exact ⟨_,0,rfl,rfl,H',⟨Nat.le_refl _⟩,HO,HB⟩
     case round=>
      clear H' HO HB;obtain ⟨x8,x9,rfl,rfl,HA,HK2,HO,HB⟩:=hrel;have q1:=(HB.out.cell (ZzA _ _ Q1.out)).trans Q1.out;cases gk with
      | zero=>exact absurd HA.out (by simp [zK.l1])
      | succ k2=>
       have H:=HA.out;clear HA;simp only [zK.l1] at H
       by_cases c14:x9 < a0_1
       ·rw [if_pos c14] at H
        have c14b0:=decide_eq_true c14
        by_cases c15:x8.size + 1≤9223372036854775807
        ·rw [if_pos c15] at H
         have c15b0:=eq_true c15;have c15b1:=decide_eq_true c15;have c15b2:(9223372036854775807 < x8.size + 1)=False:=eq_false (Nat.not_lt.2 c15);have H':=zA.mk H;clear H c14 c15
         go_wp2
         go_roundg k2
         case measure=>have:=HK1.out;have:=HK2.out;omega
         case rel=>exact ⟨_,_,rfl,rfl,H',⟨by have:=HK2.out;omega⟩,HO,HB⟩
        ·rw [if_neg c15] at H;cases H
       ·rw [if_neg c14] at H
        have c14b0:=decide_eq_false c14
        by_cases c17:0 < (x6.length:Int)
        ·rw [if_pos c17] at H
         have H':=zA.mk H;obtain ⟨gs,cap,e6,hge,hgl,-⟩:=Kd.S_form HO.out (by omega);subst e6;have P0:=zA.mk c17;have p0n:(0 < x6.length)=True:=eq_true (by omega);have HGE:=zA.mk hge;clear H c14 c17 hge hgl
         go_wp2_with (first|((with_reducible refine zw (N:=47) rfl ?_);refine Kd.R_lit Kd.string _ 9 (by rfl) (N:=47) (by rfl) (xs:=([x8]:List ByteArray)) (inner:= [.string x8]) (ok:=fun _=>True) (okp:=fun _=>True) Qm ?hp (fun _ hk=>hk) trivial (Below.refl _ _) (Nat.le_refl _) (by simp) ?_;(case hp=>exact (Reps.one (show Kd.M Kd.string _ _ _ x8 [.string x8] from rfl) (Reps.none _ _)));intro v47 w4 ho4 hb hg_ hnew_;clear hg_ hnew_;obtain ⟨A4,c4,e4⟩:=Kd.R_slice ho4;subst e4;have hput:=zc.put_row (W0:=wr) HB.out.size HO.out hb ho4 0 (Int.le_refl 0) P0.out;have hfz:=(zc.put_ok (Kd.S_below HO.out hb) 0 (Int.le_refl 0) P0.out).1;obtain ⟨A5,c5,hcz⟩:=(zc.put_ok (Kd.S_below HO.out hb) 0 (Int.le_refl 0) P0.out).2;(try simp only [Int.toNat_zero] at hcz hfz);have HP1:=zA.mk hput.1;have HB4:=zA.mk hb;clear hput hb ho4))
         refine Plus.hide_world fun W5 hW5=> ?_
         have HB5:zA (Below w1.heap.size w1 W5):=⟨by rw [←hW5.out];exact zJ (zF HB.out HB4.out) HGE.out⟩;have HS5:zA (Kd.S (Kd.slice 9 Kd.string) 43 W5 w1.heap.size (fun _=>True) (.slice (some ⟨gs,0,none⟩) x6.length cap) (x6.set 0 [x8])):=⟨by rw [←hW5.out];exact HP1.out⟩;clear hW5 HP1 HB4 hcz hfz P0 p0n q1 c14b0 HO HB
         go_loopg [10] k2 (fun kq v10 wr=>∃(m:Bool) (st:List (List ByteArray)),v10= .bool m∧zA (zK.l2 kq x4 st m a0_0 a0_1 l0_2 l0_3=some (r1,r2))∧zA (kq≤k2)∧zA (Kd.S (Kd.slice 9 Kd.string) 43 wr w1.heap.size (fun _=>True) (.slice (some ⟨gs,0,none⟩) x6.length cap) st)∧zA (Below w1.heap.size w1 wr))
         case atStart=>exact ⟨true,_,rfl,H',⟨Nat.le_refl _⟩,HS5,HB5⟩
         case round=>
          clear H' HS5 HB5;obtain ⟨m,st,rfl,HA,HK3,HO,HB⟩:=hrel;cases gk with
          | zero=>exact absurd HA.out (by simp [zK.l2])
          | succ k3=>
           have H:=HA.out;clear HA;simp only [zK.l2] at H;cases m
           ·rw [if_neg Bool.false_ne_true] at H
            obtain ⟨rfl,rfl⟩:=Prod.mk.inj (Option.some.inj H);clear H
            go_wp2
            go_ret2
            exact ⟨_,rfl,Kd.S_lower HO.out HB1.out.size,zF HB1.out HB.out⟩
           ·rw [if_pos rfl] at H
            have H':=zA.mk H;clear H
            go_wp2
            go_loopg [10,11] k3 (fun kq v10 v11 wr=>∃(m:Bool) (x11:Int) (st:List (List ByteArray)),v10= .bool m∧v11= .int .i64 x11∧zA (zK.l3 kq x4 st m x11 a0_0 a0_1 l0_2 l0_3=some (r1,r2))∧zA (kq≤k3)∧zA (Kd.S (Kd.slice 9 Kd.string) 43 wr w1.heap.size (fun _=>True) (.slice (some ⟨gs,0,none⟩) x6.length cap) st)∧zA (Below w1.heap.size w1 wr))
            case atStart=>exact ⟨false,0,_,rfl,rfl,H',⟨Nat.le_refl _⟩,HO,HB⟩
            case round=>
             clear H' HO HB;obtain ⟨m,x11,st,rfl,rfl,HA,HK4,HO,HB⟩:=hrel;have q3:=(HB.out.cell (ZzA _ _ Q3.out)).trans Q3.out;cases gk with
             | zero=>exact absurd HA.out (by simp [zK.l3])
             | succ k4=>
              have H:=HA.out;clear HA;simp only [zK.l3] at H
              by_cases c20:x11 < (l0_3.length:Int)
              ·rw [if_pos c20] at H
               by_cases c21:0≤x11
               ·rw [if_pos c21] at H
                have c20b0:=decide_eq_true c20;obtain ⟨ad,Ar,cr,e1,hx0,hx1,hl1,hi1⟩:=ZE HR3'.out x11 c21 c20;cases e1;replace hx0:=Qp HB hx0;replace hx1:=Qp HB hx1
                generalize hs:zH l0_3 x11=s at H hx0 hx1 hl1 hi1
                have p1:=eq_true c21;have q1:=eq_true c20;have HI1:=zA.mk hi1;have HL1:=zA.mk hl1;have H':=zA.mk H;clear H c20 c21 hs hi1 hl1
                go_wp2
                refine Plus.hide_world fun W6 hW6=> ?_
                have hb6:Below wr.heap.size wr W6:=by rw [←hW6.out];repeat (first|exact Below.refl _ _|apply zE|refine zJ ?_ (Nat.le_refl _))
                have z0:W6.cell? ⟨wr.heap.size,0,none⟩=some (.int .i64 s.f0):=by rw [←hW6.out];exact zN (yh _ _) 0
                have z1:W6.cell? ⟨wr.heap.size,1,none⟩=some (.slice Ar s.f1.length cr):=by rw [←hW6.out];exact zN (yh _ _) 1
                have hgs:gs < wr.heap.size:=Kd.S_lt HO.out gs rfl
                generalize hg6:wr.heap.size=g6 at z0 z1
                have hgs6:gs < g6:=hg6▸hgs;have Z0:=zA.mk z0;have Z1:=zA.mk z1;have HO6:=zA.mk (Kd.S_below HO.out hb6);have HB6:=zA.mk (zF HB.out hb6);clear hx0 hx1 p1 q1 c20b0 hb6 z0 z1 hW6 q3 HO HB hgs;have hne:g6≠gs:=Nat.ne_of_gt hgs6
                go_loopg [10,13] k4 (fun kq v10 v13 wq=>∃(m:Bool) (x13:Int) (st:List (List ByteArray)),v10= .bool m∧v13= .int .i64 x13∧zA (zK.l4 kq x4 st m x11 x13 a0_0 a0_1 l0_2 l0_3 s.f0 s.f1=some (r1,r2))∧zA (kq≤k4)∧zA (Kd.S (Kd.slice 9 Kd.string) 43 wq w1.heap.size (fun _=>True) (.slice (some ⟨gs,0,none⟩) x6.length cap) st)∧zA (yA W6 wq gs none)∧zA (Below w1.heap.size w1 wq))
                case atStart=>exact ⟨m,0,_,rfl,rfl,H',⟨Nat.le_refl _⟩,HO6,⟨yA.refl _ _ _⟩,HB6⟩
                case round=>
                 clear H' HO6 HB6;obtain ⟨m,x13,st,rfl,rfl,HA,HK5,HO,HQ,HB⟩:=hrel;have z1:=zc.keepc HQ.out hne Z1.out;cases gk with
                 | zero=>exact absurd HA.out (by simp [zK.l4])
                 | succ k5=>
                  have H:=HA.out;clear HA;simp only [zK.l4] at H
                  by_cases c30:x13 < (s.f1.length:Int)
                  ·rw [if_pos c30] at H
                   by_cases c31:0≤x13
                   ·rw [if_pos c31] at H
                    have c30b0:=decide_eq_true c30;obtain ⟨ad5,e1,hx0,hx1⟩:=ZQ HI1.out x13 c31 c30;cases e1;replace hx0:=Qp HB hx0;replace hx1:=Qp HB hx1
                    generalize hs:zg s.f1 x13=sy at H hx0 hx1
                    have p1:=eq_true c31;have q1':=eq_true c30;have P31:=zA.mk c31;have P30:=zA.mk c30;clear c30 c31 hs;cases hb0:sy.f0
                    ·rw [hb0,if_neg Bool.false_ne_true] at H
                     rw [hb0] at hx0;obtain ⟨ji,hji⟩:∃j_:Int,wrap64 (x13 + 1)=j_:=⟨_,rfl⟩;rw [hji] at H;have hjiw:IntKind.i64.wrap (x13 + 1)=ji:=(yl _).trans hji
                     by_cases c32:0≤ji
                     ·rw [if_pos c32] at H
                      by_cases c33:ji≤(s.f1.length:Int)
                      ·rw [if_pos c33] at H
                       obtain ⟨y,hy⟩:∃y_:List S70,y_=s.f1.drop ji.toNat:=⟨_,rfl⟩;rw [←hy] at H;obtain ⟨⟨xr,okx⟩,hr,H⟩:=ZzB H;have HR:=zA.mk hr;have H':=zA.mk H;clear H hr;obtain ⟨i0,hi0,_,hsz,_⟩:=info_parts info70;have hcut:=cut_from (P:=Tryz.prog) 40 70 .i64 Tryz.underlying40 hi0 2 hsz (some ad5) s.f1.length cr ji c32 c33;have hr43:=Kd.C_drop (m:=ji.toNat) (c:=cr) HI1.out (by omega) HL1.out;obtain ⟨A43,hA43⟩:∃A1,A1=(if cr=ji.toNat then (some ad5) else ((some ad5):Option Addr).map (·.add (ji.toNat * 2))):=⟨_,rfl⟩;obtain ⟨c43,hc43⟩:∃c1,c1=cr - ji.toNat:=⟨_,rfl⟩;have hy43:y.length=s.f1.length - ji.toNat:=(by rw [hy,List.length_drop]);rw [show s.f1.drop ji.toNat=y from hy.symm] at hr43;replace hr43:Kd.C k70 w1 A43 y.length y:=(by rw [hA43];exact hr43);rw [←hy43,←hA43,←hc43] at hcut;have HRY:=zA.mk hr43;have HCY:=zA.mk (show y.length≤c43 from by rw [hy43,hc43];exact Nat.sub_le_sub_right HL1.out _);have q1:=(HB.out.cell (ZzA _ _ Q1.out)).trans Q1.out;have p32:=eq_true c32;have p33:=eq_true c33;clear hr43 hi0 hsz hc43 hA43 hy43 hy c32 c33
                       go_wp2
                       refine YJ (n:=14) (S:=fun w'=>w'.cell? ⟨g6,1,none⟩=some (.slice (some ad5) s.f1.length cr)∧w'.cell? ⟨w.heap.size,1,none⟩=some (.int .i64 a0_1)) (ds:= []) #[false,false,false,false,false,false,false,false,false,false,false,false,false,false] (by kernel_rfl) rfl rfl ⟨(show wr.drew.cell? _=_ from z1),(show wr.drew.cell? _=_ from q1)⟩ (fun hHeld=> ?_);refine ZG zK.tab26 zK.bits26 (fun HT_ HW_=> ?_);refine Qq (i:=0) (N:=some 76) #[true,false,false,false,false,false,false,false,false,false,false,false,false,false] HT_.out ?_;refine Qq (i:=2) (N:=some 78) #[true,false,true,false,false,false,false,false,false,false,false,false,false,false] HT_.out ?_;refine Qq (i:=3) (N:=some 79) #[true,false,true,true,false,false,false,false,false,false,false,false,false,false] HT_.out ?_;refine Qq (i:=5) (N:=some 81) #[true,false,true,true,false,true,false,false,false,false,false,false,false,false] HT_.out ?_;refine Qq (i:=7) (N:=some 83) #[true,false,true,true,false,true,false,true,false,false,false,false,false,false] HT_.out ?_;refine Qt (i:=1) (N:=some 77) #[true,true,true,true,false,true,false,true,false,false,false,false,false,false] HT_.out HW_.out hHeld ?_;refine Qq (i:=4) (N:=some 80) #[true,true,true,true,true,true,false,true,false,false,false,false,false,false] HT_.out ?_;refine Qt (i:=6) (N:=some 82) #[true,true,true,true,true,true,true,true,false,false,false,false,false,false] HT_.out HW_.out hHeld ?_;refine one_ (i:=8) (N:=some 84) #[true,true,true,true,true,true,true,true,true,false,false,false,false,false] rfl rfl (yr HT_.out (by kernel_rfl)) (by decide) (fun K hK=> ?_);refine Yg Tryz.func22 (by kernel_rfl) rfl #[.slice A43 y.length c43, .int .i64 a0_1, .slice Af x4.length cf, .int .i64 600] (by rfl) rfl rfl (by simp only [List.map_toArray,List.map_cons,List.map_nil];rfl) ?_
                       with_reducible refine (zf.calls k5 A43 c43 y a0_1 Af cf x4 600 xr okx _ (Kd.C_drew (Kd.C_below HRY.out HB.out)) HCY.out (Kd.C_drew (Kd.C_below HF.out HB.out)) HFL.out HR.out).mono ?_
                       rintro e w8 ⟨v8,rfl,hR8,hb8⟩;refine ⟨_,rfl,?_⟩;replace hb8:Below wr.heap.size wr w8:=zF (zG (Below.refl wr.heap.size wr)) hb8;refine hK.out _ _ ⟨(hb8.cell (ZzA _ _ z1)).trans z1,(hb8.cell (ZzA _ _ q1)).trans q1⟩ (fun hHeld=> ?_);clear hK K;refine yu (a':= ?_) ?_ ?_;rotate_left
                       ·show Act.put _ (some 84) _=_
                        simp only [Act.put,List.setIfInBounds_toArray,List.set_cons_zero,List.set_cons_succ,yl,yq]
                        rfl
                       refine Qq (i:=9) (N:=some 75) #[true,true,true,true,true,true,true,true,true,true,false,false,false,false] HT_.out ?_;refine Qq (i:=10) (N:=some 85) #[true,true,true,true,true,true,true,true,true,true,true,false,false,false] HT_.out ?_;refine Qq (i:=11) (N:=some 86) #[true,true,true,true,true,true,true,true,true,true,true,true,false,false] HT_.out ?_;refine Qq (i:=12) (N:=some 14) #[true,true,true,true,true,true,true,true,true,true,true,true,true,false] HT_.out ?_;refine Qq (i:=13) (N:=some 15) #[true,true,true,true,true,true,true,true,true,true,true,true,true,true] HT_.out ?_;refine YS (Zq HT_.out (by kernel_rfl)) ?_;clear hHeld HT_ HW_;obtain ⟨Ax,cx,ex⟩:=Kd.R_slice hR8;subst ex;have HX:=zA.mk (Kd.R_reads' hR8).2.2;have HXL:=zA.mk (Kd.R_reads' hR8).2.1;have HB8:=zA.mk (zF HB.out hb8);have HO8:=zA.mk (Kd.S_below HO.out hb8);have HQ8:=zA.mk (yA.trans HQ.out (yA.of_below hb8 gs none) (.inl rfl));replace hx1:=(hb8.cell (ZzA _ _ hx1)).trans hx1;replace z1:=(hb8.cell (ZzA _ _ z1)).trans z1;replace q1:=(hb8.cell (ZzA _ _ q1)).trans q1;clear hR8 hb8 hx0 HO HQ HB hcut;cases okx
                       ·have H:=H'.out
                        rw [if_neg (by simp)] at H;obtain ⟨rfl,rfl⟩:=Prod.mk.inj (Option.some.inj H);clear H
                        go_wp2
                        go_ret2
                        exact ⟨_,rfl,Kd.S_nil _ _ _ _ _,zF HB1.out HB8.out⟩
                       ·have H:=H'.out
                        rw [if_pos rfl] at H
                        have key:(0≤sy.f1∧sy.f1 < (st.length:Int))∧(0≤s.f0∧s.f0 < (st.length:Int)):=by
                         by_cases d1:0≤sy.f1
                         ·rw [if_pos d1] at H
                          by_cases d2:sy.f1 < (st.length:Int)
                          ·rw [if_pos d2] at H
                           by_cases d3:0≤s.f0
                           ·rw [if_pos d3] at H
                            by_cases d4:s.f0 < (st.length:Int)
                            ·exact ⟨⟨d1,d2⟩,d3,d4⟩
                            ·rw [if_neg d4] at H;cases H
                           ·rw [if_neg d3] at H;cases H
                          ·rw [if_neg d2] at H;cases H
                         ·rw [if_neg d1] at H;cases H
                        obtain ⟨⟨d1,d2⟩,d3,d4⟩:=key;rw [if_pos d1,if_pos d2,if_pos d3,if_pos d4] at H;obtain ⟨c,hc,H⟩:=ZzB H;obtain ⟨j,hj,H⟩:=ZzB H;have HC:=zA.mk hc;have HJ:=zA.mk hj;have hn:=(Kd.S_reads' HO8.out).1;obtain ⟨ady,Ay,cy,ey,hy0,hyl,hyr⟩:=ZY (Kd.S_reads' HO8.out).2.2 sy.f1 d1 d2
                        obtain rfl:(⟨gs,0,none⟩:Addr)=ady:=by injection ey
                        obtain ⟨adz,Az,cz,ez,hz0,hzl,hzr⟩:=ZY (Kd.S_reads' HO8.out).2.2 s.f0 d3 d4
                        obtain rfl:(⟨gs,0,none⟩:Addr)=adz:=by injection ez
                        have HYL:=zA.mk hyl;have HYR:=zA.mk hyr;have HZL:=zA.mk hzl;have HZR:=zA.mk hzr;have z0:=zc.keepc HQ8.out hne Z0.out;have D1:=zA.mk d1;have D2:=zA.mk (show sy.f1 < (x6.length:Int) by rw [hn];exact d2);have d1':=eq_true d1;have d2':=eq_true D2.out;have d3':=eq_true d3;have d4':=eq_true (show s.f0 < (x6.length:Int) by rw [hn];exact d4)
                        try simp only [ZV] at hy0 hz0
                        have hH:=zA.mk H;clear H hc hj hn hyl hyr hzl hzr ey ez d1 d2 d3 d4 H'
                        go_wp2
                        have HKEEP:=zA.mk (show ∀V:World,Below w8.heap.size w8 V→V.cell? ⟨gs,sy.f1.toNat,none⟩=some (.slice Ay (zk st sy.f1).length cy)∧V.cell? ⟨gs,s.f0.toNat,none⟩=some (.slice Az (zk st s.f0).length cz)∧V.cell? ⟨g6,0,none⟩=some (.int .i64 s.f0)∧V.cell? ⟨w.heap.size,1,none⟩=some (.int .i64 a0_1) from fun V hv=>⟨(hv.cell (ZzA _ _ hy0)).trans hy0,(hv.cell (ZzA _ _ hz0)).trans hz0,(hv.cell (ZzA _ _ z0)).trans z0,(hv.cell (ZzA _ _ q1)).trans q1⟩)
                        go_region_held3 (fun V=>V.cell? ⟨gs,sy.f1.toNat,none⟩=some (.slice Ay (zk st sy.f1).length cy)∧V.cell? ⟨gs,s.f0.toNat,none⟩=some (.slice Az (zk st s.f0).length cz)∧V.cell? ⟨g6,0,none⟩=some (.int .i64 s.f0)∧V.cell? ⟨w.heap.size,1,none⟩=some (.int .i64 a0_1))
                         (first|go_keep|exact HKEEP.out _ hb9|exact HKEEP.out _ hb10)
                         (first
                          | (go_at_call 23;refine (zQ.calls k5 Ax cx xr Az cz (zk st s.f0) a0_1 c _ (Kd.C_drew HX.out) HXL.out (Kd.C_drew HZR.out) HZL.out HC.out).mono ?_;rintro e w9 ⟨v9,rfl,hR9,hb9⟩;replace hb9:Below w8.heap.size w8 w9:=zF (zG (Below.refl w8.heap.size w8)) hb9;obtain ⟨A9,c9,e9⟩:=Kd.R_slice hR9;subst e9)
                          | (go_at_call 42;refine (zo.calls k5 Ay cy (zk st sy.f1) A9 c9 c j w9 (Kd.C_below HYR.out hb9) HYL.out (Kd.R_reads' hR9).2.2 (Kd.R_reads' hR9).2.1 HJ.out).mono ?_;rintro e w10 ⟨v10,rfl,hR10,hb10⟩;replace hb10:Below w8.heap.size w8 w10:=zF hb9 hb10;obtain ⟨A10,c10,e10⟩:=Kd.R_slice hR10;subst e10))
                        obtain ⟨hy10,hz10,z010,q110⟩:=HKEEP.out _ hb10;have hw18:w1.heap.size≤w8.heap.size:=HB8.out.size;have hput:=zc.put_row (W0:=w8) hw18 HO8.out hb10 (Kd.R_lower hR10 hb9.size) sy.f1 D1.out D2.out;have hfz:=(zc.put_ok (Kd.S_below HO8.out hb10) sy.f1 D1.out D2.out).1;have HP1:=zA.mk hput.1;have HP2:=zA.mk hput.2;have HO10:=zA.mk (Kd.S_below HO8.out hb10);have HQ10:=zA.mk (yA.trans HQ8.out (yA.of_below hb10 gs none) (.inl rfl));have HB10:=zA.mk (zF HB8.out hb10);clear hR9 hb9 hR10 hb10 hput hy0 hz0 z0 q1 HKEEP hw18 HX HO8 HQ8 HB8 hx1 z1
                        by_cases c40:(j.length:Int) > 600
                        ·have H:=hH.out
                         rw [if_pos c40] at H;obtain ⟨rfl,rfl⟩:=Prod.mk.inj (Option.some.inj H);have c40b:=decide_eq_true c40;clear H c40
                         go_wp2
                         go_ret2
                         exact ⟨_,rfl,Kd.S_nil _ _ _ _ _,zF HB1.out HB10.out⟩
                        ·have H:=hH.out
                         rw [if_neg c40] at H;have c40b:=decide_eq_false c40
                         by_cases c41:(j.length:Int) > ((zk st sy.f1).length:Int)
                         ·rw [if_pos c41] at H
                          have c41b:decide ((zk st sy.f1).length < j.length)=true:=decide_eq_true (by omega);have H':=zA.mk H;clear H c40 c41
                          go_wp2
                          go_roundg k5
                          case measure=>have:=HK1.out;have:=HK2.out;have:=HK3.out;have:=HK4.out;have:=HK5.out;omega
                          case rel=>exact ⟨_,_,_,rfl,by first|rfl|rw [hji],H',⟨by have:=HK5.out;omega⟩,HP1,⟨yA.trans HQ10.out ⟨HP2.out.size,fun i hi hg _=>HP2.out.block i hi (fun e=>hg (Option.some.inj e))⟩ (.inl rfl)⟩,⟨zJ HB10.out HGE.out⟩⟩
                         ·rw [if_neg c41] at H
                          have c41b:decide ((zk st sy.f1).length < j.length)=false:=decide_eq_false (by omega);have H':=zA.mk H;clear H c40 c41
                          go_wp2
                          go_roundg k5
                          case measure=>have:=HK1.out;have:=HK2.out;have:=HK3.out;have:=HK4.out;have:=HK5.out;omega
                          case rel=>exact ⟨_,_,_,rfl,by first|rfl|rw [hji],H',⟨by have:=HK5.out;omega⟩,HO10,HQ10,HB10⟩
                      ·rw [if_neg c33] at H;cases H
                     ·rw [if_neg c32] at H;cases H
                    ·rw [hb0,if_pos rfl] at H
                     rw [hb0] at hx0;have H':=zA.mk H;clear H
                     go_wp2
                     go_roundg k5
                     case measure=>have:=HK1.out;have:=HK2.out;have:=HK3.out;have:=HK4.out;have:=HK5.out;omega
                     case rel=>exact ⟨_,_,_,rfl,rfl,H',⟨by have:=HK5.out;omega⟩,HO,HQ,HB⟩
                   ·rw [if_neg c31] at H;cases H
                  ·rw [if_neg c30] at H
                   have c30b0:=decide_eq_false c30;have H':=zA.mk H;clear H c30
                   go_wp2
                   go_roundg k5
                   case measure=>have:=HK1.out;have:=HK2.out;have:=HK3.out;have:=HK4.out;have:=HK5.out;omega
                   case rel=>exact ⟨_,_,_,rfl,rfl,H',⟨by have:=HK4.out;have:=HK5.out;omega⟩,HO,HB⟩
               ·rw [if_neg c21] at H;cases H
              ·rw [if_neg c20] at H
               have c20b0:=decide_eq_false c20;have H':=zA.mk H;clear H c20
               go_wp2
               go_roundg k4
               case measure=>have:=HK1.out;have:=HK2.out;have:=HK3.out;have:=HK4.out;omega
               case rel=>exact ⟨_,_,rfl,H',⟨by have:=HK3.out;have:=HK4.out;omega⟩,HO,HB⟩
        ·rw [if_neg c17] at H;cases H
 ·rw [if_neg h0] at ha
  obtain ⟨rfl,rfl⟩:=Prod.mk.inj (Option.some.inj ha);have hz:(e4 != 0)=true:=bne_iff_ne.mpr h0;have HN:=zA.mk h0;clear h ha hx hr2 hr3 hc2 hc3 h0
  go_enter Tryz.func21,Tryz.ntmps21
  go_wp2_with fail
  refine (yV.calls k a0_0 a0_1 A2 c2 l0_2 A3 c3 l0_3 x4 e4 _ (Kd.C_alloc HR2.out _) HC2.out (Kd.C_alloc HR3.out _) HC3.out HX.out).mono ?_;rintro e w1 ⟨v1,rfl,hS1,hb1⟩;have HB1:=zA.mk (zF (zE (Below.refl w.heap.size w) _) hb1);clear hb1 hS1
  go_wp2
  go_ret2
  exact ⟨_,rfl,Kd.S_nil _ _ _ _ _,HB1.out⟩
def zm.l0:Nat→List (List ByteArray)→List (List ByteArray)→List (List ByteArray)→Int→Int→Int→List Int→List (S42)→Option ((List (List ByteArray)) × Int)
 | 0,_,_,_,_,_,_,_,_=>none
 | k + 1,x4,x6,x7,x8,x398000,x398001,x398002,x398003=>if x8 < (x398003.length:Int) then (if 0≤x8 then ((zf.f k ((zH x398003 x8).f1) x398001 x4 600).bind fun bt410=>(if 0≤((zH x398003 x8).f0) then (if ((zH x398003 x8).f0) < (x6.length:Int) then ((zQ.f k bt410.1 (zk x6 ((zH x398003 x8).f0)) x398001).bind fun t416=>(if (t416.length:Int) > 600 then (some (([]:List (List ByteArray)),15)) else (if x7.length < 5864062014805 then (zm.l0 k x4 x6 (x7 ++ [t416]) (wrap64 (x8 + 1)) x398000 x398001 x398002 x398003) else (none)))) else (none)) else (none))) else (none)) else (some (x7,0))
def zm.f (k:Nat) (a0_0:Int) (a0_1:Int) (l0_2:List Int) (l0_3:List (S42)):Option ((List (List ByteArray)) × Int):=(yV.f k a0_0 a0_1 l0_2 l0_3).bind fun bt398=>(if bt398.2=0 then ((zK.f k a0_0 a0_1 l0_2 l0_3).bind fun bt402=>(if bt402.2=0 then (zm.l0 k bt398.1 bt402.1 (([]:List (List ByteArray))) 0 a0_0 a0_1 l0_2 l0_3) else (some (([]:List (List ByteArray)),bt402.2)))) else (some (([]:List (List ByteArray)),bt398.2)))
theorem zm.mono_l:∀k,(∀y0 y1 y2 y3 y4 y5 y6 y7,LeO (zm.l0 k y0 y1 y2 y3 y4 y5 y6 y7) (zm.l0 (k + 1) y0 y1 y2 y3 y4 y5 y6 y7))
 | 0=>fun _ _ _ _ _ _ _ _ r h=>by simp [zm.l0] at h
 | k + 1=>by
  have ih0:=zm.mono_l k
  ·intro y0 y1 y2 y3 y4 y5 y6 y7
   unfold zm.l0
   repeat' first
   | with_reducible first|exact ih0 _ _ _ _ _ _ _ _|exact zQ.mono _ _ _ _|exact yV.mono _ _ _ _ _|exact zf.mono _ _ _ _ _|exact zK.mono _ _ _ _ _|exact LeO.refl _|exact LeO.none _|refine LeO.ite ?_ ?_|refine LeO.bind ?_ (fun _=> ?_)
theorem zm.mono:∀a0 a1 a2 a3 k,LeO (zm.f k a0 a1 a2 a3) (zm.f (k + 1) a0 a1 a2 a3):=by
 intro a0 a1 a2 a3 k;have ih0:=zm.mono_l k
 unfold zm.f
 repeat' first
   | with_reducible first|exact ih0 _ _ _ _ _ _ _ _|exact zQ.mono _ _ _ _|exact yV.mono _ _ _ _ _|exact zf.mono _ _ _ _ _|exact zK.mono _ _ _ _ _|exact LeO.refl _|exact LeO.none _|refine LeO.ite ?_ ?_|refine LeO.bind ?_ (fun _=> ?_)
def zm.T11:Bool × List (List Nat × List Nat):=(true,[([],[]),([0],[0]),([],[]),([1,2],[1,2]),([3],[3]),([4],[4]),([],[]),([6],[6]),([],[]),([5,7,8],[5,7,8]),([9],[9]),([10],[10]),([10],[10]),([11,9,0,1,2,3,4,5,6,7,8,9,10,11],[11]),([12,13,0,1,2,3,4,5,6,7,8,9,10,11,12,13],[12])])
def zm.B11:List Nat:= [0,1,0,7,15,31,0,64,0,511,1023,2047,2047,4095,16383]
theorem zm.tab11:rtab .any (qJ Tryz.f8 11)=zm.T11:=by kernel_rfl
theorem zm.bits11:ZP zm.T11.2 zm.B11=true:=by kernel_rfl
def zm.T12:Bool × List (List Nat × List Nat):=(true,[([],[]),([],[]),([],[]),([2],[2]),([],[]),([3,4],[3,4]),([5],[5]),([6],[6]),([1,7],[1,7]),([8],[8]),([],[]),([10],[10]),([0,9,11],[0,9,11]),([12,12,0,1,2,3,4,5,6,7,8,9,10,11,12],[12])])
def zm.B12:List Nat:= [0,0,0,4,0,28,60,124,254,510,0,1024,4095,8191]
theorem zm.tab12:rtab .any (qJ Tryz.f8 12)=zm.T12:=by kernel_rfl
theorem zm.bits12:ZP zm.T12.2 zm.B12=true:=by kernel_rfl
set_option maxHeartbeats 8000000 in
set_option maxRecDepth 100000 in
theorem zm.calls (k:Nat) (a0_0:Int) (a0_1:Int) (vg:Option Addr) (vh:Nat) (l0_2:List Int) (vl:Option Addr) (vi:Nat) (l0_3:List (S42)) (r1:List (List ByteArray)) (r2:Int) (w:World) (hr0_2:Kd.C (Kd.int .i64) w vg l0_2.length l0_2) (hc0_2:l0_2.length≤vh) (hr0_3:Kd.C k42 w vl l0_3.length l0_3) (hc0_3:l0_3.length≤vi) (h:zm.f k a0_0 a0_1 l0_2 l0_3=some (r1,r2)) :
  Calls Tryz.prog 8 #[.agg #[.int .i64 a0_0, .int .i64 a0_1, .slice vg l0_2.length vh, .slice vl l0_3.length vi]] w fun e w'=>∃v0_:Value,e= .returned (.tuple #[v0_, .int .i64 r2])∧Kd.S (Kd.slice 9 Kd.string) 43 w' w.heap.size (fun _=>True) v0_ r1∧Below w.heap.size w w':=by
 have hu25:=Tryz.underlying25;have vI:=zA.mk hr0_2;have vJ:=zA.mk hc0_2;clear hr0_2 hc0_2;have vp:=zA.mk hr0_3;have vL:=zA.mk hc0_3;clear hr0_3 hc0_3;have HB:=zA.mk (Below.refl w.heap.size w);have H:((yV.f k a0_0 a0_1 l0_2 l0_3).bind fun bt398=>(if bt398.2=0 then ((zK.f k a0_0 a0_1 l0_2 l0_3).bind fun bt402=>(if bt402.2=0 then (zm.l0 k bt398.1 bt402.1 (([]:List (List ByteArray))) 0 a0_0 a0_1 l0_2 l0_3) else (some (([]:List (List ByteArray)),bt402.2)))) else (some (([]:List (List ByteArray)),bt398.2))))=some (r1,r2):=h;clear h;replace H:=ZzB H;obtain ⟨⟨t398,t401⟩,A20,H⟩:=H;replace H:(if t401=0 then ((zK.f k a0_0 a0_1 l0_2 l0_3).bind fun bt402=>(if bt402.2=0 then (zm.l0 k t398 bt402.1 (([]:List (List ByteArray))) 0 a0_0 a0_1 l0_2 l0_3) else (some (([]:List (List ByteArray)),bt402.2)))) else (some (([]:List (List ByteArray)),t401)))=some (r1,r2):=H;have A2:=zA.mk A20;clear A20
 by_cases c3:t401=0
 ·rw [if_pos c3] at H
  have c3b0:(t401 == 0)=true:=beq_iff_eq.mpr c3;have c3b1:(t401 != 0)=false:=bne_eq_false_iff_eq.mpr c3;clear c3;replace H:=ZzB H;obtain ⟨⟨t402,t405⟩,A40,H⟩:=H;replace H:(if t405=0 then (zm.l0 k t398 t402 (([]:List (List ByteArray))) 0 a0_0 a0_1 l0_2 l0_3) else (some (([]:List (List ByteArray)),t405)))=some (r1,r2):=H;have A4:=zA.mk A40;clear A40
  by_cases c5:t405=0
  ·rw [if_pos c5] at H
   have c5b0:(t405 == 0)=true:=beq_iff_eq.mpr c5;have c5b1:(t405 != 0)=false:=bne_eq_false_iff_eq.mpr c5;clear c5;obtain ⟨y406,hy406⟩:∃y_:List (List ByteArray),y_=(([]:List (List ByteArray))):=⟨_,rfl⟩;replace H:(zm.l0 k t398 t402 y406 0 a0_0 a0_1 l0_2 l0_3)=some (r1,r2):=Qb hy406 H;have Ny406:=zA.mk hy406;clear hy406;have H':=zA.mk H;clear H
   go_enter Tryz.func8,Tryz.ntmps8
   go_wp2_with (first|((with_reducible refine zw (N:=1) rfl ?_);refine yM (by rfl) (N:=1) (by rfl) (cs:= #[.int .i64 a0_0, .int .i64 a0_1, .slice vg l0_2.length vh, .slice vl l0_3.length vi]) (t:=25) Qm ?_;intro we hg w6 hbox hb;have n0_:=zA.mk (zF Qc hb);have n1_:=zA.mk (hbox);have n2_:=zA.mk ((by rw [hg];exact (zD Qc):w.heap.size≤we));have n3_:=zA.mk ((by rw [hg];exact (zD Qc):w.heap.size≤we));clear HB;have HB:=n0_;have vb:=n1_;have GW397:=n2_;have wG:=n3_;clear n0_ n1_ n2_ n3_ hb hbox hg;have Vi:=Qn vb 0 rfl;have Vj:=Qn vb 1 rfl;have Vz:=Qn vb 2 rfl;have VA:=Qn vb 3 rfl;have Vk:=zB vb.out 0;have Vl:=zB vb.out 1;have VB:=zB vb.out 2;have VC:=zB vb.out 3)|((with_reducible refine zj (f:=20) rfl ?_);refine yS (some 14) rfl rfl Tryz.func20 (by kernel_rfl) rfl #[.agg #[.int .i64 a0_0, .int .i64 a0_1, .slice vg l0_2.length vh, .slice vl l0_3.length vi]] rfl Q8 ?_;(with_reducible refine (yV.calls k a0_0 a0_1 _ _ l0_2 _ _ l0_3 t398 t401 _ ?side1 ?side2 ?side3 ?side4 A2.out).mono ?_);(case side1=>exact Qo (Kd.C_below vI.out HB.out));(case side2=>exact vJ.out);(case side3=>exact Qo (Kd.C_below vp.out HB.out));(case side4=>exact vL.out);rintro e w8 ⟨v399,rfl,ho0,hb⟩;refine ⟨_,rfl,?_⟩;have n0_:=zA.mk (Kd.S_lower ho0 (zD (Qd wG)));have n1_:=zA.mk (zZ (g:=we) (Qi vb) hb);have n2_:=zA.mk (zF (Qd wG) hb);clear vb HB;have HO400:=n0_;have vb:=n1_;have HB:=n2_;clear n0_ n1_ n2_;(try clear hb ho0);have wT:=Qn vb 0 rfl;have wU:=Qn vb 1 rfl;have Ve:=Qn vb 2 rfl;have Vf:=Qn vb 3 rfl;have wV:=zB vb.out 0;have wW:=zB vb.out 1;have Vg:=zB vb.out 2;have Vh:=zB vb.out 3)|((with_reducible refine zj (f:=21) rfl ?_);refine yS (some 22) rfl rfl Tryz.func21 (by kernel_rfl) rfl #[.agg #[.int .i64 a0_0, .int .i64 a0_1, .slice vg l0_2.length vh, .slice vl l0_3.length vi]] rfl Q8 ?_;(with_reducible refine (zK.calls k a0_0 a0_1 _ _ l0_2 _ _ l0_3 t402 t405 _ ?side1 ?side2 ?side3 ?side4 A4.out).mono ?_);(case side1=>exact Qo (Kd.C_below vI.out HB.out));(case side2=>exact vJ.out);(case side3=>exact Qo (Kd.C_below vp.out HB.out));(case side4=>exact vL.out);rintro e w10 ⟨v403,rfl,ho0,hb⟩;refine ⟨_,rfl,?_⟩;have n0_:=zA.mk (Kd.S_elder' (Qj HO400) (Kd.S_base ho0) hb);have n1_:=zA.mk (Kd.S_lower (Kd.S_new' ho0 (Kd.S_lt (Qj HO400))) (zD (Qd wG)));have n2_:=zA.mk (zZ (g:=we) (Qi vb) hb);have n3_:=zA.mk (zF (Qd wG) hb);clear HO400 vb HB;have HO400:=n0_;have HO404:=n1_;have vb:=n2_;have HB:=n3_;clear n0_ n1_ n2_ n3_;(try clear hb ho0))|((with_reducible refine zw (N:=28) rfl ?_);refine Kd.S_lit (Kd.slice 9 Kd.string) _ 43 (by rfl) (N:=28) (by rfl) (xs:=([]:List (List ByteArray))) (inner:= []) (ok:=fun _=>True) (okp:=fun _=>True) Qm ?hp (fun _ hk=>hk) trivial (Below.refl _ _) (Nat.le_refl _) (by simp) ?_;(case hp=>exact (Reps.none _ _));intro v407 w11 ho12 hb hg_ hnew_;clear hg_ hnew_;(first|rw [←Ny406.out] at ho12|(simp only [Int.reduceToNat] at ho12;rw [←Ny406.out] at ho12));have n0_:=zA.mk (Kd.S_elder' (Qj HO400) (Kd.S_base ho12) hb);have n1_:=zA.mk (Kd.S_elder' (Qj HO404) (Kd.S_base ho12) hb);have n2_:=zA.mk (Kd.S_lower (Kd.S_new' (Kd.S_new' ho12 (Kd.S_lt (Qj HO400))) (Kd.S_lt (Qj HO404))) (zD (Qd wG)));have n3_:=zA.mk (zZ (g:=we) (Qi vb) hb);have n4_:=zA.mk (zF (Qd wG) hb);clear HO400 HO404 vb HB;have HO400:=n0_;have HO404:=n1_;have HO408:=n2_;have vb:=n3_;have HB:=n4_;clear n0_ n1_ n2_ n3_ n4_ hb ho12))
   go_loopg [7,8] k (fun kq v7 v8 w'=>∃(x7_1:List (List ByteArray)) (x8_1:Int),v8= .int .i64 x8_1∧zA (zm.l0 kq t398 t402 x7_1 x8_1 a0_0 a0_1 l0_2 l0_3=some (r1,r2))∧zA (kq≤k)∧zA (Kd.S (Kd.slice 9 Kd.string) 43 w' w.heap.size (fun k_=>some k_≠(v403:Value).ownBlock∧some k_≠(v7:Value).ownBlock) v399 t398)∧zA (Kd.S (Kd.slice 9 Kd.string) 43 w' w.heap.size (fun k_=>some k_≠(v399:Value).ownBlock∧some k_≠(v7:Value).ownBlock) v403 t402)∧zA (Kd.S (Kd.slice 9 Kd.string) 43 w' w.heap.size (fun k_=>some k_≠(v399:Value).ownBlock∧some k_≠(v403:Value).ownBlock) v7 x7_1)∧zA (w'.heap[we]? =some (.cells #[.int .i64 a0_0, .int .i64 a0_1,(.slice vg l0_2.length vh),(.slice vl l0_3.length vi)] 25 (0,0)))∧zA (Below w.heap.size w w'))
   case atStart=>exact ⟨(y406),(0),Zk,H',⟨Nat.le_refl _⟩,⟨by (with_reducible repeat (first|apply Kd.S_alloc|apply Kd.S_drewN|apply Kd.S_drew));exact Kd.S_mono HO400.out (fun _ hk=>⟨hk.1.2,hk.2⟩)⟩,⟨by (with_reducible repeat (first|apply Kd.S_alloc|apply Kd.S_drewN|apply Kd.S_drew));exact Kd.S_mono HO404.out (fun _ hk=>⟨hk.1.2,hk.2⟩)⟩,⟨by (with_reducible repeat (first|apply Kd.S_alloc|apply Kd.S_drewN|apply Kd.S_drew));exact Kd.S_mono HO408.out (fun _ hk=>⟨hk.1.2,hk.2⟩)⟩,⟨Qi vb⟩,⟨by repeat (first|(with_reducible first|exact HB.out|apply zE|apply zC|apply zG|refine zJ ?_ wG.out)|exact HB.out)⟩⟩
   case round=>
    clear H';(try clear c2);(try clear p2);(try clear c3);(try clear c3b0);(try clear c3b1);(try clear c5);(try clear c5b0);(try clear c5b1);(try clear c8);(try clear Vi);(try clear Vj);(try clear Vz);(try clear VA);(try clear wT);(try clear wU);(try clear Ve);(try clear Vf);(try clear Vk);(try clear Vl);(try clear VB);(try clear VC);(try clear wV);(try clear wW);(try clear Vg);(try clear Vh);obtain ⟨x7_1,x8_1,rfl,HA,HK1,vw,HO_6,HO_7,vb,HB⟩:=hrel;cases gk with
    | zero=>exact absurd HA.out (by simp [zm.l0])
    | succ k1=>
     have H:=HA.out;clear HA;simp only [zm.l0] at H
     by_cases c13:x8_1 < (l0_3.length:Int)
     ·rw [if_pos c13] at H
      have c13b0:=decide_eq_true c13;clear c13
      by_cases c14:0≤x8_1
      ·rw [if_pos c14] at H
       have c14b0:=decide_eq_true c14;clear c14;replace H:=ZzB H;obtain ⟨⟨t410,t411⟩,A150,H⟩:=H;replace H:(if 0≤((zH l0_3 x8_1).f0) then (if ((zH l0_3 x8_1).f0) < (t402.length:Int) then ((zQ.f k1 t410 (zk t402 ((zH l0_3 x8_1).f0)) a0_1).bind fun t416=>(if (t416.length:Int) > 600 then (some (([]:List (List ByteArray)),15)) else (if x7_1.length < 5864062014805 then (zm.l0 k1 t398 t402 (x7_1 ++ [t416]) (wrap64 (x8_1 + 1)) a0_0 a0_1 l0_2 l0_3) else (none)))) else (none)) else (none))=some (r1,r2):=H;have A15:=zA.mk A150;clear A150
       by_cases c16:0≤((zH l0_3 x8_1).f0)
       ·rw [if_pos c16] at H
        have c16b0:=decide_eq_true c16;clear c16
        by_cases c17:((zH l0_3 x8_1).f0) < (t402.length:Int)
        ·rw [if_pos c17] at H
         have c17b0:=decide_eq_true c17;clear c17;replace H:=ZzB H;obtain ⟨t416,A180,H⟩:=H;replace H:(if (t416.length:Int) > 600 then (some (([]:List (List ByteArray)),15)) else (if x7_1.length < 5864062014805 then (zm.l0 k1 t398 t402 (x7_1 ++ [t416]) (wrap64 (x8_1 + 1)) a0_0 a0_1 l0_2 l0_3) else (none)))=some (r1,r2):=H;have A18:=zA.mk A180;clear A180
         by_cases c19:(t416.length:Int) > 600
         ·rw [if_pos c19] at H
          have c19b0:=decide_eq_true c19;have c19b1:decide (600 < t416.length)=true:=decide_eq_true (by omega);clear c19;simp only [Option.some.injEq,Prod.mk.injEq] at H;obtain ⟨rfl,rfl⟩:=H;have hcz20_0:=Qn vb 0 rfl;have hcz20_1:=Qn vb 1 rfl;have hcz20_2:=Qn vb 2 rfl;have hcz20_3:=Qn vb 3 rfl;have hfz20_0:=zB vb.out 0;have hfz20_1:=zB vb.out 1;have hfz20_2:=zB vb.out 2;have hfz20_3:=zB vb.out 3
          try go_wp2
          have n0_:=zA.mk (Kd.S_drew vw.out);have n1_:=zA.mk (Kd.S_drew HO_6.out);have n2_:=zA.mk (Kd.S_drew HO_7.out);have n3_:=zA.mk (zP vb.out);have n4_:=zA.mk (zG HB.out);clear vw HO_6 HO_7 vb HB;have vw:=n0_;have HO_6:=n1_;have HO_7:=n2_;have vb:=n3_;have HB:=n4_;clear n0_ n1_ n2_ n3_ n4_;have p409:0≤(x8_1:Int):=Qa;have q409:x8_1 < (l0_3.length:Int):=Qa;obtain ⟨ad409,A409_1,c409_1,e409,hx409_0,hx409_1,hl409_1,hi409_1⟩:=ZE vp.out x8_1 p409 q409;have hw409_1:=hx409_1;have hw409_0:=hx409_0;cases e409;replace hx409_0:=Qp HB hx409_0;replace hx409_1:=Qp HB hx409_1;have HR409_1:=zA.mk hi409_1;have HC409_1:=zA.mk hl409_1;clear hi409_1 hl409_1;replace p409:=eq_true p409;replace q409:=eq_true q409;obtain ⟨Ao22,co22,eo22⟩:=Kd.S_slice vw.out
          (first|subst eo22|(injection eo22 with f1_ f2_ f3_;have f4_:=f1_.symm;have f5_:=f3_.symm;clear f1_ f2_ f3_;subst f4_;subst f5_))
          refine YJ (n:=15) (S:=fun w'=>w'.cell? ⟨we,0,none⟩=some (.int .i64 a0_0)∧w'.cell? ⟨we,1,none⟩=some (.int .i64 a0_1)∧w'.cell? ⟨we,2,none⟩=some (.slice vg l0_2.length vh)∧w'.cell? ⟨we,3,none⟩=some (.slice (some ad409) l0_3.length vi)∧w'.cell? (ad409.add ((x8_1).toNat * 2))=some (.int .i64 ((zH l0_3 x8_1).f0))∧w'.cell? ⟨(ad409.add ((x8_1).toNat * 2)).block,(ad409.add ((x8_1).toNat * 2)).off + 1,none⟩=some (.slice A409_1 ((zH l0_3 x8_1).f1).length c409_1)) (ds:= []) #[false,false,false,false,false,false,false,false,false,false,false,false,false,false,false] (by kernel_rfl) rfl rfl ⟨(zN vb.out 0).trans rfl,(zN vb.out 1).trans rfl,(zN vb.out 2).trans rfl,(zN vb.out 3).trans rfl,(Qp HB hw409_0),(Qp HB hw409_1)⟩ (fun hHeld=> ?_);refine ZG zm.tab11 zm.bits11 (fun HT_ HW_=> ?_)
          generalize wr.drew=w21 at vw HO_6 HO_7 vb HB HR409_1 hx409_0 hx409_1 hHeld⊢
          refine Qq (i:=0) (N:=some 37) #[true,false,false,false,false,false,false,false,false,false,false,false,false,false,false] HT_.out ?_;refine Qq (i:=2) (N:=some 39) #[true,false,true,false,false,false,false,false,false,false,false,false,false,false,false] HT_.out ?_;refine Qq (i:=6) (N:=some 43) #[true,false,true,false,false,false,true,false,false,false,false,false,false,false,false] HT_.out ?_;refine Qq (i:=8) (N:=some 45) #[true,false,true,false,false,false,true,false,true,false,false,false,false,false,false] HT_.out ?_;refine Qw (i:=1) (N:=some 38) #[true,true,true,false,false,false,true,false,true,false,false,false,false,false,false] HT_.out HW_.out hHeld ?_;refine Qq (i:=3) (N:=some 40) #[true,true,true,true,false,false,true,false,true,false,false,false,false,false,false] HT_.out ?_;refine Qq (i:=4) (N:=some 41) #[true,true,true,true,true,false,true,false,true,false,false,false,false,false,false] HT_.out ?_;refine Qw (i:=5) (N:=some 42) #[true,true,true,true,true,true,true,false,true,false,false,false,false,false,false] HT_.out HW_.out hHeld ?_;refine Qw (i:=7) (N:=some 44) #[true,true,true,true,true,true,true,true,true,false,false,false,false,false,false] HT_.out HW_.out hHeld ?_;refine one_ (i:=9) (N:=some 46) #[true,true,true,true,true,true,true,true,true,true,false,false,false,false,false] rfl rfl (yr HT_.out (by kernel_rfl)) (by decide) (fun K hK=> ?_);refine Yg Tryz.func22 (by kernel_rfl) rfl #[.slice A409_1 ((zH l0_3 x8_1).f1).length c409_1, .int .i64 a0_1, .slice Ao22 t398.length co22, .int .i64 600] (by rfl) rfl rfl Q8 ?_
          with_reducible refine (zf.calls k1 _ _ ((zH l0_3 x8_1).f1) a0_1 _ _ t398 600 t410 t411 _ ?side1 ?side2 ?side3 ?side4 A15.out).mono ?_
          (case side1=>exact Qo (Kd.C_below HR409_1.out HB.out))
          (case side2=>exact HC409_1.out)
          (case side3=>exact Qo ((Kd.S_reads' vw.out).2.2))
          (case side4=>exact (Kd.S_reads' vw.out).2.1)
          rintro e w23 ⟨v412,rfl,ho0,hb⟩;refine ⟨_,rfl,?_⟩;have n0_:=zA.mk (Kd.S_elder' (Qj vw) (Kd.R_base ho0) hb);have n1_:=zA.mk (Kd.S_elder' (Qj HO_6) (Kd.R_base ho0) hb);have n2_:=zA.mk (Kd.S_elder' (Qj HO_7) (Kd.R_base ho0) hb);have n3_:=zA.mk (Kd.R_lower ho0 (zD (Qd wG)));have n4_:=zA.mk (zZ (g:=we) (Qi vb) hb);have n5_:=zA.mk (zF (Qd wG) hb);clear vw HO_6 HO_7 vb HB;have vw:=n0_;have HO_6:=n1_;have HO_7:=n2_;have wH:=n3_;have vb:=n4_;have HB:=n5_;clear n0_ n1_ n2_ n3_ n4_ n5_;(try clear hb ho0);refine hK.out _ _ ⟨(zN vb.out 0).trans rfl,(zN vb.out 1).trans rfl,(zN vb.out 2).trans rfl,(zN vb.out 3).trans rfl,(Qp HB hw409_0),(Qp HB hw409_1)⟩ (fun hHeld=> ?_);clear hK K;refine yu (a':= ?_) ?_ ?_;rotate_left
          ·show Act.put _ (some 46) _=_
           simp only [Act.put,List.setIfInBounds_toArray,List.set_cons_zero,List.set_cons_succ,yl,yq]
           rfl
          refine Qq (i:=10) (N:=some 36) #[true,true,true,true,true,true,true,true,true,true,true,false,false,false,false] HT_.out ?_;refine Qq (i:=11) (N:=some 47) #[true,true,true,true,true,true,true,true,true,true,true,true,false,false,false] HT_.out ?_;refine Qq (i:=12) (N:=some 48) #[true,true,true,true,true,true,true,true,true,true,true,true,true,false,false] HT_.out ?_;refine Qq (i:=13) (N:=some 9) #[true,true,true,true,true,true,true,true,true,true,true,true,true,true,false] HT_.out ?_;refine Qq (i:=14) (N:=some 10) #[true,true,true,true,true,true,true,true,true,true,true,true,true,true,true] HT_.out ?_;refine YS (Zq HT_.out (by kernel_rfl)) ?_
          try go_wp2
          have n0_:=zA.mk (Kd.S_drew vw.out);have n1_:=zA.mk (Kd.S_drew HO_6.out);have n2_:=zA.mk (Kd.S_drew HO_7.out);have n3_:=zA.mk (Kd.R_drew wH.out);have n4_:=zA.mk (zP vb.out);have n5_:=zA.mk (zG HB.out);clear vw HO_6 HO_7 wH vb HB;have vw:=n0_;have HO_6:=n1_;have HO_7:=n2_;have wH:=n3_;have vb:=n4_;have HB:=n5_;clear n0_ n1_ n2_ n3_ n4_ n5_;have p414:0≤(x8_1:Int):=Qa;have q414:x8_1 < (l0_3.length:Int):=Qa;obtain ⟨ad414,A414_1,c414_1,e414,hx414_0,hx414_1,hl414_1,hi414_1⟩:=ZE vp.out x8_1 p414 q414;have hw414_1:=hx414_1;have hw414_0:=hx414_0;obtain rfl:ad409=ad414:=(by injection e414);replace hx414_0:=Qp HB hx414_0;replace hx414_1:=Qp HB hx414_1;have HR414_1:=zA.mk hi414_1;have HC414_1:=zA.mk hl414_1;clear hi414_1 hl414_1;replace p414:=eq_true p414;replace q414:=eq_true q414;obtain ⟨Ao25,co25,eo25⟩:=Kd.S_slice HO_6.out
          (first|subst eo25|(injection eo25 with f1_ f2_ f3_;have f4_:=f1_.symm;have f5_:=f3_.symm;clear f1_ f2_ f3_;subst f4_;subst f5_))
          have p415:0≤(((zH l0_3 x8_1).f0):Int):=Qa;have q415:((zH l0_3 x8_1).f0) < (t402.length:Int):=Qa;obtain ⟨ad415,A415_0,c415_0,e415,hx415_0,hl415_0,hi415_0⟩:=ZY (Kd.S_reads' HO_6.out).2.2 ((zH l0_3 x8_1).f0) p415 q415;cases e415;obtain ⟨ce415,hce415,hMe415,hcc415⟩:=Kd.S_get HO_6.out [] ((zH l0_3 x8_1).f0) p415 (by first|exact q415|exact Qa|(have e_:=(Kd.S_reads' HO_6.out).1;omega));obtain ⟨ve415_0,rfl,ge415_0⟩:=hMe415;have hv415_0:=hcc415 0 _ rfl;rw [Nat.add_zero,show ((Kd.slice 9 Kd.string)).sz=1 from rfl,Nat.mul_one] at hv415_0;replace hv415_0:=Option.some.inj (hv415_0.symm.trans hx415_0);rw [hv415_0] at ge415_0;have HL415_0:=zA.mk (show Kd.R Kd.string 9 _ _ _ _ (zk t402 ((zH l0_3 x8_1).f0)) from ge415_0);clear hv415_0 ge415_0 hcc415 hce415;have HR415_0:=zA.mk hi415_0;have HC415_0:=zA.mk hl415_0;clear hi415_0 hl415_0;replace p415:=eq_true p415;replace q415:=eq_true q415;obtain ⟨Ao26,co26,eo26⟩:=Kd.R_slice wH.out
          (first|subst eo26|(injection eo26 with f1_ f2_ f3_;have f4_:=f1_.symm;have f5_:=f3_.symm;clear f1_ f2_ f3_;subst f4_;subst f5_))
          refine YJ (n:=14) (S:=fun w'=>w'.cell? ⟨we,0,none⟩=some (.int .i64 a0_0)∧w'.cell? ⟨we,1,none⟩=some (.int .i64 a0_1)∧w'.cell? ⟨we,2,none⟩=some (.slice vg l0_2.length vh)∧w'.cell? ⟨we,3,none⟩=some (.slice (some ad409) l0_3.length vi)∧w'.cell? (ad409.add ((x8_1).toNat * 2))=some (.int .i64 ((zH l0_3 x8_1).f0))∧w'.cell? ⟨(ad409.add ((x8_1).toNat * 2)).block,(ad409.add ((x8_1).toNat * 2)).off + 1,none⟩=some (.slice A414_1 ((zH l0_3 x8_1).f1).length c414_1)∧w'.cell? (ad415.add (((zH l0_3 x8_1).f0)).toNat)=some (.slice A415_0 (zk t402 ((zH l0_3 x8_1).f0)).length c415_0)) (ds:= []) #[false,false,false,false,false,false,false,false,false,false,false,false,false,false] (by kernel_rfl) rfl rfl ⟨(zN vb.out 0).trans rfl,(zN vb.out 1).trans rfl,(zN vb.out 2).trans rfl,(zN vb.out 3).trans rfl,(Qp HB hw414_0),(Qp HB hw414_1),hx415_0⟩ (fun hHeld=> ?_);refine ZG zm.tab12 zm.bits12 (fun HT_ HW_=> ?_)
          generalize w23.drew=w24 at vw HO_6 HO_7 wH vb HB HL415_0 HR414_1 HR415_0 hx414_0 hx414_1 hx415_0 hHeld⊢
          refine Qq (i:=0) (N:=some 49) #[true,false,false,false,false,false,false,false,false,false,false,false,false,false] HT_.out ?_;refine Qq (i:=1) (N:=some 50) #[true,true,false,false,false,false,false,false,false,false,false,false,false,false] HT_.out ?_;refine Qq (i:=2) (N:=some 51) #[true,true,true,false,false,false,false,false,false,false,false,false,false,false] HT_.out ?_;refine Qq (i:=4) (N:=some 53) #[true,true,true,false,true,false,false,false,false,false,false,false,false,false] HT_.out ?_;refine Qq (i:=10) (N:=some 59) #[true,true,true,false,true,false,false,false,false,false,true,false,false,false] HT_.out ?_;refine Qx (i:=3) (N:=some 52) #[true,true,true,true,true,false,false,false,false,false,true,false,false,false] HT_.out HW_.out hHeld ?_;refine Qq (i:=5) (N:=some 54) #[true,true,true,true,true,true,false,false,false,false,true,false,false,false] HT_.out ?_;refine Qq (i:=6) (N:=some 55) #[true,true,true,true,true,true,true,false,false,false,true,false,false,false] HT_.out ?_;refine Qx (i:=7) (N:=some 56) #[true,true,true,true,true,true,true,true,false,false,true,false,false,false] HT_.out HW_.out hHeld ?_;refine Qq (i:=8) (N:=some 57) #[true,true,true,true,true,true,true,true,true,false,true,false,false,false] HT_.out ?_;refine Qx (i:=9) (N:=some 58) #[true,true,true,true,true,true,true,true,true,true,true,false,false,false] HT_.out HW_.out hHeld ?_;refine Qx (i:=11) (N:=some 60) #[true,true,true,true,true,true,true,true,true,true,true,true,false,false] HT_.out HW_.out hHeld ?_;refine one_ (i:=12) (N:=some 61) #[true,true,true,true,true,true,true,true,true,true,true,true,true,false] rfl rfl (yr HT_.out (by kernel_rfl)) (by decide) (fun K hK=> ?_);refine Yg Tryz.func23 (by kernel_rfl) rfl #[.slice Ao26 t410.length co26, .slice A415_0 (zk t402 ((zH l0_3 x8_1).f0)).length c415_0, .int .i64 a0_1] (by rfl) rfl rfl Q8 ?_
          with_reducible refine (zQ.calls k1 _ _ t410 _ _ (zk t402 ((zH l0_3 x8_1).f0)) a0_1 t416 _ ?side1 ?side2 ?side3 ?side4 A18.out).mono ?_
          (case side1=>exact Qo ((Kd.R_reads' wH.out).2.2))
          (case side2=>exact (Kd.R_reads' wH.out).2.1)
          (case side3=>exact Qo QO)
          (case side4=>exact HC415_0.out)
          rintro e w27 ⟨v417,rfl,ho0,hb⟩;have HS6_:=(hb.cell (ZzA _ _ (hHeld.2.2.2.2.2.2))).trans (hHeld.2.2.2.2.2.2);refine ⟨_,rfl,?_⟩;have n0_:=zA.mk (Kd.S_elder' (Qj vw) (Kd.R_base ho0) hb);have n1_:=zA.mk (Kd.S_elder' (Qj HO_6) (Kd.R_base ho0) hb);have n2_:=zA.mk (Kd.S_elder' (Qj HO_7) (Kd.R_base ho0) hb);have n3_:=zA.mk (Kd.R_elder' (Qh wH) (Kd.R_base ho0) hb);have n4_:=zA.mk (Kd.R_elder' (Qh HL415_0) (Kd.R_base ho0) hb);have n5_:=zA.mk (Kd.R_lower (Kd.R_new' (Kd.R_new' ho0 (Kd.R_lt (Qh wH))) (Kd.R_lt (Qh HL415_0))) (zD (Qd wG)));have n6_:=zA.mk (zZ (g:=we) (Qi vb) hb);have n7_:=zA.mk (Kd.C_below QO hb);have n8_:=zA.mk (zF (Qd wG) hb);clear vw HO_6 HO_7 wH HL415_0 vb HR415_0 HB;have vw:=n0_;have HO_6:=n1_;have HO_7:=n2_;have wH:=n3_;have HL415_0:=n4_;have HO418:=n5_;have vb:=n6_;have HR415_0:=n7_;have HB:=n8_;clear n0_ n1_ n2_ n3_ n4_ n5_ n6_ n7_ n8_;(try clear hb ho0);refine hK.out _ _ ⟨(zN vb.out 0).trans rfl,(zN vb.out 1).trans rfl,(zN vb.out 2).trans rfl,(zN vb.out 3).trans rfl,(Qp HB hw414_0),(Qp HB hw414_1),HS6_⟩ (fun hHeld=> ?_);clear hK K;refine yu (a':= ?_) ?_ ?_;rotate_left
          ·show Act.put _ (some 61) _=_
           simp only [Act.put,List.setIfInBounds_toArray,List.set_cons_zero,List.set_cons_succ,yl,yq]
           rfl
          refine Qq (i:=13) (N:=some 11) #[true,true,true,true,true,true,true,true,true,true,true,true,true,true] HT_.out ?_;refine YS (Zq HT_.out (by kernel_rfl)) ?_;obtain ⟨Ao28,co28,eo28⟩:=Kd.R_slice HO418.out;subst eo28
          try go_wp2
          go_ret2
          exact ⟨_,by first|rfl|(simp [zR,zS] <;> rfl)|(simp [*,zR,zS] <;> rfl),by first|exact Kd.S_nil _ _ _ _ _|exact Kd.N_nil _ _ _ _ _|exact Kd.V_nil _ _ _ _ _|exact Kd.Q_nil _ _ _ _ _|exact Kd.R_nil _ _ _ _ _,by repeat (first|(with_reducible first|exact HB.out|apply zE|apply zC|apply zG|refine zJ ?_ wG.out)|exact HB.out)⟩
         ·rw [if_neg c19] at H
          have c19b0:=decide_eq_false c19;have c19b1:decide (600 < t416.length)=false:=decide_eq_false (by omega);clear c19
          by_cases c29:x7_1.length < 5864062014805
          ·rw [if_pos c29] at H
           have LMc29:=zA.mk c29;clear c29;obtain ⟨y419,hy419⟩:∃y_:List (List ByteArray),y_=(x7_1 ++ [t416]):=⟨_,rfl⟩;replace H:(zm.l0 k1 t398 t402 y419 (wrap64 (x8_1 + 1)) a0_0 a0_1 l0_2 l0_3)=some (r1,r2):=Qb hy419 H;have Ny419:=zA.mk hy419;clear hy419;have H':=zA.mk H;clear H;have hcz30_0:=Qn vb 0 rfl;have hcz30_1:=Qn vb 1 rfl;have hcz30_2:=Qn vb 2 rfl;have hcz30_3:=Qn vb 3 rfl;have hfz30_0:=zB vb.out 0;have hfz30_1:=zB vb.out 1;have hfz30_2:=zB vb.out 2;have hfz30_3:=zB vb.out 3
           try go_wp2
           have n0_:=zA.mk (Kd.S_drew vw.out);have n1_:=zA.mk (Kd.S_drew HO_6.out);have n2_:=zA.mk (Kd.S_drew HO_7.out);have n3_:=zA.mk (zP vb.out);have n4_:=zA.mk (zG HB.out);clear vw HO_6 HO_7 vb HB;have vw:=n0_;have HO_6:=n1_;have HO_7:=n2_;have vb:=n3_;have HB:=n4_;clear n0_ n1_ n2_ n3_ n4_;have p409:0≤(x8_1:Int):=Qa;have q409:x8_1 < (l0_3.length:Int):=Qa;obtain ⟨ad409,A409_1,c409_1,e409,hx409_0,hx409_1,hl409_1,hi409_1⟩:=ZE vp.out x8_1 p409 q409;have hw409_1:=hx409_1;have hw409_0:=hx409_0;cases e409;replace hx409_0:=Qp HB hx409_0;replace hx409_1:=Qp HB hx409_1;have HR409_1:=zA.mk hi409_1;have HC409_1:=zA.mk hl409_1;clear hi409_1 hl409_1;replace p409:=eq_true p409;replace q409:=eq_true q409;obtain ⟨Ao32,co32,eo32⟩:=Kd.S_slice vw.out
           (first|subst eo32|(injection eo32 with f1_ f2_ f3_;have f4_:=f1_.symm;have f5_:=f3_.symm;clear f1_ f2_ f3_;subst f4_;subst f5_))
           refine YJ (n:=15) (S:=fun w'=>w'.cell? ⟨we,0,none⟩=some (.int .i64 a0_0)∧w'.cell? ⟨we,1,none⟩=some (.int .i64 a0_1)∧w'.cell? ⟨we,2,none⟩=some (.slice vg l0_2.length vh)∧w'.cell? ⟨we,3,none⟩=some (.slice (some ad409) l0_3.length vi)∧w'.cell? (ad409.add ((x8_1).toNat * 2))=some (.int .i64 ((zH l0_3 x8_1).f0))∧w'.cell? ⟨(ad409.add ((x8_1).toNat * 2)).block,(ad409.add ((x8_1).toNat * 2)).off + 1,none⟩=some (.slice A409_1 ((zH l0_3 x8_1).f1).length c409_1)) (ds:= []) #[false,false,false,false,false,false,false,false,false,false,false,false,false,false,false] (by kernel_rfl) rfl rfl ⟨(zN vb.out 0).trans rfl,(zN vb.out 1).trans rfl,(zN vb.out 2).trans rfl,(zN vb.out 3).trans rfl,(Qp HB hw409_0),(Qp HB hw409_1)⟩ (fun hHeld=> ?_);refine ZG zm.tab11 zm.bits11 (fun HT_ HW_=> ?_)
           generalize wr.drew=w31 at vw HO_6 HO_7 vb HB HR409_1 hx409_0 hx409_1 hHeld⊢
           refine Qq (i:=0) (N:=some 37) #[true,false,false,false,false,false,false,false,false,false,false,false,false,false,false] HT_.out ?_;refine Qq (i:=2) (N:=some 39) #[true,false,true,false,false,false,false,false,false,false,false,false,false,false,false] HT_.out ?_;refine Qq (i:=6) (N:=some 43) #[true,false,true,false,false,false,true,false,false,false,false,false,false,false,false] HT_.out ?_;refine Qq (i:=8) (N:=some 45) #[true,false,true,false,false,false,true,false,true,false,false,false,false,false,false] HT_.out ?_;refine Qw (i:=1) (N:=some 38) #[true,true,true,false,false,false,true,false,true,false,false,false,false,false,false] HT_.out HW_.out hHeld ?_;refine Qq (i:=3) (N:=some 40) #[true,true,true,true,false,false,true,false,true,false,false,false,false,false,false] HT_.out ?_;refine Qq (i:=4) (N:=some 41) #[true,true,true,true,true,false,true,false,true,false,false,false,false,false,false] HT_.out ?_;refine Qw (i:=5) (N:=some 42) #[true,true,true,true,true,true,true,false,true,false,false,false,false,false,false] HT_.out HW_.out hHeld ?_;refine Qw (i:=7) (N:=some 44) #[true,true,true,true,true,true,true,true,true,false,false,false,false,false,false] HT_.out HW_.out hHeld ?_;refine one_ (i:=9) (N:=some 46) #[true,true,true,true,true,true,true,true,true,true,false,false,false,false,false] rfl rfl (yr HT_.out (by kernel_rfl)) (by decide) (fun K hK=> ?_);refine Yg Tryz.func22 (by kernel_rfl) rfl #[.slice A409_1 ((zH l0_3 x8_1).f1).length c409_1, .int .i64 a0_1, .slice Ao32 t398.length co32, .int .i64 600] (by rfl) rfl rfl Q8 ?_
           with_reducible refine (zf.calls k1 _ _ ((zH l0_3 x8_1).f1) a0_1 _ _ t398 600 t410 t411 _ ?side1 ?side2 ?side3 ?side4 A15.out).mono ?_
           (case side1=>exact Qo (Kd.C_below HR409_1.out HB.out))
           (case side2=>exact HC409_1.out)
           (case side3=>exact Qo ((Kd.S_reads' vw.out).2.2))
           (case side4=>exact (Kd.S_reads' vw.out).2.1)
           rintro e w33 ⟨v412,rfl,ho0,hb⟩;refine ⟨_,rfl,?_⟩;have n0_:=zA.mk (Kd.S_elder' (Qj vw) (Kd.R_base ho0) hb);have n1_:=zA.mk (Kd.S_elder' (Qj HO_6) (Kd.R_base ho0) hb);have n2_:=zA.mk (Kd.S_elder' (Qj HO_7) (Kd.R_base ho0) hb);have n3_:=zA.mk (Kd.R_lower ho0 (zD (Qd wG)));have n4_:=zA.mk (zZ (g:=we) (Qi vb) hb);have n5_:=zA.mk (zF (Qd wG) hb);clear vw HO_6 HO_7 vb HB;have vw:=n0_;have HO_6:=n1_;have HO_7:=n2_;have wH:=n3_;have vb:=n4_;have HB:=n5_;clear n0_ n1_ n2_ n3_ n4_ n5_;(try clear hb ho0);refine hK.out _ _ ⟨(zN vb.out 0).trans rfl,(zN vb.out 1).trans rfl,(zN vb.out 2).trans rfl,(zN vb.out 3).trans rfl,(Qp HB hw409_0),(Qp HB hw409_1)⟩ (fun hHeld=> ?_);clear hK K;refine yu (a':= ?_) ?_ ?_;rotate_left
           ·show Act.put _ (some 46) _=_
            simp only [Act.put,List.setIfInBounds_toArray,List.set_cons_zero,List.set_cons_succ,yl,yq]
            rfl
           refine Qq (i:=10) (N:=some 36) #[true,true,true,true,true,true,true,true,true,true,true,false,false,false,false] HT_.out ?_;refine Qq (i:=11) (N:=some 47) #[true,true,true,true,true,true,true,true,true,true,true,true,false,false,false] HT_.out ?_;refine Qq (i:=12) (N:=some 48) #[true,true,true,true,true,true,true,true,true,true,true,true,true,false,false] HT_.out ?_;refine Qq (i:=13) (N:=some 9) #[true,true,true,true,true,true,true,true,true,true,true,true,true,true,false] HT_.out ?_;refine Qq (i:=14) (N:=some 10) #[true,true,true,true,true,true,true,true,true,true,true,true,true,true,true] HT_.out ?_;refine YS (Zq HT_.out (by kernel_rfl)) ?_
           try go_wp2
           have n0_:=zA.mk (Kd.S_drew vw.out);have n1_:=zA.mk (Kd.S_drew HO_6.out);have n2_:=zA.mk (Kd.S_drew HO_7.out);have n3_:=zA.mk (Kd.R_drew wH.out);have n4_:=zA.mk (zP vb.out);have n5_:=zA.mk (zG HB.out);clear vw HO_6 HO_7 wH vb HB;have vw:=n0_;have HO_6:=n1_;have HO_7:=n2_;have wH:=n3_;have vb:=n4_;have HB:=n5_;clear n0_ n1_ n2_ n3_ n4_ n5_;have p414:0≤(x8_1:Int):=Qa;have q414:x8_1 < (l0_3.length:Int):=Qa;obtain ⟨ad414,A414_1,c414_1,e414,hx414_0,hx414_1,hl414_1,hi414_1⟩:=ZE vp.out x8_1 p414 q414;have hw414_1:=hx414_1;have hw414_0:=hx414_0;obtain rfl:ad409=ad414:=(by injection e414);replace hx414_0:=Qp HB hx414_0;replace hx414_1:=Qp HB hx414_1;have HR414_1:=zA.mk hi414_1;have HC414_1:=zA.mk hl414_1;clear hi414_1 hl414_1;replace p414:=eq_true p414;replace q414:=eq_true q414;obtain ⟨Ao35,co35,eo35⟩:=Kd.S_slice HO_6.out
           (first|subst eo35|(injection eo35 with f1_ f2_ f3_;have f4_:=f1_.symm;have f5_:=f3_.symm;clear f1_ f2_ f3_;subst f4_;subst f5_))
           have p415:0≤(((zH l0_3 x8_1).f0):Int):=Qa;have q415:((zH l0_3 x8_1).f0) < (t402.length:Int):=Qa;obtain ⟨ad415,A415_0,c415_0,e415,hx415_0,hl415_0,hi415_0⟩:=ZY (Kd.S_reads' HO_6.out).2.2 ((zH l0_3 x8_1).f0) p415 q415;cases e415;obtain ⟨ce415,hce415,hMe415,hcc415⟩:=Kd.S_get HO_6.out [] ((zH l0_3 x8_1).f0) p415 (by first|exact q415|exact Qa|(have e_:=(Kd.S_reads' HO_6.out).1;omega));obtain ⟨ve415_0,rfl,ge415_0⟩:=hMe415;have hv415_0:=hcc415 0 _ rfl;rw [Nat.add_zero,show ((Kd.slice 9 Kd.string)).sz=1 from rfl,Nat.mul_one] at hv415_0;replace hv415_0:=Option.some.inj (hv415_0.symm.trans hx415_0);rw [hv415_0] at ge415_0;have HL415_0:=zA.mk (show Kd.R Kd.string 9 _ _ _ _ (zk t402 ((zH l0_3 x8_1).f0)) from ge415_0);clear hv415_0 ge415_0 hcc415 hce415;have HR415_0:=zA.mk hi415_0;have HC415_0:=zA.mk hl415_0;clear hi415_0 hl415_0;replace p415:=eq_true p415;replace q415:=eq_true q415;obtain ⟨Ao36,co36,eo36⟩:=Kd.R_slice wH.out
           (first|subst eo36|(injection eo36 with f1_ f2_ f3_;have f4_:=f1_.symm;have f5_:=f3_.symm;clear f1_ f2_ f3_;subst f4_;subst f5_))
           refine YJ (n:=14) (S:=fun w'=>w'.cell? ⟨we,0,none⟩=some (.int .i64 a0_0)∧w'.cell? ⟨we,1,none⟩=some (.int .i64 a0_1)∧w'.cell? ⟨we,2,none⟩=some (.slice vg l0_2.length vh)∧w'.cell? ⟨we,3,none⟩=some (.slice (some ad409) l0_3.length vi)∧w'.cell? (ad409.add ((x8_1).toNat * 2))=some (.int .i64 ((zH l0_3 x8_1).f0))∧w'.cell? ⟨(ad409.add ((x8_1).toNat * 2)).block,(ad409.add ((x8_1).toNat * 2)).off + 1,none⟩=some (.slice A414_1 ((zH l0_3 x8_1).f1).length c414_1)∧w'.cell? (ad415.add (((zH l0_3 x8_1).f0)).toNat)=some (.slice A415_0 (zk t402 ((zH l0_3 x8_1).f0)).length c415_0)) (ds:= []) #[false,false,false,false,false,false,false,false,false,false,false,false,false,false] (by kernel_rfl) rfl rfl ⟨(zN vb.out 0).trans rfl,(zN vb.out 1).trans rfl,(zN vb.out 2).trans rfl,(zN vb.out 3).trans rfl,(Qp HB hw414_0),(Qp HB hw414_1),hx415_0⟩ (fun hHeld=> ?_);refine ZG zm.tab12 zm.bits12 (fun HT_ HW_=> ?_)
           generalize w33.drew=w34 at vw HO_6 HO_7 wH vb HB HL415_0 HR414_1 HR415_0 hx414_0 hx414_1 hx415_0 hHeld⊢
           refine Qq (i:=0) (N:=some 49) #[true,false,false,false,false,false,false,false,false,false,false,false,false,false] HT_.out ?_;refine Qq (i:=1) (N:=some 50) #[true,true,false,false,false,false,false,false,false,false,false,false,false,false] HT_.out ?_;refine Qq (i:=2) (N:=some 51) #[true,true,true,false,false,false,false,false,false,false,false,false,false,false] HT_.out ?_;refine Qq (i:=4) (N:=some 53) #[true,true,true,false,true,false,false,false,false,false,false,false,false,false] HT_.out ?_;refine Qq (i:=10) (N:=some 59) #[true,true,true,false,true,false,false,false,false,false,true,false,false,false] HT_.out ?_;refine Qx (i:=3) (N:=some 52) #[true,true,true,true,true,false,false,false,false,false,true,false,false,false] HT_.out HW_.out hHeld ?_;refine Qq (i:=5) (N:=some 54) #[true,true,true,true,true,true,false,false,false,false,true,false,false,false] HT_.out ?_;refine Qq (i:=6) (N:=some 55) #[true,true,true,true,true,true,true,false,false,false,true,false,false,false] HT_.out ?_;refine Qx (i:=7) (N:=some 56) #[true,true,true,true,true,true,true,true,false,false,true,false,false,false] HT_.out HW_.out hHeld ?_;refine Qq (i:=8) (N:=some 57) #[true,true,true,true,true,true,true,true,true,false,true,false,false,false] HT_.out ?_;refine Qx (i:=9) (N:=some 58) #[true,true,true,true,true,true,true,true,true,true,true,false,false,false] HT_.out HW_.out hHeld ?_;refine Qx (i:=11) (N:=some 60) #[true,true,true,true,true,true,true,true,true,true,true,true,false,false] HT_.out HW_.out hHeld ?_;refine one_ (i:=12) (N:=some 61) #[true,true,true,true,true,true,true,true,true,true,true,true,true,false] rfl rfl (yr HT_.out (by kernel_rfl)) (by decide) (fun K hK=> ?_);refine Yg Tryz.func23 (by kernel_rfl) rfl #[.slice Ao36 t410.length co36, .slice A415_0 (zk t402 ((zH l0_3 x8_1).f0)).length c415_0, .int .i64 a0_1] (by rfl) rfl rfl Q8 ?_
           with_reducible refine (zQ.calls k1 _ _ t410 _ _ (zk t402 ((zH l0_3 x8_1).f0)) a0_1 t416 _ ?side1 ?side2 ?side3 ?side4 A18.out).mono ?_
           (case side1=>exact Qo ((Kd.R_reads' wH.out).2.2))
           (case side2=>exact (Kd.R_reads' wH.out).2.1)
           (case side3=>exact Qo QO)
           (case side4=>exact HC415_0.out)
           rintro e w37 ⟨v417,rfl,ho0,hb⟩;have HS6_:=(hb.cell (ZzA _ _ (hHeld.2.2.2.2.2.2))).trans (hHeld.2.2.2.2.2.2);refine ⟨_,rfl,?_⟩;have n0_:=zA.mk (Kd.S_elder' (Qj vw) (Kd.R_base ho0) hb);have n1_:=zA.mk (Kd.S_elder' (Qj HO_6) (Kd.R_base ho0) hb);have n2_:=zA.mk (Kd.S_elder' (Qj HO_7) (Kd.R_base ho0) hb);have n3_:=zA.mk (Kd.R_elder' (Qh wH) (Kd.R_base ho0) hb);have n4_:=zA.mk (Kd.R_elder' (Qh HL415_0) (Kd.R_base ho0) hb);have n5_:=zA.mk (Kd.R_lower (Kd.R_new' (Kd.R_new' ho0 (Kd.R_lt (Qh wH))) (Kd.R_lt (Qh HL415_0))) (zD (Qd wG)));have n6_:=zA.mk (zZ (g:=we) (Qi vb) hb);have n7_:=zA.mk (Kd.C_below QO hb);have n8_:=zA.mk (zF (Qd wG) hb);clear vw HO_6 HO_7 wH HL415_0 vb HR415_0 HB;have vw:=n0_;have HO_6:=n1_;have HO_7:=n2_;have wH:=n3_;have HL415_0:=n4_;have HO418:=n5_;have vb:=n6_;have HR415_0:=n7_;have HB:=n8_;clear n0_ n1_ n2_ n3_ n4_ n5_ n6_ n7_ n8_;(try clear hb ho0);refine hK.out _ _ ⟨(zN vb.out 0).trans rfl,(zN vb.out 1).trans rfl,(zN vb.out 2).trans rfl,(zN vb.out 3).trans rfl,(Qp HB hw414_0),(Qp HB hw414_1),HS6_⟩ (fun hHeld=> ?_);clear hK K;refine yu (a':= ?_) ?_ ?_;rotate_left
           ·show Act.put _ (some 61) _=_
            simp only [Act.put,List.setIfInBounds_toArray,List.set_cons_zero,List.set_cons_succ,yl,yq]
            rfl
           refine Qq (i:=13) (N:=some 11) #[true,true,true,true,true,true,true,true,true,true,true,true,true,true] HT_.out ?_;refine YS (Zq HT_.out (by kernel_rfl)) ?_;obtain ⟨Ao38,co38,eo38⟩:=Kd.R_slice HO418.out;subst eo38
           try go_wp2_with (first|((with_reducible refine ZK (b:= .append) (xs:= #[.tmp 65, .tmp 67]) rfl ?_);at_builtin;refine Kd.S_append (Kd.slice 9 Kd.string) (w0:=w) w.heap.size rfl (.tmp 65) (.tmp 67) 32 43 (.slice none 0 0) 24 rfl Tryz.underlying32 info43 rfl (by decide) (by omega) u7 x7_1 t416 [.slice Ao38 t416.length co38] (fun k_=>some k_≠(.slice Ao32 t398.length co32:Value).ownBlock∧some k_≠(.slice (some ad415) t402.length co35:Value).ownBlock∧some k_≠(.slice Ao36 t410.length co36:Value).ownBlock) (fun k_=>some k_=(.slice Ao38 t416.length co38:Value).ownBlock) rfl rfl ?aP (fun k_ hk_=>((Kd.R_mono (ok':=fun k_=>((fun k_=>some k_≠(.slice Ao32 t398.length co32:Value).ownBlock∧some k_≠(.slice (some ad415) t402.length co35:Value).ownBlock∧some k_≠(.slice Ao36 t410.length co36:Value).ownBlock)) k_∧some k_≠(u7:Value).ownBlock) (Kd.R_apart' (Kd.R_apart' (Kd.R_apart' (HO418.out) (Kd.S_typed vw.out) (by decide)) (Kd.S_typed HO_6.out) (by decide)) (Kd.S_typed HO_7.out) (by decide)) (fun k_ hk=>⟨⟨hk.1.1.2,⟨hk.1.2,hk.1.1.1.1.2⟩⟩,hk.2⟩))).1 k_ hk_.symm) ?aF ?aO ?aB ?aS ?aL ?_;(case aP=>exact Kd.M_row (Kd.R_mono (Kd.R_tight rfl (Kd.R_mono (ok':=fun k_=>((fun k_=>some k_≠(.slice Ao32 t398.length co32:Value).ownBlock∧some k_≠(.slice (some ad415) t402.length co35:Value).ownBlock∧some k_≠(.slice Ao36 t410.length co36:Value).ownBlock)) k_∧some k_≠(u7:Value).ownBlock) (Kd.R_apart' (Kd.R_apart' (Kd.R_apart' (HO418.out) (Kd.S_typed vw.out) (by decide)) (Kd.S_typed HO_6.out) (by decide)) (Kd.S_typed HO_7.out) (by decide)) (fun k_ hk=>⟨⟨hk.1.1.2,⟨hk.1.2,hk.1.1.1.1.2⟩⟩,hk.2⟩))) (fun _ h_=>h_)));(case aB=>exact (Qd wG));(case aF=>exact (fun k_ hk=>⟨Kd.fresh' (Kd.S_lt (Qj vw)) k_ hk,Kd.fresh' (Kd.S_lt (Qj HO_6)) k_ hk,Kd.fresh' (Kd.R_lt (Qh wH)) k_ hk⟩));(case aO=>exact (by (with_reducible repeat (first|apply Kd.S_alloc|apply Kd.S_drewN|apply Kd.S_drew));exact Kd.S_mono HO_7.out (fun k_ hk=>⟨⟨hk.1.1.1,⟨hk.1.1.2,hk.1.2⟩⟩,fun e_=>hk.2 e_⟩)));(case aS=>exact (zD (Qd wG)));(case aL=>have:=LMc29.out;omega);intro v420 w39 ho hb hg hat;rw [←Ny419.out] at ho;have n0_:=zA.mk (Kd.S_after (ok:=(fun k_=>some k_≠(.slice (some ad415) t402.length co35:Value).ownBlock∧some k_≠(.slice Ao36 t410.length co36:Value).ownBlock∧some k_≠(.slice Ao38 t416.length co38:Value).ownBlock)) (by (with_reducible repeat (first|apply Kd.S_alloc|apply Kd.S_drewN|apply Kd.S_drew));exact Kd.S_mono vw.out (fun _ hk=>⟨⟨hk.1.1.1,⟨hk.1.2,hk.2⟩⟩,hk.1.1.2⟩)) hg hat);have n1_:=zA.mk (Kd.S_after (ok:=(fun k_=>some k_≠(.slice Ao32 t398.length co32:Value).ownBlock∧some k_≠(.slice Ao36 t410.length co36:Value).ownBlock∧some k_≠(.slice Ao38 t416.length co38:Value).ownBlock)) (by (with_reducible repeat (first|apply Kd.S_alloc|apply Kd.S_drewN|apply Kd.S_drew));exact Kd.S_mono HO_6.out (fun _ hk=>⟨⟨hk.1.1.1,⟨hk.1.2,hk.2⟩⟩,hk.1.1.2⟩)) hg hat);have n2_:=zA.mk (ZD (g:=we) (Qi vb) hg (Kd.S_ne HO_7.out vb.out (by decide)));have n3_:=zA.mk (Kd.R_over' (Qh wH) (Kd.S_typed (Qj HO_7)) (by decide) hg);have n4_:=zA.mk (Kd.R_after (ok:=(fun k_=>some k_≠(.slice Ao32 t398.length co32:Value).ownBlock∧some k_≠(.slice (some ad415) t402.length co35:Value).ownBlock∧some k_≠(.slice Ao36 t410.length co36:Value).ownBlock∧some k_≠(.slice Ao38 t416.length co38:Value).ownBlock)) (by (with_reducible repeat (first|apply Kd.R_alloc|apply Kd.R_drewN|apply Kd.R_drew));exact Kd.R_mono HL415_0.out (fun _ hk=>⟨⟨hk.1.1.1.1,⟨hk.1.2,⟨hk.1.1.2,hk.2⟩⟩⟩,hk.1.1.1.2⟩)) hg hat);have n5_:=zA.mk (hb);have n6_:=zA.mk (ho);clear vw HO_6 vb wH HL415_0 HB HO_7 HO418;have vw:=n0_;have HO_6:=n1_;have vb:=n2_;have wH:=n3_;have HL415_0:=n4_;have HB:=n5_;have HO421:=n6_;clear n0_ n1_ n2_ n3_ n4_ n5_ n6_ ho hb hg hat))
           go_roundg k1
           case measure=>have:=HK1.out;omega
           case rel=>exact ⟨(y419),(wrap64 (x8_1 + 1)),Zk,H',⟨by have:=HK1.out;omega⟩,⟨by (with_reducible repeat (first|apply Kd.S_alloc|apply Kd.S_drewN|apply Kd.S_drew));exact Kd.S_mono vw.out (fun _ hk=>⟨hk.1.1,hk.2⟩)⟩,⟨by (with_reducible repeat (first|apply Kd.S_alloc|apply Kd.S_drewN|apply Kd.S_drew));exact Kd.S_mono HO_6.out (fun _ hk=>⟨hk.1.1,hk.2⟩)⟩,⟨by (with_reducible repeat (first|apply Kd.S_alloc|apply Kd.S_drewN|apply Kd.S_drew));exact Kd.S_mono HO421.out (fun _ hk=>⟨hk.1,hk.2.1⟩)⟩,⟨Qi vb⟩,⟨by repeat (first|(with_reducible first|exact HB.out|apply zE|apply zC|apply zG|refine zJ ?_ wG.out)|exact HB.out)⟩⟩
          ·rw [if_neg c29] at H
           exact absurd H (by simp)
        ·rw [if_neg c17] at H
         exact absurd H (by simp)
       ·rw [if_neg c16] at H
        exact absurd H (by simp)
      ·rw [if_neg c14] at H
       exact absurd H (by simp)
     ·rw [if_neg c13] at H
      have c13b0:=decide_eq_false c13;clear c13;simp only [Option.some.injEq,Prod.mk.injEq] at H;obtain ⟨rfl,rfl⟩:=H;have hcz40_0:=Qn vb 0 rfl;have hcz40_1:=Qn vb 1 rfl;have hcz40_2:=Qn vb 2 rfl;have hcz40_3:=Qn vb 3 rfl;have hfz40_0:=zB vb.out 0;have hfz40_1:=zB vb.out 1;have hfz40_2:=zB vb.out 2;have hfz40_3:=zB vb.out 3
      go_wp2
      go_ret2
      exact ⟨_,by first|rfl|(simp [zR,zS] <;> rfl)|(simp [*,zR,zS] <;> rfl),by (with_reducible repeat (first|apply Kd.S_alloc|apply Kd.S_drewN|apply Kd.S_drew));exact Kd.S_mono HO_7.out (fun _ hk=>trivial),by repeat (first|(with_reducible first|exact HB.out|apply zE|apply zC|apply zG|refine zJ ?_ wG.out)|exact HB.out)⟩
  ·rw [if_neg c5] at H
   have c5b0:(t405 == 0)=false:=beq_eq_false_iff_ne.mpr c5;have c5b1:(t405 != 0)=true:=bne_iff_ne.mpr c5;simp only [Option.some.injEq,Prod.mk.injEq] at H;obtain ⟨rfl,rfl⟩:=H
   go_enter Tryz.func8,Tryz.ntmps8
   go_wp2_with (first|((with_reducible refine zw (N:=1) rfl ?_);refine yM (by rfl) (N:=1) (by rfl) (cs:= #[.int .i64 a0_0, .int .i64 a0_1, .slice vg l0_2.length vh, .slice vl l0_3.length vi]) (t:=25) Qm ?_;intro we hg w41 hbox hb;have n0_:=zA.mk (zF Qc hb);have n1_:=zA.mk (hbox);have n2_:=zA.mk ((by rw [hg];exact (zD Qc):w.heap.size≤we));have n3_:=zA.mk ((by rw [hg];exact (zD Qc):w.heap.size≤we));clear HB;have HB:=n0_;have vb:=n1_;have GW397:=n2_;have wG:=n3_;clear n0_ n1_ n2_ n3_ hb hbox hg;have hcz42_0:=Qn vb 0 rfl;have hcz42_1:=Qn vb 1 rfl;have hcz42_2:=Qn vb 2 rfl;have hcz42_3:=Qn vb 3 rfl;have hfz42_0:=zB vb.out 0;have hfz42_1:=zB vb.out 1;have hfz42_2:=zB vb.out 2;have hfz42_3:=zB vb.out 3)|((with_reducible refine zj (f:=20) rfl ?_);refine yS (some 14) rfl rfl Tryz.func20 (by kernel_rfl) rfl #[.agg #[.int .i64 a0_0, .int .i64 a0_1, .slice vg l0_2.length vh, .slice vl l0_3.length vi]] rfl Q8 ?_;(with_reducible refine (yV.calls k a0_0 a0_1 _ _ l0_2 _ _ l0_3 t398 t401 _ ?side1 ?side2 ?side3 ?side4 A2.out).mono ?_);(case side1=>exact Qo (Kd.C_below vI.out HB.out));(case side2=>exact vJ.out);(case side3=>exact Qo (Kd.C_below vp.out HB.out));(case side4=>exact vL.out);rintro e w43 ⟨v399,rfl,ho0,hb⟩;refine ⟨_,rfl,?_⟩;have n1_:=zA.mk (zZ (g:=we) (Qi vb) hb);have n2_:=zA.mk (zF (Qd wG) hb);clear vb HB;have vb:=n1_;have HB:=n2_;clear n1_ n2_;(try clear hb ho0);have hcz44_0:=Qn vb 0 rfl;have hcz44_1:=Qn vb 1 rfl;have hcz44_2:=Qn vb 2 rfl;have hcz44_3:=Qn vb 3 rfl;have hfz44_0:=zB vb.out 0;have hfz44_1:=zB vb.out 1;have hfz44_2:=zB vb.out 2;have hfz44_3:=zB vb.out 3)|((with_reducible refine zj (f:=21) rfl ?_);refine yS (some 22) rfl rfl Tryz.func21 (by kernel_rfl) rfl #[.agg #[.int .i64 a0_0, .int .i64 a0_1, .slice vg l0_2.length vh, .slice vl l0_3.length vi]] rfl Q8 ?_;(with_reducible refine (zK.calls k a0_0 a0_1 _ _ l0_2 _ _ l0_3 t402 t405 _ ?side1 ?side2 ?side3 ?side4 A4.out).mono ?_);(case side1=>exact Qo (Kd.C_below vI.out HB.out));(case side2=>exact vJ.out);(case side3=>exact Qo (Kd.C_below vp.out HB.out));(case side4=>exact vL.out);rintro e w45 ⟨v403,rfl,ho0,hb⟩;refine ⟨_,rfl,?_⟩;have n3_:=zA.mk (zF (Qd wG) hb);clear HB;have HB:=n3_;clear n3_;(try clear hb ho0)))
   go_ret2
   exact ⟨_,by first|rfl|(simp [zR,zS] <;> rfl)|(simp [*,zR,zS] <;> rfl),by first|exact Kd.S_nil _ _ _ _ _|exact Kd.N_nil _ _ _ _ _|exact Kd.V_nil _ _ _ _ _|exact Kd.Q_nil _ _ _ _ _|exact Kd.R_nil _ _ _ _ _,by repeat (first|(with_reducible first|exact HB.out|apply zE|apply zC|apply zG|refine zJ ?_ wG.out)|exact HB.out)⟩
 ·rw [if_neg c3] at H
  have c3b0:(t401 == 0)=false:=beq_eq_false_iff_ne.mpr c3;have c3b1:(t401 != 0)=true:=bne_iff_ne.mpr c3;simp only [Option.some.injEq,Prod.mk.injEq] at H;obtain ⟨rfl,rfl⟩:=H
  go_enter Tryz.func8,Tryz.ntmps8
  go_wp2_with (first|((with_reducible refine zw (N:=1) rfl ?_);refine yM (by rfl) (N:=1) (by rfl) (cs:= #[.int .i64 a0_0, .int .i64 a0_1, .slice vg l0_2.length vh, .slice vl l0_3.length vi]) (t:=25) Qm ?_;intro we hg w46 hbox hb;have n0_:=zA.mk (zF Qc hb);have n1_:=zA.mk (hbox);have n2_:=zA.mk ((by rw [hg];exact (zD Qc):w.heap.size≤we));have n3_:=zA.mk ((by rw [hg];exact (zD Qc):w.heap.size≤we));clear HB;have HB:=n0_;have vb:=n1_;have GW397:=n2_;have wG:=n3_;clear n0_ n1_ n2_ n3_ hb hbox hg;have hcz47_0:=Qn vb 0 rfl;have hcz47_1:=Qn vb 1 rfl;have hcz47_2:=Qn vb 2 rfl;have hcz47_3:=Qn vb 3 rfl;have hfz47_0:=zB vb.out 0;have hfz47_1:=zB vb.out 1;have hfz47_2:=zB vb.out 2;have hfz47_3:=zB vb.out 3)|((with_reducible refine zj (f:=20) rfl ?_);refine yS (some 14) rfl rfl Tryz.func20 (by kernel_rfl) rfl #[.agg #[.int .i64 a0_0, .int .i64 a0_1, .slice vg l0_2.length vh, .slice vl l0_3.length vi]] rfl Q8 ?_;(with_reducible refine (yV.calls k a0_0 a0_1 _ _ l0_2 _ _ l0_3 t398 t401 _ ?side1 ?side2 ?side3 ?side4 A2.out).mono ?_);(case side1=>exact Qo (Kd.C_below vI.out HB.out));(case side2=>exact vJ.out);(case side3=>exact Qo (Kd.C_below vp.out HB.out));(case side4=>exact vL.out);rintro e w48 ⟨v399,rfl,ho0,hb⟩;refine ⟨_,rfl,?_⟩;have n2_:=zA.mk (zF (Qd wG) hb);clear HB;have HB:=n2_;clear n2_;(try clear hb ho0)))
  go_ret2
  exact ⟨_,by first|rfl|(simp [zR,zS] <;> rfl)|(simp [*,zR,zS] <;> rfl),by first|exact Kd.S_nil _ _ _ _ _|exact Kd.N_nil _ _ _ _ _|exact Kd.V_nil _ _ _ _ _|exact Kd.Q_nil _ _ _ _ _|exact Kd.R_nil _ _ _ _ _,by repeat (first|(with_reducible first|exact HB.out|apply zE|apply zC|apply zG|refine zJ ?_ wG.out)|exact HB.out)⟩
end Go.Proofs.YtpfeebmfihgelaaGreat.HGuessPicks
