-- Written by plus.py for this claim.
import Derived.Test.YtpfeebmfihgelaaGreatSGuessWholeVZip
import Derived.Test.YtpfeebmfihgelaaGreatHGuessWholex0
import Derived.Test.YtpfeebmfihgelaaGreatHGuessWholex3
import Derived.Test.YtpfeebmfihgelaaGreatHGuessWholex11
import Derived.Test.YtpfeebmfihgelaaGreatHGuessWholex14
namespace Go.Proofs.YtpfeebmfihgelaaGreat.HGuessWhole
open Go.RowKit Go.Proofs.YtpfeebmfihgelaaGreatW.PrintWords Go.Proofs.YtpfeebmfihgelaaGreatW.PrintLast Go.Proofs.YtpfeebmfihgelaaGreatW.PrintMore
attribute [local go_sem] ym yn ZG ZH yd ye yo yp   -- for this text's walks alone
set_option linter.unusedVariables false
set_option maxHeartbeats 8000000
set_option maxRecDepth 100000
set_option linter.unusedSimpArgs false
def zu.l0:Nat→List Int→Int→Int→Option (Bool)
 | 0,_,_,_=>none
 | k + 1,x0,x1,x5=>if x5 < (x0.length:Int) then (if 0≤x5 then (if (rd x0 x5)=x1 then (some true) else (zu.l0 k x0 x1 (wrap64 (x5 + 1)))) else (none)) else (some false)
def zu.f (k:Nat) (l0:List Int) (a1:Int):Option (Bool):=zu.l0 k l0 a1 0
theorem zu.mono_l:∀k,(∀y0 y1 y2,LeO (zu.l0 k y0 y1 y2) (zu.l0 (k + 1) y0 y1 y2))
 | 0=>fun _ _ _ r h=>by simp [zu.l0] at h
 | k + 1=>by
  have ih0:=zu.mono_l k
  ·intro y0 y1 y2
   unfold zu.l0
   repeat' first
   | with_reducible first|exact ih0 _ _ _|exact LeO.refl _|exact LeO.none _|refine LeO.ite ?_ ?_|refine LeO.bind ?_ (fun _=> ?_)
theorem zu.mono:∀a0 a1 k,LeO (zu.f k a0 a1) (zu.f (k + 1) a0 a1):=by
 intro a0 a1 k;have ih0:=zu.mono_l k
 unfold zu.f
 repeat' first
   | with_reducible first|exact ih0 _ _ _|exact LeO.refl _|exact LeO.none _|refine LeO.ite ?_ ?_|refine LeO.bind ?_ (fun _=> ?_)
theorem zu.calls (k:Nat) (A0:Option Addr) (c0:Nat) (l0:List Int) (a1:Int) (r:Bool) (w:World) (hr0:Kd.C (Kd.int .i64) w A0 l0.length l0) (hc0:l0.length≤c0) (h:zu.f k l0 a1=some r) :
  Calls Tryz.prog 15 #[.slice A0 l0.length c0, .int .i64 a1] w fun e w'=>e= .returned (.bool r)∧zv w w':=by
 have HR0:=zA.mk hr0;have HC0:=zA.mk hc0;clear hr0 hc0;have H:(zu.l0 k l0 a1 0)=some r:=h;clear h;have H':=zA.mk H;clear H
 go_enter Tryz.func15,Tryz.ntmps15
 go_wp2
 go_loopg [5] k (fun kq v5 w'=>∃(x5_1:Int),v5= .int .i64 x5_1∧zA (zu.l0 kq l0 a1 x5_1=some r)∧zA (kq≤k)∧zv w w')
 case atStart=>exact ⟨(0),Q6,H',⟨Nat.le_refl _⟩,by repeat (first|exact zv.refl _|apply zv.step)⟩
 case round=>
  clear H';(try clear c1);(try clear p2);obtain ⟨x5_1,rfl,HA,HK1,⟨m1,rfl⟩⟩:=hrel;cases gk with
  | zero=>exact absurd HA.out (by simp [zu.l0])
  | succ k1=>
   have H:=HA.out;clear HA;simp only [zu.l0] at H
   by_cases c3:x5_1 < (l0.length:Int)
   ·rw [if_pos c3] at H
    have c3b0:=decide_eq_true c3;clear c3
    by_cases c4:0≤x5_1
    ·rw [if_pos c4] at H
     have c4b0:=decide_eq_true c4;clear c4
     by_cases c5:(rd l0 x5_1)=a1
     ·rw [if_pos c5] at H
      have c5b0:((rd l0 x5_1) == a1)=true:=beq_iff_eq.mpr c5;have c5b1:((rd l0 x5_1) != a1)=false:=bne_eq_false_iff_eq.mpr c5;clear c5;obtain rfl:=Option.some.inj H;have p368:0≤(x5_1:Int):=Qa;have q368:x5_1 < (l0.length:Int):=Qa;obtain ⟨ad368,e368,hx368_0⟩:=Kd.at_int HR0.out x5_1 p368 q368;cases e368;replace p368:=eq_true p368;replace q368:=eq_true q368
      go_wp2
      go_ret
      exact ⟨by first|rfl|(simp;done)|(simp [*];done),by repeat (first|exact zv.refl _|apply zv.step)⟩
     ·rw [if_neg c5] at H
      have c5b0:((rd l0 x5_1) == a1)=false:=beq_eq_false_iff_ne.mpr c5;have c5b1:((rd l0 x5_1) != a1)=true:=bne_iff_ne.mpr c5;have H':=zA.mk H;clear H;have p368:0≤(x5_1:Int):=Qa;have q368:x5_1 < (l0.length:Int):=Qa;obtain ⟨ad368,e368,hx368_0⟩:=Kd.at_int HR0.out x5_1 p368 q368;cases e368;replace p368:=eq_true p368;replace q368:=eq_true q368
      go_wp2
      go_roundg k1
      case measure=>have:=HK1.out;omega
      case rel=>exact ⟨(wrap64 (x5_1 + 1)),Q6,H',⟨by have:=HK1.out;omega⟩,by repeat (first|exact zv.refl _|apply zv.step)⟩
    ·rw [if_neg c4] at H
     exact absurd H (by simp)
   ·rw [if_neg c3] at H
    have c3b0:=decide_eq_false c3;clear c3;obtain rfl:=Option.some.inj H
    go_wp2
    go_ret
    exact ⟨by first|rfl|(simp;done)|(simp [*];done),by repeat (first|exact zv.refl _|apply zv.step)⟩
mutual
def zH.l0:Nat→List (List ByteArray)→Int→Int→Int→List Int→List (S42)→Option (Bool)
 | 0,_,_,_,_,_,_=>none
 | k + 1,x3,x5,x370000,x370001,x370002,x370003=>if x5 < (x3.length:Int) then (if 0≤x5 then (if x5 < (x370003.length:Int) then ((yG.f k x370000 x370001 x370002 x370003 ((zF x370003 x5).f0)).bind fun bt384=>(zH.l1 k x3 x5 bt384.1 bt384.2 0 x370000 x370001 x370002 x370003)) else (none)) else (none)) else (some ((x3.length:Int) == (x370003.length:Int)))
def zH.l1:Nat→List (List ByteArray)→Int→List Int→Int→Int→Int→Int→List Int→List (S42)→Option (Bool)
 | 0,_,_,_,_,_,_,_,_,_=>none
 | k + 1,x3,x5,x6,x7,x8,x370000,x370001,x370002,x370003=>if 0≤x5 then (if x5 < (x3.length:Int) then (if x8 < ((ze x3 x5).length:Int) then (if 0≤x8 then (if ((rdOf ByteArray.empty (ze x3 x5) x8).size:Int)=x370001 then ((zZ.f k (rdOf ByteArray.empty (ze x3 x5) x8) x370001).bind fun t393=>(if t393=true then (if x7=0 then (if 0 < ((rdOf ByteArray.empty (ze x3 x5) x8).size:Int) then ((zu.f k x6 (wrap64 (bt (rdOf ByteArray.empty (ze x3 x5) x8) 0))).bind fun t396=>(if t396=true then (zH.l1 k x3 x5 x6 x7 (wrap64 (x8 + 1)) x370000 x370001 x370002 x370003) else (some false))) else (none)) else (some false)) else (some false))) else (some false)) else (none)) else (zH.l0 k x3 (wrap64 (x5 + 1)) x370000 x370001 x370002 x370003)) else (none)) else (none)
end
def zH.f (k:Nat) (a0_0:Int) (a0_1:Int) (l0_2:List Int) (va:List (S42)):Option (Bool):=(yN.f k).bind fun t370=>(if t370=true then ((zh.f k a0_0 a0_1 l0_2 va).bind fun bt371=>((yB.f k bt371.1 bt371.2.1 bt371.2.2.1 bt371.2.2.2).bind fun bt379=>(if bt379.2=0 then (zH.l0 k bt379.1 0 bt371.1 bt371.2.1 bt371.2.2.1 bt371.2.2.2) else (some ((bt379.1.length:Int) == 0))))) else (some false))
theorem zH.mono_l:∀k,(∀y0 y1 y2 y3 y4 y5,LeO (zH.l0 k y0 y1 y2 y3 y4 y5) (zH.l0 (k + 1) y0 y1 y2 y3 y4 y5))∧(∀y0 y1 y2 y3 y4 y5 y6 y7 y8,LeO (zH.l1 k y0 y1 y2 y3 y4 y5 y6 y7 y8) (zH.l1 (k + 1) y0 y1 y2 y3 y4 y5 y6 y7 y8))
 | 0=>⟨fun _ _ _ _ _ _ r h=>by simp [zH.l0] at h,fun _ _ _ _ _ _ _ _ _ r h=>by simp [zH.l1] at h⟩
 | k + 1=>by
  obtain ⟨ih0,ih1⟩:=zH.mono_l k;refine ⟨?_,?_⟩
  ·intro y0 y1 y2 y3 y4 y5
   unfold zH.l0
   repeat' first
   | with_reducible first|exact ih0 _ _ _ _ _ _|exact ih1 _ _ _ _ _ _ _ _ _|exact zu.mono _ _ _|exact zh.mono _ _ _ _ _|exact yN.mono _|exact zZ.mono _ _ _|exact yG.mono _ _ _ _ _ _|exact yB.mono _ _ _ _ _|exact LeO.refl _|exact LeO.none _|refine LeO.ite ?_ ?_|refine LeO.bind ?_ (fun _=> ?_)
  ·intro y0 y1 y2 y3 y4 y5 y6 y7 y8
   unfold zH.l1
   repeat' first
   | with_reducible first|exact ih0 _ _ _ _ _ _|exact ih1 _ _ _ _ _ _ _ _ _|exact zu.mono _ _ _|exact zh.mono _ _ _ _ _|exact yN.mono _|exact zZ.mono _ _ _|exact yG.mono _ _ _ _ _ _|exact yB.mono _ _ _ _ _|exact LeO.refl _|exact LeO.none _|refine LeO.ite ?_ ?_|refine LeO.bind ?_ (fun _=> ?_)
theorem zH.mono:∀a0 a1 a2 a3 k,LeO (zH.f k a0 a1 a2 a3) (zH.f (k + 1) a0 a1 a2 a3):=by
 intro a0 a1 a2 a3 k;obtain ⟨ih0,ih1⟩:=zH.mono_l k
 unfold zH.f
 repeat' first
   | with_reducible first|exact ih0 _ _ _ _ _ _|exact ih1 _ _ _ _ _ _ _ _ _|exact zu.mono _ _ _|exact zh.mono _ _ _ _ _|exact yN.mono _|exact zZ.mono _ _ _|exact yG.mono _ _ _ _ _ _|exact yB.mono _ _ _ _ _|exact LeO.refl _|exact LeO.none _|refine LeO.ite ?_ ?_|refine LeO.bind ?_ (fun _=> ?_)
theorem zH.other {V:World} {g i j:Nat} (v:Value) (h:i≠j):(V.setCell ⟨g,i,none⟩ v).cell? ⟨g,j,none⟩=V.cell? ⟨g,j,none⟩:=by
 apply World.cell?_setCell_other
 intro e
 injection e with _ e
 exact h e
theorem zH.same {V:World} {g i:Nat} (v u:Value) (h:V.cell? ⟨g,i,none⟩=some u):(V.setCell ⟨g,i,none⟩ v).cell? ⟨g,i,none⟩=some v:=by
 apply World.cell?_setCell_same
 exact h
theorem zH.idx {s:ByteArray} (h:0 < s.size):IntKind.i64.wrap ((s[0]'h).toNat:Int)=wrap64 (bt s 0):=by
 rw [yz]
 exact congrArg _ (YH s 0 h)
theorem zH.calls (k:Nat) (a0_0:Int) (a0_1:Int) (A2:Option Addr) (c2:Nat) (l0_2:List Int) (A3:Option Addr) (c3:Nat) (va:List (S42)) (r:Bool) (w:World) (hr2:Kd.C (Kd.int .i64) w A2 l0_2.length l0_2) (hc2:l0_2.length≤c2) (hr3:Kd.C k42 w A3 va.length va) (hc3:va.length≤c3) (h:zH.f k a0_0 a0_1 l0_2 va=some r) :
  Calls Tryz.prog 4 #[.agg #[.int .i64 a0_0, .int .i64 a0_1, .slice A2 l0_2.length c2, .slice A3 va.length c3]] w fun e w'=>e= .returned (.bool r)∧Below w.heap.size w w':=by
 unfold zH.f at h
 obtain ⟨t1,hw1,h⟩:=ZzB h;have HWK:=zA.mk hw1;have HR2:=zA.mk hr2;have HC2:=zA.mk hc2;have HR3:=zA.mk hr3;have HC3:=zA.mk hc3;have HH:=zA.mk h;have hu:=Tryz.underlying25;clear h hw1 hr2 hc2 hr3 hc3
 go_enter Tryz.func4,Tryz.ntmps4
 go_wp2_with fail
 refine (yN.calls k t1 _ HWK.out).mono ?_;rintro e w0 ⟨rfl,hb0⟩;have blk0:=(hb0.block w.heap.size (by simp)).trans (yQ _ _);have HB0:=zA.mk (zD (zG (Below.refl w.heap.size w) _) hb0);clear hb0;have h:=HH.out;clear HH;cases t1
 ·rw [if_neg Bool.false_ne_true] at h
  obtain rfl:=Option.some.inj h;clear h blk0
  go_wp2
  go_ret
  exact ⟨rfl,HB0.out⟩
 rw [if_pos rfl] at h;obtain ⟨⟨b1,b2,b3,b4⟩,hb,h⟩:=ZzB h;obtain ⟨⟨x5,x6⟩,hx,h⟩:=ZzB h;have HBB:=zA.mk hb;have HXX:=zA.mk hx;have HH:=zA.mk h;have BLK:=zA.mk blk0;have q0:=zO blk0 0;have q1:=zO blk0 1;have q2:=zO blk0 2;have q3:=zO blk0 3;clear h hb hx blk0
 go_wp2_with fail
 refine (zh.calls k a0_0 a0_1 A2 c2 l0_2 A3 c3 va b1 b2 b3 b4 w0 (Kd.C_below HR2.out HB0.out) HC2.out (Kd.C_below HR3.out HB0.out) HC3.out HBB.out).mono ?_;rintro e w1 ⟨v2,v3,rfl,hR2,hN3,hb1⟩;obtain ⟨B2,k2,e2⟩:=Kd.R_slice hR2;subst e2;obtain ⟨B3,k3,e3⟩:=Kd.N_slice hN3;subst e3;clear q0 q1 q2 q3;have blk:=(hb1.block w.heap.size (yA BLK.out)).trans BLK.out;have q0:=zO blk 0;have q1:=zO blk 1;have q2:=zO blk 2;have q3:=zO blk 3;have z0:=zB blk 0;have z1:=zB blk 1;have z2:=zB blk 2;have z3:=zB blk 3;have HB1:=zA.mk (zD HB0.out hb1);have HIL:=zA.mk (Kd.R_reads' hR2).2.1;have HPL:=zA.mk (Kd.N_reads' hN3).2.1;clear blk hb1
 go_wp2_with fail
 generalize hW2:World.setCell (World.setCell (World.setCell (World.setCell w1 _ _) _ _) _ _) _ _=W2
 have HBW:zA (Below w.heap.size w W2):=⟨by rw [←hW2];exact zK (zK (zK (zK HB1.out (Nat.le_refl _)) (Nat.le_refl _)) (Nat.le_refl _)) (Nat.le_refl _)⟩
 have c0:W2.cell? ⟨w.heap.size,0,none⟩=some (.int .i64 b1):=by
  rw [←hW2]
  exact (zH.other _ (by decide)).trans ((zH.other _ (by decide)).trans ((zH.other _ (by decide)).trans (zH.same _ _ q0)))
 have c1:W2.cell? ⟨w.heap.size,1,none⟩=some (.int .i64 b2):=by
  rw [←hW2]
  exact (zH.other _ (by decide)).trans ((zH.other _ (by decide)).trans (zH.same _ _ ((zH.other _ (by decide)).trans q1)))
 have c2':W2.cell? ⟨w.heap.size,2,none⟩=some (.slice B2 b3.length k2):=by
  rw [←hW2]
  exact (zH.other _ (by decide)).trans (zH.same _ _ ((zH.other _ (by decide)).trans ((zH.other _ (by decide)).trans q2)))
 have c3':W2.cell? ⟨w.heap.size,3,none⟩=some (.slice B3 b4.length k3):=by
  rw [←hW2]
  exact zH.same _ _ ((zH.other _ (by decide)).trans ((zH.other _ (by decide)).trans ((zH.other _ (by decide)).trans q3)))
 have hst:∀k:Nat,w0.heap.size≤k→W2.heap[k]? =w1.heap[k]? :=fun k hk=>by
  have hlt:=yA BLK.out;rw [←hW2]
  exact (Below.heap_setCell _ _ _ _ (by show k≠w.heap.size;omega)).trans ((Below.heap_setCell _ _ _ _ (by show k≠w.heap.size;omega)).trans ((Below.heap_setCell _ _ _ _ (by show k≠w.heap.size;omega)).trans (Below.heap_setCell _ _ _ _ (by show k≠w.heap.size;omega))))
 have HI:=zA.mk (Kd.F_now (Kd.F_step (Kd.R_F hR2) fun k hk _=>hst k hk));have HP:=zA.mk (Kd.F_now (Kd.F_step (Kd.N_F hN3) fun k hk _=>hst k hk.1));clear hW2 hst hR2 hN3 q0 q1 q2 q3 z0 z1 z2 z3 HB1 BLK HB0;refine (yB.calls k b1 b2 B2 k2 b3 B3 k3 b4 x5 x6 W2 HI.out HIL.out HP.out HPL.out HXX.out).mono ?_;rintro e w4 ⟨v5,rfl,hN5,hb4⟩;obtain ⟨X5,n5,e5⟩:=Kd.N_slice hN5;subst e5;have HX5:=zA.mk (Kd.N_reads' hN5).2.2;have HX5L:=zA.mk (Kd.N_reads' hN5).2.1;have HI4:=zA.mk (Kd.C_below HI.out hb4);have HP4:=zA.mk (Kd.C_below HP.out hb4);have HB4:=zA.mk (zD HBW.out hb4);replace c0:=(hb4.cell (ZzA _ _ c0)).trans c0;replace c1:=(hb4.cell (ZzA _ _ c1)).trans c1;replace c2':=(hb4.cell (ZzA _ _ c2')).trans c2';replace c3':=(hb4.cell (ZzA _ _ c3')).trans c3';have C0:=zA.mk c0;have C1:=zA.mk c1;have C2:=zA.mk c2';have C3:=zA.mk c3';clear hN5 hb4 HI HP HBW HBB HXX c0 c1 c2' c3';have H:=HH.out;clear HH
 by_cases e1:x6=0
 ·rw [if_pos e1] at H
  have e1b:(x6 != 0)=false:=by rw [e1];exact bne_self_eq_false _
  have H':=zA.mk H;clear H e1
  go_wp2
  clear e1b
  go_loopg [5] k (fun kq v wr=>∃(i:Int),v= .int .i64 i∧zA (zH.l0 kq x5 i b1 b2 b3 b4=some r)∧zA (Below w4.heap.size w4 wr))
  case atStart=>exact ⟨0,rfl,H',⟨Below.refl _ _⟩⟩
  case round=>
   clear H';obtain ⟨i,rfl,HA,HB⟩:=hrel;have c0:=(HB.out.cell (ZzA _ _ C0.out)).trans C0.out;have c1:=(HB.out.cell (ZzA _ _ C1.out)).trans C1.out;have c2':=(HB.out.cell (ZzA _ _ C2.out)).trans C2.out;have c3':=(HB.out.cell (ZzA _ _ C3.out)).trans C3.out;cases gk with
   | zero=>exact absurd HA.out (by simp [zH.l0])
   | succ k1=>
    have H:=HA.out;clear HA;simp only [zH.l0] at H
    by_cases g1:i < (x5.length:Int)
    ·rw [if_pos g1] at H
     have key:0≤i∧i < (b4.length:Int):=by
      by_cases g2:0≤i
      ·rw [if_pos g2] at H
       by_cases g3:i < (b4.length:Int)
       ·exact ⟨g2,g3⟩
       ·rw [if_neg g3] at H;cases H
      ·rw [if_neg g2] at H;cases H
     obtain ⟨g2,g3⟩:=key;rw [if_pos g2,if_pos g3] at H;obtain ⟨⟨x7,x8⟩,hd,H⟩:=ZzB H;have HD:=zA.mk hd;have H':=zA.mk H;obtain ⟨ad3,A31,c31,e3,hx3,-,-,-⟩:=ZX HP4.out i g2 g3;cases e3;replace hx3:=Qp HB hx3;have g1b:decide (i < (x5.length:Int))=true:=decide_eq_true g1;have G1:=zA.mk g1;have G2:=zA.mk g2;replace g2:=eq_true g2;replace g3:=eq_true g3;clear H hd g1
     go_wp2
     go_region_held3 (fun V=>V.cell? ⟨w.heap.size,0,none⟩=some (.int .i64 b1)∧V.cell? ⟨w.heap.size,1,none⟩=some (.int .i64 b2)∧V.cell? ⟨w.heap.size,2,none⟩=some (.slice B2 b3.length k2)∧V.cell? ⟨w.heap.size,3,none⟩=some (.slice (some ad3) b4.length k3)∧V.cell? (ad3.add (i.toNat * 2))=some (.int .i64 (zF b4 i).f0)) (first|go_keep|exact ⟨(hb6.cell (ZzA _ _ c0)).trans c0,(hb6.cell (ZzA _ _ c1)).trans c1,(hb6.cell (ZzA _ _ c2')).trans c2',(hb6.cell (ZzA _ _ c3')).trans c3',(hb6.cell (ZzA _ _ hx3)).trans hx3⟩) (first|(go_at_call 7;refine (yG.calls k1 b1 b2 B2 k2 b3 (some ad3) k3 b4 (zF b4 i).f0 x7 x8 _ (Kd.C_drew (Kd.C_below HI4.out HB.out)) HIL.out (Kd.C_drew (Kd.C_below HP4.out HB.out)) HPL.out HD.out).mono ?_;rintro e w6 ⟨v7,rfl,hR7,hb6⟩;replace hb6:Below wr.heap.size wr w6:=zD (zI (Below.refl wr.heap.size wr)) hb6;obtain ⟨X7,n7,e7⟩:=Kd.R_slice hR7;subst e7))
     have HX7:=zA.mk (Kd.R_reads' hR7).2.2;have HX7L:=zA.mk (Kd.R_reads' hR7).2.1;have HB6:=zA.mk (zD HB.out hb6);clear hR7 hb6 c0 c1 c2' c3' hx3 g2 g3 g1b HB HD
     go_wp2
     go_loopg [8] k1 (fun kq v wr=>∃(j:Int),v= .int .i64 j∧zA (zH.l1 kq x5 i x7 x8 j b1 b2 b3 b4=some r)∧zA (kq≤k1)∧zA (Below w6.heap.size w6 wr))
     case atStart=>exact ⟨0,rfl,H',⟨Nat.le_refl _⟩,⟨Below.refl _ _⟩⟩
     case round=>
      clear H';obtain ⟨j,rfl,HA,HKQ,HBq⟩:=hrel;have HB2:=zA.mk (zD HB6.out HBq.out);have c1:=(HB2.out.cell (ZzA _ _ C1.out)).trans C1.out;cases gk with
      | zero=>exact absurd HA.out (by simp [zH.l1])
      | succ k2=>
       have H:=HA.out;clear HA;simp only [zH.l1] at H;rw [if_pos G2.out,if_pos G1.out] at H;obtain ⟨ad5,A5,q5,y5,hy5,-,hr5⟩:=Zc HX5.out i G2.out G1.out;cases y5;replace hy5:=Qp HB2 hy5;have p1:=eq_true G1.out;have p2:=eq_true G2.out
       by_cases g4:j < ((ze x5 i).length:Int)
       ·rw [if_pos g4] at H
        have g5:0≤j:=by
         by_cases g5:0≤j
         ·exact g5
         ·rw [if_neg g5] at H;cases H
        rw [if_pos g5] at H;obtain ⟨ad9,y9,hy9⟩:=Kd.at_string hr5 j g5 g4;cases y9;replace hy9:=Qp HB2 hy9;obtain ⟨s,hs⟩:∃s,s=rdOf ByteArray.empty (ze x5 i) j:=⟨_,rfl⟩;rw [←hs] at H hy9;have g4b:decide (j < ((ze x5 i).length:Int))=true:=decide_eq_true g4;have p3:=eq_true g4;have p4:=eq_true g5;clear hs hr5 g4 g5
        by_cases s1:(s.size:Int)=b2
        ·rw [if_pos s1] at H
         have s1b:((s.size:Int) != b2)=false:=by rw [s1];exact bne_self_eq_false _
         obtain ⟨t,hm,H⟩:=ZzB H;have HM:=zA.mk hm;clear s1 hm;cases t
         ·rw [if_neg Bool.false_ne_true] at H
          obtain rfl:=Option.some.inj H;clear H
          go_wp2
          go_quiet (first|(go_at_call 14;exact Calls.quiet_of ((zZ.calls k2 s b2 false _ HM.out).mono fun e w' h=>⟨h.1,h.2.out⟩)))
          go_wp2
          go_ret
          exact ⟨rfl,zD HB4.out Q4⟩
         ·rw [if_pos rfl] at H
          by_cases s2:x8=0
          ·rw [if_pos s2] at H
           have s2b:(x8 != 0)=false:=by rw [s2];exact bne_self_eq_false _
           have s3:0 < (s.size:Int):=by
            by_cases s3:0 < (s.size:Int)
            ·exact s3
            ·rw [if_neg s3] at H;cases H
           rw [if_pos s3] at H;have s3b:decide (0 < (s.size:Int))=true:=decide_eq_true s3;have s3c:decide (0 < s.size)=true:=decide_eq_true (by omega);have s3d:=eq_true (show 0 < s.size by omega);obtain ⟨u,hs,H⟩:=ZzB H;have HS:zA (∀h:0 < s.size,zu.f k2 x7 (IntKind.i64.wrap ((s[0]'h).toNat:Int))=some u):=⟨fun h=>by rw [zH.idx h];exact hs⟩;clear hs s2;replace s3:=eq_true s3;cases u
           ·rw [if_neg Bool.false_ne_true] at H
            obtain rfl:=Option.some.inj H;clear H
            go_wp2
            go_quiet (first|(go_at_call 14;exact Calls.quiet_of ((zZ.calls k2 s b2 true _ HM.out).mono fun e w' h=>⟨h.1,h.2.out⟩))|(go_at_call 15;refine Calls.quiet_of ((zu.calls k2 X7 n7 x7 _ false _ (Kd.C_drewN (Kd.C_below HX7.out HBq.out) _) HX7L.out ?_).mono fun e w' h=>⟨h.1,h.2.out⟩);exact HS.out _))
            go_wp2
            go_ret
            exact ⟨rfl,zD HB4.out Q4⟩
           ·rw [if_pos rfl] at H
            have H':=zA.mk H;clear H
            go_wp2
            go_quiet (first|(go_at_call 14;exact Calls.quiet_of ((zZ.calls k2 s b2 true _ HM.out).mono fun e w' h=>⟨h.1,h.2.out⟩))|(go_at_call 15;refine Calls.quiet_of ((zu.calls k2 X7 n7 x7 _ true _ (Kd.C_drewN (Kd.C_below HX7.out HBq.out) _) HX7L.out ?_).mono fun e w' h=>⟨h.1,h.2.out⟩);exact HS.out _))
            go_wp2
            go_roundg k2
            case measure=>omega
            case rel=>exact ⟨_,rfl,H',⟨by have:=HKQ.out;omega⟩,⟨by repeat (first|exact HBq.out|apply zC|apply zI)⟩⟩
          ·rw [if_neg s2] at H
           have s2b:(x8 != 0)=true:=bne_iff_ne.mpr s2;obtain rfl:=Option.some.inj H;clear H s2
           go_wp2
           go_quiet (first|(go_at_call 14;exact Calls.quiet_of ((zZ.calls k2 s b2 true _ HM.out).mono fun e w' h=>⟨h.1,h.2.out⟩)))
           go_wp2
           go_ret
           exact ⟨rfl,zD HB4.out Q4⟩
        ·rw [if_neg s1] at H
         have s1b:((s.size:Int) != b2)=true:=bne_iff_ne.mpr s1;obtain rfl:=Option.some.inj H;clear H s1
         go_wp2
         go_quiet (fail)
         go_wp2
         go_ret
         exact ⟨rfl,zD HB4.out Q4⟩
       ·rw [if_neg g4] at H
        have g4b:decide (j < ((ze x5 i).length:Int))=false:=decide_eq_false g4;have H':=zA.mk H;clear g4 H hr5
        go_wp2
        go_roundg k2
        case measure=>have:=HKQ.out;omega
        case rel=>exact ⟨_,rfl,H',HB2⟩
    ·rw [if_neg g1] at H
     have g1b:decide (i < (x5.length:Int))=false:=decide_eq_false g1;obtain rfl:=Option.some.inj H;clear g1 H
     go_wp2
     go_ret
     exact ⟨by simp,zD HB4.out HB.out⟩
 ·rw [if_neg e1] at H
  have e1b:(x6 != 0)=true:=bne_iff_ne.mpr e1;obtain rfl:=Option.some.inj H;clear e1 H
  go_wp2
  go_ret
  exact ⟨by simp,HB4.out⟩
def W70 (x:S70):Prop:=(True)∧(Lit.int .i64 x.f1).wf=true
def W42 (x:S42):Prop:=(Lit.int .i64 x.f0).wf=true∧((x.f1.length≤maxLen∧∀x_ ∈ x.f1,W70 x_))
def W25 (x:S25):Prop:=(Lit.int .i64 x.f0).wf=true∧(Lit.int .i64 x.f1).wf=true∧((x.f2.length≤maxLen∧∀x_ ∈ x.f2,(Lit.int .i64 x_).wf=true))∧((x.f3.length≤maxLen∧∀x_ ∈ x.f3,W42 x_))
def zH.Pure:Prop:=∀(a0_0:Int) (a0_1:Int) (l0_2:List Int) (va:List (S42)),W25 ⟨a0_0,a0_1,l0_2,va⟩→∃k,zH.f k a0_0 a0_1 l0_2 va=some true
end Go.Proofs.YtpfeebmfihgelaaGreat.HGuessWhole
