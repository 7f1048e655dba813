-- Written by plus.py for this claim.
import Derived.Test.YtpfeebmfihgelaaGreatSGuessPicksVZip
import Derived.Test.YtpfeebmfihgelaaGreatHGuessPicksx0
import Derived.Test.YtpfeebmfihgelaaGreatHGuessPicksx3
import Derived.Test.YtpfeebmfihgelaaGreatHGuessPicksx12
import Derived.Test.YtpfeebmfihgelaaGreatHGuessPicksx14
import Derived.Test.YtpfeebmfihgelaaGreatHGuessPicksx19
import Derived.Test.YtpfeebmfihgelaaGreatHGuessPicksx21
import Derived.Test.YtpfeebmfihgelaaGreatHGuessPicksx22
namespace Go.Proofs.YtpfeebmfihgelaaGreat.HGuessPicks
open Go.RowKit Go.Proofs.YtpfeebmfihgelaaGreatW.PrintWords Go.Proofs.YtpfeebmfihgelaaGreatW.PrintLast Go.Proofs.YtpfeebmfihgelaaGreatW.PrintMore
attribute [local go_sem] yx yy ZI ZJ yo yp yz ZA
set_option linter.unusedVariables false
set_option linter.unusedSimpArgs false
def zY.j0:Nat→Int→ByteArray→Int→Int→List Int→Int→List (List ByteArray)→Bool→Int→Int→List Int→List (S42)→Option (Bool)
 | 0,_,_,_,_,_,_,_,_,_,_,_,_=>none
 | k + 1,x1,x2,x7,x8,x9,x10,x11,x65,x511000,x511001,x511002,x511003=>if x65=true then (if x8=3 then (if x10=x8 then (if x7=0 then (if (x9.length:Int)=0 then ((yY.f k).bind fun t546=>(some t546)) else (some false)) else (some false)) else (some false)) else (some false)) else (if x8=0 then (if x10=0 then ((yH.f k x511000 x511001 x511002 x511003 x11 x1 x2).bind fun t547=>(if x7=t547 then ((yE.f k x511000 x511001 x511002 x511003 x11 x1).bind fun t548=>((yD.f k x9 t548).bind fun t551=>(if t551=true then ((yY.f k).bind fun t552=>(some t552)) else (some false)))) else (some false))) else (some false)) else (some false))
def zY.f (k:Nat) (a0_0:Int) (a0_1:Int) (l0_2:List Int) (l0_3:List (S42)) (a1:Int) (a2:ByteArray):Option (Bool):=(zt.f k a0_0 a0_1 l0_2 l0_3).bind fun bt511=>((zt.f k bt511.1 bt511.2.1 bt511.2.2.1 bt511.2.2.2).bind fun bt519=>((zU.f k bt519.1 bt519.2.1 bt519.2.2.1 bt519.2.2.2 a1 a2).bind fun bt527=>((zt.f k bt511.1 bt511.2.1 bt511.2.2.1 bt511.2.2.2).bind fun bt529=>((yX.f k bt529.1 bt529.2.1 bt529.2.2.1 bt529.2.2.2 a1).bind fun bt537=>((zm.f k bt511.1 bt511.2.1 bt511.2.2.1 bt511.2.2.2).bind fun bt541=>(if bt541.2=0 then (if a1 < 0 then (zY.j0 k a1 a2 bt527.1 bt527.2 bt537.1 bt537.2 bt541.1 true bt511.1 bt511.2.1 bt511.2.2.1 bt511.2.2.2) else (zY.j0 k a1 a2 bt527.1 bt527.2 bt537.1 bt537.2 bt541.1 (decide (a1≥(bt511.2.2.1.length:Int))) bt511.1 bt511.2.1 bt511.2.2.1 bt511.2.2.2)) else (if bt527.2=bt541.2 then (if bt537.2=bt541.2 then (if bt527.1=0 then (if (bt537.1.length:Int)=0 then ((yY.f k).bind fun t545=>(some t545)) else (some false)) else (some false)) else (some false)) else (some false))))))))
theorem zY.mono_l:∀k,(∀y0 y1 y2 y3 y4 y5 y6 y7 y8 y9 y10 y11,LeO (zY.j0 k y0 y1 y2 y3 y4 y5 y6 y7 y8 y9 y10 y11) (zY.j0 (k + 1) y0 y1 y2 y3 y4 y5 y6 y7 y8 y9 y10 y11))
 | 0=>fun _ _ _ _ _ _ _ _ _ _ _ _ r h=>by simp [zY.j0] at h
 | k + 1=>by
  have ih0:=zY.mono_l k
  ·intro y0 y1 y2 y3 y4 y5 y6 y7 y8 y9 y10 y11
   unfold zY.j0
   repeat' first
   | with_reducible first|exact ih0 _ _ _ _ _ _ _ _ _ _ _ _|exact yD.mono _ _ _|exact zt.mono _ _ _ _ _|exact yY.mono _|exact yE.mono _ _ _ _ _ _ _|exact zm.mono _ _ _ _ _|exact yH.mono _ _ _ _ _ _ _ _|exact yX.mono _ _ _ _ _ _|exact zU.mono _ _ _ _ _ _ _|exact LeO.refl _|exact LeO.none _|refine LeO.ite ?_ ?_|refine LeO.bind ?_ (fun _=> ?_)
theorem zY.mono:∀a0 a1 a2 a3 a4 a5 k,LeO (zY.f k a0 a1 a2 a3 a4 a5) (zY.f (k + 1) a0 a1 a2 a3 a4 a5):=by
 intro a0 a1 a2 a3 a4 a5 k;have ih0:=zY.mono_l k
 unfold zY.f
 repeat' first
   | with_reducible first|exact ih0 _ _ _ _ _ _ _ _ _ _ _ _|exact yD.mono _ _ _|exact zt.mono _ _ _ _ _|exact yY.mono _|exact yE.mono _ _ _ _ _ _ _|exact zm.mono _ _ _ _ _|exact yH.mono _ _ _ _ _ _ _ _|exact yX.mono _ _ _ _ _ _|exact zU.mono _ _ _ _ _ _ _|exact LeO.refl _|exact LeO.none _|refine LeO.ite ?_ ?_|refine LeO.bind ?_ (fun _=> ?_)
theorem zY.other {V:World} {g i j:Nat} (v:Value) (h:i≠j):(V.setCell ⟨g,i,none⟩ v).cell? ⟨g,j,none⟩=V.cell? ⟨g,j,none⟩:=by
 apply World.cell?_setCell_other
 intro e
 injection e with _ e
 exact h e
theorem zY.same {V:World} {g i:Nat} (v u:Value) (h:V.cell? ⟨g,i,none⟩=some u):(V.setCell ⟨g,i,none⟩ v).cell? ⟨g,i,none⟩=some v:=by
 apply World.cell?_setCell_same
 exact h
set_option maxHeartbeats 8000000 in
set_option maxRecDepth 100000 in
theorem zY.calls (k:Nat) (a0_0:Int) (a0_1:Int) (A2:Option Addr) (c2:Nat) (l0_2:List Int) (A3:Option Addr) (c3:Nat) (l0_3:List (S42)) (a1:Int) (a2:ByteArray) (r:Bool) (w:World) (hr2:Kd.C (Kd.int .i64) w A2 l0_2.length l0_2) (hc2:l0_2.length≤c2) (hr3:Kd.C k42 w A3 l0_3.length l0_3) (hc3:l0_3.length≤c3) (h:zY.f k a0_0 a0_1 l0_2 l0_3 a1 a2=some r) :
  Calls Tryz.prog 3 #[.agg #[.int .i64 a0_0, .int .i64 a0_1, .slice A2 l0_2.length c2, .slice A3 l0_3.length c3], .int .i64 a1, .string a2] w fun e w'=>e= .returned (.bool r)∧Below w.heap.size w w':=by
 unfold zY.f at h
 obtain ⟨⟨b1,b2,b3,b4⟩,hb,h⟩:=ZzB h;obtain ⟨⟨d1,d2,d3,d4⟩,hd,h⟩:=ZzB h;obtain ⟨⟨x5,x6⟩,hx,h⟩:=ZzB h;obtain ⟨⟨f1,f2,f3,f4⟩,hf,h⟩:=ZzB h;obtain ⟨⟨x7,x8⟩,hy,h⟩:=ZzB h;obtain ⟨⟨x9,x10⟩,hz,h⟩:=ZzB h;have HBB:=zA.mk hb;have HDD:=zA.mk hd;have HXX:=zA.mk hx;have HFF:=zA.mk hf;have HYY:=zA.mk hy;have HZZ:=zA.mk hz;have HH:=zA.mk h;have HR2:=zA.mk hr2;have HC2:=zA.mk hc2;have HR3:=zA.mk hr3;have HC3:=zA.mk hc3;have hu:=Tryz.underlying25;clear h hb hd hx hf hy hz hr2 hc2 hr3 hc3
 go_enter Tryz.func3,Tryz.ntmps3
 go_wp2_with fail
 refine (zt.calls k a0_0 a0_1 A2 c2 l0_2 A3 c3 l0_3 b1 b2 b3 b4 _ (Kd.C_alloc HR2.out _) HC2.out (Kd.C_alloc HR3.out _) HC3.out HBB.out).mono ?_;rintro e w1 ⟨v2,v3,rfl,hR2,hN3,hb1⟩;obtain ⟨B2,k2,e2⟩:=Kd.R_slice hR2;subst e2;obtain ⟨B3,k3,e3⟩:=Kd.N_slice hN3;subst e3;have blk:=(hb1.block w.heap.size (by simp)).trans (yh _ _);have q0:=zN blk 0;have q1:=zN blk 1;have q2:=zN blk 2;have q3:=zN blk 3;have z0:=zB blk 0;have z1:=zB blk 1;have z2:=zB blk 2;have z3:=zB blk 3;have HB1:=zA.mk (zF (zE (Below.refl w.heap.size w) _) hb1);have HIL:=zA.mk (Kd.R_reads' hR2).2.1;have HPL:=zA.mk (Kd.N_reads' hN3).2.1;clear blk hb1
 go_wp2_with fail
 generalize hW2:World.setCell (World.setCell (World.setCell (World.setCell w1 _ _) _ _) _ _) _ _=W2
 have HBW:zA (Below w.heap.size w W2):=⟨by rw [←hW2];exact zJ (zJ (zJ (zJ HB1.out (Nat.le_refl _)) (Nat.le_refl _)) (Nat.le_refl _)) (Nat.le_refl _)⟩
 have c0:W2.cell? ⟨w.heap.size,0,none⟩=some (.int .i64 b1):=by
  rw [←hW2]
  exact (zY.other _ (by decide)).trans ((zY.other _ (by decide)).trans ((zY.other _ (by decide)).trans (zY.same _ _ q0)))
 have c1:W2.cell? ⟨w.heap.size,1,none⟩=some (.int .i64 b2):=by
  rw [←hW2]
  exact (zY.other _ (by decide)).trans ((zY.other _ (by decide)).trans (zY.same _ _ ((zY.other _ (by decide)).trans q1)))
 have c2':W2.cell? ⟨w.heap.size,2,none⟩=some (.slice B2 b3.length k2):=by
  rw [←hW2]
  exact (zY.other _ (by decide)).trans (zY.same _ _ ((zY.other _ (by decide)).trans ((zY.other _ (by decide)).trans q2)))
 have c3':W2.cell? ⟨w.heap.size,3,none⟩=some (.slice B3 b4.length k3):=by
  rw [←hW2]
  exact zY.same _ _ ((zY.other _ (by decide)).trans ((zY.other _ (by decide)).trans ((zY.other _ (by decide)).trans q3)))
 have hst:∀k:Nat,w.heap.size + 1≤k→W2.heap[k]? =w1.heap[k]? :=fun k hk=>by
  rw [←hW2]
  exact (Below.heap_setCell _ _ _ _ (by show k≠w.heap.size;omega)).trans ((Below.heap_setCell _ _ _ _ (by show k≠w.heap.size;omega)).trans ((Below.heap_setCell _ _ _ _ (by show k≠w.heap.size;omega)).trans (Below.heap_setCell _ _ _ _ (by show k≠w.heap.size;omega))))
 have hsz:∀o:Obj,(w.alloc o).heap.size=w.heap.size + 1:=fun o=>by simp
 have HI:=zA.mk (Kd.F_now (Kd.F_step (Kd.R_F hR2) fun k hk _=>hst k (hsz _▸hk)));have HP:=zA.mk (Kd.F_now (Kd.F_step (Kd.N_F hN3) fun k hk _=>hst k (hsz _▸hk.1)));have hgW:w.heap.size < W2.heap.size:=ZzA _ _ c0;clear hW2 hst hsz hR2 hN3 q0 q1 q2 q3 z0 z1 z2 z3 HB1;refine (zt.calls k b1 b2 B2 k2 b3 B3 k3 b4 d1 d2 d3 d4 W2 HI.out HIL.out HP.out HPL.out HDD.out).mono ?_;rintro e w3 ⟨v2,v3,rfl,hR2,hN3,hb3⟩;obtain ⟨D2,m2,e2⟩:=Kd.R_slice hR2;subst e2;obtain ⟨D3,m3,e3⟩:=Kd.N_slice hN3;subst e3
 go_wp2_with fail
 refine (zU.calls k d1 d2 D2 m2 d3 D3 m3 d4 a1 a2 x5 x6 w3 (Kd.R_reads' hR2).2.2 (Kd.R_reads' hR2).2.1 (Kd.N_reads' hN3).2.2 (Kd.N_reads' hN3).2.1 HXX.out).mono ?_;rintro e w4 ⟨rfl,hb4⟩;have HB4:=zA.mk (zF hb3 hb4);have C0:=zA.mk c0;have C1:=zA.mk c1;have C2:=zA.mk c2';have C3:=zA.mk c3';replace c0:=Qp HB4 c0;replace c1:=Qp HB4 c1;replace c2':=(HB4.out.cell (ZzA _ _ c2')).trans c2';replace c3':=(HB4.out.cell (ZzA _ _ c3')).trans c3';clear hR2 hN3 hb3 hb4
 go_wp2_with fail
 refine (zt.calls k b1 b2 B2 k2 b3 B3 k3 b4 f1 f2 f3 f4 w4 (Kd.C_below HI.out HB4.out) HIL.out (Kd.C_below HP.out HB4.out) HPL.out HFF.out).mono ?_;rintro e w5 ⟨v2,v3,rfl,hR2,hN3,hb5⟩;obtain ⟨F2,o2,e2⟩:=Kd.R_slice hR2;subst e2;obtain ⟨F3,o3,e3⟩:=Kd.N_slice hN3;subst e3
 go_wp2_with fail
 refine (yX.calls k f1 f2 F2 o2 f3 F3 o3 f4 a1 x7 x8 w5 (Kd.R_reads' hR2).2.2 (Kd.R_reads' hR2).2.1 (Kd.N_reads' hN3).2.2 (Kd.N_reads' hN3).2.1 HYY.out).mono ?_;rintro e w6 ⟨v7,rfl,hR7,hb6⟩;obtain ⟨X7,n7,e7⟩:=Kd.R_slice hR7;subst e7;have HB6:=zA.mk (zF hb5 hb6);have HX7:=zA.mk (Kd.R_reads' hR7).2.2;have HX7L:=zA.mk (Kd.R_reads' hR7).2.1;replace c0:=Qp HB6 c0;replace c1:=Qp HB6 c1;replace c2':=(HB6.out.cell (ZzA _ _ c2')).trans c2';replace c3':=(HB6.out.cell (ZzA _ _ c3')).trans c3';have HB46:=zA.mk (zF HB4.out HB6.out);clear hR2 hN3 hb5 hb6 hR7
 go_wp2_with fail
 refine (zm.calls k b1 b2 B2 k2 b3 B3 k3 b4 x9 x10 w6 (Kd.C_below HI.out HB46.out) HIL.out (Kd.C_below HP.out HB46.out) HPL.out HZZ.out).mono ?_;rintro e w7 ⟨v9,rfl,hS9,hb7⟩;obtain ⟨X9,n9,e9⟩:=Kd.S_slice hS9;subst e9;have HX9:=zA.mk (Kd.S_reads' hS9).2.2;have HX9L:=zA.mk (Kd.S_reads' hS9).2.1;have HX7':=zA.mk (Kd.C_below HX7.out hb7);have HBb:=zA.mk (zF HB46.out hb7);have HI7:=zA.mk (Kd.C_below HI.out HBb.out);have HP7:=zA.mk (Kd.C_below HP.out HBb.out);have HB7:=zA.mk (zF HBW.out HBb.out);replace c0:=(hb7.cell (ZzA _ _ c0)).trans c0;replace c1:=(hb7.cell (ZzA _ _ c1)).trans c1;replace c2':=(hb7.cell (ZzA _ _ c2')).trans c2';replace c3':=(hb7.cell (ZzA _ _ c3')).trans c3';clear C0 C1 C2 C3 HX7 HBb HB46 HB6 HB4 HI HP hb7 hS9 HBW HZZ HYY HFF HXX HDD HBB;have H:=HH.out;clear HH
 by_cases e1:x10=0
 ·rw [if_pos e1] at H
  have e1b:(x10 != 0)=false:=by rw [e1];exact bne_self_eq_false _
  have key:∃g,zY.j0 k a1 a2 x5 x6 x7 x8 x9 g b1 b2 b3 b4=some r∧((a1 < 0∧g=true)∨(¬a1 < 0∧g=decide (a1≥(b3.length:Int)))):=by
   by_cases t2:a1 < 0
   ·rw [if_pos t2] at H;exact ⟨_,H, .inl ⟨t2,rfl⟩⟩
   ·rw [if_neg t2] at H;exact ⟨_,H, .inr ⟨t2,rfl⟩⟩
  clear H e1;obtain ⟨g,H,hg⟩:=key;cases k with
  | zero=>exact absurd H (by simp [zY.j0])
  | succ k=>
   rw [zY.j0] at H;cases g
   ·rw [if_neg Bool.false_ne_true] at H
    obtain ⟨t2,t3⟩:¬a1 < 0∧¬a1≥(b3.length:Int):=by
     rcases hg with ⟨_,h⟩|⟨h,h2⟩
     ·cases h
     ·exact ⟨h,of_decide_eq_false h2.symm⟩
    have t2b:decide (a1 < 0)=false:=decide_eq_false t2;have t3b:decide ((b3.length:Int)≤a1)=false:=decide_eq_false t3;clear hg t2 t3
    by_cases s1:x6=0
    ·rw [if_pos s1] at H
     have s1b:(x6 == 0)=true:=beq_iff_eq.mpr s1;clear s1
     by_cases s2:x8=0
     ·rw [if_pos s2] at H
      have s2b:(x8 == 0)=true:=beq_iff_eq.mpr s2;clear s2;obtain ⟨p,hp,H⟩:=ZzB H;have HPK:=zA.mk hp;have H':=zA.mk H;clear H hp
      go_wp2_with fail
      refine (yH.calls k b1 b2 B2 k2 b3 B3 k3 b4 X9 n9 x9 a1 a2 p w7 HI7.out HIL.out HP7.out HPL.out HX9.out HX9L.out HPK.out).mono ?_;rintro e w8 ⟨rfl,hb8⟩;have H:=H'.out;have HB8:=zA.mk (zF HB7.out hb8);replace c0:=(hb8.cell (ZzA _ _ c0)).trans c0;replace c1:=(hb8.cell (ZzA _ _ c1)).trans c1;replace c2':=(hb8.cell (ZzA _ _ c2')).trans c2';replace c3':=(hb8.cell (ZzA _ _ c3')).trans c3'
      by_cases q1:x5=p
      ·rw [if_pos q1] at H
       have q1b:(x5 == p)=true:=beq_iff_eq.mpr q1;obtain ⟨hh,hH,H⟩:=ZzB H;obtain ⟨t,ht,H⟩:=ZzB H;have HHH:=zA.mk hH;have HSS:=zA.mk ht;have H2':=zA.mk H;have HX9b:=zA.mk (Kd.C_below HX9.out hb8);have HX7b:=zA.mk (Kd.C_below HX7'.out hb8);have HI8:=zA.mk (Kd.C_below HI7.out hb8);have HP8:=zA.mk (Kd.C_below HP7.out hb8);clear H hH ht q1 hb8
       go_wp2_with fail
       refine (yE.calls k b1 b2 B2 k2 b3 B3 k3 b4 X9 n9 x9 a1 hh w8 HI8.out HIL.out HP8.out HPL.out HX9b.out HX9L.out HHH.out).mono ?_;rintro e w10 ⟨v10,rfl,hR10,hb10⟩;obtain ⟨Y9,y9,e9⟩:=Kd.R_slice hR10;subst e9;have HY:=zA.mk (Kd.R_reads' hR10).2.2;have HYL:=zA.mk (Kd.R_reads' hR10).2.1;have HB10:=zA.mk (zF HB8.out hb10);have HX7c:=zA.mk (Kd.C_below HX7b.out hb10);clear hR10 hb10
       go_wp2_with fail
       refine (yD.calls k X7 n7 x7 Y9 y9 hh t w10 HX7c.out HX7L.out HY.out HYL.out HSS.out).mono ?_;rintro e w11 ⟨rfl,⟨nd,rfl⟩⟩;have H:=H2'.out;cases t
       ·rw [if_neg Bool.false_ne_true] at H
        obtain rfl:=Option.some.inj H;clear H
        go_wp2
        go_ret
        exact ⟨rfl,zC HB10.out nd⟩
       ·rw [if_pos rfl] at H
        obtain ⟨t,ht,H⟩:=ZzB H;obtain rfl:=Option.some.inj H;have HT:=zA.mk ht;clear H ht
        go_wp2_with fail
        refine (yY.calls _ t _ HT.out).mono ?_;rintro e w9 ⟨rfl,hb9⟩
        go_wp2
        go_ret
        exact ⟨rfl,zF (zC HB10.out nd) hb9⟩
      ·rw [if_neg q1] at H
       have q1b:(x5 == p)=false:=beq_eq_false_iff_ne.mpr q1;clear q1;obtain rfl:=Option.some.inj H;clear H
       go_wp2
       go_ret
       exact ⟨rfl,HB8.out⟩
     ·rw [if_neg s2] at H
      have s2b:(x8 == 0)=false:=beq_eq_false_iff_ne.mpr s2;clear s2;obtain rfl:=Option.some.inj H;clear H
      go_wp2
      go_ret
      exact ⟨rfl,HB7.out⟩
    ·rw [if_neg s1] at H
     have s1b:(x6 == 0)=false:=beq_eq_false_iff_ne.mpr s1;clear s1;obtain rfl:=Option.some.inj H;clear H
     go_wp2
     go_ret
     exact ⟨rfl,HB7.out⟩
   ·rw [if_pos rfl] at H
    have hg2:a1 < 0∨(¬a1 < 0∧(b3.length:Int)≤a1):=by
     rcases hg with ⟨h,_⟩|⟨h,h2⟩
     ·exact .inl h
     ·exact .inr ⟨h,of_decide_eq_true h2.symm⟩
    clear hg
    rcases hg2 with t2|⟨t2,t3⟩
    ·have t2b:decide (a1 < 0)=true:=decide_eq_true t2
     clear t2
     by_cases s3:x6=3
     ·rw [if_pos s3] at H
      have s3b:(x6 == 3)=true:=beq_iff_eq.mpr s3;clear s3
      by_cases s4:x8=x6
      ·rw [if_pos s4] at H
       have s4b:(x8 == x6)=true:=beq_iff_eq.mpr s4;clear s4
       by_cases s5:x5=0
       ·rw [if_pos s5] at H
        have s5b:(x5 == 0)=true:=beq_iff_eq.mpr s5;clear s5
        by_cases s6:(x7.length:Int)=0
        ·rw [if_pos s6] at H
         have s6b:((x7.length:Int) == 0)=true:=beq_iff_eq.mpr s6;have s6c:(x7.length == 0)=true:=beq_iff_eq.mpr (by omega);clear s6;obtain ⟨t,ht,H⟩:=ZzB H;obtain rfl:=Option.some.inj H;have HT:=zA.mk ht;clear H ht
         go_wp2_with fail
         refine (yY.calls _ t _ HT.out).mono ?_;rintro e w9 ⟨rfl,hb9⟩
         go_wp2
         go_ret
         exact ⟨rfl,zF (HB7.out) hb9⟩
        ·rw [if_neg s6] at H
         have s6b:((x7.length:Int) == 0)=false:=beq_eq_false_iff_ne.mpr s6;have s6c:(x7.length == 0)=false:=beq_eq_false_iff_ne.mpr (by omega);clear s6;obtain rfl:=Option.some.inj H;clear H
         go_wp2
         go_ret
         exact ⟨rfl,HB7.out⟩
       ·rw [if_neg s5] at H
        have s5b:(x5 == 0)=false:=beq_eq_false_iff_ne.mpr s5;clear s5;obtain rfl:=Option.some.inj H;clear H
        go_wp2
        go_ret
        exact ⟨rfl,HB7.out⟩
      ·rw [if_neg s4] at H
       have s4b:(x8 == x6)=false:=beq_eq_false_iff_ne.mpr s4;clear s4;obtain rfl:=Option.some.inj H;clear H
       go_wp2
       go_ret
       exact ⟨rfl,HB7.out⟩
     ·rw [if_neg s3] at H
      have s3b:(x6 == 3)=false:=beq_eq_false_iff_ne.mpr s3;clear s3;obtain rfl:=Option.some.inj H;clear H
      go_wp2
      go_ret
      exact ⟨rfl,HB7.out⟩
    ·have t2b:decide (a1 < 0)=false:=decide_eq_false t2
     have t3b:decide ((b3.length:Int)≤a1)=true:=decide_eq_true t3;clear t2 t3
     by_cases s7:x6=3
     ·rw [if_pos s7] at H
      have s7b:(x6 == 3)=true:=beq_iff_eq.mpr s7;clear s7
      by_cases s8:x8=x6
      ·rw [if_pos s8] at H
       have s8b:(x8 == x6)=true:=beq_iff_eq.mpr s8;clear s8
       by_cases s9:x5=0
       ·rw [if_pos s9] at H
        have s9b:(x5 == 0)=true:=beq_iff_eq.mpr s9;clear s9
        by_cases s10:(x7.length:Int)=0
        ·rw [if_pos s10] at H
         have s10b:((x7.length:Int) == 0)=true:=beq_iff_eq.mpr s10;have s10c:(x7.length == 0)=true:=beq_iff_eq.mpr (by omega);clear s10;obtain ⟨t,ht,H⟩:=ZzB H;obtain rfl:=Option.some.inj H;have HT:=zA.mk ht;clear H ht
         go_wp2_with fail
         refine (yY.calls _ t _ HT.out).mono ?_;rintro e w9 ⟨rfl,hb9⟩
         go_wp2
         go_ret
         exact ⟨rfl,zF (HB7.out) hb9⟩
        ·rw [if_neg s10] at H
         have s10b:((x7.length:Int) == 0)=false:=beq_eq_false_iff_ne.mpr s10;have s10c:(x7.length == 0)=false:=beq_eq_false_iff_ne.mpr (by omega);clear s10;obtain rfl:=Option.some.inj H;clear H
         go_wp2
         go_ret
         exact ⟨rfl,HB7.out⟩
       ·rw [if_neg s9] at H
        have s9b:(x5 == 0)=false:=beq_eq_false_iff_ne.mpr s9;clear s9;obtain rfl:=Option.some.inj H;clear H
        go_wp2
        go_ret
        exact ⟨rfl,HB7.out⟩
      ·rw [if_neg s8] at H
       have s8b:(x8 == x6)=false:=beq_eq_false_iff_ne.mpr s8;clear s8;obtain rfl:=Option.some.inj H;clear H
       go_wp2
       go_ret
       exact ⟨rfl,HB7.out⟩
     ·rw [if_neg s7] at H
      have s7b:(x6 == 3)=false:=beq_eq_false_iff_ne.mpr s7;clear s7;obtain rfl:=Option.some.inj H;clear H
      go_wp2
      go_ret
      exact ⟨rfl,HB7.out⟩
 ·rw [if_neg e1] at H
  have e1b:(x10 != 0)=true:=bne_iff_ne.mpr e1;clear e1
  by_cases s11:x6=x10
  ·rw [if_pos s11] at H
   have s11b:(x6 == x10)=true:=beq_iff_eq.mpr s11;clear s11
   by_cases s12:x8=x10
   ·rw [if_pos s12] at H
    have s12b:(x8 == x10)=true:=beq_iff_eq.mpr s12;clear s12
    by_cases s13:x5=0
    ·rw [if_pos s13] at H
     have s13b:(x5 == 0)=true:=beq_iff_eq.mpr s13;clear s13
     by_cases s14:(x7.length:Int)=0
     ·rw [if_pos s14] at H
      have s14b:((x7.length:Int) == 0)=true:=beq_iff_eq.mpr s14;have s14c:(x7.length == 0)=true:=beq_iff_eq.mpr (by omega);clear s14;obtain ⟨t,ht,H⟩:=ZzB H;obtain rfl:=Option.some.inj H;have HT:=zA.mk ht;clear H ht
      go_wp2_with fail
      refine (yY.calls _ t _ HT.out).mono ?_;rintro e w9 ⟨rfl,hb9⟩
      go_wp2
      go_ret
      exact ⟨rfl,zF (HB7.out) hb9⟩
     ·rw [if_neg s14] at H
      have s14b:((x7.length:Int) == 0)=false:=beq_eq_false_iff_ne.mpr s14;have s14c:(x7.length == 0)=false:=beq_eq_false_iff_ne.mpr (by omega);clear s14;obtain rfl:=Option.some.inj H;clear H
      go_wp2
      go_ret
      exact ⟨rfl,HB7.out⟩
    ·rw [if_neg s13] at H
     have s13b:(x5 == 0)=false:=beq_eq_false_iff_ne.mpr s13;clear s13;obtain rfl:=Option.some.inj H;clear H
     go_wp2
     go_ret
     exact ⟨rfl,HB7.out⟩
   ·rw [if_neg s12] at H
    have s12b:(x8 == x10)=false:=beq_eq_false_iff_ne.mpr s12;clear s12;obtain rfl:=Option.some.inj H;clear H
    go_wp2
    go_ret
    exact ⟨rfl,HB7.out⟩
  ·rw [if_neg s11] at H
   have s11b:(x6 == x10)=false:=beq_eq_false_iff_ne.mpr s11;clear s11;obtain rfl:=Option.some.inj H;clear H
   go_wp2
   go_ret
   exact ⟨rfl,HB7.out⟩
def W70 (x:S70):Prop:=(True)∧(Lit.int .i64 x.f1).wf=true
def W42 (x:S42):Prop:=(Lit.int .i64 x.f0).wf=true∧((x.f1.length≤maxLen∧∀x_ ∈ x.f1,W70 x_))
def W25 (x:S25):Prop:=(Lit.int .i64 x.f0).wf=true∧(Lit.int .i64 x.f1).wf=true∧((x.f2.length≤maxLen∧∀x_ ∈ x.f2,(Lit.int .i64 x_).wf=true))∧((x.f3.length≤maxLen∧∀x_ ∈ x.f3,W42 x_))
def zY.Pure:Prop:=∀(a0_0:Int) (a0_1:Int) (l0_2:List Int) (l0_3:List (S42)) (a1:Int) (a2:ByteArray),W25 ⟨a0_0,a0_1,l0_2,l0_3⟩→(Lit.int .i64 a1).wf=true→a2.size≤140737488351232→∃k,zY.f k a0_0 a0_1 l0_2 l0_3 a1 a2=some true
end Go.Proofs.YtpfeebmfihgelaaGreat.HGuessPicks
