-- Written by plus.py for this claim.
import Derived.Test.YtpfeebmfihgelaaGreatSGuessWholeVZip
import Derived.Test.YtpfeebmfihgelaaGreatHGuessWholex0
import Derived.Test.YtpfeebmfihgelaaGreatHGuessWholex1
import Derived.Test.YtpfeebmfihgelaaGreatHGuessWholex3
namespace Go.Proofs.YtpfeebmfihgelaaGreat.HGuessWhole
open Go.RowKit Go.Proofs.YtpfeebmfihgelaaGreatW.PrintWords Go.Proofs.YtpfeebmfihgelaaGreatW.PrintLast Go.Proofs.YtpfeebmfihgelaaGreatW.PrintMore
attribute [local go_sem] ym yn ZG ZH yd ye yo yp   -- for this text's walks alone
set_option linter.unusedVariables false
set_option maxHeartbeats 8000000
set_option maxRecDepth 100000
set_option linter.unusedSimpArgs false
mutual
def zi.l0:Nat→List ByteArray→Int→List ByteArray→List ByteArray→Int→Int→Option (List ByteArray)
 | 0,_,_,_,_,_,_=>none
 | k + 1,x1,x2,x7,x12,x13,x14=>if x14 < x13 then (if 0≤x14 then (if x14 < (x12.length:Int) then (if ((rdOf ByteArray.empty x12 x14).size:Int)≥(mx x2 0) then (zi.j1 k x1 x2 x7 (rdOf ByteArray.empty x12 x14) x12 x13 x14 (decide ((x1.length:Int) > 0))) else (zi.j1 k x1 x2 x7 (rdOf ByteArray.empty x12 x14) x12 x13 x14 false)) else (none)) else (none)) else ((zV.f x7).bind fun t147=>(some t147))
def zi.j1:Nat→List ByteArray→Int→List ByteArray→ByteArray→List ByteArray→Int→Int→Bool→Option (List ByteArray)
 | 0,_,_,_,_,_,_,_,_=>none
 | k + 1,x1,x2,x7,x9,x12,x13,x14,x27=>if x27=true then (if 0≤(mx x2 0) then (if (mx x2 0)≤(x9.size:Int) then (if x7.length < 8796093022208 then (zi.l0 k x1 x2 (x7 ++ [x9.extract 0 ((mx x2 0):Int).toNat]) x12 x13 (wrap64 (x14 + 1))) else (none)) else (none)) else (none)) else (zi.l1 k x1 x2 x7 x9 x12 x13 x14 x1 (x1.length:Int) 0)
def zi.l1:Nat→List ByteArray→Int→List ByteArray→ByteArray→List ByteArray→Int→Int→List ByteArray→Int→Int→Option (List ByteArray)
 | 0,_,_,_,_,_,_,_,_,_,_=>none
 | k + 1,x1,x2,x7,x9,x12,x13,x14,x35,x36,x37=>if x37 < x36 then (if 0≤x37 then (if x37 < (x35.length:Int) then ((Zx.f x9 (rdOf ByteArray.empty x35 x37) x2).bind fun t155=>(if x7.length < 8796093022208 then (zi.l1 k x1 x2 (x7 ++ [t155]) x9 x12 x13 x14 x35 x36 (wrap64 (x37 + 1))) else (none))) else (none)) else (none)) else (zi.l0 k x1 x2 x7 x12 x13 (wrap64 (x14 + 1)))
end
def zi.f (k:Nat) (l0:List ByteArray) (l1:List ByteArray) (a2:Int):Option (List ByteArray):=zi.l0 k l1 a2 ([]:List ByteArray) l0 (l0.length:Int) 0
theorem zi.mono_l:∀k,(∀y0 y1 y2 y3 y4 y5,LeO (zi.l0 k y0 y1 y2 y3 y4 y5) (zi.l0 (k + 1) y0 y1 y2 y3 y4 y5))∧(∀y0 y1 y2 y3 y4 y5 y6 y7,LeO (zi.j1 k y0 y1 y2 y3 y4 y5 y6 y7) (zi.j1 (k + 1) y0 y1 y2 y3 y4 y5 y6 y7))∧(∀y0 y1 y2 y3 y4 y5 y6 y7 y8 y9,LeO (zi.l1 k y0 y1 y2 y3 y4 y5 y6 y7 y8 y9) (zi.l1 (k + 1) y0 y1 y2 y3 y4 y5 y6 y7 y8 y9))
 | 0=>⟨fun _ _ _ _ _ _ r h=>by simp [zi.l0] at h,fun _ _ _ _ _ _ _ _ r h=>by simp [zi.j1] at h,fun _ _ _ _ _ _ _ _ _ _ r h=>by simp [zi.l1] at h⟩
 | k + 1=>by
  obtain ⟨ih0,ih1,ih2⟩:=zi.mono_l k;refine ⟨?_,?_,?_⟩
  ·intro y0 y1 y2 y3 y4 y5
   unfold zi.l0
   repeat' first
   | with_reducible first|exact ih0 _ _ _ _ _ _|exact ih1 _ _ _ _ _ _ _ _|exact ih2 _ _ _ _ _ _ _ _ _ _|exact LeO.refl _|exact LeO.none _|refine LeO.ite ?_ ?_|refine LeO.bind ?_ (fun _=> ?_)
  ·intro y0 y1 y2 y3 y4 y5 y6 y7
   unfold zi.j1
   repeat' first
   | with_reducible first|exact ih0 _ _ _ _ _ _|exact ih1 _ _ _ _ _ _ _ _|exact ih2 _ _ _ _ _ _ _ _ _ _|exact LeO.refl _|exact LeO.none _|refine LeO.ite ?_ ?_|refine LeO.bind ?_ (fun _=> ?_)
  ·intro y0 y1 y2 y3 y4 y5 y6 y7 y8 y9
   unfold zi.l1
   repeat' first
   | with_reducible first|exact ih0 _ _ _ _ _ _|exact ih1 _ _ _ _ _ _ _ _|exact ih2 _ _ _ _ _ _ _ _ _ _|exact LeO.refl _|exact LeO.none _|refine LeO.ite ?_ ?_|refine LeO.bind ?_ (fun _=> ?_)
theorem zi.mono:∀a0 a1 a2 k,LeO (zi.f k a0 a1 a2) (zi.f (k + 1) a0 a1 a2):=by
 intro a0 a1 a2 k;obtain ⟨ih0,ih1,ih2⟩:=zi.mono_l k
 unfold zi.f
 repeat' first
   | with_reducible first|exact ih0 _ _ _ _ _ _|exact ih1 _ _ _ _ _ _ _ _|exact ih2 _ _ _ _ _ _ _ _ _ _|exact LeO.refl _|exact LeO.none _|refine LeO.ite ?_ ?_|refine LeO.bind ?_ (fun _=> ?_)
theorem zi.calls (k:Nat) (A0:Option Addr) (c0:Nat) (l0:List ByteArray) (A1:Option Addr) (c1:Nat) (l1:List ByteArray) (a2:Int) (r:List ByteArray) (w:World) (hr0:Kd.C Kd.string w A0 l0.length l0) (hc0:l0.length≤c0) (hr1:Kd.C Kd.string w A1 l1.length l1) (hc1:l1.length≤c1) (h:zi.f k l0 l1 a2=some r) :
  Calls Tryz.prog 32 #[.slice A0 l0.length c0, .slice A1 l1.length c1, .int .i64 a2] w fun e w'=>∃v0_:Value,e= .returned (v0_)∧Kd.R Kd.string 9 w' w.heap.size (fun _=>True) v0_ r∧Below w.heap.size w w':=by
 have HR0:=zA.mk hr0;have HC0:=zA.mk hc0;clear hr0 hc0;have HR1:=zA.mk hr1;have HC1:=zA.mk hc1;clear hr1 hc1;have HB:=zA.mk (Below.refl w.heap.size w);have H:(zi.l0 k l1 a2 ([]:List ByteArray) l0 (l0.length:Int) 0)=some r:=h;clear h;have H':=zA.mk H;clear H
 go_enter Tryz.func32,Tryz.ntmps32
 go_wp2
 go_loopg [7,14] k (fun kq v7 v14 w'=>∃(x7_1:List ByteArray) (x14_1:Int),v14= .int .i64 x14_1∧zA (zi.l0 kq l1 a2 x7_1 l0 (l0.length:Int) x14_1=some r)∧zA (kq≤k)∧zA (Kd.R Kd.string 9 w' w.heap.size (fun _=>True) v7 x7_1)∧zA (Below w.heap.size w w'))
 case atStart=>exact ⟨(([]:List ByteArray)),(0),Q6,H',⟨Nat.le_refl _⟩,⟨by first|exact Kd.R_nil _ _ _ _ _|exact Kd.N_nil _ _ _ _ _|exact Kd.V_nil _ _ _ _ _|exact Kd.Q_nil _ _ _ _ _|exact Kd.S_nil _ _ _ _ _⟩,⟨by repeat (first|(with_reducible first|exact HB.out|apply zG|apply zC|apply zI)|exact HB.out)⟩⟩
 case round=>
  clear H';(try clear c1);(try clear p2);(try clear c3);obtain ⟨x7_1,x14_1,rfl,HA,HK1,HO_7,HB⟩:=hrel;cases gk with
  | zero=>exact absurd HA.out (by simp [zi.l0])
  | succ k1=>
   have H:=HA.out;clear HA;simp only [zi.l0] at H
   by_cases c4:x14_1 < (l0.length:Int)
   ·rw [if_pos c4] at H
    have c4b0:=decide_eq_true c4;clear c4
    by_cases c5:0≤x14_1
    ·rw [if_pos c5] at H
     have c5b0:=decide_eq_true c5;clear c5
     by_cases c6:x14_1 < (l0.length:Int)
     ·rw [if_pos c6] at H
      have c6b0:=decide_eq_true c6;clear c6;have HC7:=zA.mk H;clear H;have p150:0≤(x14_1:Int):=Qa;have q150:x14_1 < (l0.length:Int):=Qa;obtain ⟨ad150,e150,hx150_0⟩:=Kd.at_string HR0.out x14_1 p150 q150;cases e150;replace hx150_0:=Qp HB hx150_0;replace p150:=eq_true p150;replace q150:=eq_true q150
      go_upto_region 5 with (fail)
      go_cut [27] (fun v27 wc=>∃(kq:Nat) (x27_6:Bool),v27= .bool x27_6∧zA (zi.j1 kq l1 a2 x7_1 (rdOf ByteArray.empty l0 x14_1) l0 (l0.length:Int) x14_1 x27_6=some r)∧zA (kq≤k1)∧zA (Kd.R Kd.string 9 wc w.heap.size (fun _=>True) u7 x7_1)∧zA (Below w.heap.size w wc))
      case first=>
       have H:=HC7.out;clear HC7;obtain ⟨ji8,hji8⟩:∃j_:Int,(mx a2 0)=j_:=⟨_,rfl⟩
       replace H:(if ((rdOf ByteArray.empty l0 x14_1).size:Int)≥(ji8) then (zi.j1 k1 l1 a2 x7_1 (rdOf ByteArray.empty l0 x14_1) l0 (l0.length:Int) x14_1 (decide ((l1.length:Int) > 0))) else (zi.j1 k1 l1 a2 x7_1 (rdOf ByteArray.empty l0 x14_1) l0 (l0.length:Int) x14_1 false))=some r:=by first|(rw [hji8] at H;exact H)|(simp only [hji8] at H⊢;exact H)
       (try (have hji8l:0≤ji8:=by (rw [←hji8];unfold mx;(repeat' split) <;> omega)))
       (try (have hji8m:0≤ji8:=by omega))
       have hji8_:(if a2 < 0 then 0 else a2)=ji8:=hji8
       by_cases c9:((rdOf ByteArray.empty l0 x14_1).size:Int)≥(ji8)
       ·rw [if_pos c9] at H
        have c9b0:=decide_eq_true c9;clear c9
        (first|rw [c9b0]|(simp only [yz,ZQ];rw [c9b0])|skip)
        have H':=zA.mk H;clear H
        go_wp2
        go_meet
        case rel=>exact ⟨_,(decide ((l1.length:Int) > 0)),Q6,H',⟨by have:=HK1.out;first|omega|exact Nat.le_refl _⟩,⟨Qh HO_7⟩,⟨by repeat (first|(with_reducible first|exact HB.out|apply zG|apply zC|apply zI)|exact HB.out)⟩⟩
       ·rw [if_neg c9] at H
        have c9b0:=decide_eq_false c9;clear c9
        (first|rw [c9b0]|(simp only [yz,ZQ];rw [c9b0])|skip)
        have H':=zA.mk H;clear H
        go_wp2
        go_meet
        case rel=>exact ⟨_,(false),Q6,H',⟨by have:=HK1.out;first|omega|exact Nat.le_refl _⟩,⟨Qh HO_7⟩,⟨by repeat (first|(with_reducible first|exact HB.out|apply zG|apply zC|apply zI)|exact HB.out)⟩⟩
      case rest=>
       clear HC7;(try clear c1);(try clear p1);(try clear q1);(try clear hx1);(try clear p2);(try clear c3);(try clear c4);(try clear c4b0);(try clear c5);(try clear c5b0);(try clear c6);(try clear c6b0);(try clear c9);(try clear c9b0);(try clear hx150_0);(try clear p150);(try clear p2);(try clear q150);obtain ⟨kq,x27_6,rfl,HA,HJ6,HO_7,HB⟩:=hcut;cases kq with
       | zero=>exact absurd HA.out (by simp [zi.j1])
       | succ kj6=>
        have H:=HA.out;clear HA;simp only [zi.j1] at H
        by_cases c10:x27_6=true
        ·subst c10
         have H1:(if 0≤(mx a2 0) then (if (mx a2 0)≤((rdOf ByteArray.empty l0 x14_1).size:Int) then (if x7_1.length < 8796093022208 then (zi.l0 kj6 l1 a2 (x7_1 ++ [(rdOf ByteArray.empty l0 x14_1).extract 0 ((mx a2 0):Int).toNat]) l0 (l0.length:Int) (wrap64 (x14_1 + 1))) else (none)) else (none)) else (none))=some r:=by rw [if_pos rfl] at H;exact H
         clear H;have H:=H1;clear H1;obtain ⟨ji11,hji11⟩:∃j_:Int,(mx a2 0)=j_:=⟨_,rfl⟩
         replace H:(if 0≤(ji11) then (if (ji11)≤((rdOf ByteArray.empty l0 x14_1).size:Int) then (if x7_1.length < 8796093022208 then (zi.l0 kj6 l1 a2 (x7_1 ++ [(rdOf ByteArray.empty l0 x14_1).extract 0 ((ji11):Int).toNat]) l0 (l0.length:Int) (wrap64 (x14_1 + 1))) else (none)) else (none)) else (none))=some r:=by first|(rw [hji11] at H;exact H)|(simp only [hji11] at H⊢;exact H)
         (try (have hji11l:0≤ji11:=by (rw [←hji11];unfold mx;(repeat' split) <;> omega)))
         (try (have hji11m:0≤ji11:=by omega))
         have hji11_:(if a2 < 0 then 0 else a2)=ji11:=hji11
         by_cases c12:0≤(ji11)
         ·rw [if_pos c12] at H
          have c12b0:=eq_true c12;have c12b1:=decide_eq_true c12;clear c12
          by_cases c13:(ji11)≤((rdOf ByteArray.empty l0 x14_1).size:Int)
          ·rw [if_pos c13] at H
           have c13b0:=eq_true c13;have c13b1:=decide_eq_true c13;clear c13
           by_cases c14:x7_1.length < 8796093022208
           ·rw [if_pos c14] at H
            have LMc14:=zA.mk c14;clear c14;obtain ⟨y151,hy151⟩:∃y_:List ByteArray,y_=(x7_1 ++ [(rdOf ByteArray.empty l0 x14_1).extract 0 ((ji11):Int).toNat]):=⟨_,rfl⟩;replace H:(zi.l0 kj6 l1 a2 y151 l0 (l0.length:Int) (wrap64 (x14_1 + 1)))=some r:=Qb hy151 H;have Ny151:=zA.mk hy151;clear hy151;have H':=zA.mk H;clear H
            go_wp2_with (first|((with_reducible refine ZZ (b:= .append) (xs:= #[.tmp 28, .tmp 33]) rfl ?_);(try (refine yT (by rfl) ?_;dsimp only));at_builtin;refine Kd.R_append Kd.string (w0:=w) w.heap.size rfl (.tmp 28) (.tmp 33) 43 9 (.string ⟨#[]⟩) 16 rfl Tryz.underlying43 qt rfl (by decide) (by omega) u7 x7_1 ((rdOf ByteArray.empty l0 x14_1).extract 0 ((ji11):Int).toNat) [.string ((rdOf ByteArray.empty l0 x14_1).extract 0 ((ji11):Int).toNat)] (fun _=>True) (fun _=>False) rfl rfl ?aP (fun _ hk=>hk.elim) ?aF ?aO ?aB ?aS ?aL ?_;(case aP=>exact rfl);(case aB=>exact Qc);(case aF=>exact (fun _ _=>trivial));(case aO=>exact (Qh HO_7));(case aS=>exact (zE Qc));(case aL=>have:=LMc14.out;omega);intro v152 w15 ho hb hg hat;rw [←Ny151.out] at ho;have n0_:=zA.mk (hb);have n1_:=zA.mk (ho);clear HB HO_7;have HB:=n0_;have HO153:=n1_;clear n0_ n1_ ho hb hg hat))
            go_roundg kj6
            case measure=>have:=HK1.out;have:=HJ6.out;omega
            case rel=>exact ⟨(y151),(wrap64 (x14_1 + 1)),Q6,H',⟨by have:=HK1.out;have:=HJ6.out;omega⟩,⟨Qh HO153⟩,⟨by repeat (first|(with_reducible first|exact HB.out|apply zG|apply zC|apply zI)|exact HB.out)⟩⟩
           ·rw [if_neg c14] at H
            exact absurd H (by simp)
          ·rw [if_neg c13] at H
           exact absurd H (by simp)
         ·rw [if_neg c12] at H
          exact absurd H (by simp)
        ·replace c10:=Bool.eq_false_iff.mpr c10
         subst c10
         have H1:(zi.l1 kj6 l1 a2 x7_1 (rdOf ByteArray.empty l0 x14_1) l0 (l0.length:Int) x14_1 l1 (l1.length:Int) 0)=some r:=by rw [if_neg (show ¬(false=true) by decide)] at H;exact H
         clear H;have H:=H1;clear H1;have H':=zA.mk H;clear H
         go_wp2
         go_loopg [7,37] kj6 (fun kq v7 v37 w'=>∃(x7_3:List ByteArray) (x37_3:Int),v37= .int .i64 x37_3∧zA (zi.l1 kq l1 a2 x7_3 (rdOf ByteArray.empty l0 x14_1) l0 (l0.length:Int) x14_1 l1 (l1.length:Int) x37_3=some r)∧zA (kq≤kj6)∧zA (Kd.R Kd.string 9 w' w.heap.size (fun _=>True) v7 x7_3)∧zA (Below w.heap.size w w'))
         case atStart=>exact ⟨(x7_1),(0),Q6,H',⟨Nat.le_refl _⟩,⟨Qh HO_7⟩,⟨by repeat (first|(with_reducible first|exact HB.out|apply zG|apply zC|apply zI)|exact HB.out)⟩⟩
         case round=>
          clear H';(try clear c1);(try clear p1);(try clear q1);(try clear hx1);(try clear p2);(try clear c3);(try clear c4);(try clear c4b0);(try clear c5);(try clear c5b0);(try clear c6);(try clear c6b0);(try clear p6);(try clear c9);(try clear c9b0);(try clear c10);(try clear c12);(try clear c12b0);(try clear c12b1);(try clear c13);(try clear c13b0);(try clear c13b1);(try clear c14);(try clear p15);(try clear q15);(try clear hx15);(try clear hx150_0);(try clear p1);(try clear p150);(try clear p2);(try clear q1);(try clear q150);obtain ⟨x7_3,x37_3,rfl,HA,HK3,HO_7,HB⟩:=hrel;cases gk with
          | zero=>exact absurd HA.out (by simp [zi.l1])
          | succ k3=>
           have H:=HA.out;clear HA;simp only [zi.l1] at H
           by_cases c16:x37_3 < (l1.length:Int)
           ·rw [if_pos c16] at H
            have c16b0:=decide_eq_true c16;clear c16
            by_cases c17:0≤x37_3
            ·rw [if_pos c17] at H
             have c17b0:=decide_eq_true c17;clear c17
             by_cases c18:x37_3 < (l1.length:Int)
             ·rw [if_pos c18] at H
              have c18b0:=decide_eq_true c18;clear c18;replace H:=ZzB H;obtain ⟨t155,A190,H⟩:=H;replace H:(if x7_3.length < 8796093022208 then (zi.l1 k3 l1 a2 (x7_3 ++ [t155]) (rdOf ByteArray.empty l0 x14_1) l0 (l0.length:Int) x14_1 l1 (l1.length:Int) (wrap64 (x37_3 + 1))) else (none))=some r:=H;have A19:=zA.mk A190;clear A190
              by_cases c20:x7_3.length < 8796093022208
              ·rw [if_pos c20] at H
               have LMc20:=zA.mk c20;clear c20;obtain ⟨y156,hy156⟩:∃y_:List ByteArray,y_=(x7_3 ++ [t155]):=⟨_,rfl⟩;replace H:(zi.l1 k3 l1 a2 y156 (rdOf ByteArray.empty l0 x14_1) l0 (l0.length:Int) x14_1 l1 (l1.length:Int) (wrap64 (x37_3 + 1)))=some r:=Qb hy156 H;have Ny156:=zA.mk hy156;clear hy156;have H':=zA.mk H;clear H;have p154:0≤(x37_3:Int):=Qa;have q154:x37_3 < (l1.length:Int):=Qa;obtain ⟨ad154,e154,hx154_0⟩:=Kd.at_string HR1.out x37_3 p154 q154;cases e154;replace hx154_0:=Qp HB hx154_0;replace p154:=eq_true p154;replace q154:=eq_true q154
               go_wp2_with (first|((with_reducible refine zm (f:=51) rfl ?_);refine yJ (some 45) rfl rfl Tryz.func51 (by kernel_rfl) rfl #[.string (rdOf ByteArray.empty l0 x14_1), .string (rdOf ByteArray.empty l1 x37_3), .int .i64 a2] rfl QZ ?_;(with_reducible refine (Zx.calls (rdOf ByteArray.empty l0 x14_1) (rdOf ByteArray.empty l1 x37_3) a2 t155 _ A19.out).mono ?_);rintro e w21 ⟨rfl,hb⟩;refine ⟨_,rfl,?_⟩;have n0_:=zA.mk (Kd.R_below (Qh HO_7) hb);have n1_:=zA.mk (zD Qc hb);clear HO_7 HB;have HO_7:=n0_;have HB:=n1_;clear n0_ n1_;(try clear hb);(try clear hb2);(try clear hk);(try clear hi))|((with_reducible refine ZZ (b:= .append) (xs:= #[.tmp 41, .tmp 46]) rfl ?_);(try (refine yT (by rfl) ?_;dsimp only));at_builtin;refine Kd.R_append Kd.string (w0:=w) w.heap.size rfl (.tmp 41) (.tmp 46) 43 9 (.string ⟨#[]⟩) 16 rfl Tryz.underlying43 qt rfl (by decide) (by omega) u7 x7_3 t155 [.string t155] (fun _=>True) (fun _=>False) rfl rfl ?aP (fun _ hk=>hk.elim) ?aF ?aO ?aB ?aS ?aL ?_;(case aP=>exact rfl);(case aB=>exact Qc);(case aF=>exact (fun _ _=>trivial));(case aO=>exact (Qh HO_7));(case aS=>exact (zE Qc));(case aL=>have:=LMc20.out;omega);intro v157 w22 ho hb hg hat;rw [←Ny156.out] at ho;have n0_:=zA.mk (hb);have n1_:=zA.mk (ho);clear HB HO_7;have HB:=n0_;have HO158:=n1_;clear n0_ n1_ ho hb hg hat))
               go_roundg k3
               case measure=>have:=HK1.out;have:=HJ6.out;have:=HK3.out;omega
               case rel=>exact ⟨(y156),(wrap64 (x37_3 + 1)),Q6,H',⟨by have:=HK1.out;have:=HJ6.out;have:=HK3.out;omega⟩,⟨Qh HO158⟩,⟨by repeat (first|(with_reducible first|exact HB.out|apply zG|apply zC|apply zI)|exact HB.out)⟩⟩
              ·rw [if_neg c20] at H
               exact absurd H (by simp)
             ·rw [if_neg c18] at H
              exact absurd H (by simp)
            ·rw [if_neg c17] at H
             exact absurd H (by simp)
           ·rw [if_neg c16] at H
            have c16b0:=decide_eq_false c16;clear c16;have H':=zA.mk H;clear H
            go_wp2
            go_roundg k3
            case measure=>have:=HK1.out;have:=HJ6.out;have:=HK3.out;omega
            case rel=>exact ⟨(x7_3),(wrap64 (x14_1 + 1)),Q6,H',⟨by have:=HK1.out;have:=HJ6.out;have:=HK3.out;omega⟩,⟨Qh HO_7⟩,⟨by repeat (first|(with_reducible first|exact HB.out|apply zG|apply zC|apply zI)|exact HB.out)⟩⟩
     ·rw [if_neg c6] at H
      exact absurd H (by simp)
    ·rw [if_neg c5] at H
     exact absurd H (by simp)
   ·rw [if_neg c4] at H
    have c4b0:=decide_eq_false c4;clear c4;replace H:=ZzB H;obtain ⟨t147,A230,H⟩:=H;replace H:(some t147)=some r:=H;have A23:=zA.mk A230;clear A230;obtain rfl:=Option.some.inj H;obtain ⟨Ao24,co24,eo24⟩:=Kd.R_slice HO_7.out;subst eo24
    go_wp2_with (first|((with_reducible refine zm (f:=52) rfl ?_);refine yJ (some 51) rfl rfl Tryz.func52 (by kernel_rfl) rfl #[.slice Ao24 x7_1.length co24] rfl QZ ?_;(with_reducible refine (zV.calls _ _ x7_1 t147 _ ?side1 ?side2 A23.out).mono ?_);(case side1=>exact Qo ((Kd.R_reads' HO_7.out).2.2));(case side2=>exact (Kd.R_reads' HO_7.out).2.1);rintro e w25 ⟨v148,rfl,ho0,hb⟩;refine ⟨_,rfl,?_⟩;have n1_:=zA.mk (Kd.R_lower (ZB ho0) (zE Qc));have n2_:=zA.mk (zD Qc hb);clear HB;have HO149:=n1_;have HB:=n2_;clear n1_ n2_;(try clear hb ho0)))
    go_ret
    exact ⟨_,by first|rfl|(simp [zb,zc] <;> rfl)|(simp [*,zb,zc] <;> rfl),by (with_reducible repeat (first|apply Kd.R_alloc|apply Kd.R_drewN|apply Kd.R_drew));exact Kd.R_mono HO149.out (fun _ hk=>trivial),by repeat (first|(with_reducible first|exact HB.out|apply zG|apply zC|apply zI)|exact HB.out)⟩
theorem yZ.grow (n:Nat) (w:World) (hn:n * 16≤140737488355328) :
  Calls Tryz.prog 87 #[.slice none 0 0, .int .i64 (n:Int)] w fun e w'=>∃v,e= .returned v∧Kd.R Kd.string 9 w' w.heap.size (fun _=>True) v []∧Below w.heap.size w w':=by
 rcases Nat.eq_zero_or_pos n with h0|h0
 ·subst h0
  go_enter Tryz.func87,Tryz.ntmps87
  go_wp2
  go_ret
  exact ⟨_,rfl,Kd.R_nil _ _ _ _ _,Below.refl _ _⟩
 ·obtain ⟨i0,hi,hz0,hz1,hz2⟩:=info_parts qt
  have hw:wrap64 (n:Int)=(n:Int):=by unfold wrap64;omega
  have hp0:(0 < n)=True:=eq_true h0;have hp1:decide (0 < n)=true:=decide_eq_true h0;have hp2:decide ((0:Int) < (n:Int))=true:=decide_eq_true (by omega);have hp3:decide ((n:Int) < 0)=false:=decide_eq_false (by omega);have hp4:((n:Int) < 0)=False:=eq_false (by omega);have happ:=Lib.run_append_nil_zeros (P:=Tryz.prog) w 43 3 43 9 i0 (.string ⟨#[]⟩) .i64 .i64 Tryz.underlying43 Tryz.underlying3 hi hz0 n h0 (by omega) (by omega) (by rw [hz2];omega);have HAPP:=Plus.Kept.mk happ;clear happ
  go_enter Tryz.func87,Tryz.ntmps87
  go_wp2_with (first
   | (at_builtin;refine Lib.wpList_append_run _ rfl _ _ _ _ rfl _ _ rfl rfl _ _ HAPP.out ?_)
   | go_in)
  go_ret
  refine ⟨_,rfl,Kd.R_of_own (enc:=Value.string) (h1:=fun _=>rfl) ?_ (fun _ _=>trivial),((Below.refl _ _).drew).alloc (Nat.le_refl _) _⟩;have hg:=grownCap_ge w n 0 9;refine zV.own_cut (ts:= []) (Nat.le_refl _) (heap_alloc_new w.drew _) (Nat.zero_le _) (grownCap_le_maxLen w n 0 9 (by unfold maxLen;omega)) ?_ rfl rfl;rw [Array.size_append,size_zeroCells,size_zeroCells]
  show n * 1 + (grownCap w n 0 9 - n) * 1=_
  omega
theorem yZ.concat (g:Nat) (A0:Option Addr) (c0:Nat) (l0:List ByteArray) (A1:Option Addr) (c1:Nat) (l1:List ByteArray) (w:World) (hr0:Kd.C Kd.string w A0 l0.length l0) (hr1:Kd.C Kd.string w A1 l1.length l1)
  (hx0:w.cell? ⟨g,0,none⟩=some (.slice A0 l0.length c0)) (hx1:w.cell? ⟨g,1,none⟩=some (.slice A1 l1.length c1)) (hsz:(l0.length + l1.length) * 16≤140737488355328) :
  Calls Tryz.prog 68 #[.slice (some ⟨g,0,none⟩) 2 2] w fun e w'=>∃v,e= .returned v∧Kd.R Kd.string 9 w' w.heap.size (fun _=>True) v (l0 ++ l1)∧Below w.heap.size w w':=by
 have HR0:=Plus.Kept.mk hr0;have HR1:=Plus.Kept.mk hr1;have HX0:=Plus.Kept.mk hx0;have HX1:=Plus.Kept.mk hx1;obtain ⟨i0,hi,hz0,hz1,hz2⟩:=info_parts qt;clear hr0 hr1
 go_enter Tryz.func68,Tryz.ntmps68
 go_wp2
 go_loopw [3,11] (fun v3 v11 wr=>wr=w∧((v3= .int .i64 0∧v11= .int .i64 0)∨(v3= .int .i64 (l0.length:Int)∧v11= .int .i64 1)∨(v3= .int .i64 ((l0.length + l1.length:Nat):Int)∧v11= .int .i64 2)))
  (fun _ v11 _=>2 - (Plus.intOf v11).toNat)
 case atStart=>exact ⟨rfl, .inl ⟨rfl,rfl⟩⟩
 case round=>
  obtain ⟨hww,hcase⟩:=hrel;obtain rfl:w=wr:=hww.symm
  rcases hcase with ⟨rfl,rfl⟩|⟨rfl,rfl⟩|⟨rfl,rfl⟩
  ·have hw:wrap64 (l0.length:Int)=(l0.length:Int):=by unfold wrap64;omega
   go_wp2
   go_roundw
   case rel=>exact ⟨by trivial, .inr (.inl ⟨rfl,rfl⟩)⟩
   case measure=>simp [Plus.intOf]
  ·have hw:wrap64 ((l0.length:Int) + (l1.length:Int))=((l0.length + l1.length:Nat):Int):=by unfold wrap64;omega
   have hn:decide (((l0.length + l1.length:Nat):Int) < 0)=false:=decide_eq_false (by omega);have hn2:(((l0.length + l1.length:Nat):Int) < 0)=False:=eq_false (by omega)
   go_wp2
   go_roundw
   case rel=>exact ⟨by trivial, .inr (.inr ⟨rfl,rfl⟩)⟩
   case measure=>simp [Plus.intOf]
  ·have hgr:Calls Tryz.prog 87 #[.slice none 0 0, .int .i64 ((l0.length:Int) + (l1.length:Int))] w fun e w'=>∃v,e= .returned v∧Kd.R Kd.string 9 w' w.heap.size (fun _=>True) v []∧Below w.heap.size w w':=yZ.grow (l0.length + l1.length) w hsz
   have HGR:=Plus.Kept.mk hgr;clear hgr
   go_wp2_with (first|(go_at_call 87;refine HGR.out.mono ?_;rintro e w1 ⟨v,rfl,hR,hb⟩)|go_in)
   go_loopw [6,27] (fun v6 v27 w2=>∃xs,Plus.Kept (Kd.R Kd.string 9 w2 w.heap.size (fun _=>True) v6 xs)∧Plus.Kept (Below w.heap.size w w2)∧((xs= []∧v27= .int .i64 0)∨(xs=l0∧v27= .int .i64 1)∨(xs=l0 ++ l1∧v27= .int .i64 2)))
    (fun _ v27 _=>2 - (Plus.intOf v27).toNat)
   case atStart=>exact ⟨[],⟨hR⟩,⟨hb⟩, .inl ⟨rfl,rfl⟩⟩
   case round=>
    obtain ⟨xs,HR,HB,hcase⟩:=hrel;obtain ⟨Av,cv,rfl⟩:=Kd.R_slice HR.out;have hb0:wr.cell? ⟨g,0,none⟩=some (.slice A0 l0.length c0):=(HB.out.cell (ZzA _ _ HX0.out)).trans HX0.out;have hb1:wr.cell? ⟨g,1,none⟩=some (.slice A1 l1.length c1):=(HB.out.cell (ZzA _ _ HX1.out)).trans HX1.out
    rcases hcase with ⟨rfl,rfl⟩|⟨rfl,rfl⟩|⟨rfl,rfl⟩
    ·have HL:=Plus.Kept.mk (show (([]:List ByteArray).length + l0.length) * 16≤140737488355328 by simp;omega)
     go_wp2_with (first|(at_builtin;refine Kd.R_append_row Value.string ByteArray.empty (w0:=w) w.heap.size rfl (.tmp 31) (.tmp 32) 43 9 (.string ⟨#[]⟩) 16 rfl Tryz.underlying43 qt rfl (by decide) _ [] l0 A0 l0.length c0 (fun _=>True) rfl rfl (fun _ _=>trivial) HR.out (Kd.C_below HR0.out HB.out) HB.out HB.out.size HL.out ?_;intro v1 w3 hR1 hB1 _ _)|go_in)
     go_roundw
     case rel=>exact ⟨_,⟨hR1⟩,⟨hB1⟩, .inr (.inl ⟨rfl,rfl⟩)⟩
     case measure=>simp [Plus.intOf]
    ·have HL:=Plus.Kept.mk hsz
     go_wp2_with (first|(at_builtin;refine Kd.R_append_row Value.string ByteArray.empty (w0:=w) w.heap.size rfl (.tmp 31) (.tmp 32) 43 9 (.string ⟨#[]⟩) 16 rfl Tryz.underlying43 qt rfl (by decide) _ xs l1 A1 l1.length c1 (fun _=>True) rfl rfl (fun _ _=>trivial) HR.out (Kd.C_below HR1.out HB.out) HB.out HB.out.size HL.out ?_;intro v1 w3 hR1 hB1 _ _)|go_in)
     go_roundw
     case rel=>exact ⟨_,⟨hR1⟩,⟨hB1⟩, .inr (.inr ⟨rfl,rfl⟩)⟩
     case measure=>simp [Plus.intOf]
    ·go_wp2
     go_ret
     exact ⟨_,rfl,HR.out,HB.out⟩
theorem yZ.cell_new (w:World) (cs:Array Value) (t:TypeId) (j:Nat) (v:Value) (h:cs[j]? =some v):(w.alloc (.cells cs t (0,0))).cell? ⟨w.heap.size,j,none⟩=some v:=by
 unfold World.cell?
 rw [yQ]
 exact h
def yZ.f (l0 l1:List ByteArray):Option (List ByteArray):=if (l0.length + l1.length) * 16≤140737488355328 then zV.f (l0 ++ l1) else none
theorem yZ.calls (A0:Option Addr) (c0:Nat) (l0:List ByteArray) (A1:Option Addr) (c1:Nat) (l1:List ByteArray) (r:List ByteArray) (w:World) (hr0:Kd.C Kd.string w A0 l0.length l0) (hc0:l0.length≤c0) (hr1:Kd.C Kd.string w A1 l1.length l1) (hc1:l1.length≤c1) (h:yZ.f l0 l1=some r) :
  Calls Tryz.prog 48 #[.slice A0 l0.length c0, .slice A1 l1.length c1] w fun e w'=>∃v0_:Value,e= .returned v0_∧Kd.R Kd.string 9 w' w.heap.size (fun _=>True) v0_ r∧Below w.heap.size w w':=by
 have HR0:=Plus.Kept.mk hr0;have HR1:=Plus.Kept.mk hr1;clear hr0 hr1
 unfold yZ.f at h
 split at h
 case isFalse=>cases h
 rename_i hsz
 have H:=Plus.Kept.mk h;clear h
 go_enter Tryz.func48,Tryz.ntmps48
 go_wp2_with (first
  | (go_at_call 68;refine (yZ.concat w.heap.size A0 c0 l0 A1 c1 l1 _ (Kd.C_alloc HR0.out _) (Kd.C_alloc HR1.out _) (yZ.cell_new _ _ _ _ _ rfl) (yZ.cell_new _ _ _ _ _ rfl) hsz).mono ?_;rintro e w1 ⟨v,rfl,hR,hb⟩;obtain ⟨Av,cv,rfl,hlc,hC⟩:=Kd.R_reads hR)
  | (go_at_call 52;have hst:=zV.calls Av cv (l0 ++ l1) r w1 hC hlc H.out;rw [List.length_append] at hst;refine hst.mono ?_;rintro e w2 ⟨v2,rfl,hR2,hb2⟩)
  | go_in)
 go_ret
 have hB1:=((Below.refl w.heap.size w).alloc (Nat.le_refl _) (.cells #[.slice A0 l0.length c0, .slice A1 l1.length c1] 43 (0,0)));have hB2:=zD hB1 hb
 exact ⟨_,rfl,Kd.R_lower hR2 hB2.size,zD hB2 hb2⟩
def yK.f (a0:Int) (a1:Int):Option (Bool):=if a0≥1 then (some (decide (a0≤a1))) else (some false)
theorem yK.calls (a0:Int) (a1:Int) (r:Bool) (w:World) (h:yK.f a0 a1=some r) :
  Calls Tryz.prog 74 #[.int .i64 a0, .int .i64 a1] w fun e w'=>e= .returned (.bool r)∧zv w w':=by
 have H:(if a0≥1 then (some (decide (a0≤a1))) else (some false))=some r:=h;clear h
 by_cases c3:a0≥1
 ·rw [if_pos c3] at H
  have c3b0:=decide_eq_true c3;clear c3;obtain rfl:=Option.some.inj H
  go_enter Tryz.func74,Tryz.ntmps74
  go_wp2
  go_ret
  exact ⟨by first|rfl|(simp;done)|(simp [*];done),by repeat (first|exact zv.refl _|apply zv.step)⟩
 ·rw [if_neg c3] at H
  have c3b0:=decide_eq_false c3;clear c3;obtain rfl:=Option.some.inj H
  go_enter Tryz.func74,Tryz.ntmps74
  go_wp2
  go_ret
  exact ⟨by first|rfl|(simp;done)|(simp [*];done),by repeat (first|exact zv.refl _|apply zv.step)⟩
def YA.f (a0_0:Int) (vC:List (S70)):Option (Bool):=some (decide ((vC.length:Int) > 500))
theorem YA.calls (a0_0:Int) (A0_1:Option Addr) (c0_1:Nat) (vC:List (S70)) (r:Bool) (w:World) (hr0_1:Kd.C k70 w A0_1 vC.length vC) (hc0_1:vC.length≤c0_1) (h:YA.f a0_0 vC=some r) :
  Calls Tryz.prog 76 #[.agg #[.int .i64 a0_0, .slice A0_1 vC.length c0_1]] w fun e w'=>e= .returned (.bool r)∧Below w.heap.size w w':=by
 have hu42:=Tryz.underlying42;have HR0_1:=zA.mk hr0_1;have HC0_1:=zA.mk hc0_1;clear hr0_1 hc0_1;have HB:=zA.mk (Below.refl w.heap.size w);have H:(some (decide ((vC.length:Int) > 500)))=some r:=h;clear h;obtain rfl:=Option.some.inj H
 go_enter Tryz.func76,Tryz.ntmps76
 go_wp2_with (first|((with_reducible refine zx (N:=1) rfl ?_);refine yF (by rfl) (N:=1) (by rfl) (cs:= #[.int .i64 a0_0, .slice A0_1 vC.length c0_1]) (t:=42) Qm ?_;intro gb159 hg w2 hbox hb;have n0_:=zA.mk (zD Qc hb);have n1_:=zA.mk (hbox);have n2_:=zA.mk ((by rw [hg];exact (zE Qc):w.heap.size≤gb159));have n3_:=zA.mk ((by rw [hg];exact (zE Qc):w.heap.size≤gb159));clear HB;have HB:=n0_;have BK159:=n1_;have GW159:=n2_;have GE159:=n3_;clear n0_ n1_ n2_ n3_ hb hbox hg;have hcz3_0:=Qn BK159 0 rfl;have hcz3_1:=Qn BK159 1 rfl;have hfz3_0:=zB BK159.out 0;have hfz3_1:=zB BK159.out 1))
 go_ret
 exact ⟨by first|rfl|(simp [zb,zc] <;> rfl)|(simp [*,zb,zc] <;> rfl),by repeat (first|(with_reducible first|exact HB.out|apply zG|apply zC|apply zI|refine zK ?_ GE159.out)|exact HB.out)⟩
def zS.l0:Nat→List (S42)→Int→Int→Option (Int)
 | 0,_,_,_=>none
 | k + 1,x0,x7,x8=>if x8 < x7 then (if 0≤x8 then (if x8 < (x0.length:Int) then ((YA.f ((zF x0 x8).f0) ((zF x0 x8).f1)).bind fun t161=>(if t161=true then (some x8) else (zS.l0 k x0 x7 (wrap64 (x8 + 1))))) else (none)) else (none)) else (some (-1))
def zS.f (k:Nat) (l0:List (S42)) (a1:Int):Option (Int):=zS.l0 k l0 (l0.length:Int) 0
theorem zS.mono_l:∀k,(∀y0 y1 y2,LeO (zS.l0 k y0 y1 y2) (zS.l0 (k + 1) y0 y1 y2))
 | 0=>fun _ _ _ r h=>by simp [zS.l0] at h
 | k + 1=>by
  have ih0:=zS.mono_l k
  ·intro y0 y1 y2
   unfold zS.l0
   repeat' first
   | with_reducible first|exact ih0 _ _ _|exact LeO.refl _|exact LeO.none _|refine LeO.ite ?_ ?_|refine LeO.bind ?_ (fun _=> ?_)
theorem zS.mono:∀a0 a1 k,LeO (zS.f k a0 a1) (zS.f (k + 1) a0 a1):=by
 intro a0 a1 k;have ih0:=zS.mono_l k
 unfold zS.f
 repeat' first
   | with_reducible first|exact ih0 _ _ _|exact LeO.refl _|exact LeO.none _|refine LeO.ite ?_ ?_|refine LeO.bind ?_ (fun _=> ?_)
theorem zS.calls (k:Nat) (A0:Option Addr) (c0:Nat) (l0:List (S42)) (a1:Int) (r:Int) (w:World) (hr0:Kd.C k42 w A0 l0.length l0) (hc0:l0.length≤c0) (h:zS.f k l0 a1=some r) :
  Calls Tryz.prog 90 #[.slice A0 l0.length c0, .func (.func 76) #[] #[]] w fun e w'=>e= .returned (.int .i64 r)∧Below w.heap.size w w':=by
 have hu42:=Tryz.underlying42;have HR0:=zA.mk hr0;have HC0:=zA.mk hc0;clear hr0 hc0;have HB:=zA.mk (Below.refl w.heap.size w);have H:(zS.l0 k l0 (l0.length:Int) 0)=some r:=h;clear h;have H':=zA.mk H;clear H
 go_enter Tryz.func90,Tryz.ntmps90
 go_wp2
 go_loopg [8] k (fun kq v8 w'=>∃(x8_1:Int),v8= .int .i64 x8_1∧zA (zS.l0 kq l0 (l0.length:Int) x8_1=some r)∧zA (kq≤k)∧zA (Below w.heap.size w w'))
 case atStart=>exact ⟨(0),Q6,H',⟨Nat.le_refl _⟩,⟨by repeat (first|(with_reducible first|exact HB.out|apply zG|apply zC|apply zI)|exact HB.out)⟩⟩
 case round=>
  clear H';(try clear p2);obtain ⟨x8_1,rfl,HA,HK1,HB⟩:=hrel;cases gk with
  | zero=>exact absurd HA.out (by simp [zS.l0])
  | succ k1=>
   have H:=HA.out;clear HA;simp only [zS.l0] at H
   by_cases c3:x8_1 < (l0.length:Int)
   ·rw [if_pos c3] at H
    have c3b0:=decide_eq_true c3;clear c3
    by_cases c4:0≤x8_1
    ·rw [if_pos c4] at H
     have c4b0:=decide_eq_true c4;clear c4
     by_cases c5:x8_1 < (l0.length:Int)
     ·rw [if_pos c5] at H
      have c5b0:=decide_eq_true c5;clear c5;replace H:=ZzB H;obtain ⟨t161,A60,H⟩:=H;replace H:(if t161=true then (some x8_1) else (zS.l0 k1 l0 (l0.length:Int) (wrap64 (x8_1 + 1))))=some r:=H;have A6:=zA.mk A60;clear A60
      by_cases c7:t161=true
      ·subst c7
       have H1:(some x8_1)=some r:=by rw [if_pos rfl] at H;exact H
       clear H;have H:=H1;clear H1;obtain rfl:=Option.some.inj H;have p160:0≤(x8_1:Int):=Qa;have q160:x8_1 < (l0.length:Int):=Qa;obtain ⟨ad160,A160_1,c160_1,e160,hx160_0,hx160_1,hl160_1,hi160_1⟩:=ZX HR0.out x8_1 p160 q160;cases e160;replace hx160_0:=Qp HB hx160_0;replace hx160_1:=Qp HB hx160_1;have HR160_1:=zA.mk hi160_1;have HC160_1:=zA.mk hl160_1;clear hi160_1 hl160_1;replace p160:=eq_true p160;replace q160:=eq_true q160
       go_wp2_with (first|(go_at_call 76;(with_reducible refine (YA.calls ((zF l0 x8_1).f0) _ _ ((zF l0 x8_1).f1) true _ ?side1 ?side2 A6.out).mono ?_);(case side1=>exact Qo (Kd.C_below HR160_1.out HB.out));(case side2=>exact HC160_1.out);rintro e w8 ⟨rfl,hb⟩;have n0_:=zA.mk (zD Qc hb);clear HB;have HB:=n0_;clear n0_;(try clear hb);(try clear hb2);(try clear hk);(try clear hi)))
       go_ret
       exact ⟨by first|rfl|(simp [zb,zc] <;> rfl)|(simp [*,zb,zc] <;> rfl),by repeat (first|(with_reducible first|exact HB.out|apply zG|apply zC|apply zI)|exact HB.out)⟩
      ·replace c7:=Bool.eq_false_iff.mpr c7
       subst c7
       have H1:(zS.l0 k1 l0 (l0.length:Int) (wrap64 (x8_1 + 1)))=some r:=by rw [if_neg (show ¬(false=true) by decide)] at H;exact H
       clear H;have H:=H1;clear H1;have H':=zA.mk H;clear H;have p160:0≤(x8_1:Int):=Qa;have q160:x8_1 < (l0.length:Int):=Qa;obtain ⟨ad160,A160_1,c160_1,e160,hx160_0,hx160_1,hl160_1,hi160_1⟩:=ZX HR0.out x8_1 p160 q160;cases e160;replace hx160_0:=Qp HB hx160_0;replace hx160_1:=Qp HB hx160_1;have HR160_1:=zA.mk hi160_1;have HC160_1:=zA.mk hl160_1;clear hi160_1 hl160_1;replace p160:=eq_true p160;replace q160:=eq_true q160
       go_wp2_with (first|(go_at_call 76;(with_reducible refine (YA.calls ((zF l0 x8_1).f0) _ _ ((zF l0 x8_1).f1) false _ ?side1 ?side2 A6.out).mono ?_);(case side1=>exact Qo (Kd.C_below HR160_1.out HB.out));(case side2=>exact HC160_1.out);rintro e w9 ⟨rfl,hb⟩;have n0_:=zA.mk (zD Qc hb);clear HB;have HB:=n0_;clear n0_;(try clear hb);(try clear hb2);(try clear hk);(try clear hi)))
       go_roundg k1
       case measure=>have:=HK1.out;omega
       case rel=>exact ⟨(wrap64 (x8_1 + 1)),Q6,H',⟨by have:=HK1.out;omega⟩,⟨by repeat (first|(with_reducible first|exact HB.out|apply zG|apply zC|apply zI)|exact HB.out)⟩⟩
     ·rw [if_neg c5] at H
      exact absurd H (by simp)
    ·rw [if_neg c4] at H
     exact absurd H (by simp)
   ·rw [if_neg c3] at H
    have c3b0:=decide_eq_false c3;clear c3;obtain rfl:=Option.some.inj H
    go_wp2
    go_ret
    exact ⟨by first|rfl|(simp [zb,zc] <;> rfl)|(simp [*,zb,zc] <;> rfl),by repeat (first|(with_reducible first|exact HB.out|apply zG|apply zC|apply zI)|exact HB.out)⟩
def zf.f (k:Nat) (l0:List (S42)) (a1:Int):Option (Bool):=(zS.f k l0 a1).bind fun t162=>(some (decide (t162≥0)))
theorem zf.mono:∀a0 a1 k,LeO (zf.f k a0 a1) (zf.f (k + 1) a0 a1):=by
 intro a0 a1 k
 unfold zf.f
 repeat' first
   | with_reducible first|exact zS.mono _ _ _|exact LeO.refl _|exact LeO.none _|refine LeO.ite ?_ ?_|refine LeO.bind ?_ (fun _=> ?_)
theorem zf.calls (k:Nat) (A0:Option Addr) (c0:Nat) (l0:List (S42)) (a1:Int) (r:Bool) (w:World) (hr0:Kd.C k42 w A0 l0.length l0) (hc0:l0.length≤c0) (h:zf.f k l0 a1=some r) :
  Calls Tryz.prog 75 #[.slice A0 l0.length c0, .func (.func 76) #[] #[]] w fun e w'=>e= .returned (.bool r)∧Below w.heap.size w w':=by
 have HR0:=zA.mk hr0;have HC0:=zA.mk hc0;clear hr0 hc0;have HB:=zA.mk (Below.refl w.heap.size w);have H:((zS.f k l0 a1).bind fun t162=>(some (decide (t162≥0))))=some r:=h;clear h;replace H:=ZzB H;obtain ⟨t162,A30,H⟩:=H;replace H:(some (decide (t162≥0)))=some r:=H;have A3:=zA.mk A30;clear A30;obtain rfl:=Option.some.inj H
 go_enter Tryz.func75,Tryz.ntmps75
 go_wp2_with (first|((with_reducible refine zm (f:=90) rfl ?_);refine yJ (some 7) rfl rfl Tryz.func90 (by kernel_rfl) rfl #[.slice A0 l0.length c0, .func (.func 76) #[] #[]] rfl QZ ?_;(with_reducible refine (zS.calls k _ _ l0 a1 t162 _ ?side1 ?side2 A3.out).mono ?_);(case side1=>exact Qo HR0.out);(case side2=>exact HC0.out);rintro e w4 ⟨rfl,hb⟩;refine ⟨_,rfl,?_⟩;have n0_:=zA.mk (zD Qc hb);clear HB;have HB:=n0_;clear n0_;(try clear hb);(try clear hb2);(try clear hk);(try clear hi)))
 go_ret
 exact ⟨by first|rfl|(simp [zb,zc] <;> rfl)|(simp [*,zb,zc] <;> rfl),by repeat (first|(with_reducible first|exact HB.out|apply zG|apply zC|apply zI)|exact HB.out)⟩
def YR.f (a0_0:Int) (a0_1:Int) (l0_2:List Int) (va:List (S42)) (a1_0:Bool) (a1_1:Int):Option (Bool):=if a1_0=true then ((yK.f a1_1 a0_0).bind fun t165=>(some t165)) else (if a1_1≥0 then (some (decide (a1_1 < (l0_2.length:Int)))) else (some false))
theorem YR.calls (a0_0:Int) (a0_1:Int) (vn:Option Addr) (vo:Nat) (l0_2:List Int) (vA:Option Addr) (vq:Nat) (va:List (S42)) (a1_0:Bool) (a1_1:Int) (r:Bool) (w:World) (hr0_2:Kd.C (Kd.int .i64) w vn l0_2.length l0_2) (hc0_2:l0_2.length≤vo) (hr0_3:Kd.C k42 w vA va.length va) (hc0_3:va.length≤vq) (h:YR.f a0_0 a0_1 l0_2 va a1_0 a1_1=some r) :
  Calls Tryz.prog 93 #[.agg #[.int .i64 a0_0, .int .i64 a0_1, .slice vn l0_2.length vo, .slice vA va.length vq], .agg #[.bool a1_0, .int .i64 a1_1]] w fun e w'=>e= .returned (.bool r)∧Below w.heap.size w w':=by
 have hu25:=Tryz.underlying25;have hu70:=Tryz.underlying70;have wh:=zA.mk hr0_2;have wi:=zA.mk hc0_2;clear hr0_2 hc0_2;have vQ:=zA.mk hr0_3;have wj:=zA.mk hc0_3;clear hr0_3 hc0_3;have HB:=zA.mk (Below.refl w.heap.size w);have H:(if a1_0=true then ((yK.f a1_1 a0_0).bind fun t165=>(some t165)) else (if a1_1≥0 then (some (decide (a1_1 < (l0_2.length:Int)))) else (some false)))=some r:=h;clear h
 by_cases c3:a1_0=true
 ·subst c3
  have H1:((yK.f a1_1 a0_0).bind fun t165=>(some t165))=some r:=by rw [if_pos rfl] at H;exact H
  clear H;have H:=H1;clear H1;replace H:=ZzB H;obtain ⟨t165,A40,H⟩:=H;replace H:(some t165)=some r:=H;have A4:=zA.mk A40;clear A40;obtain rfl:=Option.some.inj H
  go_enter Tryz.func93,Tryz.ntmps93
  go_wp2_with (first|((with_reducible refine zx (N:=2) rfl ?_);(try (refine yT (by rfl) ?_;dsimp only));refine yF (by rfl) (N:=2) (by rfl) (cs:= #[.int .i64 a0_0, .int .i64 a0_1, .slice vn l0_2.length vo, .slice vA va.length vq]) (t:=25) Qm ?_;intro ws hg w5 hbox hb;have n0_:=zA.mk (zD Qc hb);have n1_:=zA.mk (hbox);have n2_:=zA.mk ((by rw [hg];exact (zE Qc):w.heap.size≤ws));have n3_:=zA.mk ((by rw [hg];exact (zE Qc):w.heap.size≤ws));clear HB;have HB:=n0_;have vS:=n1_;have GW163:=n2_;have GE163:=n3_;clear n0_ n1_ n2_ n3_ hb hbox hg)|((with_reducible refine zx (N:=3) rfl ?_);(try (refine yT (by rfl) ?_;dsimp only));refine yF (by rfl) (N:=3) (by rfl) (cs:= #[.bool true, .int .i64 a1_1]) (t:=70) Qm ?_;intro gb164 hg w6 hbox hb;have n0_:=zA.mk (zY (g:=ws) (Qi vS) hb);have n1_:=zA.mk (zD (Qd GE163) hb);have n2_:=zA.mk (hbox);have n3_:=zA.mk ((by rw [hg];exact (zE (Qd GE163)):w.heap.size≤gb164));have n4_:=zA.mk ((by rw [hg];exact (zE (Qd GE163)):w.heap.size≤gb164));have n5_:=zA.mk ((by rw [hg];exact Nat.ne_of_lt (yA (g:=ws) (Qi vS)):ws≠gb164));have n6_:=zA.mk ((by rw [hg];exact Nat.ne_of_gt (yA (g:=ws) (Qi vS)):gb164≠ws));clear vS HB;have vS:=n0_;have HB:=n1_;have BK164:=n2_;have GW164:=n3_;have GE164:=n4_;have NB163_164:=n5_;have NB164_163:=n6_;clear n0_ n1_ n2_ n3_ n4_ n5_ n6_ hb hbox hg;have hnb7:=NB164_163.out;have hnc7:=NB163_164.out;have hcz8_0:=Qn BK164 0 rfl;have hcz8_1:=Qn BK164 1 rfl;have hfz8_0:=zB BK164.out 0;have hfz8_1:=zB BK164.out 1;have hcz9_0:=Qn vS 0 rfl;have hcz9_1:=Qn vS 1 rfl;have hcz9_2:=Qn vS 2 rfl;have hcz9_3:=Qn vS 3 rfl;have hfz9_0:=zB vS.out 0;have hfz9_1:=zB vS.out 1;have hfz9_2:=zB vS.out 2;have hfz9_3:=zB vS.out 3)|((with_reducible refine zm (f:=74) rfl ?_);refine yJ (some 11) rfl rfl Tryz.func74 (by kernel_rfl) rfl #[.int .i64 a1_1, .int .i64 a0_0] rfl QZ ?_;(with_reducible refine (yK.calls a1_1 a0_0 t165 _ A4.out).mono ?_);rintro e w' ⟨rfl,⟨nd,rfl⟩⟩;refine ⟨_,rfl,?_⟩))
  go_ret
  exact ⟨by first|rfl|(simp [zb,zc] <;> rfl)|(simp [*,zb,zc] <;> rfl),by repeat (first|(with_reducible first|exact HB.out|apply zG|apply zC|apply zI|refine zK ?_ GE163.out|refine zK ?_ GE164.out)|exact HB.out)⟩
 ·replace c3:=Bool.eq_false_iff.mpr c3
  subst c3
  have H1:(if a1_1≥0 then (some (decide (a1_1 < (l0_2.length:Int)))) else (some false))=some r:=by rw [if_neg (show ¬(false=true) by decide)] at H;exact H
  clear H;have H:=H1;clear H1
  by_cases c10:a1_1≥0
  ·rw [if_pos c10] at H
   have c10b0:=decide_eq_true c10;clear c10;obtain rfl:=Option.some.inj H
   go_enter Tryz.func93,Tryz.ntmps93
   go_wp2_with (first|((with_reducible refine zx (N:=2) rfl ?_);(try (refine yT (by rfl) ?_;dsimp only));refine yF (by rfl) (N:=2) (by rfl) (cs:= #[.int .i64 a0_0, .int .i64 a0_1, .slice vn l0_2.length vo, .slice vA va.length vq]) (t:=25) Qm ?_;intro ws hg w11 hbox hb;have n0_:=zA.mk (zD Qc hb);have n1_:=zA.mk (hbox);have n2_:=zA.mk ((by rw [hg];exact (zE Qc):w.heap.size≤ws));have n3_:=zA.mk ((by rw [hg];exact (zE Qc):w.heap.size≤ws));clear HB;have HB:=n0_;have vS:=n1_;have GW163:=n2_;have GE163:=n3_;clear n0_ n1_ n2_ n3_ hb hbox hg)|((with_reducible refine zx (N:=3) rfl ?_);(try (refine yT (by rfl) ?_;dsimp only));refine yF (by rfl) (N:=3) (by rfl) (cs:= #[.bool false, .int .i64 a1_1]) (t:=70) Qm ?_;intro gb164 hg w12 hbox hb;have n0_:=zA.mk (zY (g:=ws) (Qi vS) hb);have n1_:=zA.mk (zD (Qd GE163) hb);have n2_:=zA.mk (hbox);have n3_:=zA.mk ((by rw [hg];exact (zE (Qd GE163)):w.heap.size≤gb164));have n4_:=zA.mk ((by rw [hg];exact (zE (Qd GE163)):w.heap.size≤gb164));have n5_:=zA.mk ((by rw [hg];exact Nat.ne_of_lt (yA (g:=ws) (Qi vS)):ws≠gb164));have n6_:=zA.mk ((by rw [hg];exact Nat.ne_of_gt (yA (g:=ws) (Qi vS)):gb164≠ws));clear vS HB;have vS:=n0_;have HB:=n1_;have BK164:=n2_;have GW164:=n3_;have GE164:=n4_;have NB163_164:=n5_;have NB164_163:=n6_;clear n0_ n1_ n2_ n3_ n4_ n5_ n6_ hb hbox hg;have hnb13:=NB164_163.out;have hnc13:=NB163_164.out;have hcz14_0:=Qn BK164 0 rfl;have hcz14_1:=Qn BK164 1 rfl;have hfz14_0:=zB BK164.out 0;have hfz14_1:=zB BK164.out 1;have hcz15_0:=Qn vS 0 rfl;have hcz15_1:=Qn vS 1 rfl;have hcz15_2:=Qn vS 2 rfl;have hcz15_3:=Qn vS 3 rfl;have hfz15_0:=zB vS.out 0;have hfz15_1:=zB vS.out 1;have hfz15_2:=zB vS.out 2;have hfz15_3:=zB vS.out 3))
   go_ret
   exact ⟨by first|rfl|(simp [zb,zc] <;> rfl)|(simp [*,zb,zc] <;> rfl),by repeat (first|(with_reducible first|exact HB.out|apply zG|apply zC|apply zI|refine zK ?_ GE163.out|refine zK ?_ GE164.out)|exact HB.out)⟩
  ·rw [if_neg c10] at H
   have c10b0:=decide_eq_false c10;clear c10;obtain rfl:=Option.some.inj H
   go_enter Tryz.func93,Tryz.ntmps93
   go_wp2_with (first|((with_reducible refine zx (N:=2) rfl ?_);(try (refine yT (by rfl) ?_;dsimp only));refine yF (by rfl) (N:=2) (by rfl) (cs:= #[.int .i64 a0_0, .int .i64 a0_1, .slice vn l0_2.length vo, .slice vA va.length vq]) (t:=25) Qm ?_;intro ws hg w16 hbox hb;have n0_:=zA.mk (zD Qc hb);have n1_:=zA.mk (hbox);have n2_:=zA.mk ((by rw [hg];exact (zE Qc):w.heap.size≤ws));have n3_:=zA.mk ((by rw [hg];exact (zE Qc):w.heap.size≤ws));clear HB;have HB:=n0_;have vS:=n1_;have GW163:=n2_;have GE163:=n3_;clear n0_ n1_ n2_ n3_ hb hbox hg)|((with_reducible refine zx (N:=3) rfl ?_);(try (refine yT (by rfl) ?_;dsimp only));refine yF (by rfl) (N:=3) (by rfl) (cs:= #[.bool false, .int .i64 a1_1]) (t:=70) Qm ?_;intro gb164 hg w17 hbox hb;have n1_:=zA.mk (zD (Qd GE163) hb);have n2_:=zA.mk (hbox);have n3_:=zA.mk ((by rw [hg];exact (zE (Qd GE163)):w.heap.size≤gb164));have n4_:=zA.mk ((by rw [hg];exact (zE (Qd GE163)):w.heap.size≤gb164));have n5_:=zA.mk ((by rw [hg];exact Nat.ne_of_lt (yA (g:=ws) (Qi vS)):ws≠gb164));have n6_:=zA.mk ((by rw [hg];exact Nat.ne_of_gt (yA (g:=ws) (Qi vS)):gb164≠ws));clear HB;have HB:=n1_;have BK164:=n2_;have GW164:=n3_;have GE164:=n4_;have NB163_164:=n5_;have NB164_163:=n6_;clear n1_ n2_ n3_ n4_ n5_ n6_ hb hbox hg;have hnb18:=NB164_163.out;have hnc18:=NB163_164.out;have hcz19_0:=Qn BK164 0 rfl;have hcz19_1:=Qn BK164 1 rfl;have hfz19_0:=zB BK164.out 0;have hfz19_1:=zB BK164.out 1))
   go_ret
   exact ⟨by first|rfl|(simp [zb,zc] <;> rfl)|(simp [*,zb,zc] <;> rfl),by repeat (first|(with_reducible first|exact HB.out|apply zG|apply zC|apply zI|refine zK ?_ GE163.out|refine zK ?_ GE164.out)|exact HB.out)⟩
def zT (w0 W:World) (g:Nat) (f0:Int) (f1:Int) (f2:List Int) (f3:List (S42)):Prop:=∃A2 c2,∃A3 c3,W.heap[g]? =some (.cells #[.int .i64 f0, .int .i64 f1, .slice A2 f2.length c2, .slice A3 f3.length c3] 25 (0,0))∧w0.heap.size≤g∧(Kd.C (Kd.int .i64) w0 A2 f2.length f2∧f2.length≤c2)∧(Kd.C k42 w0 A3 f3.length f3∧f3.length≤c3)
theorem zT.grown {w0 W:World} {g:Nat} {f0:Int} {f1:Int} {f2:List Int} {f3:List (S42)} {W1:World} {row:Option Nat} (h:zT w0 W g f0 f1 f2 f3) (hw:W.grownBy W1 row) (hne:some g≠row):zT w0 W1 g f0 f1 f2 f3:=by
 obtain ⟨A2,c2,A3,c3,hb,hg,hr2,hr3⟩:=h
 exact ⟨A2,c2,A3,c3,yq hb hw hne,hg,hr2,hr3⟩
theorem zT.kept {w0 W:World} {g:Nat} {f0:Int} {f1:Int} {f2:List Int} {f3:List (S42)} {W1:World} {S:Nat→Prop} (h:zT w0 W g f0 f1 f2 f3) (hk:Kept W W1 S) (hne:¬S g):zT w0 W1 g f0 f1 f2 f3:=by
 obtain ⟨A2,c2,A3,c3,hb,hg,hr2,hr3⟩:=h
 exact ⟨A2,c2,A3,c3,blk_kept hb hk hne,hg,hr2,hr3⟩
theorem zT.below {w0 W:World} {g:Nat} {f0:Int} {f1:Int} {f2:List Int} {f3:List (S42)} {W1:World} (h:zT w0 W g f0 f1 f2 f3) (hw:Below W.heap.size W W1):zT w0 W1 g f0 f1 f2 f3:=h.grown (YZ hw none) (by simp)
theorem zT.alloc {w0 W:World} {g:Nat} {f0:Int} {f1:Int} {f2:List Int} {f3:List (S42)} (h:zT w0 W g f0 f1 f2 f3) (o:Obj):zT w0 (W.alloc o) g f0 f1 f2 f3:=h.below (zG (Below.refl _ _) o)
theorem zT.drewN {w0 W:World} {g:Nat} {f0:Int} {f1:Int} {f2:List Int} {f3:List (S42)} (h:zT w0 W g f0 f1 f2 f3) (m:Nat):zT w0 (W.drewN m) g f0 f1 f2 f3:=h
theorem zT.drew {w0 W:World} {g:Nat} {f0:Int} {f1:Int} {f2:List Int} {f3:List (S42)} (h:zT w0 W g f0 f1 f2 f3):zT w0 W.drew g f0 f1 f2 f3:=h
theorem zT.at_ {w0 W:World} {g:Nat} {f0:Int} {f1:Int} {f2:List Int} {f3:List (S42)} {w':World} {m:Nat} (hq:W.drewN m=w') (h:zT w0 W g f0 f1 f2 f3):zT w0 w' g f0 f1 f2 f3:=by subst hq;exact zT.drewN h m
theorem zT.apart {w0 W:World} {g:Nat} {f0:Int} {f1:Int} {f2:List Int} {f3:List (S42)} {α:Type} {d:Kd α} {e:Nat} {base:Nat} {ok:Nat→Prop} {v:Value} {xs:List α} (h:zT w0 W g f0 f1 f2 f3) (ho:d.R e W base ok v xs) (ht:∀q,q ∈ e :: d.E→q≠25):d.R e W base (fun k=>ok k∧k≠g) v xs:=by
 obtain ⟨A2,c2,A3,c3,hb,hg,hr2,hr3⟩:=h
 exact Kd.R_types ho hb ht
theorem zT.own_ne {w0 W:World} {g:Nat} {f0:Int} {f1:Int} {f2:List Int} {f3:List (S42)} {α:Type} {d:Kd α} {e:Nat} {base:Nat} {ok:Nat→Prop} {v:Value} {xs:List α} (h:zT w0 W g f0 f1 f2 f3) (ho:d.R e W base ok v xs) (ht:e≠25):some g≠v.ownBlock:=by
 obtain ⟨A2,c2,A3,c3,hb,hg,hr2,hr3⟩:=h
 exact Kd.R_ne ho hb ht
theorem zT.lt {w0 W:World} {g:Nat} {f0:Int} {f1:Int} {f2:List Int} {f3:List (S42)} (h:zT w0 W g f0 f1 f2 f3):g < W.heap.size:=by
 obtain ⟨A2,c2,A3,c3,hb,hg,hr2,hr3⟩:=h
 exact yA hb
theorem zT.ge {w0 W:World} {g:Nat} {f0:Int} {f1:Int} {f2:List Int} {f3:List (S42)} (h:zT w0 W g f0 f1 f2 f3):w0.heap.size≤g:=by
 obtain ⟨A2,c2,A3,c3,hb,hg,hr2,hr3⟩:=h
 exact hg
theorem zT.far {w0 W:World} {g:Nat} {f0:Int} {f1:Int} {f2:List Int} {f3:List (S42)} {p:Addr} (h:zT w0 W g f0 f1 f2 f3) (hne:g≠p.block) (u:Value):zT w0 (W.setCell p u) g f0 f1 f2 f3:=by
 obtain ⟨A2,c2,A3,c3,hb,hg,hr2,hr3⟩:=h
 exact ⟨A2,c2,A3,c3,yE hb hne u,hg,hr2,hr3⟩
theorem ZM {W:World} {g:Nat} {A2:Option Addr} {c2:Nat} {A3:Option Addr} {c3:Nat} {f0:Int} {f1:Int} {f2:List Int} {f3:List (S42)} (h:W.heap[g]? =some (.cells #[.int .i64 f0, .int .i64 f1, .slice A2 f2.length c2, .slice A3 f3.length c3] 25 (0,0))):W.cell? ⟨g,0,none⟩=some (.int .i64 f0):=(zO h 0).trans rfl
theorem zT.set_0 {w0 W:World} {g:Nat} {f0:Int} {f1:Int} {f2:List Int} {f3:List (S42)} (h:zT w0 W g f0 f1 f2 f3) (x:Int):zT w0 (W.setCell ⟨g,0,none⟩ (.int .i64 x)) g x f1 f2 f3:=by
 obtain ⟨A2,c2,A3,c3,hb,hg,hr2,hr3⟩:=h
 exact ⟨A2,c2,A3,c3,by simpa using qm hb 0 (.int .i64 x),hg,hr2,hr3⟩
theorem ZN {W:World} {g:Nat} {A2:Option Addr} {c2:Nat} {A3:Option Addr} {c3:Nat} {f0:Int} {f1:Int} {f2:List Int} {f3:List (S42)} (h:W.heap[g]? =some (.cells #[.int .i64 f0, .int .i64 f1, .slice A2 f2.length c2, .slice A3 f3.length c3] 25 (0,0))):W.cell? ⟨g,1,none⟩=some (.int .i64 f1):=(zO h 1).trans rfl
theorem zT.set_1 {w0 W:World} {g:Nat} {f0:Int} {f1:Int} {f2:List Int} {f3:List (S42)} (h:zT w0 W g f0 f1 f2 f3) (x:Int):zT w0 (W.setCell ⟨g,1,none⟩ (.int .i64 x)) g f0 x f2 f3:=by
 obtain ⟨A2,c2,A3,c3,hb,hg,hr2,hr3⟩:=h
 exact ⟨A2,c2,A3,c3,by simpa using qm hb 1 (.int .i64 x),hg,hr2,hr3⟩
theorem ZO {W:World} {g:Nat} {A2:Option Addr} {c2:Nat} {A3:Option Addr} {c3:Nat} {f0:Int} {f1:Int} {f2:List Int} {f3:List (S42)} (h:W.heap[g]? =some (.cells #[.int .i64 f0, .int .i64 f1, .slice A2 f2.length c2, .slice A3 f3.length c3] 25 (0,0))):W.cell? ⟨g,2,none⟩=some (.slice A2 f2.length c2):=(zO h 2).trans rfl
theorem ZP {W:World} {g:Nat} {A2:Option Addr} {c2:Nat} {A3:Option Addr} {c3:Nat} {f0:Int} {f1:Int} {f2:List Int} {f3:List (S42)} (h:W.heap[g]? =some (.cells #[.int .i64 f0, .int .i64 f1, .slice A2 f2.length c2, .slice A3 f3.length c3] 25 (0,0))):W.cell? ⟨g,3,none⟩=some (.slice A3 f3.length c3):=(zO h 3).trans rfl
def Ze.f (a0_0:Bool) (a0_1:Int) (s1_0:Int) (s1_1:Int) (s1_2:List Int) (s1_3:List (S42)):Option (Bool × Int × Int):=(YR.f s1_0 s1_1 s1_2 s1_3 a0_0 a0_1).bind fun t167=>(some (!t167,s1_0,s1_1))
theorem Ze.calls (a0_0:Bool) (a0_1:Int) (g:Nat) (s1_0:Int) (s1_1:Int) (s1_2:List Int) (s1_3:List (S42)) (r1:Bool) (r2:Int) (r3:Int) (w0 w:World) (hI:zT w0 w g s1_0 s1_1 s1_2 s1_3) (hB:Below w0.heap.size w0 w) (h:Ze.f a0_0 a0_1 s1_0 s1_1 s1_2 s1_3=some (r1,r2,r3)) :
  Calls Tryz.prog 92 #[.agg #[.bool a0_0, .int .i64 a0_1], .pointer (some ⟨g,0,none⟩)] w fun e w'=>e= .returned (.bool r1)∧zT w0 w' g r2 r3 s1_2 s1_3∧Below w0.heap.size w0 w'∧zk w w' g none:=by
 have hu70:=Tryz.underlying70;have hu25:=Tryz.underlying25;have HI1:=zA.mk hI;have HK:=zA.mk (zk.refl w g none);have HL:=zA.mk hB.size;clear hI;have HW0:=zA.mk hB.size;have HB:=zA.mk hB;clear hB;have H:((YR.f s1_0 s1_1 s1_2 s1_3 a0_0 a0_1).bind fun t167=>(some (!t167,s1_0,s1_1)))=some (r1,r2,r3):=h;clear h;replace H:=ZzB H;obtain ⟨t167,A30,H⟩:=H;replace H:(some (!t167,s1_0,s1_1))=some (r1,r2,r3):=H;have A3:=zA.mk A30;clear A30;simp only [Option.some.injEq,Prod.mk.injEq] at H;obtain ⟨rfl,rfl,rfl⟩:=H
 go_enter Tryz.func92,Tryz.ntmps92
 go_wp2_with (first|((with_reducible refine zx (N:=2) rfl ?_);refine yF (by rfl) (N:=2) (by rfl) (cs:= #[.bool a0_0, .int .i64 a0_1]) (t:=70) Qm ?_;intro gb166 hg w4 hbox hb;have n0_:=zA.mk (zT.below QS hb);have n1_:=zA.mk (zk.trans QV (zk.of_below hb g none) (.inl rfl));have n2_:=zA.mk (zD QR hb);have n3_:=zA.mk (hbox);have n4_:=zA.mk ((by rw [hg];exact (Yj (w:=w) (g:=g) (row:=none) QV):w.heap.size≤gb166));have n5_:=zA.mk ((Nat.le_trans HW0.out (by rw [hg];exact (Yj (w:=w) (g:=g) (row:=none) QV):w.heap.size≤gb166):w0.heap.size≤gb166));have n6_:=zA.mk ((by rw [hg];exact Nat.ne_of_lt (zT.lt (show zT w0 _ g s1_0 s1_1 s1_2 s1_3 from by repeat (first|(with_reducible first|exact HI1.out|apply zT.alloc|apply zT.drewN|apply zT.drew|apply zT.set_0|apply zT.set_1)|exact HI1.out))):g≠gb166));have n7_:=zA.mk ((by rw [hg];exact Nat.ne_of_gt (zT.lt (show zT w0 _ g s1_0 s1_1 s1_2 s1_3 from by repeat (first|(with_reducible first|exact HI1.out|apply zT.alloc|apply zT.drewN|apply zT.drew|apply zT.set_0|apply zT.set_1)|exact HI1.out))):gb166≠g));clear HI1 HK HB;have HI1:=n0_;have HK:=n1_;have HB:=n2_;have BK166:=n3_;have GW166:=n4_;have GE166:=n5_;have NB1_166:=n6_;have NB166_1:=n7_;clear n0_ n1_ n2_ n3_ n4_ n5_ n6_ n7_ hb hbox hg;obtain ⟨ASz5_2,cSz5_2,ASz5_3,cSz5_3,HGz5,hgz5,⟨HSz5_2,HTz5_2⟩,⟨HSz5_3,HTz5_3⟩⟩:=HI1.out;have hcz5_0:=ZM HGz5;have hcz5_1:=ZN HGz5;have hcz5_2:=ZO HGz5;have hcz5_3:=ZP HGz5;have hfz5_0:=zB HGz5 0;have hfz5_1:=zB HGz5 1;clear HGz5 hgz5;have hnb6:=NB166_1.out;have hnc6:=NB1_166.out;have hcz7_0:=Qn BK166 0 rfl;have hcz7_1:=Qn BK166 1 rfl;have hfz7_0:=zB BK166.out 0;have hfz7_1:=zB BK166.out 1)|((with_reducible refine zm (f:=93) rfl ?_);refine yJ (some 6) rfl rfl Tryz.func93 (by kernel_rfl) rfl #[.agg #[.int .i64 s1_0, .int .i64 s1_1,(.slice ASz5_2 s1_2.length cSz5_2),(.slice ASz5_3 s1_3.length cSz5_3)], .agg #[.bool a0_0, .int .i64 a0_1]] rfl QZ ?_;(with_reducible refine (YR.calls s1_0 s1_1 _ _ s1_2 _ _ s1_3 a0_0 a0_1 t167 _ ?side1 ?side2 ?side3 ?side4 A3.out).mono ?_);(case side1=>exact Kd.C_below HSz5_2 QF);(case side2=>exact HTz5_2);(case side3=>exact Kd.C_below HSz5_3 QF);(case side4=>exact HTz5_3);rintro e w8 ⟨rfl,hb⟩;refine ⟨_,rfl,?_⟩;have n0_:=zA.mk (zT.below (by repeat (first|(with_reducible first|exact HI1.out|apply zT.alloc|apply zT.drewN|apply zT.drew|apply zT.set_0|apply zT.set_1|refine zT.far ?_ NB1_166.out _)|exact HI1.out)) hb);have n2_:=zA.mk (zk.trans (by repeat (first|(with_reducible first|exact HK.out|apply zk.set_|apply ya|apply yj|apply yb|refine qC ?_ GW166.out _)|exact HK.out)) (zk.of_below hb g none) (.inl rfl));have n3_:=zA.mk (zD QF hb);clear HI1 HK HB;have HI1:=n0_;have HK:=n2_;have HB:=n3_;clear n0_ n2_ n3_;(try clear hb);(try clear hb2);(try clear hk);(try clear hi)))
 go_ret
 exact ⟨by first|rfl|(simp [zb,zc] <;> rfl)|(simp [*,zb,zc] <;> rfl),by repeat (first|(with_reducible first|exact HI1.out|apply zT.alloc|apply zT.drewN|apply zT.drew|apply zT.set_0|apply zT.set_1|refine zT.far ?_ NB1_166.out _)|exact HI1.out),by repeat (first|(with_reducible first|exact HB.out|apply zG|apply zC|apply zI|refine zK ?_ (zT.ge HI1.out)|refine zK ?_ GE166.out)|exact HB.out),by repeat (first|(with_reducible first|exact HK.out|apply zk.set_|apply ya|apply yj|apply yb|refine qC ?_ GW166.out _)|exact HK.out)⟩
end Go.Proofs.YtpfeebmfihgelaaGreat.HGuessWhole
