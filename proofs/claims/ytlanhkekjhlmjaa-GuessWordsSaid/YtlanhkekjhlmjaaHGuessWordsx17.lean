-- Written by plus.py for this claim.
import Derived.Test.YtlanhkekjhlmjaaSGuessWordsVZip
import Derived.Test.YtlanhkekjhlmjaaHGuessWordsx0
import Derived.Test.YtlanhkekjhlmjaaHGuessWordsx16
namespace Go.Proofs.Ytlanhkekjhlmjaa.HGuessWords
open Go.RowKit Go.Proofs.YtlanhkekjhlmjaaW.PrintWords Go.Proofs.YtlanhkekjhlmjaaW.PrintLast Go.Proofs.YtlanhkekjhlmjaaW.PrintMore
attribute [local go_sem] yq yr ZM ZN yj yk yt yu   -- for this text's walks alone
set_option linter.unusedVariables false
set_option linter.unusedSimpArgs false
mutual
def zL.l0:Nat→List (S51)→Int→List (List ByteArray)→List ByteArray→Int→Option (List ByteArray × Bool)
 | 0,_,_,_,_,_=>none
 | k + 1,x0,x1,x2,x8,x9=>if x9 < (x0.length:Int) then (if 0≤x9 then (if (zi x0 x9).f0=true then (zL.l1 k x0 x1 x2 x8 x9 (([strOfNums (([((zi x0 x9).f1) % 256]:List Int))]:List ByteArray)) (([]:List ByteArray)) 0) else (if 0≤((zi x0 x9).f1) then (if ((zi x0 x9).f1) < (x2.length:Int) then (zL.l1 k x0 x1 x2 x8 x9 (zh x2 ((zi x0 x9).f1)) (([]:List ByteArray)) 0) else (none)) else (none))) else (none)) else (some (x8,true))
def zL.l1:Nat→List (S51)→Int→List (List ByteArray)→List ByteArray→Int→List ByteArray→List ByteArray→Int→Option (List ByteArray × Bool)
 | 0,_,_,_,_,_,_,_,_=>none
 | k + 1,x0,x1,x2,x8,x9,x10,x11,x12=>if x12 < (x8.length:Int) then (zL.l2 k x0 x1 x2 x8 x9 x10 x11 x12 0) else (if (x11.length:Int) > 10000 then (some (([]:List ByteArray),false)) else (zL.l0 k x0 x1 x2 x11 (wrap64 (x9 + 1))))
def zL.l2:Nat→List (S51)→Int→List (List ByteArray)→List ByteArray→Int→List ByteArray→List ByteArray→Int→Int→Option (List ByteArray × Bool)
 | 0,_,_,_,_,_,_,_,_,_=>none
 | k + 1,x0,x1,x2,x8,x9,x10,x11,x12,x13=>if x13 < (x10.length:Int) then (if 0≤x12 then (if x12 < (x8.length:Int) then (if 0≤x13 then (if (wrap64 (((rdOf ByteArray.empty x8 x12).size:Int) + ((rdOf ByteArray.empty x10 x13).size:Int)))≤x1 then (if (rdOf ByteArray.empty x8 x12).size + (rdOf ByteArray.empty x10 x13).size≤9223372036854775807 then ((zX.f k x11 ((rdOf ByteArray.empty x8 x12) ++ (rdOf ByteArray.empty x10 x13))).bind fun t271=>(zL.l2 k x0 x1 x2 x8 x9 x10 t271 x12 (wrap64 (x13 + 1)))) else (none)) else (zL.l2 k x0 x1 x2 x8 x9 x10 x11 x12 (wrap64 (x13 + 1)))) else (none)) else (none)) else (none)) else (zL.l1 k x0 x1 x2 x8 x9 x10 x11 (wrap64 (x12 + 1)))
end
def zL.f (k:Nat) (l0:List (S51)) (a1:Int) (l2:List (List ByteArray)):Option (List ByteArray × Bool):=zL.l0 k l0 a1 l2 (([(⟨#[]⟩:ByteArray)]:List ByteArray)) 0
theorem zL.mono_l:∀k,(∀y0 y1 y2 y3 y4,LeO (zL.l0 k y0 y1 y2 y3 y4) (zL.l0 (k + 1) y0 y1 y2 y3 y4))∧(∀y0 y1 y2 y3 y4 y5 y6 y7,LeO (zL.l1 k y0 y1 y2 y3 y4 y5 y6 y7) (zL.l1 (k + 1) y0 y1 y2 y3 y4 y5 y6 y7))∧(∀y0 y1 y2 y3 y4 y5 y6 y7 y8,LeO (zL.l2 k y0 y1 y2 y3 y4 y5 y6 y7 y8) (zL.l2 (k + 1) y0 y1 y2 y3 y4 y5 y6 y7 y8))
 | 0=>⟨fun _ _ _ _ _ r h=>by simp [zL.l0] at h,fun _ _ _ _ _ _ _ _ r h=>by simp [zL.l1] at h,fun _ _ _ _ _ _ _ _ _ r h=>by simp [zL.l2] at h⟩
 | k + 1=>by
  obtain ⟨ih0,ih1,ih2⟩:=zL.mono_l k;refine ⟨?_,?_,?_⟩
  ·intro y0 y1 y2 y3 y4
   unfold zL.l0
   repeat' first
   | with_reducible first|exact ih0 _ _ _ _ _|exact ih1 _ _ _ _ _ _ _ _|exact ih2 _ _ _ _ _ _ _ _ _|exact zX.mono _ _ _|exact LeO.refl _|exact LeO.none _|refine LeO.ite ?_ ?_|refine LeO.bind ?_ (fun _=> ?_)
   | exact ih0 _ _ _ _ _|exact ih1 _ _ _ _ _ _ _ _|exact ih2 _ _ _ _ _ _ _ _ _|exact zX.mono _ _ _|exact LeO.none _|refine LeO.ite ?_ ?_|refine LeO.bind ?_ (fun _=> ?_)
  ·intro y0 y1 y2 y3 y4 y5 y6 y7
   unfold zL.l1
   repeat' first
   | with_reducible first|exact ih0 _ _ _ _ _|exact ih1 _ _ _ _ _ _ _ _|exact ih2 _ _ _ _ _ _ _ _ _|exact zX.mono _ _ _|exact LeO.refl _|exact LeO.none _|refine LeO.ite ?_ ?_|refine LeO.bind ?_ (fun _=> ?_)
   | exact ih0 _ _ _ _ _|exact ih1 _ _ _ _ _ _ _ _|exact ih2 _ _ _ _ _ _ _ _ _|exact zX.mono _ _ _|exact LeO.none _|refine LeO.ite ?_ ?_|refine LeO.bind ?_ (fun _=> ?_)
  ·intro y0 y1 y2 y3 y4 y5 y6 y7 y8
   unfold zL.l2
   repeat' first
   | with_reducible first|exact ih0 _ _ _ _ _|exact ih1 _ _ _ _ _ _ _ _|exact ih2 _ _ _ _ _ _ _ _ _|exact zX.mono _ _ _|exact LeO.refl _|exact LeO.none _|refine LeO.ite ?_ ?_|refine LeO.bind ?_ (fun _=> ?_)
   | exact ih0 _ _ _ _ _|exact ih1 _ _ _ _ _ _ _ _|exact ih2 _ _ _ _ _ _ _ _ _|exact zX.mono _ _ _|exact LeO.none _|refine LeO.ite ?_ ?_|refine LeO.bind ?_ (fun _=> ?_)
theorem zL.mono:∀a0 a1 a2 k,LeO (zL.f k a0 a1 a2) (zL.f (k + 1) a0 a1 a2):=by
 intro a0 a1 a2 k;obtain ⟨ih0,ih1,ih2⟩:=zL.mono_l k
 unfold zL.f
 repeat' first
   | with_reducible first|exact ih0 _ _ _ _ _|exact ih1 _ _ _ _ _ _ _ _|exact ih2 _ _ _ _ _ _ _ _ _|exact zX.mono _ _ _|exact LeO.refl _|exact LeO.none _|refine LeO.ite ?_ ?_|refine LeO.bind ?_ (fun _=> ?_)
   | exact ih0 _ _ _ _ _|exact ih1 _ _ _ _ _ _ _ _|exact ih2 _ _ _ _ _ _ _ _ _|exact zX.mono _ _ _|exact LeO.none _|refine LeO.ite ?_ ?_|refine LeO.bind ?_ (fun _=> ?_)
set_option maxHeartbeats 8000000 in
set_option maxRecDepth 100000 in
theorem zL.calls (k:Nat) (A0:Option Addr) (c0:Nat) (l0:List S51) (a1:Int) (A2:Option Addr) (c2:Nat) (l2:List (List ByteArray)) (r1:List ByteArray) (r2:Bool) (w:World) (hr0:Kd.C k51 w A0 l0.length l0) (hc0:l0.length≤c0) (hr2:Kd.C (Kd.slice 9 Kd.string) w A2 l2.length l2) (hc2:l2.length≤c2) (h:zL.f k l0 a1 l2=some (r1,r2)) :
  Calls Try.prog 25 #[.slice A0 l0.length c0, .int .i64 a1, .slice A2 l2.length c2] w fun e w'=>∃v0_:Value,e= .returned (.tuple #[v0_, .bool r2])∧Kd.R Kd.string 9 w' w.heap.size (fun _=>True) v0_ r1∧Below w.heap.size w w':=by
 have HL:=zA.mk hr0;have HS:=zA.mk hr2;have HC2:=zA.mk hc2;have hu39:=Try.underlying51;clear hr0 hc0 hr2 hc2;have HB:=zA.mk (Below.refl w.heap.size w);have H':=zA.mk (show zL.l0 k l0 a1 l2 [(⟨#[]⟩:ByteArray)] 0=some (r1,r2) from h);clear h
 go_enter Try.func25,Try.ntmps25
 go_wp2_with (first|((with_reducible refine yB (N:=14) rfl ?_);refine Kd.R_lit Kd.string _ 9 ?hg (N:=14) ?hd (xs:=([(⟨#[]⟩:ByteArray)]:List ByteArray)) (inner:= [.string (⟨#[]⟩:ByteArray)]) (ok:=fun _=>True) (okp:=fun _=>True) ?hr ?hp (fun _ hk=>hk) trivial (Below.refl _ _) (Nat.le_refl _) (by simp) ?_;(case hd=>rfl);(case hg=>rfl);(case hr=>exact Qm);(case hp=>exact (Reps.one (show Kd.M Kd.string _ _ _ (⟨#[]⟩:ByteArray) [.string (⟨#[]⟩:ByteArray)] from rfl) (Reps.none _ _)));intro v254 w4 ho5 hb hg_ hnew_;clear hg_ hnew_;have HO:=zA.mk ho5;have HB1:=zA.mk hb;clear ho5 hb))
 go_loopg [8,9] k (fun kq v8 v9 wr=>∃(x8:List ByteArray) (x9:Int),v9= .int .i64 x9∧zA (zL.l0 kq l0 a1 l2 x8 x9=some (r1,r2))∧zA (Kd.R Kd.string 9 wr w.heap.size (fun _=>True) v8 x8)∧zA (Below w.heap.size w wr))
 case atStart=>exact ⟨_,0,rfl,H',HO,HB1⟩
 case round=>
  clear HO HB1 HB H';obtain ⟨x8,x9,rfl,HA,HO,HB⟩:=hrel;cases gk with
  | zero=>exact absurd HA.out (by simp [zL.l0])
  | succ k1=>
   have H:=HA.out;clear HA;simp only [zL.l0] at H
   by_cases c6:x9 < (l0.length:Int)
   ·rw [if_pos c6] at H
    by_cases c7:0≤x9
    ·rw [if_pos c7] at H
     have c6b0:=decide_eq_true c6;have c7b0:=decide_eq_true c7;obtain ⟨ad,e1,hx0,hx1⟩:=ZF HL.out x9 c7 c6;cases e1;replace hx0:=(HB.out.cell (ZzA w _ hx0)).trans hx0;replace hx1:=(HB.out.cell (ZzA w _ hx1)).trans hx1
     generalize hs:zi l0 x9=s at H hx0 hx1
     have p1:=eq_true c7;have q1:=eq_true c6;clear c6 c7 hs;obtain ⟨y,hy⟩:∃y,y= [s.f1 % 256]:=⟨_,rfl⟩;rw [←hy] at H;have HY:=zA.mk hy;clear hy
     have key:∃xx,zL.l1 k1 l0 a1 l2 x8 x9 xx [] 0=some (r1,r2)∧(s.f0=true→xx= [strOfNums y])∧(s.f0=false→(0≤s.f1∧s.f1 < (l2.length:Int))∧xx=zh l2 s.f1):=by
      cases hb0:s.f0
      ·rw [hb0,if_neg Bool.false_ne_true] at H
       by_cases c8:0≤s.f1
       ·rw [if_pos c8] at H
        by_cases c9:s.f1 < (l2.length:Int)
        ·rw [if_pos c9] at H
         exact ⟨_,H,fun h=>by (cases h),fun _=>⟨⟨c8,c9⟩,rfl⟩⟩
        ·rw [if_neg c9] at H;cases H
       ·rw [if_neg c8] at H;cases H
      ·rw [hb0,if_pos rfl] at H
       exact ⟨_,H,fun _=>rfl,fun h=>by (cases h)⟩
     obtain ⟨xx,hH,hx3,hx4⟩:=key;have H':=zA.mk hH;clear H hH;obtain ⟨Ao,co,eo⟩:=Kd.R_slice HO.out;subst eo;cases hb0:s.f0
     ·rw [hb0] at hx0
      obtain ⟨⟨c8,c9⟩,hxx⟩:=hx4 hb0;obtain ⟨ad2,Ax,cx,e2,hy0,hyl,hyr⟩:=ZV HS.out s.f1 c8 c9;cases e2;replace hy0:=(HB.out.cell (ZzA w _ hy0)).trans hy0;rw [←hxx] at hy0 hyr hyl;have p2:=eq_true c8;have q2:=eq_true c9;have HXR:=zA.mk hyr;have HXL:=zA.mk hyl;clear c8 c9 hyr hyl hx3 hx4 hxx
      go_wp2_with (first|((with_reducible refine yB (N:=27) rfl ?_);refine Kd.R_lit (Kd.int .u8) _ 5 ?hg (N:=27) ?hd (xs:=([s.f1 % 256]:List Int)) (inner:= [.int .u8 (s.f1 % 256)]) (ok:=fun _=>True) (okp:=fun _=>True) ?hr ?hp (fun _ hk=>hk) trivial (Below.refl _ _) (Nat.le_refl _) (by simp) ?_;(case hd=>rfl);(case hg=>rfl);(case hr=>exact Qm);(case hp=>exact (Reps.one (show Kd.M (Kd.int .u8) _ _ _ (s.f1 % 256) [.int .u8 (s.f1 % 256)] from rfl) (Reps.none _ _)));intro v258 w10 ho11 hb hg_ hnew_;clear hg_ hnew_;rw [←HY.out] at ho11;have HB27:=zA.mk hb;have hcv:=Zf (P:=Try.prog) Try.underlying76 Try.underlying5 Try.underlying9 (Kd.own_of_R ho11);replace hx0:=(hb.cell (ZzA _ _ hx0)).trans hx0;replace hx1:=(hb.cell (ZzA _ _ hx1)).trans hx1;replace hy0:=(hb.cell (ZzA _ _ hy0)).trans hy0;clear hb)|((with_reducible refine yB (N:=29) rfl ?_);refine Kd.R_lit Kd.string _ 9 ?hg (N:=29) ?hd (xs:=([strOfNums y]:List ByteArray)) (inner:= [.string (strOfNums y)]) (ok:=fun _=>True) (okp:=fun _=>True) ?hr ?hp (fun _ hk=>hk) trivial (Below.refl _ _) (Nat.le_refl _) (by simp) ?_;(case hd=>rfl);(case hg=>rfl);(case hr=>exact Qm);(case hp=>exact (Reps.one (show Kd.M Kd.string _ _ _ (strOfNums y) [.string (strOfNums y)] from rfl) (Reps.none _ _)));intro v261 w13 ho14 hb hg_ hnew_;clear hg_ hnew_;have HB29:=zA.mk (zH HB27.out hb);replace hx0:=(hb.cell (ZzA _ _ hx0)).trans hx0;replace hx1:=(hb.cell (ZzA _ _ hx1)).trans hx1;replace hy0:=(hb.cell (ZzA _ _ hy0)).trans hy0;clear hb ho14)|((with_reducible refine yB (N:=44) rfl ?_);refine Kd.R_lit Kd.string _ 9 ?hg (N:=44) ?hd (xs:=([]:List ByteArray)) (inner:= []) (ok:=fun _=>True) (okp:=fun _=>True) ?hr ?hp (fun _ hk=>hk) trivial (Below.refl _ _) (Nat.le_refl _) (by simp) ?_;(case hd=>rfl);(case hg=>rfl);(case hr=>exact Qm);(case hp=>exact (Reps.none _ _));intro v265 w15 ho16 hb hg_ hnew_;clear hg_ hnew_;have HB44:=zA.mk (zH HB29.out hb);have HN:=zA.mk (Kd.R_lower ho16 (Nat.le_trans HB.out.size HB29.out.size));have HX:=zA.mk (Kd.C_below HXR.out (zH HB.out HB44.out));replace hx0:=(hb.cell (ZzA _ _ hx0)).trans hx0;replace hx1:=(hb.cell (ZzA _ _ hx1)).trans hx1;replace hy0:=(hb.cell (ZzA _ _ hy0)).trans hy0;clear hb ho16))
      clear hx0 hx1 hy0 p2 q2 hcv HB27 HB29 HXR
      go_loopg [11,12] k1 (fun kq v11 v12 wr2=>∃(x11:List ByteArray) (x12:Int),v12= .int .i64 x12∧zA (zL.l1 kq l0 a1 l2 x8 x9 xx x11 x12=some (r1,r2))∧zA (kq≤k1)∧zA (Kd.R Kd.string 9 wr2 w.heap.size (fun _=>True) v11 x11)∧zA (Below w15.heap.size w15 wr2))
      case atStart=>exact ⟨[],0,rfl,H',⟨Nat.le_refl _⟩,HN,⟨Below.refl _ _⟩⟩
      case round=>
       clear HN H';obtain ⟨x11,x12,rfl,HA,HK2,HN,HBi⟩:=hrel;cases gk with
       | zero=>exact absurd HA.out (by simp [zL.l1])
       | succ k2=>
        have H:=HA.out;clear HA;simp only [zL.l1] at H
        by_cases c17:x12 < (x8.length:Int)
        ·rw [if_pos c17] at H
         have c17b0:=decide_eq_true c17;have H':=zA.mk H;clear H c17
         go_wp2
         clear c17b0
         go_loopg [11,13] k2 (fun kq v11 v13 wr3=>∃(x11:List ByteArray) (x13:Int),v13= .int .i64 x13∧zA (zL.l2 kq l0 a1 l2 x8 x9 xx x11 x12 x13=some (r1,r2))∧zA (kq≤k2)∧zA (Kd.R Kd.string 9 wr3 w.heap.size (fun _=>True) v11 x11)∧zA (Below w15.heap.size w15 wr3))
         case atStart=>exact ⟨_,0,rfl,H',⟨Nat.le_refl _⟩,HN,HBi⟩
         case round=>
          clear HN H' HBi;obtain ⟨x11,x13,rfl,HA,HK3,HN,HBi⟩:=hrel;cases gk with
          | zero=>exact absurd HA.out (by simp [zL.l2])
          | succ k3=>
           have H:=HA.out;clear HA;simp only [zL.l2] at H
           by_cases c19:x13 < (xx.length:Int)
           ·rw [if_pos c19] at H
            have c19b0:=decide_eq_true c19
            have key:(0≤x12∧x12 < (x8.length:Int))∧0≤x13:=by
             by_cases c20:0≤x12
             ·rw [if_pos c20] at H
              by_cases c21:x12 < (x8.length:Int)
              ·rw [if_pos c21] at H
               by_cases c22:0≤x13
               ·exact ⟨⟨c20,c21⟩,c22⟩
               ·rw [if_neg c22] at H;cases H
              ·rw [if_neg c21] at H;cases H
             ·rw [if_neg c20] at H;cases H
            obtain ⟨⟨c20,c21⟩,c22⟩:=key;rw [if_pos c20,if_pos c21,if_pos c22] at H;obtain ⟨ad267,e267,ho0⟩:=Kd.at_string (Kd.R_reads' (Kd.R_below HO.out (zH HB44.out HBi.out))).2.2 x12 c20 c21;cases e267;obtain ⟨ad268,e268,hx0⟩:=Kd.at_string (Kd.C_below HX.out HBi.out) x13 c22 c19;cases e268;have p3:=eq_true c20;have q3:=eq_true c21;have p4:=eq_true c22;have q4:=eq_true c19;clear c20 c21 c22 c19
            by_cases c23:(wrap64 (((rdOf ByteArray.empty x8 x12).size:Int) + ((rdOf ByteArray.empty xx x13).size:Int)))≤a1
            ·rw [if_pos c23] at H
             have c23b0:=decide_eq_true c23
             by_cases c24:(rdOf ByteArray.empty x8 x12).size + (rdOf ByteArray.empty xx x13).size≤9223372036854775807
             ·rw [if_pos c24] at H
              have c23b0w:decide ((((rdOf ByteArray.empty x8 x12).size:Int) + ((rdOf ByteArray.empty xx x13).size:Int))≤a1)=true:=by have h_:=c23b0;rw [show wrap64 (((rdOf ByteArray.empty x8 x12).size:Int) + ((rdOf ByteArray.empty xx x13).size:Int))=(((rdOf ByteArray.empty x8 x12).size:Int) + ((rdOf ByteArray.empty xx x13).size:Int)) from by unfold wrap64;omega] at h_;exact h_
              have c24b0:=eq_true c24;have c24b1:=decide_eq_true c24;have c24b2:(9223372036854775807 < (rdOf ByteArray.empty x8 x12).size + (rdOf ByteArray.empty xx x13).size)=False:=eq_false (Nat.not_lt.2 c24);obtain ⟨t,ht,H⟩:=ZzB H;have HT:=zA.mk ht;have H':=zA.mk H;clear H ht c23 c24;obtain ⟨An,cn,en⟩:=Kd.R_slice HN.out;subst en
              go_wp2
              go_quiet (fail)
              go_wp2
              refine Plus.hide_world fun W10 hW10=> ?_
              have hb10:Below wr.heap.size wr W10:=by rw [←hW10.out];repeat (first|exact Below.refl _ _|apply zC|apply zF)
              replace ho0:=(hb10.cell (ZzA _ _ ho0)).trans ho0;replace hx0:=(hb10.cell (ZzA _ _ hx0)).trans hx0;have HN10:=zA.mk (Kd.R_below HN.out hb10);have HB10:=zA.mk (zH HBi.out hb10);clear hb10 hW10 c23b0 c23b0w
              go_still_tail 10,(by kernel_rfl)
              go_wp2_with fail
              refine (zX.calls k3 An cn x11 (rdOf ByteArray.empty x8 x12 ++ rdOf ByteArray.empty xx x13) t W10.drew (Kd.C_drew (Kd.R_reads' HN10.out).2.2) (Kd.R_reads' HN10.out).2.1 HT.out).mono ?_;rintro e w8 ⟨v8,rfl,ho8,hb8⟩;have HB8:=zA.mk (zH (zF HB10.out) hb8);have HN8:=zA.mk (zX.own ho8 (Kd.R_below (Kd.R_drew HN10.out) hb8) (Nat.le_trans HB.out.size (Nat.le_trans HB44.out.size (zF HB10.out).size)));clear ho8 hb8 ho0 hx0 p3 q3 p4 q4 c24b0 c24b1 c24b2
              go_wp2
              go_roundg k3
              case measure=>have:=HK2.out;have:=HK3.out;omega
              case rel=>exact ⟨_,_,rfl,H',⟨by have:=HK3.out;omega⟩,HN8,HB8⟩
             ·rw [if_neg c24] at H;cases H
            ·rw [if_neg c23] at H
             have c23b0:=decide_eq_false c23;have H':=zA.mk H;clear H c23
             go_wp2
             go_quiet (fail)
             go_wp2
             go_roundg k3
             case measure=>have:=HK2.out;have:=HK3.out;omega
             case rel=>exact ⟨_,_,rfl,H',⟨by have:=HK3.out;omega⟩,⟨by (with_reducible repeat (first|apply Kd.R_drewN|apply Kd.R_drew));exact HN.out⟩,⟨by repeat (first|exact HBi.out|apply zC|apply zF)⟩⟩
           ·rw [if_neg c19] at H
            have c19b0:=decide_eq_false c19;have H':=zA.mk H;clear H c19
            go_wp2
            go_roundg k3
            case measure=>have:=HK2.out;have:=HK3.out;omega
            case rel=>exact ⟨_,_,rfl,H',⟨by have:=HK2.out;have:=HK3.out;omega⟩,HN,HBi⟩
        ·rw [if_neg c17] at H
         have c17b0:=decide_eq_false c17;obtain ⟨An,cn,en⟩:=Kd.R_slice HN.out;subst en
         by_cases c18:(x11.length:Int) > 10000
         ·rw [if_pos c18] at H
          obtain ⟨rfl,rfl⟩:=Prod.mk.inj (Option.some.inj H);have c18b0:=decide_eq_true c18;clear H c17 c18
          go_wp2
          go_ret2
          exact ⟨_,rfl,Kd.R_nil _ _ _ _ _,zH HB.out (zH HB44.out HBi.out)⟩
         ·rw [if_neg c18] at H
          have c18b0:=decide_eq_false c18;have H':=zA.mk H;clear H c17 c18
          go_wp2
          go_roundg k2
          case measure=>have:=HK2.out;omega
          case rel=>exact ⟨_,_,rfl,H',HN,⟨zH HB.out (zH HB44.out HBi.out)⟩⟩
     ·rw [hb0] at hx0
      have HXX:=zA.mk (hx3 hb0);clear hx3 hx4
      go_wp2_with (first|((with_reducible refine yB (N:=27) rfl ?_);refine Kd.R_lit (Kd.int .u8) _ 5 ?hg (N:=27) ?hd (xs:=([s.f1 % 256]:List Int)) (inner:= [.int .u8 (s.f1 % 256)]) (ok:=fun _=>True) (okp:=fun _=>True) ?hr ?hp (fun _ hk=>hk) trivial (Below.refl _ _) (Nat.le_refl _) (by simp) ?_;(case hd=>rfl);(case hg=>rfl);(case hr=>exact Qm);(case hp=>exact (Reps.one (show Kd.M (Kd.int .u8) _ _ _ (s.f1 % 256) [.int .u8 (s.f1 % 256)] from rfl) (Reps.none _ _)));intro v258 w10 ho11 hb hg_ hnew_;clear hg_ hnew_;rw [←HY.out] at ho11;have HB27:=zA.mk hb;have hcv:=Zf (P:=Try.prog) Try.underlying76 Try.underlying5 Try.underlying9 (Kd.own_of_R ho11);replace hx0:=(hb.cell (ZzA _ _ hx0)).trans hx0;replace hx1:=(hb.cell (ZzA _ _ hx1)).trans hx1;clear hb)|((with_reducible refine yB (N:=29) rfl ?_);refine Kd.R_lit Kd.string _ 9 ?hg (N:=29) ?hd (xs:=([strOfNums y]:List ByteArray)) (inner:= [.string (strOfNums y)]) (ok:=fun _=>True) (okp:=fun _=>True) ?hr ?hp (fun _ hk=>hk) trivial (Below.refl _ _) (Nat.le_refl _) (by simp) ?_;(case hd=>rfl);(case hg=>rfl);(case hr=>exact Qm);(case hp=>exact (Reps.one (show Kd.M Kd.string _ _ _ (strOfNums y) [.string (strOfNums y)] from rfl) (Reps.none _ _)));intro v261 w13 ho14 hb hg_ hnew_;clear hg_ hnew_;have HB29:=zA.mk (zH HB27.out hb);rw [←HXX.out] at ho14;obtain ⟨Ax,cx,ex⟩:=Kd.R_slice ho14;subst ex;have HX:=zA.mk (Kd.R_reads' ho14).2.2;have HXL:=zA.mk (Kd.R_reads' ho14).2.1;replace hx0:=(hb.cell (ZzA _ _ hx0)).trans hx0;replace hx1:=(hb.cell (ZzA _ _ hx1)).trans hx1;clear hb ho14)|((with_reducible refine yB (N:=44) rfl ?_);refine Kd.R_lit Kd.string _ 9 ?hg (N:=44) ?hd (xs:=([]:List ByteArray)) (inner:= []) (ok:=fun _=>True) (okp:=fun _=>True) ?hr ?hp (fun _ hk=>hk) trivial (Below.refl _ _) (Nat.le_refl _) (by simp) ?_;(case hd=>rfl);(case hg=>rfl);(case hr=>exact Qm);(case hp=>exact (Reps.none _ _));intro v265 w15 ho16 hb hg_ hnew_;clear hg_ hnew_;have HB44:=zA.mk (zH HB29.out hb);have HN:=zA.mk (Kd.R_lower ho16 (Nat.le_trans HB.out.size HB29.out.size));have HX2:=zA.mk (Kd.C_below HX.out hb);clear HX;have HX:=HX2;clear HX2;replace hx0:=(hb.cell (ZzA _ _ hx0)).trans hx0;replace hx1:=(hb.cell (ZzA _ _ hx1)).trans hx1;clear hb ho16))
      clear hx0 hx1 hcv HB27 HB29 HXX
      go_loopg [11,12] k1 (fun kq v11 v12 wr2=>∃(x11:List ByteArray) (x12:Int),v12= .int .i64 x12∧zA (zL.l1 kq l0 a1 l2 x8 x9 xx x11 x12=some (r1,r2))∧zA (kq≤k1)∧zA (Kd.R Kd.string 9 wr2 w.heap.size (fun _=>True) v11 x11)∧zA (Below w15.heap.size w15 wr2))
      case atStart=>exact ⟨[],0,rfl,H',⟨Nat.le_refl _⟩,HN,⟨Below.refl _ _⟩⟩
      case round=>
       clear HN H';obtain ⟨x11,x12,rfl,HA,HK2,HN,HBi⟩:=hrel;cases gk with
       | zero=>exact absurd HA.out (by simp [zL.l1])
       | succ k2=>
        have H:=HA.out;clear HA;simp only [zL.l1] at H
        by_cases c17:x12 < (x8.length:Int)
        ·rw [if_pos c17] at H
         have c17b0:=decide_eq_true c17;have H':=zA.mk H;clear H c17
         go_wp2
         clear c17b0
         go_loopg [11,13] k2 (fun kq v11 v13 wr3=>∃(x11:List ByteArray) (x13:Int),v13= .int .i64 x13∧zA (zL.l2 kq l0 a1 l2 x8 x9 xx x11 x12 x13=some (r1,r2))∧zA (kq≤k2)∧zA (Kd.R Kd.string 9 wr3 w.heap.size (fun _=>True) v11 x11)∧zA (Below w15.heap.size w15 wr3))
         case atStart=>exact ⟨_,0,rfl,H',⟨Nat.le_refl _⟩,HN,HBi⟩
         case round=>
          clear HN H' HBi;obtain ⟨x11,x13,rfl,HA,HK3,HN,HBi⟩:=hrel;cases gk with
          | zero=>exact absurd HA.out (by simp [zL.l2])
          | succ k3=>
           have H:=HA.out;clear HA;simp only [zL.l2] at H
           by_cases c19:x13 < (xx.length:Int)
           ·rw [if_pos c19] at H
            have c19b0:=decide_eq_true c19
            have key:(0≤x12∧x12 < (x8.length:Int))∧0≤x13:=by
             by_cases c20:0≤x12
             ·rw [if_pos c20] at H
              by_cases c21:x12 < (x8.length:Int)
              ·rw [if_pos c21] at H
               by_cases c22:0≤x13
               ·exact ⟨⟨c20,c21⟩,c22⟩
               ·rw [if_neg c22] at H;cases H
              ·rw [if_neg c21] at H;cases H
             ·rw [if_neg c20] at H;cases H
            obtain ⟨⟨c20,c21⟩,c22⟩:=key;rw [if_pos c20,if_pos c21,if_pos c22] at H;obtain ⟨ad267,e267,ho0⟩:=Kd.at_string (Kd.R_reads' (Kd.R_below HO.out (zH HB44.out HBi.out))).2.2 x12 c20 c21;cases e267;obtain ⟨ad268,e268,hx0⟩:=Kd.at_string (Kd.C_below HX.out HBi.out) x13 c22 c19;cases e268;have p3:=eq_true c20;have q3:=eq_true c21;have p4:=eq_true c22;have q4:=eq_true c19;clear c20 c21 c22 c19
            by_cases c23:(wrap64 (((rdOf ByteArray.empty x8 x12).size:Int) + ((rdOf ByteArray.empty xx x13).size:Int)))≤a1
            ·rw [if_pos c23] at H
             have c23b0:=decide_eq_true c23
             by_cases c24:(rdOf ByteArray.empty x8 x12).size + (rdOf ByteArray.empty xx x13).size≤9223372036854775807
             ·rw [if_pos c24] at H
              have c23b0w:decide ((((rdOf ByteArray.empty x8 x12).size:Int) + ((rdOf ByteArray.empty xx x13).size:Int))≤a1)=true:=by have h_:=c23b0;rw [show wrap64 (((rdOf ByteArray.empty x8 x12).size:Int) + ((rdOf ByteArray.empty xx x13).size:Int))=(((rdOf ByteArray.empty x8 x12).size:Int) + ((rdOf ByteArray.empty xx x13).size:Int)) from by unfold wrap64;omega] at h_;exact h_
              have c24b0:=eq_true c24;have c24b1:=decide_eq_true c24;have c24b2:(9223372036854775807 < (rdOf ByteArray.empty x8 x12).size + (rdOf ByteArray.empty xx x13).size)=False:=eq_false (Nat.not_lt.2 c24);obtain ⟨t,ht,H⟩:=ZzB H;have HT:=zA.mk ht;have H':=zA.mk H;clear H ht c23 c24;obtain ⟨An,cn,en⟩:=Kd.R_slice HN.out;subst en
              go_wp2
              go_quiet (fail)
              go_wp2
              refine Plus.hide_world fun W10 hW10=> ?_
              have hb10:Below wr.heap.size wr W10:=by rw [←hW10.out];repeat (first|exact Below.refl _ _|apply zC|apply zF)
              replace ho0:=(hb10.cell (ZzA _ _ ho0)).trans ho0;replace hx0:=(hb10.cell (ZzA _ _ hx0)).trans hx0;have HN10:=zA.mk (Kd.R_below HN.out hb10);have HB10:=zA.mk (zH HBi.out hb10);clear hb10 hW10 c23b0 c23b0w
              go_still_tail 10,(by kernel_rfl)
              go_wp2_with fail
              refine (zX.calls k3 An cn x11 (rdOf ByteArray.empty x8 x12 ++ rdOf ByteArray.empty xx x13) t W10.drew (Kd.C_drew (Kd.R_reads' HN10.out).2.2) (Kd.R_reads' HN10.out).2.1 HT.out).mono ?_;rintro e w8 ⟨v8,rfl,ho8,hb8⟩;have HB8:=zA.mk (zH (zF HB10.out) hb8);have HN8:=zA.mk (zX.own ho8 (Kd.R_below (Kd.R_drew HN10.out) hb8) (Nat.le_trans HB.out.size (Nat.le_trans HB44.out.size (zF HB10.out).size)));clear ho8 hb8 ho0 hx0 p3 q3 p4 q4 c24b0 c24b1 c24b2
              go_wp2
              go_roundg k3
              case measure=>have:=HK2.out;have:=HK3.out;omega
              case rel=>exact ⟨_,_,rfl,H',⟨by have:=HK3.out;omega⟩,HN8,HB8⟩
             ·rw [if_neg c24] at H;cases H
            ·rw [if_neg c23] at H
             have c23b0:=decide_eq_false c23;have H':=zA.mk H;clear H c23
             go_wp2
             go_quiet (fail)
             go_wp2
             go_roundg k3
             case measure=>have:=HK2.out;have:=HK3.out;omega
             case rel=>exact ⟨_,_,rfl,H',⟨by have:=HK3.out;omega⟩,⟨by (with_reducible repeat (first|apply Kd.R_drewN|apply Kd.R_drew));exact HN.out⟩,⟨by repeat (first|exact HBi.out|apply zC|apply zF)⟩⟩
           ·rw [if_neg c19] at H
            have c19b0:=decide_eq_false c19;have H':=zA.mk H;clear H c19
            go_wp2
            go_roundg k3
            case measure=>have:=HK2.out;have:=HK3.out;omega
            case rel=>exact ⟨_,_,rfl,H',⟨by have:=HK2.out;have:=HK3.out;omega⟩,HN,HBi⟩
        ·rw [if_neg c17] at H
         have c17b0:=decide_eq_false c17;obtain ⟨An,cn,en⟩:=Kd.R_slice HN.out;subst en
         by_cases c18:(x11.length:Int) > 10000
         ·rw [if_pos c18] at H
          obtain ⟨rfl,rfl⟩:=Prod.mk.inj (Option.some.inj H);have c18b0:=decide_eq_true c18;clear H c17 c18
          go_wp2
          go_ret2
          exact ⟨_,rfl,Kd.R_nil _ _ _ _ _,zH HB.out (zH HB44.out HBi.out)⟩
         ·rw [if_neg c18] at H
          have c18b0:=decide_eq_false c18;have H':=zA.mk H;clear H c17 c18
          go_wp2
          go_roundg k2
          case measure=>have:=HK2.out;omega
          case rel=>exact ⟨_,_,rfl,H',HN,⟨zH HB.out (zH HB44.out HBi.out)⟩⟩
    ·rw [if_neg c7] at H;cases H
   ·rw [if_neg c6] at H
    obtain ⟨rfl,rfl⟩:=Prod.mk.inj (Option.some.inj H);have c6b0:=decide_eq_false c6;obtain ⟨Ao,co,eo⟩:=Kd.R_slice HO.out;subst eo;clear H c6
    go_wp2
    go_ret2
    exact ⟨_,rfl,HO.out,HB.out⟩
def yC.l0:Nat→List ByteArray→List ByteArray→Int→Option (List ByteArray)
 | 0,_,_,_=>none
 | k + 1,x0,x3,x4=>if x4 < (x0.length:Int) then (if 0≤x4 then ((zX.f k x3 (rdOf ByteArray.empty x0 x4)).bind fun t390=>(yC.l0 k x0 t390 (wrap64 (x4 + 1)))) else (none)) else (some x3)
def yC.f (k:Nat) (l0:List ByteArray):Option (List ByteArray):=yC.l0 k l0 (([]:List ByteArray)) 0
theorem yC.mono_l:∀k,(∀y0 y1 y2,LeO (yC.l0 k y0 y1 y2) (yC.l0 (k + 1) y0 y1 y2))
 | 0=>fun _ _ _ r h=>by simp [yC.l0] at h
 | k + 1=>by
  have ih0:=yC.mono_l k
  ·intro y0 y1 y2
   unfold yC.l0
   repeat' first
   | with_reducible first|exact ih0 _ _ _|exact zX.mono _ _ _|exact LeO.refl _|exact LeO.none _|refine LeO.ite ?_ ?_|refine LeO.bind ?_ (fun _=> ?_)
   | exact ih0 _ _ _|exact zX.mono _ _ _|exact LeO.none _|refine LeO.ite ?_ ?_|refine LeO.bind ?_ (fun _=> ?_)
theorem yC.mono:∀a0 k,LeO (yC.f k a0) (yC.f (k + 1) a0):=by
 intro a0 k;have ih0:=yC.mono_l k
 unfold yC.f
 repeat' first
   | with_reducible first|exact ih0 _ _ _|exact zX.mono _ _ _|exact LeO.refl _|exact LeO.none _|refine LeO.ite ?_ ?_|refine LeO.bind ?_ (fun _=> ?_)
   | exact ih0 _ _ _|exact zX.mono _ _ _|exact LeO.none _|refine LeO.ite ?_ ?_|refine LeO.bind ?_ (fun _=> ?_)
set_option maxHeartbeats 8000000 in
set_option maxRecDepth 100000 in
theorem yC.calls (k:Nat) (A0:Option Addr) (c0:Nat) (l0:List ByteArray) (r:List ByteArray) (w:World) (hr0:Kd.C Kd.string w A0 l0.length l0) (hc0:l0.length≤c0) (h:yC.f k l0=some r) :
  Calls Try.prog 42 #[.slice A0 l0.length c0] w fun e w'=>∃v0_:Value,e= .returned (v0_)∧Kd.R Kd.string 9 w' w.heap.size (fun _=>True) v0_ r∧Below w.heap.size w w':=by
 have HR0:=zA.mk hr0;have HC0:=zA.mk hc0;clear hr0 hc0;have HB:=zA.mk (Below.refl w.heap.size w);have H:(yC.l0 k l0 (([]:List ByteArray)) 0)=some r:=h;clear h;obtain ⟨y386,hy386⟩:∃y_:List ByteArray,y_=(([]:List ByteArray)):=⟨_,rfl⟩;replace H:(yC.l0 k l0 y386 0)=some r:=Qb hy386 H;have Ny386:=zA.mk hy386;clear hy386;have H':=zA.mk H;clear H
 go_enter Try.func42,Try.ntmps42
 go_wp2_with (first|((with_reducible refine yB (N:=5) rfl ?_);refine Kd.R_lit Kd.string _ 9 ?hg (N:=5) ?hd (xs:=([]:List ByteArray)) (inner:= []) (ok:=fun _=>True) (okp:=fun _=>True) ?hr ?hp (fun _ hk=>hk) trivial (Below.refl _ _) (Nat.le_refl _) (by simp) ?_;(case hd=>rfl);(case hg=>rfl);(case hr=>exact Qm);(case hp=>exact (Reps.none _ _));intro v387 w2 ho3 hb hg_ hnew_;clear hg_ hnew_;(first|rw [←Ny386.out] at ho3|(simp only [Int.reduceToNat] at ho3;rw [←Ny386.out] at ho3));have n0_:=zA.mk (Kd.R_lower ho3 (zE Qc));have n1_:=zA.mk (zH Qc hb);clear HB;have HO388:=n0_;have HB:=n1_;clear n0_ n1_ hb ho3))
 go_loopg [3,4] k (fun kq v3 v4 w'=>∃(x3_1:List ByteArray) (x4_1:Int),v4= .int .i64 x4_1∧zA (yC.l0 kq l0 x3_1 x4_1=some r)∧zA (kq≤k)∧zA (Kd.R Kd.string 9 w' w.heap.size (fun _=>True) v3 x3_1)∧zA (Below w.heap.size w w'))
 case atStart=>exact ⟨(y386),(0),Zb,H',⟨Nat.le_refl _⟩,⟨Qh HO388⟩,⟨by repeat (first|(with_reducible first|exact HB.out|apply zG|apply zC|apply zF)|exact HB.out)⟩⟩
 case round=>
  clear H';(try clear p2);obtain ⟨x3_1,x4_1,rfl,HA,HK1,HO_3,HB⟩:=hrel;cases gk with
  | zero=>exact absurd HA.out (by simp [yC.l0])
  | succ k1=>
   have H:=HA.out;clear HA;simp only [yC.l0] at H
   by_cases c4:x4_1 < (l0.length:Int)
   ·rw [if_pos c4] at H
    have c4b0:=decide_eq_true c4;clear c4
    by_cases c5:0≤x4_1
    ·rw [if_pos c5] at H
     have c5b0:=decide_eq_true c5;clear c5;replace H:=ZzB H;obtain ⟨t390,A60,H⟩:=H;replace H:(yC.l0 k1 l0 t390 (wrap64 (x4_1 + 1)))=some r:=H;have A6:=zA.mk A60;clear A60;have H':=zA.mk H;clear H;have p389:0≤(x4_1:Int):=Qa;have q389:x4_1 < (l0.length:Int):=Qa;obtain ⟨ad389,e389,hx389_0⟩:=Kd.at_string HR0.out x4_1 p389 q389;cases e389;replace hx389_0:=(HB.out.cell (ZzA w _ hx389_0)).trans hx389_0;replace p389:=eq_true p389;replace q389:=eq_true q389;obtain ⟨Ao7,co7,eo7⟩:=Kd.R_slice HO_3.out;subst eo7
     go_wp2_with (first|((with_reducible refine zk (f:=39) rfl ?_);refine yQ (some 17) rfl rfl Try.func39 (by kernel_rfl) rfl #[.slice Ao7 x3_1.length co7, .string (rdOf ByteArray.empty l0 x4_1)] rfl QX ?_;(with_reducible refine (zX.calls k1 _ _ x3_1 (rdOf ByteArray.empty l0 x4_1) t390 _ ?side1 ?side2 A6.out).mono ?_);(case side1=>repeat (first|exact (Kd.R_reads' HO_3.out).2.2|(with_reducible refine Kd.C_alloc ?_ _)|(with_reducible refine Kd.C_drewN ?_ _)|(with_reducible refine Kd.C_drew ?_)));(case side2=>exact (Kd.R_reads' HO_3.out).2.1);rintro e w8 ⟨v391,rfl,ho0,hb⟩;refine ⟨_,rfl,?_⟩;have n1_:=zA.mk (zX.own ho0 (Kd.R_below (Qh HO_3) hb) (zE Qc));have n2_:=zA.mk (zH Qc hb);clear HB;have HO392:=n1_;have HB:=n2_;clear n1_ n2_;(try clear hb ho0)))
     go_roundg k1
     case measure=>have:=HK1.out;omega
     case rel=>exact ⟨(t390),(wrap64 (x4_1 + 1)),Zb,H',⟨by have:=HK1.out;omega⟩,⟨by (with_reducible repeat (first|apply Kd.R_alloc|apply Kd.R_drewN|apply Kd.R_drew));exact Kd.R_mono HO392.out (fun _ hk=>trivial)⟩,⟨by repeat (first|(with_reducible first|exact HB.out|apply zG|apply zC|apply zF)|exact HB.out)⟩⟩
    ·rw [if_neg c5] at H
     exact absurd H (by simp)
   ·rw [if_neg c4] at H
    have c4b0:=decide_eq_false c4;clear c4;obtain rfl:=Option.some.inj H
    go_wp2
    go_ret
    exact ⟨_,by first|rfl|(simp [zS,zT] <;> rfl)|(simp [*,zS,zT] <;> rfl),by (with_reducible repeat (first|apply Kd.R_alloc|apply Kd.R_drewN|apply Kd.R_drew));exact HO_3.out,by repeat (first|(with_reducible first|exact HB.out|apply zG|apply zC|apply zF)|exact HB.out)⟩
def zt.l0:Nat→List ByteArray→List ByteArray→Int→Option (List ByteArray)
 | 0,_,_,_=>none
 | k + 1,x1,x5,x6=>if x6 < (x1.length:Int) then (if 0≤x6 then ((zX.f k x5 (rdOf ByteArray.empty x1 x6)).bind fun t397=>(zt.l0 k x1 t397 (wrap64 (x6 + 1)))) else (none)) else (some x5)
def zt.f (k:Nat) (l0:List ByteArray) (l1:List ByteArray):Option (List ByteArray):=(yC.f k l0).bind fun t393=>(zt.l0 k l1 t393 0)
theorem zt.mono_l:∀k,(∀y0 y1 y2,LeO (zt.l0 k y0 y1 y2) (zt.l0 (k + 1) y0 y1 y2))
 | 0=>fun _ _ _ r h=>by simp [zt.l0] at h
 | k + 1=>by
  have ih0:=zt.mono_l k
  ·intro y0 y1 y2
   unfold zt.l0
   repeat' first
   | with_reducible first|exact ih0 _ _ _|exact yC.mono _ _|exact zX.mono _ _ _|exact LeO.refl _|exact LeO.none _|refine LeO.ite ?_ ?_|refine LeO.bind ?_ (fun _=> ?_)
   | exact ih0 _ _ _|exact yC.mono _ _|exact zX.mono _ _ _|exact LeO.none _|refine LeO.ite ?_ ?_|refine LeO.bind ?_ (fun _=> ?_)
theorem zt.mono:∀a0 a1 k,LeO (zt.f k a0 a1) (zt.f (k + 1) a0 a1):=by
 intro a0 a1 k;have ih0:=zt.mono_l k
 unfold zt.f
 repeat' first
   | with_reducible first|exact ih0 _ _ _|exact yC.mono _ _|exact zX.mono _ _ _|exact LeO.refl _|exact LeO.none _|refine LeO.ite ?_ ?_|refine LeO.bind ?_ (fun _=> ?_)
   | exact ih0 _ _ _|exact yC.mono _ _|exact zX.mono _ _ _|exact LeO.none _|refine LeO.ite ?_ ?_|refine LeO.bind ?_ (fun _=> ?_)
set_option maxHeartbeats 8000000 in
set_option maxRecDepth 100000 in
theorem zt.calls (k:Nat) (A0:Option Addr) (c0:Nat) (l0:List ByteArray) (A1:Option Addr) (c1:Nat) (l1:List ByteArray) (r:List ByteArray) (w:World) (hr0:Kd.C Kd.string w A0 l0.length l0) (hc0:l0.length≤c0) (hr1:Kd.C Kd.string w A1 l1.length l1) (hc1:l1.length≤c1) (h:zt.f k l0 l1=some r) :
  Calls Try.prog 26 #[.slice A0 l0.length c0, .slice A1 l1.length c1] w fun e w'=>∃v0_:Value,e= .returned (v0_)∧Kd.R Kd.string 9 w' w.heap.size (fun _=>True) v0_ r∧Below w.heap.size w w':=by
 have HR0:=zA.mk hr0;have HC0:=zA.mk hc0;clear hr0 hc0;have HR1:=zA.mk hr1;have HC1:=zA.mk hc1;clear hr1 hc1;have HB:=zA.mk (Below.refl w.heap.size w);have H:((yC.f k l0).bind fun t393=>(zt.l0 k l1 t393 0))=some r:=h;clear h;replace H:=ZzB H;obtain ⟨t393,A30,H⟩:=H;replace H:(zt.l0 k l1 t393 0)=some r:=H;have A3:=zA.mk A30;clear A30;have H':=zA.mk H;clear H
 go_enter Try.func26,Try.ntmps26
 go_wp2_with (first|((with_reducible refine zk (f:=42) rfl ?_);refine yQ (some 8) rfl rfl Try.func42 (by kernel_rfl) rfl #[.slice A0 l0.length c0] rfl QX ?_;(with_reducible refine (yC.calls k _ _ l0 t393 _ ?side1 ?side2 A3.out).mono ?_);(case side1=>exact Qo HR0.out);(case side2=>exact HC0.out);rintro e w4 ⟨v394,rfl,ho0,hb⟩;refine ⟨_,rfl,?_⟩;have n0_:=zA.mk (Kd.R_lower ho0 (zE Qc));have n1_:=zA.mk (zH Qc hb);clear HB;have HO395:=n0_;have HB:=n1_;clear n0_ n1_;(try clear hb ho0)))
 go_loopg [5,6] k (fun kq v5 v6 w'=>∃(x5_1:List ByteArray) (x6_1:Int),v6= .int .i64 x6_1∧zA (zt.l0 kq l1 x5_1 x6_1=some r)∧zA (kq≤k)∧zA (Kd.R Kd.string 9 w' w.heap.size (fun _=>True) v5 x5_1)∧zA (Below w.heap.size w w'))
 case atStart=>exact ⟨(t393),(0),Zb,H',⟨Nat.le_refl _⟩,⟨Qh HO395⟩,⟨by repeat (first|(with_reducible first|exact HB.out|apply zG|apply zC|apply zF)|exact HB.out)⟩⟩
 case round=>
  clear H';(try clear c1);(try clear c2);(try clear p2);(try clear c4);obtain ⟨x5_1,x6_1,rfl,HA,HK1,HO_5,HB⟩:=hrel;cases gk with
  | zero=>exact absurd HA.out (by simp [zt.l0])
  | succ k1=>
   have H:=HA.out;clear HA;simp only [zt.l0] at H
   by_cases c5:x6_1 < (l1.length:Int)
   ·rw [if_pos c5] at H
    have c5b0:=decide_eq_true c5;clear c5
    by_cases c6:0≤x6_1
    ·rw [if_pos c6] at H
     have c6b0:=decide_eq_true c6;clear c6;replace H:=ZzB H;obtain ⟨t397,A70,H⟩:=H;replace H:(zt.l0 k1 l1 t397 (wrap64 (x6_1 + 1)))=some r:=H;have A7:=zA.mk A70;clear A70;have H':=zA.mk H;clear H;have p396:0≤(x6_1:Int):=Qa;have q396:x6_1 < (l1.length:Int):=Qa;obtain ⟨ad396,e396,hx396_0⟩:=Kd.at_string HR1.out x6_1 p396 q396;cases e396;replace hx396_0:=(HB.out.cell (ZzA w _ hx396_0)).trans hx396_0;replace p396:=eq_true p396;replace q396:=eq_true q396;obtain ⟨Ao8,co8,eo8⟩:=Kd.R_slice HO_5.out;subst eo8
     go_wp2_with (first|((with_reducible refine zk (f:=39) rfl ?_);refine yQ (some 20) rfl rfl Try.func39 (by kernel_rfl) rfl #[.slice Ao8 x5_1.length co8, .string (rdOf ByteArray.empty l1 x6_1)] rfl QX ?_;(with_reducible refine (zX.calls k1 _ _ x5_1 (rdOf ByteArray.empty l1 x6_1) t397 _ ?side1 ?side2 A7.out).mono ?_);(case side1=>repeat (first|exact (Kd.R_reads' HO_5.out).2.2|(with_reducible refine Kd.C_alloc ?_ _)|(with_reducible refine Kd.C_drewN ?_ _)|(with_reducible refine Kd.C_drew ?_)));(case side2=>exact (Kd.R_reads' HO_5.out).2.1);rintro e w9 ⟨v398,rfl,ho0,hb⟩;refine ⟨_,rfl,?_⟩;have n1_:=zA.mk (zX.own ho0 (Kd.R_below (Qh HO_5) hb) (zE Qc));have n2_:=zA.mk (zH Qc hb);clear HB;have HO399:=n1_;have HB:=n2_;clear n1_ n2_;(try clear hb ho0)))
     go_roundg k1
     case measure=>have:=HK1.out;omega
     case rel=>exact ⟨(t397),(wrap64 (x6_1 + 1)),Zb,H',⟨by have:=HK1.out;omega⟩,⟨by (with_reducible repeat (first|apply Kd.R_alloc|apply Kd.R_drewN|apply Kd.R_drew));exact Kd.R_mono HO399.out (fun _ hk=>trivial)⟩,⟨by repeat (first|(with_reducible first|exact HB.out|apply zG|apply zC|apply zF)|exact HB.out)⟩⟩
    ·rw [if_neg c6] at H
     exact absurd H (by simp)
   ·rw [if_neg c5] at H
    have c5b0:=decide_eq_false c5;clear c5;obtain rfl:=Option.some.inj H
    go_wp2
    go_ret
    exact ⟨_,by first|rfl|(simp [zS,zT] <;> rfl)|(simp [*,zS,zT] <;> rfl),by (with_reducible repeat (first|apply Kd.R_alloc|apply Kd.R_drewN|apply Kd.R_drew));exact HO_5.out,by repeat (first|(with_reducible first|exact HB.out|apply zG|apply zC|apply zF)|exact HB.out)⟩
end Go.Proofs.Ytlanhkekjhlmjaa.HGuessWords
