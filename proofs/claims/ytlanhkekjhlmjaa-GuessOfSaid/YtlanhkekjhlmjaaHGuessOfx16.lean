-- Written by plus.py for this claim.
import Derived.Test.YtlanhkekjhlmjaaSGuessOfVZip
import Derived.Test.YtlanhkekjhlmjaaHGuessOfx0
import Derived.Test.YtlanhkekjhlmjaaHGuessOfx6
import Derived.Test.YtlanhkekjhlmjaaHGuessOfx14
import Derived.Test.YtlanhkekjhlmjaaHGuessOfx15
namespace Go.Proofs.Ytlanhkekjhlmjaa.HGuessOf
open Go.RowKit Go.Proofs.YtlanhkekjhlmjaaW.PrintWords Go.Proofs.YtlanhkekjhlmjaaW.PrintLast Go.Proofs.YtlanhkekjhlmjaaW.PrintMore
attribute [local go_sem] yq yr ZJ ZK ym yn yt yu   -- for this text's walks alone
set_option linter.unusedVariables false
set_option linter.unusedSimpArgs false
mutual
def zK.l0:Nat→List (List ByteArray)→List (List ByteArray)→Int→Int→Int→List Int→List (S45)→Option ((List (List ByteArray)) × Int)
 | 0,_,_,_,_,_,_,_=>none
 | k + 1,x4,x6,x7,wK,wk,wC,wl=>if x7 < (wC.length:Int) then (if x6.length < 5864062014805 then (zK.l0 k x4 (x6 ++ [([]:List ByteArray)]) (wrap64 (x7 + 1)) wK wk wC wl) else (none)) else (zK.l1 k x4 x6 (⟨#[]⟩:ByteArray) 0 wK wk wC wl)
def zK.l1:Nat→List (List ByteArray)→List (List ByteArray)→ByteArray→Int→Int→Int→List Int→List (S45)→Option ((List (List ByteArray)) × Int)
 | 0,_,_,_,_,_,_,_,_=>none
 | k + 1,x4,x6,x8,x9,wK,wk,wC,wl=>if x9 < wk then (if x8.size + 1≤9223372036854775807 then (zK.l1 k x4 x6 (x8 ++ (⟨#[0]⟩:ByteArray)) (wrap64 (x9 + 1)) wK wk wC wl) else (none)) else (if 0 < (x6.length:Int) then (zK.l2 k x4 (x6.set (0:Int).toNat (([x8]:List ByteArray))) true wK wk wC wl) else (none))
def zK.l2:Nat→List (List ByteArray)→List (List ByteArray)→Bool→Int→Int→List Int→List (S45)→Option ((List (List ByteArray)) × Int)
 | 0,_,_,_,_,_,_,_=>none
 | k + 1,x4,x6,x10,wK,wk,wC,wl=>if x10=true then (zK.l3 k x4 x6 false 0 wK wk wC wl) else (some (x6,0))
def zK.l3:Nat→List (List ByteArray)→List (List ByteArray)→Bool→Int→Int→Int→List Int→List (S45)→Option ((List (List ByteArray)) × Int)
 | 0,_,_,_,_,_,_,_,_=>none
 | k + 1,x4,x6,x10,x11,wK,wk,wC,wl=>if x11 < (wl.length:Int) then (if 0≤x11 then (zK.l4 k x4 x6 x10 x11 0 wK wk wC wl ((zF wl x11).f0) ((zF wl x11).f1)) else (none)) else (zK.l2 k x4 x6 x10 wK wk wC wl)
def zK.l4:Nat→List (List ByteArray)→List (List ByteArray)→Bool→Int→Int→Int→Int→List Int→List (S45)→Int→List (S51)→Option ((List (List ByteArray)) × Int)
 | 0,_,_,_,_,_,_,_,_,_,_,_=>none
 | k + 1,x4,x6,x10,x11,x13,wK,wk,wC,wl,x378000,Vl=>if x13 < (Vl.length:Int) then (if 0≤x13 then (if (zi Vl x13).f0=true then (zK.l4 k x4 x6 x10 x11 (wrap64 (x13 + 1)) wK wk wC wl x378000 Vl) else (if 0≤(wrap64 (x13 + 1)) then (if (wrap64 (x13 + 1))≤(Vl.length:Int) then ((zV.f k (Vl.drop ((wrap64 (x13 + 1)):Int).toNat) wk x4 600).bind fun bt383=>(if bt383.2=true then (if 0≤((zi Vl x13).f1) then (if ((zi Vl x13).f1) < (x6.length:Int) then (if 0≤x378000 then (if x378000 < (x6.length:Int) then ((zM.f k bt383.1 (zl x6 x378000) wk).bind fun t390=>((zj.f k (zl x6 ((zi Vl x13).f1)) t390).bind fun t393=>(if (t393.length:Int) > 600 then (some (([]:List (List ByteArray)),15)) else (if (t393.length:Int) > ((zl x6 ((zi Vl x13).f1)).length:Int) then (zK.l4 k x4 (x6.set (((zi Vl x13).f1):Int).toNat t393) true x11 (wrap64 (x13 + 1)) wK wk wC wl x378000 Vl) else (zK.l4 k x4 x6 x10 x11 (wrap64 (x13 + 1)) wK wk wC wl x378000 Vl))))) else (none)) else (none)) else (none)) else (none)) else (some (([]:List (List ByteArray)),15)))) else (none)) else (none))) else (none)) else (zK.l3 k x4 x6 x10 (wrap64 (x11 + 1)) wK wk wC wl)
end
def zK.f (k:Nat) (a0_0:Int) (a0_1:Int) (l0_2:List Int) (l0_3:List (S45)):Option ((List (List ByteArray)) × Int):=(yJ.f k a0_0 a0_1 l0_2 l0_3).bind fun bt362=>(if bt362.2=0 then (zK.l0 k bt362.1 (([]:List (List ByteArray))) 0 a0_0 a0_1 l0_2 l0_3) else (some (([]:List (List ByteArray)),bt362.2)))
theorem zK.mono_l:∀k,(∀y0 y1 y2 y3 y4 y5 y6,LeO (zK.l0 k y0 y1 y2 y3 y4 y5 y6) (zK.l0 (k + 1) y0 y1 y2 y3 y4 y5 y6))∧(∀y0 y1 y2 y3 y4 y5 y6 y7,LeO (zK.l1 k y0 y1 y2 y3 y4 y5 y6 y7) (zK.l1 (k + 1) y0 y1 y2 y3 y4 y5 y6 y7))∧(∀y0 y1 y2 y3 y4 y5 y6,LeO (zK.l2 k y0 y1 y2 y3 y4 y5 y6) (zK.l2 (k + 1) y0 y1 y2 y3 y4 y5 y6))∧(∀y0 y1 y2 y3 y4 y5 y6 y7,LeO (zK.l3 k y0 y1 y2 y3 y4 y5 y6 y7) (zK.l3 (k + 1) y0 y1 y2 y3 y4 y5 y6 y7))∧(∀y0 y1 y2 y3 y4 y5 y6 y7 y8 y9 y10,LeO (zK.l4 k y0 y1 y2 y3 y4 y5 y6 y7 y8 y9 y10) (zK.l4 (k + 1) y0 y1 y2 y3 y4 y5 y6 y7 y8 y9 y10))
 | 0=>⟨fun _ _ _ _ _ _ _ r h=>by simp [zK.l0] at h,fun _ _ _ _ _ _ _ _ r h=>by simp [zK.l1] at h,fun _ _ _ _ _ _ _ r h=>by simp [zK.l2] at h,fun _ _ _ _ _ _ _ _ r h=>by simp [zK.l3] at h,fun _ _ _ _ _ _ _ _ _ _ _ r h=>by simp [zK.l4] at h⟩
 | k + 1=>by
  obtain ⟨ih0,ih1,ih2,ih3,ih4⟩:=zK.mono_l k;refine ⟨?_,?_,?_,?_,?_⟩
  ·intro y0 y1 y2 y3 y4 y5 y6
   unfold zK.l0
   repeat' first
   | with_reducible first|exact ih0 _ _ _ _ _ _ _|exact ih1 _ _ _ _ _ _ _ _|exact ih2 _ _ _ _ _ _ _|exact ih3 _ _ _ _ _ _ _ _|exact ih4 _ _ _ _ _ _ _ _ _ _ _|exact zM.mono _ _ _ _|exact zj.mono _ _ _|exact yJ.mono _ _ _ _ _|exact zV.mono _ _ _ _ _|exact LeO.refl _|exact LeO.none _|refine LeO.ite ?_ ?_|refine LeO.bind ?_ (fun _=> ?_)
   | exact ih0 _ _ _ _ _ _ _|exact ih1 _ _ _ _ _ _ _ _|exact ih2 _ _ _ _ _ _ _|exact ih3 _ _ _ _ _ _ _ _|exact ih4 _ _ _ _ _ _ _ _ _ _ _|exact zM.mono _ _ _ _|exact zj.mono _ _ _|exact yJ.mono _ _ _ _ _|exact zV.mono _ _ _ _ _|exact LeO.none _|refine LeO.ite ?_ ?_|refine LeO.bind ?_ (fun _=> ?_)
  ·intro y0 y1 y2 y3 y4 y5 y6 y7
   unfold zK.l1
   repeat' first
   | with_reducible first|exact ih0 _ _ _ _ _ _ _|exact ih1 _ _ _ _ _ _ _ _|exact ih2 _ _ _ _ _ _ _|exact ih3 _ _ _ _ _ _ _ _|exact ih4 _ _ _ _ _ _ _ _ _ _ _|exact zM.mono _ _ _ _|exact zj.mono _ _ _|exact yJ.mono _ _ _ _ _|exact zV.mono _ _ _ _ _|exact LeO.refl _|exact LeO.none _|refine LeO.ite ?_ ?_|refine LeO.bind ?_ (fun _=> ?_)
   | exact ih0 _ _ _ _ _ _ _|exact ih1 _ _ _ _ _ _ _ _|exact ih2 _ _ _ _ _ _ _|exact ih3 _ _ _ _ _ _ _ _|exact ih4 _ _ _ _ _ _ _ _ _ _ _|exact zM.mono _ _ _ _|exact zj.mono _ _ _|exact yJ.mono _ _ _ _ _|exact zV.mono _ _ _ _ _|exact LeO.none _|refine LeO.ite ?_ ?_|refine LeO.bind ?_ (fun _=> ?_)
  ·intro y0 y1 y2 y3 y4 y5 y6
   unfold zK.l2
   repeat' first
   | with_reducible first|exact ih0 _ _ _ _ _ _ _|exact ih1 _ _ _ _ _ _ _ _|exact ih2 _ _ _ _ _ _ _|exact ih3 _ _ _ _ _ _ _ _|exact ih4 _ _ _ _ _ _ _ _ _ _ _|exact zM.mono _ _ _ _|exact zj.mono _ _ _|exact yJ.mono _ _ _ _ _|exact zV.mono _ _ _ _ _|exact LeO.refl _|exact LeO.none _|refine LeO.ite ?_ ?_|refine LeO.bind ?_ (fun _=> ?_)
   | exact ih0 _ _ _ _ _ _ _|exact ih1 _ _ _ _ _ _ _ _|exact ih2 _ _ _ _ _ _ _|exact ih3 _ _ _ _ _ _ _ _|exact ih4 _ _ _ _ _ _ _ _ _ _ _|exact zM.mono _ _ _ _|exact zj.mono _ _ _|exact yJ.mono _ _ _ _ _|exact zV.mono _ _ _ _ _|exact LeO.none _|refine LeO.ite ?_ ?_|refine LeO.bind ?_ (fun _=> ?_)
  ·intro y0 y1 y2 y3 y4 y5 y6 y7
   unfold zK.l3
   repeat' first
   | with_reducible first|exact ih0 _ _ _ _ _ _ _|exact ih1 _ _ _ _ _ _ _ _|exact ih2 _ _ _ _ _ _ _|exact ih3 _ _ _ _ _ _ _ _|exact ih4 _ _ _ _ _ _ _ _ _ _ _|exact zM.mono _ _ _ _|exact zj.mono _ _ _|exact yJ.mono _ _ _ _ _|exact zV.mono _ _ _ _ _|exact LeO.refl _|exact LeO.none _|refine LeO.ite ?_ ?_|refine LeO.bind ?_ (fun _=> ?_)
   | exact ih0 _ _ _ _ _ _ _|exact ih1 _ _ _ _ _ _ _ _|exact ih2 _ _ _ _ _ _ _|exact ih3 _ _ _ _ _ _ _ _|exact ih4 _ _ _ _ _ _ _ _ _ _ _|exact zM.mono _ _ _ _|exact zj.mono _ _ _|exact yJ.mono _ _ _ _ _|exact zV.mono _ _ _ _ _|exact LeO.none _|refine LeO.ite ?_ ?_|refine LeO.bind ?_ (fun _=> ?_)
  ·intro y0 y1 y2 y3 y4 y5 y6 y7 y8 y9 y10
   unfold zK.l4
   repeat' first
   | with_reducible first|exact ih0 _ _ _ _ _ _ _|exact ih1 _ _ _ _ _ _ _ _|exact ih2 _ _ _ _ _ _ _|exact ih3 _ _ _ _ _ _ _ _|exact ih4 _ _ _ _ _ _ _ _ _ _ _|exact zM.mono _ _ _ _|exact zj.mono _ _ _|exact yJ.mono _ _ _ _ _|exact zV.mono _ _ _ _ _|exact LeO.refl _|exact LeO.none _|refine LeO.ite ?_ ?_|refine LeO.bind ?_ (fun _=> ?_)
   | exact ih0 _ _ _ _ _ _ _|exact ih1 _ _ _ _ _ _ _ _|exact ih2 _ _ _ _ _ _ _|exact ih3 _ _ _ _ _ _ _ _|exact ih4 _ _ _ _ _ _ _ _ _ _ _|exact zM.mono _ _ _ _|exact zj.mono _ _ _|exact yJ.mono _ _ _ _ _|exact zV.mono _ _ _ _ _|exact LeO.none _|refine LeO.ite ?_ ?_|refine LeO.bind ?_ (fun _=> ?_)
theorem zK.mono:∀a0 a1 a2 a3 k,LeO (zK.f k a0 a1 a2 a3) (zK.f (k + 1) a0 a1 a2 a3):=by
 intro a0 a1 a2 a3 k;obtain ⟨ih0,ih1,ih2,ih3,ih4⟩:=zK.mono_l k
 unfold zK.f
 repeat' first
   | with_reducible first|exact ih0 _ _ _ _ _ _ _|exact ih1 _ _ _ _ _ _ _ _|exact ih2 _ _ _ _ _ _ _|exact ih3 _ _ _ _ _ _ _ _|exact ih4 _ _ _ _ _ _ _ _ _ _ _|exact zM.mono _ _ _ _|exact zj.mono _ _ _|exact yJ.mono _ _ _ _ _|exact zV.mono _ _ _ _ _|exact LeO.refl _|exact LeO.none _|refine LeO.ite ?_ ?_|refine LeO.bind ?_ (fun _=> ?_)
   | exact ih0 _ _ _ _ _ _ _|exact ih1 _ _ _ _ _ _ _ _|exact ih2 _ _ _ _ _ _ _|exact ih3 _ _ _ _ _ _ _ _|exact ih4 _ _ _ _ _ _ _ _ _ _ _|exact zM.mono _ _ _ _|exact zj.mono _ _ _|exact yJ.mono _ _ _ _ _|exact zV.mono _ _ _ _ _|exact LeO.none _|refine LeO.ite ?_ ?_|refine LeO.bind ?_ (fun _=> ?_)
def zK.T26:Bool × List (List Nat × List Nat):=(true,[([],[]),([0],[0]),([],[]),([2],[2]),([1,3],[1,3]),([],[]),([5],[5]),([],[]),([4,6,7],[4,6,7]),([8],[8]),([9],[9]),([9],[9]),([10,8,0,1,2,3,4,5,6,7,8,9,10],[10]),([11,12,0,1,2,3,4,5,6,7,8,9,10,11,12],[11])])
def zK.B26:List Nat:= [0,1,0,4,15,0,32,0,255,511,1023,1023,2047,8191]
theorem zK.tab26:rtab .any (Yx Try.f20 26)=zK.T26:=by kernel_rfl
theorem zK.bits26:Zh zK.T26.2 zK.B26=true:=by kernel_rfl
set_option maxHeartbeats 8000000 in
set_option maxRecDepth 100000 in
theorem zK.calls (k:Nat) (a0_0 a0_1:Int) (A2:Option Addr) (c2:Nat) (l0_2:List Int) (A3:Option Addr) (c3:Nat) (l0_3:List S45) (r1:List (List ByteArray)) (r2:Int) (w:World)
  (hr2:Kd.C (Kd.int .i64) w A2 l0_2.length l0_2) (hc2:l0_2.length≤c2) (hr3:Kd.C k45 w A3 l0_3.length l0_3) (hc3:l0_3.length≤c3) (h:zK.f k a0_0 a0_1 l0_2 l0_3=some (r1,r2)) :
  Calls Try.prog 20 #[.agg #[.int .i64 a0_0, .int .i64 a0_1, .slice A2 l0_2.length c2, .slice A3 l0_3.length c3]] w fun e w'=>∃v0_:Value,e= .returned (.tuple #[v0_, .int .i64 r2])∧Kd.S (Kd.slice 9 Kd.string) 32 w' w.heap.size (fun _=>True) v0_ r1∧Below w.heap.size w w':=by
 obtain ⟨⟨x4,e4⟩,hx,ha⟩:=ZzB h;have HX:=zA.mk hx;have HR2:=zA.mk hr2;have HC2:=zA.mk hc2;have HR3:=zA.mk hr3;have HC3:=zA.mk hc3;have hu:=Try.underlying25;have hu61:=Try.underlying45;have hu71:=Try.underlying51
 by_cases h0:e4=0
 ·subst h0
  rw [if_pos rfl] at ha;have H':=zA.mk ha;clear h ha hx hr2 hr3 hc2 hc3
  go_enter Try.func20,Try.ntmps20
  go_wp2_with fail
  refine (yJ.calls k a0_0 a0_1 A2 c2 l0_2 A3 c3 l0_3 x4 0 _ (Kd.C_alloc HR2.out _) HC2.out (Kd.C_alloc HR3.out _) HC3.out HX.out).mono ?_;rintro e w1 ⟨v1,rfl,hS1,hb1⟩;have q0:=(hb1.cell (p:=⟨w.heap.size,0,none⟩) (by simp)).trans (zQ (yc _ _) 0);have q1:=(hb1.cell (p:=⟨w.heap.size,1,none⟩) (by simp)).trans (zQ (yc _ _) 1);have q2:=(hb1.cell (p:=⟨w.heap.size,2,none⟩) (by simp)).trans (zQ (yc _ _) 2);have q3:=(hb1.cell (p:=⟨w.heap.size,3,none⟩) (by simp)).trans (zQ (yc _ _) 3);have HB1:=zA.mk (zE (zG (Below.refl w.heap.size w) _) hb1);have HR3':=zA.mk (Kd.C_below (Kd.C_alloc HR3.out _) hb1);obtain ⟨Af,cf,ef⟩:=Kd.S_slice hS1;subst ef;have HF:=zA.mk (Kd.S_reads' hS1).2.2;have HFL:=zA.mk (Kd.S_reads' hS1).2.1;have Q1:=zA.mk q1;have Q2:=zA.mk q2;have Q3:=zA.mk q3;clear hb1 hS1
  go_wp2_with (first|((with_reducible refine yC (N:=26) rfl ?_);refine Kd.S_lit (Kd.slice 9 Kd.string) _ 32 ?hg (N:=26) ?hd (xs:=([]:List (List ByteArray))) (inner:= []) (ok:=fun _=>True) (okp:=fun _=>True) ?hr ?hp (fun _ hk=>hk) trivial (Below.refl _ _) (Nat.le_refl _) (by simp) ?_;(case hd=>rfl);(case hg=>rfl);(case hr=>exact Qm);(case hp=>exact (Reps.none _ _));intro v26 w7 ho8 hb hg_ hnew_;clear hg_ hnew_;have HO:=zA.mk ho8;have HB7:=zA.mk hb;clear ho8 hb))
  clear q0 q1 q2 q3
  go_loopg [6,7] k (fun kq v6 v7 wr=>∃(x6:List (List ByteArray)) (x7:Int),v7= .int .i64 x7∧zA (zK.l0 kq x4 x6 x7 a0_0 a0_1 l0_2 l0_3=some (r1,r2))∧zA (kq≤k)∧zA (Kd.S (Kd.slice 9 Kd.string) 32 wr w1.heap.size (fun _=>True) v6 x6)∧zA (Below w1.heap.size w1 wr))
  case atStart=>exact ⟨[],0,rfl,H',⟨Nat.le_refl _⟩,HO,HB7⟩
  case round=>
   clear H' HO HB7;obtain ⟨x6,x7,rfl,HA,HK1,HO,HB⟩:=hrel;have q2:=(HB.out.cell (ZzA _ _ Q2.out)).trans Q2.out;cases gk with
   | zero=>exact absurd HA.out (by simp [zK.l0])
   | succ k1=>
    have H:=HA.out;clear HA;simp only [zK.l0] at H
    by_cases c9:x7 < (l0_2.length:Int)
    ·rw [if_pos c9] at H
     have c9b0:=decide_eq_true c9
     by_cases c10:x6.length < 5864062014805
     ·rw [if_pos c10] at H
      have LM:=zA.mk c10;have H':=zA.mk H;clear H c9 c10
      go_wp2_with (first|((with_reducible refine ZY (b:= .append) (xs:= #[.tmp 34, .tmp 35]) rfl ?_);at_builtin;refine Kd.S_append (Kd.slice 9 Kd.string) (w0:=w1) w1.heap.size rfl (.tmp 34) (.tmp 35) 27 32 (.slice none 0 0) 24 rfl Try.underlying27 (show (Try.prog.info? 32).map (fun i=>(i.zero,i.size,i.bytes))=some (some (.slice none 0 0),1,24) from by kernel_rfl) rfl (by decide) (by omega) u6 x6 ([]:List ByteArray) [.slice none 0 0] (fun _=>True) (fun _=>False) rfl rfl ?aP (fun k_ hk_=>hk_.elim) ?aF ?aO ?aB ?aS ?aL ?_;(case aP=>exact Kd.M_row (Kd.R_nil _ _ _ _ _));(case aB=>exact (by repeat (first|exact HB.out|apply zG|apply zC|apply zH)));(case aF=>exact (fun k_ hk=>trivial));(case aO=>exact (by (with_reducible repeat (first|apply Kd.S_alloc|apply Kd.S_drewN|apply Kd.S_drew));exact Kd.S_mono HO.out (fun k_ hk=>⟨hk,fun e_=>e_⟩)));(case aS=>exact (zD (by repeat (first|exact HB.out|apply zG|apply zC|apply zH))));(case aL=>have:=LM.out;omega);intro v36 w12 ho hb hg hat;have HO2:=zA.mk ho;have HB2:=zA.mk hb;clear ho hb hg hat))
      go_roundg k1
      case measure=>have:=HK1.out;omega
      case rel=>exact ⟨_,_,rfl,H',⟨by have:=HK1.out;omega⟩,HO2,HB2⟩
     ·rw [if_neg c10] at H;cases H
    ·rw [if_neg c9] at H
     have c9b0:=decide_eq_false c9;have H':=zA.mk H;clear H c9
     go_wp2
     clear q2 c9b0
     go_loopg [8,9] k1 (fun kq v8 v9 wr=>∃(x8:ByteArray) (x9:Int),v8= .string x8∧v9= .int .i64 x9∧zA (zK.l1 kq x4 x6 x8 x9 a0_0 a0_1 l0_2 l0_3=some (r1,r2))∧zA (kq≤k1)∧zA (Kd.S (Kd.slice 9 Kd.string) 32 wr w1.heap.size (fun _=>True) u6 x6)∧zA (Below w1.heap.size w1 wr))
     case atStart=>exact ⟨_,0,rfl,rfl,H',⟨Nat.le_refl _⟩,HO,HB⟩
     case round=>
      clear H' HO HB;obtain ⟨x8,x9,rfl,rfl,HA,HK2,HO,HB⟩:=hrel;have q1:=(HB.out.cell (ZzA _ _ Q1.out)).trans Q1.out;cases gk with
      | zero=>exact absurd HA.out (by simp [zK.l1])
      | succ k2=>
       have H:=HA.out;clear HA;simp only [zK.l1] at H
       by_cases c14:x9 < a0_1
       ·rw [if_pos c14] at H
        have c14b0:=decide_eq_true c14
        by_cases c15:x8.size + 1≤9223372036854775807
        ·rw [if_pos c15] at H
         have c15b0:=eq_true c15;have c15b1:=decide_eq_true c15;have c15b2:(9223372036854775807 < x8.size + 1)=False:=eq_false (Nat.not_lt.2 c15);have H':=zA.mk H;clear H c14 c15
         go_wp2
         go_roundg k2
         case measure=>have:=HK1.out;have:=HK2.out;omega
         case rel=>exact ⟨_,_,rfl,rfl,H',⟨by have:=HK2.out;omega⟩,HO,HB⟩
        ·rw [if_neg c15] at H;cases H
       ·rw [if_neg c14] at H
        have c14b0:=decide_eq_false c14
        by_cases c17:0 < (x6.length:Int)
        ·rw [if_pos c17] at H
         have H':=zA.mk H;obtain ⟨gs,cap,e6,hge,hgl,-⟩:=Kd.S_form HO.out (by omega);subst e6;have P0:=zA.mk c17;have p0n:(0 < x6.length)=True:=eq_true (by omega);have HGE:=zA.mk hge;clear H c14 c17 hge hgl
         go_wp2_with (first|((with_reducible refine yC (N:=47) rfl ?_);refine Kd.R_lit Kd.string _ 9 ?hg (N:=47) ?hd (xs:=([x8]:List ByteArray)) (inner:= [.string x8]) (ok:=fun _=>True) (okp:=fun _=>True) ?hr ?hp (fun _ hk=>hk) trivial (Below.refl _ _) (Nat.le_refl _) (by simp) ?_;(case hd=>rfl);(case hg=>rfl);(case hr=>exact Qm);(case hp=>exact (Reps.one (show Kd.M Kd.string _ _ _ x8 [.string x8] from rfl) (Reps.none _ _)));intro v47 w4 ho4 hb hg_ hnew_;clear hg_ hnew_;obtain ⟨A4,c4,e4⟩:=Kd.R_slice ho4;subst e4;have hput:=zb.put_row (W0:=wr) HB.out.size HO.out hb ho4 0 (Int.le_refl 0) P0.out;have hfz:=(zb.put_ok (Kd.S_below HO.out hb) 0 (Int.le_refl 0) P0.out).1;obtain ⟨A5,c5,hcz⟩:=(zb.put_ok (Kd.S_below HO.out hb) 0 (Int.le_refl 0) P0.out).2;(try simp only [Int.toNat_zero] at hcz hfz);have HP1:=zA.mk hput.1;have HB4:=zA.mk hb;clear hput hb ho4))
         refine Plus.hide_world fun W5 hW5=> ?_
         have HB5:zA (Below w1.heap.size w1 W5):=⟨by rw [←hW5.out];exact zJ (zE HB.out HB4.out) HGE.out⟩;have HS5:zA (Kd.S (Kd.slice 9 Kd.string) 32 W5 w1.heap.size (fun _=>True) (.slice (some ⟨gs,0,none⟩) x6.length cap) (x6.set 0 [x8])):=⟨by rw [←hW5.out];exact HP1.out⟩;clear hW5 HP1 HB4 hcz hfz P0 p0n q1 c14b0 HO HB
         go_loopg [10] k2 (fun kq v10 wr=>∃(m:Bool) (st:List (List ByteArray)),v10= .bool m∧zA (zK.l2 kq x4 st m a0_0 a0_1 l0_2 l0_3=some (r1,r2))∧zA (kq≤k2)∧zA (Kd.S (Kd.slice 9 Kd.string) 32 wr w1.heap.size (fun _=>True) (.slice (some ⟨gs,0,none⟩) x6.length cap) st)∧zA (Below w1.heap.size w1 wr))
         case atStart=>exact ⟨true,_,rfl,H',⟨Nat.le_refl _⟩,HS5,HB5⟩
         case round=>
          clear H' HS5 HB5;obtain ⟨m,st,rfl,HA,HK3,HO,HB⟩:=hrel;cases gk with
          | zero=>exact absurd HA.out (by simp [zK.l2])
          | succ k3=>
           have H:=HA.out;clear HA;simp only [zK.l2] at H;cases m
           ·rw [if_neg Bool.false_ne_true] at H
            obtain ⟨rfl,rfl⟩:=Prod.mk.inj (Option.some.inj H);clear H
            go_wp2
            go_ret2
            exact ⟨_,rfl,Kd.S_lower HO.out HB1.out.size,zE HB1.out HB.out⟩
           ·rw [if_pos rfl] at H
            have H':=zA.mk H;clear H
            go_wp2
            go_loopg [10,11] k3 (fun kq v10 v11 wr=>∃(m:Bool) (x11:Int) (st:List (List ByteArray)),v10= .bool m∧v11= .int .i64 x11∧zA (zK.l3 kq x4 st m x11 a0_0 a0_1 l0_2 l0_3=some (r1,r2))∧zA (kq≤k3)∧zA (Kd.S (Kd.slice 9 Kd.string) 32 wr w1.heap.size (fun _=>True) (.slice (some ⟨gs,0,none⟩) x6.length cap) st)∧zA (Below w1.heap.size w1 wr))
            case atStart=>exact ⟨false,0,_,rfl,rfl,H',⟨Nat.le_refl _⟩,HO,HB⟩
            case round=>
             clear H' HO HB;obtain ⟨m,x11,st,rfl,rfl,HA,HK4,HO,HB⟩:=hrel;have q3:=(HB.out.cell (ZzA _ _ Q3.out)).trans Q3.out;cases gk with
             | zero=>exact absurd HA.out (by simp [zK.l3])
             | succ k4=>
              have H:=HA.out;clear HA;simp only [zK.l3] at H
              by_cases c20:x11 < (l0_3.length:Int)
              ·rw [if_pos c20] at H
               by_cases c21:0≤x11
               ·rw [if_pos c21] at H
                have c20b0:=decide_eq_true c20;obtain ⟨ad,Ar,cr,e1,hx0,hx1,hl1,hi1⟩:=yy HR3'.out x11 c21 c20;cases e1;replace hx0:=(HB.out.cell (ZzA _ _ hx0)).trans hx0;replace hx1:=(HB.out.cell (ZzA _ _ hx1)).trans hx1
                generalize hs:zF l0_3 x11=s at H hx0 hx1 hl1 hi1
                have p1:=eq_true c21;have q1:=eq_true c20;have HI1:=zA.mk hi1;have HL1:=zA.mk hl1;have H':=zA.mk H;clear H c20 c21 hs hi1 hl1
                go_wp2
                refine Plus.hide_world fun W6 hW6=> ?_
                have hb6:Below wr.heap.size wr W6:=by rw [←hW6.out];repeat (first|exact Below.refl _ _|apply zG|refine zJ ?_ (Nat.le_refl _))
                have z0:W6.cell? ⟨wr.heap.size,0,none⟩=some (.int .i64 s.f0):=by rw [←hW6.out];exact zQ (yc _ _) 0
                have z1:W6.cell? ⟨wr.heap.size,1,none⟩=some (.slice Ar s.f1.length cr):=by rw [←hW6.out];exact zQ (yc _ _) 1
                have hgs:gs < wr.heap.size:=Kd.S_lt HO.out gs rfl
                generalize hg6:wr.heap.size=g6 at z0 z1
                have hgs6:gs < g6:=hg6▸hgs;have Z0:=zA.mk z0;have Z1:=zA.mk z1;have HO6:=zA.mk (Kd.S_below HO.out hb6);have HB6:=zA.mk (zE HB.out hb6);clear hx0 hx1 p1 q1 c20b0 hb6 z0 z1 hW6 q3 HO HB hgs;have hne:g6≠gs:=Nat.ne_of_gt hgs6
                go_loopg [10,13] k4 (fun kq v10 v13 wq=>∃(m:Bool) (x13:Int) (st:List (List ByteArray)),v10= .bool m∧v13= .int .i64 x13∧zA (zK.l4 kq x4 st m x11 x13 a0_0 a0_1 l0_2 l0_3 s.f0 s.f1=some (r1,r2))∧zA (kq≤k4)∧zA (Kd.S (Kd.slice 9 Kd.string) 32 wq w1.heap.size (fun _=>True) (.slice (some ⟨gs,0,none⟩) x6.length cap) st)∧zA (yB W6 wq gs none)∧zA (Below w1.heap.size w1 wq))
                case atStart=>exact ⟨m,0,_,rfl,rfl,H',⟨Nat.le_refl _⟩,HO6,⟨yB.refl _ _ _⟩,HB6⟩
                case round=>
                 clear H' HO6 HB6;obtain ⟨m,x13,st,rfl,rfl,HA,HK5,HO,HQ,HB⟩:=hrel;have z1:=zb.keepc HQ.out hne Z1.out;cases gk with
                 | zero=>exact absurd HA.out (by simp [zK.l4])
                 | succ k5=>
                  have H:=HA.out;clear HA;simp only [zK.l4] at H
                  by_cases c30:x13 < (s.f1.length:Int)
                  ·rw [if_pos c30] at H
                   by_cases c31:0≤x13
                   ·rw [if_pos c31] at H
                    have c30b0:=decide_eq_true c30;obtain ⟨ad5,e1,hx0,hx1⟩:=ZE HI1.out x13 c31 c30;cases e1;replace hx0:=(HB.out.cell (ZzA _ _ hx0)).trans hx0;replace hx1:=(HB.out.cell (ZzA _ _ hx1)).trans hx1
                    generalize hs:zi s.f1 x13=sy at H hx0 hx1
                    have p1:=eq_true c31;have q1':=eq_true c30;have P31:=zA.mk c31;have P30:=zA.mk c30;clear c30 c31 hs;cases hb0:sy.f0
                    ·rw [hb0,if_neg Bool.false_ne_true] at H
                     rw [hb0] at hx0;obtain ⟨ji,hji⟩:∃j_:Int,wrap64 (x13 + 1)=j_:=⟨_,rfl⟩;rw [hji] at H;have hjiw:IntKind.i64.wrap (x13 + 1)=ji:=(zq _).trans hji
                     by_cases c32:0≤ji
                     ·rw [if_pos c32] at H
                      by_cases c33:ji≤(s.f1.length:Int)
                      ·rw [if_pos c33] at H
                       obtain ⟨y,hy⟩:∃y_:List S51,y_=s.f1.drop ji.toNat:=⟨_,rfl⟩;rw [←hy] at H;obtain ⟨⟨xr,okx⟩,hr,H⟩:=ZzB H;have HR:=zA.mk hr;have H':=zA.mk H;clear H hr;obtain ⟨i0,hi0,_,hsz,_⟩:=info_parts qo;have hcut:=cut_from (P:=Try.prog) 43 51 .i64 Try.underlying43 hi0 2 hsz (some ad5) s.f1.length cr ji c32 c33;have hr43:=Kd.C_drop (m:=ji.toNat) (c:=cr) HI1.out (by omega) HL1.out;obtain ⟨A43,hA43⟩:∃A1,A1=(if cr=ji.toNat then (some ad5) else ((some ad5):Option Addr).map (·.add (ji.toNat * 2))):=⟨_,rfl⟩;obtain ⟨c43,hc43⟩:∃c1,c1=cr - ji.toNat:=⟨_,rfl⟩;have hy43:y.length=s.f1.length - ji.toNat:=(by rw [hy,List.length_drop]);rw [show s.f1.drop ji.toNat=y from hy.symm] at hr43;replace hr43:Kd.C k51 w1 A43 y.length y:=(by rw [hA43];exact hr43);rw [←hy43,←hA43,←hc43] at hcut;have HRY:=zA.mk hr43;have HCY:=zA.mk (show y.length≤c43 from by rw [hy43,hc43];exact Nat.sub_le_sub_right HL1.out _);have q1:=(HB.out.cell (ZzA _ _ Q1.out)).trans Q1.out;have p32:=eq_true c32;have p33:=eq_true c33;clear hr43 hi0 hsz hc43 hA43 hy43 hy c32 c33
                       go_wp2
                       refine Zr (n:=14) (S:=fun w'=>w'.cell? ⟨g6,1,none⟩=some (.slice (some ad5) s.f1.length cr)∧w'.cell? ⟨w.heap.size,1,none⟩=some (.int .i64 a0_1)) (ds:= []) #[false,false,false,false,false,false,false,false,false,false,false,false,false,false] (by kernel_rfl) rfl rfl ⟨(show wr.drew.cell? _=_ from z1),(show wr.drew.cell? _=_ from q1)⟩ (fun hHeld=> ?_);refine yw zK.tab26 zK.bits26 (fun HT_ HW_=> ?_);refine yF (i:=0) (N:=some 76) (v:= ?_) (a':= ?_) #[true,false,false,false,false,false,false,false,false,false,false,false,false,false] rfl rfl (yA HT_.out (by kernel_rfl)) (fun _ _ _ h=>h) (Or.inl ⟨by rfl,?_⟩) ?_ ?_;rotate_left
                       ·intro w'
                        go_simp
                        with_reducible rfl
                       rotate_left
                       ·simp only [Act.put,List.setIfInBounds_toArray,List.set_cons_zero,List.set_cons_succ,zq,zt]
                        rfl
                       refine yF (i:=2) (N:=some 78) (v:= ?_) (a':= ?_) #[true,false,true,false,false,false,false,false,false,false,false,false,false,false] rfl rfl (yA HT_.out (by kernel_rfl)) (fun _ _ _ h=>h) (Or.inl ⟨by rfl,?_⟩) ?_ ?_;rotate_left
                       ·intro w'
                        go_simp
                        with_reducible rfl
                       rotate_left
                       ·simp only [Act.put,List.setIfInBounds_toArray,List.set_cons_zero,List.set_cons_succ,zq,zt]
                        rfl
                       refine yF (i:=3) (N:=some 79) (v:= ?_) (a':= ?_) #[true,false,true,true,false,false,false,false,false,false,false,false,false,false] rfl rfl (yA HT_.out (by kernel_rfl)) (fun _ _ _ h=>h) (Or.inl ⟨by rfl,?_⟩) ?_ ?_;rotate_left
                       ·intro w'
                        go_simp
                        with_reducible rfl
                       rotate_left
                       ·simp only [Act.put,List.setIfInBounds_toArray,List.set_cons_zero,List.set_cons_succ,zq,zt]
                        rfl
                       refine yF (i:=5) (N:=some 81) (v:= ?_) (a':= ?_) #[true,false,true,true,false,true,false,false,false,false,false,false,false,false] rfl rfl (yA HT_.out (by kernel_rfl)) (fun _ _ _ h=>h) (Or.inl ⟨by rfl,?_⟩) ?_ ?_;rotate_left
                       ·intro w'
                        go_simp
                        with_reducible rfl
                       rotate_left
                       ·simp only [Act.put,List.setIfInBounds_toArray,List.set_cons_zero,List.set_cons_succ,zq,zt]
                        rfl
                       refine yF (i:=7) (N:=some 83) (v:= ?_) (a':= ?_) #[true,false,true,true,false,true,false,true,false,false,false,false,false,false] rfl rfl (yA HT_.out (by kernel_rfl)) (fun _ _ _ h=>h) (Or.inl ⟨by rfl,?_⟩) ?_ ?_;rotate_left
                       ·intro w'
                        go_simp
                        with_reducible rfl
                       rotate_left
                       ·simp only [Act.put,List.setIfInBounds_toArray,List.set_cons_zero,List.set_cons_succ,zq,zt]
                        rfl
                       refine take_ (i:=1) (N:=some 77) (v:= ?_) (a':= ?_) #[true,true,true,true,false,true,false,true,false,false,false,false,false,false] rfl rfl (yU HT_.out HW_.out (by kernel_rfl)) (fun _ _ _ h=>h) (Or.inl ⟨by rfl,?_⟩) hHeld ?_ ?_;rotate_left
                       ·rintro w' ⟨s0,s1⟩
                        go_simp
                        with_reducible rfl
                       rotate_left
                       ·simp only [Act.put,List.setIfInBounds_toArray,List.set_cons_zero,List.set_cons_succ,zq,zt]
                        rfl
                       refine yF (i:=4) (N:=some 80) (v:= ?_) (a':= ?_) #[true,true,true,true,true,true,false,true,false,false,false,false,false,false] rfl rfl (yA HT_.out (by kernel_rfl)) (fun _ _ _ h=>h) (Or.inl ⟨by rfl,?_⟩) ?_ ?_;rotate_left
                       ·intro w'
                        go_simp
                        with_reducible rfl
                       rotate_left
                       ·simp only [Act.put,List.setIfInBounds_toArray,List.set_cons_zero,List.set_cons_succ,zq,zt]
                        rfl
                       refine take_ (i:=6) (N:=some 82) (v:= ?_) (a':= ?_) #[true,true,true,true,true,true,true,true,false,false,false,false,false,false] rfl rfl (yU HT_.out HW_.out (by kernel_rfl)) (fun _ _ _ h=>h) (Or.inl ⟨by rfl,?_⟩) hHeld ?_ ?_;rotate_left
                       ·rintro w' ⟨s0,s1⟩
                        go_simp
                        with_reducible rfl
                       rotate_left
                       ·simp only [Act.put,List.setIfInBounds_toArray,List.set_cons_zero,List.set_cons_succ,zq,zt]
                        rfl
                       refine one_ (i:=8) (N:=some 84) #[true,true,true,true,true,true,true,true,true,false,false,false,false,false] rfl rfl (yj HT_.out (by kernel_rfl)) (by decide) (fun K hK=> ?_);refine YS Try.func21 (by kernel_rfl) rfl #[.slice A43 y.length c43, .int .i64 a0_1, .slice Af x4.length cf, .int .i64 600] (by rfl) rfl rfl (by simp only [List.map_toArray,List.map_cons,List.map_nil];rfl) ?_
                       with_reducible refine (zV.calls k5 A43 c43 y a0_1 Af cf x4 600 xr okx _ (Kd.C_drew (Kd.C_below HRY.out HB.out)) HCY.out (Kd.C_drew (Kd.C_below HF.out HB.out)) HFL.out HR.out).mono ?_
                       rintro e w8 ⟨v8,rfl,hR8,hb8⟩;refine ⟨_,rfl,?_⟩;replace hb8:Below wr.heap.size wr w8:=zE (zH (Below.refl wr.heap.size wr)) hb8;refine hK.out _ _ ⟨(hb8.cell (ZzA _ _ z1)).trans z1,(hb8.cell (ZzA _ _ q1)).trans q1⟩ (fun hHeld=> ?_);clear hK K;refine yl (a':= ?_) ?_ ?_;rotate_left
                       ·show Act.put _ (some 84) _=_
                        simp only [Act.put,List.setIfInBounds_toArray,List.set_cons_zero,List.set_cons_succ,zq,zt]
                        rfl
                       refine yF (i:=9) (N:=some 75) (v:= ?_) (a':= ?_) #[true,true,true,true,true,true,true,true,true,true,false,false,false,false] rfl rfl (yA HT_.out (by kernel_rfl)) (fun _ _ _ h=>h) (Or.inl ⟨by rfl,?_⟩) ?_ ?_;rotate_left
                       ·intro w'
                        go_simp
                        with_reducible rfl
                       rotate_left
                       ·simp only [Act.put,List.setIfInBounds_toArray,List.set_cons_zero,List.set_cons_succ,zq,zt]
                        rfl
                       refine yF (i:=10) (N:=some 85) (v:= ?_) (a':= ?_) #[true,true,true,true,true,true,true,true,true,true,true,false,false,false] rfl rfl (yA HT_.out (by kernel_rfl)) (fun _ _ _ h=>h) (Or.inl ⟨by rfl,?_⟩) ?_ ?_;rotate_left
                       ·intro w'
                        go_simp
                        with_reducible rfl
                       rotate_left
                       ·simp only [Act.put,List.setIfInBounds_toArray,List.set_cons_zero,List.set_cons_succ,zq,zt]
                        rfl
                       refine yF (i:=11) (N:=some 86) (v:= ?_) (a':= ?_) #[true,true,true,true,true,true,true,true,true,true,true,true,false,false] rfl rfl (yA HT_.out (by kernel_rfl)) (fun _ _ _ h=>h) (Or.inl ⟨by rfl,?_⟩) ?_ ?_;rotate_left
                       ·intro w'
                        go_simp
                        with_reducible rfl
                       rotate_left
                       ·simp only [Act.put,List.setIfInBounds_toArray,List.set_cons_zero,List.set_cons_succ,zq,zt]
                        rfl
                       refine yF (i:=12) (N:=some 14) (v:= ?_) (a':= ?_) #[true,true,true,true,true,true,true,true,true,true,true,true,true,false] rfl rfl (yA HT_.out (by kernel_rfl)) (fun _ _ _ h=>h) (Or.inl ⟨by rfl,?_⟩) ?_ ?_;rotate_left
                       ·intro w'
                        go_simp
                        with_reducible rfl
                       rotate_left
                       ·simp only [Act.put,List.setIfInBounds_toArray,List.set_cons_zero,List.set_cons_succ,zq,zt]
                        rfl
                       refine yF (i:=13) (N:=some 15) (v:= ?_) (a':= ?_) #[true,true,true,true,true,true,true,true,true,true,true,true,true,true] rfl rfl (yA HT_.out (by kernel_rfl)) (fun _ _ _ h=>h) (Or.inl ⟨by rfl,?_⟩) ?_ ?_;rotate_left
                       ·intro w'
                        go_simp
                        with_reducible rfl
                       rotate_left
                       ·simp only [Act.put,List.setIfInBounds_toArray,List.set_cons_zero,List.set_cons_succ,zq,zt]
                        rfl
                       refine YD (ZW HT_.out (by kernel_rfl)) ?_;clear hHeld HT_ HW_;obtain ⟨Ax,cx,ex⟩:=Kd.R_slice hR8;subst ex;have HX:=zA.mk (Kd.R_reads' hR8).2.2;have HXL:=zA.mk (Kd.R_reads' hR8).2.1;have HB8:=zA.mk (zE HB.out hb8);have HO8:=zA.mk (Kd.S_below HO.out hb8);have HQ8:=zA.mk (yB.trans HQ.out (yB.of_below hb8 gs none) (.inl rfl));replace hx1:=(hb8.cell (ZzA _ _ hx1)).trans hx1;replace z1:=(hb8.cell (ZzA _ _ z1)).trans z1;replace q1:=(hb8.cell (ZzA _ _ q1)).trans q1;clear hR8 hb8 hx0 HO HQ HB hcut;cases okx
                       ·have H:=H'.out
                        rw [if_neg (by simp)] at H;obtain ⟨rfl,rfl⟩:=Prod.mk.inj (Option.some.inj H);clear H
                        go_wp2
                        go_ret2
                        exact ⟨_,rfl,Kd.S_nil _ _ _ _ _,zE HB1.out HB8.out⟩
                       ·have H:=H'.out
                        rw [if_pos rfl] at H
                        have key:(0≤sy.f1∧sy.f1 < (st.length:Int))∧(0≤s.f0∧s.f0 < (st.length:Int)):=by
                         by_cases d1:0≤sy.f1
                         ·rw [if_pos d1] at H
                          by_cases d2:sy.f1 < (st.length:Int)
                          ·rw [if_pos d2] at H
                           by_cases d3:0≤s.f0
                           ·rw [if_pos d3] at H
                            by_cases d4:s.f0 < (st.length:Int)
                            ·exact ⟨⟨d1,d2⟩,d3,d4⟩
                            ·rw [if_neg d4] at H;cases H
                           ·rw [if_neg d3] at H;cases H
                          ·rw [if_neg d2] at H;cases H
                         ·rw [if_neg d1] at H;cases H
                        obtain ⟨⟨d1,d2⟩,d3,d4⟩:=key;rw [if_pos d1,if_pos d2,if_pos d3,if_pos d4] at H;obtain ⟨c,hc,H⟩:=ZzB H;obtain ⟨j,hj,H⟩:=ZzB H;have HC:=zA.mk hc;have HJ:=zA.mk hj;have hn:=(Kd.S_reads' HO8.out).1;obtain ⟨ady,Ay,cy,ey,hy0,hyl,hyr⟩:=ZQ (Kd.S_reads' HO8.out).2.2 sy.f1 d1 d2
                        obtain rfl:(⟨gs,0,none⟩:Addr)=ady:=by injection ey
                        obtain ⟨adz,Az,cz,ez,hz0,hzl,hzr⟩:=ZQ (Kd.S_reads' HO8.out).2.2 s.f0 d3 d4
                        obtain rfl:(⟨gs,0,none⟩:Addr)=adz:=by injection ez
                        have HYL:=zA.mk hyl;have HYR:=zA.mk hyr;have HZL:=zA.mk hzl;have HZR:=zA.mk hzr;have z0:=zb.keepc HQ8.out hne Z0.out;have D1:=zA.mk d1;have D2:=zA.mk (show sy.f1 < (x6.length:Int) by rw [hn];exact d2);have d1':=eq_true d1;have d2':=eq_true D2.out;have d3':=eq_true d3;have d4':=eq_true (show s.f0 < (x6.length:Int) by rw [hn];exact d4)
                        try simp only [ZM] at hy0 hz0
                        have hH:=zA.mk H;clear H hc hj hn hyl hyr hzl hzr ey ez d1 d2 d3 d4 H'
                        go_wp2
                        have HKEEP:=zA.mk (show ∀V:World,Below w8.heap.size w8 V→V.cell? ⟨gs,sy.f1.toNat,none⟩=some (.slice Ay (zl st sy.f1).length cy)∧V.cell? ⟨gs,s.f0.toNat,none⟩=some (.slice Az (zl st s.f0).length cz)∧V.cell? ⟨g6,0,none⟩=some (.int .i64 s.f0)∧V.cell? ⟨w.heap.size,1,none⟩=some (.int .i64 a0_1) from fun V hv=>⟨(hv.cell (ZzA _ _ hy0)).trans hy0,(hv.cell (ZzA _ _ hz0)).trans hz0,(hv.cell (ZzA _ _ z0)).trans z0,(hv.cell (ZzA _ _ q1)).trans q1⟩)
                        go_region_held3 (fun V=>V.cell? ⟨gs,sy.f1.toNat,none⟩=some (.slice Ay (zl st sy.f1).length cy)∧V.cell? ⟨gs,s.f0.toNat,none⟩=some (.slice Az (zl st s.f0).length cz)∧V.cell? ⟨g6,0,none⟩=some (.int .i64 s.f0)∧V.cell? ⟨w.heap.size,1,none⟩=some (.int .i64 a0_1))
                         (first|go_keep|exact HKEEP.out _ hb9|exact HKEEP.out _ hb10)
                         (first
                          | (go_at_call 22;refine (zM.calls k5 Ax cx xr Az cz (zl st s.f0) a0_1 c _ (Kd.C_drew HX.out) HXL.out (Kd.C_drew HZR.out) HZL.out HC.out).mono ?_;rintro e w9 ⟨v9,rfl,hR9,hb9⟩;replace hb9:Below w8.heap.size w8 w9:=zE (zH (Below.refl w8.heap.size w8)) hb9;obtain ⟨A9,c9,e9⟩:=Kd.R_slice hR9;subst e9)
                          | (go_at_call 26;refine (zj.calls k5 Ay cy (zl st sy.f1) A9 c9 c j w9 (Kd.C_below HYR.out hb9) HYL.out (Kd.R_reads' hR9).2.2 (Kd.R_reads' hR9).2.1 HJ.out).mono ?_;rintro e w10 ⟨v10,rfl,hR10,hb10⟩;replace hb10:Below w8.heap.size w8 w10:=zE hb9 hb10;obtain ⟨A10,c10,e10⟩:=Kd.R_slice hR10;subst e10))
                        obtain ⟨hy10,hz10,z010,q110⟩:=HKEEP.out _ hb10;have hw18:w1.heap.size≤w8.heap.size:=HB8.out.size;have hput:=zb.put_row (W0:=w8) hw18 HO8.out hb10 (Kd.R_lower hR10 hb9.size) sy.f1 D1.out D2.out;have hfz:=(zb.put_ok (Kd.S_below HO8.out hb10) sy.f1 D1.out D2.out).1;have HP1:=zA.mk hput.1;have HP2:=zA.mk hput.2;have HO10:=zA.mk (Kd.S_below HO8.out hb10);have HQ10:=zA.mk (yB.trans HQ8.out (yB.of_below hb10 gs none) (.inl rfl));have HB10:=zA.mk (zE HB8.out hb10);clear hR9 hb9 hR10 hb10 hput hy0 hz0 z0 q1 HKEEP hw18 HX HO8 HQ8 HB8 hx1 z1
                        by_cases c40:(j.length:Int) > 600
                        ·have H:=hH.out
                         rw [if_pos c40] at H;obtain ⟨rfl,rfl⟩:=Prod.mk.inj (Option.some.inj H);have c40b:=decide_eq_true c40;clear H c40
                         go_wp2
                         go_ret2
                         exact ⟨_,rfl,Kd.S_nil _ _ _ _ _,zE HB1.out HB10.out⟩
                        ·have H:=hH.out
                         rw [if_neg c40] at H;have c40b:=decide_eq_false c40
                         by_cases c41:(j.length:Int) > ((zl st sy.f1).length:Int)
                         ·rw [if_pos c41] at H
                          have c41b:decide ((zl st sy.f1).length < j.length)=true:=decide_eq_true (by omega);have H':=zA.mk H;clear H c40 c41
                          go_wp2
                          go_roundg k5
                          case measure=>have:=HK1.out;have:=HK2.out;have:=HK3.out;have:=HK4.out;have:=HK5.out;omega
                          case rel=>exact ⟨_,_,_,rfl,by first|rfl|rw [hji],H',⟨by have:=HK5.out;omega⟩,HP1,⟨yB.trans HQ10.out ⟨HP2.out.size,fun i hi hg _=>HP2.out.block i hi (fun e=>hg (Option.some.inj e))⟩ (.inl rfl)⟩,⟨zJ HB10.out HGE.out⟩⟩
                         ·rw [if_neg c41] at H
                          have c41b:decide ((zl st sy.f1).length < j.length)=false:=decide_eq_false (by omega);have H':=zA.mk H;clear H c40 c41
                          go_wp2
                          go_roundg k5
                          case measure=>have:=HK1.out;have:=HK2.out;have:=HK3.out;have:=HK4.out;have:=HK5.out;omega
                          case rel=>exact ⟨_,_,_,rfl,by first|rfl|rw [hji],H',⟨by have:=HK5.out;omega⟩,HO10,HQ10,HB10⟩
                      ·rw [if_neg c33] at H;cases H
                     ·rw [if_neg c32] at H;cases H
                    ·rw [hb0,if_pos rfl] at H
                     rw [hb0] at hx0;have H':=zA.mk H;clear H
                     go_wp2
                     go_roundg k5
                     case measure=>have:=HK1.out;have:=HK2.out;have:=HK3.out;have:=HK4.out;have:=HK5.out;omega
                     case rel=>exact ⟨_,_,_,rfl,rfl,H',⟨by have:=HK5.out;omega⟩,HO,HQ,HB⟩
                   ·rw [if_neg c31] at H;cases H
                  ·rw [if_neg c30] at H
                   have c30b0:=decide_eq_false c30;have H':=zA.mk H;clear H c30
                   go_wp2
                   go_roundg k5
                   case measure=>have:=HK1.out;have:=HK2.out;have:=HK3.out;have:=HK4.out;have:=HK5.out;omega
                   case rel=>exact ⟨_,_,_,rfl,rfl,H',⟨by have:=HK4.out;have:=HK5.out;omega⟩,HO,HB⟩
               ·rw [if_neg c21] at H;cases H
              ·rw [if_neg c20] at H
               have c20b0:=decide_eq_false c20;have H':=zA.mk H;clear H c20
               go_wp2
               go_roundg k4
               case measure=>have:=HK1.out;have:=HK2.out;have:=HK3.out;have:=HK4.out;omega
               case rel=>exact ⟨_,_,rfl,H',⟨by have:=HK3.out;have:=HK4.out;omega⟩,HO,HB⟩
        ·rw [if_neg c17] at H;cases H
 ·rw [if_neg h0] at ha
  obtain ⟨rfl,rfl⟩:=Prod.mk.inj (Option.some.inj ha);have hz:(e4 != 0)=true:=bne_iff_ne.mpr h0;have HN:=zA.mk h0;clear h ha hx hr2 hr3 hc2 hc3 h0
  go_enter Try.func20,Try.ntmps20
  go_wp2_with fail
  refine (yJ.calls k a0_0 a0_1 A2 c2 l0_2 A3 c3 l0_3 x4 e4 _ (Kd.C_alloc HR2.out _) HC2.out (Kd.C_alloc HR3.out _) HC3.out HX.out).mono ?_;rintro e w1 ⟨v1,rfl,hS1,hb1⟩;have HB1:=zA.mk (zE (zG (Below.refl w.heap.size w) _) hb1);clear hb1 hS1
  go_wp2
  go_ret2
  exact ⟨_,rfl,Kd.S_nil _ _ _ _ _,HB1.out⟩
end Go.Proofs.Ytlanhkekjhlmjaa.HGuessOf
