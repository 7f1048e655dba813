-- Written by plus.py for this claim.
import Derived.Test.YtpfeebmfihgelaaGreatSGuessWholeVZip
import Derived.Test.YtpfeebmfihgelaaGreatHGuessWholex0
import Derived.Test.YtpfeebmfihgelaaGreatHGuessWholex1
import Derived.Test.YtpfeebmfihgelaaGreatHGuessWholex4
namespace Go.Proofs.YtpfeebmfihgelaaGreat.HGuessWhole
open Go.RowKit Go.Proofs.YtpfeebmfihgelaaGreatW.PrintWords Go.Proofs.YtpfeebmfihgelaaGreatW.PrintLast Go.Proofs.YtpfeebmfihgelaaGreatW.PrintMore
attribute [local go_sem] ym yn ZG ZH yd ye yo yp   -- for this text's walks alone
set_option linter.unusedVariables false
set_option maxHeartbeats 8000000
set_option maxRecDepth 100000
set_option linter.unusedSimpArgs false
def zP.l0:Nat→List (S70)→Int→Int→Int→Int→List Int→List (S42)→Option (Int × Int × Int)
 | 0,_,_,_,_,_,_,_=>none
 | k + 1,x0,x7,x8,x2000,x2001,x2002,x2003=>if x8 < x7 then (if 0≤x8 then (if x8 < (x0.length:Int) then ((Ze.f ((zl x0 x8).f0) ((zl x0 x8).f1) x2000 x2001 x2002 x2003).bind fun bt169=>(if bt169.1=true then (some (x8,bt169.2.1,bt169.2.2)) else (zP.l0 k x0 x7 (wrap64 (x8 + 1)) bt169.2.1 bt169.2.2 x2002 x2003))) else (none)) else (none)) else (some ((-1),x2000,x2001))
def zP.f (k:Nat) (l0:List (S70)) (s1_0:Int) (s1_1:Int) (s1_2:List Int) (s1_3:List (S42)):Option (Int × Int × Int):=zP.l0 k l0 (l0.length:Int) 0 s1_0 s1_1 s1_2 s1_3
theorem zP.mono_l:∀k,(∀y0 y1 y2 y3 y4 y5 y6,LeO (zP.l0 k y0 y1 y2 y3 y4 y5 y6) (zP.l0 (k + 1) y0 y1 y2 y3 y4 y5 y6))
 | 0=>fun _ _ _ _ _ _ _ r h=>by simp [zP.l0] at h
 | k + 1=>by
  have ih0:=zP.mono_l k
  ·intro y0 y1 y2 y3 y4 y5 y6
   unfold zP.l0
   repeat' first
   | with_reducible first|exact ih0 _ _ _ _ _ _ _|exact LeO.refl _|exact LeO.none _|refine LeO.ite ?_ ?_|refine LeO.bind ?_ (fun _=> ?_)
theorem zP.mono:∀a0 a1 a2 a3 a4 k,LeO (zP.f k a0 a1 a2 a3 a4) (zP.f (k + 1) a0 a1 a2 a3 a4):=by
 intro a0 a1 a2 a3 a4 k;have ih0:=zP.mono_l k
 unfold zP.f
 repeat' first
   | with_reducible first|exact ih0 _ _ _ _ _ _ _|exact LeO.refl _|exact LeO.none _|refine LeO.ite ?_ ?_|refine LeO.bind ?_ (fun _=> ?_)
theorem zP.calls (k:Nat) (A0:Option Addr) (c0:Nat) (l0:List (S70)) (g:Nat) (s1_0:Int) (s1_1:Int) (s1_2:List Int) (s1_3:List (S42)) (r1:Int) (r2:Int) (r3:Int) (w0 w:World) (hI:zT w0 w g s1_0 s1_1 s1_2 s1_3) (hB:Below w0.heap.size w0 w) (hr0:∀W_,zk w W_ g none→Kd.C k70 W_ A0 l0.length l0) (hc0:l0.length≤c0) (h:zP.f k l0 s1_0 s1_1 s1_2 s1_3=some (r1,r2,r3)) :
  Calls Tryz.prog 116 #[.slice A0 l0.length c0, .func (.func 92) #[] #[.pointer (some ⟨g,0,none⟩)]] w fun e w'=>e= .returned (.int .i64 r1)∧zT w0 w' g r2 r3 s1_2 s1_3∧Below w0.heap.size w0 w'∧zk w w' g none:=by
 have hu70:=Tryz.underlying70;have HR0:=zA.mk hr0;have HC0:=zA.mk hc0;clear hr0 hc0;have HI1:=zA.mk hI;have HK:=zA.mk (zk.refl w g none);have HL:=zA.mk hB.size;clear hI;have HW0:=zA.mk hB.size;have HB:=zA.mk hB;clear hB;have H:(zP.l0 k l0 (l0.length:Int) 0 s1_0 s1_1 s1_2 s1_3)=some (r1,r2,r3):=h;clear h;have H':=zA.mk H;clear H
 go_enter Tryz.func116,Tryz.ntmps116
 go_wp2
 go_loopg [8] k (fun kq v8 w'=>∃(x8_1:Int) (x2000_1:Int) (x2001_1:Int),v8= .int .i64 x8_1∧zA (zP.l0 kq l0 (l0.length:Int) x8_1 x2000_1 x2001_1 s1_2 s1_3=some (r1,r2,r3))∧zA (kq≤k)∧zA (zT w0 w' g x2000_1 x2001_1 s1_2 s1_3)∧zA (zk w w' g none)∧zA (Below w0.heap.size w0 w'))
 case atStart=>exact ⟨(0),(s1_0),(s1_1),Q6,H',⟨Nat.le_refl _⟩,⟨by repeat (first|(with_reducible first|exact HI1.out|apply zT.alloc|apply zT.drewN|apply zT.drew|apply zT.set_0|apply zT.set_1)|exact HI1.out)⟩,⟨by repeat (first|(with_reducible first|exact HK.out|apply zk.set_|apply ya|apply yj|apply yb)|exact HK.out)⟩,⟨by repeat (first|(with_reducible first|exact HB.out|apply zG|apply zC|apply zI|refine zK ?_ (zT.ge HI1.out))|exact HB.out)⟩⟩
 case round=>
  clear H';(try clear p2);obtain ⟨x8_1,x2000_1,x2001_1,rfl,HA,HK1,HI1,HK,HB⟩:=hrel;cases gk with
  | zero=>exact absurd HA.out (by simp [zP.l0])
  | succ k1=>
   have H:=HA.out;clear HA;simp only [zP.l0] at H
   by_cases c3:x8_1 < (l0.length:Int)
   ·rw [if_pos c3] at H
    have c3b0:=decide_eq_true c3;clear c3
    by_cases c4:0≤x8_1
    ·rw [if_pos c4] at H
     have c4b0:=decide_eq_true c4;clear c4
     by_cases c5:x8_1 < (l0.length:Int)
     ·rw [if_pos c5] at H
      have c5b0:=decide_eq_true c5;clear c5;replace H:=ZzB H;obtain ⟨⟨t169,t170,t171⟩,A60,H⟩:=H;replace H:(if t169=true then (some (x8_1,t170,t171)) else (zP.l0 k1 l0 (l0.length:Int) (wrap64 (x8_1 + 1)) t170 t171 s1_2 s1_3))=some (r1,r2,r3):=H;have A6:=zA.mk A60;clear A60
      by_cases c7:t169=true
      ·subst c7
       have H1:(some (x8_1,t170,t171))=some (r1,r2,r3):=by rw [if_pos rfl] at H;exact H
       clear H;have H:=H1;clear H1;simp only [Option.some.injEq,Prod.mk.injEq] at H;obtain ⟨rfl,rfl,rfl⟩:=H;have p168:0≤(x8_1:Int):=Qa;have q168:x8_1 < (l0.length:Int):=Qa;obtain ⟨ad168,e168,hx168_0,hx168_1⟩:=Zq (Kd.C_foot_now HR0.out HK.out) x8_1 p168 q168;cases e168;replace p168:=eq_true p168;replace q168:=eq_true q168
       go_wp2_with (first|(go_at_call 92;(with_reducible refine (Ze.calls ((zl l0 x8_1).f0) ((zl l0 x8_1).f1) g x2000_1 x2001_1 s1_2 s1_3 true t170 t171 w0 _ ?side1 ?side2 A6.out).mono ?_);(case side1=>repeat (first|(with_reducible first|exact HI1.out|apply zT.alloc|apply zT.drewN|apply zT.drew|apply zT.set_0|apply zT.set_1)|exact HI1.out));(case side2=>repeat (first|(with_reducible first|exact HB.out|apply zG|apply zC|apply zI|refine zK ?_ (zT.ge HI1.out))|exact HB.out));rintro e w8 ⟨rfl,hi,hb,hk⟩;have n0_:=zA.mk (zk.trans QV hk (.inl rfl));have n1_:=zA.mk (hb);have n2_:=zA.mk (hi);clear HK HB HI1;have HK:=n0_;have HB:=n1_;have HI1:=n2_;clear n0_ n1_ n2_;(try clear hb);(try clear hb2);(try clear hk);(try clear hi)))
       go_ret
       exact ⟨by first|rfl|(simp [zb,zc] <;> rfl)|(simp [*,zb,zc] <;> rfl),by repeat (first|(with_reducible first|exact HI1.out|apply zT.alloc|apply zT.drewN|apply zT.drew|apply zT.set_0|apply zT.set_1)|exact HI1.out),by repeat (first|(with_reducible first|exact HB.out|apply zG|apply zC|apply zI|refine zK ?_ (zT.ge HI1.out))|exact HB.out),by repeat (first|(with_reducible first|exact HK.out|apply zk.set_|apply ya|apply yj|apply yb)|exact HK.out)⟩
      ·replace c7:=Bool.eq_false_iff.mpr c7
       subst c7
       have H1:(zP.l0 k1 l0 (l0.length:Int) (wrap64 (x8_1 + 1)) t170 t171 s1_2 s1_3)=some (r1,r2,r3):=by rw [if_neg (show ¬(false=true) by decide)] at H;exact H
       clear H;have H:=H1;clear H1;have H':=zA.mk H;clear H;have p168:0≤(x8_1:Int):=Qa;have q168:x8_1 < (l0.length:Int):=Qa;obtain ⟨ad168,e168,hx168_0,hx168_1⟩:=Zq (Kd.C_foot_now HR0.out HK.out) x8_1 p168 q168;cases e168;replace p168:=eq_true p168;replace q168:=eq_true q168
       go_wp2_with (first|(go_at_call 92;(with_reducible refine (Ze.calls ((zl l0 x8_1).f0) ((zl l0 x8_1).f1) g x2000_1 x2001_1 s1_2 s1_3 false t170 t171 w0 _ ?side1 ?side2 A6.out).mono ?_);(case side1=>repeat (first|(with_reducible first|exact HI1.out|apply zT.alloc|apply zT.drewN|apply zT.drew|apply zT.set_0|apply zT.set_1)|exact HI1.out));(case side2=>repeat (first|(with_reducible first|exact HB.out|apply zG|apply zC|apply zI|refine zK ?_ (zT.ge HI1.out))|exact HB.out));rintro e w9 ⟨rfl,hi,hb,hk⟩;have n0_:=zA.mk (zk.trans QV hk (.inl rfl));have n1_:=zA.mk (hb);have n2_:=zA.mk (hi);clear HK HB HI1;have HK:=n0_;have HB:=n1_;have HI1:=n2_;clear n0_ n1_ n2_;(try clear hb);(try clear hb2);(try clear hk);(try clear hi)))
       go_roundg k1
       case measure=>have:=HK1.out;omega
       case rel=>exact ⟨(wrap64 (x8_1 + 1)),(t170),(t171),Q6,H',⟨by have:=HK1.out;omega⟩,⟨by repeat (first|(with_reducible first|exact HI1.out|apply zT.alloc|apply zT.drewN|apply zT.drew|apply zT.set_0|apply zT.set_1)|exact HI1.out)⟩,⟨by repeat (first|(with_reducible first|exact HK.out|apply zk.set_|apply ya|apply yj|apply yb)|exact HK.out)⟩,⟨by repeat (first|(with_reducible first|exact HB.out|apply zG|apply zC|apply zI|refine zK ?_ (zT.ge HI1.out))|exact HB.out)⟩⟩
     ·rw [if_neg c5] at H
      exact absurd H (by simp)
    ·rw [if_neg c4] at H
     exact absurd H (by simp)
   ·rw [if_neg c3] at H
    have c3b0:=decide_eq_false c3;clear c3;simp only [Option.some.injEq,Prod.mk.injEq] at H;obtain ⟨rfl,rfl,rfl⟩:=H
    go_wp2
    go_ret
    exact ⟨by first|rfl|(simp [zb,zc] <;> rfl)|(simp [*,zb,zc] <;> rfl),by repeat (first|(with_reducible first|exact HI1.out|apply zT.alloc|apply zT.drewN|apply zT.drew|apply zT.set_0|apply zT.set_1)|exact HI1.out),by repeat (first|(with_reducible first|exact HB.out|apply zG|apply zC|apply zI|refine zK ?_ (zT.ge HI1.out))|exact HB.out),by repeat (first|(with_reducible first|exact HK.out|apply zk.set_|apply ya|apply yj|apply yb)|exact HK.out)⟩
def zy.f (k:Nat) (l0:List (S70)) (s1_0:Int) (s1_1:Int) (s1_2:List Int) (s1_3:List (S42)):Option (Bool × Int × Int):=(zP.f k l0 s1_0 s1_1 s1_2 s1_3).bind fun bt172=>(some (decide (bt172.1≥0),bt172.2.1,bt172.2.2))
theorem zy.mono:∀a0 a1 a2 a3 a4 k,LeO (zy.f k a0 a1 a2 a3 a4) (zy.f (k + 1) a0 a1 a2 a3 a4):=by
 intro a0 a1 a2 a3 a4 k
 unfold zy.f
 repeat' first
   | with_reducible first|exact zP.mono _ _ _ _ _ _|exact LeO.refl _|exact LeO.none _|refine LeO.ite ?_ ?_|refine LeO.bind ?_ (fun _=> ?_)
theorem zy.calls (k:Nat) (A0:Option Addr) (c0:Nat) (l0:List (S70)) (g:Nat) (s1_0:Int) (s1_1:Int) (s1_2:List Int) (s1_3:List (S42)) (r1:Bool) (r2:Int) (r3:Int) (w0 w:World) (hI:zT w0 w g s1_0 s1_1 s1_2 s1_3) (hB:Below w0.heap.size w0 w) (hr0:∀W_,zk w W_ g none→Kd.C k70 W_ A0 l0.length l0) (hc0:l0.length≤c0) (h:zy.f k l0 s1_0 s1_1 s1_2 s1_3=some (r1,r2,r3)) :
  Calls Tryz.prog 91 #[.slice A0 l0.length c0, .func (.func 92) #[] #[.pointer (some ⟨g,0,none⟩)]] w fun e w'=>e= .returned (.bool r1)∧zT w0 w' g r2 r3 s1_2 s1_3∧Below w0.heap.size w0 w'∧zk w w' g none:=by
 have HR0:=zA.mk hr0;have HC0:=zA.mk hc0;clear hr0 hc0;have HI1:=zA.mk hI;have HK:=zA.mk (zk.refl w g none);have HL:=zA.mk hB.size;clear hI;have HW0:=zA.mk hB.size;have HB:=zA.mk hB;clear hB;have H:((zP.f k l0 s1_0 s1_1 s1_2 s1_3).bind fun bt172=>(some (decide (bt172.1≥0),bt172.2.1,bt172.2.2)))=some (r1,r2,r3):=h;clear h;replace H:=ZzB H;obtain ⟨⟨t172,t173,t174⟩,A30,H⟩:=H;replace H:(some (decide (t172≥0),t173,t174))=some (r1,r2,r3):=H;have A3:=zA.mk A30;clear A30;simp only [Option.some.injEq,Prod.mk.injEq] at H;obtain ⟨rfl,rfl,rfl⟩:=H
 go_enter Tryz.func91,Tryz.ntmps91
 go_wp2_with (first|((with_reducible refine zm (f:=116) rfl ?_);refine yJ (some 7) rfl rfl Tryz.func116 (by kernel_rfl) rfl #[.slice A0 l0.length c0, .func (.func 92) #[] #[.pointer (some ⟨g,0,none⟩)]] rfl QZ ?_;(with_reducible refine (zP.calls k _ _ l0 g s1_0 s1_1 s1_2 s1_3 t172 t173 t174 w0 _ ?side1 ?side2 ?side3 ?side4 A3.out).mono ?_);(case side1=>repeat (first|(with_reducible first|exact HI1.out|apply zT.alloc|apply zT.drewN|apply zT.drew|apply zT.set_0|apply zT.set_1)|exact HI1.out));(case side2=>repeat (first|(with_reducible first|exact HB.out|apply zG|apply zC|apply zI|refine zK ?_ (zT.ge HI1.out))|exact HB.out));(case side3=>exact Kd.C_foot_step HR0.out QV);(case side4=>exact HC0.out);rintro e w4 ⟨rfl,hi,hb,hk⟩;refine ⟨_,rfl,?_⟩;have n0_:=zA.mk (zk.trans QV hk (.inl rfl));have n1_:=zA.mk (hb);have n2_:=zA.mk (hi);clear HK HB HI1;have HK:=n0_;have HB:=n1_;have HI1:=n2_;clear n0_ n1_ n2_;(try clear hb);(try clear hb2);(try clear hk);(try clear hi)))
 go_ret
 exact ⟨by first|rfl|(simp [zb,zc] <;> rfl)|(simp [*,zb,zc] <;> rfl),by repeat (first|(with_reducible first|exact HI1.out|apply zT.alloc|apply zT.drewN|apply zT.drew|apply zT.set_0|apply zT.set_1)|exact HI1.out),by repeat (first|(with_reducible first|exact HB.out|apply zG|apply zC|apply zI|refine zK ?_ (zT.ge HI1.out))|exact HB.out),by repeat (first|(with_reducible first|exact HK.out|apply zk.set_|apply ya|apply yj|apply yb)|exact HK.out)⟩
def ZT.f (k:Nat) (a0_0:Int) (a0_1:Int) (l0_2:List Int) (va:List (S42)) (a1_0:Int) (l1_1:List (S70)):Option (Bool):=if a1_0≥0 then (if a1_0 < (l0_2.length:Int) then ((zy.f k l1_1 a0_0 a0_1 l0_2 va).bind fun bt177=>(some (!bt177.1))) else (some false)) else (some false)
theorem ZT.mono:∀a0 a1 a2 a3 a4 a5 k,LeO (ZT.f k a0 a1 a2 a3 a4 a5) (ZT.f (k + 1) a0 a1 a2 a3 a4 a5):=by
 intro a0 a1 a2 a3 a4 a5 k
 unfold ZT.f
 repeat' first
   | with_reducible first|exact zy.mono _ _ _ _ _ _|exact LeO.refl _|exact LeO.none _|refine LeO.ite ?_ ?_|refine LeO.bind ?_ (fun _=> ?_)
theorem ZT.calls (k:Nat) (a0_0:Int) (a0_1:Int) (vn:Option Addr) (vo:Nat) (l0_2:List Int) (vA:Option Addr) (vq:Nat) (va:List (S42)) (a1_0:Int) (A1_1:Option Addr) (c1_1:Nat) (l1_1:List (S70)) (r:Bool) (w:World) (hr0_2:Kd.C (Kd.int .i64) w vn l0_2.length l0_2) (hc0_2:l0_2.length≤vo) (hr0_3:Kd.C k42 w vA va.length va) (hc0_3:va.length≤vq) (hr1_1:Kd.C k70 w A1_1 l1_1.length l1_1) (hc1_1:l1_1.length≤c1_1) (h:ZT.f k a0_0 a0_1 l0_2 va a1_0 l1_1=some r) :
  Calls Tryz.prog 78 #[.agg #[.int .i64 a0_0, .int .i64 a0_1, .slice vn l0_2.length vo, .slice vA va.length vq], .agg #[.int .i64 a1_0, .slice A1_1 l1_1.length c1_1]] w fun e w'=>e= .returned (.bool r)∧Below w.heap.size w w':=by
 have hu25:=Tryz.underlying25;have hu42:=Tryz.underlying42;have wh:=zA.mk hr0_2;have wi:=zA.mk hc0_2;clear hr0_2 hc0_2;have vQ:=zA.mk hr0_3;have wj:=zA.mk hc0_3;clear hr0_3 hc0_3;have HR1_1:=zA.mk hr1_1;have HC1_1:=zA.mk hc1_1;clear hr1_1 hc1_1;have HB:=zA.mk (Below.refl w.heap.size w);have H:(if a1_0≥0 then (if a1_0 < (l0_2.length:Int) then ((zy.f k l1_1 a0_0 a0_1 l0_2 va).bind fun bt177=>(some (!bt177.1))) else (some false)) else (some false))=some r:=h;clear h
 by_cases c3:a1_0≥0
 ·rw [if_pos c3] at H
  have c3b0:=decide_eq_true c3;clear c3
  by_cases c4:a1_0 < (l0_2.length:Int)
  ·rw [if_pos c4] at H
   have c4b0:=decide_eq_true c4;clear c4;replace H:=ZzB H;obtain ⟨⟨t177,t178,t179⟩,A50,H⟩:=H;replace H:(some (!t177))=some r:=H;have A5:=zA.mk A50;clear A50;obtain rfl:=Option.some.inj H
   go_enter Tryz.func78,Tryz.ntmps78
   go_wp2_with (first|((with_reducible refine zx (N:=2) rfl ?_);(try (refine yT (by rfl) ?_;dsimp only));refine yF (by rfl) (N:=2) (by rfl) (cs:= #[.int .i64 a0_0, .int .i64 a0_1, .slice vn l0_2.length vo, .slice vA va.length vq]) (t:=25) Qm ?_;intro wt hg w6 hbox hb;have n0_:=zA.mk (zD Qc hb);have n1_:=zA.mk ((⟨_,_,_,_,hbox,(by rw [hg];exact (zE Qc):w.heap.size≤wt),⟨wh.out,wi.out⟩,⟨vQ.out,wj.out⟩⟩:zT w w6 wt a0_0 a0_1 l0_2 va));clear HB;have HB:=n0_;have HI175:=n1_;clear n0_ n1_ hb hbox hg)|((with_reducible refine zx (N:=3) rfl ?_);(try (refine yT (by rfl) ?_;dsimp only));refine yF (by rfl) (N:=3) (by rfl) (cs:= #[.int .i64 a1_0, .slice A1_1 l1_1.length c1_1]) (t:=42) Qm ?_;intro gb176 hg w7 hbox hb;have n0_:=zA.mk (zT.below QQ hb);have n1_:=zA.mk (zD QO hb);have n2_:=zA.mk (hbox);have n3_:=zA.mk ((by rw [hg];exact (zE QO):w.heap.size≤gb176));have n4_:=zA.mk ((by rw [hg];exact (zE QO):w.heap.size≤gb176));have n5_:=zA.mk ((by rw [hg];exact Nat.ne_of_lt (zT.lt (show zT w _ wt a0_0 a0_1 l0_2 va from by repeat (first|(with_reducible first|exact HI175.out|apply zT.alloc|apply zT.drewN|apply zT.drew|apply zT.set_0|apply zT.set_1)|exact HI175.out))):wt≠gb176));have n6_:=zA.mk ((by rw [hg];exact Nat.ne_of_gt (zT.lt (show zT w _ wt a0_0 a0_1 l0_2 va from by repeat (first|(with_reducible first|exact HI175.out|apply zT.alloc|apply zT.drewN|apply zT.drew|apply zT.set_0|apply zT.set_1)|exact HI175.out))):gb176≠wt));clear HI175 HB;have HI175:=n0_;have HB:=n1_;have BK176:=n2_;have GW176:=n3_;have GE176:=n4_;have NB175_176:=n5_;have NB176_175:=n6_;clear n0_ n1_ n2_ n3_ n4_ n5_ n6_ hb hbox hg;have hnb8:=NB176_175.out;have hnc8:=NB175_176.out;have hcz9_0:=Qn BK176 0 rfl;have hcz9_1:=Qn BK176 1 rfl;have hfz9_0:=zB BK176.out 0;have hfz9_1:=zB BK176.out 1;obtain ⟨ASz10_2,cSz10_2,ASz10_3,cSz10_3,HGz10,hgz10,⟨HSz10_2,HTz10_2⟩,⟨HSz10_3,HTz10_3⟩⟩:=HI175.out;have hcz10_0:=ZM HGz10;have hcz10_1:=ZN HGz10;have hcz10_2:=ZO HGz10;have hcz10_3:=ZP HGz10;have hfz10_0:=zB HGz10 0;have hfz10_1:=zB HGz10 1;clear HGz10 hgz10)|(go_at_call 91;(with_reducible refine (zy.calls k _ _ l1_1 wt a0_0 a0_1 l0_2 va t177 t178 t179 w _ ?side1 ?side2 ?side3 ?side4 A5.out).mono ?_);(case side1=>repeat (first|(with_reducible first|exact HI175.out|apply zT.alloc|apply zT.drewN|apply zT.drew|apply zT.set_0|apply zT.set_1|refine zT.far ?_ NB175_176.out _)|exact HI175.out));(case side2=>repeat (first|(with_reducible first|exact HB.out|apply zG|apply zC|apply zI|refine zK ?_ (zT.ge HI175.out)|refine zK ?_ GE176.out)|exact HB.out));(case side3=>exact Kd.C_foot_came k70_heap HR1_1.out (by repeat (first|(with_reducible first|exact HB.out|apply zG|apply zC|apply zI|refine zK ?_ (zT.ge HI175.out)|refine zK ?_ GE176.out)|exact HB.out)) (zT.ge HI175.out));(case side4=>exact HC1_1.out);rintro e w11 ⟨rfl,hi,hb,hk⟩;have n1_:=zA.mk (hb);have n2_:=zA.mk (hi);clear HB HI175;have HB:=n1_;have HI175:=n2_;clear n1_ n2_;(try clear hb);(try clear hb2);(try clear hk);(try clear hi)))
   go_ret
   exact ⟨by first|rfl|(simp [zb,zc] <;> rfl)|(simp [*,zb,zc] <;> rfl),by repeat (first|(with_reducible first|exact HB.out|apply zG|apply zC|apply zI|refine zK ?_ (zT.ge HI175.out)|refine zK ?_ GE176.out)|exact HB.out)⟩
  ·rw [if_neg c4] at H
   have c4b0:=decide_eq_false c4;clear c4;obtain rfl:=Option.some.inj H
   go_enter Tryz.func78,Tryz.ntmps78
   go_wp2_with (first|((with_reducible refine zx (N:=2) rfl ?_);(try (refine yT (by rfl) ?_;dsimp only));refine yF (by rfl) (N:=2) (by rfl) (cs:= #[.int .i64 a0_0, .int .i64 a0_1, .slice vn l0_2.length vo, .slice vA va.length vq]) (t:=25) Qm ?_;intro wt hg w12 hbox hb;have n0_:=zA.mk (zD Qc hb);have n1_:=zA.mk ((⟨_,_,_,_,hbox,(by rw [hg];exact (zE Qc):w.heap.size≤wt),⟨wh.out,wi.out⟩,⟨vQ.out,wj.out⟩⟩:zT w w12 wt a0_0 a0_1 l0_2 va));clear HB;have HB:=n0_;have HI175:=n1_;clear n0_ n1_ hb hbox hg)|((with_reducible refine zx (N:=3) rfl ?_);(try (refine yT (by rfl) ?_;dsimp only));refine yF (by rfl) (N:=3) (by rfl) (cs:= #[.int .i64 a1_0, .slice A1_1 l1_1.length c1_1]) (t:=42) Qm ?_;intro gb176 hg w13 hbox hb;have n0_:=zA.mk (zT.below QQ hb);have n1_:=zA.mk (zD QO hb);have n2_:=zA.mk (hbox);have n3_:=zA.mk ((by rw [hg];exact (zE QO):w.heap.size≤gb176));have n4_:=zA.mk ((by rw [hg];exact (zE QO):w.heap.size≤gb176));have n5_:=zA.mk ((by rw [hg];exact Nat.ne_of_lt (zT.lt (show zT w _ wt a0_0 a0_1 l0_2 va from by repeat (first|(with_reducible first|exact HI175.out|apply zT.alloc|apply zT.drewN|apply zT.drew|apply zT.set_0|apply zT.set_1)|exact HI175.out))):wt≠gb176));have n6_:=zA.mk ((by rw [hg];exact Nat.ne_of_gt (zT.lt (show zT w _ wt a0_0 a0_1 l0_2 va from by repeat (first|(with_reducible first|exact HI175.out|apply zT.alloc|apply zT.drewN|apply zT.drew|apply zT.set_0|apply zT.set_1)|exact HI175.out))):gb176≠wt));clear HI175 HB;have HI175:=n0_;have HB:=n1_;have BK176:=n2_;have GW176:=n3_;have GE176:=n4_;have NB175_176:=n5_;have NB176_175:=n6_;clear n0_ n1_ n2_ n3_ n4_ n5_ n6_ hb hbox hg;have hnb14:=NB176_175.out;have hnc14:=NB175_176.out;have hcz15_0:=Qn BK176 0 rfl;have hcz15_1:=Qn BK176 1 rfl;have hfz15_0:=zB BK176.out 0;have hfz15_1:=zB BK176.out 1;obtain ⟨ASz16_2,cSz16_2,ASz16_3,cSz16_3,HGz16,hgz16,⟨HSz16_2,HTz16_2⟩,⟨HSz16_3,HTz16_3⟩⟩:=HI175.out;have hcz16_0:=ZM HGz16;have hcz16_1:=ZN HGz16;have hcz16_2:=ZO HGz16;have hcz16_3:=ZP HGz16;have hfz16_0:=zB HGz16 0;have hfz16_1:=zB HGz16 1;clear HGz16 hgz16))
   go_ret
   exact ⟨by first|rfl|(simp [zb,zc] <;> rfl)|(simp [*,zb,zc] <;> rfl),by repeat (first|(with_reducible first|exact HB.out|apply zG|apply zC|apply zI|refine zK ?_ (zT.ge HI175.out)|refine zK ?_ GE176.out)|exact HB.out)⟩
 ·rw [if_neg c3] at H
  have c3b0:=decide_eq_false c3;clear c3;obtain rfl:=Option.some.inj H
  go_enter Tryz.func78,Tryz.ntmps78
  go_wp2_with (first|((with_reducible refine zx (N:=2) rfl ?_);(try (refine yT (by rfl) ?_;dsimp only));refine yF (by rfl) (N:=2) (by rfl) (cs:= #[.int .i64 a0_0, .int .i64 a0_1, .slice vn l0_2.length vo, .slice vA va.length vq]) (t:=25) Qm ?_;intro wt hg w17 hbox hb;have n0_:=zA.mk (zD Qc hb);have n1_:=zA.mk ((⟨_,_,_,_,hbox,(by rw [hg];exact (zE Qc):w.heap.size≤wt),⟨wh.out,wi.out⟩,⟨vQ.out,wj.out⟩⟩:zT w w17 wt a0_0 a0_1 l0_2 va));clear HB;have HB:=n0_;have HI175:=n1_;clear n0_ n1_ hb hbox hg)|((with_reducible refine zx (N:=3) rfl ?_);(try (refine yT (by rfl) ?_;dsimp only));refine yF (by rfl) (N:=3) (by rfl) (cs:= #[.int .i64 a1_0, .slice A1_1 l1_1.length c1_1]) (t:=42) Qm ?_;intro gb176 hg w18 hbox hb;have n0_:=zA.mk (zT.below QQ hb);have n1_:=zA.mk (zD QO hb);have n2_:=zA.mk (hbox);have n3_:=zA.mk ((by rw [hg];exact (zE QO):w.heap.size≤gb176));have n4_:=zA.mk ((by rw [hg];exact (zE QO):w.heap.size≤gb176));have n5_:=zA.mk ((by rw [hg];exact Nat.ne_of_lt (zT.lt (show zT w _ wt a0_0 a0_1 l0_2 va from by repeat (first|(with_reducible first|exact HI175.out|apply zT.alloc|apply zT.drewN|apply zT.drew|apply zT.set_0|apply zT.set_1)|exact HI175.out))):wt≠gb176));have n6_:=zA.mk ((by rw [hg];exact Nat.ne_of_gt (zT.lt (show zT w _ wt a0_0 a0_1 l0_2 va from by repeat (first|(with_reducible first|exact HI175.out|apply zT.alloc|apply zT.drewN|apply zT.drew|apply zT.set_0|apply zT.set_1)|exact HI175.out))):gb176≠wt));clear HI175 HB;have HI175:=n0_;have HB:=n1_;have BK176:=n2_;have GW176:=n3_;have GE176:=n4_;have NB175_176:=n5_;have NB176_175:=n6_;clear n0_ n1_ n2_ n3_ n4_ n5_ n6_ hb hbox hg;have hnb19:=NB176_175.out;have hnc19:=NB175_176.out;have hcz20_0:=Qn BK176 0 rfl;have hcz20_1:=Qn BK176 1 rfl;have hfz20_0:=zB BK176.out 0;have hfz20_1:=zB BK176.out 1))
  go_ret
  exact ⟨by first|rfl|(simp [zb,zc] <;> rfl)|(simp [*,zb,zc] <;> rfl),by repeat (first|(with_reducible first|exact HB.out|apply zG|apply zC|apply zI|refine zK ?_ (zT.ge HI175.out)|refine zK ?_ GE176.out)|exact HB.out)⟩
def yy.f (k:Nat) (a0_0:Int) (vC:List (S70)) (s1_0:Int) (s1_1:Int) (s1_2:List Int) (s1_3:List (S42)):Option (Bool × Int × Int):=(ZT.f k s1_0 s1_1 s1_2 s1_3 a0_0 vC).bind fun t181=>(some (!t181,s1_0,s1_1))
theorem yy.mono:∀a0 a1 a2 a3 a4 a5 k,LeO (yy.f k a0 a1 a2 a3 a4 a5) (yy.f (k + 1) a0 a1 a2 a3 a4 a5):=by
 intro a0 a1 a2 a3 a4 a5 k
 unfold yy.f
 repeat' first
   | with_reducible first|exact ZT.mono _ _ _ _ _ _ _|exact LeO.refl _|exact LeO.none _|refine LeO.ite ?_ ?_|refine LeO.bind ?_ (fun _=> ?_)
theorem yy.calls (k:Nat) (a0_0:Int) (A0_1:Option Addr) (c0_1:Nat) (vC:List (S70)) (g:Nat) (s1_0:Int) (s1_1:Int) (s1_2:List Int) (s1_3:List (S42)) (r1:Bool) (r2:Int) (r3:Int) (w0 w:World) (hI:zT w0 w g s1_0 s1_1 s1_2 s1_3) (hB:Below w0.heap.size w0 w) (hr0_1:∀W_,zk w W_ g none→Kd.C k70 W_ A0_1 vC.length vC) (hc0_1:vC.length≤c0_1) (h:yy.f k a0_0 vC s1_0 s1_1 s1_2 s1_3=some (r1,r2,r3)) :
  Calls Tryz.prog 77 #[.agg #[.int .i64 a0_0, .slice A0_1 vC.length c0_1], .pointer (some ⟨g,0,none⟩)] w fun e w'=>e= .returned (.bool r1)∧zT w0 w' g r2 r3 s1_2 s1_3∧Below w0.heap.size w0 w'∧zk w w' g none:=by
 have hu42:=Tryz.underlying42;have hu25:=Tryz.underlying25;have HR0_1:=zA.mk hr0_1;have HC0_1:=zA.mk hc0_1;clear hr0_1 hc0_1;have HI1:=zA.mk hI;have HK:=zA.mk (zk.refl w g none);have HL:=zA.mk hB.size;clear hI;have HW0:=zA.mk hB.size;have HB:=zA.mk hB;clear hB;have H:((ZT.f k s1_0 s1_1 s1_2 s1_3 a0_0 vC).bind fun t181=>(some (!t181,s1_0,s1_1)))=some (r1,r2,r3):=h;clear h;replace H:=ZzB H;obtain ⟨t181,A30,H⟩:=H;replace H:(some (!t181,s1_0,s1_1))=some (r1,r2,r3):=H;have A3:=zA.mk A30;clear A30;simp only [Option.some.injEq,Prod.mk.injEq] at H;obtain ⟨rfl,rfl,rfl⟩:=H
 go_enter Tryz.func77,Tryz.ntmps77
 go_wp2_with (first|((with_reducible refine zx (N:=2) rfl ?_);refine yF (by rfl) (N:=2) (by rfl) (cs:= #[.int .i64 a0_0, .slice A0_1 vC.length c0_1]) (t:=42) Qm ?_;intro gb180 hg w4 hbox hb;have n0_:=zA.mk (zT.below QS hb);have n1_:=zA.mk (zk.trans QV (zk.of_below hb g none) (.inl rfl));have n2_:=zA.mk (zD QR hb);have n3_:=zA.mk (hbox);have n4_:=zA.mk ((by rw [hg];exact (Yj (w:=w) (g:=g) (row:=none) QV):w.heap.size≤gb180));have n5_:=zA.mk ((Nat.le_trans HW0.out (by rw [hg];exact (Yj (w:=w) (g:=g) (row:=none) QV):w.heap.size≤gb180):w0.heap.size≤gb180));have n6_:=zA.mk ((by rw [hg];exact Nat.ne_of_lt (zT.lt (show zT w0 _ g s1_0 s1_1 s1_2 s1_3 from by repeat (first|(with_reducible first|exact HI1.out|apply zT.alloc|apply zT.drewN|apply zT.drew|apply zT.set_0|apply zT.set_1)|exact HI1.out))):g≠gb180));have n7_:=zA.mk ((by rw [hg];exact Nat.ne_of_gt (zT.lt (show zT w0 _ g s1_0 s1_1 s1_2 s1_3 from by repeat (first|(with_reducible first|exact HI1.out|apply zT.alloc|apply zT.drewN|apply zT.drew|apply zT.set_0|apply zT.set_1)|exact HI1.out))):gb180≠g));clear HI1 HK HB;have HI1:=n0_;have HK:=n1_;have HB:=n2_;have BK180:=n3_;have GW180:=n4_;have GE180:=n5_;have NB1_180:=n6_;have NB180_1:=n7_;clear n0_ n1_ n2_ n3_ n4_ n5_ n6_ n7_ hb hbox hg;obtain ⟨ASz5_2,cSz5_2,ASz5_3,cSz5_3,HGz5,hgz5,⟨HSz5_2,HTz5_2⟩,⟨HSz5_3,HTz5_3⟩⟩:=HI1.out;have hcz5_0:=ZM HGz5;have hcz5_1:=ZN HGz5;have hcz5_2:=ZO HGz5;have hcz5_3:=ZP HGz5;have hfz5_0:=zB HGz5 0;have hfz5_1:=zB HGz5 1;clear HGz5 hgz5;have hnb6:=NB180_1.out;have hnc6:=NB1_180.out;have hcz7_0:=Qn BK180 0 rfl;have hcz7_1:=Qn BK180 1 rfl;have hfz7_0:=zB BK180.out 0;have hfz7_1:=zB BK180.out 1)|((with_reducible refine zm (f:=78) rfl ?_);refine yJ (some 6) rfl rfl Tryz.func78 (by kernel_rfl) rfl #[.agg #[.int .i64 s1_0, .int .i64 s1_1,(.slice ASz5_2 s1_2.length cSz5_2),(.slice ASz5_3 s1_3.length cSz5_3)], .agg #[.int .i64 a0_0, .slice A0_1 vC.length c0_1]] rfl QZ ?_;(with_reducible refine (ZT.calls k s1_0 s1_1 _ _ s1_2 _ _ s1_3 a0_0 _ _ vC t181 _ ?side1 ?side2 ?side3 ?side4 ?side5 ?side6 A3.out).mono ?_);(case side1=>exact Kd.C_below HSz5_2 QG);(case side2=>exact HTz5_2);(case side3=>exact Kd.C_below HSz5_3 QG);(case side4=>exact HTz5_3);(case side5=>exact Kd.C_foot_now HR0_1.out QN);(case side6=>exact HC0_1.out);rintro e w8 ⟨rfl,hb⟩;refine ⟨_,rfl,?_⟩;have n0_:=zA.mk (zT.below (by repeat (first|(with_reducible first|exact HI1.out|apply zT.alloc|apply zT.drewN|apply zT.drew|apply zT.set_0|apply zT.set_1|refine zT.far ?_ NB1_180.out _)|exact HI1.out)) hb);have n2_:=zA.mk (zk.trans QN (zk.of_below hb g none) (.inl rfl));have n3_:=zA.mk (zD QG hb);clear HI1 HK HB;have HI1:=n0_;have HK:=n2_;have HB:=n3_;clear n0_ n2_ n3_;(try clear hb);(try clear hb2);(try clear hk);(try clear hi)))
 go_ret
 exact ⟨by first|rfl|(simp [zb,zc] <;> rfl)|(simp [*,zb,zc] <;> rfl),by repeat (first|(with_reducible first|exact HI1.out|apply zT.alloc|apply zT.drewN|apply zT.drew|apply zT.set_0|apply zT.set_1|refine zT.far ?_ NB1_180.out _)|exact HI1.out),by repeat (first|(with_reducible first|exact HB.out|apply zG|apply zC|apply zI|refine zK ?_ (zT.ge HI1.out)|refine zK ?_ GE180.out)|exact HB.out),by repeat (first|(with_reducible first|exact HK.out|apply zk.set_|apply ya|apply yj|apply yb|refine qC ?_ GW180.out _)|exact HK.out)⟩
def zQ.l0:Nat→List (S42)→Int→Int→Int→Int→List Int→List (S42)→Option (Int × Int × Int)
 | 0,_,_,_,_,_,_,_=>none
 | k + 1,x0,x7,x8,x2000,x2001,x2002,x2003=>if x8 < x7 then (if 0≤x8 then (if x8 < (x0.length:Int) then ((yy.f k ((zF x0 x8).f0) ((zF x0 x8).f1) x2000 x2001 x2002 x2003).bind fun bt183=>(if bt183.1=true then (some (x8,bt183.2.1,bt183.2.2)) else (zQ.l0 k x0 x7 (wrap64 (x8 + 1)) bt183.2.1 bt183.2.2 x2002 x2003))) else (none)) else (none)) else (some ((-1),x2000,x2001))
def zQ.f (k:Nat) (l0:List (S42)) (s1_0:Int) (s1_1:Int) (s1_2:List Int) (s1_3:List (S42)):Option (Int × Int × Int):=zQ.l0 k l0 (l0.length:Int) 0 s1_0 s1_1 s1_2 s1_3
theorem zQ.mono_l:∀k,(∀y0 y1 y2 y3 y4 y5 y6,LeO (zQ.l0 k y0 y1 y2 y3 y4 y5 y6) (zQ.l0 (k + 1) y0 y1 y2 y3 y4 y5 y6))
 | 0=>fun _ _ _ _ _ _ _ r h=>by simp [zQ.l0] at h
 | k + 1=>by
  have ih0:=zQ.mono_l k
  ·intro y0 y1 y2 y3 y4 y5 y6
   unfold zQ.l0
   repeat' first
   | with_reducible first|exact ih0 _ _ _ _ _ _ _|exact yy.mono _ _ _ _ _ _ _|exact LeO.refl _|exact LeO.none _|refine LeO.ite ?_ ?_|refine LeO.bind ?_ (fun _=> ?_)
theorem zQ.mono:∀a0 a1 a2 a3 a4 k,LeO (zQ.f k a0 a1 a2 a3 a4) (zQ.f (k + 1) a0 a1 a2 a3 a4):=by
 intro a0 a1 a2 a3 a4 k;have ih0:=zQ.mono_l k
 unfold zQ.f
 repeat' first
   | with_reducible first|exact ih0 _ _ _ _ _ _ _|exact yy.mono _ _ _ _ _ _ _|exact LeO.refl _|exact LeO.none _|refine LeO.ite ?_ ?_|refine LeO.bind ?_ (fun _=> ?_)
theorem zQ.calls (k:Nat) (A0:Option Addr) (c0:Nat) (l0:List (S42)) (g:Nat) (s1_0:Int) (s1_1:Int) (s1_2:List Int) (s1_3:List (S42)) (r1:Int) (r2:Int) (r3:Int) (w0 w:World) (hI:zT w0 w g s1_0 s1_1 s1_2 s1_3) (hB:Below w0.heap.size w0 w) (hr0:∀W_,zk w W_ g none→Kd.C k42 W_ A0 l0.length l0) (hc0:l0.length≤c0) (h:zQ.f k l0 s1_0 s1_1 s1_2 s1_3=some (r1,r2,r3)) :
  Calls Tryz.prog 90 #[.slice A0 l0.length c0, .func (.func 77) #[] #[.pointer (some ⟨g,0,none⟩)]] w fun e w'=>e= .returned (.int .i64 r1)∧zT w0 w' g r2 r3 s1_2 s1_3∧Below w0.heap.size w0 w'∧zk w w' g none:=by
 have hu42:=Tryz.underlying42;have HR0:=zA.mk hr0;have HC0:=zA.mk hc0;clear hr0 hc0;have HI1:=zA.mk hI;have HK:=zA.mk (zk.refl w g none);have HL:=zA.mk hB.size;clear hI;have HW0:=zA.mk hB.size;have HB:=zA.mk hB;clear hB;have H:(zQ.l0 k l0 (l0.length:Int) 0 s1_0 s1_1 s1_2 s1_3)=some (r1,r2,r3):=h;clear h;have H':=zA.mk H;clear H
 go_enter Tryz.func90,Tryz.ntmps90
 go_wp2
 go_loopg [8] k (fun kq v8 w'=>∃(x8_1:Int) (x2000_1:Int) (x2001_1:Int),v8= .int .i64 x8_1∧zA (zQ.l0 kq l0 (l0.length:Int) x8_1 x2000_1 x2001_1 s1_2 s1_3=some (r1,r2,r3))∧zA (kq≤k)∧zA (zT w0 w' g x2000_1 x2001_1 s1_2 s1_3)∧zA (zk w w' g none)∧zA (Below w0.heap.size w0 w'))
 case atStart=>exact ⟨(0),(s1_0),(s1_1),Q6,H',⟨Nat.le_refl _⟩,⟨by repeat (first|(with_reducible first|exact HI1.out|apply zT.alloc|apply zT.drewN|apply zT.drew|apply zT.set_0|apply zT.set_1)|exact HI1.out)⟩,⟨by repeat (first|(with_reducible first|exact HK.out|apply zk.set_|apply ya|apply yj|apply yb)|exact HK.out)⟩,⟨by repeat (first|(with_reducible first|exact HB.out|apply zG|apply zC|apply zI|refine zK ?_ (zT.ge HI1.out))|exact HB.out)⟩⟩
 case round=>
  clear H';(try clear p2);obtain ⟨x8_1,x2000_1,x2001_1,rfl,HA,HK1,HI1,HK,HB⟩:=hrel;cases gk with
  | zero=>exact absurd HA.out (by simp [zQ.l0])
  | succ k1=>
   have H:=HA.out;clear HA;simp only [zQ.l0] at H
   by_cases c3:x8_1 < (l0.length:Int)
   ·rw [if_pos c3] at H
    have c3b0:=decide_eq_true c3;clear c3
    by_cases c4:0≤x8_1
    ·rw [if_pos c4] at H
     have c4b0:=decide_eq_true c4;clear c4
     by_cases c5:x8_1 < (l0.length:Int)
     ·rw [if_pos c5] at H
      have c5b0:=decide_eq_true c5;clear c5;replace H:=ZzB H;obtain ⟨⟨t183,t184,t185⟩,A60,H⟩:=H;replace H:(if t183=true then (some (x8_1,t184,t185)) else (zQ.l0 k1 l0 (l0.length:Int) (wrap64 (x8_1 + 1)) t184 t185 s1_2 s1_3))=some (r1,r2,r3):=H;have A6:=zA.mk A60;clear A60
      by_cases c7:t183=true
      ·subst c7
       have H1:(some (x8_1,t184,t185))=some (r1,r2,r3):=by rw [if_pos rfl] at H;exact H
       clear H;have H:=H1;clear H1;simp only [Option.some.injEq,Prod.mk.injEq] at H;obtain ⟨rfl,rfl,rfl⟩:=H;have p182:0≤(x8_1:Int):=Qa;have q182:x8_1 < (l0.length:Int):=Qa;obtain ⟨ad182,A182_1,c182_1,e182,hx182_0,hx182_1,hl182_1,hi182_1⟩:=ZX (Kd.C_foot_now HR0.out HK.out) x8_1 p182 q182;cases e182;have HR182_1:=zA.mk hi182_1;have HC182_1:=zA.mk hl182_1;clear hi182_1 hl182_1;replace p182:=eq_true p182;replace q182:=eq_true q182
       go_wp2_with (first|(go_at_call 77;(with_reducible refine (yy.calls k1 ((zF l0 x8_1).f0) _ _ ((zF l0 x8_1).f1) g x2000_1 x2001_1 s1_2 s1_3 true t184 t185 w0 _ ?side1 ?side2 ?side3 ?side4 A6.out).mono ?_);(case side1=>repeat (first|(with_reducible first|exact HI1.out|apply zT.alloc|apply zT.drewN|apply zT.drew|apply zT.set_0|apply zT.set_1)|exact HI1.out));(case side2=>repeat (first|(with_reducible first|exact HB.out|apply zG|apply zC|apply zI|refine zK ?_ (zT.ge HI1.out))|exact HB.out));(case side3=>exact qr HR0.out (by first|omega|(have h_:=of_eq_true q182;have h2_:=of_eq_true p182;omega)) (by decide) QV (by first|rfl|exact ZU _ _|(show (Addr.add _ _).block=_;exact ZU _ _)) hx182_1 (fun W_ h_=>by obtain ⟨ad_,A1_,c1_,e_,h0_,h1_,hl1_,hi1_⟩:=ZX h_ x8_1 (by first|exact of_eq_true p182|exact p182) (by first|exact of_eq_true q182|exact q182);cases e_;exact ⟨_,_,h1_,hi1_⟩));(case side4=>exact HC182_1.out);rintro e w8 ⟨rfl,hi,hb,hk⟩;have n0_:=zA.mk (zk.trans QV hk (.inl rfl));have n1_:=zA.mk (hb);have n2_:=zA.mk (hi);clear HK HB HI1;have HK:=n0_;have HB:=n1_;have HI1:=n2_;clear n0_ n1_ n2_;(try clear hb);(try clear hb2);(try clear hk);(try clear hi)))
       go_ret
       exact ⟨by first|rfl|(simp [zb,zc] <;> rfl)|(simp [*,zb,zc] <;> rfl),by repeat (first|(with_reducible first|exact HI1.out|apply zT.alloc|apply zT.drewN|apply zT.drew|apply zT.set_0|apply zT.set_1)|exact HI1.out),by repeat (first|(with_reducible first|exact HB.out|apply zG|apply zC|apply zI|refine zK ?_ (zT.ge HI1.out))|exact HB.out),by repeat (first|(with_reducible first|exact HK.out|apply zk.set_|apply ya|apply yj|apply yb)|exact HK.out)⟩
      ·replace c7:=Bool.eq_false_iff.mpr c7
       subst c7
       have H1:(zQ.l0 k1 l0 (l0.length:Int) (wrap64 (x8_1 + 1)) t184 t185 s1_2 s1_3)=some (r1,r2,r3):=by rw [if_neg (show ¬(false=true) by decide)] at H;exact H
       clear H;have H:=H1;clear H1;have H':=zA.mk H;clear H;have p182:0≤(x8_1:Int):=Qa;have q182:x8_1 < (l0.length:Int):=Qa;obtain ⟨ad182,A182_1,c182_1,e182,hx182_0,hx182_1,hl182_1,hi182_1⟩:=ZX (Kd.C_foot_now HR0.out HK.out) x8_1 p182 q182;cases e182;have HR182_1:=zA.mk hi182_1;have HC182_1:=zA.mk hl182_1;clear hi182_1 hl182_1;replace p182:=eq_true p182;replace q182:=eq_true q182
       go_wp2_with (first|(go_at_call 77;(with_reducible refine (yy.calls k1 ((zF l0 x8_1).f0) _ _ ((zF l0 x8_1).f1) g x2000_1 x2001_1 s1_2 s1_3 false t184 t185 w0 _ ?side1 ?side2 ?side3 ?side4 A6.out).mono ?_);(case side1=>repeat (first|(with_reducible first|exact HI1.out|apply zT.alloc|apply zT.drewN|apply zT.drew|apply zT.set_0|apply zT.set_1)|exact HI1.out));(case side2=>repeat (first|(with_reducible first|exact HB.out|apply zG|apply zC|apply zI|refine zK ?_ (zT.ge HI1.out))|exact HB.out));(case side3=>exact qr HR0.out (by first|omega|(have h_:=of_eq_true q182;have h2_:=of_eq_true p182;omega)) (by decide) QV (by first|rfl|exact ZU _ _|(show (Addr.add _ _).block=_;exact ZU _ _)) hx182_1 (fun W_ h_=>by obtain ⟨ad_,A1_,c1_,e_,h0_,h1_,hl1_,hi1_⟩:=ZX h_ x8_1 (by first|exact of_eq_true p182|exact p182) (by first|exact of_eq_true q182|exact q182);cases e_;exact ⟨_,_,h1_,hi1_⟩));(case side4=>exact HC182_1.out);rintro e w9 ⟨rfl,hi,hb,hk⟩;have n0_:=zA.mk (zk.trans QV hk (.inl rfl));have n1_:=zA.mk (hb);have n2_:=zA.mk (hi);clear HK HB HI1;have HK:=n0_;have HB:=n1_;have HI1:=n2_;clear n0_ n1_ n2_;(try clear hb);(try clear hb2);(try clear hk);(try clear hi)))
       go_roundg k1
       case measure=>have:=HK1.out;omega
       case rel=>exact ⟨(wrap64 (x8_1 + 1)),(t184),(t185),Q6,H',⟨by have:=HK1.out;omega⟩,⟨by repeat (first|(with_reducible first|exact HI1.out|apply zT.alloc|apply zT.drewN|apply zT.drew|apply zT.set_0|apply zT.set_1)|exact HI1.out)⟩,⟨by repeat (first|(with_reducible first|exact HK.out|apply zk.set_|apply ya|apply yj|apply yb)|exact HK.out)⟩,⟨by repeat (first|(with_reducible first|exact HB.out|apply zG|apply zC|apply zI|refine zK ?_ (zT.ge HI1.out))|exact HB.out)⟩⟩
     ·rw [if_neg c5] at H
      exact absurd H (by simp)
    ·rw [if_neg c4] at H
     exact absurd H (by simp)
   ·rw [if_neg c3] at H
    have c3b0:=decide_eq_false c3;clear c3;simp only [Option.some.injEq,Prod.mk.injEq] at H;obtain ⟨rfl,rfl,rfl⟩:=H
    go_wp2
    go_ret
    exact ⟨by first|rfl|(simp [zb,zc] <;> rfl)|(simp [*,zb,zc] <;> rfl),by repeat (first|(with_reducible first|exact HI1.out|apply zT.alloc|apply zT.drewN|apply zT.drew|apply zT.set_0|apply zT.set_1)|exact HI1.out),by repeat (first|(with_reducible first|exact HB.out|apply zG|apply zC|apply zI|refine zK ?_ (zT.ge HI1.out))|exact HB.out),by repeat (first|(with_reducible first|exact HK.out|apply zk.set_|apply ya|apply yj|apply yb)|exact HK.out)⟩
def zo.f (k:Nat) (l0:List (S42)) (s1_0:Int) (s1_1:Int) (s1_2:List Int) (s1_3:List (S42)):Option (Bool × Int × Int):=(zQ.f k l0 s1_0 s1_1 s1_2 s1_3).bind fun bt186=>(some (decide (bt186.1≥0),bt186.2.1,bt186.2.2))
theorem zo.mono:∀a0 a1 a2 a3 a4 k,LeO (zo.f k a0 a1 a2 a3 a4) (zo.f (k + 1) a0 a1 a2 a3 a4):=by
 intro a0 a1 a2 a3 a4 k
 unfold zo.f
 repeat' first
   | with_reducible first|exact zQ.mono _ _ _ _ _ _|exact LeO.refl _|exact LeO.none _|refine LeO.ite ?_ ?_|refine LeO.bind ?_ (fun _=> ?_)
theorem zo.calls (k:Nat) (A0:Option Addr) (c0:Nat) (l0:List (S42)) (g:Nat) (s1_0:Int) (s1_1:Int) (s1_2:List Int) (s1_3:List (S42)) (r1:Bool) (r2:Int) (r3:Int) (w0 w:World) (hI:zT w0 w g s1_0 s1_1 s1_2 s1_3) (hB:Below w0.heap.size w0 w) (hr0:∀W_,zk w W_ g none→Kd.C k42 W_ A0 l0.length l0) (hc0:l0.length≤c0) (h:zo.f k l0 s1_0 s1_1 s1_2 s1_3=some (r1,r2,r3)) :
  Calls Tryz.prog 75 #[.slice A0 l0.length c0, .func (.func 77) #[] #[.pointer (some ⟨g,0,none⟩)]] w fun e w'=>e= .returned (.bool r1)∧zT w0 w' g r2 r3 s1_2 s1_3∧Below w0.heap.size w0 w'∧zk w w' g none:=by
 have HR0:=zA.mk hr0;have HC0:=zA.mk hc0;clear hr0 hc0;have HI1:=zA.mk hI;have HK:=zA.mk (zk.refl w g none);have HL:=zA.mk hB.size;clear hI;have HW0:=zA.mk hB.size;have HB:=zA.mk hB;clear hB;have H:((zQ.f k l0 s1_0 s1_1 s1_2 s1_3).bind fun bt186=>(some (decide (bt186.1≥0),bt186.2.1,bt186.2.2)))=some (r1,r2,r3):=h;clear h;replace H:=ZzB H;obtain ⟨⟨t186,t187,t188⟩,A30,H⟩:=H;replace H:(some (decide (t186≥0),t187,t188))=some (r1,r2,r3):=H;have A3:=zA.mk A30;clear A30;simp only [Option.some.injEq,Prod.mk.injEq] at H;obtain ⟨rfl,rfl,rfl⟩:=H
 go_enter Tryz.func75,Tryz.ntmps75
 go_wp2_with (first|((with_reducible refine zm (f:=90) rfl ?_);refine yJ (some 7) rfl rfl Tryz.func90 (by kernel_rfl) rfl #[.slice A0 l0.length c0, .func (.func 77) #[] #[.pointer (some ⟨g,0,none⟩)]] rfl QZ ?_;(with_reducible refine (zQ.calls k _ _ l0 g s1_0 s1_1 s1_2 s1_3 t186 t187 t188 w0 _ ?side1 ?side2 ?side3 ?side4 A3.out).mono ?_);(case side1=>repeat (first|(with_reducible first|exact HI1.out|apply zT.alloc|apply zT.drewN|apply zT.drew|apply zT.set_0|apply zT.set_1)|exact HI1.out));(case side2=>repeat (first|(with_reducible first|exact HB.out|apply zG|apply zC|apply zI|refine zK ?_ (zT.ge HI1.out))|exact HB.out));(case side3=>exact Kd.C_foot_step HR0.out QV);(case side4=>exact HC0.out);rintro e w4 ⟨rfl,hi,hb,hk⟩;refine ⟨_,rfl,?_⟩;have n0_:=zA.mk (zk.trans QV hk (.inl rfl));have n1_:=zA.mk (hb);have n2_:=zA.mk (hi);clear HK HB HI1;have HK:=n0_;have HB:=n1_;have HI1:=n2_;clear n0_ n1_ n2_;(try clear hb);(try clear hb2);(try clear hk);(try clear hi)))
 go_ret
 exact ⟨by first|rfl|(simp [zb,zc] <;> rfl)|(simp [*,zb,zc] <;> rfl),by repeat (first|(with_reducible first|exact HI1.out|apply zT.alloc|apply zT.drewN|apply zT.drew|apply zT.set_0|apply zT.set_1)|exact HI1.out),by repeat (first|(with_reducible first|exact HB.out|apply zG|apply zC|apply zI|refine zK ?_ (zT.ge HI1.out))|exact HB.out),by repeat (first|(with_reducible first|exact HK.out|apply zk.set_|apply ya|apply yj|apply yb)|exact HK.out)⟩
def yH.j0:Nat→Bool→Int→Int→List Int→List (S42)→Option (Int)
 | 0,_,_,_,_,_=>none
 | k + 1,x3,x190000,x190001,x190002,x190003=>if x3=true then (some 8) else ((yK.f x190001 4).bind fun t194=>(if t194=true then ((zo.f k x190003 x190000 x190001 x190002 x190003).bind fun bt195=>(if bt195.1=true then (some 4) else (some 0))) else (some 11)))
def yH.f (k:Nat) (a0_0:Int) (a0_1:Int) (l0_2:List Int) (va:List (S42)):Option (Int):=(yK.f a0_0 60).bind fun t190=>(if t190=true then ((yK.f (l0_2.length:Int) 500).bind fun t191=>(if t191=true then ((yK.f (va.length:Int) 2000).bind fun t192=>(if t192=true then ((zf.f k va 7000076).bind fun t193=>(yH.j0 k t193 a0_0 a0_1 l0_2 va)) else (yH.j0 k true a0_0 a0_1 l0_2 va))) else (yH.j0 k true a0_0 a0_1 l0_2 va))) else (yH.j0 k true a0_0 a0_1 l0_2 va))
theorem yH.mono_l:∀k,(∀y0 y1 y2 y3 y4,LeO (yH.j0 k y0 y1 y2 y3 y4) (yH.j0 (k + 1) y0 y1 y2 y3 y4))
 | 0=>fun _ _ _ _ _ r h=>by simp [yH.j0] at h
 | k + 1=>by
  have ih0:=yH.mono_l k
  ·intro y0 y1 y2 y3 y4
   unfold yH.j0
   repeat' first
   | with_reducible first|exact ih0 _ _ _ _ _|exact zo.mono _ _ _ _ _ _|exact zf.mono _ _ _|exact LeO.refl _|exact LeO.none _|refine LeO.ite ?_ ?_|refine LeO.bind ?_ (fun _=> ?_)
theorem yH.mono:∀a0 a1 a2 a3 k,LeO (yH.f k a0 a1 a2 a3) (yH.f (k + 1) a0 a1 a2 a3):=by
 intro a0 a1 a2 a3 k;have ih0:=yH.mono_l k
 unfold yH.f
 repeat' first
   | with_reducible first|exact ih0 _ _ _ _ _|exact zo.mono _ _ _ _ _ _|exact zf.mono _ _ _|exact LeO.refl _|exact LeO.none _|refine LeO.ite ?_ ?_|refine LeO.bind ?_ (fun _=> ?_)
theorem yH.calls (k:Nat) (a0_0:Int) (a0_1:Int) (vn:Option Addr) (vo:Nat) (l0_2:List Int) (vA:Option Addr) (vq:Nat) (va:List (S42)) (r:Int) (w:World) (hr0_2:Kd.C (Kd.int .i64) w vn l0_2.length l0_2) (hc0_2:l0_2.length≤vo) (hr0_3:Kd.C k42 w vA va.length va) (hc0_3:va.length≤vq) (h:yH.f k a0_0 a0_1 l0_2 va=some r) :
  Calls Tryz.prog 53 #[.agg #[.int .i64 a0_0, .int .i64 a0_1, .slice vn l0_2.length vo, .slice vA va.length vq]] w fun e w'=>e= .returned (.int .i64 r)∧Below w.heap.size w w':=by
 have hu25:=Tryz.underlying25;have wh:=zA.mk hr0_2;have wi:=zA.mk hc0_2;clear hr0_2 hc0_2;have vQ:=zA.mk hr0_3;have wj:=zA.mk hc0_3;clear hr0_3 hc0_3;have HB:=zA.mk (Below.refl w.heap.size w);have H:((yK.f a0_0 60).bind fun t190=>(if t190=true then ((yK.f (l0_2.length:Int) 500).bind fun t191=>(if t191=true then ((yK.f (va.length:Int) 2000).bind fun t192=>(if t192=true then ((zf.f k va 7000076).bind fun t193=>(yH.j0 k t193 a0_0 a0_1 l0_2 va)) else (yH.j0 k true a0_0 a0_1 l0_2 va))) else (yH.j0 k true a0_0 a0_1 l0_2 va))) else (yH.j0 k true a0_0 a0_1 l0_2 va)))=some r:=h;clear h;have HC2:=zA.mk H;clear H
 go_enter Tryz.func53,Tryz.ntmps53
 go_upto_region 1 with (first|((with_reducible refine zx (N:=1) rfl ?_);(try (refine yT (by rfl) ?_;dsimp only));refine yF (by rfl) (N:=1) (by rfl) (cs:= #[.int .i64 a0_0, .int .i64 a0_1, .slice vn l0_2.length vo, .slice vA va.length vq]) (t:=25) Qm ?_;intro gb189 hg w3 hbox hb;have n0_:=zA.mk (zD Qc hb);have n1_:=zA.mk ((⟨_,_,_,_,hbox,(by rw [hg];exact (zE Qc):w.heap.size≤gb189),⟨wh.out,wi.out⟩,⟨vQ.out,wj.out⟩⟩:zT w w3 gb189 a0_0 a0_1 l0_2 va));clear HB;have HB:=n0_;have HI189:=n1_;clear n0_ n1_ hb hbox hg))
 (try simp only [Act.put,List.setIfInBounds_toArray,List.set_cons_zero,List.set_cons_succ])
 go_cut [3] (fun v3 wc=>∃(kq:Nat) (x3_1:Bool),v3= .bool x3_1∧zA (yH.j0 kq x3_1 a0_0 a0_1 l0_2 va=some r)∧zA (kq≤k)∧zA (zT w wc gb189 a0_0 a0_1 l0_2 va)∧zA (Below w.heap.size w wc))
 case first=>
  have H:=HC2.out;clear HC2;replace H:=ZzB H;obtain ⟨t190,A40,H⟩:=H;replace H:(if t190=true then ((yK.f (l0_2.length:Int) 500).bind fun t191=>(if t191=true then ((yK.f (va.length:Int) 2000).bind fun t192=>(if t192=true then ((zf.f k va 7000076).bind fun t193=>(yH.j0 k t193 a0_0 a0_1 l0_2 va)) else (yH.j0 k true a0_0 a0_1 l0_2 va))) else (yH.j0 k true a0_0 a0_1 l0_2 va))) else (yH.j0 k true a0_0 a0_1 l0_2 va))=some r:=H;have A4:=zA.mk A40;clear A40
  by_cases c5:t190=true
  ·subst c5
   have H1:((yK.f (l0_2.length:Int) 500).bind fun t191=>(if t191=true then ((yK.f (va.length:Int) 2000).bind fun t192=>(if t192=true then ((zf.f k va 7000076).bind fun t193=>(yH.j0 k t193 a0_0 a0_1 l0_2 va)) else (yH.j0 k true a0_0 a0_1 l0_2 va))) else (yH.j0 k true a0_0 a0_1 l0_2 va)))=some r:=by rw [if_pos rfl] at H;exact H
   clear H;have H:=H1;clear H1;replace H:=ZzB H;obtain ⟨t191,A60,H⟩:=H;replace H:(if t191=true then ((yK.f (va.length:Int) 2000).bind fun t192=>(if t192=true then ((zf.f k va 7000076).bind fun t193=>(yH.j0 k t193 a0_0 a0_1 l0_2 va)) else (yH.j0 k true a0_0 a0_1 l0_2 va))) else (yH.j0 k true a0_0 a0_1 l0_2 va))=some r:=H;have A6:=zA.mk A60;clear A60
   by_cases c7:t191=true
   ·subst c7
    have H1:((yK.f (va.length:Int) 2000).bind fun t192=>(if t192=true then ((zf.f k va 7000076).bind fun t193=>(yH.j0 k t193 a0_0 a0_1 l0_2 va)) else (yH.j0 k true a0_0 a0_1 l0_2 va)))=some r:=by rw [if_pos rfl] at H;exact H
    clear H;have H:=H1;clear H1;replace H:=ZzB H;obtain ⟨t192,A80,H⟩:=H;replace H:(if t192=true then ((zf.f k va 7000076).bind fun t193=>(yH.j0 k t193 a0_0 a0_1 l0_2 va)) else (yH.j0 k true a0_0 a0_1 l0_2 va))=some r:=H;have A8:=zA.mk A80;clear A80
    by_cases c9:t192=true
    ·subst c9
     have H1:((zf.f k va 7000076).bind fun t193=>(yH.j0 k t193 a0_0 a0_1 l0_2 va))=some r:=by rw [if_pos rfl] at H;exact H
     clear H;have H:=H1;clear H1;replace H:=ZzB H;obtain ⟨t193,A100,H⟩:=H;replace H:(yH.j0 k t193 a0_0 a0_1 l0_2 va)=some r:=H;have A10:=zA.mk A100;clear A100;have H':=zA.mk H;clear H;obtain ⟨ASz11_2,cSz11_2,ASz11_3,cSz11_3,HGz11,hgz11,⟨HSz11_2,HTz11_2⟩,⟨HSz11_3,HTz11_3⟩⟩:=HI189.out;have hcz11_0:=ZM HGz11;have hcz11_1:=ZN HGz11;have hcz11_2:=ZO HGz11;have hcz11_3:=ZP HGz11;have hfz11_0:=zB HGz11 0;have hfz11_1:=zB HGz11 1;clear HGz11 hgz11
     go_wp2_with (first|((with_reducible refine zm (f:=74) rfl ?_);refine yJ (some 6) rfl rfl Tryz.func74 (by kernel_rfl) rfl #[.int .i64 a0_0, .int .i64 60] rfl QZ ?_;(with_reducible refine (yK.calls a0_0 60 true _ A4.out).mono ?_);rintro e w' ⟨rfl,⟨nd,rfl⟩⟩;refine ⟨_,rfl,?_⟩)|(go_at_call 74;(with_reducible refine (yK.calls (l0_2.length:Int) 500 true _ A6.out).mono ?_);rintro e w' ⟨rfl,⟨nd,rfl⟩⟩;clear A6)|(go_at_call 74;(with_reducible refine (yK.calls (va.length:Int) 2000 true _ A8.out).mono ?_);rintro e w' ⟨rfl,⟨nd,rfl⟩⟩;clear A8)|(go_at_call 75;(with_reducible refine (zf.calls k _ _ va 7000076 t193 _ ?side1 ?side2 A10.out).mono ?_);(case side1=>exact Kd.C_below HSz11_3 QP);(case side2=>exact HTz11_3);rintro e w12 ⟨rfl,hb⟩;have n0_:=zA.mk (zT.below (by repeat (first|(with_reducible first|exact HI189.out|apply zT.alloc|apply zT.drewN|apply zT.drew|apply zT.set_0|apply zT.set_1)|exact HI189.out)) hb);have n1_:=zA.mk (zD QP hb);clear HI189 HB;have HI189:=n0_;have HB:=n1_;clear n0_ n1_;(try clear hb);(try clear hb2);(try clear hk);(try clear hi)))
     go_meet
     case rel=>exact ⟨_,(t193),Q6,H',⟨by first|omega|exact Nat.le_refl _⟩,⟨by repeat (first|(with_reducible first|exact HI189.out|apply zT.alloc|apply zT.drewN|apply zT.drew|apply zT.set_0|apply zT.set_1)|exact HI189.out)⟩,⟨by repeat (first|(with_reducible first|exact HB.out|apply zG|apply zC|apply zI|refine zK ?_ (zT.ge HI189.out))|exact HB.out)⟩⟩
    ·replace c9:=Bool.eq_false_iff.mpr c9
     subst c9
     have H1:(yH.j0 k true a0_0 a0_1 l0_2 va)=some r:=by rw [if_neg (show ¬(false=true) by decide)] at H;exact H
     clear H;have H:=H1;clear H1;have H':=zA.mk H;clear H;obtain ⟨ASz13_2,cSz13_2,ASz13_3,cSz13_3,HGz13,hgz13,⟨HSz13_2,HTz13_2⟩,⟨HSz13_3,HTz13_3⟩⟩:=HI189.out;have hcz13_0:=ZM HGz13;have hcz13_1:=ZN HGz13;have hcz13_2:=ZO HGz13;have hcz13_3:=ZP HGz13;have hfz13_0:=zB HGz13 0;have hfz13_1:=zB HGz13 1;clear HGz13 hgz13
     go_wp2_with (first|((with_reducible refine zm (f:=74) rfl ?_);refine yJ (some 6) rfl rfl Tryz.func74 (by kernel_rfl) rfl #[.int .i64 a0_0, .int .i64 60] rfl QZ ?_;(with_reducible refine (yK.calls a0_0 60 true _ A4.out).mono ?_);rintro e w' ⟨rfl,⟨nd,rfl⟩⟩;refine ⟨_,rfl,?_⟩)|(go_at_call 74;(with_reducible refine (yK.calls (l0_2.length:Int) 500 true _ A6.out).mono ?_);rintro e w' ⟨rfl,⟨nd,rfl⟩⟩;clear A6)|(go_at_call 74;(with_reducible refine (yK.calls (va.length:Int) 2000 false _ A8.out).mono ?_);rintro e w' ⟨rfl,⟨nd,rfl⟩⟩;clear A8))
     go_meet
     case rel=>exact ⟨_,(true),Q6,H',⟨by first|omega|exact Nat.le_refl _⟩,⟨by repeat (first|(with_reducible first|exact HI189.out|apply zT.alloc|apply zT.drewN|apply zT.drew|apply zT.set_0|apply zT.set_1)|exact HI189.out)⟩,⟨by repeat (first|(with_reducible first|exact HB.out|apply zG|apply zC|apply zI|refine zK ?_ (zT.ge HI189.out))|exact HB.out)⟩⟩
   ·replace c7:=Bool.eq_false_iff.mpr c7
    subst c7
    have H1:(yH.j0 k true a0_0 a0_1 l0_2 va)=some r:=by rw [if_neg (show ¬(false=true) by decide)] at H;exact H
    clear H;have H:=H1;clear H1;have H':=zA.mk H;clear H;obtain ⟨ASz14_2,cSz14_2,ASz14_3,cSz14_3,HGz14,hgz14,⟨HSz14_2,HTz14_2⟩,⟨HSz14_3,HTz14_3⟩⟩:=HI189.out;have hcz14_0:=ZM HGz14;have hcz14_1:=ZN HGz14;have hcz14_2:=ZO HGz14;have hcz14_3:=ZP HGz14;have hfz14_0:=zB HGz14 0;have hfz14_1:=zB HGz14 1;clear HGz14 hgz14
    go_wp2_with (first|((with_reducible refine zm (f:=74) rfl ?_);refine yJ (some 6) rfl rfl Tryz.func74 (by kernel_rfl) rfl #[.int .i64 a0_0, .int .i64 60] rfl QZ ?_;(with_reducible refine (yK.calls a0_0 60 true _ A4.out).mono ?_);rintro e w' ⟨rfl,⟨nd,rfl⟩⟩;refine ⟨_,rfl,?_⟩)|(go_at_call 74;(with_reducible refine (yK.calls (l0_2.length:Int) 500 false _ A6.out).mono ?_);rintro e w' ⟨rfl,⟨nd,rfl⟩⟩))
    go_meet
    case rel=>exact ⟨_,(true),Q6,H',⟨by first|omega|exact Nat.le_refl _⟩,⟨by repeat (first|(with_reducible first|exact HI189.out|apply zT.alloc|apply zT.drewN|apply zT.drew|apply zT.set_0|apply zT.set_1)|exact HI189.out)⟩,⟨by repeat (first|(with_reducible first|exact HB.out|apply zG|apply zC|apply zI|refine zK ?_ (zT.ge HI189.out))|exact HB.out)⟩⟩
  ·replace c5:=Bool.eq_false_iff.mpr c5
   subst c5
   have H1:(yH.j0 k true a0_0 a0_1 l0_2 va)=some r:=by rw [if_neg (show ¬(false=true) by decide)] at H;exact H
   clear H;have H:=H1;clear H1;have H':=zA.mk H;clear H;obtain ⟨ASz15_2,cSz15_2,ASz15_3,cSz15_3,HGz15,hgz15,⟨HSz15_2,HTz15_2⟩,⟨HSz15_3,HTz15_3⟩⟩:=HI189.out;have hcz15_0:=ZM HGz15;have hcz15_1:=ZN HGz15;have hcz15_2:=ZO HGz15;have hcz15_3:=ZP HGz15;have hfz15_0:=zB HGz15 0;have hfz15_1:=zB HGz15 1;clear HGz15 hgz15
   go_wp2_with (first|((with_reducible refine zm (f:=74) rfl ?_);refine yJ (some 6) rfl rfl Tryz.func74 (by kernel_rfl) rfl #[.int .i64 a0_0, .int .i64 60] rfl QZ ?_;(with_reducible refine (yK.calls a0_0 60 false _ A4.out).mono ?_);rintro e w' ⟨rfl,⟨nd,rfl⟩⟩;refine ⟨_,rfl,?_⟩))
   go_meet
   case rel=>exact ⟨_,(true),Q6,H',⟨by first|omega|exact Nat.le_refl _⟩,⟨by repeat (first|(with_reducible first|exact HI189.out|apply zT.alloc|apply zT.drewN|apply zT.drew|apply zT.set_0|apply zT.set_1)|exact HI189.out)⟩,⟨by repeat (first|(with_reducible first|exact HB.out|apply zG|apply zC|apply zI|refine zK ?_ (zT.ge HI189.out))|exact HB.out)⟩⟩
 case rest=>
  clear HC2;(try clear p2);(try clear c5);(try clear c7);(try clear c9);(try clear hcz11_0);(try clear hcz11_1);(try clear hcz11_2);(try clear hcz11_3);(try clear hcz13_0);(try clear hcz13_1);(try clear hcz13_2);(try clear hcz13_3);(try clear hcz14_0);(try clear hcz14_1);(try clear hcz14_2);(try clear hcz14_3);(try clear hcz15_0);(try clear hcz15_1);(try clear hcz15_2);(try clear hcz15_3);(try clear hfz11_0);(try clear hfz11_1);(try clear hfz13_0);(try clear hfz13_1);(try clear hfz14_0);(try clear hfz14_1);(try clear hfz15_0);(try clear hfz15_1);obtain ⟨kq,x3_1,rfl,HA,HJ1,HI189,HB⟩:=hcut;cases kq with
  | zero=>exact absurd HA.out (by simp [yH.j0])
  | succ kj1=>
   have H:=HA.out;clear HA;simp only [yH.j0] at H
   by_cases c16:x3_1=true
   ·subst c16
    have H1:(some 8)=some r:=by rw [if_pos rfl] at H;exact H
    clear H;have H:=H1;clear H1;obtain rfl:=Option.some.inj H
    go_wp2
    go_ret
    exact ⟨by first|rfl|(simp [zb,zc] <;> rfl)|(simp [*,zb,zc] <;> rfl),by repeat (first|(with_reducible first|exact HB.out|apply zG|apply zC|apply zI|refine zK ?_ (zT.ge HI189.out))|exact HB.out)⟩
   ·replace c16:=Bool.eq_false_iff.mpr c16
    subst c16
    have H1:((yK.f a0_1 4).bind fun t194=>(if t194=true then ((zo.f kj1 va a0_0 a0_1 l0_2 va).bind fun bt195=>(if bt195.1=true then (some 4) else (some 0))) else (some 11)))=some r:=by rw [if_neg (show ¬(false=true) by decide)] at H;exact H
    clear H;have H:=H1;clear H1;replace H:=ZzB H;obtain ⟨t194,A170,H⟩:=H;replace H:(if t194=true then ((zo.f kj1 va a0_0 a0_1 l0_2 va).bind fun bt195=>(if bt195.1=true then (some 4) else (some 0))) else (some 11))=some r:=H;have A17:=zA.mk A170;clear A170
    by_cases c18:t194=true
    ·subst c18
     have H1:((zo.f kj1 va a0_0 a0_1 l0_2 va).bind fun bt195=>(if bt195.1=true then (some 4) else (some 0)))=some r:=by rw [if_pos rfl] at H;exact H
     clear H;have H:=H1;clear H1;replace H:=ZzB H;obtain ⟨⟨t195,t196,t197⟩,A190,H⟩:=H;replace H:(if t195=true then (some 4) else (some 0))=some r:=H;have A19:=zA.mk A190;clear A190
     by_cases c20:t195=true
     ·subst c20
      have H1:(some 4)=some r:=by rw [if_pos rfl] at H;exact H
      clear H;have H:=H1;clear H1;obtain rfl:=Option.some.inj H;obtain ⟨ASz21_2,cSz21_2,ASz21_3,cSz21_3,HGz21,hgz21,⟨HSz21_2,HTz21_2⟩,⟨HSz21_3,HTz21_3⟩⟩:=HI189.out;have hcz21_0:=ZM HGz21;have hcz21_1:=ZN HGz21;have hcz21_2:=ZO HGz21;have hcz21_3:=ZP HGz21;have hfz21_0:=zB HGz21 0;have hfz21_1:=zB HGz21 1;clear HGz21 hgz21
      go_wp2_with (first|((with_reducible refine zm (f:=74) rfl ?_);refine yJ (some 30) rfl rfl Tryz.func74 (by kernel_rfl) rfl #[.int .i64 a0_1, .int .i64 4] rfl QZ ?_;(with_reducible refine (yK.calls a0_1 4 true _ A17.out).mono ?_);rintro e w' ⟨rfl,⟨nd,rfl⟩⟩;refine ⟨_,rfl,?_⟩)|((with_reducible refine zm (f:=75) rfl ?_);refine yJ (some 36) rfl rfl Tryz.func75 (by kernel_rfl) rfl #[(.slice ASz21_3 va.length cSz21_3), .func (.func 77) #[] #[.pointer (some ⟨gb189,0,none⟩)]] rfl QZ ?_;(with_reducible refine (zo.calls kj1 _ _ va gb189 a0_0 a0_1 l0_2 va true t196 t197 w _ ?side1 ?side2 ?side3 ?side4 A19.out).mono ?_);(case side1=>repeat (first|(with_reducible first|exact HI189.out|apply zT.alloc|apply zT.drewN|apply zT.drew|apply zT.set_0|apply zT.set_1)|exact HI189.out));(case side2=>repeat (first|(with_reducible first|exact HB.out|apply zG|apply zC|apply zI|refine zK ?_ (zT.ge HI189.out))|exact HB.out));(case side3=>exact Kd.C_foot_came k42_heap HSz21_3 QP (zT.ge HI189.out));(case side4=>exact HTz21_3);rintro e w22 ⟨rfl,hi,hb,hk⟩;refine ⟨_,rfl,?_⟩;have n0_:=zA.mk (hb);have n1_:=zA.mk (hi);clear HB HI189;have HB:=n0_;have HI189:=n1_;clear n0_ n1_;(try clear hb);(try clear hb2);(try clear hk);(try clear hi)))
      go_ret
      exact ⟨by first|rfl|(simp [zb,zc] <;> rfl)|(simp [*,zb,zc] <;> rfl),by repeat (first|(with_reducible first|exact HB.out|apply zG|apply zC|apply zI|refine zK ?_ (zT.ge HI189.out))|exact HB.out)⟩
     ·replace c20:=Bool.eq_false_iff.mpr c20
      subst c20
      have H1:(some 0)=some r:=by rw [if_neg (show ¬(false=true) by decide)] at H;exact H
      clear H;have H:=H1;clear H1;obtain rfl:=Option.some.inj H;obtain ⟨ASz23_2,cSz23_2,ASz23_3,cSz23_3,HGz23,hgz23,⟨HSz23_2,HTz23_2⟩,⟨HSz23_3,HTz23_3⟩⟩:=HI189.out;have hcz23_0:=ZM HGz23;have hcz23_1:=ZN HGz23;have hcz23_2:=ZO HGz23;have hcz23_3:=ZP HGz23;have hfz23_0:=zB HGz23 0;have hfz23_1:=zB HGz23 1;clear HGz23 hgz23
      go_wp2_with (first|((with_reducible refine zm (f:=74) rfl ?_);refine yJ (some 30) rfl rfl Tryz.func74 (by kernel_rfl) rfl #[.int .i64 a0_1, .int .i64 4] rfl QZ ?_;(with_reducible refine (yK.calls a0_1 4 true _ A17.out).mono ?_);rintro e w' ⟨rfl,⟨nd,rfl⟩⟩;refine ⟨_,rfl,?_⟩)|((with_reducible refine zm (f:=75) rfl ?_);refine yJ (some 36) rfl rfl Tryz.func75 (by kernel_rfl) rfl #[(.slice ASz23_3 va.length cSz23_3), .func (.func 77) #[] #[.pointer (some ⟨gb189,0,none⟩)]] rfl QZ ?_;(with_reducible refine (zo.calls kj1 _ _ va gb189 a0_0 a0_1 l0_2 va false t196 t197 w _ ?side1 ?side2 ?side3 ?side4 A19.out).mono ?_);(case side1=>repeat (first|(with_reducible first|exact HI189.out|apply zT.alloc|apply zT.drewN|apply zT.drew|apply zT.set_0|apply zT.set_1)|exact HI189.out));(case side2=>repeat (first|(with_reducible first|exact HB.out|apply zG|apply zC|apply zI|refine zK ?_ (zT.ge HI189.out))|exact HB.out));(case side3=>exact Kd.C_foot_came k42_heap HSz23_3 QP (zT.ge HI189.out));(case side4=>exact HTz23_3);rintro e w24 ⟨rfl,hi,hb,hk⟩;refine ⟨_,rfl,?_⟩;have n0_:=zA.mk (hb);have n1_:=zA.mk (hi);clear HB HI189;have HB:=n0_;have HI189:=n1_;clear n0_ n1_;(try clear hb);(try clear hb2);(try clear hk);(try clear hi)))
      go_ret
      exact ⟨by first|rfl|(simp [zb,zc] <;> rfl)|(simp [*,zb,zc] <;> rfl),by repeat (first|(with_reducible first|exact HB.out|apply zG|apply zC|apply zI|refine zK ?_ (zT.ge HI189.out))|exact HB.out)⟩
    ·replace c18:=Bool.eq_false_iff.mpr c18
     subst c18
     have H1:(some 11)=some r:=by rw [if_neg (show ¬(false=true) by decide)] at H;exact H
     clear H;have H:=H1;clear H1;obtain rfl:=Option.some.inj H;obtain ⟨ASz25_2,cSz25_2,ASz25_3,cSz25_3,HGz25,hgz25,⟨HSz25_2,HTz25_2⟩,⟨HSz25_3,HTz25_3⟩⟩:=HI189.out;have hcz25_0:=ZM HGz25;have hcz25_1:=ZN HGz25;have hcz25_2:=ZO HGz25;have hcz25_3:=ZP HGz25;have hfz25_0:=zB HGz25 0;have hfz25_1:=zB HGz25 1;clear HGz25 hgz25
     go_wp2_with (first|((with_reducible refine zm (f:=74) rfl ?_);refine yJ (some 30) rfl rfl Tryz.func74 (by kernel_rfl) rfl #[.int .i64 a0_1, .int .i64 4] rfl QZ ?_;(with_reducible refine (yK.calls a0_1 4 false _ A17.out).mono ?_);rintro e w' ⟨rfl,⟨nd,rfl⟩⟩;refine ⟨_,rfl,?_⟩))
     go_ret
     exact ⟨by first|rfl|(simp [zb,zc] <;> rfl)|(simp [*,zb,zc] <;> rfl),by repeat (first|(with_reducible first|exact HB.out|apply zG|apply zC|apply zI|refine zK ?_ (zT.ge HI189.out))|exact HB.out)⟩
def Zp.f (a0:Int):Option (List ByteArray):=some (([strOfNums (([(a0) % 256]:List Int))]:List ByteArray))
theorem Zp.calls (a0:Int) (r:List ByteArray) (w:World) (h:Zp.f a0=some r) :
  Calls Tryz.prog 107 #[.int .i64 a0] w fun e w'=>∃v0_:Value,e= .returned (v0_)∧Kd.R Kd.string 9 w' w.heap.size (fun _=>True) v0_ r∧Below w.heap.size w w':=by
 have HB:=zA.mk (Below.refl w.heap.size w);have H:(some (([strOfNums (([(a0) % 256]:List Int))]:List ByteArray)))=some r:=h;clear h;obtain ⟨y198,hy198⟩:∃y_:List Int,y_=(([(a0) % 256]:List Int)):=⟨_,rfl⟩;replace H:(some (([strOfNums y198]:List ByteArray)))=some r:=Qb hy198 H;have Ny198:=zA.mk hy198;clear hy198;obtain ⟨y201,hy201⟩:∃y_:List ByteArray,y_=(([strOfNums y198]:List ByteArray)):=⟨_,rfl⟩;replace H:(some y201)=some r:=Qb hy201 H;have Ny201:=zA.mk hy201;clear hy201;obtain rfl:=Option.some.inj H
 go_enter Tryz.func107,Tryz.ntmps107
 go_wp2_with (first|((with_reducible refine zx (N:=5) rfl ?_);refine Kd.R_lit (Kd.int .u8) _ 5 (by rfl) (N:=5) (by rfl) (xs:=([(a0) % 256]:List Int)) (inner:= [.int .u8 ((a0) % 256)]) (ok:=fun _=>True) (okp:=fun _=>True) Qm ?hp (fun _ hk=>hk) trivial (Below.refl _ _) (Nat.le_refl _) (by simp) ?_;(case hp=>exact (Reps.one (show Kd.M (Kd.int .u8) _ _ _ ((a0) % 256) [.int .u8 ((a0) % 256)] from rfl) (Reps.none _ _)));intro v199 w2 ho3 hb hg_ hnew_;clear hg_ hnew_;(first|rw [←Ny198.out] at ho3|(simp only [Int.reduceToNat] at ho3;rw [←Ny198.out] at ho3));have n0_:=zA.mk (Kd.R_lower ho3 (zE Qc));have n1_:=zA.mk (zD Qc hb);clear HB;have HO200:=n0_;have HB:=n1_;clear n0_ n1_ hb ho3;have hcv4:=Zf (P:=Tryz.prog) Tryz.underlying72 Tryz.underlying5 Tryz.underlying9 (Kd.own_of_R HO200.out))|((with_reducible refine zx (N:=7) rfl ?_);refine Kd.R_lit Kd.string _ 9 (by rfl) (N:=7) (by rfl) (xs:=([strOfNums y198]:List ByteArray)) (inner:= [.string (strOfNums y198)]) (ok:=fun _=>True) (okp:=fun _=>True) Qm ?hp (fun _ hk=>hk) trivial (Below.refl _ _) (Nat.le_refl _) (by simp) ?_;(case hp=>exact (Reps.one (show Kd.M Kd.string _ _ _ (strOfNums y198) [.string (strOfNums y198)] from rfl) (Reps.none _ _)));intro v202 w5 ho6 hb hg_ hnew_;clear hg_ hnew_;(first|rw [←Ny201.out] at ho6|(simp only [Int.reduceToNat] at ho6;rw [←Ny201.out] at ho6));have n1_:=zA.mk (Kd.R_lower ho6 (zE Qc));have n2_:=zA.mk (zD Qc hb);clear HB;have HO203:=n1_;have HB:=n2_;clear n1_ n2_ hb ho6))
 go_ret
 exact ⟨_,by first|rfl|(simp [zb,zc] <;> rfl)|(simp [*,zb,zc] <;> rfl),by (with_reducible repeat (first|apply Kd.R_alloc|apply Kd.R_drewN|apply Kd.R_drew));exact HO203.out,by repeat (first|(with_reducible first|exact HB.out|apply zG|apply zC|apply zI)|exact HB.out)⟩
end Go.Proofs.YtpfeebmfihgelaaGreat.HGuessWhole
