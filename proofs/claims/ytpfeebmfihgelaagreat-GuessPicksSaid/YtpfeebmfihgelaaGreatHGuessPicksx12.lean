-- Written by plus.py for this claim.
import Derived.Test.YtpfeebmfihgelaaGreatSGuessPicksVZip
import Derived.Test.YtpfeebmfihgelaaGreatHGuessPicksx0
import Derived.Test.YtpfeebmfihgelaaGreatHGuessPicksx5
import Derived.Test.YtpfeebmfihgelaaGreatHGuessPicksx1
import Derived.Test.YtpfeebmfihgelaaGreatHGuessPicksx11
namespace Go.Proofs.YtpfeebmfihgelaaGreat.HGuessPicks
open Go.RowKit Go.Proofs.YtpfeebmfihgelaaGreatW.PrintWords Go.Proofs.YtpfeebmfihgelaaGreatW.PrintLast Go.Proofs.YtpfeebmfihgelaaGreatW.PrintMore
attribute [local go_sem] yx yy ZI ZJ yo yp yz ZA
set_option linter.unusedVariables false
set_option maxHeartbeats 8000000
set_option maxRecDepth 100000
set_option linter.unusedSimpArgs false
def yw.l0:Nat→List ByteArray→Int→Option (Bool)
 | 0,_,_=>none
 | k + 1,x0,x3=>if x3 < (x0.length:Int) then (if 0≤(wrap64 (x3 - 1)) then (if (wrap64 (x3 - 1)) < (x0.length:Int) then (if 0≤x3 then (if (Op.bytesLess ((rdOf ByteArray.empty x0 (wrap64 (x3 - 1))).toList) ((rdOf ByteArray.empty x0 x3).toList))=true then (yw.l0 k x0 (wrap64 (x3 + 1))) else (some false)) else (none)) else (none)) else (none)) else (some true)
def yw.f (k:Nat) (l0:List ByteArray):Option (Bool):=yw.l0 k l0 1
theorem yw.mono_l:∀k,(∀y0 y1,LeO (yw.l0 k y0 y1) (yw.l0 (k + 1) y0 y1))
 | 0=>fun _ _ r h=>by simp [yw.l0] at h
 | k + 1=>by
  have ih0:=yw.mono_l k
  ·intro y0 y1
   unfold yw.l0
   repeat' first
   | with_reducible first|exact ih0 _ _|exact LeO.refl _|exact LeO.none _|refine LeO.ite ?_ ?_|refine LeO.bind ?_ (fun _=> ?_)
theorem yw.mono:∀a0 k,LeO (yw.f k a0) (yw.f (k + 1) a0):=by
 intro a0 k;have ih0:=yw.mono_l k
 unfold yw.f
 repeat' first
   | with_reducible first|exact ih0 _ _|exact LeO.refl _|exact LeO.none _|refine LeO.ite ?_ ?_|refine LeO.bind ?_ (fun _=> ?_)
theorem yw.calls (k:Nat) (A0:Option Addr) (c0:Nat) (l0:List ByteArray) (r:Bool) (w:World) (hr0:Kd.C Kd.string w A0 l0.length l0) (hc0:l0.length≤c0) (h:yw.f k l0=some r) :
  Calls Tryz.prog 36 #[.slice A0 l0.length c0] w fun e w'=>e= .returned (.bool r)∧yL w w':=by
 have HR0:=zA.mk hr0;have HC0:=zA.mk hc0;clear hr0 hc0;have H:(yw.l0 k l0 1)=some r:=h;clear h;have H':=zA.mk H;clear H
 go_enter Tryz.func36,Tryz.ntmps36
 go_wp2
 repeat (go_quiet (fail);try go_wp2)
 go_loopg [3] k (fun kq v3 w'=>∃(x3_1:Int),v3= .int .i64 x3_1∧zA (yw.l0 kq l0 x3_1=some r)∧zA (kq≤k)∧yL w w')
 case atStart=>exact ⟨(1),Zk,H',⟨Nat.le_refl _⟩,by repeat (first|exact yL.refl _|apply yL.step)⟩
 case round=>
  clear H';obtain ⟨x3_1,rfl,HA,HK1,⟨m1,rfl⟩⟩:=hrel;cases gk with
  | zero=>exact absurd HA.out (by simp [yw.l0])
  | succ k1=>
   have H:=HA.out;clear HA;simp only [yw.l0] at H
   by_cases c2:x3_1 < (l0.length:Int)
   ·rw [if_pos c2] at H
    have c2b0:=decide_eq_true c2;clear c2;obtain ⟨ji3,hji3⟩:∃j_:Int,(wrap64 (x3_1 - 1))=j_:=⟨_,rfl⟩
    replace H:(if 0≤(ji3) then (if (ji3) < (l0.length:Int) then (if 0≤x3_1 then (if (Op.bytesLess ((rdOf ByteArray.empty l0 (ji3)).toList) ((rdOf ByteArray.empty l0 x3_1).toList))=true then (yw.l0 k1 l0 (wrap64 (x3_1 + 1))) else (some false)) else (none)) else (none)) else (none))=some r:=by first|(rw [hji3] at H;exact H)|(simp only [hji3] at H⊢;exact H)
    have hji3w:(IntKind.i64.wrap (x3_1 - 1))=ji3:=(yl _).trans hji3
    by_cases c4:0≤(ji3)
    ·rw [if_pos c4] at H
     have c4b0:=decide_eq_true c4;clear c4
     by_cases c5:(ji3) < (l0.length:Int)
     ·rw [if_pos c5] at H
      have c5b0:=decide_eq_true c5;clear c5
      by_cases c6:0≤x3_1
      ·rw [if_pos c6] at H
       have c6b0:=decide_eq_true c6;clear c6
       by_cases c7:(Op.bytesLess ((rdOf ByteArray.empty l0 (ji3)).toList) ((rdOf ByteArray.empty l0 x3_1).toList))=true
       ·rw [if_pos c7] at H
        have c7b0:(Op.bytesLess ((rdOf ByteArray.empty l0 (ji3)).toList) ((rdOf ByteArray.empty l0 x3_1).toList))=true:=c7;clear c7;have H':=zA.mk H;clear H;have p294:0≤((ji3):Int):=Qa;have q294:(ji3) < (l0.length:Int):=Qa;obtain ⟨ad294,e294,hx294_0⟩:=Kd.at_string HR0.out (ji3) p294 q294;cases e294;replace p294:=eq_true p294;replace q294:=eq_true q294;have p295:0≤(x3_1:Int):=Qa;have q295:x3_1 < (l0.length:Int):=Qa;obtain ⟨ad295,e295,hx295_0⟩:=Kd.at_string HR0.out x3_1 p295 q295;obtain rfl:ad294=ad295:=(by injection e295);replace p295:=eq_true p295;replace q295:=eq_true q295
        go_wp2
        repeat (go_quiet (fail);try go_wp2)
        go_roundg k1
        case measure=>have:=HK1.out;omega
        case rel=>exact ⟨(wrap64 (x3_1 + 1)),Zk,H',⟨by have:=HK1.out;omega⟩,by repeat (first|exact yL.refl _|apply yL.step)⟩
       ·rw [if_neg c7] at H
        have c7b0:(Op.bytesLess ((rdOf ByteArray.empty l0 (ji3)).toList) ((rdOf ByteArray.empty l0 x3_1).toList))=false:=by simpa using c7
        clear c7;obtain rfl:=Option.some.inj H;have p294:0≤((ji3):Int):=Qa;have q294:(ji3) < (l0.length:Int):=Qa;obtain ⟨ad294,e294,hx294_0⟩:=Kd.at_string HR0.out (ji3) p294 q294;cases e294;replace p294:=eq_true p294;replace q294:=eq_true q294;have p295:0≤(x3_1:Int):=Qa;have q295:x3_1 < (l0.length:Int):=Qa;obtain ⟨ad295,e295,hx295_0⟩:=Kd.at_string HR0.out x3_1 p295 q295;obtain rfl:ad294=ad295:=(by injection e295);replace p295:=eq_true p295;replace q295:=eq_true q295
        go_wp2
        repeat (go_quiet (fail);try go_wp2)
        go_ret
        exact ⟨by first|rfl|(simp;done)|(simp only [←hji3] <;> (first|rfl|simp))|(simp [*];done),by repeat (first|exact yL.refl _|apply yL.step)⟩
      ·rw [if_neg c6] at H
       exact absurd H (by simp)
     ·rw [if_neg c5] at H
      exact absurd H (by simp)
    ·rw [if_neg c4] at H
     exact absurd H (by simp)
   ·rw [if_neg c2] at H
    have c2b0:=decide_eq_false c2;clear c2;obtain rfl:=Option.some.inj H
    go_wp2
    repeat (go_quiet (fail);try go_wp2)
    go_ret
    exact ⟨by first|rfl|(simp;done)|(simp [*];done),by repeat (first|exact yL.refl _|apply yL.step)⟩
def yj.f (a0:ByteArray):Option (Bool):=some (a0.toList != a0.toList)
theorem yj.calls (a0:ByteArray) (r:Bool) (w:World) (h:yj.f a0=some r) :
  Calls Tryz.prog 79 #[.string a0] w fun e w'=>e= .returned (.bool r)∧yL w w':=by
 have H:(some (a0.toList != a0.toList))=some r:=h;clear h;obtain rfl:=Option.some.inj H
 go_enter Tryz.func79,Tryz.ntmps79
 go_wp2
 go_ret
 exact ⟨by first|rfl|(simp;done)|(simp [*];done),by repeat (first|exact yL.refl _|apply yL.step)⟩
def ZT.f (a0:ByteArray) (a1:ByteArray):Option (Bool):=(yj.f a0).bind fun t296=>(if t296=true then ((yj.f a1).bind fun t297=>(if t297=true then (some (Op.bytesLess a0.toList a1.toList)) else (some true))) else (some (Op.bytesLess a0.toList a1.toList)))
theorem ZT.calls (a0:ByteArray) (a1:ByteArray) (r:Bool) (w:World) (h:ZT.f a0 a1=some r) :
  Calls Tryz.prog 54 #[.string a0, .string a1] w fun e w'=>e= .returned (.bool r)∧yL w w':=by
 have H:((yj.f a0).bind fun t296=>(if t296=true then ((yj.f a1).bind fun t297=>(if t297=true then (some (Op.bytesLess a0.toList a1.toList)) else (some true))) else (some (Op.bytesLess a0.toList a1.toList))))=some r:=h;clear h;replace H:=ZzB H;obtain ⟨t296,A30,H⟩:=H;replace H:(if t296=true then ((yj.f a1).bind fun t297=>(if t297=true then (some (Op.bytesLess a0.toList a1.toList)) else (some true))) else (some (Op.bytesLess a0.toList a1.toList)))=some r:=H;have A3:=zA.mk A30;clear A30
 by_cases c4:t296=true
 ·subst c4
  have H1:((yj.f a1).bind fun t297=>(if t297=true then (some (Op.bytesLess a0.toList a1.toList)) else (some true)))=some r:=by rw [if_pos rfl] at H;exact H
  clear H;have H:=H1;clear H1;replace H:=ZzB H;obtain ⟨t297,A50,H⟩:=H;replace H:(if t297=true then (some (Op.bytesLess a0.toList a1.toList)) else (some true))=some r:=H;have A5:=zA.mk A50;clear A50
  by_cases c6:t297=true
  ·subst c6
   have H1:(some (Op.bytesLess a0.toList a1.toList))=some r:=by rw [if_pos rfl] at H;exact H
   clear H;have H:=H1;clear H1;obtain rfl:=Option.some.inj H
   go_enter Tryz.func54,Tryz.ntmps54
   go_wp2_with (first|((with_reducible refine zj (f:=79) rfl ?_);refine yS (some 6) rfl rfl Tryz.func79 (by kernel_rfl) rfl #[.string a0] rfl Q8 ?_;(with_reducible refine (yj.calls a0 true _ A3.out).mono ?_);rintro e w' ⟨rfl,⟨nd,rfl⟩⟩;refine ⟨_,rfl,?_⟩)|(go_at_call 79;(with_reducible refine (yj.calls a1 true _ A5.out).mono ?_);rintro e w' ⟨rfl,⟨nd,rfl⟩⟩))
   go_ret
   exact ⟨by first|rfl|(simp;done)|(simp [*];done),by repeat (first|exact yL.refl _|apply yL.step)⟩
  ·replace c6:=Bool.eq_false_iff.mpr c6
   subst c6
   have H1:(some true)=some r:=by rw [if_neg (show ¬(false=true) by decide)] at H;exact H
   clear H;have H:=H1;clear H1;obtain rfl:=Option.some.inj H
   go_enter Tryz.func54,Tryz.ntmps54
   go_wp2_with (first|((with_reducible refine zj (f:=79) rfl ?_);refine yS (some 6) rfl rfl Tryz.func79 (by kernel_rfl) rfl #[.string a0] rfl Q8 ?_;(with_reducible refine (yj.calls a0 true _ A3.out).mono ?_);rintro e w' ⟨rfl,⟨nd,rfl⟩⟩;refine ⟨_,rfl,?_⟩)|(go_at_call 79;(with_reducible refine (yj.calls a1 false _ A5.out).mono ?_);rintro e w' ⟨rfl,⟨nd,rfl⟩⟩))
   go_ret
   exact ⟨by first|rfl|(simp;done)|(simp [*];done),by repeat (first|exact yL.refl _|apply yL.step)⟩
 ·replace c4:=Bool.eq_false_iff.mpr c4
  subst c4
  have H1:(some (Op.bytesLess a0.toList a1.toList))=some r:=by rw [if_neg (show ¬(false=true) by decide)] at H;exact H
  clear H;have H:=H1;clear H1;obtain rfl:=Option.some.inj H
  go_enter Tryz.func54,Tryz.ntmps54
  go_wp2_with (first|((with_reducible refine zj (f:=79) rfl ?_);refine yS (some 6) rfl rfl Tryz.func79 (by kernel_rfl) rfl #[.string a0] rfl Q8 ?_;(with_reducible refine (yj.calls a0 false _ A3.out).mono ?_);rintro e w' ⟨rfl,⟨nd,rfl⟩⟩;refine ⟨_,rfl,?_⟩))
  go_ret
  exact ⟨by first|rfl|(simp;done)|(simp [*];done),by repeat (first|exact yL.refl _|apply yL.step)⟩
def yn.f (a0:ByteArray):Option (Bool):=some (a0.toList != a0.toList)
theorem yn.calls (a0:ByteArray) (r:Bool) (w:World) (h:yn.f a0=some r) :
  Calls Tryz.prog 55 #[.string a0] w fun e w'=>e= .returned (.bool r)∧yL w w':=by
 have H:(some (a0.toList != a0.toList))=some r:=h;clear h;obtain rfl:=Option.some.inj H
 go_enter Tryz.func55,Tryz.ntmps55
 go_wp2
 go_ret
 exact ⟨by first|rfl|(simp;done)|(simp [*];done),by repeat (first|exact yL.refl _|apply yL.step)⟩
def zM.l0:Nat→List ByteArray→ByteArray→Int→Int→Int→Option (Int × Bool)
 | 0,_,_,_,_,_=>none
 | k + 1,x0,x1,x6,x7,x8=>if x7 < x8 then (if 0≤(wrap64 ((IntKind.u64.wrap (wrap64 (x7 + x8))) / 2)) then (if (wrap64 ((IntKind.u64.wrap (wrap64 (x7 + x8))) / 2)) < (x0.length:Int) then ((ZT.f (rdOf ByteArray.empty x0 (wrap64 ((IntKind.u64.wrap (wrap64 (x7 + x8))) / 2))) x1).bind fun t299=>(if t299=true then (zM.l0 k x0 x1 x6 (wrap64 ((wrap64 ((IntKind.u64.wrap (wrap64 (x7 + x8))) / 2)) + 1)) x8) else (zM.l0 k x0 x1 x6 x7 (wrap64 ((IntKind.u64.wrap (wrap64 (x7 + x8))) / 2))))) else (none)) else (none)) else (if x7 < x6 then (if 0≤x7 then (if x7 < (x0.length:Int) then (if (rdOf ByteArray.empty x0 x7).toList=x1.toList then (some (x7,true)) else ((yn.f (rdOf ByteArray.empty x0 x7)).bind fun t302=>(if t302=true then ((yn.f x1).bind fun t303=>(some (x7,t303))) else (some (x7,false))))) else (none)) else (none)) else (some (x7,false)))
def zM.f (k:Nat) (l0:List ByteArray) (a1:ByteArray):Option (Int × Bool):=zM.l0 k l0 a1 (l0.length:Int) 0 (l0.length:Int)
theorem zM.mono_l:∀k,(∀y0 y1 y2 y3 y4,LeO (zM.l0 k y0 y1 y2 y3 y4) (zM.l0 (k + 1) y0 y1 y2 y3 y4))
 | 0=>fun _ _ _ _ _ r h=>by simp [zM.l0] at h
 | k + 1=>by
  have ih0:=zM.mono_l k
  ·intro y0 y1 y2 y3 y4
   unfold zM.l0
   repeat' first
   | with_reducible first|exact ih0 _ _ _ _ _|exact LeO.refl _|exact LeO.none _|refine LeO.ite ?_ ?_|refine LeO.bind ?_ (fun _=> ?_)
theorem zM.mono:∀a0 a1 k,LeO (zM.f k a0 a1) (zM.f (k + 1) a0 a1):=by
 intro a0 a1 k;have ih0:=zM.mono_l k
 unfold zM.f
 repeat' first
   | with_reducible first|exact ih0 _ _ _ _ _|exact LeO.refl _|exact LeO.none _|refine LeO.ite ?_ ?_|refine LeO.bind ?_ (fun _=> ?_)
theorem zM.calls (k:Nat) (A0:Option Addr) (c0:Nat) (l0:List ByteArray) (a1:ByteArray) (r1:Int) (r2:Bool) (w:World) (hr0:Kd.C Kd.string w A0 l0.length l0) (hc0:l0.length≤c0) (h:zM.f k l0 a1=some (r1,r2)) :
  Calls Tryz.prog 37 #[.slice A0 l0.length c0, .string a1] w fun e w'=>e= .returned (.tuple #[.int .i64 r1, .bool r2])∧yL w w':=by
 have HR0:=zA.mk hr0;have HC0:=zA.mk hc0;clear hr0 hc0;have H:(zM.l0 k l0 a1 (l0.length:Int) 0 (l0.length:Int))=some (r1,r2):=h;clear h;have H':=zA.mk H;clear H
 go_enter Tryz.func37,Tryz.ntmps37
 go_wp2
 go_loopg [7,8] k (fun kq v7 v8 w'=>∃(x7_1:Int) (x8_1:Int),v7= .int .i64 x7_1∧v8= .int .i64 x8_1∧zA (zM.l0 kq l0 a1 (l0.length:Int) x7_1 x8_1=some (r1,r2))∧zA (kq≤k)∧yL w w')
 case atStart=>exact ⟨(0),((l0.length:Int)),Zk,Zk,H',⟨Nat.le_refl _⟩,by repeat (first|exact yL.refl _|apply yL.step)⟩
 case round=>
  clear H';(try clear p2);obtain ⟨x7_1,x8_1,rfl,rfl,HA,HK1,⟨m1,rfl⟩⟩:=hrel;cases gk with
  | zero=>exact absurd HA.out (by simp [zM.l0])
  | succ k1=>
   have H:=HA.out;clear HA;simp only [zM.l0] at H
   by_cases c3:x7_1 < x8_1
   ·rw [if_pos c3] at H
    have c3b0:=decide_eq_true c3;clear c3;obtain ⟨ji4,hji4⟩:∃j_:Int,(wrap64 ((IntKind.u64.wrap (wrap64 (x7_1 + x8_1))) / 2))=j_:=⟨_,rfl⟩
    replace H:(if 0≤(ji4) then (if (ji4) < (l0.length:Int) then ((ZT.f (rdOf ByteArray.empty l0 (ji4)) a1).bind fun t299=>(if t299=true then (zM.l0 k1 l0 a1 (l0.length:Int) (wrap64 ((ji4) + 1)) x8_1) else (zM.l0 k1 l0 a1 (l0.length:Int) x7_1 ji4))) else (none)) else (none))=some (r1,r2):=by first|(rw [hji4] at H;exact H)|(simp only [hji4] at H⊢;exact H)
    have hji4w:(IntKind.i64.wrap ((IntKind.u64.wrap (wrap64 (x7_1 + x8_1))) / 2))=ji4:=(yl _).trans hji4
    by_cases c5:0≤(ji4)
    ·rw [if_pos c5] at H
     have c5b0:=decide_eq_true c5;clear c5
     by_cases c6:(ji4) < (l0.length:Int)
     ·rw [if_pos c6] at H
      have c6b0:=decide_eq_true c6;clear c6;replace H:=ZzB H;obtain ⟨t299,A70,H⟩:=H;replace H:(if t299=true then (zM.l0 k1 l0 a1 (l0.length:Int) (wrap64 ((ji4) + 1)) x8_1) else (zM.l0 k1 l0 a1 (l0.length:Int) x7_1 ji4))=some (r1,r2):=H;have A7:=zA.mk A70;clear A70
      by_cases c8:t299=true
      ·subst c8
       have H1:(zM.l0 k1 l0 a1 (l0.length:Int) (wrap64 ((ji4) + 1)) x8_1)=some (r1,r2):=by rw [if_pos rfl] at H;exact H
       clear H;have H:=H1;clear H1;have H':=zA.mk H;clear H;have p298:0≤((ji4):Int):=Qa;have q298:(ji4) < (l0.length:Int):=Qa;obtain ⟨ad298,e298,hx298_0⟩:=Kd.at_string HR0.out (ji4) p298 q298;cases e298;replace p298:=eq_true p298;replace q298:=eq_true q298
       go_wp2_with (first|((with_reducible refine zj (f:=54) rfl ?_);refine yS (some 27) rfl rfl Tryz.func54 (by kernel_rfl) rfl #[.string (rdOf ByteArray.empty l0 (ji4)), .string a1] rfl QX ?_;(with_reducible refine (ZT.calls (rdOf ByteArray.empty l0 (ji4)) a1 true _ A7.out).mono ?_);rintro e w' ⟨rfl,⟨nd,rfl⟩⟩;refine ⟨_,rfl,?_⟩))
       go_roundg k1
       case measure=>have:=HK1.out;omega
       case rel=>exact ⟨(wrap64 ((ji4) + 1)),(x8_1),Ze,Zk,H',⟨by have:=HK1.out;omega⟩,by repeat (first|exact yL.refl _|apply yL.step)⟩
      ·replace c8:=Bool.eq_false_iff.mpr c8
       subst c8
       have H1:(zM.l0 k1 l0 a1 (l0.length:Int) x7_1 ji4)=some (r1,r2):=by rw [if_neg (show ¬(false=true) by decide)] at H;exact H
       clear H;have H:=H1;clear H1;have H':=zA.mk H;clear H;have p298:0≤((ji4):Int):=Qa;have q298:(ji4) < (l0.length:Int):=Qa;obtain ⟨ad298,e298,hx298_0⟩:=Kd.at_string HR0.out (ji4) p298 q298;cases e298;replace p298:=eq_true p298;replace q298:=eq_true q298
       go_wp2_with (first|((with_reducible refine zj (f:=54) rfl ?_);refine yS (some 27) rfl rfl Tryz.func54 (by kernel_rfl) rfl #[.string (rdOf ByteArray.empty l0 (ji4)), .string a1] rfl QX ?_;(with_reducible refine (ZT.calls (rdOf ByteArray.empty l0 (ji4)) a1 false _ A7.out).mono ?_);rintro e w' ⟨rfl,⟨nd,rfl⟩⟩;refine ⟨_,rfl,?_⟩))
       go_roundg k1
       case measure=>have:=HK1.out;omega
       case rel=>exact ⟨(x7_1),(ji4),Zk,Ze,H',⟨by have:=HK1.out;omega⟩,by repeat (first|exact yL.refl _|apply yL.step)⟩
     ·rw [if_neg c6] at H
      exact absurd H (by simp)
    ·rw [if_neg c5] at H
     exact absurd H (by simp)
   ·rw [if_neg c3] at H
    have c3b0:=decide_eq_false c3;clear c3
    by_cases c9:x7_1 < (l0.length:Int)
    ·rw [if_pos c9] at H
     have c9b0:=decide_eq_true c9;clear c9
     by_cases c10:0≤x7_1
     ·rw [if_pos c10] at H
      have c10b0:=decide_eq_true c10;clear c10
      by_cases c11:x7_1 < (l0.length:Int)
      ·rw [if_pos c11] at H
       have c11b0:=decide_eq_true c11;clear c11
       by_cases c12:(rdOf ByteArray.empty l0 x7_1).toList=a1.toList
       ·rw [if_pos c12] at H
        have c12b0:((rdOf ByteArray.empty l0 x7_1).toList == a1.toList)=true:=beq_iff_eq.mpr c12;have c12b1:((rdOf ByteArray.empty l0 x7_1).toList != a1.toList)=false:=bne_eq_false_iff_eq.mpr c12;clear c12;simp only [Option.some.injEq,Prod.mk.injEq] at H;obtain ⟨rfl,rfl⟩:=H;have p300:0≤(x7_1:Int):=Qa;have q300:x7_1 < (l0.length:Int):=Qa;obtain ⟨ad300,e300,hx300_0⟩:=Kd.at_string HR0.out x7_1 p300 q300;cases e300;replace p300:=eq_true p300;replace q300:=eq_true q300
        go_wp2
        go_ret2
        exact ⟨by first|rfl|(simp;done)|(simp [*];done),by repeat (first|exact yL.refl _|apply yL.step)⟩
       ·rw [if_neg c12] at H
        have c12b0:((rdOf ByteArray.empty l0 x7_1).toList == a1.toList)=false:=beq_eq_false_iff_ne.mpr c12;have c12b1:((rdOf ByteArray.empty l0 x7_1).toList != a1.toList)=true:=bne_iff_ne.mpr c12;replace H:=ZzB H;obtain ⟨t302,A130,H⟩:=H;replace H:(if t302=true then ((yn.f a1).bind fun t303=>(some (x7_1,t303))) else (some (x7_1,false)))=some (r1,r2):=H;have A13:=zA.mk A130;clear A130
        by_cases c14:t302=true
        ·subst c14
         have H1:((yn.f a1).bind fun t303=>(some (x7_1,t303)))=some (r1,r2):=by rw [if_pos rfl] at H;exact H
         clear H;have H:=H1;clear H1;replace H:=ZzB H;obtain ⟨t303,A150,H⟩:=H;replace H:(some (x7_1,t303))=some (r1,r2):=H;have A15:=zA.mk A150;clear A150;simp only [Option.some.injEq,Prod.mk.injEq] at H;obtain ⟨rfl,rfl⟩:=H;have p300:0≤(x7_1:Int):=Qa;have q300:x7_1 < (l0.length:Int):=Qa;obtain ⟨ad300,e300,hx300_0⟩:=Kd.at_string HR0.out x7_1 p300 q300;cases e300;replace p300:=eq_true p300;replace q300:=eq_true q300;have p301:0≤(x7_1:Int):=Qa;have q301:x7_1 < (l0.length:Int):=Qa;obtain ⟨ad301,e301,hx301_0⟩:=Kd.at_string HR0.out x7_1 p301 q301;obtain rfl:ad300=ad301:=(by injection e301);replace p301:=eq_true p301;replace q301:=eq_true q301
         go_wp2_with (first|(go_at_call 55;(with_reducible refine (yn.calls (rdOf ByteArray.empty l0 x7_1) true _ A13.out).mono ?_);rintro e w' ⟨rfl,⟨nd,rfl⟩⟩;clear A13)|(go_at_call 55;(with_reducible refine (yn.calls a1 t303 _ A15.out).mono ?_);rintro e w' ⟨rfl,⟨nd,rfl⟩⟩;clear A15))
         go_ret2
         exact ⟨by first|rfl|(simp;done)|(simp [*];done),by repeat (first|exact yL.refl _|apply yL.step)⟩
        ·replace c14:=Bool.eq_false_iff.mpr c14
         subst c14
         have H1:(some (x7_1,false))=some (r1,r2):=by rw [if_neg (show ¬(false=true) by decide)] at H;exact H
         clear H;have H:=H1;clear H1;simp only [Option.some.injEq,Prod.mk.injEq] at H;obtain ⟨rfl,rfl⟩:=H;have p300:0≤(x7_1:Int):=Qa;have q300:x7_1 < (l0.length:Int):=Qa;obtain ⟨ad300,e300,hx300_0⟩:=Kd.at_string HR0.out x7_1 p300 q300;cases e300;replace p300:=eq_true p300;replace q300:=eq_true q300;have p301:0≤(x7_1:Int):=Qa;have q301:x7_1 < (l0.length:Int):=Qa;obtain ⟨ad301,e301,hx301_0⟩:=Kd.at_string HR0.out x7_1 p301 q301;obtain rfl:ad300=ad301:=(by injection e301);replace p301:=eq_true p301;replace q301:=eq_true q301
         go_wp2_with (first|(go_at_call 55;(with_reducible refine (yn.calls (rdOf ByteArray.empty l0 x7_1) false _ A13.out).mono ?_);rintro e w' ⟨rfl,⟨nd,rfl⟩⟩))
         go_ret2
         exact ⟨by first|rfl|(simp;done)|(simp [*];done),by repeat (first|exact yL.refl _|apply yL.step)⟩
      ·rw [if_neg c11] at H
       exact absurd H (by simp)
     ·rw [if_neg c10] at H
      exact absurd H (by simp)
    ·rw [if_neg c9] at H
     have c9b0:=decide_eq_false c9;clear c9;simp only [Option.some.injEq,Prod.mk.injEq] at H;obtain ⟨rfl,rfl⟩:=H
     go_wp2
     go_ret2
     exact ⟨by first|rfl|(simp;done)|(simp [*];done),by repeat (first|exact yL.refl _|apply yL.step)⟩
def zq.l0:Nat→List ByteArray→ByteArray→Int→Int→Option (Int)
 | 0,_,_,_,_=>none
 | k + 1,x0,x1,x7,x8=>if x8 < x7 then (if 0≤x8 then (if x8 < (x0.length:Int) then (if x1.toList=(rdOf ByteArray.empty x0 x8).toList then (some x8) else (zq.l0 k x0 x1 x7 (wrap64 (x8 + 1)))) else (none)) else (none)) else (some (-1))
def zq.f (k:Nat) (l0:List ByteArray) (a1:ByteArray):Option (Int):=zq.l0 k l0 a1 (l0.length:Int) 0
theorem zq.mono_l:∀k,(∀y0 y1 y2 y3,LeO (zq.l0 k y0 y1 y2 y3) (zq.l0 (k + 1) y0 y1 y2 y3))
 | 0=>fun _ _ _ _ r h=>by simp [zq.l0] at h
 | k + 1=>by
  have ih0:=zq.mono_l k
  ·intro y0 y1 y2 y3
   unfold zq.l0
   repeat' first
   | with_reducible first|exact ih0 _ _ _ _|exact LeO.refl _|exact LeO.none _|refine LeO.ite ?_ ?_|refine LeO.bind ?_ (fun _=> ?_)
theorem zq.mono:∀a0 a1 k,LeO (zq.f k a0 a1) (zq.f (k + 1) a0 a1):=by
 intro a0 a1 k;have ih0:=zq.mono_l k
 unfold zq.f
 repeat' first
   | with_reducible first|exact ih0 _ _ _ _|exact LeO.refl _|exact LeO.none _|refine LeO.ite ?_ ?_|refine LeO.bind ?_ (fun _=> ?_)
theorem zq.calls (k:Nat) (A0:Option Addr) (c0:Nat) (l0:List ByteArray) (a1:ByteArray) (r:Int) (w:World) (hr0:Kd.C Kd.string w A0 l0.length l0) (hc0:l0.length≤c0) (h:zq.f k l0 a1=some r) :
  Calls Tryz.prog 56 #[.slice A0 l0.length c0, .string a1] w fun e w'=>e= .returned (.int .i64 r)∧yL w w':=by
 have HR0:=zA.mk hr0;have HC0:=zA.mk hc0;clear hr0 hc0;have H:(zq.l0 k l0 a1 (l0.length:Int) 0)=some r:=h;clear h;have H':=zA.mk H;clear H
 go_enter Tryz.func56,Tryz.ntmps56
 go_wp2
 go_loopg [8] k (fun kq v8 w'=>∃(x8_1:Int),v8= .int .i64 x8_1∧zA (zq.l0 kq l0 a1 (l0.length:Int) x8_1=some r)∧zA (kq≤k)∧yL w w')
 case atStart=>exact ⟨(0),Zk,H',⟨Nat.le_refl _⟩,by repeat (first|exact yL.refl _|apply yL.step)⟩
 case round=>
  clear H';(try clear p2);obtain ⟨x8_1,rfl,HA,HK1,⟨m1,rfl⟩⟩:=hrel;cases gk with
  | zero=>exact absurd HA.out (by simp [zq.l0])
  | succ k1=>
   have H:=HA.out;clear HA;simp only [zq.l0] at H
   by_cases c3:x8_1 < (l0.length:Int)
   ·rw [if_pos c3] at H
    have c3b0:=decide_eq_true c3;clear c3
    by_cases c4:0≤x8_1
    ·rw [if_pos c4] at H
     have c4b0:=decide_eq_true c4;clear c4
     by_cases c5:x8_1 < (l0.length:Int)
     ·rw [if_pos c5] at H
      have c5b0:=decide_eq_true c5;clear c5
      by_cases c6:a1.toList=(rdOf ByteArray.empty l0 x8_1).toList
      ·rw [if_pos c6] at H
       have c6b0:(a1.toList == (rdOf ByteArray.empty l0 x8_1).toList)=true:=beq_iff_eq.mpr c6;have c6b1:(a1.toList != (rdOf ByteArray.empty l0 x8_1).toList)=false:=bne_eq_false_iff_eq.mpr c6;clear c6;obtain rfl:=Option.some.inj H;have p304:0≤(x8_1:Int):=Qa;have q304:x8_1 < (l0.length:Int):=Qa;obtain ⟨ad304,e304,hx304_0⟩:=Kd.at_string HR0.out x8_1 p304 q304;cases e304;replace p304:=eq_true p304;replace q304:=eq_true q304
       go_wp2
       go_ret
       exact ⟨by first|rfl|(simp;done)|(simp [*];done),by repeat (first|exact yL.refl _|apply yL.step)⟩
      ·rw [if_neg c6] at H
       have c6b0:(a1.toList == (rdOf ByteArray.empty l0 x8_1).toList)=false:=beq_eq_false_iff_ne.mpr c6;have c6b1:(a1.toList != (rdOf ByteArray.empty l0 x8_1).toList)=true:=bne_iff_ne.mpr c6;have H':=zA.mk H;clear H;have p304:0≤(x8_1:Int):=Qa;have q304:x8_1 < (l0.length:Int):=Qa;obtain ⟨ad304,e304,hx304_0⟩:=Kd.at_string HR0.out x8_1 p304 q304;cases e304;replace p304:=eq_true p304;replace q304:=eq_true q304
       go_wp2
       go_roundg k1
       case measure=>have:=HK1.out;omega
       case rel=>exact ⟨(wrap64 (x8_1 + 1)),Zk,H',⟨by have:=HK1.out;omega⟩,by repeat (first|exact yL.refl _|apply yL.step)⟩
     ·rw [if_neg c5] at H
      exact absurd H (by simp)
    ·rw [if_neg c4] at H
     exact absurd H (by simp)
   ·rw [if_neg c3] at H
    have c3b0:=decide_eq_false c3;clear c3;obtain rfl:=Option.some.inj H
    go_wp2
    go_ret
    exact ⟨by first|rfl|(simp;done)|(simp [*];done),by repeat (first|exact yL.refl _|apply yL.step)⟩
def yT.f (k:Nat) (l0:List ByteArray) (a1:ByteArray):Option (Bool):=(zq.f k l0 a1).bind fun t305=>(some (decide (t305≥0)))
theorem yT.mono:∀a0 a1 k,LeO (yT.f k a0 a1) (yT.f (k + 1) a0 a1):=by
 intro a0 a1 k
 unfold yT.f
 repeat' first
   | with_reducible first|exact zq.mono _ _ _|exact LeO.refl _|exact LeO.none _|refine LeO.ite ?_ ?_|refine LeO.bind ?_ (fun _=> ?_)
theorem yT.calls (k:Nat) (A0:Option Addr) (c0:Nat) (l0:List ByteArray) (a1:ByteArray) (r:Bool) (w:World) (hr0:Kd.C Kd.string w A0 l0.length l0) (hc0:l0.length≤c0) (h:yT.f k l0 a1=some r) :
  Calls Tryz.prog 38 #[.slice A0 l0.length c0, .string a1] w fun e w'=>e= .returned (.bool r)∧yL w w':=by
 have HR0:=zA.mk hr0;have HC0:=zA.mk hc0;clear hr0 hc0;have H:((zq.f k l0 a1).bind fun t305=>(some (decide (t305≥0))))=some r:=h;clear h;replace H:=ZzB H;obtain ⟨t305,A30,H⟩:=H;replace H:(some (decide (t305≥0)))=some r:=H;have A3:=zA.mk A30;clear A30;obtain rfl:=Option.some.inj H
 go_enter Tryz.func38,Tryz.ntmps38
 go_wp2_with (first|((with_reducible refine zj (f:=56) rfl ?_);refine yS (some 7) rfl rfl Tryz.func56 (by kernel_rfl) rfl #[.slice A0 l0.length c0, .string a1] rfl Q8 ?_;(with_reducible refine (zq.calls k _ _ l0 a1 t305 _ ?side1 ?side2 A3.out).mono ?_);(case side1=>exact Qo HR0.out);(case side2=>exact HC0.out);rintro e w' ⟨rfl,⟨nd,rfl⟩⟩;refine ⟨_,rfl,?_⟩))
 go_ret
 exact ⟨by first|rfl|(simp;done)|(simp [*];done),by repeat (first|exact yL.refl _|apply yL.step)⟩
def Zu.f (k:Nat) (l0:List ByteArray) (a1:ByteArray):Option (Bool):=(yw.f k l0).bind fun t306=>(if t306=true then ((zM.f k l0 a1).bind fun bt307=>(some bt307.2)) else ((yT.f k l0 a1).bind fun t309=>(some t309)))
theorem Zu.mono:∀a0 a1 k,LeO (Zu.f k a0 a1) (Zu.f (k + 1) a0 a1):=by
 intro a0 a1 k
 unfold Zu.f
 repeat' first
   | with_reducible first|exact yw.mono _ _|exact zM.mono _ _ _|exact yT.mono _ _ _|exact LeO.refl _|exact LeO.none _|refine LeO.ite ?_ ?_|refine LeO.bind ?_ (fun _=> ?_)
theorem Zu.calls (k:Nat) (A0:Option Addr) (c0:Nat) (l0:List ByteArray) (a1:ByteArray) (r:Bool) (w:World) (hr0:Kd.C Kd.string w A0 l0.length l0) (hc0:l0.length≤c0) (h:Zu.f k l0 a1=some r) :
  Calls Tryz.prog 18 #[.slice A0 l0.length c0, .string a1] w fun e w'=>e= .returned (.bool r)∧yL w w':=by
 have HR0:=zA.mk hr0;have HC0:=zA.mk hc0;clear hr0 hc0;have H:((yw.f k l0).bind fun t306=>(if t306=true then ((zM.f k l0 a1).bind fun bt307=>(some bt307.2)) else ((yT.f k l0 a1).bind fun t309=>(some t309))))=some r:=h;clear h;replace H:=ZzB H;obtain ⟨t306,A30,H⟩:=H;replace H:(if t306=true then ((zM.f k l0 a1).bind fun bt307=>(some bt307.2)) else ((yT.f k l0 a1).bind fun t309=>(some t309)))=some r:=H;have A3:=zA.mk A30;clear A30
 by_cases c4:t306=true
 ·subst c4
  have H1:((zM.f k l0 a1).bind fun bt307=>(some bt307.2))=some r:=by rw [if_pos rfl] at H;exact H
  clear H;have H:=H1;clear H1;replace H:=ZzB H;obtain ⟨⟨t307,t308⟩,A50,H⟩:=H;replace H:(some t308)=some r:=H;have A5:=zA.mk A50;clear A50;obtain rfl:=Option.some.inj H
  go_enter Tryz.func18,Tryz.ntmps18
  go_wp2_with (first|((with_reducible refine zj (f:=36) rfl ?_);refine yS (some 8) rfl rfl Tryz.func36 (by kernel_rfl) rfl #[.slice A0 l0.length c0] rfl Q8 ?_;(with_reducible refine (yw.calls k _ _ l0 true _ ?side1 ?side2 A3.out).mono ?_);(case side1=>exact Qo HR0.out);(case side2=>exact HC0.out);rintro e w' ⟨rfl,⟨nd,rfl⟩⟩;refine ⟨_,rfl,?_⟩)|((with_reducible refine zj (f:=37) rfl ?_);refine yS (some 12) rfl rfl Tryz.func37 (by kernel_rfl) rfl #[.slice A0 l0.length c0, .string a1] rfl Q8 ?_;(with_reducible refine (zM.calls k _ _ l0 a1 t307 t308 _ ?side1 ?side2 A5.out).mono ?_);(case side1=>exact Qo HR0.out);(case side2=>exact HC0.out);rintro e w' ⟨rfl,⟨nd,rfl⟩⟩;refine ⟨_,rfl,?_⟩))
  go_ret
  exact ⟨by first|rfl|(simp;done)|(simp [*];done),by repeat (first|exact yL.refl _|apply yL.step)⟩
 ·replace c4:=Bool.eq_false_iff.mpr c4
  subst c4
  have H1:((yT.f k l0 a1).bind fun t309=>(some t309))=some r:=by rw [if_neg (show ¬(false=true) by decide)] at H;exact H
  clear H;have H:=H1;clear H1;replace H:=ZzB H;obtain ⟨t309,A60,H⟩:=H;replace H:(some t309)=some r:=H;have A6:=zA.mk A60;clear A60;obtain rfl:=Option.some.inj H
  go_enter Tryz.func18,Tryz.ntmps18
  go_wp2_with (first|((with_reducible refine zj (f:=36) rfl ?_);refine yS (some 8) rfl rfl Tryz.func36 (by kernel_rfl) rfl #[.slice A0 l0.length c0] rfl Q8 ?_;(with_reducible refine (yw.calls k _ _ l0 false _ ?side1 ?side2 A3.out).mono ?_);(case side1=>exact Qo HR0.out);(case side2=>exact HC0.out);rintro e w' ⟨rfl,⟨nd,rfl⟩⟩;refine ⟨_,rfl,?_⟩)|((with_reducible refine zj (f:=38) rfl ?_);refine yS (some 18) rfl rfl Tryz.func38 (by kernel_rfl) rfl #[.slice A0 l0.length c0, .string a1] rfl Q8 ?_;(with_reducible refine (yT.calls k _ _ l0 a1 t309 _ ?side1 ?side2 A6.out).mono ?_);(case side1=>exact Qo HR0.out);(case side2=>exact HC0.out);rintro e w' ⟨rfl,⟨nd,rfl⟩⟩;refine ⟨_,rfl,?_⟩))
  go_ret
  exact ⟨by first|rfl|(simp;done)|(simp [*];done),by repeat (first|exact yL.refl _|apply yL.step)⟩
def yc.l0:Nat→Int→List Int→List (S42)→Int→Int→Option (List Int)
 | 0,_,_,_,_,_=>none
 | k + 1,x1,x5,x12,x13,x14=>if x14 < x13 then (if 0≤x14 then (if x14 < (x12.length:Int) then (if ((zH x12 x14).f0)=x1 then (if x5.length < 17592186044416 then (yc.l0 k x1 (x5 ++ [x14]) x12 x13 (wrap64 (x14 + 1))) else (none)) else (yc.l0 k x1 x5 x12 x13 (wrap64 (x14 + 1)))) else (none)) else (none)) else (some x5)
def yc.f (k:Nat) (a0_0:Int) (a0_1:Int) (l0_2:List Int) (l0_3:List (S42)) (a1:Int):Option (List Int):=(yZ.f k a0_0 a0_1 l0_2 l0_3).bind fun t311=>(if t311=0 then (yc.l0 k a1 ([]:List Int) l0_3 (l0_3.length:Int) 0) else (some ([]:List Int)))
theorem yc.mono_l:∀k,(∀y0 y1 y2 y3 y4,LeO (yc.l0 k y0 y1 y2 y3 y4) (yc.l0 (k + 1) y0 y1 y2 y3 y4))
 | 0=>fun _ _ _ _ _ r h=>by simp [yc.l0] at h
 | k + 1=>by
  have ih0:=yc.mono_l k
  ·intro y0 y1 y2 y3 y4
   unfold yc.l0
   repeat' first
   | with_reducible first|exact ih0 _ _ _ _ _|exact yZ.mono _ _ _ _ _|exact LeO.refl _|exact LeO.none _|refine LeO.ite ?_ ?_|refine LeO.bind ?_ (fun _=> ?_)
theorem yc.mono:∀a0 a1 a2 a3 a4 k,LeO (yc.f k a0 a1 a2 a3 a4) (yc.f (k + 1) a0 a1 a2 a3 a4):=by
 intro a0 a1 a2 a3 a4 k;have ih0:=yc.mono_l k
 unfold yc.f
 repeat' first
   | with_reducible first|exact ih0 _ _ _ _ _|exact yZ.mono _ _ _ _ _|exact LeO.refl _|exact LeO.none _|refine LeO.ite ?_ ?_|refine LeO.bind ?_ (fun _=> ?_)
theorem yc.calls (k:Nat) (a0_0:Int) (a0_1:Int) (vg:Option Addr) (vh:Nat) (l0_2:List Int) (vl:Option Addr) (vi:Nat) (l0_3:List (S42)) (a1:Int) (r:List Int) (w:World) (hr0_2:Kd.C (Kd.int .i64) w vg l0_2.length l0_2) (hc0_2:l0_2.length≤vh) (hr0_3:Kd.C k42 w vl l0_3.length l0_3) (hc0_3:l0_3.length≤vi) (h:yc.f k a0_0 a0_1 l0_2 l0_3 a1=some r) :
  Calls Tryz.prog 35 #[.agg #[.int .i64 a0_0, .int .i64 a0_1, .slice vg l0_2.length vh, .slice vl l0_3.length vi], .int .i64 a1] w fun e w'=>∃v0_:Value,e= .returned (v0_)∧Kd.R (Kd.int .i64) 3 w' w.heap.size (fun _=>True) v0_ r∧Below w.heap.size w w':=by
 have hu25:=Tryz.underlying25;have hu42:=Tryz.underlying42;have vI:=zA.mk hr0_2;have vJ:=zA.mk hc0_2;clear hr0_2 hc0_2;have vp:=zA.mk hr0_3;have vL:=zA.mk hc0_3;clear hr0_3 hc0_3;have HB:=zA.mk (Below.refl w.heap.size w);have H:((yZ.f k a0_0 a0_1 l0_2 l0_3).bind fun t311=>(if t311=0 then (yc.l0 k a1 ([]:List Int) l0_3 (l0_3.length:Int) 0) else (some ([]:List Int))))=some r:=h;clear h;replace H:=ZzB H;obtain ⟨t311,A30,H⟩:=H;replace H:(if t311=0 then (yc.l0 k a1 ([]:List Int) l0_3 (l0_3.length:Int) 0) else (some ([]:List Int)))=some r:=H;have A3:=zA.mk A30;clear A30
 by_cases c4:t311=0
 ·rw [if_pos c4] at H
  have c4b0:(t311 == 0)=true:=beq_iff_eq.mpr c4;have c4b1:(t311 != 0)=false:=bne_eq_false_iff_eq.mpr c4;clear c4;have H':=zA.mk H;clear H
  go_enter Tryz.func35,Tryz.ntmps35
  go_wp2_with (first|((with_reducible refine zw (N:=2) rfl ?_);refine yM (by rfl) (N:=2) (by rfl) (cs:= #[.int .i64 a0_0, .int .i64 a0_1, .slice vg l0_2.length vh, .slice vl l0_3.length vi]) (t:=25) Qm ?_;intro gb310 hg w5 hbox hb;have n0_:=zA.mk (zF Qc hb);have n1_:=zA.mk (hbox);have n2_:=zA.mk ((by rw [hg];exact (zD Qc):w.heap.size≤gb310));have n3_:=zA.mk ((by rw [hg];exact (zD Qc):w.heap.size≤gb310));clear HB;have HB:=n0_;have vF:=n1_;have GW310:=n2_;have GE310:=n3_;clear n0_ n1_ n2_ n3_ hb hbox hg;have hcz6_0:=Qn vF 0 rfl;have hcz6_1:=Qn vF 1 rfl;have hcz6_2:=Qn vF 2 rfl;have hcz6_3:=Qn vF 3 rfl;have hfz6_0:=zB vF.out 0;have hfz6_1:=zB vF.out 1;have hfz6_2:=zB vF.out 2;have hfz6_3:=zB vF.out 3)|((with_reducible refine zj (f:=53) rfl ?_);refine yS (some 9) rfl rfl Tryz.func53 (by kernel_rfl) rfl #[.agg #[.int .i64 a0_0, .int .i64 a0_1, .slice vg l0_2.length vh, .slice vl l0_3.length vi]] rfl Q8 ?_;(with_reducible refine (yZ.calls k a0_0 a0_1 _ _ l0_2 _ _ l0_3 t311 _ ?side1 ?side2 ?side3 ?side4 A3.out).mono ?_);(case side1=>exact Qo (Kd.C_below vI.out HB.out));(case side2=>exact vJ.out);(case side3=>exact Qo (Kd.C_below vp.out HB.out));(case side4=>exact vL.out);rintro e w7 ⟨rfl,hb⟩;refine ⟨_,rfl,?_⟩;have n0_:=zA.mk (zZ (g:=gb310) (Qi vF) hb);have n1_:=zA.mk (zF (Qd GE310) hb);clear vF HB;have vF:=n0_;have HB:=n1_;clear n0_ n1_;(try clear hb);(try clear hb2);(try clear hk);(try clear hi);have hcz8_0:=Qn vF 0 rfl;have hcz8_1:=Qn vF 1 rfl;have hcz8_2:=Qn vF 2 rfl;have hcz8_3:=Qn vF 3 rfl;have hfz8_0:=zB vF.out 0;have hfz8_1:=zB vF.out 1;have hfz8_2:=zB vF.out 2;have hfz8_3:=zB vF.out 3))
  go_loopg [5,14] k (fun kq v5 v14 w'=>∃(x5_1:List Int) (x14_1:Int),v14= .int .i64 x14_1∧zA (yc.l0 kq a1 x5_1 l0_3 (l0_3.length:Int) x14_1=some r)∧zA (kq≤k)∧zA (Kd.R (Kd.int .i64) 3 w' w.heap.size (fun _=>True) v5 x5_1)∧zA (w'.heap[gb310]? =some (.cells #[.int .i64 a0_0, .int .i64 a0_1,(.slice vg l0_2.length vh),(.slice vl l0_3.length vi)] 25 (0,0)))∧zA (Below w.heap.size w w'))
  case atStart=>exact ⟨(([]:List Int)),(0),Zk,H',⟨Nat.le_refl _⟩,⟨by first|exact Kd.R_nil _ _ _ _ _|exact Kd.N_nil _ _ _ _ _|exact Kd.V_nil _ _ _ _ _|exact Kd.Q_nil _ _ _ _ _|exact Kd.S_nil _ _ _ _ _⟩,⟨Qi vF⟩,⟨by repeat (first|(with_reducible first|exact HB.out|apply zE|apply zC|apply zG|refine zJ ?_ GE310.out)|exact HB.out)⟩⟩
  case round=>
   clear H';(try clear p2);(try clear c3);(try clear c4);(try clear c4b0);(try clear c4b1);(try clear c5);(try clear hcz6_0);(try clear hcz6_1);(try clear hcz6_2);(try clear hcz6_3);(try clear hcz8_0);(try clear hcz8_1);(try clear hcz8_2);(try clear hcz8_3);(try clear hfz6_0);(try clear hfz6_1);(try clear hfz6_2);(try clear hfz6_3);(try clear hfz8_0);(try clear hfz8_1);(try clear hfz8_2);(try clear hfz8_3);obtain ⟨x5_1,x14_1,rfl,HA,HK1,HO_5,vF,HB⟩:=hrel;cases gk with
   | zero=>exact absurd HA.out (by simp [yc.l0])
   | succ k1=>
    have H:=HA.out;clear HA;simp only [yc.l0] at H
    by_cases c9:x14_1 < (l0_3.length:Int)
    ·rw [if_pos c9] at H
     have c9b0:=decide_eq_true c9;clear c9
     by_cases c10:0≤x14_1
     ·rw [if_pos c10] at H
      have c10b0:=decide_eq_true c10;clear c10
      by_cases c11:x14_1 < (l0_3.length:Int)
      ·rw [if_pos c11] at H
       have c11b0:=decide_eq_true c11;clear c11
       by_cases c12:((zH l0_3 x14_1).f0)=a1
       ·rw [if_pos c12] at H
        have c12b0:(((zH l0_3 x14_1).f0) == a1)=true:=beq_iff_eq.mpr c12;have c12b1:(((zH l0_3 x14_1).f0) != a1)=false:=bne_eq_false_iff_eq.mpr c12;clear c12
        by_cases c13:x5_1.length < 17592186044416
        ·rw [if_pos c13] at H
         have LMc13:=zA.mk c13;clear c13;obtain ⟨y314,hy314⟩:∃y_:List Int,y_=(x5_1 ++ [x14_1]):=⟨_,rfl⟩;replace H:(yc.l0 k1 a1 y314 l0_3 (l0_3.length:Int) (wrap64 (x14_1 + 1)))=some r:=Qb hy314 H;have Ny314:=zA.mk hy314;clear hy314;have H':=zA.mk H;clear H;have p312:0≤(x14_1:Int):=Qa;have q312:x14_1 < (l0_3.length:Int):=Qa;obtain ⟨ad312,A312_1,c312_1,e312,hx312_0,hx312_1,hl312_1,hi312_1⟩:=ZE vp.out x14_1 p312 q312;cases e312;replace hx312_0:=Qp HB hx312_0;replace hx312_1:=Qp HB hx312_1;have HR312_1:=zA.mk hi312_1;have HC312_1:=zA.mk hl312_1;clear hi312_1 hl312_1;replace p312:=eq_true p312;replace q312:=eq_true q312
         go_wp2_with (first|((with_reducible refine zw (N:=7) rfl ?_);refine yM (by rfl) (N:=7) (by rfl) (cs:= #[.int .i64 0, .slice none 0 0]) (t:=42) Qm ?_;intro gb313 hg w14 hbox hb;have n0_:=zA.mk (Kd.R_below (Qh HO_5) hb);have n1_:=zA.mk (zZ (g:=gb310) (Qi vF) hb);have n2_:=zA.mk (zF (Qd GE310) hb);have n3_:=zA.mk (hbox);have n4_:=zA.mk ((by rw [hg];exact (zD (Qd GE310)):w.heap.size≤gb313));have n5_:=zA.mk ((by rw [hg];exact (zD (Qd GE310)):w.heap.size≤gb313));have n6_:=zA.mk ((by rw [hg];exact Nat.ne_of_lt (yK (g:=gb310) (Qi vF)):gb310≠gb313));have n7_:=zA.mk ((by rw [hg];exact Nat.ne_of_gt (yK (g:=gb310) (Qi vF)):gb313≠gb310));clear HO_5 vF HB;have HO_5:=n0_;have vF:=n1_;have HB:=n2_;have BK313:=n3_;have GW313:=n4_;have GE313:=n5_;have NB310_313:=n6_;have NB313_310:=n7_;clear n0_ n1_ n2_ n3_ n4_ n5_ n6_ n7_ hb hbox hg;have hnb15:=NB313_310.out;have hnc15:=NB310_313.out;have hcz16_0:=Qn BK313 0 rfl;have hcz16_1:=Qn BK313 1 rfl;have hfz16_0:=zB BK313.out 0;have hfz16_1:=zB BK313.out 1)|((with_reducible refine ZK (b:= .append) (xs:= #[.tmp 23, .tmp 25]) rfl ?_);at_builtin;refine Kd.R_append (Kd.int .i64) (w0:=w) w.heap.size rfl (.tmp 23) (.tmp 25) 22 3 (.int .i64 0) 8 rfl Tryz.underlying22 info3 rfl (by decide) (by omega) u5 x5_1 x14_1 [.int .i64 x14_1] (fun _=>True) (fun _=>False) rfl Qm ?aP (fun _ hk=>hk.elim) ?aF ?aO ?aB ?aS ?aL ?_;(case aP=>exact rfl);(case aB=>exact (Qe GE310 GE313));(case aF=>exact (fun _ _=>trivial));(case aO=>exact (by (with_reducible repeat (first|apply Kd.R_alloc|apply Kd.R_drewN|apply Kd.R_drew));exact Kd.R_mono (Kd.R_far (p:=⟨gb313,1,none⟩) (Kd.R_far (p:=⟨gb313,0,none⟩) (Kd.R_types HO_5.out BK313.out (by decide)) (fun _ hk=>hk.2) (.int .i64 ((zH l0_3 x14_1).f0))) (fun _ hk=>hk.2) (.slice A312_1 ((zH l0_3 x14_1).f1).length c312_1)) (fun _ hk=>trivial)));(case aS=>exact (zD (Qe GE310 GE313)));(case aL=>have:=LMc13.out;omega);intro v315 w17 ho hb hg hat;rw [←Ny314.out] at ho;have n0_:=zA.mk (ZD (g:=gb310) (o:= .cells #[.int .i64 a0_0, .int .i64 a0_1, .slice vg l0_2.length vh, .slice (some ad312) l0_3.length vi] 25 (0,0)) (by (with_reducible repeat (first|refine zO ?_ _|refine zP ?_|refine zL ?_ _));refine yQ ?_ NB310_313.out _;(with_reducible repeat (first|refine zO ?_ _|refine zP ?_|refine zL ?_ _));refine yQ ?_ NB310_313.out _;(with_reducible repeat (first|refine zO ?_ _|refine zP ?_|refine zL ?_ _));exact vF.out) hg (Kd.R_ne HO_5.out vF.out (by decide)));have n2_:=zA.mk (hb);have n3_:=zA.mk (ho);clear vF HB HO_5;have vF:=n0_;have HB:=n2_;have HO316:=n3_;clear n0_ n2_ n3_ ho hb hg hat))
         go_roundg k1
         case measure=>have:=HK1.out;omega
         case rel=>exact ⟨(y314),(wrap64 (x14_1 + 1)),Zk,H',⟨by have:=HK1.out;omega⟩,⟨Qh HO316⟩,⟨Qi vF⟩,⟨by repeat (first|(with_reducible first|exact HB.out|apply zE|apply zC|apply zG|refine zJ ?_ GE310.out|refine zJ ?_ GE313.out)|exact HB.out)⟩⟩
        ·rw [if_neg c13] at H
         exact absurd H (by simp)
       ·rw [if_neg c12] at H
        have c12b0:(((zH l0_3 x14_1).f0) == a1)=false:=beq_eq_false_iff_ne.mpr c12;have c12b1:(((zH l0_3 x14_1).f0) != a1)=true:=bne_iff_ne.mpr c12;have H':=zA.mk H;clear H;have p312:0≤(x14_1:Int):=Qa;have q312:x14_1 < (l0_3.length:Int):=Qa;obtain ⟨ad312,A312_1,c312_1,e312,hx312_0,hx312_1,hl312_1,hi312_1⟩:=ZE vp.out x14_1 p312 q312;cases e312;replace hx312_0:=Qp HB hx312_0;replace hx312_1:=Qp HB hx312_1;have HR312_1:=zA.mk hi312_1;have HC312_1:=zA.mk hl312_1;clear hi312_1 hl312_1;replace p312:=eq_true p312;replace q312:=eq_true q312
        go_wp2_with (first|((with_reducible refine zw (N:=7) rfl ?_);refine yM (by rfl) (N:=7) (by rfl) (cs:= #[.int .i64 0, .slice none 0 0]) (t:=42) Qm ?_;intro gb313 hg w18 hbox hb;have n0_:=zA.mk (Kd.R_below (Qh HO_5) hb);have n1_:=zA.mk (zZ (g:=gb310) (Qi vF) hb);have n2_:=zA.mk (zF (Qd GE310) hb);have n3_:=zA.mk (hbox);have n4_:=zA.mk ((by rw [hg];exact (zD (Qd GE310)):w.heap.size≤gb313));have n5_:=zA.mk ((by rw [hg];exact (zD (Qd GE310)):w.heap.size≤gb313));have n6_:=zA.mk ((by rw [hg];exact Nat.ne_of_lt (yK (g:=gb310) (Qi vF)):gb310≠gb313));have n7_:=zA.mk ((by rw [hg];exact Nat.ne_of_gt (yK (g:=gb310) (Qi vF)):gb313≠gb310));clear HO_5 vF HB;have HO_5:=n0_;have vF:=n1_;have HB:=n2_;have BK313:=n3_;have GW313:=n4_;have GE313:=n5_;have NB310_313:=n6_;have NB313_310:=n7_;clear n0_ n1_ n2_ n3_ n4_ n5_ n6_ n7_ hb hbox hg;have hnb19:=NB313_310.out;have hnc19:=NB310_313.out;have hcz20_0:=Qn BK313 0 rfl;have hcz20_1:=Qn BK313 1 rfl;have hfz20_0:=zB BK313.out 0;have hfz20_1:=zB BK313.out 1))
        go_roundg k1
        case measure=>have:=HK1.out;omega
        case rel=>exact ⟨(x5_1),(wrap64 (x14_1 + 1)),Zk,H',⟨by have:=HK1.out;omega⟩,⟨by (with_reducible repeat (first|apply Kd.R_alloc|apply Kd.R_drewN|apply Kd.R_drew));exact Kd.R_mono (Kd.R_far (p:=⟨gb313,1,none⟩) (Kd.R_far (p:=⟨gb313,0,none⟩) (Kd.R_types HO_5.out BK313.out (by decide)) (fun _ hk=>hk.2) (.int .i64 ((zH l0_3 x14_1).f0))) (fun _ hk=>hk.2) (.slice A312_1 ((zH l0_3 x14_1).f1).length c312_1)) (fun _ hk=>trivial)⟩,⟨by (with_reducible repeat (first|refine zO ?_ _|refine zP ?_|refine zL ?_ _));refine yQ ?_ NB310_313.out _;(with_reducible repeat (first|refine zO ?_ _|refine zP ?_|refine zL ?_ _));refine yQ ?_ NB310_313.out _;(with_reducible repeat (first|refine zO ?_ _|refine zP ?_|refine zL ?_ _));exact vF.out⟩,⟨by repeat (first|(with_reducible first|exact HB.out|apply zE|apply zC|apply zG|refine zJ ?_ GE310.out|refine zJ ?_ GE313.out)|exact HB.out)⟩⟩
      ·rw [if_neg c11] at H
       exact absurd H (by simp)
     ·rw [if_neg c10] at H
      exact absurd H (by simp)
    ·rw [if_neg c9] at H
     have c9b0:=decide_eq_false c9;clear c9;obtain rfl:=Option.some.inj H
     go_wp2
     go_ret
     exact ⟨_,by first|rfl|(simp [zR,zS] <;> rfl)|(simp [*,zR,zS] <;> rfl),by (with_reducible repeat (first|apply Kd.R_alloc|apply Kd.R_drewN|apply Kd.R_drew));exact HO_5.out,by repeat (first|(with_reducible first|exact HB.out|apply zE|apply zC|apply zG|refine zJ ?_ GE310.out)|exact HB.out)⟩
 ·rw [if_neg c4] at H
  have c4b0:(t311 == 0)=false:=beq_eq_false_iff_ne.mpr c4;have c4b1:(t311 != 0)=true:=bne_iff_ne.mpr c4;obtain rfl:=Option.some.inj H
  go_enter Tryz.func35,Tryz.ntmps35
  go_wp2_with (first|((with_reducible refine zw (N:=2) rfl ?_);refine yM (by rfl) (N:=2) (by rfl) (cs:= #[.int .i64 a0_0, .int .i64 a0_1, .slice vg l0_2.length vh, .slice vl l0_3.length vi]) (t:=25) Qm ?_;intro gb310 hg w21 hbox hb;have n0_:=zA.mk (zF Qc hb);have n1_:=zA.mk (hbox);have n2_:=zA.mk ((by rw [hg];exact (zD Qc):w.heap.size≤gb310));have n3_:=zA.mk ((by rw [hg];exact (zD Qc):w.heap.size≤gb310));clear HB;have HB:=n0_;have vF:=n1_;have GW310:=n2_;have GE310:=n3_;clear n0_ n1_ n2_ n3_ hb hbox hg;have hcz22_0:=Qn vF 0 rfl;have hcz22_1:=Qn vF 1 rfl;have hcz22_2:=Qn vF 2 rfl;have hcz22_3:=Qn vF 3 rfl;have hfz22_0:=zB vF.out 0;have hfz22_1:=zB vF.out 1;have hfz22_2:=zB vF.out 2;have hfz22_3:=zB vF.out 3)|((with_reducible refine zj (f:=53) rfl ?_);refine yS (some 9) rfl rfl Tryz.func53 (by kernel_rfl) rfl #[.agg #[.int .i64 a0_0, .int .i64 a0_1, .slice vg l0_2.length vh, .slice vl l0_3.length vi]] rfl Q8 ?_;(with_reducible refine (yZ.calls k a0_0 a0_1 _ _ l0_2 _ _ l0_3 t311 _ ?side1 ?side2 ?side3 ?side4 A3.out).mono ?_);(case side1=>exact Qo (Kd.C_below vI.out HB.out));(case side2=>exact vJ.out);(case side3=>exact Qo (Kd.C_below vp.out HB.out));(case side4=>exact vL.out);rintro e w23 ⟨rfl,hb⟩;refine ⟨_,rfl,?_⟩;have n1_:=zA.mk (zF (Qd GE310) hb);clear HB;have HB:=n1_;clear n1_;(try clear hb);(try clear hb2);(try clear hk);(try clear hi)))
  go_ret
  exact ⟨_,by first|rfl|(simp [zR,zS] <;> rfl)|(simp [*,zR,zS] <;> rfl),by first|exact Kd.R_nil _ _ _ _ _|exact Kd.N_nil _ _ _ _ _|exact Kd.V_nil _ _ _ _ _|exact Kd.Q_nil _ _ _ _ _|exact Kd.S_nil _ _ _ _ _,by repeat (first|(with_reducible first|exact HB.out|apply zE|apply zC|apply zG|refine zJ ?_ GE310.out)|exact HB.out)⟩
def zU.hass (k:Nat) (all:List (List ByteArray)) (t:ByteArray):List Int→Option (List Bool)
 | []=>some []
 | p :: ps=>(Zu.f k (zk all p) t).bind fun b=>(zU.hass k all t ps).bind fun bs=>some (b :: bs)
def zU.first:List Bool→Nat→Int
 | [],_=> -1
 | b :: bs,i=>if b=true then (i:Int) else zU.first bs (i + 1)
def zU.f (k:Nat) (a0_0 a0_1:Int) (l0_2:List Int) (l0_3:List S42) (a1:Int) (a2:ByteArray):Option (Int × Int):=
 (yW.f k a0_0 a0_1 l0_2 l0_3).bind fun g=>if g.2=0 then (if a1 < 0∨(l0_2.length:Int)≤a1 then some (0,3) else (yc.f k a0_0 a0_1 l0_2 l0_3 a1).bind fun ps=>if ps.length≤1000000000∧(∀p ∈ ps,0≤p∧p < (g.1.length:Int)) then (zU.hass k g.1 a2 ps).bind fun hs=>some (zU.first hs 0,0) else none) else some (0,g.2)
theorem zU.hass_mono (k:Nat) (all:List (List ByteArray)) (t:ByteArray):∀ps,LeO (zU.hass k all t ps) (zU.hass (k + 1) all t ps)
 | []=>LeO.refl _
 | p :: ps=>by
  unfold zU.hass
  exact LeO.bind (Zu.mono _ _ _) (fun b=>LeO.bind (zU.hass_mono k all t ps) (fun bs=>LeO.refl _))
theorem zU.mono:∀a b c d e f k,LeO (zU.f k a b c d e f) (zU.f (k + 1) a b c d e f):=by
 intro a b c d e f k
 unfold zU.f
 refine LeO.bind (yW.mono _ _ _ _ _) (fun g=>LeO.ite ?_ (LeO.refl _));refine LeO.ite (LeO.refl _) (LeO.bind (yc.mono _ _ _ _ _ _) (fun ps=>LeO.ite (LeO.bind (zU.hass_mono k _ _ _) (fun hs=>LeO.refl _)) (LeO.refl _)))
def zU.KpC (X:Nat→Prop) (A B:World):Prop:=A.heap.size≤B.heap.size∧∀i cs t,¬X i→t≠9→A.heap[i]? =some (.cells cs t (0,0))→B.heap[i]? =some (.cells cs t (0,0))
theorem zU.KpC.refl {X:Nat→Prop} (A:World):zU.KpC X A A:=⟨Nat.le_refl _,fun _ _ _ _ _ h=>h⟩
theorem zU.KpC.trans {X:Nat→Prop} {A B C:World} (h:zU.KpC X A B) (k:zU.KpC X B C):zU.KpC X A C:=⟨Nat.le_trans h.1 k.1,fun i cs t hx ht ho=>k.2 i cs t hx ht (h.2 i cs t hx ht ho)⟩
theorem zU.KpC.b {X:Nat→Prop} (W:World) (l:Nat) (o o':Obj) (h:W.heap[l]? =some o) (ho:o.isCells=false):zU.KpC X W (W.putObj l o'):=by
 refine ⟨(grownBy_putObj' W l o').size,fun i cs t _ _ hi=> ?_⟩
 have hil:i≠l:=fun e=>by subst e;rw [h] at hi;cases hi;cases ho
 exact ((grownBy_putObj' W l o').block i (Array.getElem?_eq_some_iff.1 hi).1 (fun e=>hil (Option.some.inj e))).trans hi
theorem zU.KpC.of_below {X:Nat→Prop} {A B:World} (h:Below A.heap.size A B):zU.KpC X A B:=
 ⟨h.size,fun i _ _ _ _ hi=>(h.block i (Array.getElem?_eq_some_iff.1 hi).1).trans hi⟩
theorem zU.KpC.cell {X:Nat→Prop} {A B:World} (h:zU.KpC X A B) {a:Addr} {v:Value} {cs:Array Value} {t:TypeId} (hx:¬X a.block) (ht:t≠9) (hb:A.heap[a.block]? =some (.cells cs t (0,0))) (hc:A.cell? a=some v):B.cell? a=some v:=by
 rw [World.cell?_of_block ((h.2 _ cs t hx ht hb).trans hb.symm)];exact hc
theorem zU.keeps {A B:World} (h:Below A.heap.size A B):KeepsOthers A B:=
 ⟨h.size,fun i _ hi _=>(h.block i (Array.getElem?_eq_some_iff.1 hi).1).trans hi⟩
theorem zU.grown {A B:World} (h:Below A.heap.size A B):A.grownBy B none:=⟨h.os,h.tape,h.output,h.size,fun i hi _=>h.block i hi⟩
abbrev zU.Row (all:List (List ByteArray)) (ps:List Int) (j:Nat):List ByteArray:=zk all (ps.getD j 0)
abbrev zU.X (all:List (List ByteArray)) (ps:List Int) (w0:World):Type:= { x:Nat × Option Addr × Nat // x.1 < ps.length∧Kd.C Kd.string w0 x.2.1 (zU.Row all ps x.1).length (zU.Row all ps x.1)∧(zU.Row all ps x.1).length≤x.2.2 }
abbrev zU.encs {all:List (List ByteArray)} {ps:List Int} {w0:World} (x:zU.X all ps w0):Array Value:= #[.int .i64 (x.1.1:Int), .slice x.1.2.1 (zU.Row all ps x.1.1).length x.1.2.2]
section
attribute [local go_sem] Oper.semAt_some
theorem zU.seq (k:Nat) (a0_0 a0_1:Int) (A2:Option Addr) (c2:Nat) (l0_2:List Int) (A3:Option Addr) (c3:Nat) (l0_3:List S42) (n:Int) (all:List (List ByteArray)) (Aa:Option Addr) (ca:Nat) (ps:List Int) (gb gn ga m:Nat) (w00 w:World) (h00:Below w00.heap.size w00 w)
  (hm:1≤m) (X:Nat→Prop) (hX:∀b,X b→b < w.heap.size) (hXa:∀ad,Aa=some ad→¬X ad.block) (hXg:¬X ga)
  (b0:w.cell? ⟨gb,0,none⟩=some (.int .i64 a0_0)) (b1:w.cell? ⟨gb,1,none⟩=some (.int .i64 a0_1)) (b2:w.cell? ⟨gb,2,none⟩=some (.slice A2 l0_2.length c2)) (b3:w.cell? ⟨gb,3,none⟩=some (.slice A3 l0_3.length c3))
  (bn:w.cell? ⟨gn,0,none⟩=some (.int .i64 n)) (ba:w.heap[ga]? =some (.cells #[.slice Aa all.length ca] 32 (0,0))) (hty:∀ad,Aa=some ad→∃cs,w.heap[ad.block]? =some (.cells cs 43 (0,0)))
  (hr2:Kd.C (Kd.int .i64) w A2 l0_2.length l0_2) (hc2:l0_2.length≤c2) (hr3:Kd.C k42 w A3 l0_3.length l0_3) (hc3:l0_3.length≤c3) (hall:Kd.C (Kd.slice 9 Kd.string) w00 Aa all.length all)
  (hP:yc.f k a0_0 a0_1 l0_2 l0_3 n=some ps) (hl:ps.length≤1000000000) (hin:∀p ∈ ps,0≤p∧p < (all.length:Int)) :
  SeqStopsK Fence.wide m Tryz.prog 34 #[.pointer (some ⟨gb,0,none⟩), .pointer (some ⟨gn,0,none⟩), .pointer (some ⟨ga,0,none⟩)] (zU.encs (all:=all) (ps:=ps) (w0:=w00)) (zU.KpC X)
   (fun xs=>xs.map (·.1.1)=List.range ps.length) (fun pre=>∃i,pre.map (·.1.1)=List.range i) ps.length w:=by
 intro l J Jx W hW hJ hJx hY h0;have z0:=(hW.cell (ZzA _ _ b0)).trans b0;have z1:=(hW.cell (ZzA _ _ b1)).trans b1;have z2:=(hW.cell (ZzA _ _ b2)).trans b2;have z3:=(hW.cell (ZzA _ _ b3)).trans b3;have zn:=(hW.cell (ZzA _ _ bn)).trans bn;have HBA:=zA.mk ba;have HALL:=zA.mk hall;have HR2:=zA.mk (Kd.C_below hr2 hW);have HR3:=zA.mk (Kd.C_below hr3 hW);have HC2:=zA.mk hc2;have HC3:=zA.mk hc3;have HP:=zA.mk hP;have HW:=zA.mk hW;have HY:=zA.mk @hY;have HJ:=zA.mk @hJ;have H0:=zA.mk h0;have HIN:=zA.mk hin;have HX:=zA.mk hX;have hu25:=Tryz.underlying25;clear b0 b1 b2 b3 bn ba hall hr2 hr3 hc2 hc3 hP hW hY hJ hJx h0 hin hX;refine callsIn_of_wp Tryz.func34 rfl trivial ?_ rfl;simp only [Tryz.ntmps34,List.size_toArray,List.length_cons,List.length_nil,Nat.reduceAdd,Nat.reduceSub,Array.replicate_succ,Array.replicate_zero,List.push_toArray,List.append_toArray,List.nil_append,List.cons_append]
 gi_wp2_with (refine ⟨trivial,?_⟩;gi_at_call 35;refine (callsIn_wide.2 (yc.calls k a0_0 a0_1 A2 c2 l0_2 A3 c3 l0_3 n ps _ HR2.out HC2.out HR3.out HC3.out HP.out)).mono ?_;rintro e w1 ⟨v1,rfl,hR1,hb1⟩;obtain ⟨Ap,cp,rfl⟩:=Kd.R_slice hR1)
 have hR:=(Kd.R_reads' hR1).2.2;have hbase:=Kd.R_base hR1;have HTY:=zA.mk (Kd.R_typed hR1);have hj1:=HJ.out [] W w1 none H0.out (zU.grown hb1) (fun r e=>by cases e);have K1:zA (zU.KpC X w w1):=⟨zU.KpC.trans (zU.KpC.of_below HW.out) (zU.KpC.of_below hb1)⟩;have HRB:=zA.mk hR;have HBS:=zA.mk hbase;have HJ1:=zA.mk hj1;have hsz:w.heap.size≤W.heap.size:=HW.out.size;clear hR hbase hj1 hR1 z0 z1 z2 z3 zn hb1
 gi_loopw [11] (fun i wr=>∃(j:Nat) (pre:List (zU.X all ps w00)),i= .int .i64 (j:Int)∧zA (j≤ps.length)∧zA (pre.map (·.1.1)=List.range j)∧zA (J pre wr)∧zA (zU.KpC X w1 wr))
  (fun i _=>ps.length - (Plus.intOf i).toNat)
 case atStart=>exact ⟨0,[],rfl,⟨Nat.zero_le _⟩,⟨rfl⟩,HJ1,⟨zU.KpC.refl _⟩⟩
 case round=>
  obtain ⟨j,pre,rfl,HJL,HPRE,HJS,HK⟩:=hrel
  by_cases hlt:j < ps.length
  ·obtain ⟨adp,hAp,hcp⟩:=Kd.at_int HRB.out (j:Int) (by omega) (by omega)
   have hmem:ps.getD j 0 ∈ ps:=by rw [List.getD_eq_getElem?_getD,List.getElem?_eq_getElem hlt];exact List.getElem_mem _
   obtain ⟨q0,q1⟩:=HIN.out _ hmem;obtain ⟨ada,A0,c0,hA,hya,hyl,hyr⟩:=ZY HALL.out (ps.getD j 0) q0 q1;replace hya:=(h00.cell (ZzA _ _ hya)).trans hya;obtain ⟨fn,tmps,assign,body,hy,hRd⟩:=HY.out pre ⟨(j,A0,c0),hlt,hyr,hyl⟩ wr HJS.out (by rw [←List.length_map (f:=(·.1.1)),HPRE.out,List.length_range];exact hlt)
   dsimp only [zU.encs] at hy
   obtain ⟨csp,hcsp⟩:=HTY.out adp.block (by rw [hAp];rfl);obtain ⟨csa,hcsa⟩:=hty ada hA;have zp:wr.cell? (adp.add j)=some (.int .i64 (ps.getD j 0)):=HK.out.cell (a:=adp.add j) (t:=3) (cs:=csp) (fun hx=>by have h1:=HX.out _ hx;have h2:=HBS.out adp.block (by rw [hAp];rfl);have h3:(adp.add j).block=adp.block:=YG _ _;rw [h3] at h1;omega) (by decide) (by rw [YG];exact hcsp) hcp;have kw:=zU.KpC.trans K1.out HK.out;have za:=kw.cell (a:=⟨ga,0,none⟩) (t:=32) hXg (by decide) HBA.out (zN HBA.out 0);have zr:=kw.cell (a:=ada.add (ps.getD j 0).toNat) (t:=43) (by rw [YG];exact hXa ada hA) (by decide) (by rw [YG];exact hcsa) hya;subst hAp;subst hA;obtain ⟨n0,hn0⟩:∃n0,n0=(zU.Row all ps j).length:=⟨_,rfl⟩;obtain ⟨p0,hp0⟩:∃p0,p0=ps.getD j 0:=⟨_,rfl⟩
   replace zr:wr.cell? (ada.add p0.toNat)=some (.slice A0 n0 c0):=by rw [hn0,hp0];exact zr
   replace zp:wr.cell? (adp.add j)=some (.int .i64 p0):=by rw [hp0];exact zp
   rw [←hn0] at hy;rw [←hp0] at q0 q1;have HRD:=zA.mk @hRd;have c0b:decide ((j:Int) < (ps.length:Int))=true:=decide_eq_true (by omega);have p1:=eq_true (show (0:Int)≤(j:Int) by omega);have p2:=eq_true (show (j:Int) < (ps.length:Int) by omega);have p3:=eq_true q0;have p4:=eq_true q1
   have hw2:wrap64 ((j:Int) + 1)=((j + 1:Nat):Int):=by unfold wrap64;omega
   have ht:((j:Int)).toNat=j:=rfl;clear hcp hmem hya kw q0 q1 hRd hn0 hp0 hcsp hcsa
   gi_wp2
   refine HRD.out.mono ?_;rintro e W3 (⟨rfl,hJ3,hk3⟩|⟨rfl,hJx3⟩)
   ·have HJ3:=zA.mk hJ3
    have HK3:=zA.mk (zU.KpC.trans HK.out hk3);clear hJ3 hk3 hy
    gi_wp2
    go_roundw
    case rel=>exact ⟨j + 1,_,by first|rfl|rw [hw2],⟨hlt⟩,⟨by rw [List.map_append,HPRE.out,List.range_succ];rfl⟩,HJ3,HK3⟩
    case measure=>simp [Plus.intOf,hw2];omega
   ·gi_wp2
    refine bodyPost_ret (results_none rfl _ _ _) rfl ?_
    exact ⟨⟨_,rfl⟩, .inr ⟨_,⟨j + 1,by rw [List.map_append,HPRE.out,List.range_succ];rfl⟩,hJx3⟩⟩
  ·obtain rfl:j=ps.length:=by have:=HJL.out;omega
   have c0b:decide ((ps.length:Int) < (ps.length:Int))=false:=decide_eq_false (by omega)
   gi_wp2
   go_end0
   exact ⟨⟨_,rfl⟩, .inl ⟨pre,HPRE.out,HJS.out⟩⟩
def zU.Asked (a0_0 a0_1:Int) (A2:Option Addr) (c2:Nat) (l0_2:List Int) (A3:Option Addr) (c3:Nat) (l0_3:List S42) (n:Int) (all:List (List ByteArray)) (e0:Int) (w:World) (e:Ending) (w':World):Prop:=
 Below w.heap.size w w'∧
   (e0≠0→e= .returned (.tuple #[.nilFunc, .int .i64 e0]))∧(e0=0→(n < 0∨(l0_2.length:Int)≤n)→e= .returned (.tuple #[.nilFunc, .int .i64 3]))∧
   (e0=0→¬(n < 0∨(l0_2.length:Int)≤n)→∃(gb gn ga:Nat) (Aa:Option Addr) (ca:Nat),e= .returned (.tuple #[.func (.func 34) #[] #[.pointer (some ⟨gb,0,none⟩), .pointer (some ⟨gn,0,none⟩), .pointer (some ⟨ga,0,none⟩)], .int .i64 0])∧
    w'.cell? ⟨gb,0,none⟩=some (.int .i64 a0_0)∧w'.cell? ⟨gb,1,none⟩=some (.int .i64 a0_1)∧w'.cell? ⟨gb,2,none⟩=some (.slice A2 l0_2.length c2)∧w'.cell? ⟨gb,3,none⟩=some (.slice A3 l0_3.length c3)∧w'.cell? ⟨gn,0,none⟩=some (.int .i64 n)∧w'.heap[ga]? =some (.cells #[.slice Aa all.length ca] 32 (0,0))∧(∀ad,Aa=some ad→∃cs,w'.heap[ad.block]? =some (.cells cs 43 (0,0)))∧
    Kd.C (Kd.slice 9 Kd.string) w' Aa all.length all)
theorem zU.asked (k:Nat) (a0_0 a0_1:Int) (A2:Option Addr) (c2:Nat) (l0_2:List Int) (A3:Option Addr) (c3:Nat) (l0_3:List S42) (n:Int) (all:List (List ByteArray)) (e0:Int) (w:World)
  (hr2:Kd.C (Kd.int .i64) w A2 l0_2.length l0_2) (hc2:l0_2.length≤c2) (hr3:Kd.C k42 w A3 l0_3.length l0_3) (hc3:l0_3.length≤c3) (h:yW.f k a0_0 a0_1 l0_2 l0_3=some (all,e0)) :
  Calls Tryz.prog 17 #[.agg #[.int .i64 a0_0, .int .i64 a0_1, .slice A2 l0_2.length c2, .slice A3 l0_3.length c3], .int .i64 n] w (zU.Asked a0_0 a0_1 A2 c2 l0_2 A3 c3 l0_3 n all e0 w):=by
 have H:=zA.mk h;have HR2:=zA.mk hr2;have HC2:=zA.mk hc2;have HR3:=zA.mk hr3;have HC3:=zA.mk hc3;have hu:=Tryz.underlying25;clear h hr2 hc2 hr3 hc3
 go_enter Tryz.func17,Tryz.ntmps17
 go_wp2_with fail
 refine (yW.calls k a0_0 a0_1 A2 c2 l0_2 A3 c3 l0_3 all e0 _ (Kd.C_below HR2.out (zE (zE (Below.refl _ _) _) _)) HC2.out (Kd.C_below HR3.out (zE (zE (Below.refl _ _) _) _)) HC3.out H.out).mono ?_;rintro e w1 ⟨v1,rfl,hN1,hb1⟩;have q0:=(hb1.cell (p:=⟨w.heap.size,0,none⟩) (by simp;omega)).trans ((zE (Below.refl (w.alloc _).heap.size (w.alloc _)) _).cell (p:=⟨w.heap.size,0,none⟩) (by simp) |>.trans (zN (yh _ _) 0));have q1:=(hb1.cell (p:=⟨w.heap.size,1,none⟩) (by simp;omega)).trans ((zE (Below.refl (w.alloc _).heap.size (w.alloc _)) _).cell (p:=⟨w.heap.size,1,none⟩) (by simp) |>.trans (zN (yh _ _) 1));have q2:=(hb1.cell (p:=⟨w.heap.size,2,none⟩) (by simp;omega)).trans ((zE (Below.refl (w.alloc _).heap.size (w.alloc _)) _).cell (p:=⟨w.heap.size,2,none⟩) (by simp) |>.trans (zN (yh _ _) 2));have q3:=(hb1.cell (p:=⟨w.heap.size,3,none⟩) (by simp;omega)).trans ((zE (Below.refl (w.alloc _).heap.size (w.alloc _)) _).cell (p:=⟨w.heap.size,3,none⟩) (by simp) |>.trans (zN (yh _ _) 3));have qn:=(hb1.cell (p:=⟨w.heap.size + 1,0,none⟩) (by simp)).trans (by have this:=zN (yh (w.alloc (.cells #[.int .i64 a0_0, .int .i64 a0_1, .slice A2 l0_2.length c2, .slice A3 l0_3.length c3] 25)) (.cells #[.int .i64 n] 3)) 0;simp only [World.size_alloc] at this;exact this);have HB1:=zA.mk (zF (zE (zE (Below.refl w.heap.size w) _) _) hb1);obtain ⟨Aa,ca,rfl⟩:=Kd.N_slice hN1;have HN:=zA.mk (Kd.N_reads' hN1).2.2;have HNT:=zA.mk (Kd.N_typed hN1);have hba:Below w1.heap.size w1 (w1.alloc (.cells #[.slice Aa all.length ca] 32)):=zE (Below.refl _ _) _;have g0:=(hba.cell (ZzA _ _ q0)).trans q0;have g1:=(hba.cell (ZzA _ _ q1)).trans q1;have g2:=(hba.cell (ZzA _ _ q2)).trans q2;have g3:=(hba.cell (ZzA _ _ q3)).trans q3;have gn:=(hba.cell (ZzA _ _ qn)).trans qn;have HB2:=zA.mk (zF HB1.out hba);have HN2:=zA.mk (Kd.C_below HN.out hba)
 have HT2:zA (∀ad,Aa=some ad→∃cs,(w1.alloc (.cells #[.slice Aa all.length ca] 32)).heap[ad.block]? =some (.cells cs 43 (0,0))):=⟨fun ad e=>by
  obtain ⟨cs,h⟩:=HNT.out ad.block (by rw [e];rfl)
  exact ⟨cs,zZ h hba⟩⟩
 clear hN1 hb1 q0 q1 q2 q3 qn hba HN HB1 HNT
 by_cases h0:e0=0
 ·subst h0
  by_cases hn:n < 0∨(l0_2.length:Int)≤n
  ·have hn':=hn
   have P:zA (n < 0∨(l0_2.length:Int)≤n):=⟨hn⟩
   by_cases h1:n < 0
   ·have c1:decide (n < 0)=true:=decide_eq_true h1
    clear hn hn' h1
    go_wp2
    go_ret2
    unfold zU.Asked;exact ⟨HB2.out,fun h=>absurd rfl h,fun _ _=>rfl,fun _ h=>absurd P.out h⟩
   ·have c1:decide (n < 0)=false:=decide_eq_false h1
    have c2:decide ((l0_2.length:Int)≤n)=true:=decide_eq_true (hn.resolve_left h1);clear hn hn' h1
    go_wp2
    go_ret2
    unfold zU.Asked;exact ⟨HB2.out,fun h=>absurd rfl h,fun _ _=>rfl,fun _ h=>absurd P.out h⟩
  ·have P:zA (¬(n < 0∨(l0_2.length:Int)≤n)):=⟨hn⟩
   have c1:decide (n < 0)=false:=decide_eq_false (fun h=>hn (.inl h));have c2:decide ((l0_2.length:Int)≤n)=false:=decide_eq_false (fun h=>hn (.inr h));clear hn;have G0:=zA.mk g0;have G1:=zA.mk g1;have G3:=zA.mk g3
   go_wp2
   go_ret2
   unfold zU.Asked;exact ⟨HB2.out,fun h=>absurd rfl h,fun _ h=>absurd h P.out,fun _ _=>⟨_,_,_,_,_,rfl,G0.out,G1.out,g2,G3.out,gn,yh _ _,HT2.out,HN2.out⟩⟩
 ·have c1:(e0 != 0)=true:=bne_iff_ne.mpr h0
  have P:=zA.mk h0;clear h0
  go_wp2
  go_ret2
  unfold zU.Asked;exact ⟨HB2.out,fun _=>rfl,fun h=>absurd h P.out,fun h=>absurd h P.out⟩
theorem zU.hass_get (k:Nat) (all:List (List ByteArray)) (t:ByteArray):∀(ps:List Int) (hs:List Bool),zU.hass k all t ps=some hs→hs.length=ps.length∧∀j,j < ps.length→Zu.f k (zU.Row all ps j) t=some (hs.getD j false)
 | [],hs,h=>by obtain rfl:=Option.some.inj h;exact ⟨rfl,fun j hj=>absurd hj (Nat.not_lt_zero _)⟩
 | p :: ps,hs,h=>by
  unfold zU.hass at h
  obtain ⟨b,hb,h⟩:=ZzB h;obtain ⟨bs,hbs,h⟩:=ZzB h;obtain rfl:=Option.some.inj h;obtain ⟨i1,i2⟩:=zU.hass_get k all t ps bs hbs;refine ⟨by simp [i1],fun j hj=> ?_⟩;cases j with
  | zero=>exact hb
  | succ j=>exact i2 j (by simpa using hj)
theorem zU.first_at:∀(hs:List Bool) (i j:Nat),(∀t,t < j→hs.getD t false=false)→hs.getD j false=true→zU.first hs i=((i + j:Nat):Int)
 | [],_,_,_,h=>by simp at h
 | b :: bs,i,j,h,hj=>by
  unfold zU.first
  cases j with
  | zero=>
   have hb:b=true:=hj;rw [if_pos hb];rfl
  | succ j=>
   have hb:b=false:=h 0 (Nat.succ_pos _);rw [if_neg (by rw [hb];exact Bool.false_ne_true),zU.first_at bs (i + 1) j (fun t ht=>h (t + 1) (Nat.succ_lt_succ ht)) hj]
   congr 1;omega
theorem zU.first_none:∀(hs:List Bool) (i:Nat),(∀t,t < hs.length→hs.getD t false=false)→zU.first hs i= -1
 | [],_,_=>rfl
 | b :: bs,i,h=>by
  have hb:b=false:=h 0 (by simp)
  unfold zU.first
  rw [if_neg (by rw [hb];exact Bool.false_ne_true)]
  exact zU.first_none bs (i + 1) (fun t ht=>h (t + 1) (by simpa using ht))
theorem zU.two {w:World} {a b:Nat} {u v u0 v0:Value} (hab:a≠b) (ha:w.cell? ⟨a,0,none⟩=some u0) (hb:w.cell? ⟨b,0,none⟩=some v0):((w.setCell ⟨a,0,none⟩ u).setCell ⟨b,0,none⟩ v).drew.cell? ⟨a,0,none⟩=some u∧((w.setCell ⟨a,0,none⟩ u).setCell ⟨b,0,none⟩ v).drew.cell? ⟨b,0,none⟩=some v:=by
 refine ⟨(World.cell?_setCell_far _ _ _ _ (by show b≠a;exact fun e=>hab e.symm)).trans (World.cell?_setCell_same _ _ _ ha),World.cell?_setCell_same _ _ _ ((World.cell?_setCell_far _ _ _ _ (by show a≠b;exact hab)).trans hb)⟩
theorem zU.range_last {pre:List Nat} {x i:Nat} (h:pre ++ [x]=List.range i):x=pre.length∧pre=List.range pre.length:=by
 have hl:i=pre.length + 1:=by have:=congrArg List.length h;simp at this;omega
 subst hl;rw [List.range_succ] at h;obtain ⟨h1,h2⟩:=List.append_inj' h rfl
 exact ⟨by simpa using h2,h1⟩
theorem zU.calls (k:Nat) (a0_0 a0_1:Int) (A2:Option Addr) (c2:Nat) (l0_2:List Int) (A3:Option Addr) (c3:Nat) (l0_3:List S42) (a1:Int) (a2:ByteArray) (r1 r2:Int) (w:World)
  (hr2:Kd.C (Kd.int .i64) w A2 l0_2.length l0_2) (hc2:l0_2.length≤c2) (hr3:Kd.C k42 w A3 l0_3.length l0_3) (hc3:l0_3.length≤c3) (h:zU.f k a0_0 a0_1 l0_2 l0_3 a1 a2=some (r1,r2)) :
  Calls Tryz.prog 6 #[.agg #[.int .i64 a0_0, .int .i64 a0_1, .slice A2 l0_2.length c2, .slice A3 l0_3.length c3], .int .i64 a1, .string a2] w fun e w'=>e= .returned (.tuple #[.int .i64 r1, .int .i64 r2])∧Below w.heap.size w w':=by
 obtain ⟨⟨all,e0⟩,hg,ha⟩:=ZzB h;have HG:=zA.mk hg;have HA:=zA.mk ha;have HR2:=zA.mk hr2;have HC2:=zA.mk hc2;have HR3:=zA.mk hr3;have HC3:=zA.mk hc3;have hu:=Tryz.underlying25;clear h hg ha hr2 hc2 hr3 hc3;refine (callsIn_wide (n:=9)).1 (callsIn_of_wp_marks Tryz.func6 rfl trivial ?_ rfl);refine wpIn_wide.2 ?_;simp only [Tryz.ntmps6,List.size_toArray,List.length_cons,List.length_nil,Nat.reduceAdd,Nat.reduceSub,Array.replicate_succ,Array.replicate_zero,List.push_toArray,List.append_toArray,List.nil_append,List.cons_append]
 go_wp2_with fail
 generalize hW0:(World.alloc (World.alloc (World.alloc (World.alloc w _) _) _) _)=W0
 have HW0:=zA.mk hW0
 have hs0:W0.heap.size=w.heap.size + 4:=by rw [←hW0];simp
 have x5:W0.heap[w.heap.size + 1]? =some (.cells #[.string a2] 9 (0,0)):=by
  rw [←hW0];refine zL (zL ?_ _) _;have this:=yh (w.alloc (.cells #[.int .i64 a0_0, .int .i64 a0_1, .slice A2 l0_2.length c2, .slice A3 l0_3.length c3] 25)) (.cells #[.string a2] 9);simp only [World.size_alloc] at this;exact this
 have x6:W0.heap[w.heap.size + 1 + 1]? =some (.cells #[.int .i64 0] 3 (0,0)):=by
  rw [←hW0];refine zL ?_ _;have this:=yh ((w.alloc (.cells #[.int .i64 a0_0, .int .i64 a0_1, .slice A2 l0_2.length c2, .slice A3 l0_3.length c3] 25)).alloc (.cells #[.string a2] 9)) (.cells #[.int .i64 0] 3);simp only [World.size_alloc] at this;exact this
 have x7:W0.heap[w.heap.size + 1 + 1 + 1]? =some (.cells #[.int .i64 0] 27 (0,0)):=by
  rw [←hW0];have this:=yh (((w.alloc (.cells #[.int .i64 a0_0, .int .i64 a0_1, .slice A2 l0_2.length c2, .slice A3 l0_3.length c3] 25)).alloc (.cells #[.string a2] 9)).alloc (.cells #[.int .i64 0] 3)) (.cells #[.int .i64 0] 27);simp only [World.size_alloc] at this;exact this
 have hb0:Below w.heap.size w W0:=by rw [←hW0];exact zE (zE (zE (zE (Below.refl _ _) _) _) _) _
 refine (zU.asked k a0_0 a0_1 A2 c2 l0_2 A3 c3 l0_3 a1 all e0 W0 (Kd.C_below HR2.out hb0) HC2.out (Kd.C_below HR3.out hb0) HC3.out HG.out).mono ?_;rintro e w1 ⟨hb1,A1,A2',A3'⟩;have y5:=zZ x5 hb1;have y6:=zZ x6 hb1;have y7:=zZ x7 hb1
 have hs1:w.heap.size + 4≤w1.heap.size:=by rw [←hs0];exact hb1.size
 have HB1:=zA.mk (zF hb0 hb1);clear hW0 HW0 x5 x6 x7 hb0 hb1 hs0
 have hkind:(∃q:Int,q≠0∧e= .returned (.tuple #[.nilFunc, .int .i64 q])∧r1=0∧r2=q)∨(e0=0∧¬(a1 < 0∨(l0_2.length:Int)≤a1)):=by
  have ha:=HA.out
  by_cases h0:e0=0
  ·by_cases hn:a1 < 0∨(l0_2.length:Int)≤a1
   ·rw [if_pos h0,if_pos hn] at ha
    obtain ⟨h1,h2⟩:=Prod.mk.inj (Option.some.inj ha)
    exact .inl ⟨3,by decide,A2' h0 hn,h1.symm,h2.symm⟩
   ·exact .inr ⟨h0,hn⟩
  ·rw [if_neg h0] at ha
   obtain ⟨h1,h2⟩:=Prod.mk.inj (Option.some.inj ha)
   exact .inl ⟨e0,h0,A1 h0,h1.symm,h2.symm⟩
 rcases hkind with ⟨q,h0,rfl,rfl,rfl⟩|⟨h0,hn⟩
 ·have hba:Below w1.heap.size w1 (w1.alloc (.cells #[.int .i64 r2] 27)):=zE (Below.refl _ _) _
  have z6:=zZ y6 hba;have z7:=zZ y7 hba;have s6:=zN z6 0;have s7:=zN z7 0;have f6:=zB z6 0;have f7:=zB z7 0;have HB2:=zA.mk (zF HB1.out hba);have c1:(r2 != 0)=true:=bne_iff_ne.mpr h0;clear h0 A1 A2' A3' HA HG y5 y6 y7 hba z6 z7
  go_wp2
  go_region
  go_wp2
  obtain ⟨h6,h7⟩:=zU.two (w:=w1.alloc (.cells #[.int .i64 r2] 27)) (u:= .int .i64 0) (v:= .int .i64 r2) (by omega:w.heap.size + 1 + 1≠w.heap.size + 1 + 1 + 1) s6 s7;refine ⟨.tuple #[.int .i64 0, .int .i64 r2],by simp [results,Tryz.f6,go_sem,h6,h7],rfl,?_⟩
  exact zG (zJ (zJ HB2.out (by show w.heap.size≤w.heap.size + 1 + 1;omega)) Zj)
 ·subst h0
  obtain ⟨gb,gn,ga,Aa,ca,rfl,b0,b1,b2,b3,bn,ba,hty,hall⟩:=A3' rfl hn;have ha:=HA.out;rw [if_pos rfl,if_neg hn] at ha;obtain ⟨ps,hP,ha⟩:=ZzB ha
  by_cases hcd:ps.length≤1000000000∧(∀p ∈ ps,0≤p∧p < (all.length:Int))
  ·rw [if_pos hcd] at ha
   obtain ⟨hs,hhs,ha⟩:=ZzB ha;obtain ⟨rfl,rfl⟩:=Prod.mk.inj (Option.some.inj ha);obtain ⟨hl1,hl2⟩:=zU.hass_get k all a2 ps hs hhs;have HL1:=zA.mk hl1;have HL2:=zA.mk hl2;have HP:=zA.mk hP;have HCD:=zA.mk hcd;clear ha hhs hP hn A1 A2' A3' HA HG hl1 hl2 hcd
   go_wp2_with fail
   refine Plus.hide_world fun W2 hW2=> ?_
   have hba:Below w1.heap.size w1 W2:=by rw [←hW2.out];exact zE (Below.refl _ _) _
   have z5:=zZ y5 hba;have z6:=zZ y6 hba;have z7:=zZ y7 hba
   have z9:W2.heap[w1.heap.size]? =some (.cells #[.int .i64 0] 27 (0,0)):=by rw [←hW2.out];exact yh _ _
   have d0:=(hba.cell (ZzA _ _ b0)).trans b0;have d1:=(hba.cell (ZzA _ _ b1)).trans b1;have d2:=(hba.cell (ZzA _ _ b2)).trans b2;have d3:=(hba.cell (ZzA _ _ b3)).trans b3;have dn:=(hba.cell (ZzA _ _ bn)).trans bn;have da:=zZ ba hba;have HT3:zA (∀ad,Aa=some ad→∃cs,W2.heap[ad.block]? =some (.cells cs 43 (0,0))):=⟨fun ad e=>let ⟨cs,h⟩:=hty ad e;⟨cs,zZ h hba⟩⟩;have HALL:=zA.mk (Kd.C_below hall hba);have HB2:=zA.mk (zF HB1.out hba);have hs2:w1.heap.size < W2.heap.size:=ZzA W2 ⟨w1.heap.size,0,none⟩ (zN z9 0);clear y5 y6 y7 b0 b1 b2 b3 bn ba hall hty hW2 hba;refine (wpIn_wide (n:=9)).1 ?_
   refine wpIn_rangeFunc_ownF rfl (by decide) (gf:=34) (lb:= #[.pointer (some ⟨gb,0,none⟩), .pointer (some ⟨gn,0,none⟩), .pointer (some ⟨ga,0,none⟩)]) rfl trivial (enters_of Tryz.func34 (by kernel_rfl) rfl)
    (zU.seq k a0_0 a0_1 A2 c2 l0_2 A3 c3 l0_3 a1 all Aa ca ps gb gn ga 8 W2 W2 (Below.refl _ _) (by decide) (fun _=>False) (fun _ h=>h.elim) (fun _ _ h=>h) (fun h=>h) d0 d1 d2 d3 dn da HT3.out (Kd.C_below HR2.out HB2.out) HC2.out (Kd.C_below HR3.out HB2.out) HC3.out HALL.out HP.out HCD.out.1 HCD.out.2)
    zU.KpC.trans (fun W l o o' _ h1 h2 _=>zU.KpC.b W l o o' h1 h2) (Below.refl _ _) (fun _=>rfl)
    (fun (pre:List (zU.X all ps W2)) W=>(∀x ∈ pre,hs.getD x.1.1 false=false)∧Below W2.heap.size W2 W)
    (fun c (pre:List (zU.X all ps W2)) W=>(c= .ret∧(∃(pre':List (zU.X all ps W2)) (x:zU.X all ps W2),pre=pre' ++ [x]∧(∀y ∈ pre',hs.getD y.1.1 false=false)∧hs.getD x.1.1 false=true∧W.cell? ⟨w.heap.size + 1 + 1,0,none⟩=some (.int .i64 (x.1.1:Int)))∧W.cell? ⟨w.heap.size + 1 + 1 + 1,0,none⟩=some (.int .i64 0))∧Below w.heap.size w W)
    (fun s A B row h hg hr=>⟨h.1,ownFrom_below (Nat.le_refl _) (Nat.le_refl _) s A B row h.2 hg hr⟩)
    (fun c s A B row h hg hr=>⟨⟨h.1.1,let ⟨pre',x,e1,e2,e3,e4⟩:=h.1.2.1;⟨pre',x,e1,e2,e3,Go.cell_kept e4 hg (fun r e=>(hr r e).2)⟩,Go.cell_kept h.1.2.2 hg (fun r e=>(hr r e).2)⟩,ownFrom_below (Nat.le_refl _) HB2.out.size s A B row h.2 hg hr⟩)
    ⟨fun _ h=>(nomatch h),Below.refl _ _⟩ ?a1 ?assign ?body ?done ?stop
   case assign=>
    intro l x W K hK
    gi_wp2
    exact hK
   case body=>
    rintro l pre x W ⟨hpre,hB⟩ hlen;obtain ⟨vx,hvx⟩:∃v,v=Value.slice x.1.2.1 (zU.Row all ps x.1.1).length x.1.2.2:=⟨_,rfl⟩;obtain ⟨j,hj⟩:∃j,j=x.1.1:=⟨_,rfl⟩;obtain ⟨b,hb⟩:∃b,b=hs.getD x.1.1 false:=⟨_,rfl⟩;have HHH:=zA.mk (show Zu.f k (zU.Row all ps x.1.1) a2=some b by rw [hb];exact HL2.out _ x.2.1);have HCX:=zA.mk (Kd.C_below x.2.2.1 hB);have HLX:=zA.mk x.2.2.2;have HVX:=zA.mk hvx;have HJX:=zA.mk hj;have HBX:=zA.mk hb;have HPRE:=zA.mk hpre;have HBW:=zA.mk hB;rw [←hvx,←hj];have z5':=(hB.block _ (yK z5)).trans z5;have z6':=(hB.block _ (yK z6)).trans z6;have z7':=(hB.block _ (yK z7)).trans z7;have z9':=(hB.block _ (yK z9)).trans z9;have s5:=zN z5' 0;have s6:=zN z6' 0;have s7:=zN z7' 0;have s9:=zN z9' 0;have f6:=zB z6' 0;have f7:=zB z7' 0;clear hvx hj hb hpre hB z5' z6' z7' z9';cases b
    ·gi_wp2_with (refine ⟨trivial,?_⟩;gi_at_call 18;rw [HVX.out];refine (CallsIn.inRound l (callsIn_wide.2 (Zu.calls k _ _ _ a2 false W HCX.out HLX.out HHH.out))).mono ?_;rintro e w5 ⟨rfl,⟨nd,rfl⟩⟩)
     exact ⟨zU.keeps (zC (Below.refl _ _) nd),zU.KpC.of_below (zC (Below.refl _ _) nd),fun y hy=>(by
      rcases List.mem_append.1 hy with h|h
      ·exact HPRE.out y h
      ·rw [List.mem_singleton.1 h];exact HBX.out.symm),zF HBW.out (zC (Below.refl _ _) nd)⟩
    ·gi_wp2_with (refine ⟨trivial,?_⟩;gi_at_call 18;rw [HVX.out];refine (CallsIn.inRound l (callsIn_wide.2 (Zu.calls k _ _ _ a2 true W HCX.out HLX.out HHH.out))).mono ?_;rintro e w5 ⟨rfl,⟨nd,rfl⟩⟩)
     have hmx:Tryz.prog.follows .mixedOrders=true:=by kernel_rfl
     gi_region_with_o (fail)
     all_goals gi_wp2
     all_goals
      obtain ⟨h6,h7⟩:=zU.two (w:=W.drewN (nd + 1)) (u:= .int .i64 (j:Int)) (v:= .int .i64 0) (by omega:w.heap.size + 1 + 1≠w.heap.size + 1 + 1 + 1) (show (W.drewN (nd + 1)).cell? _=_ from s6) (show (W.drewN (nd + 1)).cell? _=_ from s7);have hd:Below W.heap.size W (W.drewN (nd + 1)):=zC (Below.refl _ _) (nd + 1)
      exact ⟨((zU.keeps hd).trans (KeepsOthers.setCell _ _ _)).trans (KeepsOthers.setCell _ _ _),⟨rfl,⟨pre,x,rfl,HPRE.out,HBX.out.symm,by rw [←HJX.out];exact h6⟩,h7⟩,zJ (zJ (zF (zF HB2.out HBW.out) hd) (by show w.heap.size≤w.heap.size + 1 + 1;omega)) Zj⟩
   case done=>
    rintro D xs W hD hS ⟨hpre,hB⟩ hK;have z6':=(hB.block _ (yK z6)).trans z6;have z7':=(hB.block _ (yK z7)).trans z7;have s9:=zN ((hB.block _ (yK z9)).trans z9) 0;have s6:=zN z6' 0;have s7:=zN z7' 0;have f6:=zB z6' 0;have f7:=zB z7' 0;have HB3:=zA.mk (zF HB2.out hB);have HPRE:=zA.mk hpre;clear z6' z7' hB hpre
    go_wp2
    go_region
    go_wp2
    obtain ⟨h6,h7⟩:=zU.two (w:=W) (u:= .int .i64 (-1)) (v:= .int .i64 0) (by omega:w.heap.size + 1 + 1≠w.heap.size + 1 + 1 + 1) s6 s7;have hK':=(((KeepsOthers.setCell W ⟨w.heap.size + 1 + 1,0,none⟩ (.int .i64 (-1))).trans (KeepsOthers.setCell _ ⟨w.heap.size + 1 + 1 + 1,0,none⟩ (.int .i64 0))).trans (KeepsOthers.drew _)).same D _ hK rfl;refine ⟨by simp, .inl ⟨D,_,rfl,run_takeDeferred hK',?_⟩⟩;have g6:=Go.cell_kept h6 (grownBy_putObj' _ D (.deferred none)) (fun r e=>by cases e;exact ⟨_,hK',rfl⟩);have g7:=Go.cell_kept h7 (grownBy_putObj' _ D (.deferred none)) (fun r e=>by cases e;exact ⟨_,hK',rfl⟩);refine ⟨.tuple #[.int .i64 (-1), .int .i64 0],by simp [results,Tryz.f6,go_sem,g6,g7],?_,(zG (zJ (zJ HB3.out (by show w.heap.size≤w.heap.size + 1 + 1;omega)) Zj)).trans (belowK_b (w:=W2) HB2.out.size _ D _ _ hD hK' rfl rfl)⟩
    rw [zU.first_none hs 0 (fun t ht=>by
     have hm:t ∈ xs.map (·.1.1):=by rw [hS];exact List.mem_range.2 (by rw [←HL1.out];exact ht)
     obtain ⟨y,hy,rfl⟩:=List.mem_map.1 hm
     exact HPRE.out y hy)]
   case stop=>
    rintro D c pre W hD ⟨i,hi⟩ ⟨⟨rfl,⟨pre',x,rfl,h1,h2,hc6⟩,hc7⟩,hB⟩ hK;refine wpIn_wide.2 ?_
    go_wp2
    refine ⟨by simp, .inl ⟨D,_,rfl,run_takeDeferred hK,?_⟩⟩;have g6:=Go.cell_kept hc6 (grownBy_putObj' _ D (.deferred none)) (fun r e=>by cases e;exact ⟨_,hK,rfl⟩);have g7:=Go.cell_kept hc7 (grownBy_putObj' _ D (.deferred none)) (fun r e=>by cases e;exact ⟨_,hK,rfl⟩);refine ⟨.tuple #[.int .i64 (x.1.1:Int), .int .i64 0],by simp [results,Tryz.f6,go_sem,g6,g7],?_,hB.trans (belowK_b (w:=W2) HB2.out.size _ D _ _ hD hK rfl rfl)⟩;rw [List.map_append] at hi;obtain ⟨e1,e2⟩:=zU.range_last (x:=x.1.1) hi
    rw [zU.first_at hs 0 x.1.1 (fun t ht=>by
     have hm:t ∈ pre'.map (·.1.1):=by rw [e2,←e1];exact List.mem_range.2 ht
     obtain ⟨y,hy,rfl⟩:=List.mem_map.1 hm
     exact h1 y hy) h2,Nat.zero_add]
  ·rw [if_neg hcd] at ha;cases ha
end
section
open Go.Sort Go.Plus
def yF.iset (l:List Int):List Int:=Lib.compact (l.mergeSort fun x y=>decide (x≤y))
theorem yF.iset_rises (l:List Int):(yF.iset l).Pairwise (· < ·)∧∀x,x ∈ yF.iset l↔x ∈ l:=by
 have hs:(l.mergeSort fun x y=>decide (x≤y)).Pairwise (· ≤ ·):=by
  have h:=List.pairwise_mergeSort (le:=fun x y:Int=>decide (x≤y)) (fun a b c h k=>decide_eq_true (Int.le_trans (of_decide_eq_true h) (of_decide_eq_true k))) (fun a b=>by
   rcases Int.le_total a b with h|h
   ·simp [h]
   ·simp [h]) l
  exact h.imp fun h=>of_decide_eq_true h
 have h:=Plus.compact_rises (r:=fun x y:Int=>x≤y) (s:=fun x y=>x < y) (fun x y=>by constructor <;> intro h <;> omega) (fun x y z=>Int.le_trans) (fun x y=>Int.le_antisymm) _ hs
 exact ⟨h.1,fun x=>by unfold yF.iset;rw [h.2,List.mem_mergeSort]⟩
theorem yF.iset_length_le (l:List Int):(yF.iset l).length≤l.length:=
 Plus.short_of_subset _ _ ((yF.iset_rises l).1.imp fun h=>by omega) fun x hx=>((yF.iset_rises l).2 x).1 hx
theorem yF.iset_nil:yF.iset []= []:=List.eq_nil_of_length_eq_zero (Nat.le_zero.1 (yF.iset_length_le []))
def yF.f (l0:List Int):Option (List Int):=if l0.length * 8≤140737488355328 then some (yF.iset l0) else none
theorem yF.add_at (b off j:Nat):(⟨b,off,none⟩:Addr).add j=⟨b,off + j,none⟩:=by unfold Addr.add;split <;> simp_all
theorem yF.grow_none (w:World):grow w #[]=w:=by cases w;simp [grow]
theorem yF.spot {w:World} {a:Addr} {v:Value} (h:w.cell? a=some v):a=⟨a.block,a.off,none⟩:=by
 obtain ⟨b,o,s⟩:=a;cases s with
 | none=>rfl
 | some s=>unfold World.cell? at h;split at h <;> simp at h
theorem yF.own_cut {w:World} {base g cap m:Nat} {e:TypeId} {cur:Array Value} {ts:List Int} (hbase:base≤g) (hb:w.heap[g]? =some (.cells cur e (0,0))) (h1:m≤cap) (h2:cap≤maxLen) (h3:cur.size=cap) (hm:ts.length=m) (h4:cur.toList.take m=ts.map (Value.int .i64)) :
  w.ownsRow base e 1 (.slice (some ⟨g,0,none⟩) m cap) m (ts.map (Value.int .i64)):=
 ⟨by simp [hm], .inr ⟨g,cap,cur,rfl,hbase,hb,h1,h2,by omega,by rw [Nat.mul_one];exact h4⟩⟩
theorem yF.calls (A0:Option Addr) (c0:Nat) (l0:List Int) (r:List Int) (w:World) (hr0:Kd.C (Kd.int .i64) w A0 l0.length l0) (hc0:l0.length≤c0) (h:yF.f l0=some r) :
  Calls Tryz.prog 39 #[.slice A0 l0.length c0] w fun e w'=>∃v0_:Value,e= .returned v0_∧Kd.R (Kd.int .i64) 3 w' w.heap.size (fun _=>True) v0_ r∧Below w.heap.size w w':=by
 unfold yF.f at h
 split at h
 case isFalse=>cases h
 rename_i hsz
 obtain rfl:=Option.some.inj h;clear h
 rcases Nat.eq_zero_or_pos l0.length with h0|h0
 ·obtain rfl:l0= []:=List.eq_nil_of_length_eq_zero h0
  have hcl:Calls Tryz.prog 57 #[.slice A0 0 c0] w fun e w'=>∃A1 c1,e= .returned (.slice A1 0 c1)∧Kd.R (Kd.int .i64) 3 w' w.heap.size (fun _=>True) (.slice A1 0 c1) []∧Below w.heap.size w w':=by
   cases A0 with
   | none=>exact (Tryz.slices_Clone_int_nil 0 c0 w).mono fun e w' ⟨he,hw⟩=>⟨none,0,he,hw▸Kd.R_nil _ _ _ _ _,hw▸Below.refl _ _⟩
   | some a=>
    refine (Tryz.slices_Clone_int_zero a c0 w).mono fun e w' ⟨v',he,ho,_,hb⟩=> ?_
    have hR:Kd.R (Kd.int .i64) 3 w' w.heap.size (fun _=>True) v' []:=Kd.R_of_own (enc:=(Value.int .i64)) (h1:=fun _=>rfl) ho (fun _ _=>trivial);obtain ⟨A1,c1,rfl⟩:=Kd.R_slice hR
    exact ⟨A1,c1,he,hR,hb⟩
  rw [yF.iset_nil]
  go_enter Tryz.func39,Tryz.ntmps39
  go_wp2_with (first
   | (go_at_call 57;refine hcl.mono ?_;rintro e w1 ⟨A1,c1,rfl,hR,hb⟩)
   | (go_at_call 58;refine (Tryz.slices_Sort_int_none A1 c1 _).mono ?_;rintro e w2 ⟨rfl,rfl⟩)
   | (go_at_call 59;refine (Tryz.slices_Compact_int_empty A1 c1 _).mono ?_;rintro e w3 ⟨rfl,rfl⟩)
   | go_in)
  go_ret
  exact ⟨_,rfl,hR,hb⟩
 ·obtain ⟨ad,rfl,hcells⟩:=(Kd.reads_of_C (enc:=(Value.int .i64)) (d:=0) (h1:=fun _=>rfl) hr0).2.2 h0
  have hsp:=yF.spot (hcells 0 h0)
  obtain ⟨b,off,rfl⟩:∃b off,ad=⟨b,off,none⟩:=by
   have e:ad.add 0=ad:=by simp [Addr.add]
   rw [e] at hsp
   exact ⟨_,_,hsp⟩
  have hc:∀j,j < l0.length→w.cell? ⟨b,off + j,none⟩=some (.int .i64 (l0.getD j 0)):=fun j hj=>by
   have:=hcells j hj;rwa [yF.add_at] at this
  have hlen:l0.length≤17592186044416:=by omega
  have hcl:Calls Tryz.prog 57 #[.slice (some ⟨b,off,none⟩) l0.length c0] w fun e w'=>∃g cap cur,e= .returned (.slice (some ⟨g,0,none⟩) l0.length cap)∧w.heap.size≤g∧w'.heap[g]? =some (.cells cur 3 (0,0))∧l0.length≤cap∧cap≤maxLen∧cur.size=cap∧cur.toList.take l0.length=l0.map (Value.int .i64)∧Below w.heap.size w w':=by
   refine (Tryz.slices_Clone_int b off l0.length c0 l0 w (Nat.le_refl _) hsz hc).mono fun e w' ⟨v',he,ho,hne,hb⟩=> ?_
   rcases ho.2 with ⟨hnil,_⟩|⟨g,cap,cur,rfl,hbase,hbk,h1,h2,h3,h4⟩
   ·exact absurd hnil hne
   ·refine ⟨g,cap,cur,he,hbase,hbk,h1,h2,by omega,?_,hb⟩
    rw [Nat.mul_one,List.take_length] at h4
    exact h4
  have hso:∀g cap cur w1,w1.heap[g]? =some (.cells cur 3 (0,0))→l0.length≤cap→cur.size=cap→cur.toList.take l0.length=l0.map (Value.int .i64)→
    Calls Tryz.prog 58 #[.slice (some ⟨g,0,none⟩) l0.length cap] w1 fun e w'=>e= .returned (.tuple #[])∧∃cur',w'.heap[g]? =some (.cells cur' 3 (0,0))∧cur'.size=cap∧cur'.toList.take l0.length=(l0.mergeSort fun x y=>decide (x≤y)).map (Value.int .i64)∧w1.grownBy w' (some g):=by
   intro g cap cur w1 hbk h1 h3 h4;have hgl:g < w1.heap.size:=(Array.getElem?_eq_some_iff.1 hbk).1;have hh:=Tryz.slices_Sort_int g 0 cap l0 w1 (holds_of_blockI hbk h4) hgl (by omega)
   refine hh.mono fun e w' ⟨he,n,os,hw⟩=>⟨he,?_⟩
   subst hw
   have hl:(l0.mergeSort fun x y=>decide (x≤y)).length=l0.length:=by rw [List.length_mergeSort]
   refine ⟨_,heap_sortedI _ hbk,by simp [putCells,h3],?_,grownBy_sortedI _⟩;rw [←hl]
   exact take_putCellsI cur _ (by omega)
  have hco:∀g cap cur w1,w1.heap[g]? =some (.cells cur 3 (0,0))→l0.length≤cap→cur.size=cap→cur.toList.take l0.length=(l0.mergeSort fun x y=>decide (x≤y)).map (Value.int .i64)→
    Calls Tryz.prog 59 #[.slice (some ⟨g,0,none⟩) l0.length cap] w1 fun e w'=>∃cur',e= .returned (.slice (some ⟨g,0,none⟩) (yF.iset l0).length cap)∧w'.heap[g]? =some (.cells cur' 3 (0,0))∧cur'.size=cap∧cur'.toList.take (yF.iset l0).length=(yF.iset l0).map (Value.int .i64)∧w1.grownBy w' (some g):=by
   intro g cap cur w1 hbk h1 h3 h4
   have hl:(l0.mergeSort fun x y=>decide (x≤y)).length=l0.length:=by rw [List.length_mergeSort]
   have hh:=Tryz.slices_Compact_int g 0 cap (l0.mergeSort fun x y=>decide (x≤y)) w1 (holds_of_blockI hbk (by rw [hl];exact h4)) (by rw [hl];omega) (by rw [hl];omega);rw [hl] at hh
   refine hh.mono fun e w' ⟨he,q,hw⟩=> ?_
   have hts:Lib.compact (l0.mergeSort fun x y=>decide (x≤y))=yF.iset l0:=rfl;rw [hts] at he hw;have hm:(yF.iset l0).length≤l0.length:=yF.iset_length_le _
   have hg0:w'=grow (putRow (Value.int .i64) (Sort.ahead w1 q) g 0 (yF.iset l0 ++ List.replicate (l0.length - (yF.iset l0).length) 0).toArray) #[]:=by rw [hw,yF.grow_none]
   have hlt:(yF.iset l0 ++ List.replicate (l0.length - (yF.iset l0).length) 0).length=l0.length:=by simp;omega
   have htk:=take_putCellsI cur (yF.iset l0 ++ List.replicate (l0.length - (yF.iset l0).length) 0) (by omega);rw [hlt] at htk;refine ⟨putCells (Value.int .i64) 0 (yF.iset l0 ++ List.replicate (l0.length - (yF.iset l0).length) 0).toArray cur,he,by rw [hg0];exact heap_sortedI _ hbk,by simp [putCells,h3],?_,by rw [hg0];exact grownBy_sortedI _⟩;have:=congrArg (List.take (yF.iset l0).length) htk;rw [List.take_take,Nat.min_eq_left hm,List.map_append,List.take_left' (by simp)] at this
   exact this
  have hm:(yF.iset l0).length≤l0.length:=yF.iset_length_le _;clear hcells hr0 hsp;have HCL:=Plus.Kept.mk hcl;have HSO:=Plus.Kept.mk hso;have HCO:=Plus.Kept.mk hco;clear hcl hso hco hc
  go_enter Tryz.func39,Tryz.ntmps39
  go_wp2_with (first
   | (go_at_call 57;refine HCL.out.mono ?_;rintro e w1 ⟨g,cap,cur,rfl,hge,hbk1,h1,h2,h3,h4,hb1⟩)
   | (go_at_call 58;refine (HSO.out g cap cur w1 hbk1 h1 h3 h4).mono ?_;rintro e w2 ⟨rfl,cur2,hbk2,h32,h42,hg2⟩)
   | (go_at_call 59;refine (HCO.out g cap cur2 w2 hbk2 h1 h32 h42).mono ?_;rintro e w3 ⟨cur3,rfl,hbk3,h33,h43,hg3⟩)
   | go_in)
  go_ret
  have hown:=yF.own_cut (base:=w.heap.size) hge hbk3 (Nat.le_trans hm h1) h2 h33 rfl h43;refine ⟨_,rfl,Kd.R_of_own (enc:=(Value.int .i64)) (h1:=fun _=>rfl) ?_ (fun _ _=>trivial),?_⟩
  ·exact hown
  ·have b2:=hb1.grown hg2 hb1.size (fun j hj=>by cases hj;exact hge)
   exact b2.grown hg3 b2.size (fun j hj=>by cases hj;exact hge)
end
def ye.l0:Nat→List Int→List ByteArray→Int→Int→Option (List Int)
 | 0,_,_,_,_=>none
 | k + 1,x3,x6,x7,x8=>if x8 < x7 then (if 0≤x8 then (if x8 < (x6.length:Int) then (if (rdOf ByteArray.empty x6 x8).toList=([]:List UInt8) then (ye.l0 k x3 x6 x7 (wrap64 (x8 + 1))) else (if 0 < ((rdOf ByteArray.empty x6 x8).size:Int) then (if x3.length < 17592186044416 then (ye.l0 k (x3 ++ [wrap64 (bt (rdOf ByteArray.empty x6 x8) 0)]) x6 x7 (wrap64 (x8 + 1))) else (none)) else (none))) else (none)) else (none)) else ((yF.f x3).bind fun t321=>(some t321))
def ye.f (k:Nat) (l0:List ByteArray):Option (List Int):=ye.l0 k ([]:List Int) l0 (l0.length:Int) 0
theorem ye.mono_l:∀k,(∀y0 y1 y2 y3,LeO (ye.l0 k y0 y1 y2 y3) (ye.l0 (k + 1) y0 y1 y2 y3))
 | 0=>fun _ _ _ _ r h=>by simp [ye.l0] at h
 | k + 1=>by
  have ih0:=ye.mono_l k
  ·intro y0 y1 y2 y3
   unfold ye.l0
   repeat' first
   | with_reducible first|exact ih0 _ _ _ _|exact LeO.refl _|exact LeO.none _|refine LeO.ite ?_ ?_|refine LeO.bind ?_ (fun _=> ?_)
theorem ye.mono:∀a0 k,LeO (ye.f k a0) (ye.f (k + 1) a0):=by
 intro a0 k;have ih0:=ye.mono_l k
 unfold ye.f
 repeat' first
   | with_reducible first|exact ih0 _ _ _ _|exact LeO.refl _|exact LeO.none _|refine LeO.ite ?_ ?_|refine LeO.bind ?_ (fun _=> ?_)
theorem ye.calls (k:Nat) (A0:Option Addr) (c0:Nat) (l0:List ByteArray) (r:List Int) (w:World) (hr0:Kd.C Kd.string w A0 l0.length l0) (hc0:l0.length≤c0) (h:ye.f k l0=some r) :
  Calls Tryz.prog 19 #[.slice A0 l0.length c0] w fun e w'=>∃v0_:Value,e= .returned (v0_)∧Kd.R (Kd.int .i64) 3 w' w.heap.size (fun _=>True) v0_ r∧Below w.heap.size w w':=by
 have HR0:=zA.mk hr0;have HC0:=zA.mk hc0;clear hr0 hc0;have HB:=zA.mk (Below.refl w.heap.size w);have H:(ye.l0 k ([]:List Int) l0 (l0.length:Int) 0)=some r:=h;clear h;have H':=zA.mk H;clear H
 go_enter Tryz.func19,Tryz.ntmps19
 go_wp2
 go_loopg [3,8] k (fun kq v3 v8 w'=>∃(x3_1:List Int) (x8_1:Int),v8= .int .i64 x8_1∧zA (ye.l0 kq x3_1 l0 (l0.length:Int) x8_1=some r)∧zA (kq≤k)∧zA (Kd.R (Kd.int .i64) 3 w' w.heap.size (fun _=>True) v3 x3_1)∧zA (Below w.heap.size w w'))
 case atStart=>exact ⟨(([]:List Int)),(0),Zk,H',⟨Nat.le_refl _⟩,⟨by first|exact Kd.R_nil _ _ _ _ _|exact Kd.N_nil _ _ _ _ _|exact Kd.V_nil _ _ _ _ _|exact Kd.Q_nil _ _ _ _ _|exact Kd.S_nil _ _ _ _ _⟩,⟨by repeat (first|(with_reducible first|exact HB.out|apply zE|apply zC|apply zG)|exact HB.out)⟩⟩
 case round=>
  clear H';(try clear c1);obtain ⟨x3_1,x8_1,rfl,HA,HK1,HO_3,HB⟩:=hrel;cases gk with
  | zero=>exact absurd HA.out (by simp [ye.l0])
  | succ k1=>
   have H:=HA.out;clear HA;simp only [ye.l0] at H
   by_cases c2:x8_1 < (l0.length:Int)
   ·rw [if_pos c2] at H
    have c2b0:=decide_eq_true c2;clear c2
    by_cases c3:0≤x8_1
    ·rw [if_pos c3] at H
     have c3b0:=decide_eq_true c3;clear c3
     by_cases c4:x8_1 < (l0.length:Int)
     ·rw [if_pos c4] at H
      have c4b0:=decide_eq_true c4;clear c4
      by_cases c5:(rdOf ByteArray.empty l0 x8_1).toList=([]:List UInt8)
      ·rw [if_pos c5] at H
       have c5b0:((rdOf ByteArray.empty l0 x8_1).toList == ([]:List UInt8))=true:=beq_iff_eq.mpr c5;have c5b1:((rdOf ByteArray.empty l0 x8_1).toList != ([]:List UInt8))=false:=bne_eq_false_iff_eq.mpr c5;clear c5;have H':=zA.mk H;clear H;have p317:0≤(x8_1:Int):=Qa;have q317:x8_1 < (l0.length:Int):=Qa;obtain ⟨ad317,e317,hx317_0⟩:=Kd.at_string HR0.out x8_1 p317 q317;cases e317;replace hx317_0:=Qp HB hx317_0;replace p317:=eq_true p317;replace q317:=eq_true q317
       go_wp2
       go_roundg k1
       case measure=>have:=HK1.out;omega
       case rel=>exact ⟨(x3_1),(wrap64 (x8_1 + 1)),Zk,H',⟨by have:=HK1.out;omega⟩,⟨Qh HO_3⟩,⟨by repeat (first|(with_reducible first|exact HB.out|apply zE|apply zC|apply zG)|exact HB.out)⟩⟩
      ·rw [if_neg c5] at H
       have c5b0:((rdOf ByteArray.empty l0 x8_1).toList == ([]:List UInt8))=false:=beq_eq_false_iff_ne.mpr c5;have c5b1:((rdOf ByteArray.empty l0 x8_1).toList != ([]:List UInt8))=true:=bne_iff_ne.mpr c5
       by_cases c6:0 < ((rdOf ByteArray.empty l0 x8_1).size:Int)
       ·rw [if_pos c6] at H
        have c6b0:=decide_eq_true c6;have c6b1:decide (0 < (rdOf ByteArray.empty l0 x8_1).size)=true:=decide_eq_true (by omega);clear c6
        by_cases c8:x3_1.length < 17592186044416
        ·rw [if_pos c8] at H
         have LMc8:=zA.mk c8;clear c8;obtain ⟨y318,hy318⟩:∃y_:List Int,y_=(x3_1 ++ [wrap64 (bt (rdOf ByteArray.empty l0 x8_1) 0)]):=⟨_,rfl⟩;replace H:(ye.l0 k1 y318 l0 (l0.length:Int) (wrap64 (x8_1 + 1)))=some r:=Qb hy318 H;have Ny318:=zA.mk hy318;clear hy318;have H':=zA.mk H;clear H;have p317:0≤(x8_1:Int):=Qa;have q317:x8_1 < (l0.length:Int):=Qa;obtain ⟨ad317,e317,hx317_0⟩:=Kd.at_string HR0.out x8_1 p317 q317;cases e317;replace hx317_0:=Qp HB hx317_0;replace p317:=eq_true p317;replace q317:=eq_true q317;have p7:0≤(0:Int):=(by omega);have q7:0 < (rdOf ByteArray.empty l0 x8_1).size:=(by have:(0:Int) < ((rdOf ByteArray.empty l0 x8_1).size:Int):=Qa;omega);have hx7:∀h:0 < (rdOf ByteArray.empty l0 x8_1).size,(((rdOf ByteArray.empty l0 x8_1)[0]'h).toNat:Int)=bt (rdOf ByteArray.empty l0 x8_1) 0:=bt_at (rdOf ByteArray.empty l0 x8_1) 0;clear p7;have qi7:(0 < ((rdOf ByteArray.empty l0 x8_1).size:Int))=True:=eq_true (Qa);replace q7:=eq_true q7
         go_wp2_with (first|((with_reducible refine ZK (b:= .append) (xs:= #[.tmp 14, .tmp 18]) rfl ?_);at_builtin;refine Kd.R_append (Kd.int .i64) (w0:=w) w.heap.size rfl (.tmp 14) (.tmp 18) 22 3 (.int .i64 0) 8 rfl Tryz.underlying22 info3 rfl (by decide) (by omega) u3 x3_1 (wrap64 (bt (rdOf ByteArray.empty l0 x8_1) 0)) [.int .i64 (wrap64 (bt (rdOf ByteArray.empty l0 x8_1) 0))] (fun _=>True) (fun _=>False) rfl rfl ?aP (fun _ hk=>hk.elim) ?aF ?aO ?aB ?aS ?aL ?_;(case aP=>exact rfl);(case aB=>exact Qc);(case aF=>exact (fun _ _=>trivial));(case aO=>exact (Qh HO_3));(case aS=>exact (zD Qc));(case aL=>have:=LMc8.out;omega);intro v319 w9 ho hb hg hat;rw [←Ny318.out] at ho;have n0_:=zA.mk (hb);have n1_:=zA.mk (ho);clear HB HO_3;have HB:=n0_;have HO320:=n1_;clear n0_ n1_ ho hb hg hat))
         go_roundg k1
         case measure=>have:=HK1.out;omega
         case rel=>exact ⟨(y318),(wrap64 (x8_1 + 1)),Zk,H',⟨by have:=HK1.out;omega⟩,⟨Qh HO320⟩,⟨by repeat (first|(with_reducible first|exact HB.out|apply zE|apply zC|apply zG)|exact HB.out)⟩⟩
        ·rw [if_neg c8] at H
         exact absurd H (by simp)
       ·rw [if_neg c6] at H
        exact absurd H (by simp)
     ·rw [if_neg c4] at H
      exact absurd H (by simp)
    ·rw [if_neg c3] at H
     exact absurd H (by simp)
   ·rw [if_neg c2] at H
    have c2b0:=decide_eq_false c2;clear c2;replace H:=ZzB H;obtain ⟨t321,A100,H⟩:=H;replace H:(some t321)=some r:=H;have A10:=zA.mk A100;clear A100;obtain rfl:=Option.some.inj H;obtain ⟨Ao11,co11,eo11⟩:=Kd.R_slice HO_3.out;subst eo11
    go_wp2_with (first|((with_reducible refine zj (f:=39) rfl ?_);refine yS (some 22) rfl rfl Tryz.func39 (by kernel_rfl) rfl #[.slice Ao11 x3_1.length co11] rfl Q8 ?_;(with_reducible refine (yF.calls _ _ x3_1 t321 _ ?side1 ?side2 A10.out).mono ?_);(case side1=>exact Qo ((Kd.R_reads' HO_3.out).2.2));(case side2=>exact (Kd.R_reads' HO_3.out).2.1);rintro e w12 ⟨v322,rfl,ho0,hb⟩;refine ⟨_,rfl,?_⟩;have n1_:=zA.mk (Kd.R_lower (yv ho0) (zD Qc));have n2_:=zA.mk (zF Qc hb);clear HB;have HO323:=n1_;have HB:=n2_;clear n1_ n2_;(try clear hb ho0)))
    go_ret
    exact ⟨_,by first|rfl|(simp [zR,zS] <;> rfl)|(simp [*,zR,zS] <;> rfl),by (with_reducible repeat (first|apply Kd.R_alloc|apply Kd.R_drewN|apply Kd.R_drew));exact Kd.R_mono HO323.out (fun _ hk=>trivial),by repeat (first|(with_reducible first|exact HB.out|apply zE|apply zC|apply zG)|exact HB.out)⟩
end Go.Proofs.YtpfeebmfihgelaaGreat.HGuessPicks
