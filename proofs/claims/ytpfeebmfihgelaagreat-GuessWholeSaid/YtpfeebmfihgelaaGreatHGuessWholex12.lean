-- Written by plus.py for this claim.
import Derived.Test.YtpfeebmfihgelaaGreatSGuessWholeVZip
import Derived.Test.YtpfeebmfihgelaaGreatHGuessWholex0
import Derived.Test.YtpfeebmfihgelaaGreatHGuessWholex5
namespace Go.Proofs.YtpfeebmfihgelaaGreat.HGuessWhole
open Go.RowKit Go.Proofs.YtpfeebmfihgelaaGreatW.PrintWords Go.Proofs.YtpfeebmfihgelaaGreatW.PrintLast Go.Proofs.YtpfeebmfihgelaaGreatW.PrintMore
attribute [local go_sem] ym yn ZG ZH yd ye yo yp   -- for this text's walks alone
set_option linter.unusedVariables false
set_option maxHeartbeats 8000000
set_option maxRecDepth 100000
set_option linter.unusedSimpArgs false
def yU.l0:Nat→List ByteArray→Int→Option (Bool)
 | 0,_,_=>none
 | k + 1,x0,x3=>if x3 < (x0.length:Int) then (if 0≤(wrap64 (x3 - 1)) then (if (wrap64 (x3 - 1)) < (x0.length:Int) then (if 0≤x3 then (if (Op.bytesLess ((rdOf ByteArray.empty x0 (wrap64 (x3 - 1))).toList) ((rdOf ByteArray.empty x0 x3).toList))=true then (yU.l0 k x0 (wrap64 (x3 + 1))) else (some false)) else (none)) else (none)) else (none)) else (some true)
def yU.f (k:Nat) (l0:List ByteArray):Option (Bool):=yU.l0 k l0 1
theorem yU.mono_l:∀k,(∀y0 y1,LeO (yU.l0 k y0 y1) (yU.l0 (k + 1) y0 y1))
 | 0=>fun _ _ r h=>by simp [yU.l0] at h
 | k + 1=>by
  have ih0:=yU.mono_l k
  ·intro y0 y1
   unfold yU.l0
   repeat' first
   | with_reducible first|exact ih0 _ _|exact LeO.refl _|exact LeO.none _|refine LeO.ite ?_ ?_|refine LeO.bind ?_ (fun _=> ?_)
theorem yU.mono:∀a0 k,LeO (yU.f k a0) (yU.f (k + 1) a0):=by
 intro a0 k;have ih0:=yU.mono_l k
 unfold yU.f
 repeat' first
   | with_reducible first|exact ih0 _ _|exact LeO.refl _|exact LeO.none _|refine LeO.ite ?_ ?_|refine LeO.bind ?_ (fun _=> ?_)
theorem yU.calls (k:Nat) (A0:Option Addr) (c0:Nat) (l0:List ByteArray) (r:Bool) (w:World) (hr0:Kd.C Kd.string w A0 l0.length l0) (hc0:l0.length≤c0) (h:yU.f k l0=some r) :
  Calls Tryz.prog 36 #[.slice A0 l0.length c0] w fun e w'=>e= .returned (.bool r)∧zv w w':=by
 have HR0:=zA.mk hr0;have HC0:=zA.mk hc0;clear hr0 hc0;have H:(yU.l0 k l0 1)=some r:=h;clear h;have H':=zA.mk H;clear H
 go_enter Tryz.func36,Tryz.ntmps36
 go_wp2
 repeat (go_quiet (fail);try go_wp2)
 go_loopg [3] k (fun kq v3 w'=>∃(x3_1:Int),v3= .int .i64 x3_1∧zA (yU.l0 kq l0 x3_1=some r)∧zA (kq≤k)∧zv w w')
 case atStart=>exact ⟨(1),Q6,H',⟨Nat.le_refl _⟩,by repeat (first|exact zv.refl _|apply zv.step)⟩
 case round=>
  clear H';obtain ⟨x3_1,rfl,HA,HK1,⟨m1,rfl⟩⟩:=hrel;cases gk with
  | zero=>exact absurd HA.out (by simp [yU.l0])
  | succ k1=>
   have H:=HA.out;clear HA;simp only [yU.l0] at H
   by_cases c2:x3_1 < (l0.length:Int)
   ·rw [if_pos c2] at H
    have c2b0:=decide_eq_true c2;clear c2;obtain ⟨ji3,hji3⟩:∃j_:Int,(wrap64 (x3_1 - 1))=j_:=⟨_,rfl⟩
    replace H:(if 0≤(ji3) then (if (ji3) < (l0.length:Int) then (if 0≤x3_1 then (if (Op.bytesLess ((rdOf ByteArray.empty l0 (ji3)).toList) ((rdOf ByteArray.empty l0 x3_1).toList))=true then (yU.l0 k1 l0 (wrap64 (x3_1 + 1))) else (some false)) else (none)) else (none)) else (none))=some r:=by first|(rw [hji3] at H;exact H)|(simp only [hji3] at H⊢;exact H)
    have hji3w:(IntKind.i64.wrap (x3_1 - 1))=ji3:=(yz _).trans hji3
    by_cases c4:0≤(ji3)
    ·rw [if_pos c4] at H
     have c4b0:=decide_eq_true c4;clear c4
     by_cases c5:(ji3) < (l0.length:Int)
     ·rw [if_pos c5] at H
      have c5b0:=decide_eq_true c5;clear c5
      by_cases c6:0≤x3_1
      ·rw [if_pos c6] at H
       have c6b0:=decide_eq_true c6;clear c6
       by_cases c7:(Op.bytesLess ((rdOf ByteArray.empty l0 (ji3)).toList) ((rdOf ByteArray.empty l0 x3_1).toList))=true
       ·rw [if_pos c7] at H
        have c7b0:(Op.bytesLess ((rdOf ByteArray.empty l0 (ji3)).toList) ((rdOf ByteArray.empty l0 x3_1).toList))=true:=c7;clear c7;have H':=zA.mk H;clear H;have p294:0≤((ji3):Int):=Qa;have q294:(ji3) < (l0.length:Int):=Qa;obtain ⟨ad294,e294,hx294_0⟩:=Kd.at_string HR0.out (ji3) p294 q294;cases e294;replace p294:=eq_true p294;replace q294:=eq_true q294;have p295:0≤(x3_1:Int):=Qa;have q295:x3_1 < (l0.length:Int):=Qa;obtain ⟨ad295,e295,hx295_0⟩:=Kd.at_string HR0.out x3_1 p295 q295;obtain rfl:ad294=ad295:=(by injection e295);replace p295:=eq_true p295;replace q295:=eq_true q295
        go_wp2
        repeat (go_quiet (fail);try go_wp2)
        go_roundg k1
        case measure=>have:=HK1.out;omega
        case rel=>exact ⟨(wrap64 (x3_1 + 1)),Q6,H',⟨by have:=HK1.out;omega⟩,by repeat (first|exact zv.refl _|apply zv.step)⟩
       ·rw [if_neg c7] at H
        have c7b0:(Op.bytesLess ((rdOf ByteArray.empty l0 (ji3)).toList) ((rdOf ByteArray.empty l0 x3_1).toList))=false:=by simpa using c7
        clear c7;obtain rfl:=Option.some.inj H;have p294:0≤((ji3):Int):=Qa;have q294:(ji3) < (l0.length:Int):=Qa;obtain ⟨ad294,e294,hx294_0⟩:=Kd.at_string HR0.out (ji3) p294 q294;cases e294;replace p294:=eq_true p294;replace q294:=eq_true q294;have p295:0≤(x3_1:Int):=Qa;have q295:x3_1 < (l0.length:Int):=Qa;obtain ⟨ad295,e295,hx295_0⟩:=Kd.at_string HR0.out x3_1 p295 q295;obtain rfl:ad294=ad295:=(by injection e295);replace p295:=eq_true p295;replace q295:=eq_true q295
        go_wp2
        repeat (go_quiet (fail);try go_wp2)
        go_ret
        exact ⟨by first|rfl|(simp;done)|(simp only [←hji3] <;> (first|rfl|simp))|(simp [*];done),by repeat (first|exact zv.refl _|apply zv.step)⟩
      ·rw [if_neg c6] at H
       exact absurd H (by simp)
     ·rw [if_neg c5] at H
      exact absurd H (by simp)
    ·rw [if_neg c4] at H
     exact absurd H (by simp)
   ·rw [if_neg c2] at H
    have c2b0:=decide_eq_false c2;clear c2;obtain rfl:=Option.some.inj H
    go_wp2
    repeat (go_quiet (fail);try go_wp2)
    go_ret
    exact ⟨by first|rfl|(simp;done)|(simp [*];done),by repeat (first|exact zv.refl _|apply zv.step)⟩
def yP.f (a0:ByteArray):Option (Bool):=some (a0.toList != a0.toList)
theorem yP.calls (a0:ByteArray) (r:Bool) (w:World) (h:yP.f a0=some r) :
  Calls Tryz.prog 79 #[.string a0] w fun e w'=>e= .returned (.bool r)∧zv w w':=by
 have H:(some (a0.toList != a0.toList))=some r:=h;clear h;obtain rfl:=Option.some.inj H
 go_enter Tryz.func79,Tryz.ntmps79
 go_wp2
 go_ret
 exact ⟨by first|rfl|(simp;done)|(simp [*];done),by repeat (first|exact zv.refl _|apply zv.step)⟩
def yi.f (a0:ByteArray) (a1:ByteArray):Option (Bool):=(yP.f a0).bind fun t296=>(if t296=true then ((yP.f a1).bind fun t297=>(if t297=true then (some (Op.bytesLess a0.toList a1.toList)) else (some true))) else (some (Op.bytesLess a0.toList a1.toList)))
theorem yi.calls (a0:ByteArray) (a1:ByteArray) (r:Bool) (w:World) (h:yi.f a0 a1=some r) :
  Calls Tryz.prog 54 #[.string a0, .string a1] w fun e w'=>e= .returned (.bool r)∧zv w w':=by
 have H:((yP.f a0).bind fun t296=>(if t296=true then ((yP.f a1).bind fun t297=>(if t297=true then (some (Op.bytesLess a0.toList a1.toList)) else (some true))) else (some (Op.bytesLess a0.toList a1.toList))))=some r:=h;clear h;replace H:=ZzB H;obtain ⟨t296,A30,H⟩:=H;replace H:(if t296=true then ((yP.f a1).bind fun t297=>(if t297=true then (some (Op.bytesLess a0.toList a1.toList)) else (some true))) else (some (Op.bytesLess a0.toList a1.toList)))=some r:=H;have A3:=zA.mk A30;clear A30
 by_cases c4:t296=true
 ·subst c4
  have H1:((yP.f a1).bind fun t297=>(if t297=true then (some (Op.bytesLess a0.toList a1.toList)) else (some true)))=some r:=by rw [if_pos rfl] at H;exact H
  clear H;have H:=H1;clear H1;replace H:=ZzB H;obtain ⟨t297,A50,H⟩:=H;replace H:(if t297=true then (some (Op.bytesLess a0.toList a1.toList)) else (some true))=some r:=H;have A5:=zA.mk A50;clear A50
  by_cases c6:t297=true
  ·subst c6
   have H1:(some (Op.bytesLess a0.toList a1.toList))=some r:=by rw [if_pos rfl] at H;exact H
   clear H;have H:=H1;clear H1;obtain rfl:=Option.some.inj H
   go_enter Tryz.func54,Tryz.ntmps54
   go_wp2_with (first|((with_reducible refine zm (f:=79) rfl ?_);refine yJ (some 6) rfl rfl Tryz.func79 (by kernel_rfl) rfl #[.string a0] rfl QZ ?_;(with_reducible refine (yP.calls a0 true _ A3.out).mono ?_);rintro e w' ⟨rfl,⟨nd,rfl⟩⟩;refine ⟨_,rfl,?_⟩)|(go_at_call 79;(with_reducible refine (yP.calls a1 true _ A5.out).mono ?_);rintro e w' ⟨rfl,⟨nd,rfl⟩⟩))
   go_ret
   exact ⟨by first|rfl|(simp;done)|(simp [*];done),by repeat (first|exact zv.refl _|apply zv.step)⟩
  ·replace c6:=Bool.eq_false_iff.mpr c6
   subst c6
   have H1:(some true)=some r:=by rw [if_neg (show ¬(false=true) by decide)] at H;exact H
   clear H;have H:=H1;clear H1;obtain rfl:=Option.some.inj H
   go_enter Tryz.func54,Tryz.ntmps54
   go_wp2_with (first|((with_reducible refine zm (f:=79) rfl ?_);refine yJ (some 6) rfl rfl Tryz.func79 (by kernel_rfl) rfl #[.string a0] rfl QZ ?_;(with_reducible refine (yP.calls a0 true _ A3.out).mono ?_);rintro e w' ⟨rfl,⟨nd,rfl⟩⟩;refine ⟨_,rfl,?_⟩)|(go_at_call 79;(with_reducible refine (yP.calls a1 false _ A5.out).mono ?_);rintro e w' ⟨rfl,⟨nd,rfl⟩⟩))
   go_ret
   exact ⟨by first|rfl|(simp;done)|(simp [*];done),by repeat (first|exact zv.refl _|apply zv.step)⟩
 ·replace c4:=Bool.eq_false_iff.mpr c4
  subst c4
  have H1:(some (Op.bytesLess a0.toList a1.toList))=some r:=by rw [if_neg (show ¬(false=true) by decide)] at H;exact H
  clear H;have H:=H1;clear H1;obtain rfl:=Option.some.inj H
  go_enter Tryz.func54,Tryz.ntmps54
  go_wp2_with (first|((with_reducible refine zm (f:=79) rfl ?_);refine yJ (some 6) rfl rfl Tryz.func79 (by kernel_rfl) rfl #[.string a0] rfl QZ ?_;(with_reducible refine (yP.calls a0 false _ A3.out).mono ?_);rintro e w' ⟨rfl,⟨nd,rfl⟩⟩;refine ⟨_,rfl,?_⟩))
  go_ret
  exact ⟨by first|rfl|(simp;done)|(simp [*];done),by repeat (first|exact zv.refl _|apply zv.step)⟩
def yS.f (a0:ByteArray):Option (Bool):=some (a0.toList != a0.toList)
theorem yS.calls (a0:ByteArray) (r:Bool) (w:World) (h:yS.f a0=some r) :
  Calls Tryz.prog 55 #[.string a0] w fun e w'=>e= .returned (.bool r)∧zv w w':=by
 have H:(some (a0.toList != a0.toList))=some r:=h;clear h;obtain rfl:=Option.some.inj H
 go_enter Tryz.func55,Tryz.ntmps55
 go_wp2
 go_ret
 exact ⟨by first|rfl|(simp;done)|(simp [*];done),by repeat (first|exact zv.refl _|apply zv.step)⟩
def zJ.l0:Nat→List ByteArray→ByteArray→Int→Int→Int→Option (Int × Bool)
 | 0,_,_,_,_,_=>none
 | k + 1,x0,x1,x6,x7,x8=>if x7 < x8 then (if 0≤(wrap64 ((IntKind.u64.wrap (wrap64 (x7 + x8))) / 2)) then (if (wrap64 ((IntKind.u64.wrap (wrap64 (x7 + x8))) / 2)) < (x0.length:Int) then ((yi.f (rdOf ByteArray.empty x0 (wrap64 ((IntKind.u64.wrap (wrap64 (x7 + x8))) / 2))) x1).bind fun t299=>(if t299=true then (zJ.l0 k x0 x1 x6 (wrap64 ((wrap64 ((IntKind.u64.wrap (wrap64 (x7 + x8))) / 2)) + 1)) x8) else (zJ.l0 k x0 x1 x6 x7 (wrap64 ((IntKind.u64.wrap (wrap64 (x7 + x8))) / 2))))) else (none)) else (none)) else (if x7 < x6 then (if 0≤x7 then (if x7 < (x0.length:Int) then (if (rdOf ByteArray.empty x0 x7).toList=x1.toList then (some (x7,true)) else ((yS.f (rdOf ByteArray.empty x0 x7)).bind fun t302=>(if t302=true then ((yS.f x1).bind fun t303=>(some (x7,t303))) else (some (x7,false))))) else (none)) else (none)) else (some (x7,false)))
def zJ.f (k:Nat) (l0:List ByteArray) (a1:ByteArray):Option (Int × Bool):=zJ.l0 k l0 a1 (l0.length:Int) 0 (l0.length:Int)
theorem zJ.mono_l:∀k,(∀y0 y1 y2 y3 y4,LeO (zJ.l0 k y0 y1 y2 y3 y4) (zJ.l0 (k + 1) y0 y1 y2 y3 y4))
 | 0=>fun _ _ _ _ _ r h=>by simp [zJ.l0] at h
 | k + 1=>by
  have ih0:=zJ.mono_l k
  ·intro y0 y1 y2 y3 y4
   unfold zJ.l0
   repeat' first
   | with_reducible first|exact ih0 _ _ _ _ _|exact LeO.refl _|exact LeO.none _|refine LeO.ite ?_ ?_|refine LeO.bind ?_ (fun _=> ?_)
theorem zJ.mono:∀a0 a1 k,LeO (zJ.f k a0 a1) (zJ.f (k + 1) a0 a1):=by
 intro a0 a1 k;have ih0:=zJ.mono_l k
 unfold zJ.f
 repeat' first
   | with_reducible first|exact ih0 _ _ _ _ _|exact LeO.refl _|exact LeO.none _|refine LeO.ite ?_ ?_|refine LeO.bind ?_ (fun _=> ?_)
theorem zJ.calls (k:Nat) (A0:Option Addr) (c0:Nat) (l0:List ByteArray) (a1:ByteArray) (r1:Int) (r2:Bool) (w:World) (hr0:Kd.C Kd.string w A0 l0.length l0) (hc0:l0.length≤c0) (h:zJ.f k l0 a1=some (r1,r2)) :
  Calls Tryz.prog 37 #[.slice A0 l0.length c0, .string a1] w fun e w'=>e= .returned (.tuple #[.int .i64 r1, .bool r2])∧zv w w':=by
 have HR0:=zA.mk hr0;have HC0:=zA.mk hc0;clear hr0 hc0;have H:(zJ.l0 k l0 a1 (l0.length:Int) 0 (l0.length:Int))=some (r1,r2):=h;clear h;have H':=zA.mk H;clear H
 go_enter Tryz.func37,Tryz.ntmps37
 go_wp2
 go_loopg [7,8] k (fun kq v7 v8 w'=>∃(x7_1:Int) (x8_1:Int),v7= .int .i64 x7_1∧v8= .int .i64 x8_1∧zA (zJ.l0 kq l0 a1 (l0.length:Int) x7_1 x8_1=some (r1,r2))∧zA (kq≤k)∧zv w w')
 case atStart=>exact ⟨(0),((l0.length:Int)),Q6,Q6,H',⟨Nat.le_refl _⟩,by repeat (first|exact zv.refl _|apply zv.step)⟩
 case round=>
  clear H';(try clear p2);obtain ⟨x7_1,x8_1,rfl,rfl,HA,HK1,⟨m1,rfl⟩⟩:=hrel;cases gk with
  | zero=>exact absurd HA.out (by simp [zJ.l0])
  | succ k1=>
   have H:=HA.out;clear HA;simp only [zJ.l0] at H
   by_cases c3:x7_1 < x8_1
   ·rw [if_pos c3] at H
    have c3b0:=decide_eq_true c3;clear c3;obtain ⟨ji4,hji4⟩:∃j_:Int,(wrap64 ((IntKind.u64.wrap (wrap64 (x7_1 + x8_1))) / 2))=j_:=⟨_,rfl⟩
    replace H:(if 0≤(ji4) then (if (ji4) < (l0.length:Int) then ((yi.f (rdOf ByteArray.empty l0 (ji4)) a1).bind fun t299=>(if t299=true then (zJ.l0 k1 l0 a1 (l0.length:Int) (wrap64 ((ji4) + 1)) x8_1) else (zJ.l0 k1 l0 a1 (l0.length:Int) x7_1 ji4))) else (none)) else (none))=some (r1,r2):=by first|(rw [hji4] at H;exact H)|(simp only [hji4] at H⊢;exact H)
    have hji4w:(IntKind.i64.wrap ((IntKind.u64.wrap (wrap64 (x7_1 + x8_1))) / 2))=ji4:=(yz _).trans hji4
    by_cases c5:0≤(ji4)
    ·rw [if_pos c5] at H
     have c5b0:=decide_eq_true c5;clear c5
     by_cases c6:(ji4) < (l0.length:Int)
     ·rw [if_pos c6] at H
      have c6b0:=decide_eq_true c6;clear c6;replace H:=ZzB H;obtain ⟨t299,A70,H⟩:=H;replace H:(if t299=true then (zJ.l0 k1 l0 a1 (l0.length:Int) (wrap64 ((ji4) + 1)) x8_1) else (zJ.l0 k1 l0 a1 (l0.length:Int) x7_1 ji4))=some (r1,r2):=H;have A7:=zA.mk A70;clear A70
      by_cases c8:t299=true
      ·subst c8
       have H1:(zJ.l0 k1 l0 a1 (l0.length:Int) (wrap64 ((ji4) + 1)) x8_1)=some (r1,r2):=by rw [if_pos rfl] at H;exact H
       clear H;have H:=H1;clear H1;have H':=zA.mk H;clear H;have p298:0≤((ji4):Int):=Qa;have q298:(ji4) < (l0.length:Int):=Qa;obtain ⟨ad298,e298,hx298_0⟩:=Kd.at_string HR0.out (ji4) p298 q298;cases e298;replace p298:=eq_true p298;replace q298:=eq_true q298
       go_wp2_with (first|((with_reducible refine zm (f:=54) rfl ?_);refine yJ (some 27) rfl rfl Tryz.func54 (by kernel_rfl) rfl #[.string (rdOf ByteArray.empty l0 (ji4)), .string a1] rfl QT ?_;(with_reducible refine (yi.calls (rdOf ByteArray.empty l0 (ji4)) a1 true _ A7.out).mono ?_);rintro e w' ⟨rfl,⟨nd,rfl⟩⟩;refine ⟨_,rfl,?_⟩))
       go_roundg k1
       case measure=>have:=HK1.out;omega
       case rel=>exact ⟨(wrap64 ((ji4) + 1)),(x8_1),(by first|rfl|(simp;done)|(simp only [←hji4] <;> (first|rfl|simp))|(simp [*];done)),Q6,H',⟨by have:=HK1.out;omega⟩,by repeat (first|exact zv.refl _|apply zv.step)⟩
      ·replace c8:=Bool.eq_false_iff.mpr c8
       subst c8
       have H1:(zJ.l0 k1 l0 a1 (l0.length:Int) x7_1 ji4)=some (r1,r2):=by rw [if_neg (show ¬(false=true) by decide)] at H;exact H
       clear H;have H:=H1;clear H1;have H':=zA.mk H;clear H;have p298:0≤((ji4):Int):=Qa;have q298:(ji4) < (l0.length:Int):=Qa;obtain ⟨ad298,e298,hx298_0⟩:=Kd.at_string HR0.out (ji4) p298 q298;cases e298;replace p298:=eq_true p298;replace q298:=eq_true q298
       go_wp2_with (first|((with_reducible refine zm (f:=54) rfl ?_);refine yJ (some 27) rfl rfl Tryz.func54 (by kernel_rfl) rfl #[.string (rdOf ByteArray.empty l0 (ji4)), .string a1] rfl QT ?_;(with_reducible refine (yi.calls (rdOf ByteArray.empty l0 (ji4)) a1 false _ A7.out).mono ?_);rintro e w' ⟨rfl,⟨nd,rfl⟩⟩;refine ⟨_,rfl,?_⟩))
       go_roundg k1
       case measure=>have:=HK1.out;omega
       case rel=>exact ⟨(x7_1),(ji4),Q6,(by first|rfl|(simp;done)|(simp only [←hji4] <;> (first|rfl|simp))|(simp [*];done)),H',⟨by have:=HK1.out;omega⟩,by repeat (first|exact zv.refl _|apply zv.step)⟩
     ·rw [if_neg c6] at H
      exact absurd H (by simp)
    ·rw [if_neg c5] at H
     exact absurd H (by simp)
   ·rw [if_neg c3] at H
    have c3b0:=decide_eq_false c3;clear c3
    by_cases c9:x7_1 < (l0.length:Int)
    ·rw [if_pos c9] at H
     have c9b0:=decide_eq_true c9;clear c9
     by_cases c10:0≤x7_1
     ·rw [if_pos c10] at H
      have c10b0:=decide_eq_true c10;clear c10
      by_cases c11:x7_1 < (l0.length:Int)
      ·rw [if_pos c11] at H
       have c11b0:=decide_eq_true c11;clear c11
       by_cases c12:(rdOf ByteArray.empty l0 x7_1).toList=a1.toList
       ·rw [if_pos c12] at H
        have c12b0:((rdOf ByteArray.empty l0 x7_1).toList == a1.toList)=true:=beq_iff_eq.mpr c12;have c12b1:((rdOf ByteArray.empty l0 x7_1).toList != a1.toList)=false:=bne_eq_false_iff_eq.mpr c12;clear c12;simp only [Option.some.injEq,Prod.mk.injEq] at H;obtain ⟨rfl,rfl⟩:=H;have p300:0≤(x7_1:Int):=Qa;have q300:x7_1 < (l0.length:Int):=Qa;obtain ⟨ad300,e300,hx300_0⟩:=Kd.at_string HR0.out x7_1 p300 q300;cases e300;replace p300:=eq_true p300;replace q300:=eq_true q300
        go_wp2
        go_ret2
        exact ⟨by first|rfl|(simp;done)|(simp [*];done),by repeat (first|exact zv.refl _|apply zv.step)⟩
       ·rw [if_neg c12] at H
        have c12b0:((rdOf ByteArray.empty l0 x7_1).toList == a1.toList)=false:=beq_eq_false_iff_ne.mpr c12;have c12b1:((rdOf ByteArray.empty l0 x7_1).toList != a1.toList)=true:=bne_iff_ne.mpr c12;replace H:=ZzB H;obtain ⟨t302,A130,H⟩:=H;replace H:(if t302=true then ((yS.f a1).bind fun t303=>(some (x7_1,t303))) else (some (x7_1,false)))=some (r1,r2):=H;have A13:=zA.mk A130;clear A130
        by_cases c14:t302=true
        ·subst c14
         have H1:((yS.f a1).bind fun t303=>(some (x7_1,t303)))=some (r1,r2):=by rw [if_pos rfl] at H;exact H
         clear H;have H:=H1;clear H1;replace H:=ZzB H;obtain ⟨t303,A150,H⟩:=H;replace H:(some (x7_1,t303))=some (r1,r2):=H;have A15:=zA.mk A150;clear A150;simp only [Option.some.injEq,Prod.mk.injEq] at H;obtain ⟨rfl,rfl⟩:=H;have p300:0≤(x7_1:Int):=Qa;have q300:x7_1 < (l0.length:Int):=Qa;obtain ⟨ad300,e300,hx300_0⟩:=Kd.at_string HR0.out x7_1 p300 q300;cases e300;replace p300:=eq_true p300;replace q300:=eq_true q300;have p301:0≤(x7_1:Int):=Qa;have q301:x7_1 < (l0.length:Int):=Qa;obtain ⟨ad301,e301,hx301_0⟩:=Kd.at_string HR0.out x7_1 p301 q301;obtain rfl:ad300=ad301:=(by injection e301);replace p301:=eq_true p301;replace q301:=eq_true q301
         go_wp2_with (first|(go_at_call 55;(with_reducible refine (yS.calls (rdOf ByteArray.empty l0 x7_1) true _ A13.out).mono ?_);rintro e w' ⟨rfl,⟨nd,rfl⟩⟩;clear A13)|(go_at_call 55;(with_reducible refine (yS.calls a1 t303 _ A15.out).mono ?_);rintro e w' ⟨rfl,⟨nd,rfl⟩⟩;clear A15))
         go_ret2
         exact ⟨by first|rfl|(simp;done)|(simp [*];done),by repeat (first|exact zv.refl _|apply zv.step)⟩
        ·replace c14:=Bool.eq_false_iff.mpr c14
         subst c14
         have H1:(some (x7_1,false))=some (r1,r2):=by rw [if_neg (show ¬(false=true) by decide)] at H;exact H
         clear H;have H:=H1;clear H1;simp only [Option.some.injEq,Prod.mk.injEq] at H;obtain ⟨rfl,rfl⟩:=H;have p300:0≤(x7_1:Int):=Qa;have q300:x7_1 < (l0.length:Int):=Qa;obtain ⟨ad300,e300,hx300_0⟩:=Kd.at_string HR0.out x7_1 p300 q300;cases e300;replace p300:=eq_true p300;replace q300:=eq_true q300;have p301:0≤(x7_1:Int):=Qa;have q301:x7_1 < (l0.length:Int):=Qa;obtain ⟨ad301,e301,hx301_0⟩:=Kd.at_string HR0.out x7_1 p301 q301;obtain rfl:ad300=ad301:=(by injection e301);replace p301:=eq_true p301;replace q301:=eq_true q301
         go_wp2_with (first|(go_at_call 55;(with_reducible refine (yS.calls (rdOf ByteArray.empty l0 x7_1) false _ A13.out).mono ?_);rintro e w' ⟨rfl,⟨nd,rfl⟩⟩))
         go_ret2
         exact ⟨by first|rfl|(simp;done)|(simp [*];done),by repeat (first|exact zv.refl _|apply zv.step)⟩
      ·rw [if_neg c11] at H
       exact absurd H (by simp)
     ·rw [if_neg c10] at H
      exact absurd H (by simp)
    ·rw [if_neg c9] at H
     have c9b0:=decide_eq_false c9;clear c9;simp only [Option.some.injEq,Prod.mk.injEq] at H;obtain ⟨rfl,rfl⟩:=H
     go_wp2
     go_ret2
     exact ⟨by first|rfl|(simp;done)|(simp [*];done),by repeat (first|exact zv.refl _|apply zv.step)⟩
def zd.l0:Nat→List ByteArray→ByteArray→Int→Int→Option (Int)
 | 0,_,_,_,_=>none
 | k + 1,x0,x1,x7,x8=>if x8 < x7 then (if 0≤x8 then (if x8 < (x0.length:Int) then (if x1.toList=(rdOf ByteArray.empty x0 x8).toList then (some x8) else (zd.l0 k x0 x1 x7 (wrap64 (x8 + 1)))) else (none)) else (none)) else (some (-1))
def zd.f (k:Nat) (l0:List ByteArray) (a1:ByteArray):Option (Int):=zd.l0 k l0 a1 (l0.length:Int) 0
theorem zd.mono_l:∀k,(∀y0 y1 y2 y3,LeO (zd.l0 k y0 y1 y2 y3) (zd.l0 (k + 1) y0 y1 y2 y3))
 | 0=>fun _ _ _ _ r h=>by simp [zd.l0] at h
 | k + 1=>by
  have ih0:=zd.mono_l k
  ·intro y0 y1 y2 y3
   unfold zd.l0
   repeat' first
   | with_reducible first|exact ih0 _ _ _ _|exact LeO.refl _|exact LeO.none _|refine LeO.ite ?_ ?_|refine LeO.bind ?_ (fun _=> ?_)
theorem zd.mono:∀a0 a1 k,LeO (zd.f k a0 a1) (zd.f (k + 1) a0 a1):=by
 intro a0 a1 k;have ih0:=zd.mono_l k
 unfold zd.f
 repeat' first
   | with_reducible first|exact ih0 _ _ _ _|exact LeO.refl _|exact LeO.none _|refine LeO.ite ?_ ?_|refine LeO.bind ?_ (fun _=> ?_)
theorem zd.calls (k:Nat) (A0:Option Addr) (c0:Nat) (l0:List ByteArray) (a1:ByteArray) (r:Int) (w:World) (hr0:Kd.C Kd.string w A0 l0.length l0) (hc0:l0.length≤c0) (h:zd.f k l0 a1=some r) :
  Calls Tryz.prog 56 #[.slice A0 l0.length c0, .string a1] w fun e w'=>e= .returned (.int .i64 r)∧zv w w':=by
 have HR0:=zA.mk hr0;have HC0:=zA.mk hc0;clear hr0 hc0;have H:(zd.l0 k l0 a1 (l0.length:Int) 0)=some r:=h;clear h;have H':=zA.mk H;clear H
 go_enter Tryz.func56,Tryz.ntmps56
 go_wp2
 go_loopg [8] k (fun kq v8 w'=>∃(x8_1:Int),v8= .int .i64 x8_1∧zA (zd.l0 kq l0 a1 (l0.length:Int) x8_1=some r)∧zA (kq≤k)∧zv w w')
 case atStart=>exact ⟨(0),Q6,H',⟨Nat.le_refl _⟩,by repeat (first|exact zv.refl _|apply zv.step)⟩
 case round=>
  clear H';(try clear p2);obtain ⟨x8_1,rfl,HA,HK1,⟨m1,rfl⟩⟩:=hrel;cases gk with
  | zero=>exact absurd HA.out (by simp [zd.l0])
  | succ k1=>
   have H:=HA.out;clear HA;simp only [zd.l0] at H
   by_cases c3:x8_1 < (l0.length:Int)
   ·rw [if_pos c3] at H
    have c3b0:=decide_eq_true c3;clear c3
    by_cases c4:0≤x8_1
    ·rw [if_pos c4] at H
     have c4b0:=decide_eq_true c4;clear c4
     by_cases c5:x8_1 < (l0.length:Int)
     ·rw [if_pos c5] at H
      have c5b0:=decide_eq_true c5;clear c5
      by_cases c6:a1.toList=(rdOf ByteArray.empty l0 x8_1).toList
      ·rw [if_pos c6] at H
       have c6b0:(a1.toList == (rdOf ByteArray.empty l0 x8_1).toList)=true:=beq_iff_eq.mpr c6;have c6b1:(a1.toList != (rdOf ByteArray.empty l0 x8_1).toList)=false:=bne_eq_false_iff_eq.mpr c6;clear c6;obtain rfl:=Option.some.inj H;have p304:0≤(x8_1:Int):=Qa;have q304:x8_1 < (l0.length:Int):=Qa;obtain ⟨ad304,e304,hx304_0⟩:=Kd.at_string HR0.out x8_1 p304 q304;cases e304;replace p304:=eq_true p304;replace q304:=eq_true q304
       go_wp2
       go_ret
       exact ⟨by first|rfl|(simp;done)|(simp [*];done),by repeat (first|exact zv.refl _|apply zv.step)⟩
      ·rw [if_neg c6] at H
       have c6b0:(a1.toList == (rdOf ByteArray.empty l0 x8_1).toList)=false:=beq_eq_false_iff_ne.mpr c6;have c6b1:(a1.toList != (rdOf ByteArray.empty l0 x8_1).toList)=true:=bne_iff_ne.mpr c6;have H':=zA.mk H;clear H;have p304:0≤(x8_1:Int):=Qa;have q304:x8_1 < (l0.length:Int):=Qa;obtain ⟨ad304,e304,hx304_0⟩:=Kd.at_string HR0.out x8_1 p304 q304;cases e304;replace p304:=eq_true p304;replace q304:=eq_true q304
       go_wp2
       go_roundg k1
       case measure=>have:=HK1.out;omega
       case rel=>exact ⟨(wrap64 (x8_1 + 1)),Q6,H',⟨by have:=HK1.out;omega⟩,by repeat (first|exact zv.refl _|apply zv.step)⟩
     ·rw [if_neg c5] at H
      exact absurd H (by simp)
    ·rw [if_neg c4] at H
     exact absurd H (by simp)
   ·rw [if_neg c3] at H
    have c3b0:=decide_eq_false c3;clear c3;obtain rfl:=Option.some.inj H
    go_wp2
    go_ret
    exact ⟨by first|rfl|(simp;done)|(simp [*];done),by repeat (first|exact zv.refl _|apply zv.step)⟩
def yC.f (k:Nat) (l0:List ByteArray) (a1:ByteArray):Option (Bool):=(zd.f k l0 a1).bind fun t305=>(some (decide (t305≥0)))
theorem yC.mono:∀a0 a1 k,LeO (yC.f k a0 a1) (yC.f (k + 1) a0 a1):=by
 intro a0 a1 k
 unfold yC.f
 repeat' first
   | with_reducible first|exact zd.mono _ _ _|exact LeO.refl _|exact LeO.none _|refine LeO.ite ?_ ?_|refine LeO.bind ?_ (fun _=> ?_)
theorem yC.calls (k:Nat) (A0:Option Addr) (c0:Nat) (l0:List ByteArray) (a1:ByteArray) (r:Bool) (w:World) (hr0:Kd.C Kd.string w A0 l0.length l0) (hc0:l0.length≤c0) (h:yC.f k l0 a1=some r) :
  Calls Tryz.prog 38 #[.slice A0 l0.length c0, .string a1] w fun e w'=>e= .returned (.bool r)∧zv w w':=by
 have HR0:=zA.mk hr0;have HC0:=zA.mk hc0;clear hr0 hc0;have H:((zd.f k l0 a1).bind fun t305=>(some (decide (t305≥0))))=some r:=h;clear h;replace H:=ZzB H;obtain ⟨t305,A30,H⟩:=H;replace H:(some (decide (t305≥0)))=some r:=H;have A3:=zA.mk A30;clear A30;obtain rfl:=Option.some.inj H
 go_enter Tryz.func38,Tryz.ntmps38
 go_wp2_with (first|((with_reducible refine zm (f:=56) rfl ?_);refine yJ (some 7) rfl rfl Tryz.func56 (by kernel_rfl) rfl #[.slice A0 l0.length c0, .string a1] rfl QZ ?_;(with_reducible refine (zd.calls k _ _ l0 a1 t305 _ ?side1 ?side2 A3.out).mono ?_);(case side1=>exact Qo HR0.out);(case side2=>exact HC0.out);rintro e w' ⟨rfl,⟨nd,rfl⟩⟩;refine ⟨_,rfl,?_⟩))
 go_ret
 exact ⟨by first|rfl|(simp;done)|(simp [*];done),by repeat (first|exact zv.refl _|apply zv.step)⟩
def ZI.f (k:Nat) (l0:List ByteArray) (a1:ByteArray):Option (Bool):=(yU.f k l0).bind fun t306=>(if t306=true then ((zJ.f k l0 a1).bind fun bt307=>(some bt307.2)) else ((yC.f k l0 a1).bind fun t309=>(some t309)))
theorem ZI.mono:∀a0 a1 k,LeO (ZI.f k a0 a1) (ZI.f (k + 1) a0 a1):=by
 intro a0 a1 k
 unfold ZI.f
 repeat' first
   | with_reducible first|exact yU.mono _ _|exact zJ.mono _ _ _|exact yC.mono _ _ _|exact LeO.refl _|exact LeO.none _|refine LeO.ite ?_ ?_|refine LeO.bind ?_ (fun _=> ?_)
theorem ZI.calls (k:Nat) (A0:Option Addr) (c0:Nat) (l0:List ByteArray) (a1:ByteArray) (r:Bool) (w:World) (hr0:Kd.C Kd.string w A0 l0.length l0) (hc0:l0.length≤c0) (h:ZI.f k l0 a1=some r) :
  Calls Tryz.prog 18 #[.slice A0 l0.length c0, .string a1] w fun e w'=>e= .returned (.bool r)∧zv w w':=by
 have HR0:=zA.mk hr0;have HC0:=zA.mk hc0;clear hr0 hc0;have H:((yU.f k l0).bind fun t306=>(if t306=true then ((zJ.f k l0 a1).bind fun bt307=>(some bt307.2)) else ((yC.f k l0 a1).bind fun t309=>(some t309))))=some r:=h;clear h;replace H:=ZzB H;obtain ⟨t306,A30,H⟩:=H;replace H:(if t306=true then ((zJ.f k l0 a1).bind fun bt307=>(some bt307.2)) else ((yC.f k l0 a1).bind fun t309=>(some t309)))=some r:=H;have A3:=zA.mk A30;clear A30
 by_cases c4:t306=true
 ·subst c4
  have H1:((zJ.f k l0 a1).bind fun bt307=>(some bt307.2))=some r:=by rw [if_pos rfl] at H;exact H
  clear H;have H:=H1;clear H1;replace H:=ZzB H;obtain ⟨⟨t307,t308⟩,A50,H⟩:=H;replace H:(some t308)=some r:=H;have A5:=zA.mk A50;clear A50;obtain rfl:=Option.some.inj H
  go_enter Tryz.func18,Tryz.ntmps18
  go_wp2_with (first|((with_reducible refine zm (f:=36) rfl ?_);refine yJ (some 8) rfl rfl Tryz.func36 (by kernel_rfl) rfl #[.slice A0 l0.length c0] rfl QZ ?_;(with_reducible refine (yU.calls k _ _ l0 true _ ?side1 ?side2 A3.out).mono ?_);(case side1=>exact Qo HR0.out);(case side2=>exact HC0.out);rintro e w' ⟨rfl,⟨nd,rfl⟩⟩;refine ⟨_,rfl,?_⟩)|((with_reducible refine zm (f:=37) rfl ?_);refine yJ (some 12) rfl rfl Tryz.func37 (by kernel_rfl) rfl #[.slice A0 l0.length c0, .string a1] rfl QZ ?_;(with_reducible refine (zJ.calls k _ _ l0 a1 t307 t308 _ ?side1 ?side2 A5.out).mono ?_);(case side1=>exact Qo HR0.out);(case side2=>exact HC0.out);rintro e w' ⟨rfl,⟨nd,rfl⟩⟩;refine ⟨_,rfl,?_⟩))
  go_ret
  exact ⟨by first|rfl|(simp;done)|(simp [*];done),by repeat (first|exact zv.refl _|apply zv.step)⟩
 ·replace c4:=Bool.eq_false_iff.mpr c4
  subst c4
  have H1:((yC.f k l0 a1).bind fun t309=>(some t309))=some r:=by rw [if_neg (show ¬(false=true) by decide)] at H;exact H
  clear H;have H:=H1;clear H1;replace H:=ZzB H;obtain ⟨t309,A60,H⟩:=H;replace H:(some t309)=some r:=H;have A6:=zA.mk A60;clear A60;obtain rfl:=Option.some.inj H
  go_enter Tryz.func18,Tryz.ntmps18
  go_wp2_with (first|((with_reducible refine zm (f:=36) rfl ?_);refine yJ (some 8) rfl rfl Tryz.func36 (by kernel_rfl) rfl #[.slice A0 l0.length c0] rfl QZ ?_;(with_reducible refine (yU.calls k _ _ l0 false _ ?side1 ?side2 A3.out).mono ?_);(case side1=>exact Qo HR0.out);(case side2=>exact HC0.out);rintro e w' ⟨rfl,⟨nd,rfl⟩⟩;refine ⟨_,rfl,?_⟩)|((with_reducible refine zm (f:=38) rfl ?_);refine yJ (some 18) rfl rfl Tryz.func38 (by kernel_rfl) rfl #[.slice A0 l0.length c0, .string a1] rfl QZ ?_;(with_reducible refine (yC.calls k _ _ l0 a1 t309 _ ?side1 ?side2 A6.out).mono ?_);(case side1=>exact Qo HR0.out);(case side2=>exact HC0.out);rintro e w' ⟨rfl,⟨nd,rfl⟩⟩;refine ⟨_,rfl,?_⟩))
  go_ret
  exact ⟨by first|rfl|(simp;done)|(simp [*];done),by repeat (first|exact zv.refl _|apply zv.step)⟩
def yL.l0:Nat→Int→List Int→List (S42)→Int→Int→Option (List Int)
 | 0,_,_,_,_,_=>none
 | k + 1,x1,x5,x12,x13,x14=>if x14 < x13 then (if 0≤x14 then (if x14 < (x12.length:Int) then (if ((zF x12 x14).f0)=x1 then (if x5.length < 17592186044416 then (yL.l0 k x1 (x5 ++ [x14]) x12 x13 (wrap64 (x14 + 1))) else (none)) else (yL.l0 k x1 x5 x12 x13 (wrap64 (x14 + 1)))) else (none)) else (none)) else (some x5)
def yL.f (k:Nat) (a0_0:Int) (a0_1:Int) (l0_2:List Int) (va:List (S42)) (a1:Int):Option (List Int):=(yH.f k a0_0 a0_1 l0_2 va).bind fun t311=>(if t311=0 then (yL.l0 k a1 ([]:List Int) va (va.length:Int) 0) else (some ([]:List Int)))
theorem yL.mono_l:∀k,(∀y0 y1 y2 y3 y4,LeO (yL.l0 k y0 y1 y2 y3 y4) (yL.l0 (k + 1) y0 y1 y2 y3 y4))
 | 0=>fun _ _ _ _ _ r h=>by simp [yL.l0] at h
 | k + 1=>by
  have ih0:=yL.mono_l k
  ·intro y0 y1 y2 y3 y4
   unfold yL.l0
   repeat' first
   | with_reducible first|exact ih0 _ _ _ _ _|exact yH.mono _ _ _ _ _|exact LeO.refl _|exact LeO.none _|refine LeO.ite ?_ ?_|refine LeO.bind ?_ (fun _=> ?_)
theorem yL.mono:∀a0 a1 a2 a3 a4 k,LeO (yL.f k a0 a1 a2 a3 a4) (yL.f (k + 1) a0 a1 a2 a3 a4):=by
 intro a0 a1 a2 a3 a4 k;have ih0:=yL.mono_l k
 unfold yL.f
 repeat' first
   | with_reducible first|exact ih0 _ _ _ _ _|exact yH.mono _ _ _ _ _|exact LeO.refl _|exact LeO.none _|refine LeO.ite ?_ ?_|refine LeO.bind ?_ (fun _=> ?_)
theorem yL.calls (k:Nat) (a0_0:Int) (a0_1:Int) (vn:Option Addr) (vo:Nat) (l0_2:List Int) (vA:Option Addr) (vq:Nat) (va:List (S42)) (a1:Int) (r:List Int) (w:World) (hr0_2:Kd.C (Kd.int .i64) w vn l0_2.length l0_2) (hc0_2:l0_2.length≤vo) (hr0_3:Kd.C k42 w vA va.length va) (hc0_3:va.length≤vq) (h:yL.f k a0_0 a0_1 l0_2 va a1=some r) :
  Calls Tryz.prog 35 #[.agg #[.int .i64 a0_0, .int .i64 a0_1, .slice vn l0_2.length vo, .slice vA va.length vq], .int .i64 a1] w fun e w'=>∃v0_:Value,e= .returned (v0_)∧Kd.R (Kd.int .i64) 3 w' w.heap.size (fun _=>True) v0_ r∧Below w.heap.size w w':=by
 have hu25:=Tryz.underlying25;have hu42:=Tryz.underlying42;have wh:=zA.mk hr0_2;have wi:=zA.mk hc0_2;clear hr0_2 hc0_2;have vQ:=zA.mk hr0_3;have wj:=zA.mk hc0_3;clear hr0_3 hc0_3;have HB:=zA.mk (Below.refl w.heap.size w);have H:((yH.f k a0_0 a0_1 l0_2 va).bind fun t311=>(if t311=0 then (yL.l0 k a1 ([]:List Int) va (va.length:Int) 0) else (some ([]:List Int))))=some r:=h;clear h;replace H:=ZzB H;obtain ⟨t311,A30,H⟩:=H;replace H:(if t311=0 then (yL.l0 k a1 ([]:List Int) va (va.length:Int) 0) else (some ([]:List Int)))=some r:=H;have A3:=zA.mk A30;clear A30
 by_cases c4:t311=0
 ·rw [if_pos c4] at H
  have c4b0:(t311 == 0)=true:=beq_iff_eq.mpr c4;have c4b1:(t311 != 0)=false:=bne_eq_false_iff_eq.mpr c4;clear c4;have H':=zA.mk H;clear H
  go_enter Tryz.func35,Tryz.ntmps35
  go_wp2_with (first|((with_reducible refine zx (N:=2) rfl ?_);refine yF (by rfl) (N:=2) (by rfl) (cs:= #[.int .i64 a0_0, .int .i64 a0_1, .slice vn l0_2.length vo, .slice vA va.length vq]) (t:=25) Qm ?_;intro gb310 hg w5 hbox hb;have n0_:=zA.mk (zD Qc hb);have n1_:=zA.mk (hbox);have n2_:=zA.mk ((by rw [hg];exact (zE Qc):w.heap.size≤gb310));have n3_:=zA.mk ((by rw [hg];exact (zE Qc):w.heap.size≤gb310));clear HB;have HB:=n0_;have vw:=n1_;have GW310:=n2_;have GE310:=n3_;clear n0_ n1_ n2_ n3_ hb hbox hg;have hcz6_0:=Qn vw 0 rfl;have hcz6_1:=Qn vw 1 rfl;have hcz6_2:=Qn vw 2 rfl;have hcz6_3:=Qn vw 3 rfl;have hfz6_0:=zB vw.out 0;have hfz6_1:=zB vw.out 1;have hfz6_2:=zB vw.out 2;have hfz6_3:=zB vw.out 3)|((with_reducible refine zm (f:=53) rfl ?_);refine yJ (some 9) rfl rfl Tryz.func53 (by kernel_rfl) rfl #[.agg #[.int .i64 a0_0, .int .i64 a0_1, .slice vn l0_2.length vo, .slice vA va.length vq]] rfl QZ ?_;(with_reducible refine (yH.calls k a0_0 a0_1 _ _ l0_2 _ _ va t311 _ ?side1 ?side2 ?side3 ?side4 A3.out).mono ?_);(case side1=>exact Qo (Kd.C_below wh.out HB.out));(case side2=>exact wi.out);(case side3=>exact Qo (Kd.C_below vQ.out HB.out));(case side4=>exact wj.out);rintro e w7 ⟨rfl,hb⟩;refine ⟨_,rfl,?_⟩;have n0_:=zA.mk (zY (g:=gb310) (Qi vw) hb);have n1_:=zA.mk (zD (Qd GE310) hb);clear vw HB;have vw:=n0_;have HB:=n1_;clear n0_ n1_;(try clear hb);(try clear hb2);(try clear hk);(try clear hi);have hcz8_0:=Qn vw 0 rfl;have hcz8_1:=Qn vw 1 rfl;have hcz8_2:=Qn vw 2 rfl;have hcz8_3:=Qn vw 3 rfl;have hfz8_0:=zB vw.out 0;have hfz8_1:=zB vw.out 1;have hfz8_2:=zB vw.out 2;have hfz8_3:=zB vw.out 3))
  go_loopg [5,14] k (fun kq v5 v14 w'=>∃(x5_1:List Int) (x14_1:Int),v14= .int .i64 x14_1∧zA (yL.l0 kq a1 x5_1 va (va.length:Int) x14_1=some r)∧zA (kq≤k)∧zA (Kd.R (Kd.int .i64) 3 w' w.heap.size (fun _=>True) v5 x5_1)∧zA (w'.heap[gb310]? =some (.cells #[.int .i64 a0_0, .int .i64 a0_1,(.slice vn l0_2.length vo),(.slice vA va.length vq)] 25 (0,0)))∧zA (Below w.heap.size w w'))
  case atStart=>exact ⟨(([]:List Int)),(0),Q6,H',⟨Nat.le_refl _⟩,⟨by first|exact Kd.R_nil _ _ _ _ _|exact Kd.N_nil _ _ _ _ _|exact Kd.V_nil _ _ _ _ _|exact Kd.Q_nil _ _ _ _ _|exact Kd.S_nil _ _ _ _ _⟩,⟨Qi vw⟩,⟨by repeat (first|(with_reducible first|exact HB.out|apply zG|apply zC|apply zI|refine zK ?_ GE310.out)|exact HB.out)⟩⟩
  case round=>
   clear H';(try clear p2);(try clear c3);(try clear c4);(try clear c4b0);(try clear c4b1);(try clear c5);(try clear hcz6_0);(try clear hcz6_1);(try clear hcz6_2);(try clear hcz6_3);(try clear hcz8_0);(try clear hcz8_1);(try clear hcz8_2);(try clear hcz8_3);(try clear hfz6_0);(try clear hfz6_1);(try clear hfz6_2);(try clear hfz6_3);(try clear hfz8_0);(try clear hfz8_1);(try clear hfz8_2);(try clear hfz8_3);obtain ⟨x5_1,x14_1,rfl,HA,HK1,HO_5,vw,HB⟩:=hrel;cases gk with
   | zero=>exact absurd HA.out (by simp [yL.l0])
   | succ k1=>
    have H:=HA.out;clear HA;simp only [yL.l0] at H
    by_cases c9:x14_1 < (va.length:Int)
    ·rw [if_pos c9] at H
     have c9b0:=decide_eq_true c9;clear c9
     by_cases c10:0≤x14_1
     ·rw [if_pos c10] at H
      have c10b0:=decide_eq_true c10;clear c10
      by_cases c11:x14_1 < (va.length:Int)
      ·rw [if_pos c11] at H
       have c11b0:=decide_eq_true c11;clear c11
       by_cases c12:((zF va x14_1).f0)=a1
       ·rw [if_pos c12] at H
        have c12b0:(((zF va x14_1).f0) == a1)=true:=beq_iff_eq.mpr c12;have c12b1:(((zF va x14_1).f0) != a1)=false:=bne_eq_false_iff_eq.mpr c12;clear c12
        by_cases c13:x5_1.length < 17592186044416
        ·rw [if_pos c13] at H
         have LMc13:=zA.mk c13;clear c13;obtain ⟨y314,hy314⟩:∃y_:List Int,y_=(x5_1 ++ [x14_1]):=⟨_,rfl⟩;replace H:(yL.l0 k1 a1 y314 va (va.length:Int) (wrap64 (x14_1 + 1)))=some r:=Qb hy314 H;have Ny314:=zA.mk hy314;clear hy314;have H':=zA.mk H;clear H;have p312:0≤(x14_1:Int):=Qa;have q312:x14_1 < (va.length:Int):=Qa;obtain ⟨ad312,A312_1,c312_1,e312,hx312_0,hx312_1,hl312_1,hi312_1⟩:=ZX vQ.out x14_1 p312 q312;cases e312;replace hx312_0:=Qp HB hx312_0;replace hx312_1:=Qp HB hx312_1;have HR312_1:=zA.mk hi312_1;have HC312_1:=zA.mk hl312_1;clear hi312_1 hl312_1;replace p312:=eq_true p312;replace q312:=eq_true q312
         go_wp2_with (first|((with_reducible refine zx (N:=7) rfl ?_);refine yF (by rfl) (N:=7) (by rfl) (cs:= #[.int .i64 0, .slice none 0 0]) (t:=42) Qm ?_;intro gb313 hg w14 hbox hb;have n0_:=zA.mk (Kd.R_below (Qh HO_5) hb);have n1_:=zA.mk (zY (g:=gb310) (Qi vw) hb);have n2_:=zA.mk (zD (Qd GE310) hb);have n3_:=zA.mk (hbox);have n4_:=zA.mk ((by rw [hg];exact (zE (Qd GE310)):w.heap.size≤gb313));have n5_:=zA.mk ((by rw [hg];exact (zE (Qd GE310)):w.heap.size≤gb313));have n6_:=zA.mk ((by rw [hg];exact Nat.ne_of_lt (yA (g:=gb310) (Qi vw)):gb310≠gb313));have n7_:=zA.mk ((by rw [hg];exact Nat.ne_of_gt (yA (g:=gb310) (Qi vw)):gb313≠gb310));clear HO_5 vw HB;have HO_5:=n0_;have vw:=n1_;have HB:=n2_;have BK313:=n3_;have GW313:=n4_;have GE313:=n5_;have NB310_313:=n6_;have NB313_310:=n7_;clear n0_ n1_ n2_ n3_ n4_ n5_ n6_ n7_ hb hbox hg;have hnb15:=NB313_310.out;have hnc15:=NB310_313.out;have hcz16_0:=Qn BK313 0 rfl;have hcz16_1:=Qn BK313 1 rfl;have hfz16_0:=zB BK313.out 0;have hfz16_1:=zB BK313.out 1)|((with_reducible refine ZZ (b:= .append) (xs:= #[.tmp 23, .tmp 25]) rfl ?_);at_builtin;refine Kd.R_append (Kd.int .i64) (w0:=w) w.heap.size rfl (.tmp 23) (.tmp 25) 22 3 (.int .i64 0) 8 rfl Tryz.underlying22 info3 rfl (by decide) (by omega) u5 x5_1 x14_1 [.int .i64 x14_1] (fun _=>True) (fun _=>False) rfl Qm ?aP (fun _ hk=>hk.elim) ?aF ?aO ?aB ?aS ?aL ?_;(case aP=>exact rfl);(case aB=>exact (Qe GE310 GE313));(case aF=>exact (fun _ _=>trivial));(case aO=>exact (by (with_reducible repeat (first|apply Kd.R_alloc|apply Kd.R_drewN|apply Kd.R_drew));exact Kd.R_mono (Kd.R_far (p:=⟨gb313,1,none⟩) (Kd.R_far (p:=⟨gb313,0,none⟩) (Kd.R_types HO_5.out BK313.out (by decide)) (fun _ hk=>hk.2) (.int .i64 ((zF va x14_1).f0))) (fun _ hk=>hk.2) (.slice A312_1 ((zF va x14_1).f1).length c312_1)) (fun _ hk=>trivial)));(case aS=>exact (zE (Qe GE310 GE313)));(case aL=>have:=LMc13.out;omega);intro v315 w17 ho hb hg hat;rw [←Ny314.out] at ho;have n0_:=zA.mk (yq (g:=gb310) (o:= .cells #[.int .i64 a0_0, .int .i64 a0_1, .slice vn l0_2.length vo, .slice (some ad312) va.length vq] 25 (0,0)) (by (with_reducible repeat (first|refine zM ?_ _|refine zN ?_|refine zL ?_ _));refine yE ?_ NB310_313.out _;(with_reducible repeat (first|refine zM ?_ _|refine zN ?_|refine zL ?_ _));refine yE ?_ NB310_313.out _;(with_reducible repeat (first|refine zM ?_ _|refine zN ?_|refine zL ?_ _));exact vw.out) hg (Kd.R_ne HO_5.out vw.out (by decide)));have n2_:=zA.mk (hb);have n3_:=zA.mk (ho);clear vw HB HO_5;have vw:=n0_;have HB:=n2_;have HO316:=n3_;clear n0_ n2_ n3_ ho hb hg hat))
         go_roundg k1
         case measure=>have:=HK1.out;omega
         case rel=>exact ⟨(y314),(wrap64 (x14_1 + 1)),Q6,H',⟨by have:=HK1.out;omega⟩,⟨Qh HO316⟩,⟨Qi vw⟩,⟨by repeat (first|(with_reducible first|exact HB.out|apply zG|apply zC|apply zI|refine zK ?_ GE310.out|refine zK ?_ GE313.out)|exact HB.out)⟩⟩
        ·rw [if_neg c13] at H
         exact absurd H (by simp)
       ·rw [if_neg c12] at H
        have c12b0:(((zF va x14_1).f0) == a1)=false:=beq_eq_false_iff_ne.mpr c12;have c12b1:(((zF va x14_1).f0) != a1)=true:=bne_iff_ne.mpr c12;have H':=zA.mk H;clear H;have p312:0≤(x14_1:Int):=Qa;have q312:x14_1 < (va.length:Int):=Qa;obtain ⟨ad312,A312_1,c312_1,e312,hx312_0,hx312_1,hl312_1,hi312_1⟩:=ZX vQ.out x14_1 p312 q312;cases e312;replace hx312_0:=Qp HB hx312_0;replace hx312_1:=Qp HB hx312_1;have HR312_1:=zA.mk hi312_1;have HC312_1:=zA.mk hl312_1;clear hi312_1 hl312_1;replace p312:=eq_true p312;replace q312:=eq_true q312
        go_wp2_with (first|((with_reducible refine zx (N:=7) rfl ?_);refine yF (by rfl) (N:=7) (by rfl) (cs:= #[.int .i64 0, .slice none 0 0]) (t:=42) Qm ?_;intro gb313 hg w18 hbox hb;have n0_:=zA.mk (Kd.R_below (Qh HO_5) hb);have n1_:=zA.mk (zY (g:=gb310) (Qi vw) hb);have n2_:=zA.mk (zD (Qd GE310) hb);have n3_:=zA.mk (hbox);have n4_:=zA.mk ((by rw [hg];exact (zE (Qd GE310)):w.heap.size≤gb313));have n5_:=zA.mk ((by rw [hg];exact (zE (Qd GE310)):w.heap.size≤gb313));have n6_:=zA.mk ((by rw [hg];exact Nat.ne_of_lt (yA (g:=gb310) (Qi vw)):gb310≠gb313));have n7_:=zA.mk ((by rw [hg];exact Nat.ne_of_gt (yA (g:=gb310) (Qi vw)):gb313≠gb310));clear HO_5 vw HB;have HO_5:=n0_;have vw:=n1_;have HB:=n2_;have BK313:=n3_;have GW313:=n4_;have GE313:=n5_;have NB310_313:=n6_;have NB313_310:=n7_;clear n0_ n1_ n2_ n3_ n4_ n5_ n6_ n7_ hb hbox hg;have hnb19:=NB313_310.out;have hnc19:=NB310_313.out;have hcz20_0:=Qn BK313 0 rfl;have hcz20_1:=Qn BK313 1 rfl;have hfz20_0:=zB BK313.out 0;have hfz20_1:=zB BK313.out 1))
        go_roundg k1
        case measure=>have:=HK1.out;omega
        case rel=>exact ⟨(x5_1),(wrap64 (x14_1 + 1)),Q6,H',⟨by have:=HK1.out;omega⟩,⟨by (with_reducible repeat (first|apply Kd.R_alloc|apply Kd.R_drewN|apply Kd.R_drew));exact Kd.R_mono (Kd.R_far (p:=⟨gb313,1,none⟩) (Kd.R_far (p:=⟨gb313,0,none⟩) (Kd.R_types HO_5.out BK313.out (by decide)) (fun _ hk=>hk.2) (.int .i64 ((zF va x14_1).f0))) (fun _ hk=>hk.2) (.slice A312_1 ((zF va x14_1).f1).length c312_1)) (fun _ hk=>trivial)⟩,⟨by (with_reducible repeat (first|refine zM ?_ _|refine zN ?_|refine zL ?_ _));refine yE ?_ NB310_313.out _;(with_reducible repeat (first|refine zM ?_ _|refine zN ?_|refine zL ?_ _));refine yE ?_ NB310_313.out _;(with_reducible repeat (first|refine zM ?_ _|refine zN ?_|refine zL ?_ _));exact vw.out⟩,⟨by repeat (first|(with_reducible first|exact HB.out|apply zG|apply zC|apply zI|refine zK ?_ GE310.out|refine zK ?_ GE313.out)|exact HB.out)⟩⟩
      ·rw [if_neg c11] at H
       exact absurd H (by simp)
     ·rw [if_neg c10] at H
      exact absurd H (by simp)
    ·rw [if_neg c9] at H
     have c9b0:=decide_eq_false c9;clear c9;obtain rfl:=Option.some.inj H
     go_wp2
     go_ret
     exact ⟨_,by first|rfl|(simp [zb,zc] <;> rfl)|(simp [*,zb,zc] <;> rfl),by (with_reducible repeat (first|apply Kd.R_alloc|apply Kd.R_drewN|apply Kd.R_drew));exact HO_5.out,by repeat (first|(with_reducible first|exact HB.out|apply zG|apply zC|apply zI|refine zK ?_ GE310.out)|exact HB.out)⟩
 ·rw [if_neg c4] at H
  have c4b0:(t311 == 0)=false:=beq_eq_false_iff_ne.mpr c4;have c4b1:(t311 != 0)=true:=bne_iff_ne.mpr c4;obtain rfl:=Option.some.inj H
  go_enter Tryz.func35,Tryz.ntmps35
  go_wp2_with (first|((with_reducible refine zx (N:=2) rfl ?_);refine yF (by rfl) (N:=2) (by rfl) (cs:= #[.int .i64 a0_0, .int .i64 a0_1, .slice vn l0_2.length vo, .slice vA va.length vq]) (t:=25) Qm ?_;intro gb310 hg w21 hbox hb;have n0_:=zA.mk (zD Qc hb);have n1_:=zA.mk (hbox);have n2_:=zA.mk ((by rw [hg];exact (zE Qc):w.heap.size≤gb310));have n3_:=zA.mk ((by rw [hg];exact (zE Qc):w.heap.size≤gb310));clear HB;have HB:=n0_;have vw:=n1_;have GW310:=n2_;have GE310:=n3_;clear n0_ n1_ n2_ n3_ hb hbox hg;have hcz22_0:=Qn vw 0 rfl;have hcz22_1:=Qn vw 1 rfl;have hcz22_2:=Qn vw 2 rfl;have hcz22_3:=Qn vw 3 rfl;have hfz22_0:=zB vw.out 0;have hfz22_1:=zB vw.out 1;have hfz22_2:=zB vw.out 2;have hfz22_3:=zB vw.out 3)|((with_reducible refine zm (f:=53) rfl ?_);refine yJ (some 9) rfl rfl Tryz.func53 (by kernel_rfl) rfl #[.agg #[.int .i64 a0_0, .int .i64 a0_1, .slice vn l0_2.length vo, .slice vA va.length vq]] rfl QZ ?_;(with_reducible refine (yH.calls k a0_0 a0_1 _ _ l0_2 _ _ va t311 _ ?side1 ?side2 ?side3 ?side4 A3.out).mono ?_);(case side1=>exact Qo (Kd.C_below wh.out HB.out));(case side2=>exact wi.out);(case side3=>exact Qo (Kd.C_below vQ.out HB.out));(case side4=>exact wj.out);rintro e w23 ⟨rfl,hb⟩;refine ⟨_,rfl,?_⟩;have n1_:=zA.mk (zD (Qd GE310) hb);clear HB;have HB:=n1_;clear n1_;(try clear hb);(try clear hb2);(try clear hk);(try clear hi)))
  go_ret
  exact ⟨_,by first|rfl|(simp [zb,zc] <;> rfl)|(simp [*,zb,zc] <;> rfl),by first|exact Kd.R_nil _ _ _ _ _|exact Kd.N_nil _ _ _ _ _|exact Kd.V_nil _ _ _ _ _|exact Kd.Q_nil _ _ _ _ _|exact Kd.S_nil _ _ _ _ _,by repeat (first|(with_reducible first|exact HB.out|apply zG|apply zC|apply zI|refine zK ?_ GE310.out)|exact HB.out)⟩
end Go.Proofs.YtpfeebmfihgelaaGreat.HGuessWhole
