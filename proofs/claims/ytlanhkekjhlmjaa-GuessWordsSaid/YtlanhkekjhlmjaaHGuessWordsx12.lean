-- Written by plus.py for this claim.
import Derived.Test.YtlanhkekjhlmjaaSGuessWordsVZip
import Derived.Test.YtlanhkekjhlmjaaHGuessWordsx0
namespace Go.Proofs.Ytlanhkekjhlmjaa.HGuessWords
open Go.RowKit Go.Proofs.YtlanhkekjhlmjaaW.PrintWords Go.Proofs.YtlanhkekjhlmjaaW.PrintLast Go.Proofs.YtlanhkekjhlmjaaW.PrintMore
attribute [local go_sem] yq yr ZM ZN yj yk yt yu   -- for this text's walks alone
set_option linter.unusedVariables false
set_option linter.unusedSimpArgs false
def zb.l0:Nat→List ByteArray→List ByteArray→Int→Option (Bool)
 | 0,_,_,_=>none
 | k + 1,x0,x1,x5=>if x5 < (x0.length:Int) then (if 0≤x5 then (if x5 < (x1.length:Int) then (if (rdOf ByteArray.empty x0 x5).toList=(rdOf ByteArray.empty x1 x5).toList then (zb.l0 k x0 x1 (wrap64 (x5 + 1))) else (some false)) else (none)) else (none)) else (some true)
def zb.f (k:Nat) (l0:List ByteArray) (l1:List ByteArray):Option (Bool):=if (l0.length:Int)=(l1.length:Int) then (zb.l0 k l0 l1 0) else (some false)
theorem zb.mono_l:∀k,(∀y0 y1 y2,LeO (zb.l0 k y0 y1 y2) (zb.l0 (k + 1) y0 y1 y2))
 | 0=>fun _ _ _ r h=>by simp [zb.l0] at h
 | k + 1=>by
  have ih0:=zb.mono_l k
  ·intro y0 y1 y2
   unfold zb.l0
   repeat' first
   | with_reducible first|exact ih0 _ _ _|exact LeO.refl _|exact LeO.none _|refine LeO.ite ?_ ?_|refine LeO.bind ?_ (fun _=> ?_)
   | exact ih0 _ _ _|exact LeO.none _|refine LeO.ite ?_ ?_|refine LeO.bind ?_ (fun _=> ?_)
theorem zb.mono:∀a0 a1 k,LeO (zb.f k a0 a1) (zb.f (k + 1) a0 a1):=by
 intro a0 a1 k;have ih0:=zb.mono_l k
 unfold zb.f
 repeat' first
   | with_reducible first|exact ih0 _ _ _|exact LeO.refl _|exact LeO.none _|refine LeO.ite ?_ ?_|refine LeO.bind ?_ (fun _=> ?_)
   | exact ih0 _ _ _|exact LeO.none _|refine LeO.ite ?_ ?_|refine LeO.bind ?_ (fun _=> ?_)
set_option maxHeartbeats 8000000 in
set_option maxRecDepth 100000 in
theorem zb.calls (k:Nat) (A0:Option Addr) (c0:Nat) (l0:List ByteArray) (A1:Option Addr) (c1:Nat) (l1:List ByteArray) (r:Bool) (w:World) (hr0:Kd.C Kd.string w A0 l0.length l0) (hc0:l0.length≤c0) (hr1:Kd.C Kd.string w A1 l1.length l1) (hc1:l1.length≤c1) (h:zb.f k l0 l1=some r) :
  Calls Try.prog 8 #[.slice A0 l0.length c0, .slice A1 l1.length c1] w fun e w'=>e= .returned (.bool r)∧yL w w':=by
 have HR0:=zA.mk hr0;have HC0:=zA.mk hc0;clear hr0 hc0;have HR1:=zA.mk hr1;have HC1:=zA.mk hc1;clear hr1 hc1;have H:(if (l0.length:Int)=(l1.length:Int) then (zb.l0 k l0 l1 0) else (some false))=some r:=h;clear h
 by_cases c3:(l0.length:Int)=(l1.length:Int)
 ·rw [if_pos c3] at H
  have c3b0:((l0.length:Int) == (l1.length:Int))=true:=beq_iff_eq.mpr c3;have c3b1:((l0.length:Int) != (l1.length:Int))=false:=bne_eq_false_iff_eq.mpr c3
  have c3b2:(l0.length == l1.length)=true:=by first|simpa using c3|(simp at c3⊢;omega)
  clear c3;have H':=zA.mk H;clear H
  go_enter Try.func8,Try.ntmps8
  go_wp2
  repeat (go_quiet (fail);try go_wp2)
  go_loopg [5] k (fun kq v5 w'=>∃(x5_1:Int),v5= .int .i64 x5_1∧zA (zb.l0 kq l0 l1 x5_1=some r)∧zA (kq≤k)∧yL w w')
  case atStart=>exact ⟨(0),Zb,H',⟨Nat.le_refl _⟩,by repeat (first|exact yL.refl _|apply yL.step)⟩
  case round=>
   clear H';(try clear c1);(try clear p2);(try clear c3);(try clear c3b0);(try clear c3b1);(try clear c3b2);obtain ⟨x5_1,rfl,HA,HK1,⟨m1,rfl⟩⟩:=hrel;cases gk with
   | zero=>exact absurd HA.out (by simp [zb.l0])
   | succ k1=>
    have H:=HA.out;clear HA;simp only [zb.l0] at H
    by_cases c4:x5_1 < (l0.length:Int)
    ·rw [if_pos c4] at H
     have c4b0:=decide_eq_true c4;clear c4
     by_cases c5:0≤x5_1
     ·rw [if_pos c5] at H
      have c5b0:=decide_eq_true c5;clear c5
      by_cases c6:x5_1 < (l1.length:Int)
      ·rw [if_pos c6] at H
       have c6b0:=decide_eq_true c6;clear c6
       by_cases c7:(rdOf ByteArray.empty l0 x5_1).toList=(rdOf ByteArray.empty l1 x5_1).toList
       ·rw [if_pos c7] at H
        have c7b0:((rdOf ByteArray.empty l0 x5_1).toList == (rdOf ByteArray.empty l1 x5_1).toList)=true:=beq_iff_eq.mpr c7;have c7b1:((rdOf ByteArray.empty l0 x5_1).toList != (rdOf ByteArray.empty l1 x5_1).toList)=false:=bne_eq_false_iff_eq.mpr c7;clear c7;have H':=zA.mk H;clear H;have p294:0≤(x5_1:Int):=Qa;have q294:x5_1 < (l0.length:Int):=Qa;obtain ⟨ad294,e294,hx294_0⟩:=Kd.at_string HR0.out x5_1 p294 q294;cases e294;replace p294:=eq_true p294;replace q294:=eq_true q294;have p295:0≤(x5_1:Int):=Qa;have q295:x5_1 < (l1.length:Int):=Qa;obtain ⟨ad295,e295,hx295_0⟩:=Kd.at_string HR1.out x5_1 p295 q295;cases e295;replace p295:=eq_true p295;replace q295:=eq_true q295
        go_wp2
        repeat (go_quiet (fail);try go_wp2)
        go_roundg k1
        case measure=>have:=HK1.out;omega
        case rel=>exact ⟨(wrap64 (x5_1 + 1)),Zb,H',⟨by have:=HK1.out;omega⟩,by repeat (first|exact yL.refl _|apply yL.step)⟩
       ·rw [if_neg c7] at H
        have c7b0:((rdOf ByteArray.empty l0 x5_1).toList == (rdOf ByteArray.empty l1 x5_1).toList)=false:=beq_eq_false_iff_ne.mpr c7;have c7b1:((rdOf ByteArray.empty l0 x5_1).toList != (rdOf ByteArray.empty l1 x5_1).toList)=true:=bne_iff_ne.mpr c7;obtain rfl:=Option.some.inj H;have p294:0≤(x5_1:Int):=Qa;have q294:x5_1 < (l0.length:Int):=Qa;obtain ⟨ad294,e294,hx294_0⟩:=Kd.at_string HR0.out x5_1 p294 q294;cases e294;replace p294:=eq_true p294;replace q294:=eq_true q294;have p295:0≤(x5_1:Int):=Qa;have q295:x5_1 < (l1.length:Int):=Qa;obtain ⟨ad295,e295,hx295_0⟩:=Kd.at_string HR1.out x5_1 p295 q295;cases e295;replace p295:=eq_true p295;replace q295:=eq_true q295
        go_wp2
        repeat (go_quiet (fail);try go_wp2)
        go_ret
        exact ⟨by first|rfl|(simp;done)|(simp [*];done),by repeat (first|exact yL.refl _|apply yL.step)⟩
      ·rw [if_neg c6] at H
       exact absurd H (by simp)
     ·rw [if_neg c5] at H
      exact absurd H (by simp)
    ·rw [if_neg c4] at H
     have c4b0:=decide_eq_false c4;clear c4;obtain rfl:=Option.some.inj H
     go_wp2
     repeat (go_quiet (fail);try go_wp2)
     go_ret
     exact ⟨by first|rfl|(simp;done)|(simp [*];done),by repeat (first|exact yL.refl _|apply yL.step)⟩
 ·rw [if_neg c3] at H
  have c3b0:((l0.length:Int) == (l1.length:Int))=false:=beq_eq_false_iff_ne.mpr c3;have c3b1:((l0.length:Int) != (l1.length:Int))=true:=bne_iff_ne.mpr c3
  have c3b2:(l0.length == l1.length)=false:=by first|simpa using c3|(simp at c3⊢;omega)
  obtain rfl:=Option.some.inj H
  go_enter Try.func8,Try.ntmps8
  go_wp2
  repeat (go_quiet (fail);try go_wp2)
  go_ret
  exact ⟨by first|rfl|(simp;done)|(simp [*];done),by repeat (first|exact yL.refl _|apply yL.step)⟩
def yh.l0:Nat→List ByteArray→Int→Option (Bool)
 | 0,_,_=>none
 | k + 1,x0,x3=>if x3 < (x0.length:Int) then (if 0≤(wrap64 (x3 - 1)) then (if (wrap64 (x3 - 1)) < (x0.length:Int) then (if 0≤x3 then (if (Op.bytesLess ((rdOf ByteArray.empty x0 (wrap64 (x3 - 1))).toList) ((rdOf ByteArray.empty x0 x3).toList))=true then (yh.l0 k x0 (wrap64 (x3 + 1))) else (some false)) else (none)) else (none)) else (none)) else (some true)
def yh.f (k:Nat) (l0:List ByteArray):Option (Bool):=yh.l0 k l0 1
theorem yh.mono_l:∀k,(∀y0 y1,LeO (yh.l0 k y0 y1) (yh.l0 (k + 1) y0 y1))
 | 0=>fun _ _ r h=>by simp [yh.l0] at h
 | k + 1=>by
  have ih0:=yh.mono_l k
  ·intro y0 y1
   unfold yh.l0
   repeat' first
   | with_reducible first|exact ih0 _ _|exact LeO.refl _|exact LeO.none _|refine LeO.ite ?_ ?_|refine LeO.bind ?_ (fun _=> ?_)
   | exact ih0 _ _|exact LeO.none _|refine LeO.ite ?_ ?_|refine LeO.bind ?_ (fun _=> ?_)
theorem yh.mono:∀a0 k,LeO (yh.f k a0) (yh.f (k + 1) a0):=by
 intro a0 k;have ih0:=yh.mono_l k
 unfold yh.f
 repeat' first
   | with_reducible first|exact ih0 _ _|exact LeO.refl _|exact LeO.none _|refine LeO.ite ?_ ?_|refine LeO.bind ?_ (fun _=> ?_)
   | exact ih0 _ _|exact LeO.none _|refine LeO.ite ?_ ?_|refine LeO.bind ?_ (fun _=> ?_)
set_option maxHeartbeats 8000000 in
set_option maxRecDepth 100000 in
theorem yh.calls (k:Nat) (A0:Option Addr) (c0:Nat) (l0:List ByteArray) (r:Bool) (w:World) (hr0:Kd.C Kd.string w A0 l0.length l0) (hc0:l0.length≤c0) (h:yh.f k l0=some r) :
  Calls Try.prog 45 #[.slice A0 l0.length c0] w fun e w'=>e= .returned (.bool r)∧yL w w':=by
 have HR0:=zA.mk hr0;have HC0:=zA.mk hc0;clear hr0 hc0;have H:(yh.l0 k l0 1)=some r:=h;clear h;have H':=zA.mk H;clear H
 go_enter Try.func45,Try.ntmps45
 go_wp2
 repeat (go_quiet (fail);try go_wp2)
 go_loopg [3] k (fun kq v3 w'=>∃(x3_1:Int),v3= .int .i64 x3_1∧zA (yh.l0 kq l0 x3_1=some r)∧zA (kq≤k)∧yL w w')
 case atStart=>exact ⟨(1),Zb,H',⟨Nat.le_refl _⟩,by repeat (first|exact yL.refl _|apply yL.step)⟩
 case round=>
  clear H';obtain ⟨x3_1,rfl,HA,HK1,⟨m1,rfl⟩⟩:=hrel;cases gk with
  | zero=>exact absurd HA.out (by simp [yh.l0])
  | succ k1=>
   have H:=HA.out;clear HA;simp only [yh.l0] at H
   by_cases c2:x3_1 < (l0.length:Int)
   ·rw [if_pos c2] at H
    have c2b0:=decide_eq_true c2;clear c2;obtain ⟨ji3,hji3⟩:∃j_:Int,(wrap64 (x3_1 - 1))=j_:=⟨_,rfl⟩
    replace H:(if 0≤(ji3) then (if (ji3) < (l0.length:Int) then (if 0≤x3_1 then (if (Op.bytesLess ((rdOf ByteArray.empty l0 (ji3)).toList) ((rdOf ByteArray.empty l0 x3_1).toList))=true then (yh.l0 k1 l0 (wrap64 (x3_1 + 1))) else (some false)) else (none)) else (none)) else (none))=some r:=by first|(rw [hji3] at H;exact H)|(simp only [hji3] at H⊢;exact H)
    have hji3w:(IntKind.i64.wrap (x3_1 - 1))=ji3:=(zx _).trans hji3
    by_cases c4:0≤(ji3)
    ·rw [if_pos c4] at H
     have c4b0:=decide_eq_true c4;clear c4
     by_cases c5:(ji3) < (l0.length:Int)
     ·rw [if_pos c5] at H
      have c5b0:=decide_eq_true c5;clear c5
      by_cases c6:0≤x3_1
      ·rw [if_pos c6] at H
       have c6b0:=decide_eq_true c6;clear c6
       by_cases c7:(Op.bytesLess ((rdOf ByteArray.empty l0 (ji3)).toList) ((rdOf ByteArray.empty l0 x3_1).toList))=true
       ·rw [if_pos c7] at H
        have c7b0:(Op.bytesLess ((rdOf ByteArray.empty l0 (ji3)).toList) ((rdOf ByteArray.empty l0 x3_1).toList))=true:=c7;clear c7;have H':=zA.mk H;clear H;have p296:0≤((ji3):Int):=Qa;have q296:(ji3) < (l0.length:Int):=Qa;obtain ⟨ad296,e296,hx296_0⟩:=Kd.at_string HR0.out (ji3) p296 q296;cases e296;replace p296:=eq_true p296;replace q296:=eq_true q296;have p297:0≤(x3_1:Int):=Qa;have q297:x3_1 < (l0.length:Int):=Qa;obtain ⟨ad297,e297,hx297_0⟩:=Kd.at_string HR0.out x3_1 p297 q297;obtain rfl:ad296=ad297:=(by injection e297);replace p297:=eq_true p297;replace q297:=eq_true q297
        go_wp2
        repeat (go_quiet (fail);try go_wp2)
        go_roundg k1
        case measure=>have:=HK1.out;omega
        case rel=>exact ⟨(wrap64 (x3_1 + 1)),Zb,H',⟨by have:=HK1.out;omega⟩,by repeat (first|exact yL.refl _|apply yL.step)⟩
       ·rw [if_neg c7] at H
        have c7b0:(Op.bytesLess ((rdOf ByteArray.empty l0 (ji3)).toList) ((rdOf ByteArray.empty l0 x3_1).toList))=false:=by simpa using c7
        clear c7;obtain rfl:=Option.some.inj H;have p296:0≤((ji3):Int):=Qa;have q296:(ji3) < (l0.length:Int):=Qa;obtain ⟨ad296,e296,hx296_0⟩:=Kd.at_string HR0.out (ji3) p296 q296;cases e296;replace p296:=eq_true p296;replace q296:=eq_true q296;have p297:0≤(x3_1:Int):=Qa;have q297:x3_1 < (l0.length:Int):=Qa;obtain ⟨ad297,e297,hx297_0⟩:=Kd.at_string HR0.out x3_1 p297 q297;obtain rfl:ad296=ad297:=(by injection e297);replace p297:=eq_true p297;replace q297:=eq_true q297
        go_wp2
        repeat (go_quiet (fail);try go_wp2)
        go_ret
        exact ⟨by first|rfl|(simp;done)|(simp only [←hji3] <;> (first|rfl|simp))|(simp [*];done),by repeat (first|exact yL.refl _|apply yL.step)⟩
      ·rw [if_neg c6] at H
       exact absurd H (by simp)
     ·rw [if_neg c5] at H
      exact absurd H (by simp)
    ·rw [if_neg c4] at H
     exact absurd H (by simp)
   ·rw [if_neg c2] at H
    have c2b0:=decide_eq_false c2;clear c2;obtain rfl:=Option.some.inj H
    go_wp2
    repeat (go_quiet (fail);try go_wp2)
    go_ret
    exact ⟨by first|rfl|(simp;done)|(simp [*];done),by repeat (first|exact yL.refl _|apply yL.step)⟩
def yZ.f (a0:ByteArray):Option (Bool):=some (a0.toList != a0.toList)
set_option maxHeartbeats 8000000 in
set_option maxRecDepth 100000 in
theorem yZ.calls (a0:ByteArray) (r:Bool) (w:World) (h:yZ.f a0=some r) :
  Calls Try.prog 79 #[.string a0] w fun e w'=>e= .returned (.bool r)∧yL w w':=by
 have H:(some (a0.toList != a0.toList))=some r:=h;clear h;obtain rfl:=Option.some.inj H
 go_enter Try.func79,Try.ntmps79
 go_wp2
 go_ret
 exact ⟨by first|rfl|(simp;done)|(simp [*];done),by repeat (first|exact yL.refl _|apply yL.step)⟩
def ZE.f (a0:ByteArray) (a1:ByteArray):Option (Bool):=(yZ.f a0).bind fun t298=>(if t298=true then ((yZ.f a1).bind fun t299=>(if t299=true then (some (Op.bytesLess a0.toList a1.toList)) else (some true))) else (some (Op.bytesLess a0.toList a1.toList)))
set_option maxHeartbeats 8000000 in
set_option maxRecDepth 100000 in
theorem ZE.calls (a0:ByteArray) (a1:ByteArray) (r:Bool) (w:World) (h:ZE.f a0 a1=some r) :
  Calls Try.prog 62 #[.string a0, .string a1] w fun e w'=>e= .returned (.bool r)∧yL w w':=by
 have H:((yZ.f a0).bind fun t298=>(if t298=true then ((yZ.f a1).bind fun t299=>(if t299=true then (some (Op.bytesLess a0.toList a1.toList)) else (some true))) else (some (Op.bytesLess a0.toList a1.toList))))=some r:=h;clear h;replace H:=ZzB H;obtain ⟨t298,A30,H⟩:=H;replace H:(if t298=true then ((yZ.f a1).bind fun t299=>(if t299=true then (some (Op.bytesLess a0.toList a1.toList)) else (some true))) else (some (Op.bytesLess a0.toList a1.toList)))=some r:=H;have A3:=zA.mk A30;clear A30
 by_cases c4:t298=true
 ·subst c4
  have H1:((yZ.f a1).bind fun t299=>(if t299=true then (some (Op.bytesLess a0.toList a1.toList)) else (some true)))=some r:=by rw [if_pos rfl] at H;exact H
  clear H;have H:=H1;clear H1;replace H:=ZzB H;obtain ⟨t299,A50,H⟩:=H;replace H:(if t299=true then (some (Op.bytesLess a0.toList a1.toList)) else (some true))=some r:=H;have A5:=zA.mk A50;clear A50
  by_cases c6:t299=true
  ·subst c6
   have H1:(some (Op.bytesLess a0.toList a1.toList))=some r:=by rw [if_pos rfl] at H;exact H
   clear H;have H:=H1;clear H1;obtain rfl:=Option.some.inj H
   go_enter Try.func62,Try.ntmps62
   go_wp2_with (first|((with_reducible refine zk (f:=79) rfl ?_);refine yQ (some 6) rfl rfl Try.func79 (by kernel_rfl) rfl #[.string a0] rfl QX ?_;(with_reducible refine (yZ.calls a0 true _ A3.out).mono ?_);rintro e w' ⟨rfl,⟨nd,rfl⟩⟩;refine ⟨_,rfl,?_⟩)|(go_at_call 79;(with_reducible refine (yZ.calls a1 true _ A5.out).mono ?_);rintro e w' ⟨rfl,⟨nd,rfl⟩⟩))
   go_ret
   exact ⟨by first|rfl|(simp;done)|(simp [*];done),by repeat (first|exact yL.refl _|apply yL.step)⟩
  ·replace c6:=Bool.eq_false_iff.mpr c6
   subst c6
   have H1:(some true)=some r:=by rw [if_neg (show ¬(false=true) by decide)] at H;exact H
   clear H;have H:=H1;clear H1;obtain rfl:=Option.some.inj H
   go_enter Try.func62,Try.ntmps62
   go_wp2_with (first|((with_reducible refine zk (f:=79) rfl ?_);refine yQ (some 6) rfl rfl Try.func79 (by kernel_rfl) rfl #[.string a0] rfl QX ?_;(with_reducible refine (yZ.calls a0 true _ A3.out).mono ?_);rintro e w' ⟨rfl,⟨nd,rfl⟩⟩;refine ⟨_,rfl,?_⟩)|(go_at_call 79;(with_reducible refine (yZ.calls a1 false _ A5.out).mono ?_);rintro e w' ⟨rfl,⟨nd,rfl⟩⟩))
   go_ret
   exact ⟨by first|rfl|(simp;done)|(simp [*];done),by repeat (first|exact yL.refl _|apply yL.step)⟩
 ·replace c4:=Bool.eq_false_iff.mpr c4
  subst c4
  have H1:(some (Op.bytesLess a0.toList a1.toList))=some r:=by rw [if_neg (show ¬(false=true) by decide)] at H;exact H
  clear H;have H:=H1;clear H1;obtain rfl:=Option.some.inj H
  go_enter Try.func62,Try.ntmps62
  go_wp2_with (first|((with_reducible refine zk (f:=79) rfl ?_);refine yQ (some 6) rfl rfl Try.func79 (by kernel_rfl) rfl #[.string a0] rfl QX ?_;(with_reducible refine (yZ.calls a0 false _ A3.out).mono ?_);rintro e w' ⟨rfl,⟨nd,rfl⟩⟩;refine ⟨_,rfl,?_⟩))
  go_ret
  exact ⟨by first|rfl|(simp;done)|(simp [*];done),by repeat (first|exact yL.refl _|apply yL.step)⟩
def yc.f (a0:ByteArray):Option (Bool):=some (a0.toList != a0.toList)
set_option maxHeartbeats 8000000 in
set_option maxRecDepth 100000 in
theorem yc.calls (a0:ByteArray) (r:Bool) (w:World) (h:yc.f a0=some r) :
  Calls Try.prog 63 #[.string a0] w fun e w'=>e= .returned (.bool r)∧yL w w':=by
 have H:(some (a0.toList != a0.toList))=some r:=h;clear h;obtain rfl:=Option.some.inj H
 go_enter Try.func63,Try.ntmps63
 go_wp2
 go_ret
 exact ⟨by first|rfl|(simp;done)|(simp [*];done),by repeat (first|exact yL.refl _|apply yL.step)⟩
def zN.l0:Nat→List ByteArray→ByteArray→Int→Int→Int→Option (Int × Bool)
 | 0,_,_,_,_,_=>none
 | k + 1,x0,x1,x6,x7,x8=>if x7 < x8 then (if 0≤(wrap64 ((IntKind.u64.wrap (wrap64 (x7 + x8))) / 2)) then (if (wrap64 ((IntKind.u64.wrap (wrap64 (x7 + x8))) / 2)) < (x0.length:Int) then ((ZE.f (rdOf ByteArray.empty x0 (wrap64 ((IntKind.u64.wrap (wrap64 (x7 + x8))) / 2))) x1).bind fun t301=>(if t301=true then (zN.l0 k x0 x1 x6 (wrap64 ((wrap64 ((IntKind.u64.wrap (wrap64 (x7 + x8))) / 2)) + 1)) x8) else (zN.l0 k x0 x1 x6 x7 (wrap64 ((IntKind.u64.wrap (wrap64 (x7 + x8))) / 2))))) else (none)) else (none)) else (if x7 < x6 then (if 0≤x7 then (if x7 < (x0.length:Int) then (if (rdOf ByteArray.empty x0 x7).toList=x1.toList then (some (x7,true)) else ((yc.f (rdOf ByteArray.empty x0 x7)).bind fun t304=>(if t304=true then ((yc.f x1).bind fun t305=>(some (x7,t305))) else (some (x7,false))))) else (none)) else (none)) else (some (x7,false)))
def zN.f (k:Nat) (l0:List ByteArray) (a1:ByteArray):Option (Int × Bool):=zN.l0 k l0 a1 (l0.length:Int) 0 (l0.length:Int)
theorem zN.mono_l:∀k,(∀y0 y1 y2 y3 y4,LeO (zN.l0 k y0 y1 y2 y3 y4) (zN.l0 (k + 1) y0 y1 y2 y3 y4))
 | 0=>fun _ _ _ _ _ r h=>by simp [zN.l0] at h
 | k + 1=>by
  have ih0:=zN.mono_l k
  ·intro y0 y1 y2 y3 y4
   unfold zN.l0
   repeat' first
   | with_reducible first|exact ih0 _ _ _ _ _|exact LeO.refl _|exact LeO.none _|refine LeO.ite ?_ ?_|refine LeO.bind ?_ (fun _=> ?_)
   | exact ih0 _ _ _ _ _|exact LeO.none _|refine LeO.ite ?_ ?_|refine LeO.bind ?_ (fun _=> ?_)
theorem zN.mono:∀a0 a1 k,LeO (zN.f k a0 a1) (zN.f (k + 1) a0 a1):=by
 intro a0 a1 k;have ih0:=zN.mono_l k
 unfold zN.f
 repeat' first
   | with_reducible first|exact ih0 _ _ _ _ _|exact LeO.refl _|exact LeO.none _|refine LeO.ite ?_ ?_|refine LeO.bind ?_ (fun _=> ?_)
   | exact ih0 _ _ _ _ _|exact LeO.none _|refine LeO.ite ?_ ?_|refine LeO.bind ?_ (fun _=> ?_)
set_option maxHeartbeats 8000000 in
set_option maxRecDepth 100000 in
theorem zN.calls (k:Nat) (A0:Option Addr) (c0:Nat) (l0:List ByteArray) (a1:ByteArray) (r1:Int) (r2:Bool) (w:World) (hr0:Kd.C Kd.string w A0 l0.length l0) (hc0:l0.length≤c0) (h:zN.f k l0 a1=some (r1,r2)) :
  Calls Try.prog 46 #[.slice A0 l0.length c0, .string a1] w fun e w'=>e= .returned (.tuple #[.int .i64 r1, .bool r2])∧yL w w':=by
 have HR0:=zA.mk hr0;have HC0:=zA.mk hc0;clear hr0 hc0;have H:(zN.l0 k l0 a1 (l0.length:Int) 0 (l0.length:Int))=some (r1,r2):=h;clear h;have H':=zA.mk H;clear H
 go_enter Try.func46,Try.ntmps46
 go_wp2
 go_loopg [7,8] k (fun kq v7 v8 w'=>∃(x7_1:Int) (x8_1:Int),v7= .int .i64 x7_1∧v8= .int .i64 x8_1∧zA (zN.l0 kq l0 a1 (l0.length:Int) x7_1 x8_1=some (r1,r2))∧zA (kq≤k)∧yL w w')
 case atStart=>exact ⟨(0),((l0.length:Int)),Zb,Zb,H',⟨Nat.le_refl _⟩,by repeat (first|exact yL.refl _|apply yL.step)⟩
 case round=>
  clear H';(try clear p2);obtain ⟨x7_1,x8_1,rfl,rfl,HA,HK1,⟨m1,rfl⟩⟩:=hrel;cases gk with
  | zero=>exact absurd HA.out (by simp [zN.l0])
  | succ k1=>
   have H:=HA.out;clear HA;simp only [zN.l0] at H
   by_cases c3:x7_1 < x8_1
   ·rw [if_pos c3] at H
    have c3b0:=decide_eq_true c3;clear c3;obtain ⟨ji4,hji4⟩:∃j_:Int,(wrap64 ((IntKind.u64.wrap (wrap64 (x7_1 + x8_1))) / 2))=j_:=⟨_,rfl⟩
    replace H:(if 0≤(ji4) then (if (ji4) < (l0.length:Int) then ((ZE.f (rdOf ByteArray.empty l0 (ji4)) a1).bind fun t301=>(if t301=true then (zN.l0 k1 l0 a1 (l0.length:Int) (wrap64 ((ji4) + 1)) x8_1) else (zN.l0 k1 l0 a1 (l0.length:Int) x7_1 ji4))) else (none)) else (none))=some (r1,r2):=by first|(rw [hji4] at H;exact H)|(simp only [hji4] at H⊢;exact H)
    have hji4w:(IntKind.i64.wrap ((IntKind.u64.wrap (wrap64 (x7_1 + x8_1))) / 2))=ji4:=(zx _).trans hji4
    by_cases c5:0≤(ji4)
    ·rw [if_pos c5] at H
     have c5b0:=decide_eq_true c5;clear c5
     by_cases c6:(ji4) < (l0.length:Int)
     ·rw [if_pos c6] at H
      have c6b0:=decide_eq_true c6;clear c6;replace H:=ZzB H;obtain ⟨t301,A70,H⟩:=H;replace H:(if t301=true then (zN.l0 k1 l0 a1 (l0.length:Int) (wrap64 ((ji4) + 1)) x8_1) else (zN.l0 k1 l0 a1 (l0.length:Int) x7_1 ji4))=some (r1,r2):=H;have A7:=zA.mk A70;clear A70
      by_cases c8:t301=true
      ·subst c8
       have H1:(zN.l0 k1 l0 a1 (l0.length:Int) (wrap64 ((ji4) + 1)) x8_1)=some (r1,r2):=by rw [if_pos rfl] at H;exact H
       clear H;have H:=H1;clear H1;have H':=zA.mk H;clear H;have p300:0≤((ji4):Int):=Qa;have q300:(ji4) < (l0.length:Int):=Qa;obtain ⟨ad300,e300,hx300_0⟩:=Kd.at_string HR0.out (ji4) p300 q300;cases e300;replace p300:=eq_true p300;replace q300:=eq_true q300
       go_wp2_with (first|((with_reducible refine zk (f:=62) rfl ?_);refine yQ (some 27) rfl rfl Try.func62 (by kernel_rfl) rfl #[.string (rdOf ByteArray.empty l0 (ji4)), .string a1] rfl QP ?_;(with_reducible refine (ZE.calls (rdOf ByteArray.empty l0 (ji4)) a1 true _ A7.out).mono ?_);rintro e w' ⟨rfl,⟨nd,rfl⟩⟩;refine ⟨_,rfl,?_⟩))
       go_roundg k1
       case measure=>have:=HK1.out;omega
       case rel=>exact ⟨(wrap64 ((ji4) + 1)),(x8_1),Q6,Zb,H',⟨by have:=HK1.out;omega⟩,by repeat (first|exact yL.refl _|apply yL.step)⟩
      ·replace c8:=Bool.eq_false_iff.mpr c8
       subst c8
       have H1:(zN.l0 k1 l0 a1 (l0.length:Int) x7_1 ji4)=some (r1,r2):=by rw [if_neg (show ¬(false=true) by decide)] at H;exact H
       clear H;have H:=H1;clear H1;have H':=zA.mk H;clear H;have p300:0≤((ji4):Int):=Qa;have q300:(ji4) < (l0.length:Int):=Qa;obtain ⟨ad300,e300,hx300_0⟩:=Kd.at_string HR0.out (ji4) p300 q300;cases e300;replace p300:=eq_true p300;replace q300:=eq_true q300
       go_wp2_with (first|((with_reducible refine zk (f:=62) rfl ?_);refine yQ (some 27) rfl rfl Try.func62 (by kernel_rfl) rfl #[.string (rdOf ByteArray.empty l0 (ji4)), .string a1] rfl QP ?_;(with_reducible refine (ZE.calls (rdOf ByteArray.empty l0 (ji4)) a1 false _ A7.out).mono ?_);rintro e w' ⟨rfl,⟨nd,rfl⟩⟩;refine ⟨_,rfl,?_⟩))
       go_roundg k1
       case measure=>have:=HK1.out;omega
       case rel=>exact ⟨(x7_1),(ji4),Zb,Q6,H',⟨by have:=HK1.out;omega⟩,by repeat (first|exact yL.refl _|apply yL.step)⟩
     ·rw [if_neg c6] at H
      exact absurd H (by simp)
    ·rw [if_neg c5] at H
     exact absurd H (by simp)
   ·rw [if_neg c3] at H
    have c3b0:=decide_eq_false c3;clear c3
    by_cases c9:x7_1 < (l0.length:Int)
    ·rw [if_pos c9] at H
     have c9b0:=decide_eq_true c9;clear c9
     by_cases c10:0≤x7_1
     ·rw [if_pos c10] at H
      have c10b0:=decide_eq_true c10;clear c10
      by_cases c11:x7_1 < (l0.length:Int)
      ·rw [if_pos c11] at H
       have c11b0:=decide_eq_true c11;clear c11
       by_cases c12:(rdOf ByteArray.empty l0 x7_1).toList=a1.toList
       ·rw [if_pos c12] at H
        have c12b0:((rdOf ByteArray.empty l0 x7_1).toList == a1.toList)=true:=beq_iff_eq.mpr c12;have c12b1:((rdOf ByteArray.empty l0 x7_1).toList != a1.toList)=false:=bne_eq_false_iff_eq.mpr c12;clear c12;simp only [Option.some.injEq,Prod.mk.injEq] at H;obtain ⟨rfl,rfl⟩:=H;have p302:0≤(x7_1:Int):=Qa;have q302:x7_1 < (l0.length:Int):=Qa;obtain ⟨ad302,e302,hx302_0⟩:=Kd.at_string HR0.out x7_1 p302 q302;cases e302;replace p302:=eq_true p302;replace q302:=eq_true q302
        go_wp2
        go_ret2
        exact ⟨by first|rfl|(simp;done)|(simp [*];done),by repeat (first|exact yL.refl _|apply yL.step)⟩
       ·rw [if_neg c12] at H
        have c12b0:((rdOf ByteArray.empty l0 x7_1).toList == a1.toList)=false:=beq_eq_false_iff_ne.mpr c12;have c12b1:((rdOf ByteArray.empty l0 x7_1).toList != a1.toList)=true:=bne_iff_ne.mpr c12;replace H:=ZzB H;obtain ⟨t304,A130,H⟩:=H;replace H:(if t304=true then ((yc.f a1).bind fun t305=>(some (x7_1,t305))) else (some (x7_1,false)))=some (r1,r2):=H;have A13:=zA.mk A130;clear A130
        by_cases c14:t304=true
        ·subst c14
         have H1:((yc.f a1).bind fun t305=>(some (x7_1,t305)))=some (r1,r2):=by rw [if_pos rfl] at H;exact H
         clear H;have H:=H1;clear H1;replace H:=ZzB H;obtain ⟨t305,A150,H⟩:=H;replace H:(some (x7_1,t305))=some (r1,r2):=H;have A15:=zA.mk A150;clear A150;simp only [Option.some.injEq,Prod.mk.injEq] at H;obtain ⟨rfl,rfl⟩:=H;have p302:0≤(x7_1:Int):=Qa;have q302:x7_1 < (l0.length:Int):=Qa;obtain ⟨ad302,e302,hx302_0⟩:=Kd.at_string HR0.out x7_1 p302 q302;cases e302;replace p302:=eq_true p302;replace q302:=eq_true q302;have p303:0≤(x7_1:Int):=Qa;have q303:x7_1 < (l0.length:Int):=Qa;obtain ⟨ad303,e303,hx303_0⟩:=Kd.at_string HR0.out x7_1 p303 q303;obtain rfl:ad302=ad303:=(by injection e303);replace p303:=eq_true p303;replace q303:=eq_true q303
         go_wp2_with (first|(go_at_call 63;(with_reducible refine (yc.calls (rdOf ByteArray.empty l0 x7_1) true _ A13.out).mono ?_);rintro e w' ⟨rfl,⟨nd,rfl⟩⟩;clear A13)|(go_at_call 63;(with_reducible refine (yc.calls a1 t305 _ A15.out).mono ?_);rintro e w' ⟨rfl,⟨nd,rfl⟩⟩;clear A15))
         go_ret2
         exact ⟨by first|rfl|(simp;done)|(simp [*];done),by repeat (first|exact yL.refl _|apply yL.step)⟩
        ·replace c14:=Bool.eq_false_iff.mpr c14
         subst c14
         have H1:(some (x7_1,false))=some (r1,r2):=by rw [if_neg (show ¬(false=true) by decide)] at H;exact H
         clear H;have H:=H1;clear H1;simp only [Option.some.injEq,Prod.mk.injEq] at H;obtain ⟨rfl,rfl⟩:=H;have p302:0≤(x7_1:Int):=Qa;have q302:x7_1 < (l0.length:Int):=Qa;obtain ⟨ad302,e302,hx302_0⟩:=Kd.at_string HR0.out x7_1 p302 q302;cases e302;replace p302:=eq_true p302;replace q302:=eq_true q302;have p303:0≤(x7_1:Int):=Qa;have q303:x7_1 < (l0.length:Int):=Qa;obtain ⟨ad303,e303,hx303_0⟩:=Kd.at_string HR0.out x7_1 p303 q303;obtain rfl:ad302=ad303:=(by injection e303);replace p303:=eq_true p303;replace q303:=eq_true q303
         go_wp2_with (first|(go_at_call 63;(with_reducible refine (yc.calls (rdOf ByteArray.empty l0 x7_1) false _ A13.out).mono ?_);rintro e w' ⟨rfl,⟨nd,rfl⟩⟩))
         go_ret2
         exact ⟨by first|rfl|(simp;done)|(simp [*];done),by repeat (first|exact yL.refl _|apply yL.step)⟩
      ·rw [if_neg c11] at H
       exact absurd H (by simp)
     ·rw [if_neg c10] at H
      exact absurd H (by simp)
    ·rw [if_neg c9] at H
     have c9b0:=decide_eq_false c9;clear c9;simp only [Option.some.injEq,Prod.mk.injEq] at H;obtain ⟨rfl,rfl⟩:=H
     go_wp2
     go_ret2
     exact ⟨by first|rfl|(simp;done)|(simp [*];done),by repeat (first|exact yL.refl _|apply yL.step)⟩
def zm.l0:Nat→List ByteArray→ByteArray→Int→Int→Option (Int)
 | 0,_,_,_,_=>none
 | k + 1,x0,x1,x7,x8=>if x8 < x7 then (if 0≤x8 then (if x8 < (x0.length:Int) then (if x1.toList=(rdOf ByteArray.empty x0 x8).toList then (some x8) else (zm.l0 k x0 x1 x7 (wrap64 (x8 + 1)))) else (none)) else (none)) else (some (-1))
def zm.f (k:Nat) (l0:List ByteArray) (a1:ByteArray):Option (Int):=zm.l0 k l0 a1 (l0.length:Int) 0
theorem zm.mono_l:∀k,(∀y0 y1 y2 y3,LeO (zm.l0 k y0 y1 y2 y3) (zm.l0 (k + 1) y0 y1 y2 y3))
 | 0=>fun _ _ _ _ r h=>by simp [zm.l0] at h
 | k + 1=>by
  have ih0:=zm.mono_l k
  ·intro y0 y1 y2 y3
   unfold zm.l0
   repeat' first
   | with_reducible first|exact ih0 _ _ _ _|exact LeO.refl _|exact LeO.none _|refine LeO.ite ?_ ?_|refine LeO.bind ?_ (fun _=> ?_)
   | exact ih0 _ _ _ _|exact LeO.none _|refine LeO.ite ?_ ?_|refine LeO.bind ?_ (fun _=> ?_)
theorem zm.mono:∀a0 a1 k,LeO (zm.f k a0 a1) (zm.f (k + 1) a0 a1):=by
 intro a0 a1 k;have ih0:=zm.mono_l k
 unfold zm.f
 repeat' first
   | with_reducible first|exact ih0 _ _ _ _|exact LeO.refl _|exact LeO.none _|refine LeO.ite ?_ ?_|refine LeO.bind ?_ (fun _=> ?_)
   | exact ih0 _ _ _ _|exact LeO.none _|refine LeO.ite ?_ ?_|refine LeO.bind ?_ (fun _=> ?_)
set_option maxHeartbeats 8000000 in
set_option maxRecDepth 100000 in
theorem zm.calls (k:Nat) (A0:Option Addr) (c0:Nat) (l0:List ByteArray) (a1:ByteArray) (r:Int) (w:World) (hr0:Kd.C Kd.string w A0 l0.length l0) (hc0:l0.length≤c0) (h:zm.f k l0 a1=some r) :
  Calls Try.prog 64 #[.slice A0 l0.length c0, .string a1] w fun e w'=>e= .returned (.int .i64 r)∧yL w w':=by
 have HR0:=zA.mk hr0;have HC0:=zA.mk hc0;clear hr0 hc0;have H:(zm.l0 k l0 a1 (l0.length:Int) 0)=some r:=h;clear h;have H':=zA.mk H;clear H
 go_enter Try.func64,Try.ntmps64
 go_wp2
 go_loopg [8] k (fun kq v8 w'=>∃(x8_1:Int),v8= .int .i64 x8_1∧zA (zm.l0 kq l0 a1 (l0.length:Int) x8_1=some r)∧zA (kq≤k)∧yL w w')
 case atStart=>exact ⟨(0),Zb,H',⟨Nat.le_refl _⟩,by repeat (first|exact yL.refl _|apply yL.step)⟩
 case round=>
  clear H';(try clear p2);obtain ⟨x8_1,rfl,HA,HK1,⟨m1,rfl⟩⟩:=hrel;cases gk with
  | zero=>exact absurd HA.out (by simp [zm.l0])
  | succ k1=>
   have H:=HA.out;clear HA;simp only [zm.l0] at H
   by_cases c3:x8_1 < (l0.length:Int)
   ·rw [if_pos c3] at H
    have c3b0:=decide_eq_true c3;clear c3
    by_cases c4:0≤x8_1
    ·rw [if_pos c4] at H
     have c4b0:=decide_eq_true c4;clear c4
     by_cases c5:x8_1 < (l0.length:Int)
     ·rw [if_pos c5] at H
      have c5b0:=decide_eq_true c5;clear c5
      by_cases c6:a1.toList=(rdOf ByteArray.empty l0 x8_1).toList
      ·rw [if_pos c6] at H
       have c6b0:(a1.toList == (rdOf ByteArray.empty l0 x8_1).toList)=true:=beq_iff_eq.mpr c6;have c6b1:(a1.toList != (rdOf ByteArray.empty l0 x8_1).toList)=false:=bne_eq_false_iff_eq.mpr c6;clear c6;obtain rfl:=Option.some.inj H;have p306:0≤(x8_1:Int):=Qa;have q306:x8_1 < (l0.length:Int):=Qa;obtain ⟨ad306,e306,hx306_0⟩:=Kd.at_string HR0.out x8_1 p306 q306;cases e306;replace p306:=eq_true p306;replace q306:=eq_true q306
       go_wp2
       go_ret
       exact ⟨by first|rfl|(simp;done)|(simp [*];done),by repeat (first|exact yL.refl _|apply yL.step)⟩
      ·rw [if_neg c6] at H
       have c6b0:(a1.toList == (rdOf ByteArray.empty l0 x8_1).toList)=false:=beq_eq_false_iff_ne.mpr c6;have c6b1:(a1.toList != (rdOf ByteArray.empty l0 x8_1).toList)=true:=bne_iff_ne.mpr c6;have H':=zA.mk H;clear H;have p306:0≤(x8_1:Int):=Qa;have q306:x8_1 < (l0.length:Int):=Qa;obtain ⟨ad306,e306,hx306_0⟩:=Kd.at_string HR0.out x8_1 p306 q306;cases e306;replace p306:=eq_true p306;replace q306:=eq_true q306
       go_wp2
       go_roundg k1
       case measure=>have:=HK1.out;omega
       case rel=>exact ⟨(wrap64 (x8_1 + 1)),Zb,H',⟨by have:=HK1.out;omega⟩,by repeat (first|exact yL.refl _|apply yL.step)⟩
     ·rw [if_neg c5] at H
      exact absurd H (by simp)
    ·rw [if_neg c4] at H
     exact absurd H (by simp)
   ·rw [if_neg c3] at H
    have c3b0:=decide_eq_false c3;clear c3;obtain rfl:=Option.some.inj H
    go_wp2
    go_ret
    exact ⟨by first|rfl|(simp;done)|(simp [*];done),by repeat (first|exact yL.refl _|apply yL.step)⟩
def yI.f (k:Nat) (l0:List ByteArray) (a1:ByteArray):Option (Bool):=(zm.f k l0 a1).bind fun t307=>(some (decide (t307≥0)))
theorem yI.mono:∀a0 a1 k,LeO (yI.f k a0 a1) (yI.f (k + 1) a0 a1):=by
 intro a0 a1 k
 unfold yI.f
 repeat' first
   | with_reducible first|exact zm.mono _ _ _|exact LeO.refl _|exact LeO.none _|refine LeO.ite ?_ ?_|refine LeO.bind ?_ (fun _=> ?_)
   | exact zm.mono _ _ _|exact LeO.none _|refine LeO.ite ?_ ?_|refine LeO.bind ?_ (fun _=> ?_)
set_option maxHeartbeats 8000000 in
set_option maxRecDepth 100000 in
theorem yI.calls (k:Nat) (A0:Option Addr) (c0:Nat) (l0:List ByteArray) (a1:ByteArray) (r:Bool) (w:World) (hr0:Kd.C Kd.string w A0 l0.length l0) (hc0:l0.length≤c0) (h:yI.f k l0 a1=some r) :
  Calls Try.prog 47 #[.slice A0 l0.length c0, .string a1] w fun e w'=>e= .returned (.bool r)∧yL w w':=by
 have HR0:=zA.mk hr0;have HC0:=zA.mk hc0;clear hr0 hc0;have H:((zm.f k l0 a1).bind fun t307=>(some (decide (t307≥0))))=some r:=h;clear h;replace H:=ZzB H;obtain ⟨t307,A30,H⟩:=H;replace H:(some (decide (t307≥0)))=some r:=H;have A3:=zA.mk A30;clear A30;obtain rfl:=Option.some.inj H
 go_enter Try.func47,Try.ntmps47
 go_wp2_with (first|((with_reducible refine zk (f:=64) rfl ?_);refine yQ (some 7) rfl rfl Try.func64 (by kernel_rfl) rfl #[.slice A0 l0.length c0, .string a1] rfl QX ?_;(with_reducible refine (zm.calls k _ _ l0 a1 t307 _ ?side1 ?side2 A3.out).mono ?_);(case side1=>exact Qo HR0.out);(case side2=>exact HC0.out);rintro e w' ⟨rfl,⟨nd,rfl⟩⟩;refine ⟨_,rfl,?_⟩))
 go_ret
 exact ⟨by first|rfl|(simp;done)|(simp [*];done),by repeat (first|exact yL.refl _|apply yL.step)⟩
def ZS.f (k:Nat) (l0:List ByteArray) (a1:ByteArray):Option (Bool):=(yh.f k l0).bind fun t308=>(if t308=true then ((zN.f k l0 a1).bind fun bt309=>(some bt309.2)) else ((yI.f k l0 a1).bind fun t311=>(some t311)))
theorem ZS.mono:∀a0 a1 k,LeO (ZS.f k a0 a1) (ZS.f (k + 1) a0 a1):=by
 intro a0 a1 k
 unfold ZS.f
 repeat' first
   | with_reducible first|exact yh.mono _ _|exact zN.mono _ _ _|exact yI.mono _ _ _|exact LeO.refl _|exact LeO.none _|refine LeO.ite ?_ ?_|refine LeO.bind ?_ (fun _=> ?_)
   | exact yh.mono _ _|exact zN.mono _ _ _|exact yI.mono _ _ _|exact LeO.none _|refine LeO.ite ?_ ?_|refine LeO.bind ?_ (fun _=> ?_)
set_option maxHeartbeats 8000000 in
set_option maxRecDepth 100000 in
theorem ZS.calls (k:Nat) (A0:Option Addr) (c0:Nat) (l0:List ByteArray) (a1:ByteArray) (r:Bool) (w:World) (hr0:Kd.C Kd.string w A0 l0.length l0) (hc0:l0.length≤c0) (h:ZS.f k l0 a1=some r) :
  Calls Try.prog 28 #[.slice A0 l0.length c0, .string a1] w fun e w'=>e= .returned (.bool r)∧yL w w':=by
 have HR0:=zA.mk hr0;have HC0:=zA.mk hc0;clear hr0 hc0;have H:((yh.f k l0).bind fun t308=>(if t308=true then ((zN.f k l0 a1).bind fun bt309=>(some bt309.2)) else ((yI.f k l0 a1).bind fun t311=>(some t311))))=some r:=h;clear h;replace H:=ZzB H;obtain ⟨t308,A30,H⟩:=H;replace H:(if t308=true then ((zN.f k l0 a1).bind fun bt309=>(some bt309.2)) else ((yI.f k l0 a1).bind fun t311=>(some t311)))=some r:=H;have A3:=zA.mk A30;clear A30
 by_cases c4:t308=true
 ·subst c4
  have H1:((zN.f k l0 a1).bind fun bt309=>(some bt309.2))=some r:=by rw [if_pos rfl] at H;exact H
  clear H;have H:=H1;clear H1;replace H:=ZzB H;obtain ⟨⟨t309,t310⟩,A50,H⟩:=H;replace H:(some t310)=some r:=H;have A5:=zA.mk A50;clear A50;obtain rfl:=Option.some.inj H
  go_enter Try.func28,Try.ntmps28
  go_wp2_with (first|((with_reducible refine zk (f:=45) rfl ?_);refine yQ (some 8) rfl rfl Try.func45 (by kernel_rfl) rfl #[.slice A0 l0.length c0] rfl QX ?_;(with_reducible refine (yh.calls k _ _ l0 true _ ?side1 ?side2 A3.out).mono ?_);(case side1=>exact Qo HR0.out);(case side2=>exact HC0.out);rintro e w' ⟨rfl,⟨nd,rfl⟩⟩;refine ⟨_,rfl,?_⟩)|((with_reducible refine zk (f:=46) rfl ?_);refine yQ (some 12) rfl rfl Try.func46 (by kernel_rfl) rfl #[.slice A0 l0.length c0, .string a1] rfl QX ?_;(with_reducible refine (zN.calls k _ _ l0 a1 t309 t310 _ ?side1 ?side2 A5.out).mono ?_);(case side1=>exact Qo HR0.out);(case side2=>exact HC0.out);rintro e w' ⟨rfl,⟨nd,rfl⟩⟩;refine ⟨_,rfl,?_⟩))
  go_ret
  exact ⟨by first|rfl|(simp;done)|(simp [*];done),by repeat (first|exact yL.refl _|apply yL.step)⟩
 ·replace c4:=Bool.eq_false_iff.mpr c4
  subst c4
  have H1:((yI.f k l0 a1).bind fun t311=>(some t311))=some r:=by rw [if_neg (show ¬(false=true) by decide)] at H;exact H
  clear H;have H:=H1;clear H1;replace H:=ZzB H;obtain ⟨t311,A60,H⟩:=H;replace H:(some t311)=some r:=H;have A6:=zA.mk A60;clear A60;obtain rfl:=Option.some.inj H
  go_enter Try.func28,Try.ntmps28
  go_wp2_with (first|((with_reducible refine zk (f:=45) rfl ?_);refine yQ (some 8) rfl rfl Try.func45 (by kernel_rfl) rfl #[.slice A0 l0.length c0] rfl QX ?_;(with_reducible refine (yh.calls k _ _ l0 false _ ?side1 ?side2 A3.out).mono ?_);(case side1=>exact Qo HR0.out);(case side2=>exact HC0.out);rintro e w' ⟨rfl,⟨nd,rfl⟩⟩;refine ⟨_,rfl,?_⟩)|((with_reducible refine zk (f:=47) rfl ?_);refine yQ (some 18) rfl rfl Try.func47 (by kernel_rfl) rfl #[.slice A0 l0.length c0, .string a1] rfl QX ?_;(with_reducible refine (yI.calls k _ _ l0 a1 t311 _ ?side1 ?side2 A6.out).mono ?_);(case side1=>exact Qo HR0.out);(case side2=>exact HC0.out);rintro e w' ⟨rfl,⟨nd,rfl⟩⟩;refine ⟨_,rfl,?_⟩))
  go_ret
  exact ⟨by first|rfl|(simp;done)|(simp [*];done),by repeat (first|exact yL.refl _|apply yL.step)⟩
end Go.Proofs.Ytlanhkekjhlmjaa.HGuessWords
