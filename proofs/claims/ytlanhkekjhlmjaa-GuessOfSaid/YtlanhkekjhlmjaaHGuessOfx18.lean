-- Written by plus.py for this claim.
import Derived.Test.YtlanhkekjhlmjaaSGuessOfVZip
import Derived.Test.YtlanhkekjhlmjaaHGuessOfx0
namespace Go.Proofs.Ytlanhkekjhlmjaa.HGuessOf
open Go.RowKit Go.Proofs.YtlanhkekjhlmjaaW.PrintWords Go.Proofs.YtlanhkekjhlmjaaW.PrintLast Go.Proofs.YtlanhkekjhlmjaaW.PrintMore
attribute [local go_sem] yq yr ZJ ZK ym yn yt yu   -- for this text's walks alone
set_option linter.unusedVariables false
set_option linter.unusedSimpArgs false
def zR.l0:Nat→List ByteArray→List ByteArray→Int→Option (Bool)
 | 0,_,_,_=>none
 | k + 1,x0,x1,x5=>if x5 < (x0.length:Int) then (if 0≤x5 then (if x5 < (x1.length:Int) then (if (rdOf ByteArray.empty x0 x5).toList=(rdOf ByteArray.empty x1 x5).toList then (zR.l0 k x0 x1 (wrap64 (x5 + 1))) else (some false)) else (none)) else (none)) else (some true)
def zR.f (k:Nat) (l0:List ByteArray) (l1:List ByteArray):Option (Bool):=if (l0.length:Int)=(l1.length:Int) then (zR.l0 k l0 l1 0) else (some false)
theorem zR.mono_l:∀k,(∀y0 y1 y2,LeO (zR.l0 k y0 y1 y2) (zR.l0 (k + 1) y0 y1 y2))
 | 0=>fun _ _ _ r h=>by simp [zR.l0] at h
 | k + 1=>by
  have ih0:=zR.mono_l k
  ·intro y0 y1 y2
   unfold zR.l0
   repeat' first
   | with_reducible first|exact ih0 _ _ _|exact LeO.refl _|exact LeO.none _|refine LeO.ite ?_ ?_|refine LeO.bind ?_ (fun _=> ?_)
   | exact ih0 _ _ _|exact LeO.none _|refine LeO.ite ?_ ?_|refine LeO.bind ?_ (fun _=> ?_)
theorem zR.mono:∀a0 a1 k,LeO (zR.f k a0 a1) (zR.f (k + 1) a0 a1):=by
 intro a0 a1 k;have ih0:=zR.mono_l k
 unfold zR.f
 repeat' first
   | with_reducible first|exact ih0 _ _ _|exact LeO.refl _|exact LeO.none _|refine LeO.ite ?_ ?_|refine LeO.bind ?_ (fun _=> ?_)
   | exact ih0 _ _ _|exact LeO.none _|refine LeO.ite ?_ ?_|refine LeO.bind ?_ (fun _=> ?_)
set_option maxHeartbeats 8000000 in
set_option maxRecDepth 100000 in
theorem zR.calls (k:Nat) (A0:Option Addr) (c0:Nat) (l0:List ByteArray) (A1:Option Addr) (c1:Nat) (l1:List ByteArray) (r:Bool) (w:World) (hr0:Kd.C Kd.string w A0 l0.length l0) (hc0:l0.length≤c0) (hr1:Kd.C Kd.string w A1 l1.length l1) (hc1:l1.length≤c1) (h:zR.f k l0 l1=some r) :
  Calls Try.prog 8 #[.slice A0 l0.length c0, .slice A1 l1.length c1] w fun e w'=>e= .returned (.bool r)∧yR w w':=by
 have HR0:=zA.mk hr0;have HC0:=zA.mk hc0;clear hr0 hc0;have HR1:=zA.mk hr1;have HC1:=zA.mk hc1;clear hr1 hc1;have H:(if (l0.length:Int)=(l1.length:Int) then (zR.l0 k l0 l1 0) else (some false))=some r:=h;clear h
 by_cases c3:(l0.length:Int)=(l1.length:Int)
 ·rw [if_pos c3] at H
  have c3b0:((l0.length:Int) == (l1.length:Int))=true:=beq_iff_eq.mpr c3;have c3b1:((l0.length:Int) != (l1.length:Int))=false:=bne_eq_false_iff_eq.mpr c3
  have c3b2:(l0.length == l1.length)=true:=by first|simpa using c3|(simp at c3⊢;omega)
  clear c3;have H':=zA.mk H;clear H
  go_enter Try.func8,Try.ntmps8
  go_wp2
  repeat (go_quiet (fail);try go_wp2)
  go_loopg [5] k (fun kq v5 w'=>∃(x5_1:Int),v5= .int .i64 x5_1∧zA (zR.l0 kq l0 l1 x5_1=some r)∧zA (kq≤k)∧yR w w')
  case atStart=>exact ⟨(0),Zf,H',⟨Nat.le_refl _⟩,by repeat (first|exact yR.refl _|apply yR.step)⟩
  case round=>
   clear H';(try clear c1);(try clear p2);(try clear c3);(try clear c3b0);(try clear c3b1);(try clear c3b2);obtain ⟨x5_1,rfl,HA,HK1,⟨m1,rfl⟩⟩:=hrel;cases gk with
   | zero=>exact absurd HA.out (by simp [zR.l0])
   | succ k1=>
    have H:=HA.out;clear HA;simp only [zR.l0] at H
    by_cases c4:x5_1 < (l0.length:Int)
    ·rw [if_pos c4] at H
     have c4b0:=decide_eq_true c4;clear c4
     by_cases c5:0≤x5_1
     ·rw [if_pos c5] at H
      have c5b0:=decide_eq_true c5;clear c5
      by_cases c6:x5_1 < (l1.length:Int)
      ·rw [if_pos c6] at H
       have c6b0:=decide_eq_true c6;clear c6
       by_cases c7:(rdOf ByteArray.empty l0 x5_1).toList=(rdOf ByteArray.empty l1 x5_1).toList
       ·rw [if_pos c7] at H
        have c7b0:((rdOf ByteArray.empty l0 x5_1).toList == (rdOf ByteArray.empty l1 x5_1).toList)=true:=beq_iff_eq.mpr c7;have c7b1:((rdOf ByteArray.empty l0 x5_1).toList != (rdOf ByteArray.empty l1 x5_1).toList)=false:=bne_eq_false_iff_eq.mpr c7;clear c7;have H':=zA.mk H;clear H;have p392:0≤(x5_1:Int):=Qa;have q392:x5_1 < (l0.length:Int):=Qa;obtain ⟨ad392,e392,hx392_0⟩:=Kd.at_string HR0.out x5_1 p392 q392;cases e392;replace p392:=eq_true p392;replace q392:=eq_true q392;have p393:0≤(x5_1:Int):=Qa;have q393:x5_1 < (l1.length:Int):=Qa;obtain ⟨ad393,e393,hx393_0⟩:=Kd.at_string HR1.out x5_1 p393 q393;cases e393;replace p393:=eq_true p393;replace q393:=eq_true q393
        go_wp2
        repeat (go_quiet (fail);try go_wp2)
        go_roundg k1
        case measure=>have:=HK1.out;omega
        case rel=>exact ⟨(wrap64 (x5_1 + 1)),Zf,H',⟨by have:=HK1.out;omega⟩,by repeat (first|exact yR.refl _|apply yR.step)⟩
       ·rw [if_neg c7] at H
        have c7b0:((rdOf ByteArray.empty l0 x5_1).toList == (rdOf ByteArray.empty l1 x5_1).toList)=false:=beq_eq_false_iff_ne.mpr c7;have c7b1:((rdOf ByteArray.empty l0 x5_1).toList != (rdOf ByteArray.empty l1 x5_1).toList)=true:=bne_iff_ne.mpr c7;obtain rfl:=Option.some.inj H;have p392:0≤(x5_1:Int):=Qa;have q392:x5_1 < (l0.length:Int):=Qa;obtain ⟨ad392,e392,hx392_0⟩:=Kd.at_string HR0.out x5_1 p392 q392;cases e392;replace p392:=eq_true p392;replace q392:=eq_true q392;have p393:0≤(x5_1:Int):=Qa;have q393:x5_1 < (l1.length:Int):=Qa;obtain ⟨ad393,e393,hx393_0⟩:=Kd.at_string HR1.out x5_1 p393 q393;cases e393;replace p393:=eq_true p393;replace q393:=eq_true q393
        go_wp2
        repeat (go_quiet (fail);try go_wp2)
        go_ret
        exact ⟨by first|rfl|(simp;done)|(simp [*];done),by repeat (first|exact yR.refl _|apply yR.step)⟩
      ·rw [if_neg c6] at H
       exact absurd H (by simp)
     ·rw [if_neg c5] at H
      exact absurd H (by simp)
    ·rw [if_neg c4] at H
     have c4b0:=decide_eq_false c4;clear c4;obtain rfl:=Option.some.inj H
     go_wp2
     repeat (go_quiet (fail);try go_wp2)
     go_ret
     exact ⟨by first|rfl|(simp;done)|(simp [*];done),by repeat (first|exact yR.refl _|apply yR.step)⟩
 ·rw [if_neg c3] at H
  have c3b0:((l0.length:Int) == (l1.length:Int))=false:=beq_eq_false_iff_ne.mpr c3;have c3b1:((l0.length:Int) != (l1.length:Int))=true:=bne_iff_ne.mpr c3
  have c3b2:(l0.length == l1.length)=false:=by first|simpa using c3|(simp at c3⊢;omega)
  obtain rfl:=Option.some.inj H
  go_enter Try.func8,Try.ntmps8
  go_wp2
  repeat (go_quiet (fail);try go_wp2)
  go_ret
  exact ⟨by first|rfl|(simp;done)|(simp [*];done),by repeat (first|exact yR.refl _|apply yR.step)⟩
def yi.l0:Nat→List ByteArray→Int→Option (Bool)
 | 0,_,_=>none
 | k + 1,x0,x3=>if x3 < (x0.length:Int) then (if 0≤(wrap64 (x3 - 1)) then (if (wrap64 (x3 - 1)) < (x0.length:Int) then (if 0≤x3 then (if (Op.bytesLess ((rdOf ByteArray.empty x0 (wrap64 (x3 - 1))).toList) ((rdOf ByteArray.empty x0 x3).toList))=true then (yi.l0 k x0 (wrap64 (x3 + 1))) else (some false)) else (none)) else (none)) else (none)) else (some true)
def yi.f (k:Nat) (l0:List ByteArray):Option (Bool):=yi.l0 k l0 1
theorem yi.mono_l:∀k,(∀y0 y1,LeO (yi.l0 k y0 y1) (yi.l0 (k + 1) y0 y1))
 | 0=>fun _ _ r h=>by simp [yi.l0] at h
 | k + 1=>by
  have ih0:=yi.mono_l k
  ·intro y0 y1
   unfold yi.l0
   repeat' first
   | with_reducible first|exact ih0 _ _|exact LeO.refl _|exact LeO.none _|refine LeO.ite ?_ ?_|refine LeO.bind ?_ (fun _=> ?_)
   | exact ih0 _ _|exact LeO.none _|refine LeO.ite ?_ ?_|refine LeO.bind ?_ (fun _=> ?_)
theorem yi.mono:∀a0 k,LeO (yi.f k a0) (yi.f (k + 1) a0):=by
 intro a0 k;have ih0:=yi.mono_l k
 unfold yi.f
 repeat' first
   | with_reducible first|exact ih0 _ _|exact LeO.refl _|exact LeO.none _|refine LeO.ite ?_ ?_|refine LeO.bind ?_ (fun _=> ?_)
   | exact ih0 _ _|exact LeO.none _|refine LeO.ite ?_ ?_|refine LeO.bind ?_ (fun _=> ?_)
set_option maxHeartbeats 8000000 in
set_option maxRecDepth 100000 in
theorem yi.calls (k:Nat) (A0:Option Addr) (c0:Nat) (l0:List ByteArray) (r:Bool) (w:World) (hr0:Kd.C Kd.string w A0 l0.length l0) (hc0:l0.length≤c0) (h:yi.f k l0=some r) :
  Calls Try.prog 45 #[.slice A0 l0.length c0] w fun e w'=>e= .returned (.bool r)∧yR w w':=by
 have HR0:=zA.mk hr0;have HC0:=zA.mk hc0;clear hr0 hc0;have H:(yi.l0 k l0 1)=some r:=h;clear h;have H':=zA.mk H;clear H
 go_enter Try.func45,Try.ntmps45
 go_wp2
 repeat (go_quiet (fail);try go_wp2)
 go_loopg [3] k (fun kq v3 w'=>∃(x3_1:Int),v3= .int .i64 x3_1∧zA (yi.l0 kq l0 x3_1=some r)∧zA (kq≤k)∧yR w w')
 case atStart=>exact ⟨(1),Zf,H',⟨Nat.le_refl _⟩,by repeat (first|exact yR.refl _|apply yR.step)⟩
 case round=>
  clear H';obtain ⟨x3_1,rfl,HA,HK1,⟨m1,rfl⟩⟩:=hrel;cases gk with
  | zero=>exact absurd HA.out (by simp [yi.l0])
  | succ k1=>
   have H:=HA.out;clear HA;simp only [yi.l0] at H
   by_cases c2:x3_1 < (l0.length:Int)
   ·rw [if_pos c2] at H
    have c2b0:=decide_eq_true c2;clear c2;obtain ⟨ji3,hji3⟩:∃j_:Int,(wrap64 (x3_1 - 1))=j_:=⟨_,rfl⟩
    replace H:(if 0≤(ji3) then (if (ji3) < (l0.length:Int) then (if 0≤x3_1 then (if (Op.bytesLess ((rdOf ByteArray.empty l0 (ji3)).toList) ((rdOf ByteArray.empty l0 x3_1).toList))=true then (yi.l0 k1 l0 (wrap64 (x3_1 + 1))) else (some false)) else (none)) else (none)) else (none))=some r:=by first|(rw [hji3] at H;exact H)|(simp only [hji3] at H⊢;exact H)
    have hji3w:(IntKind.i64.wrap (x3_1 - 1))=ji3:=(zq _).trans hji3
    by_cases c4:0≤(ji3)
    ·rw [if_pos c4] at H
     have c4b0:=decide_eq_true c4;clear c4
     by_cases c5:(ji3) < (l0.length:Int)
     ·rw [if_pos c5] at H
      have c5b0:=decide_eq_true c5;clear c5
      by_cases c6:0≤x3_1
      ·rw [if_pos c6] at H
       have c6b0:=decide_eq_true c6;clear c6
       by_cases c7:(Op.bytesLess ((rdOf ByteArray.empty l0 (ji3)).toList) ((rdOf ByteArray.empty l0 x3_1).toList))=true
       ·rw [if_pos c7] at H
        have c7b0:(Op.bytesLess ((rdOf ByteArray.empty l0 (ji3)).toList) ((rdOf ByteArray.empty l0 x3_1).toList))=true:=c7;clear c7;have H':=zA.mk H;clear H;have p394:0≤((ji3):Int):=Qa;have q394:(ji3) < (l0.length:Int):=Qa;obtain ⟨ad394,e394,hx394_0⟩:=Kd.at_string HR0.out (ji3) p394 q394;cases e394;replace p394:=eq_true p394;replace q394:=eq_true q394;have p395:0≤(x3_1:Int):=Qa;have q395:x3_1 < (l0.length:Int):=Qa;obtain ⟨ad395,e395,hx395_0⟩:=Kd.at_string HR0.out x3_1 p395 q395;obtain rfl:ad394=ad395:=(by injection e395);replace p395:=eq_true p395;replace q395:=eq_true q395
        go_wp2
        repeat (go_quiet (fail);try go_wp2)
        go_roundg k1
        case measure=>have:=HK1.out;omega
        case rel=>exact ⟨(wrap64 (x3_1 + 1)),Zf,H',⟨by have:=HK1.out;omega⟩,by repeat (first|exact yR.refl _|apply yR.step)⟩
       ·rw [if_neg c7] at H
        have c7b0:(Op.bytesLess ((rdOf ByteArray.empty l0 (ji3)).toList) ((rdOf ByteArray.empty l0 x3_1).toList))=false:=by simpa using c7
        clear c7;obtain rfl:=Option.some.inj H;have p394:0≤((ji3):Int):=Qa;have q394:(ji3) < (l0.length:Int):=Qa;obtain ⟨ad394,e394,hx394_0⟩:=Kd.at_string HR0.out (ji3) p394 q394;cases e394;replace p394:=eq_true p394;replace q394:=eq_true q394;have p395:0≤(x3_1:Int):=Qa;have q395:x3_1 < (l0.length:Int):=Qa;obtain ⟨ad395,e395,hx395_0⟩:=Kd.at_string HR0.out x3_1 p395 q395;obtain rfl:ad394=ad395:=(by injection e395);replace p395:=eq_true p395;replace q395:=eq_true q395
        go_wp2
        repeat (go_quiet (fail);try go_wp2)
        go_ret
        exact ⟨by first|rfl|(simp;done)|(simp only [←hji3] <;> (first|rfl|simp))|(simp [*];done),by repeat (first|exact yR.refl _|apply yR.step)⟩
      ·rw [if_neg c6] at H
       exact absurd H (by simp)
     ·rw [if_neg c5] at H
      exact absurd H (by simp)
    ·rw [if_neg c4] at H
     exact absurd H (by simp)
   ·rw [if_neg c2] at H
    have c2b0:=decide_eq_false c2;clear c2;obtain rfl:=Option.some.inj H
    go_wp2
    repeat (go_quiet (fail);try go_wp2)
    go_ret
    exact ⟨by first|rfl|(simp;done)|(simp [*];done),by repeat (first|exact yR.refl _|apply yR.step)⟩
def yd.f (a0:ByteArray):Option (Bool):=some (a0.toList != a0.toList)
set_option maxHeartbeats 8000000 in
set_option maxRecDepth 100000 in
theorem yd.calls (a0:ByteArray) (r:Bool) (w:World) (h:yd.f a0=some r) :
  Calls Try.prog 79 #[.string a0] w fun e w'=>e= .returned (.bool r)∧yR w w':=by
 have H:(some (a0.toList != a0.toList))=some r:=h;clear h;obtain rfl:=Option.some.inj H
 go_enter Try.func79,Try.ntmps79
 go_wp2
 go_ret
 exact ⟨by first|rfl|(simp;done)|(simp [*];done),by repeat (first|exact yR.refl _|apply yR.step)⟩
def ZH.f (a0:ByteArray) (a1:ByteArray):Option (Bool):=(yd.f a0).bind fun t396=>(if t396=true then ((yd.f a1).bind fun t397=>(if t397=true then (some (Op.bytesLess a0.toList a1.toList)) else (some true))) else (some (Op.bytesLess a0.toList a1.toList)))
set_option maxHeartbeats 8000000 in
set_option maxRecDepth 100000 in
theorem ZH.calls (a0:ByteArray) (a1:ByteArray) (r:Bool) (w:World) (h:ZH.f a0 a1=some r) :
  Calls Try.prog 62 #[.string a0, .string a1] w fun e w'=>e= .returned (.bool r)∧yR w w':=by
 have H:((yd.f a0).bind fun t396=>(if t396=true then ((yd.f a1).bind fun t397=>(if t397=true then (some (Op.bytesLess a0.toList a1.toList)) else (some true))) else (some (Op.bytesLess a0.toList a1.toList))))=some r:=h;clear h;replace H:=ZzB H;obtain ⟨t396,A30,H⟩:=H;replace H:(if t396=true then ((yd.f a1).bind fun t397=>(if t397=true then (some (Op.bytesLess a0.toList a1.toList)) else (some true))) else (some (Op.bytesLess a0.toList a1.toList)))=some r:=H;have A3:=zA.mk A30;clear A30
 by_cases c4:t396=true
 ·subst c4
  have H1:((yd.f a1).bind fun t397=>(if t397=true then (some (Op.bytesLess a0.toList a1.toList)) else (some true)))=some r:=by rw [if_pos rfl] at H;exact H
  clear H;have H:=H1;clear H1;replace H:=ZzB H;obtain ⟨t397,A50,H⟩:=H;replace H:(if t397=true then (some (Op.bytesLess a0.toList a1.toList)) else (some true))=some r:=H;have A5:=zA.mk A50;clear A50
  by_cases c6:t397=true
  ·subst c6
   have H1:(some (Op.bytesLess a0.toList a1.toList))=some r:=by rw [if_pos rfl] at H;exact H
   clear H;have H:=H1;clear H1;obtain rfl:=Option.some.inj H
   go_enter Try.func62,Try.ntmps62
   go_wp2_with (first|((with_reducible refine zo (f:=79) rfl ?_);refine yQ (some 6) rfl rfl Try.func79 (by kernel_rfl) rfl #[.string a0] rfl Q4 ?_;(with_reducible refine (yd.calls a0 true _ A3.out).mono ?_);rintro e w' ⟨rfl,⟨nd,rfl⟩⟩;refine ⟨_,rfl,?_⟩)|(go_at_call 79;(with_reducible refine (yd.calls a1 true _ A5.out).mono ?_);rintro e w' ⟨rfl,⟨nd,rfl⟩⟩))
   go_ret
   exact ⟨by first|rfl|(simp;done)|(simp [*];done),by repeat (first|exact yR.refl _|apply yR.step)⟩
  ·replace c6:=Bool.eq_false_iff.mpr c6
   subst c6
   have H1:(some true)=some r:=by rw [if_neg (show ¬(false=true) by decide)] at H;exact H
   clear H;have H:=H1;clear H1;obtain rfl:=Option.some.inj H
   go_enter Try.func62,Try.ntmps62
   go_wp2_with (first|((with_reducible refine zo (f:=79) rfl ?_);refine yQ (some 6) rfl rfl Try.func79 (by kernel_rfl) rfl #[.string a0] rfl Q4 ?_;(with_reducible refine (yd.calls a0 true _ A3.out).mono ?_);rintro e w' ⟨rfl,⟨nd,rfl⟩⟩;refine ⟨_,rfl,?_⟩)|(go_at_call 79;(with_reducible refine (yd.calls a1 false _ A5.out).mono ?_);rintro e w' ⟨rfl,⟨nd,rfl⟩⟩))
   go_ret
   exact ⟨by first|rfl|(simp;done)|(simp [*];done),by repeat (first|exact yR.refl _|apply yR.step)⟩
 ·replace c4:=Bool.eq_false_iff.mpr c4
  subst c4
  have H1:(some (Op.bytesLess a0.toList a1.toList))=some r:=by rw [if_neg (show ¬(false=true) by decide)] at H;exact H
  clear H;have H:=H1;clear H1;obtain rfl:=Option.some.inj H
  go_enter Try.func62,Try.ntmps62
  go_wp2_with (first|((with_reducible refine zo (f:=79) rfl ?_);refine yQ (some 6) rfl rfl Try.func79 (by kernel_rfl) rfl #[.string a0] rfl Q4 ?_;(with_reducible refine (yd.calls a0 false _ A3.out).mono ?_);rintro e w' ⟨rfl,⟨nd,rfl⟩⟩;refine ⟨_,rfl,?_⟩))
  go_ret
  exact ⟨by first|rfl|(simp;done)|(simp [*];done),by repeat (first|exact yR.refl _|apply yR.step)⟩
def yg.f (a0:ByteArray):Option (Bool):=some (a0.toList != a0.toList)
set_option maxHeartbeats 8000000 in
set_option maxRecDepth 100000 in
theorem yg.calls (a0:ByteArray) (r:Bool) (w:World) (h:yg.f a0=some r) :
  Calls Try.prog 63 #[.string a0] w fun e w'=>e= .returned (.bool r)∧yR w w':=by
 have H:(some (a0.toList != a0.toList))=some r:=h;clear h;obtain rfl:=Option.some.inj H
 go_enter Try.func63,Try.ntmps63
 go_wp2
 go_ret
 exact ⟨by first|rfl|(simp;done)|(simp [*];done),by repeat (first|exact yR.refl _|apply yR.step)⟩
def zN.l0:Nat→List ByteArray→ByteArray→Int→Int→Int→Option (Int × Bool)
 | 0,_,_,_,_,_=>none
 | k + 1,x0,x1,x6,x7,x8=>if x7 < x8 then (if 0≤(wrap64 ((IntKind.u64.wrap (wrap64 (x7 + x8))) / 2)) then (if (wrap64 ((IntKind.u64.wrap (wrap64 (x7 + x8))) / 2)) < (x0.length:Int) then ((ZH.f (rdOf ByteArray.empty x0 (wrap64 ((IntKind.u64.wrap (wrap64 (x7 + x8))) / 2))) x1).bind fun t399=>(if t399=true then (zN.l0 k x0 x1 x6 (wrap64 ((wrap64 ((IntKind.u64.wrap (wrap64 (x7 + x8))) / 2)) + 1)) x8) else (zN.l0 k x0 x1 x6 x7 (wrap64 ((IntKind.u64.wrap (wrap64 (x7 + x8))) / 2))))) else (none)) else (none)) else (if x7 < x6 then (if 0≤x7 then (if x7 < (x0.length:Int) then (if (rdOf ByteArray.empty x0 x7).toList=x1.toList then (some (x7,true)) else ((yg.f (rdOf ByteArray.empty x0 x7)).bind fun t402=>(if t402=true then ((yg.f x1).bind fun t403=>(some (x7,t403))) else (some (x7,false))))) else (none)) else (none)) else (some (x7,false)))
def zN.f (k:Nat) (l0:List ByteArray) (a1:ByteArray):Option (Int × Bool):=zN.l0 k l0 a1 (l0.length:Int) 0 (l0.length:Int)
theorem zN.mono_l:∀k,(∀y0 y1 y2 y3 y4,LeO (zN.l0 k y0 y1 y2 y3 y4) (zN.l0 (k + 1) y0 y1 y2 y3 y4))
 | 0=>fun _ _ _ _ _ r h=>by simp [zN.l0] at h
 | k + 1=>by
  have ih0:=zN.mono_l k
  ·intro y0 y1 y2 y3 y4
   unfold zN.l0
   repeat' first
   | with_reducible first|exact ih0 _ _ _ _ _|exact LeO.refl _|exact LeO.none _|refine LeO.ite ?_ ?_|refine LeO.bind ?_ (fun _=> ?_)
   | exact ih0 _ _ _ _ _|exact LeO.none _|refine LeO.ite ?_ ?_|refine LeO.bind ?_ (fun _=> ?_)
theorem zN.mono:∀a0 a1 k,LeO (zN.f k a0 a1) (zN.f (k + 1) a0 a1):=by
 intro a0 a1 k;have ih0:=zN.mono_l k
 unfold zN.f
 repeat' first
   | with_reducible first|exact ih0 _ _ _ _ _|exact LeO.refl _|exact LeO.none _|refine LeO.ite ?_ ?_|refine LeO.bind ?_ (fun _=> ?_)
   | exact ih0 _ _ _ _ _|exact LeO.none _|refine LeO.ite ?_ ?_|refine LeO.bind ?_ (fun _=> ?_)
set_option maxHeartbeats 8000000 in
set_option maxRecDepth 100000 in
theorem zN.calls (k:Nat) (A0:Option Addr) (c0:Nat) (l0:List ByteArray) (a1:ByteArray) (r1:Int) (r2:Bool) (w:World) (hr0:Kd.C Kd.string w A0 l0.length l0) (hc0:l0.length≤c0) (h:zN.f k l0 a1=some (r1,r2)) :
  Calls Try.prog 46 #[.slice A0 l0.length c0, .string a1] w fun e w'=>e= .returned (.tuple #[.int .i64 r1, .bool r2])∧yR w w':=by
 have HR0:=zA.mk hr0;have HC0:=zA.mk hc0;clear hr0 hc0;have H:(zN.l0 k l0 a1 (l0.length:Int) 0 (l0.length:Int))=some (r1,r2):=h;clear h;have H':=zA.mk H;clear H
 go_enter Try.func46,Try.ntmps46
 go_wp2
 go_loopg [7,8] k (fun kq v7 v8 w'=>∃(x7_1:Int) (x8_1:Int),v7= .int .i64 x7_1∧v8= .int .i64 x8_1∧zA (zN.l0 kq l0 a1 (l0.length:Int) x7_1 x8_1=some (r1,r2))∧zA (kq≤k)∧yR w w')
 case atStart=>exact ⟨(0),((l0.length:Int)),Zf,Zf,H',⟨Nat.le_refl _⟩,by repeat (first|exact yR.refl _|apply yR.step)⟩
 case round=>
  clear H';(try clear p2);obtain ⟨x7_1,x8_1,rfl,rfl,HA,HK1,⟨m1,rfl⟩⟩:=hrel;cases gk with
  | zero=>exact absurd HA.out (by simp [zN.l0])
  | succ k1=>
   have H:=HA.out;clear HA;simp only [zN.l0] at H
   by_cases c3:x7_1 < x8_1
   ·rw [if_pos c3] at H
    have c3b0:=decide_eq_true c3;clear c3;obtain ⟨ji4,hji4⟩:∃j_:Int,(wrap64 ((IntKind.u64.wrap (wrap64 (x7_1 + x8_1))) / 2))=j_:=⟨_,rfl⟩
    replace H:(if 0≤(ji4) then (if (ji4) < (l0.length:Int) then ((ZH.f (rdOf ByteArray.empty l0 (ji4)) a1).bind fun t399=>(if t399=true then (zN.l0 k1 l0 a1 (l0.length:Int) (wrap64 ((ji4) + 1)) x8_1) else (zN.l0 k1 l0 a1 (l0.length:Int) x7_1 ji4))) else (none)) else (none))=some (r1,r2):=by first|(rw [hji4] at H;exact H)|(simp only [hji4] at H⊢;exact H)
    have hji4w:(IntKind.i64.wrap ((IntKind.u64.wrap (wrap64 (x7_1 + x8_1))) / 2))=ji4:=(zq _).trans hji4
    by_cases c5:0≤(ji4)
    ·rw [if_pos c5] at H
     have c5b0:=decide_eq_true c5;clear c5
     by_cases c6:(ji4) < (l0.length:Int)
     ·rw [if_pos c6] at H
      have c6b0:=decide_eq_true c6;clear c6;replace H:=ZzB H;obtain ⟨t399,A70,H⟩:=H;replace H:(if t399=true then (zN.l0 k1 l0 a1 (l0.length:Int) (wrap64 ((ji4) + 1)) x8_1) else (zN.l0 k1 l0 a1 (l0.length:Int) x7_1 ji4))=some (r1,r2):=H;have A7:=zA.mk A70;clear A70
      by_cases c8:t399=true
      ·subst c8
       have H1:(zN.l0 k1 l0 a1 (l0.length:Int) (wrap64 ((ji4) + 1)) x8_1)=some (r1,r2):=by rw [if_pos rfl] at H;exact H
       clear H;have H:=H1;clear H1;have H':=zA.mk H;clear H;have p398:0≤((ji4):Int):=Qa;have q398:(ji4) < (l0.length:Int):=Qa;obtain ⟨ad398,e398,hx398_0⟩:=Kd.at_string HR0.out (ji4) p398 q398;cases e398;replace p398:=eq_true p398;replace q398:=eq_true q398
       go_wp2_with (first|((with_reducible refine zo (f:=62) rfl ?_);refine yQ (some 27) rfl rfl Try.func62 (by kernel_rfl) rfl #[.string (rdOf ByteArray.empty l0 (ji4)), .string a1] rfl QT ?_;(with_reducible refine (ZH.calls (rdOf ByteArray.empty l0 (ji4)) a1 true _ A7.out).mono ?_);rintro e w' ⟨rfl,⟨nd,rfl⟩⟩;refine ⟨_,rfl,?_⟩))
       go_roundg k1
       case measure=>have:=HK1.out;omega
       case rel=>exact ⟨(wrap64 ((ji4) + 1)),(x8_1),Za,Zf,H',⟨by have:=HK1.out;omega⟩,by repeat (first|exact yR.refl _|apply yR.step)⟩
      ·replace c8:=Bool.eq_false_iff.mpr c8
       subst c8
       have H1:(zN.l0 k1 l0 a1 (l0.length:Int) x7_1 ji4)=some (r1,r2):=by rw [if_neg (show ¬(false=true) by decide)] at H;exact H
       clear H;have H:=H1;clear H1;have H':=zA.mk H;clear H;have p398:0≤((ji4):Int):=Qa;have q398:(ji4) < (l0.length:Int):=Qa;obtain ⟨ad398,e398,hx398_0⟩:=Kd.at_string HR0.out (ji4) p398 q398;cases e398;replace p398:=eq_true p398;replace q398:=eq_true q398
       go_wp2_with (first|((with_reducible refine zo (f:=62) rfl ?_);refine yQ (some 27) rfl rfl Try.func62 (by kernel_rfl) rfl #[.string (rdOf ByteArray.empty l0 (ji4)), .string a1] rfl QT ?_;(with_reducible refine (ZH.calls (rdOf ByteArray.empty l0 (ji4)) a1 false _ A7.out).mono ?_);rintro e w' ⟨rfl,⟨nd,rfl⟩⟩;refine ⟨_,rfl,?_⟩))
       go_roundg k1
       case measure=>have:=HK1.out;omega
       case rel=>exact ⟨(x7_1),(ji4),Zf,Za,H',⟨by have:=HK1.out;omega⟩,by repeat (first|exact yR.refl _|apply yR.step)⟩
     ·rw [if_neg c6] at H
      exact absurd H (by simp)
    ·rw [if_neg c5] at H
     exact absurd H (by simp)
   ·rw [if_neg c3] at H
    have c3b0:=decide_eq_false c3;clear c3
    by_cases c9:x7_1 < (l0.length:Int)
    ·rw [if_pos c9] at H
     have c9b0:=decide_eq_true c9;clear c9
     by_cases c10:0≤x7_1
     ·rw [if_pos c10] at H
      have c10b0:=decide_eq_true c10;clear c10
      by_cases c11:x7_1 < (l0.length:Int)
      ·rw [if_pos c11] at H
       have c11b0:=decide_eq_true c11;clear c11
       by_cases c12:(rdOf ByteArray.empty l0 x7_1).toList=a1.toList
       ·rw [if_pos c12] at H
        have c12b0:((rdOf ByteArray.empty l0 x7_1).toList == a1.toList)=true:=beq_iff_eq.mpr c12;have c12b1:((rdOf ByteArray.empty l0 x7_1).toList != a1.toList)=false:=bne_eq_false_iff_eq.mpr c12;clear c12;simp only [Option.some.injEq,Prod.mk.injEq] at H;obtain ⟨rfl,rfl⟩:=H;have p400:0≤(x7_1:Int):=Qa;have q400:x7_1 < (l0.length:Int):=Qa;obtain ⟨ad400,e400,hx400_0⟩:=Kd.at_string HR0.out x7_1 p400 q400;cases e400;replace p400:=eq_true p400;replace q400:=eq_true q400
        go_wp2
        go_ret2
        exact ⟨by first|rfl|(simp;done)|(simp [*];done),by repeat (first|exact yR.refl _|apply yR.step)⟩
       ·rw [if_neg c12] at H
        have c12b0:((rdOf ByteArray.empty l0 x7_1).toList == a1.toList)=false:=beq_eq_false_iff_ne.mpr c12;have c12b1:((rdOf ByteArray.empty l0 x7_1).toList != a1.toList)=true:=bne_iff_ne.mpr c12;replace H:=ZzB H;obtain ⟨t402,A130,H⟩:=H;replace H:(if t402=true then ((yg.f a1).bind fun t403=>(some (x7_1,t403))) else (some (x7_1,false)))=some (r1,r2):=H;have A13:=zA.mk A130;clear A130
        by_cases c14:t402=true
        ·subst c14
         have H1:((yg.f a1).bind fun t403=>(some (x7_1,t403)))=some (r1,r2):=by rw [if_pos rfl] at H;exact H
         clear H;have H:=H1;clear H1;replace H:=ZzB H;obtain ⟨t403,A150,H⟩:=H;replace H:(some (x7_1,t403))=some (r1,r2):=H;have A15:=zA.mk A150;clear A150;simp only [Option.some.injEq,Prod.mk.injEq] at H;obtain ⟨rfl,rfl⟩:=H;have p400:0≤(x7_1:Int):=Qa;have q400:x7_1 < (l0.length:Int):=Qa;obtain ⟨ad400,e400,hx400_0⟩:=Kd.at_string HR0.out x7_1 p400 q400;cases e400;replace p400:=eq_true p400;replace q400:=eq_true q400;have p401:0≤(x7_1:Int):=Qa;have q401:x7_1 < (l0.length:Int):=Qa;obtain ⟨ad401,e401,hx401_0⟩:=Kd.at_string HR0.out x7_1 p401 q401;obtain rfl:ad400=ad401:=(by injection e401);replace p401:=eq_true p401;replace q401:=eq_true q401
         go_wp2_with (first|(go_at_call 63;(with_reducible refine (yg.calls (rdOf ByteArray.empty l0 x7_1) true _ A13.out).mono ?_);rintro e w' ⟨rfl,⟨nd,rfl⟩⟩;clear A13)|(go_at_call 63;(with_reducible refine (yg.calls a1 t403 _ A15.out).mono ?_);rintro e w' ⟨rfl,⟨nd,rfl⟩⟩;clear A15))
         go_ret2
         exact ⟨by first|rfl|(simp;done)|(simp [*];done),by repeat (first|exact yR.refl _|apply yR.step)⟩
        ·replace c14:=Bool.eq_false_iff.mpr c14
         subst c14
         have H1:(some (x7_1,false))=some (r1,r2):=by rw [if_neg (show ¬(false=true) by decide)] at H;exact H
         clear H;have H:=H1;clear H1;simp only [Option.some.injEq,Prod.mk.injEq] at H;obtain ⟨rfl,rfl⟩:=H;have p400:0≤(x7_1:Int):=Qa;have q400:x7_1 < (l0.length:Int):=Qa;obtain ⟨ad400,e400,hx400_0⟩:=Kd.at_string HR0.out x7_1 p400 q400;cases e400;replace p400:=eq_true p400;replace q400:=eq_true q400;have p401:0≤(x7_1:Int):=Qa;have q401:x7_1 < (l0.length:Int):=Qa;obtain ⟨ad401,e401,hx401_0⟩:=Kd.at_string HR0.out x7_1 p401 q401;obtain rfl:ad400=ad401:=(by injection e401);replace p401:=eq_true p401;replace q401:=eq_true q401
         go_wp2_with (first|(go_at_call 63;(with_reducible refine (yg.calls (rdOf ByteArray.empty l0 x7_1) false _ A13.out).mono ?_);rintro e w' ⟨rfl,⟨nd,rfl⟩⟩))
         go_ret2
         exact ⟨by first|rfl|(simp;done)|(simp [*];done),by repeat (first|exact yR.refl _|apply yR.step)⟩
      ·rw [if_neg c11] at H
       exact absurd H (by simp)
     ·rw [if_neg c10] at H
      exact absurd H (by simp)
    ·rw [if_neg c9] at H
     have c9b0:=decide_eq_false c9;clear c9;simp only [Option.some.injEq,Prod.mk.injEq] at H;obtain ⟨rfl,rfl⟩:=H
     go_wp2
     go_ret2
     exact ⟨by first|rfl|(simp;done)|(simp [*];done),by repeat (first|exact yR.refl _|apply yR.step)⟩
def zv.l0:Nat→List ByteArray→ByteArray→Int→Int→Option (Int)
 | 0,_,_,_,_=>none
 | k + 1,x0,x1,x7,x8=>if x8 < x7 then (if 0≤x8 then (if x8 < (x0.length:Int) then (if x1.toList=(rdOf ByteArray.empty x0 x8).toList then (some x8) else (zv.l0 k x0 x1 x7 (wrap64 (x8 + 1)))) else (none)) else (none)) else (some (-1))
def zv.f (k:Nat) (l0:List ByteArray) (a1:ByteArray):Option (Int):=zv.l0 k l0 a1 (l0.length:Int) 0
theorem zv.mono_l:∀k,(∀y0 y1 y2 y3,LeO (zv.l0 k y0 y1 y2 y3) (zv.l0 (k + 1) y0 y1 y2 y3))
 | 0=>fun _ _ _ _ r h=>by simp [zv.l0] at h
 | k + 1=>by
  have ih0:=zv.mono_l k
  ·intro y0 y1 y2 y3
   unfold zv.l0
   repeat' first
   | with_reducible first|exact ih0 _ _ _ _|exact LeO.refl _|exact LeO.none _|refine LeO.ite ?_ ?_|refine LeO.bind ?_ (fun _=> ?_)
   | exact ih0 _ _ _ _|exact LeO.none _|refine LeO.ite ?_ ?_|refine LeO.bind ?_ (fun _=> ?_)
theorem zv.mono:∀a0 a1 k,LeO (zv.f k a0 a1) (zv.f (k + 1) a0 a1):=by
 intro a0 a1 k;have ih0:=zv.mono_l k
 unfold zv.f
 repeat' first
   | with_reducible first|exact ih0 _ _ _ _|exact LeO.refl _|exact LeO.none _|refine LeO.ite ?_ ?_|refine LeO.bind ?_ (fun _=> ?_)
   | exact ih0 _ _ _ _|exact LeO.none _|refine LeO.ite ?_ ?_|refine LeO.bind ?_ (fun _=> ?_)
set_option maxHeartbeats 8000000 in
set_option maxRecDepth 100000 in
theorem zv.calls (k:Nat) (A0:Option Addr) (c0:Nat) (l0:List ByteArray) (a1:ByteArray) (r:Int) (w:World) (hr0:Kd.C Kd.string w A0 l0.length l0) (hc0:l0.length≤c0) (h:zv.f k l0 a1=some r) :
  Calls Try.prog 64 #[.slice A0 l0.length c0, .string a1] w fun e w'=>e= .returned (.int .i64 r)∧yR w w':=by
 have HR0:=zA.mk hr0;have HC0:=zA.mk hc0;clear hr0 hc0;have H:(zv.l0 k l0 a1 (l0.length:Int) 0)=some r:=h;clear h;have H':=zA.mk H;clear H
 go_enter Try.func64,Try.ntmps64
 go_wp2
 go_loopg [8] k (fun kq v8 w'=>∃(x8_1:Int),v8= .int .i64 x8_1∧zA (zv.l0 kq l0 a1 (l0.length:Int) x8_1=some r)∧zA (kq≤k)∧yR w w')
 case atStart=>exact ⟨(0),Zf,H',⟨Nat.le_refl _⟩,by repeat (first|exact yR.refl _|apply yR.step)⟩
 case round=>
  clear H';(try clear p2);obtain ⟨x8_1,rfl,HA,HK1,⟨m1,rfl⟩⟩:=hrel;cases gk with
  | zero=>exact absurd HA.out (by simp [zv.l0])
  | succ k1=>
   have H:=HA.out;clear HA;simp only [zv.l0] at H
   by_cases c3:x8_1 < (l0.length:Int)
   ·rw [if_pos c3] at H
    have c3b0:=decide_eq_true c3;clear c3
    by_cases c4:0≤x8_1
    ·rw [if_pos c4] at H
     have c4b0:=decide_eq_true c4;clear c4
     by_cases c5:x8_1 < (l0.length:Int)
     ·rw [if_pos c5] at H
      have c5b0:=decide_eq_true c5;clear c5
      by_cases c6:a1.toList=(rdOf ByteArray.empty l0 x8_1).toList
      ·rw [if_pos c6] at H
       have c6b0:(a1.toList == (rdOf ByteArray.empty l0 x8_1).toList)=true:=beq_iff_eq.mpr c6;have c6b1:(a1.toList != (rdOf ByteArray.empty l0 x8_1).toList)=false:=bne_eq_false_iff_eq.mpr c6;clear c6;obtain rfl:=Option.some.inj H;have p404:0≤(x8_1:Int):=Qa;have q404:x8_1 < (l0.length:Int):=Qa;obtain ⟨ad404,e404,hx404_0⟩:=Kd.at_string HR0.out x8_1 p404 q404;cases e404;replace p404:=eq_true p404;replace q404:=eq_true q404
       go_wp2
       go_ret
       exact ⟨by first|rfl|(simp;done)|(simp [*];done),by repeat (first|exact yR.refl _|apply yR.step)⟩
      ·rw [if_neg c6] at H
       have c6b0:(a1.toList == (rdOf ByteArray.empty l0 x8_1).toList)=false:=beq_eq_false_iff_ne.mpr c6;have c6b1:(a1.toList != (rdOf ByteArray.empty l0 x8_1).toList)=true:=bne_iff_ne.mpr c6;have H':=zA.mk H;clear H;have p404:0≤(x8_1:Int):=Qa;have q404:x8_1 < (l0.length:Int):=Qa;obtain ⟨ad404,e404,hx404_0⟩:=Kd.at_string HR0.out x8_1 p404 q404;cases e404;replace p404:=eq_true p404;replace q404:=eq_true q404
       go_wp2
       go_roundg k1
       case measure=>have:=HK1.out;omega
       case rel=>exact ⟨(wrap64 (x8_1 + 1)),Zf,H',⟨by have:=HK1.out;omega⟩,by repeat (first|exact yR.refl _|apply yR.step)⟩
     ·rw [if_neg c5] at H
      exact absurd H (by simp)
    ·rw [if_neg c4] at H
     exact absurd H (by simp)
   ·rw [if_neg c3] at H
    have c3b0:=decide_eq_false c3;clear c3;obtain rfl:=Option.some.inj H
    go_wp2
    go_ret
    exact ⟨by first|rfl|(simp;done)|(simp [*];done),by repeat (first|exact yR.refl _|apply yR.step)⟩
def yM.f (k:Nat) (l0:List ByteArray) (a1:ByteArray):Option (Bool):=(zv.f k l0 a1).bind fun t405=>(some (decide (t405≥0)))
theorem yM.mono:∀a0 a1 k,LeO (yM.f k a0 a1) (yM.f (k + 1) a0 a1):=by
 intro a0 a1 k
 unfold yM.f
 repeat' first
   | with_reducible first|exact zv.mono _ _ _|exact LeO.refl _|exact LeO.none _|refine LeO.ite ?_ ?_|refine LeO.bind ?_ (fun _=> ?_)
   | exact zv.mono _ _ _|exact LeO.none _|refine LeO.ite ?_ ?_|refine LeO.bind ?_ (fun _=> ?_)
set_option maxHeartbeats 8000000 in
set_option maxRecDepth 100000 in
theorem yM.calls (k:Nat) (A0:Option Addr) (c0:Nat) (l0:List ByteArray) (a1:ByteArray) (r:Bool) (w:World) (hr0:Kd.C Kd.string w A0 l0.length l0) (hc0:l0.length≤c0) (h:yM.f k l0 a1=some r) :
  Calls Try.prog 47 #[.slice A0 l0.length c0, .string a1] w fun e w'=>e= .returned (.bool r)∧yR w w':=by
 have HR0:=zA.mk hr0;have HC0:=zA.mk hc0;clear hr0 hc0;have H:((zv.f k l0 a1).bind fun t405=>(some (decide (t405≥0))))=some r:=h;clear h;replace H:=ZzB H;obtain ⟨t405,A30,H⟩:=H;replace H:(some (decide (t405≥0)))=some r:=H;have A3:=zA.mk A30;clear A30;obtain rfl:=Option.some.inj H
 go_enter Try.func47,Try.ntmps47
 go_wp2_with (first|((with_reducible refine zo (f:=64) rfl ?_);refine yQ (some 7) rfl rfl Try.func64 (by kernel_rfl) rfl #[.slice A0 l0.length c0, .string a1] rfl Q4 ?_;(with_reducible refine (zv.calls k _ _ l0 a1 t405 _ ?side1 ?side2 A3.out).mono ?_);(case side1=>exact Qo HR0.out);(case side2=>exact HC0.out);rintro e w' ⟨rfl,⟨nd,rfl⟩⟩;refine ⟨_,rfl,?_⟩))
 go_ret
 exact ⟨by first|rfl|(simp;done)|(simp [*];done),by repeat (first|exact yR.refl _|apply yR.step)⟩
def ZZ.f (k:Nat) (l0:List ByteArray) (a1:ByteArray):Option (Bool):=(yi.f k l0).bind fun t406=>(if t406=true then ((zN.f k l0 a1).bind fun bt407=>(some bt407.2)) else ((yM.f k l0 a1).bind fun t409=>(some t409)))
theorem ZZ.mono:∀a0 a1 k,LeO (ZZ.f k a0 a1) (ZZ.f (k + 1) a0 a1):=by
 intro a0 a1 k
 unfold ZZ.f
 repeat' first
   | with_reducible first|exact yi.mono _ _|exact zN.mono _ _ _|exact yM.mono _ _ _|exact LeO.refl _|exact LeO.none _|refine LeO.ite ?_ ?_|refine LeO.bind ?_ (fun _=> ?_)
   | exact yi.mono _ _|exact zN.mono _ _ _|exact yM.mono _ _ _|exact LeO.none _|refine LeO.ite ?_ ?_|refine LeO.bind ?_ (fun _=> ?_)
set_option maxHeartbeats 8000000 in
set_option maxRecDepth 100000 in
theorem ZZ.calls (k:Nat) (A0:Option Addr) (c0:Nat) (l0:List ByteArray) (a1:ByteArray) (r:Bool) (w:World) (hr0:Kd.C Kd.string w A0 l0.length l0) (hc0:l0.length≤c0) (h:ZZ.f k l0 a1=some r) :
  Calls Try.prog 28 #[.slice A0 l0.length c0, .string a1] w fun e w'=>e= .returned (.bool r)∧yR w w':=by
 have HR0:=zA.mk hr0;have HC0:=zA.mk hc0;clear hr0 hc0;have H:((yi.f k l0).bind fun t406=>(if t406=true then ((zN.f k l0 a1).bind fun bt407=>(some bt407.2)) else ((yM.f k l0 a1).bind fun t409=>(some t409))))=some r:=h;clear h;replace H:=ZzB H;obtain ⟨t406,A30,H⟩:=H;replace H:(if t406=true then ((zN.f k l0 a1).bind fun bt407=>(some bt407.2)) else ((yM.f k l0 a1).bind fun t409=>(some t409)))=some r:=H;have A3:=zA.mk A30;clear A30
 by_cases c4:t406=true
 ·subst c4
  have H1:((zN.f k l0 a1).bind fun bt407=>(some bt407.2))=some r:=by rw [if_pos rfl] at H;exact H
  clear H;have H:=H1;clear H1;replace H:=ZzB H;obtain ⟨⟨t407,t408⟩,A50,H⟩:=H;replace H:(some t408)=some r:=H;have A5:=zA.mk A50;clear A50;obtain rfl:=Option.some.inj H
  go_enter Try.func28,Try.ntmps28
  go_wp2_with (first|((with_reducible refine zo (f:=45) rfl ?_);refine yQ (some 8) rfl rfl Try.func45 (by kernel_rfl) rfl #[.slice A0 l0.length c0] rfl Q4 ?_;(with_reducible refine (yi.calls k _ _ l0 true _ ?side1 ?side2 A3.out).mono ?_);(case side1=>exact Qo HR0.out);(case side2=>exact HC0.out);rintro e w' ⟨rfl,⟨nd,rfl⟩⟩;refine ⟨_,rfl,?_⟩)|((with_reducible refine zo (f:=46) rfl ?_);refine yQ (some 12) rfl rfl Try.func46 (by kernel_rfl) rfl #[.slice A0 l0.length c0, .string a1] rfl Q4 ?_;(with_reducible refine (zN.calls k _ _ l0 a1 t407 t408 _ ?side1 ?side2 A5.out).mono ?_);(case side1=>exact Qo HR0.out);(case side2=>exact HC0.out);rintro e w' ⟨rfl,⟨nd,rfl⟩⟩;refine ⟨_,rfl,?_⟩))
  go_ret
  exact ⟨by first|rfl|(simp;done)|(simp [*];done),by repeat (first|exact yR.refl _|apply yR.step)⟩
 ·replace c4:=Bool.eq_false_iff.mpr c4
  subst c4
  have H1:((yM.f k l0 a1).bind fun t409=>(some t409))=some r:=by rw [if_neg (show ¬(false=true) by decide)] at H;exact H
  clear H;have H:=H1;clear H1;replace H:=ZzB H;obtain ⟨t409,A60,H⟩:=H;replace H:(some t409)=some r:=H;have A6:=zA.mk A60;clear A60;obtain rfl:=Option.some.inj H
  go_enter Try.func28,Try.ntmps28
  go_wp2_with (first|((with_reducible refine zo (f:=45) rfl ?_);refine yQ (some 8) rfl rfl Try.func45 (by kernel_rfl) rfl #[.slice A0 l0.length c0] rfl Q4 ?_;(with_reducible refine (yi.calls k _ _ l0 false _ ?side1 ?side2 A3.out).mono ?_);(case side1=>exact Qo HR0.out);(case side2=>exact HC0.out);rintro e w' ⟨rfl,⟨nd,rfl⟩⟩;refine ⟨_,rfl,?_⟩)|((with_reducible refine zo (f:=47) rfl ?_);refine yQ (some 18) rfl rfl Try.func47 (by kernel_rfl) rfl #[.slice A0 l0.length c0, .string a1] rfl Q4 ?_;(with_reducible refine (yM.calls k _ _ l0 a1 t409 _ ?side1 ?side2 A6.out).mono ?_);(case side1=>exact Qo HR0.out);(case side2=>exact HC0.out);rintro e w' ⟨rfl,⟨nd,rfl⟩⟩;refine ⟨_,rfl,?_⟩))
  go_ret
  exact ⟨by first|rfl|(simp;done)|(simp [*];done),by repeat (first|exact yR.refl _|apply yR.step)⟩
end Go.Proofs.Ytlanhkekjhlmjaa.HGuessOf
