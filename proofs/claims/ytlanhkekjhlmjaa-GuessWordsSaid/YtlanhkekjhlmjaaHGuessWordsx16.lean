-- Written by plus.py for this claim.
import Derived.Test.YtlanhkekjhlmjaaSGuessWordsVZip
import Derived.Test.YtlanhkekjhlmjaaHGuessWordsx0
import Derived.Test.YtlanhkekjhlmjaaHGuessWordsx1
namespace Go.Proofs.Ytlanhkekjhlmjaa.HGuessWords
open Go.RowKit Go.Proofs.YtlanhkekjhlmjaaW.PrintWords Go.Proofs.YtlanhkekjhlmjaaW.PrintLast Go.Proofs.YtlanhkekjhlmjaaW.PrintMore
attribute [local go_sem] yq yr ZM ZN yj yk yt yu   -- for this text's walks alone
set_option linter.unusedVariables false
set_option linter.unusedSimpArgs false
def zX.l0:Nat→List ByteArray→ByteArray→Int→Int→Option (List ByteArray)
 | 0,_,_,_,_=>none
 | k + 1,x0,x1,x5,x6=>if x5 < x6 then (if 0≤(wrap64 (Int.tdiv (wrap64 (x5 + x6)) 2)) then (if (wrap64 (Int.tdiv (wrap64 (x5 + x6)) 2)) < (x0.length:Int) then (if (Op.bytesLess ((rdOf ByteArray.empty x0 (wrap64 (Int.tdiv (wrap64 (x5 + x6)) 2))).toList) x1.toList)=true then (zX.l0 k x0 x1 (wrap64 ((wrap64 (Int.tdiv (wrap64 (x5 + x6)) 2)) + 1)) x6) else (zX.l0 k x0 x1 x5 (wrap64 (Int.tdiv (wrap64 (x5 + x6)) 2)))) else (none)) else (none)) else (if x5 < (x0.length:Int) then (if 0≤x5 then (if (rdOf ByteArray.empty x0 x5).toList=x1.toList then (some x0) else ((some (([]:List ByteArray):List ByteArray)).bind fun y380=>(if x5≤(x0.length:Int) then (if y380.length + (x0.take (x5:Int).toNat).length < 8796093022208 then ((some (y380 ++ (x0.take (x5:Int).toNat):List ByteArray)).bind fun y384=>((some (([x1]:List ByteArray):List ByteArray)).bind fun y387=>(if y384.length + y387.length < 8796093022208 then ((some (y384 ++ y387:List ByteArray)).bind fun y390=>(if y390.length + (x0.drop (x5:Int).toNat).length < 8796093022208 then (some (y390 ++ (x0.drop (x5:Int).toNat))) else (none))) else (none)))) else (none)) else (none)))) else (none)) else ((some (([]:List ByteArray):List ByteArray)).bind fun y397=>(if 0≤x5 then (if x5≤(x0.length:Int) then (if y397.length + (x0.take (x5:Int).toNat).length < 8796093022208 then ((some (y397 ++ (x0.take (x5:Int).toNat):List ByteArray)).bind fun y401=>((some (([x1]:List ByteArray):List ByteArray)).bind fun y404=>(if y401.length + y404.length < 8796093022208 then ((some (y401 ++ y404:List ByteArray)).bind fun y407=>(if y407.length + (x0.drop (x5:Int).toNat).length < 8796093022208 then (some (y407 ++ (x0.drop (x5:Int).toNat))) else (none))) else (none)))) else (none)) else (none)) else (none))))
def zX.f (k:Nat) (l0:List ByteArray) (a1:ByteArray):Option (List ByteArray):=zX.l0 k l0 a1 0 (l0.length:Int)
theorem zX.mono_l:∀k,(∀y0 y1 y2 y3,LeO (zX.l0 k y0 y1 y2 y3) (zX.l0 (k + 1) y0 y1 y2 y3))
 | 0=>fun _ _ _ _ r h=>by simp [zX.l0] at h
 | k + 1=>by
  have ih0:=zX.mono_l k
  ·intro y0 y1 y2 y3
   unfold zX.l0
   repeat' first
   | with_reducible first|exact ih0 _ _ _ _|exact LeO.refl _|exact LeO.none _|refine LeO.ite ?_ ?_|refine LeO.bind ?_ (fun _=> ?_)
   | exact ih0 _ _ _ _|exact LeO.none _|refine LeO.ite ?_ ?_|refine LeO.bind ?_ (fun _=> ?_)
theorem zX.mono:∀a0 a1 k,LeO (zX.f k a0 a1) (zX.f (k + 1) a0 a1):=by
 intro a0 a1 k;have ih0:=zX.mono_l k
 unfold zX.f
 repeat' first
   | with_reducible first|exact ih0 _ _ _ _|exact LeO.refl _|exact LeO.none _|refine LeO.ite ?_ ?_|refine LeO.bind ?_ (fun _=> ?_)
   | exact ih0 _ _ _ _|exact LeO.none _|refine LeO.ite ?_ ?_|refine LeO.bind ?_ (fun _=> ?_)
def zX.T9:Bool × List (List Nat × List Nat):=(true,[([],[]),([],[]),([],[]),([1,2],[1,2]),([0,3],[0,3]),([],[]),([5],[5]),([4,6,4],[4,6]),([],[]),([],[]),([8,9],[8,9]),([7,10,7],[7,10]),([11,11,0,1,2,3,4,5,6,7,8,9,10,11],[11])])
def zX.B9:List Nat:= [0,0,0,6,15,0,32,127,0,0,768,2047,4095]
theorem zX.tab9:rtab .any (qV Try.f39 9)=zX.T9:=by kernel_rfl
theorem zX.bits9:Zk zX.T9.2 zX.B9=true:=by kernel_rfl
set_option maxHeartbeats 8000000 in
set_option maxRecDepth 100000 in
theorem zX.calls (k:Nat) (A0:Option Addr) (c0:Nat) (l0:List ByteArray) (a1:ByteArray) (r:List ByteArray) (w:World) (hr0:Kd.C Kd.string w A0 l0.length l0) (hc0:l0.length≤c0) (h:zX.f k l0 a1=some r) :
  Calls Try.prog 39 #[.slice A0 l0.length c0, .string a1] w fun e w'=>∃v0_:Value,e= .returned (v0_)∧(v0_= .slice A0 l0.length c0∧r=l0∨Kd.R Kd.string 9 w' w.heap.size (fun _=>True) v0_ r)∧Below w.heap.size w w':=by
 have HR0:=zA.mk hr0;have HC0:=zA.mk hc0;clear hr0 hc0;have HB:=zA.mk (Below.refl w.heap.size w);have H:(zX.l0 k l0 a1 0 (l0.length:Int))=some r:=h;clear h;have H':=zA.mk H;clear H
 go_enter Try.func39,Try.ntmps39
 go_wp2
 go_loopg [5,6] k (fun kq v5 v6 w'=>∃(x5_1:Int) (x6_1:Int),v5= .int .i64 x5_1∧v6= .int .i64 x6_1∧zA (zX.l0 kq l0 a1 x5_1 x6_1=some r)∧zA (kq≤k)∧zA (Below w.heap.size w w'))
 case atStart=>exact ⟨(0),((l0.length:Int)),Zb,Zb,H',⟨Nat.le_refl _⟩,⟨by repeat (first|(with_reducible first|exact HB.out|apply zG|apply zC|apply zF)|exact HB.out)⟩⟩
 case round=>
  clear H';(try clear p2);obtain ⟨x5_1,x6_1,rfl,rfl,HA,HK1,HB⟩:=hrel;cases gk with
  | zero=>exact absurd HA.out (by simp [zX.l0])
  | succ k1=>
   have H:=HA.out;clear HA;simp only [zX.l0] at H
   by_cases c3:x5_1 < x6_1
   ·rw [if_pos c3] at H
    have c3b0:=decide_eq_true c3;clear c3;obtain ⟨ji4,hji4⟩:∃j_:Int,(wrap64 (Int.tdiv (wrap64 (x5_1 + x6_1)) 2))=j_:=⟨_,rfl⟩
    replace H:(if 0≤(ji4) then (if (ji4) < (l0.length:Int) then (if (Op.bytesLess ((rdOf ByteArray.empty l0 (ji4)).toList) a1.toList)=true then (zX.l0 k1 l0 a1 (wrap64 ((ji4) + 1)) x6_1) else (zX.l0 k1 l0 a1 x5_1 ji4)) else (none)) else (none))=some r:=by first|(rw [hji4] at H;exact H)|(simp only [hji4] at H⊢;exact H)
    have hji4w:(IntKind.i64.wrap (Int.tdiv (wrap64 (x5_1 + x6_1)) 2))=ji4:=(zx _).trans hji4
    by_cases c5:0≤(ji4)
    ·rw [if_pos c5] at H
     have c5b0:=decide_eq_true c5;clear c5
     by_cases c6:(ji4) < (l0.length:Int)
     ·rw [if_pos c6] at H
      have c6b0:=decide_eq_true c6;clear c6
      by_cases c7:(Op.bytesLess ((rdOf ByteArray.empty l0 (ji4)).toList) a1.toList)=true
      ·rw [if_pos c7] at H
       have c7b0:(Op.bytesLess ((rdOf ByteArray.empty l0 (ji4)).toList) a1.toList)=true:=c7;clear c7;have H':=zA.mk H;clear H;have p378:0≤((ji4):Int):=Qa;have q378:(ji4) < (l0.length:Int):=Qa;obtain ⟨ad378,e378,hx378_0⟩:=Kd.at_string HR0.out (ji4) p378 q378;cases e378;replace hx378_0:=(HB.out.cell (ZzA w _ hx378_0)).trans hx378_0;replace p378:=eq_true p378;replace q378:=eq_true q378
       go_wp2
       go_roundg k1
       case measure=>have:=HK1.out;omega
       case rel=>exact ⟨(wrap64 ((ji4) + 1)),(x6_1),Q6,Zb,H',⟨by have:=HK1.out;omega⟩,⟨by repeat (first|(with_reducible first|exact HB.out|apply zG|apply zC|apply zF)|exact HB.out)⟩⟩
      ·rw [if_neg c7] at H
       have c7b0:(Op.bytesLess ((rdOf ByteArray.empty l0 (ji4)).toList) a1.toList)=false:=by simpa using c7
       clear c7;have H':=zA.mk H;clear H;have p378:0≤((ji4):Int):=Qa;have q378:(ji4) < (l0.length:Int):=Qa;obtain ⟨ad378,e378,hx378_0⟩:=Kd.at_string HR0.out (ji4) p378 q378;cases e378;replace hx378_0:=(HB.out.cell (ZzA w _ hx378_0)).trans hx378_0;replace p378:=eq_true p378;replace q378:=eq_true q378
       go_wp2
       go_roundg k1
       case measure=>have:=HK1.out;omega
       case rel=>exact ⟨(x5_1),(ji4),Zb,Q6,H',⟨by have:=HK1.out;omega⟩,⟨by repeat (first|(with_reducible first|exact HB.out|apply zG|apply zC|apply zF)|exact HB.out)⟩⟩
     ·rw [if_neg c6] at H
      exact absurd H (by simp)
    ·rw [if_neg c5] at H
     exact absurd H (by simp)
   ·rw [if_neg c3] at H
    have c3b0:=decide_eq_false c3;clear c3
    by_cases c8:x5_1 < (l0.length:Int)
    ·rw [if_pos c8] at H
     have c8b0:=decide_eq_true c8;clear c8
     by_cases c9:0≤x5_1
     ·rw [if_pos c9] at H
      have c9b0:=decide_eq_true c9;clear c9
      by_cases c10:(rdOf ByteArray.empty l0 x5_1).toList=a1.toList
      ·rw [if_pos c10] at H
       have c10b0:((rdOf ByteArray.empty l0 x5_1).toList == a1.toList)=true:=beq_iff_eq.mpr c10;have c10b1:((rdOf ByteArray.empty l0 x5_1).toList != a1.toList)=false:=bne_eq_false_iff_eq.mpr c10;clear c10;obtain rfl:=Option.some.inj H;have p379:0≤(x5_1:Int):=Qa;have q379:x5_1 < (l0.length:Int):=Qa;obtain ⟨ad379,e379,hx379_0⟩:=Kd.at_string HR0.out x5_1 p379 q379;cases e379;replace hx379_0:=(HB.out.cell (ZzA w _ hx379_0)).trans hx379_0;replace p379:=eq_true p379;replace q379:=eq_true q379
       go_wp2
       go_ret
       exact ⟨_,by first|rfl|(simp [zS,zT] <;> rfl)|(simp [*,zS,zT] <;> rfl),(by first|exact .inl ⟨rfl,rfl⟩|exact .inl rfl|(left;simp)),by repeat (first|(with_reducible first|exact HB.out|apply zG|apply zC|apply zF)|exact HB.out)⟩
      ·rw [if_neg c10] at H
       have c10b0:((rdOf ByteArray.empty l0 x5_1).toList == a1.toList)=false:=beq_eq_false_iff_ne.mpr c10;have c10b1:((rdOf ByteArray.empty l0 x5_1).toList != a1.toList)=true:=bne_iff_ne.mpr c10;obtain ⟨y380,hy380⟩:∃y_:List ByteArray,y_=(([]:List ByteArray)):=⟨_,rfl⟩;replace H:(if x5_1≤(l0.length:Int) then (if y380.length + (l0.take (x5_1:Int).toNat).length < 8796093022208 then ((some (y380 ++ (l0.take (x5_1:Int).toNat):List ByteArray)).bind fun y384=>((some (([a1]:List ByteArray):List ByteArray)).bind fun y387=>(if y384.length + y387.length < 8796093022208 then ((some (y384 ++ y387:List ByteArray)).bind fun y390=>(if y390.length + (l0.drop (x5_1:Int).toNat).length < 8796093022208 then (some (y390 ++ (l0.drop (x5_1:Int).toNat))) else (none))) else (none)))) else (none)) else (none))=some r:=Qb hy380 H;have Ny380:=zA.mk hy380;clear hy380;have c11b0:=eq_true (Qa:0≤x5_1)
       by_cases c12:x5_1≤(l0.length:Int)
       ·rw [if_pos c12] at H
        have c12b0:=eq_true c12;have c12b1:=decide_eq_true c12;clear c12
        by_cases c13:y380.length + (l0.take (x5_1:Int).toNat).length < 8796093022208
        ·rw [if_pos c13] at H
         have LMc13:=zA.mk c13;clear c13;obtain ⟨y384,hy384⟩:∃y_:List ByteArray,y_=(y380 ++ (l0.take (x5_1:Int).toNat)):=⟨_,rfl⟩;replace H:((some (([a1]:List ByteArray):List ByteArray)).bind fun y387=>(if y384.length + y387.length < 8796093022208 then ((some (y384 ++ y387:List ByteArray)).bind fun y390=>(if y390.length + (l0.drop (x5_1:Int).toNat).length < 8796093022208 then (some (y390 ++ (l0.drop (x5_1:Int).toNat))) else (none))) else (none)))=some r:=Qb hy384 H;have Ny384:=zA.mk hy384;clear hy384;obtain ⟨y387,hy387⟩:∃y_:List ByteArray,y_=(([a1]:List ByteArray)):=⟨_,rfl⟩;replace H:(if y384.length + y387.length < 8796093022208 then ((some (y384 ++ y387:List ByteArray)).bind fun y390=>(if y390.length + (l0.drop (x5_1:Int).toNat).length < 8796093022208 then (some (y390 ++ (l0.drop (x5_1:Int).toNat))) else (none))) else (none))=some r:=Qb hy387 H;have Ny387:=zA.mk hy387;clear hy387
         by_cases c14:y384.length + y387.length < 8796093022208
         ·rw [if_pos c14] at H
          have LMc14:=zA.mk c14;clear c14;obtain ⟨y390,hy390⟩:∃y_:List ByteArray,y_=(y384 ++ y387):=⟨_,rfl⟩;replace H:(if y390.length + (l0.drop (x5_1:Int).toNat).length < 8796093022208 then (some (y390 ++ (l0.drop (x5_1:Int).toNat))) else (none))=some r:=Qb hy390 H;have Ny390:=zA.mk hy390;clear hy390;have c15b0:=eq_true (Qa:0≤x5_1);have c16b0:=eq_true (Qa:x5_1≤(l0.length:Int))
          by_cases c17:y390.length + (l0.drop (x5_1:Int).toNat).length < 8796093022208
          ·rw [if_pos c17] at H
           have LMc17:=zA.mk c17;clear c17;obtain ⟨y394,hy394⟩:∃y_:List ByteArray,y_=(y390 ++ (l0.drop (x5_1:Int).toNat)):=⟨_,rfl⟩;replace H:(some y394)=some r:=Qb hy394 H;have Ny394:=zA.mk hy394;clear hy394;obtain rfl:=Option.some.inj H;have p379:0≤(x5_1:Int):=Qa;have q379:x5_1 < (l0.length:Int):=Qa;obtain ⟨ad379,e379,hx379_0⟩:=Kd.at_string HR0.out x5_1 p379 q379;cases e379;replace hx379_0:=(HB.out.cell (ZzA w _ hx379_0)).trans hx379_0;replace p379:=eq_true p379;replace q379:=eq_true q379
           try go_wp2
           have n0_:=zA.mk (zF HB.out);clear HB;have HB:=n0_;clear n0_;obtain ⟨i019,hi019,_,hsz19,_⟩:=info_parts Zu;obtain ⟨hcut19,hA19,hC19⟩:=Ye (P:=Try.prog) Value.string (⟨#[]⟩:ByteArray) 32 9 .i64 Try.underlying32 hi019 hsz19 (some ad379) c0 l0 x5_1 (Qa) (Qa) HC0.out;have HR383:=zA.mk (Kd.C_of_reads (h1:=fun _=>rfl) (hA19 _ (Kd.reads_of_C HR0.out)));have HC383:=zA.mk hC19;clear hA19 hC19 hi019 hsz19;obtain ⟨i020,hi020,_,hsz20,_⟩:=info_parts Zu;obtain ⟨A20,hcut20,hA20,hC20⟩:=qM (P:=Try.prog) Value.string (⟨#[]⟩:ByteArray) 32 9 .i64 Try.underlying32 hi020 hsz20 (some ad379) c0 l0 x5_1 (Qa) (Qa) HC0.out;have HR393:=zA.mk (Kd.C_of_reads (h1:=fun _=>rfl) (hA20 _ (Kd.reads_of_C HR0.out)));have HC393:=zA.mk hC20;clear hA20 hC20 hi020 hsz20;refine Zr (n:=13) (S:=fun w'=>True) (ds:= []) #[false,false,false,false,false,false,false,false,false,false,false,false,false] (by kernel_rfl) rfl rfl trivial (fun hHeld=> ?_);refine ZJ zX.tab9 zX.bits9 (fun HT_ HW_=> ?_)
           generalize wr.drew=w18 at HB HR383 HR393 hHeld⊢
           refine yM (i:=1) (N:=some 40) (v:= ?_) (a':= ?_) #[false,true,false,false,false,false,false,false,false,false,false,false,false] rfl rfl (yD HT_.out (by kernel_rfl)) (fun _ _ _ h=>h) (Or.inl ⟨by rfl,?_⟩) ?_ ?_;rotate_left
           ·intro w'
            go_simp
            with_reducible rfl
           rotate_left
           ·simp only [Act.put,List.setIfInBounds_toArray,List.set_cons_zero,List.set_cons_succ,zx,zy]
            rfl
           refine yM (i:=2) (N:=some 41) (v:= ?_) (a':= ?_) #[false,true,true,false,false,false,false,false,false,false,false,false,false] rfl rfl (yD HT_.out (by kernel_rfl)) (fun _ _ _ h=>h) (Or.inl ⟨by rfl,?_⟩) ?_ ?_;rotate_left
           ·intro w'
            go_simp
            with_reducible rfl
           rotate_left
           ·simp only [Act.put,List.setIfInBounds_toArray,List.set_cons_zero,List.set_cons_succ,zx,zy]
            rfl
           refine yM (i:=3) (N:=some 42) (v:= ?_) (a':= ?_) #[false,true,true,true,false,false,false,false,false,false,false,false,false] rfl rfl (yD HT_.out (by kernel_rfl)) (fun _ _ _ h=>h) (Or.inl ⟨by rfl,?_⟩) ?_ ?_;rotate_left
           ·intro w'
            go_simp
            with_reducible rfl
           rotate_left
           ·simp only [Act.put,List.setIfInBounds_toArray,List.set_cons_zero,List.set_cons_succ,zx,zy]
            rfl
           refine yM (i:=5) (N:=some 44) (v:= ?_) (a':= ?_) #[false,true,true,true,false,true,false,false,false,false,false,false,false] rfl rfl (yD HT_.out (by kernel_rfl)) (fun _ _ _ h=>h) (Or.inl ⟨by rfl,?_⟩) ?_ ?_;rotate_left
           ·intro w'
            go_simp
            with_reducible rfl
           rotate_left
           ·simp only [Act.put,List.setIfInBounds_toArray,List.set_cons_zero,List.set_cons_succ,zx,zy]
            rfl
           refine yM (i:=8) (N:=some 47) (v:= ?_) (a':= ?_) #[false,true,true,true,false,true,false,false,true,false,false,false,false] rfl rfl (yD HT_.out (by kernel_rfl)) (fun _ _ _ h=>h) (Or.inl ⟨by rfl,?_⟩) ?_ ?_;rotate_left
           ·intro w'
            go_simp
            with_reducible rfl
           rotate_left
           ·simp only [Act.put,List.setIfInBounds_toArray,List.set_cons_zero,List.set_cons_succ,zx,zy]
            rfl
           refine yM (i:=9) (N:=some 48) (v:= ?_) (a':= ?_) #[false,true,true,true,false,true,false,false,true,true,false,false,false] rfl rfl (yD HT_.out (by kernel_rfl)) (fun _ _ _ h=>h) (Or.inl ⟨by rfl,?_⟩) ?_ ?_;rotate_left
           ·intro w'
            go_simp
            with_reducible rfl
           rotate_left
           ·simp only [Act.put,List.setIfInBounds_toArray,List.set_cons_zero,List.set_cons_succ,zx,zy]
            rfl
           refine yM (i:=10) (N:=some 49) (v:= ?_) (a':= ?_) #[false,true,true,true,false,true,false,false,true,true,true,false,false] rfl rfl (yD HT_.out (by kernel_rfl)) (fun _ _ _ h=>h) (Or.inl ⟨by rfl,?_⟩) ?_ ?_;rotate_left
           ·intro w'
            go_simp
            with_reducible rfl
           rotate_left
           ·simp only [Act.put,List.setIfInBounds_toArray,List.set_cons_zero,List.set_cons_succ,zx,zy]
            rfl
           refine join_ (σ:=Value × Value × Value) 3 #[true,true,true,true,true,true,true,false,true,true,true,false,false] (fun s_=> [(39,s_.1),(43,s_.2.1),(45,s_.2.2)]) (fun s_ w'=>(Kd.R Kd.string 9 w' w.heap.size (fun k_=>some k_≠(s_.2.2:Value).ownBlock) s_.2.1 y384)∧(Kd.R Kd.string 9 w' w.heap.size (fun k_=>some k_≠(s_.2.1:Value).ownBlock) s_.2.2 y387)∧(Below w.heap.size w w')) ?_ ?_;rotate_left
           ·intro hCont
            refine two_ (i:=0) (j:=6) (Ni:=some 39) (Nj:=some 45) #[true,true,true,true,false,true,false,false,true,true,true,false,false] #[false,true,true,true,false,true,true,false,true,true,true,false,false] rfl rfl rfl rfl (two_of HT_.out (by kernel_rfl)) (by decide) (by decide) (fun K hK=> ?_) (fun K hK=> ?_)
            ·skip
             refine Kd.R_lit_step Kd.string _ 9 ?hg (N:=39) ?hd (xs:=([]:List ByteArray)) (inner:= []) (ok:=fun _=>True) (okp:=fun _=>True) ?hr ?hp (fun _ hk=>hk) trivial (Below.refl _ _) (Nat.le_refl _) (by simp) ?_;(case hd=>rfl);(case hg=>rfl);(case hr=>exact Qm);(case hp=>exact (Reps.none _ _));intro v381 w21 ho22 hb hg_ hnew_;clear hg_ hnew_
             (first|rw [←Ny380.out] at ho22|(simp only [Int.reduceToNat] at ho22;rw [←Ny380.out] at ho22))
             have n0_:=zA.mk (Kd.R_lower ho22 (zE Qc));have n1_:=zA.mk (zH Qc hb);clear HB;have HO382:=n0_;have HB:=n1_;clear n0_ n1_ hb ho22;refine hK.out _ _ trivial (fun hHeld=> ?_);clear hK K;refine yl (a':= ?_) ?_ ?_;rotate_left
             ·show Act.put _ (some 39) _=_
              simp only [Act.put,List.setIfInBounds_toArray,List.set_cons_zero,List.set_cons_succ,zx,zy]
              rfl
             refine two_ (i:=4) (j:=6) (Ni:=some 43) (Nj:=some 45) #[true,true,true,true,true,true,false,false,true,true,true,false,false] #[true,true,true,true,false,true,true,false,true,true,true,false,false] rfl rfl rfl rfl (two_of HT_.out (by kernel_rfl)) (by decide) (by decide) (fun K hK=> ?_) (fun K hK=> ?_)
             ·skip
              refine Kd.R_append_rows_step Kd.string (w0:=w) w.heap.size (by rfl) (.tmp 39) (.tmp 42) 32 9 (.string ⟨#[]⟩) 16 rfl Try.underlying32 Zu rfl (by decide) (by omega) v381 y380 (l0.take (x5_1:Int).toNat) _ _ _ (fun _=>True) (fun _=>False) rfl rfl ?aO ?aR (fun _ _ h=>h) (fun _ h=>h.elim) ?aF ?aB ?aS ?aL ?_
              (case aR=>first|(refine Zj (Q7:(l0.take (x5_1:Int).toNat).length=x5_1.toNat) ?_;repeat (first|exact (Kd.C_below HR383.out HB.out)|(with_reducible refine Kd.C_alloc ?_ _)|(with_reducible refine Kd.C_drewN ?_ _)|(with_reducible refine Kd.C_drew ?_)))|(repeat (first|exact (Kd.C_below HR383.out HB.out)|(with_reducible refine Kd.C_alloc ?_ _)|(with_reducible refine Kd.C_drewN ?_ _)|(with_reducible refine Kd.C_drew ?_))))
              (case aB=>exact Qc)
              (case aF=>exact (fun _ _=>trivial))
              (case aO=>exact (Qh HO382))
              (case aS=>exact (zE Qc))
              (case aL=>have:=LMc13.out;have hlx_:=(show (l0.take (x5_1:Int).toNat).length=x5_1.toNat from Q7);omega)
              intro v385 w23 ho hb hg hat
              rw [←Ny384.out] at ho;have n0_:=zA.mk (hb);have n1_:=zA.mk (ho);clear HB HO382;have HB:=n0_;have HO386:=n1_
              clear n0_ n1_ ho hb hg hat
              refine hK.out _ _ trivial (fun hHeld=> ?_);clear hK K;refine yl (a':= ?_) ?_ ?_;rotate_left
              ·show Act.put _ (some 43) _=_
               simp only [Act.put,List.setIfInBounds_toArray,List.set_cons_zero,List.set_cons_succ,zx,zy]
               rfl
              refine one_ (i:=6) (N:=some 45) #[true,true,true,true,true,true,true,false,true,true,true,false,false] rfl rfl (ym HT_.out (by kernel_rfl)) (by decide) (fun K hK=> ?_);refine Kd.R_lit_step Kd.string _ 9 ?hg (N:=45) ?hd (xs:=([a1]:List ByteArray)) (inner:= [.string a1]) (ok:=fun _=>True) (okp:=fun _=>True) ?hr ?hp (fun _ hk=>hk) trivial (Below.refl _ _) (Nat.le_refl _) (by simp) ?_;(case hd=>rfl);(case hg=>rfl);(case hr=>exact Qm);(case hp=>exact (Reps.one (show Kd.M Kd.string _ _ _ a1 [.string a1] from rfl) (Reps.none _ _)));intro v388 w24 ho25 hb hg_ hnew_;clear hg_ hnew_
              (first|rw [←Ny387.out] at ho25|(simp only [Int.reduceToNat] at ho25;rw [←Ny387.out] at ho25))
              have n0_:=zA.mk (Kd.R_elder' (Qh HO386) (Kd.R_base ho25) hb);have n1_:=zA.mk (Kd.R_lower (Kd.R_new' ho25 (Kd.R_lt (Qh HO386))) (zE Qc));have n2_:=zA.mk (zH Qc hb);clear HO386 HB;have HO386:=n0_;have HO389:=n1_;have HB:=n2_;clear n0_ n1_ n2_ hb ho25;refine hK.out _ _ trivial (fun hHeld=> ?_);clear hK K;refine yl (a':= ?_) ?_ ?_;rotate_left
              ·show Act.put _ (some 45) _=_
               simp only [Act.put,List.setIfInBounds_toArray,List.set_cons_zero,List.set_cons_succ,zx,zy]
               rfl
              exact yl Q5 (hCont (v381,v385,v388) _ ⟨(by (with_reducible repeat (first|apply Kd.R_alloc|apply Kd.R_drewN|apply Kd.R_drew));exact Kd.R_mono HO386.out (fun _ hk=>hk.2)),QY,Qc⟩)
             ·skip
              refine Kd.R_lit_step Kd.string _ 9 ?hg (N:=45) ?hd (xs:=([a1]:List ByteArray)) (inner:= [.string a1]) (ok:=fun _=>True) (okp:=fun _=>True) ?hr ?hp (fun _ hk=>hk) trivial (Below.refl _ _) (Nat.le_refl _) (by simp) ?_;(case hd=>rfl);(case hg=>rfl);(case hr=>exact Qm);(case hp=>exact (Reps.one (show Kd.M Kd.string _ _ _ a1 [.string a1] from rfl) (Reps.none _ _)));intro v388 w23 ho24 hb hg_ hnew_;clear hg_ hnew_
              (first|rw [←Ny387.out] at ho24|(simp only [Int.reduceToNat] at ho24;rw [←Ny387.out] at ho24))
              have n0_:=zA.mk (Kd.R_elder' (Qh HO382) (Kd.R_base ho24) hb);have n1_:=zA.mk (Kd.R_lower (Kd.R_new' ho24 (Kd.R_lt (Qh HO382))) (zE Qc));have n2_:=zA.mk (zH Qc hb);clear HO382 HB;have HO382:=n0_;have HO389:=n1_;have HB:=n2_;clear n0_ n1_ n2_ hb ho24;refine hK.out _ _ trivial (fun hHeld=> ?_);clear hK K;refine yl (a':= ?_) ?_ ?_;rotate_left
              ·show Act.put _ (some 45) _=_
               simp only [Act.put,List.setIfInBounds_toArray,List.set_cons_zero,List.set_cons_succ,zx,zy]
               rfl
              refine one_ (i:=4) (N:=some 43) #[true,true,true,true,true,true,true,false,true,true,true,false,false] rfl rfl (ym HT_.out (by kernel_rfl)) (by decide) (fun K hK=> ?_);refine Kd.R_append_rows_step Kd.string (w0:=w) w.heap.size (by rfl) (.tmp 39) (.tmp 42) 32 9 (.string ⟨#[]⟩) 16 rfl Try.underlying32 Zu rfl (by decide) (by omega) v381 y380 (l0.take (x5_1:Int).toNat) _ _ _ (fun k_=>some k_≠(v388:Value).ownBlock) (fun _=>False) rfl rfl ?aO ?aR (fun _ _ h=>h) (fun _ h=>h.elim) ?aF ?aB ?aS ?aL ?_
              (case aR=>first|(refine Zj (Q7:(l0.take (x5_1:Int).toNat).length=x5_1.toNat) ?_;repeat (first|exact (Kd.C_below HR383.out HB.out)|(with_reducible refine Kd.C_alloc ?_ _)|(with_reducible refine Kd.C_drewN ?_ _)|(with_reducible refine Kd.C_drew ?_)))|(repeat (first|exact (Kd.C_below HR383.out HB.out)|(with_reducible refine Kd.C_alloc ?_ _)|(with_reducible refine Kd.C_drewN ?_ _)|(with_reducible refine Kd.C_drew ?_))))
              (case aB=>exact Qc)
              (case aF=>exact (fun k_ hk=>Kd.fresh' (Kd.R_lt (Qh HO389)) k_ hk))
              (case aO=>exact QZ)
              (case aS=>exact (zE Qc))
              (case aL=>have:=LMc13.out;have hlx_:=(show (l0.take (x5_1:Int).toNat).length=x5_1.toNat from Q7);omega)
              intro v385 w25 ho hb hg hat
              rw [←Ny384.out] at ho;have n0_:=zA.mk (Kd.R_after (ok:=(fun _=>True)) (Qh HO389) hg hat);have n1_:=zA.mk (hb);have n2_:=zA.mk (ho);clear HO389 HB HO382;have HO389:=n0_;have HB:=n1_;have HO386:=n2_
              clear n0_ n1_ n2_ ho hb hg hat
              refine hK.out _ _ trivial (fun hHeld=> ?_);clear hK K;refine yl (a':= ?_) ?_ ?_;rotate_left
              ·show Act.put _ (some 43) _=_
               simp only [Act.put,List.setIfInBounds_toArray,List.set_cons_zero,List.set_cons_succ,zx,zy]
               rfl
              exact yl Q5 (hCont (v381,v385,v388) _ ⟨(Qh HO386),QY,Qc⟩)
            ·skip
             refine Kd.R_lit_step Kd.string _ 9 ?hg (N:=45) ?hd (xs:=([a1]:List ByteArray)) (inner:= [.string a1]) (ok:=fun _=>True) (okp:=fun _=>True) ?hr ?hp (fun _ hk=>hk) trivial (Below.refl _ _) (Nat.le_refl _) (by simp) ?_;(case hd=>rfl);(case hg=>rfl);(case hr=>exact Qm);(case hp=>exact (Reps.one (show Kd.M Kd.string _ _ _ a1 [.string a1] from rfl) (Reps.none _ _)));intro v388 w21 ho22 hb hg_ hnew_;clear hg_ hnew_
             (first|rw [←Ny387.out] at ho22|(simp only [Int.reduceToNat] at ho22;rw [←Ny387.out] at ho22))
             have n0_:=zA.mk (Kd.R_lower ho22 (zE Qc));have n1_:=zA.mk (zH Qc hb);clear HB;have HO389:=n0_;have HB:=n1_;clear n0_ n1_ hb ho22;refine hK.out _ _ trivial (fun hHeld=> ?_);clear hK K;refine yl (a':= ?_) ?_ ?_;rotate_left
             ·show Act.put _ (some 45) _=_
              simp only [Act.put,List.setIfInBounds_toArray,List.set_cons_zero,List.set_cons_succ,zx,zy]
              rfl
             refine one_ (i:=0) (N:=some 39) #[true,true,true,true,false,true,true,false,true,true,true,false,false] rfl rfl (ym HT_.out (by kernel_rfl)) (by decide) (fun K hK=> ?_);refine Kd.R_lit_step Kd.string _ 9 ?hg (N:=39) ?hd (xs:=([]:List ByteArray)) (inner:= []) (ok:=fun _=>True) (okp:=fun _=>True) ?hr ?hp (fun _ hk=>hk) trivial (Below.refl _ _) (Nat.le_refl _) (by simp) ?_;(case hd=>rfl);(case hg=>rfl);(case hr=>exact Qm);(case hp=>exact (Reps.none _ _));intro v381 w23 ho24 hb hg_ hnew_;clear hg_ hnew_
             (first|rw [←Ny380.out] at ho24|(simp only [Int.reduceToNat] at ho24;rw [←Ny380.out] at ho24))
             have n0_:=zA.mk (Kd.R_elder' (Qh HO389) (Kd.R_base ho24) hb);have n1_:=zA.mk (Kd.R_lower (Kd.R_new' ho24 (Kd.R_lt (Qh HO389))) (zE Qc));have n2_:=zA.mk (zH Qc hb);clear HO389 HB;have HO389:=n0_;have HO382:=n1_;have HB:=n2_;clear n0_ n1_ n2_ hb ho24;refine hK.out _ _ trivial (fun hHeld=> ?_);clear hK K;refine yl (a':= ?_) ?_ ?_;rotate_left
             ·show Act.put _ (some 39) _=_
              simp only [Act.put,List.setIfInBounds_toArray,List.set_cons_zero,List.set_cons_succ,zx,zy]
              rfl
             refine one_ (i:=4) (N:=some 43) #[true,true,true,true,true,true,true,false,true,true,true,false,false] rfl rfl (ym HT_.out (by kernel_rfl)) (by decide) (fun K hK=> ?_);refine Kd.R_append_rows_step Kd.string (w0:=w) w.heap.size (by rfl) (.tmp 39) (.tmp 42) 32 9 (.string ⟨#[]⟩) 16 rfl Try.underlying32 Zu rfl (by decide) (by omega) v381 y380 (l0.take (x5_1:Int).toNat) _ _ _ (fun k_=>some k_≠(v388:Value).ownBlock) (fun _=>False) rfl rfl ?aO ?aR (fun _ _ h=>h) (fun _ h=>h.elim) ?aF ?aB ?aS ?aL ?_
             (case aR=>first|(refine Zj (Q7:(l0.take (x5_1:Int).toNat).length=x5_1.toNat) ?_;repeat (first|exact (Kd.C_below HR383.out HB.out)|(with_reducible refine Kd.C_alloc ?_ _)|(with_reducible refine Kd.C_drewN ?_ _)|(with_reducible refine Kd.C_drew ?_)))|(repeat (first|exact (Kd.C_below HR383.out HB.out)|(with_reducible refine Kd.C_alloc ?_ _)|(with_reducible refine Kd.C_drewN ?_ _)|(with_reducible refine Kd.C_drew ?_))))
             (case aB=>exact Qc)
             (case aF=>exact (fun k_ hk=>Kd.fresh' (Kd.R_lt (Qh HO389)) k_ hk))
             (case aO=>exact QZ)
             (case aS=>exact (zE Qc))
             (case aL=>have:=LMc13.out;have hlx_:=(show (l0.take (x5_1:Int).toNat).length=x5_1.toNat from Q7);omega)
             intro v385 w25 ho hb hg hat
             rw [←Ny384.out] at ho;have n0_:=zA.mk (Kd.R_after (ok:=(fun _=>True)) (Qh HO389) hg hat);have n1_:=zA.mk (hb);have n2_:=zA.mk (ho);clear HO389 HB HO382;have HO389:=n0_;have HB:=n1_;have HO386:=n2_
             clear n0_ n1_ n2_ ho hb hg hat
             refine hK.out _ _ trivial (fun hHeld=> ?_);clear hK K;refine yl (a':= ?_) ?_ ?_;rotate_left
             ·show Act.put _ (some 43) _=_
              simp only [Act.put,List.setIfInBounds_toArray,List.set_cons_zero,List.set_cons_succ,zx,zy]
              rfl
             exact yl Q5 (hCont (v381,v385,v388) _ ⟨(Qh HO386),QY,Qc⟩)
           rintro ⟨v381,v385,v388⟩ w26 ⟨h0_,h1_,h2_⟩;have n0_:zA (Kd.R Kd.string 9 w26 w.heap.size (fun k_=>some k_≠(v388:Value).ownBlock) v385 y384):=⟨h0_⟩;have n1_:zA (Kd.R Kd.string 9 w26 w.heap.size (fun k_=>some k_≠(v385:Value).ownBlock) v388 y387):=⟨h1_⟩;have n2_:zA (Below w.heap.size w w26):=⟨h2_⟩;clear HB h0_ h1_ h2_;have HO386:=n0_;have HO389:=n1_;have HB:=n2_;clear n0_ n1_ n2_;have hHeld:=trivial;obtain ⟨Ao28,co28,eo28⟩:=Kd.R_slice HO389.out
           (first|subst eo28|(injection eo28 with f1_ f2_ f3_;have f4_:=f1_.symm;have f5_:=f3_.symm;clear f1_ f2_ f3_;subst f4_;subst f5_))
           refine yl (a':= ?_) ?_ ?_;rotate_left
           ·simp only [Zt,Act.put,List.setIfInBounds_toArray,List.set_cons_zero,List.set_cons_succ]
            rfl
           refine one_ (i:=7) (N:=some 46) #[true,true,true,true,true,true,true,true,true,true,true,false,false] rfl rfl (ym HT_.out (by kernel_rfl)) (by decide) (fun K hK=> ?_);refine Kd.R_append_rows_step Kd.string (w0:=w) w.heap.size (by rfl) (.tmp 43) (.tmp 45) 32 9 (.string ⟨#[]⟩) 16 rfl Try.underlying32 Zu rfl (by decide) (by omega) v385 y384 y387 _ _ _ (fun k_=>some k_≠(.slice Ao28 y387.length co28:Value).ownBlock) (fun _=>False) rfl rfl ?aO ?aR (fun _ _ h=>h) (fun _ h=>h.elim) ?aF ?aB ?aS ?aL ?_
           (case aR=>repeat (first|exact (Kd.R_reads' HO389.out).2.2|(with_reducible refine Kd.C_alloc ?_ _)|(with_reducible refine Kd.C_drewN ?_ _)|(with_reducible refine Kd.C_drew ?_)))
           (case aB=>exact Qc)
           (case aF=>exact (fun k_ hk=>Kd.fresh' (Kd.R_lt (Qh HO389)) k_ hk))
           (case aO=>exact (Qh HO386))
           (case aS=>exact (zE Qc))
           (case aL=>have:=LMc14.out;omega)
           intro v391 w27 ho hb hg hat
           rw [←Ny390.out] at ho;have n0_:=zA.mk (Kd.R_after (ok:=(fun _=>True)) (by (with_reducible repeat (first|apply Kd.R_alloc|apply Kd.R_drewN|apply Kd.R_drew));exact Kd.R_mono HO389.out (fun _ hk=>⟨trivial,hk⟩)) hg hat);have n1_:=zA.mk (hb);have n2_:=zA.mk (ho);clear HO389 HB HO386;have HO389:=n0_;have HB:=n1_;have HO392:=n2_
           clear n0_ n1_ n2_ ho hb hg hat
           refine hK.out _ _ trivial (fun hHeld=> ?_);clear hK K;refine yl (a':= ?_) ?_ ?_;rotate_left
           ·show Act.put _ (some 46) _=_
            simp only [Act.put,List.setIfInBounds_toArray,List.set_cons_zero,List.set_cons_succ,zx,zy]
            rfl
           refine one_ (i:=11) (N:=some 50) #[true,true,true,true,true,true,true,true,true,true,true,true,false] rfl rfl (ym HT_.out (by kernel_rfl)) (by decide) (fun K hK=> ?_);refine Kd.R_append_rows_step Kd.string (w0:=w) w.heap.size (by rfl) (.tmp 46) (.tmp 49) 32 9 (.string ⟨#[]⟩) 16 rfl Try.underlying32 Zu rfl (by decide) (by omega) v391 y390 (l0.drop (x5_1:Int).toNat) _ _ _ (fun k_=>some k_≠(.slice Ao28 y387.length co28:Value).ownBlock) (fun _=>False) rfl rfl ?aO ?aR (fun _ _ h=>h) (fun _ h=>h.elim) ?aF ?aB ?aS ?aL ?_
           (case aR=>first|(refine Zj (List.length_drop:(l0.drop (x5_1:Int).toNat).length=(l0.length - x5_1.toNat)) ?_;repeat (first|exact (Kd.C_below HR393.out HB.out)|(with_reducible refine Kd.C_alloc ?_ _)|(with_reducible refine Kd.C_drewN ?_ _)|(with_reducible refine Kd.C_drew ?_)))|(repeat (first|exact (Kd.C_below HR393.out HB.out)|(with_reducible refine Kd.C_alloc ?_ _)|(with_reducible refine Kd.C_drewN ?_ _)|(with_reducible refine Kd.C_drew ?_))))
           (case aB=>exact Qc)
           (case aF=>exact (fun k_ hk=>Kd.fresh' (Kd.R_lt (Qh HO389)) k_ hk))
           (case aO=>exact (Qh HO392))
           (case aS=>exact (zE Qc))
           (case aL=>have:=LMc17.out;have hlx_:=(show (l0.drop (x5_1:Int).toNat).length=(l0.length - x5_1.toNat) from List.length_drop);omega)
           intro v395 w29 ho hb hg hat
           rw [←Ny394.out] at ho;have n0_:=zA.mk (Kd.R_after (ok:=(fun _=>True)) (Qh HO389) hg hat);have n1_:=zA.mk (hb);have n2_:=zA.mk (ho);clear HO389 HB HO392;have HO389:=n0_;have HB:=n1_;have HO396:=n2_
           clear n0_ n1_ n2_ ho hb hg hat
           refine hK.out _ _ trivial (fun hHeld=> ?_);clear hK K;refine yl (a':= ?_) ?_ ?_;rotate_left
           ·show Act.put _ (some 50) _=_
            simp only [Act.put,List.setIfInBounds_toArray,List.set_cons_zero,List.set_cons_succ,zx,zy]
            rfl
           refine yM (i:=12) (N:=some 4) (v:= ?_) (a':= ?_) #[true,true,true,true,true,true,true,true,true,true,true,true,true] rfl rfl (yD HT_.out (by kernel_rfl)) (fun _ _ _ h=>h) (Or.inl ⟨by rfl,?_⟩) ?_ ?_;rotate_left
           ·intro w'
            go_simp
            with_reducible rfl
           rotate_left
           ·simp only [Act.put,List.setIfInBounds_toArray,List.set_cons_zero,List.set_cons_succ,zx,zy]
            rfl
           refine YR (Ze HT_.out (by kernel_rfl)) ?_
           try go_wp2
           go_ret
           exact ⟨_,by first|rfl|(simp [zS,zT] <;> rfl)|(simp [*,zS,zT] <;> rfl), .inr (by (with_reducible repeat (first|apply Kd.R_alloc|apply Kd.R_drewN|apply Kd.R_drew));exact Kd.R_mono HO396.out (fun _ hk=>trivial)),by repeat (first|(with_reducible first|exact HB.out|apply zG|apply zC|apply zF)|exact HB.out)⟩
          ·rw [if_neg c17] at H
           exact absurd H (by simp)
         ·rw [if_neg c14] at H
          exact absurd H (by simp)
        ·rw [if_neg c13] at H
         exact absurd H (by simp)
       ·rw [if_neg c12] at H
        exact absurd H (by simp)
     ·rw [if_neg c9] at H
      exact absurd H (by simp)
    ·rw [if_neg c8] at H
     have c8b0:=decide_eq_false c8;clear c8;obtain ⟨y397,hy397⟩:∃y_:List ByteArray,y_=(([]:List ByteArray)):=⟨_,rfl⟩;replace H:(if 0≤x5_1 then (if x5_1≤(l0.length:Int) then (if y397.length + (l0.take (x5_1:Int).toNat).length < 8796093022208 then ((some (y397 ++ (l0.take (x5_1:Int).toNat):List ByteArray)).bind fun y401=>((some (([a1]:List ByteArray):List ByteArray)).bind fun y404=>(if y401.length + y404.length < 8796093022208 then ((some (y401 ++ y404:List ByteArray)).bind fun y407=>(if y407.length + (l0.drop (x5_1:Int).toNat).length < 8796093022208 then (some (y407 ++ (l0.drop (x5_1:Int).toNat))) else (none))) else (none)))) else (none)) else (none)) else (none))=some r:=Qb hy397 H;have Ny397:=zA.mk hy397;clear hy397
     by_cases c30:0≤x5_1
     ·rw [if_pos c30] at H
      have c30b0:=eq_true c30;have c30b1:=decide_eq_true c30;clear c30
      by_cases c31:x5_1≤(l0.length:Int)
      ·rw [if_pos c31] at H
       have c31b0:=eq_true c31;have c31b1:=decide_eq_true c31;clear c31
       by_cases c32:y397.length + (l0.take (x5_1:Int).toNat).length < 8796093022208
       ·rw [if_pos c32] at H
        have LMc32:=zA.mk c32;clear c32;obtain ⟨y401,hy401⟩:∃y_:List ByteArray,y_=(y397 ++ (l0.take (x5_1:Int).toNat)):=⟨_,rfl⟩;replace H:((some (([a1]:List ByteArray):List ByteArray)).bind fun y404=>(if y401.length + y404.length < 8796093022208 then ((some (y401 ++ y404:List ByteArray)).bind fun y407=>(if y407.length + (l0.drop (x5_1:Int).toNat).length < 8796093022208 then (some (y407 ++ (l0.drop (x5_1:Int).toNat))) else (none))) else (none)))=some r:=Qb hy401 H;have Ny401:=zA.mk hy401;clear hy401;obtain ⟨y404,hy404⟩:∃y_:List ByteArray,y_=(([a1]:List ByteArray)):=⟨_,rfl⟩;replace H:(if y401.length + y404.length < 8796093022208 then ((some (y401 ++ y404:List ByteArray)).bind fun y407=>(if y407.length + (l0.drop (x5_1:Int).toNat).length < 8796093022208 then (some (y407 ++ (l0.drop (x5_1:Int).toNat))) else (none))) else (none))=some r:=Qb hy404 H;have Ny404:=zA.mk hy404;clear hy404
        by_cases c33:y401.length + y404.length < 8796093022208
        ·rw [if_pos c33] at H
         have LMc33:=zA.mk c33;clear c33;obtain ⟨y407,hy407⟩:∃y_:List ByteArray,y_=(y401 ++ y404):=⟨_,rfl⟩;replace H:(if y407.length + (l0.drop (x5_1:Int).toNat).length < 8796093022208 then (some (y407 ++ (l0.drop (x5_1:Int).toNat))) else (none))=some r:=Qb hy407 H;have Ny407:=zA.mk hy407;clear hy407;have c34b0:=eq_true (Qa:0≤x5_1);have c35b0:=eq_true (Qa:x5_1≤(l0.length:Int))
         by_cases c36:y407.length + (l0.drop (x5_1:Int).toNat).length < 8796093022208
         ·rw [if_pos c36] at H
          have LMc36:=zA.mk c36;clear c36;obtain ⟨y411,hy411⟩:∃y_:List ByteArray,y_=(y407 ++ (l0.drop (x5_1:Int).toNat)):=⟨_,rfl⟩;replace H:(some y411)=some r:=Qb hy411 H;have Ny411:=zA.mk hy411;clear hy411;obtain rfl:=Option.some.inj H
          try go_wp2
          have n0_:=zA.mk (zF HB.out);clear HB;have HB:=n0_;clear n0_;obtain ⟨i038,hi038,_,hsz38,_⟩:=info_parts Zu;obtain ⟨hcut38,hA38,hC38⟩:=Ye (P:=Try.prog) Value.string (⟨#[]⟩:ByteArray) 32 9 .i64 Try.underlying32 hi038 hsz38 A0 c0 l0 x5_1 (Qa) (Qa) HC0.out;have HR400:=zA.mk (Kd.C_of_reads (h1:=fun _=>rfl) (hA38 _ (Kd.reads_of_C HR0.out)));have HC400:=zA.mk hC38;clear hA38 hC38 hi038 hsz38;obtain ⟨i039,hi039,_,hsz39,_⟩:=info_parts Zu;obtain ⟨A39,hcut39,hA39,hC39⟩:=qM (P:=Try.prog) Value.string (⟨#[]⟩:ByteArray) 32 9 .i64 Try.underlying32 hi039 hsz39 A0 c0 l0 x5_1 (Qa) (Qa) HC0.out;have HR410:=zA.mk (Kd.C_of_reads (h1:=fun _=>rfl) (hA39 _ (Kd.reads_of_C HR0.out)));have HC410:=zA.mk hC39;clear hA39 hC39 hi039 hsz39;refine Zr (n:=13) (S:=fun w'=>True) (ds:= []) #[false,false,false,false,false,false,false,false,false,false,false,false,false] (by kernel_rfl) rfl rfl trivial (fun hHeld=> ?_);refine ZJ zX.tab9 zX.bits9 (fun HT_ HW_=> ?_)
          generalize wr.drew=w37 at HB HR400 HR410 hHeld⊢
          refine yM (i:=1) (N:=some 40) (v:= ?_) (a':= ?_) #[false,true,false,false,false,false,false,false,false,false,false,false,false] rfl rfl (yD HT_.out (by kernel_rfl)) (fun _ _ _ h=>h) (Or.inl ⟨by rfl,?_⟩) ?_ ?_;rotate_left
          ·intro w'
           go_simp
           with_reducible rfl
          rotate_left
          ·simp only [Act.put,List.setIfInBounds_toArray,List.set_cons_zero,List.set_cons_succ,zx,zy]
           rfl
          refine yM (i:=2) (N:=some 41) (v:= ?_) (a':= ?_) #[false,true,true,false,false,false,false,false,false,false,false,false,false] rfl rfl (yD HT_.out (by kernel_rfl)) (fun _ _ _ h=>h) (Or.inl ⟨by rfl,?_⟩) ?_ ?_;rotate_left
          ·intro w'
           go_simp
           with_reducible rfl
          rotate_left
          ·simp only [Act.put,List.setIfInBounds_toArray,List.set_cons_zero,List.set_cons_succ,zx,zy]
           rfl
          refine yM (i:=3) (N:=some 42) (v:= ?_) (a':= ?_) #[false,true,true,true,false,false,false,false,false,false,false,false,false] rfl rfl (yD HT_.out (by kernel_rfl)) (fun _ _ _ h=>h) (Or.inl ⟨by rfl,?_⟩) ?_ ?_;rotate_left
          ·intro w'
           go_simp
           with_reducible rfl
          rotate_left
          ·simp only [Act.put,List.setIfInBounds_toArray,List.set_cons_zero,List.set_cons_succ,zx,zy]
           rfl
          refine yM (i:=5) (N:=some 44) (v:= ?_) (a':= ?_) #[false,true,true,true,false,true,false,false,false,false,false,false,false] rfl rfl (yD HT_.out (by kernel_rfl)) (fun _ _ _ h=>h) (Or.inl ⟨by rfl,?_⟩) ?_ ?_;rotate_left
          ·intro w'
           go_simp
           with_reducible rfl
          rotate_left
          ·simp only [Act.put,List.setIfInBounds_toArray,List.set_cons_zero,List.set_cons_succ,zx,zy]
           rfl
          refine yM (i:=8) (N:=some 47) (v:= ?_) (a':= ?_) #[false,true,true,true,false,true,false,false,true,false,false,false,false] rfl rfl (yD HT_.out (by kernel_rfl)) (fun _ _ _ h=>h) (Or.inl ⟨by rfl,?_⟩) ?_ ?_;rotate_left
          ·intro w'
           go_simp
           with_reducible rfl
          rotate_left
          ·simp only [Act.put,List.setIfInBounds_toArray,List.set_cons_zero,List.set_cons_succ,zx,zy]
           rfl
          refine yM (i:=9) (N:=some 48) (v:= ?_) (a':= ?_) #[false,true,true,true,false,true,false,false,true,true,false,false,false] rfl rfl (yD HT_.out (by kernel_rfl)) (fun _ _ _ h=>h) (Or.inl ⟨by rfl,?_⟩) ?_ ?_;rotate_left
          ·intro w'
           go_simp
           with_reducible rfl
          rotate_left
          ·simp only [Act.put,List.setIfInBounds_toArray,List.set_cons_zero,List.set_cons_succ,zx,zy]
           rfl
          refine yM (i:=10) (N:=some 49) (v:= ?_) (a':= ?_) #[false,true,true,true,false,true,false,false,true,true,true,false,false] rfl rfl (yD HT_.out (by kernel_rfl)) (fun _ _ _ h=>h) (Or.inl ⟨by rfl,?_⟩) ?_ ?_;rotate_left
          ·intro w'
           go_simp
           with_reducible rfl
          rotate_left
          ·simp only [Act.put,List.setIfInBounds_toArray,List.set_cons_zero,List.set_cons_succ,zx,zy]
           rfl
          refine join_ (σ:=Value × Value × Value) 3 #[true,true,true,true,true,true,true,false,true,true,true,false,false] (fun s_=> [(39,s_.1),(43,s_.2.1),(45,s_.2.2)]) (fun s_ w'=>(Kd.R Kd.string 9 w' w.heap.size (fun k_=>some k_≠(s_.2.2:Value).ownBlock) s_.2.1 y401)∧(Kd.R Kd.string 9 w' w.heap.size (fun k_=>some k_≠(s_.2.1:Value).ownBlock) s_.2.2 y404)∧(Below w.heap.size w w')) ?_ ?_;rotate_left
          ·intro hCont
           refine two_ (i:=0) (j:=6) (Ni:=some 39) (Nj:=some 45) #[true,true,true,true,false,true,false,false,true,true,true,false,false] #[false,true,true,true,false,true,true,false,true,true,true,false,false] rfl rfl rfl rfl (two_of HT_.out (by kernel_rfl)) (by decide) (by decide) (fun K hK=> ?_) (fun K hK=> ?_)
           ·skip
            refine Kd.R_lit_step Kd.string _ 9 ?hg (N:=39) ?hd (xs:=([]:List ByteArray)) (inner:= []) (ok:=fun _=>True) (okp:=fun _=>True) ?hr ?hp (fun _ hk=>hk) trivial (Below.refl _ _) (Nat.le_refl _) (by simp) ?_;(case hd=>rfl);(case hg=>rfl);(case hr=>exact Qm);(case hp=>exact (Reps.none _ _));intro v398 w40 ho41 hb hg_ hnew_;clear hg_ hnew_
            (first|rw [←Ny397.out] at ho41|(simp only [Int.reduceToNat] at ho41;rw [←Ny397.out] at ho41))
            have n0_:=zA.mk (Kd.R_lower ho41 (zE Qc));have n1_:=zA.mk (zH Qc hb);clear HB;have HO399:=n0_;have HB:=n1_;clear n0_ n1_ hb ho41;refine hK.out _ _ trivial (fun hHeld=> ?_);clear hK K;refine yl (a':= ?_) ?_ ?_;rotate_left
            ·show Act.put _ (some 39) _=_
             simp only [Act.put,List.setIfInBounds_toArray,List.set_cons_zero,List.set_cons_succ,zx,zy]
             rfl
            refine two_ (i:=4) (j:=6) (Ni:=some 43) (Nj:=some 45) #[true,true,true,true,true,true,false,false,true,true,true,false,false] #[true,true,true,true,false,true,true,false,true,true,true,false,false] rfl rfl rfl rfl (two_of HT_.out (by kernel_rfl)) (by decide) (by decide) (fun K hK=> ?_) (fun K hK=> ?_)
            ·skip
             refine Kd.R_append_rows_step Kd.string (w0:=w) w.heap.size (by rfl) (.tmp 39) (.tmp 42) 32 9 (.string ⟨#[]⟩) 16 rfl Try.underlying32 Zu rfl (by decide) (by omega) v398 y397 (l0.take (x5_1:Int).toNat) _ _ _ (fun _=>True) (fun _=>False) rfl rfl ?aO ?aR (fun _ _ h=>h) (fun _ h=>h.elim) ?aF ?aB ?aS ?aL ?_
             (case aR=>first|(refine Zj (Q7:(l0.take (x5_1:Int).toNat).length=x5_1.toNat) ?_;repeat (first|exact (Kd.C_below HR400.out HB.out)|(with_reducible refine Kd.C_alloc ?_ _)|(with_reducible refine Kd.C_drewN ?_ _)|(with_reducible refine Kd.C_drew ?_)))|(repeat (first|exact (Kd.C_below HR400.out HB.out)|(with_reducible refine Kd.C_alloc ?_ _)|(with_reducible refine Kd.C_drewN ?_ _)|(with_reducible refine Kd.C_drew ?_))))
             (case aB=>exact Qc)
             (case aF=>exact (fun _ _=>trivial))
             (case aO=>exact (Qh HO399))
             (case aS=>exact (zE Qc))
             (case aL=>have:=LMc32.out;have hlx_:=(show (l0.take (x5_1:Int).toNat).length=x5_1.toNat from Q7);omega)
             intro v402 w42 ho hb hg hat
             rw [←Ny401.out] at ho;have n0_:=zA.mk (hb);have n1_:=zA.mk (ho);clear HB HO399;have HB:=n0_;have HO403:=n1_
             clear n0_ n1_ ho hb hg hat
             refine hK.out _ _ trivial (fun hHeld=> ?_);clear hK K;refine yl (a':= ?_) ?_ ?_;rotate_left
             ·show Act.put _ (some 43) _=_
              simp only [Act.put,List.setIfInBounds_toArray,List.set_cons_zero,List.set_cons_succ,zx,zy]
              rfl
             refine one_ (i:=6) (N:=some 45) #[true,true,true,true,true,true,true,false,true,true,true,false,false] rfl rfl (ym HT_.out (by kernel_rfl)) (by decide) (fun K hK=> ?_);refine Kd.R_lit_step Kd.string _ 9 ?hg (N:=45) ?hd (xs:=([a1]:List ByteArray)) (inner:= [.string a1]) (ok:=fun _=>True) (okp:=fun _=>True) ?hr ?hp (fun _ hk=>hk) trivial (Below.refl _ _) (Nat.le_refl _) (by simp) ?_;(case hd=>rfl);(case hg=>rfl);(case hr=>exact Qm);(case hp=>exact (Reps.one (show Kd.M Kd.string _ _ _ a1 [.string a1] from rfl) (Reps.none _ _)));intro v405 w43 ho44 hb hg_ hnew_;clear hg_ hnew_
             (first|rw [←Ny404.out] at ho44|(simp only [Int.reduceToNat] at ho44;rw [←Ny404.out] at ho44))
             have n0_:=zA.mk (Kd.R_elder' (Qh HO403) (Kd.R_base ho44) hb);have n1_:=zA.mk (Kd.R_lower (Kd.R_new' ho44 (Kd.R_lt (Qh HO403))) (zE Qc));have n2_:=zA.mk (zH Qc hb);clear HO403 HB;have HO403:=n0_;have HO406:=n1_;have HB:=n2_;clear n0_ n1_ n2_ hb ho44;refine hK.out _ _ trivial (fun hHeld=> ?_);clear hK K;refine yl (a':= ?_) ?_ ?_;rotate_left
             ·show Act.put _ (some 45) _=_
              simp only [Act.put,List.setIfInBounds_toArray,List.set_cons_zero,List.set_cons_succ,zx,zy]
              rfl
             exact yl Q5 (hCont (v398,v402,v405) _ ⟨(by (with_reducible repeat (first|apply Kd.R_alloc|apply Kd.R_drewN|apply Kd.R_drew));exact Kd.R_mono HO403.out (fun _ hk=>hk.2)),Q3,Qc⟩)
            ·skip
             refine Kd.R_lit_step Kd.string _ 9 ?hg (N:=45) ?hd (xs:=([a1]:List ByteArray)) (inner:= [.string a1]) (ok:=fun _=>True) (okp:=fun _=>True) ?hr ?hp (fun _ hk=>hk) trivial (Below.refl _ _) (Nat.le_refl _) (by simp) ?_;(case hd=>rfl);(case hg=>rfl);(case hr=>exact Qm);(case hp=>exact (Reps.one (show Kd.M Kd.string _ _ _ a1 [.string a1] from rfl) (Reps.none _ _)));intro v405 w42 ho43 hb hg_ hnew_;clear hg_ hnew_
             (first|rw [←Ny404.out] at ho43|(simp only [Int.reduceToNat] at ho43;rw [←Ny404.out] at ho43))
             have n0_:=zA.mk (Kd.R_elder' (Qh HO399) (Kd.R_base ho43) hb);have n1_:=zA.mk (Kd.R_lower (Kd.R_new' ho43 (Kd.R_lt (Qh HO399))) (zE Qc));have n2_:=zA.mk (zH Qc hb);clear HO399 HB;have HO399:=n0_;have HO406:=n1_;have HB:=n2_;clear n0_ n1_ n2_ hb ho43;refine hK.out _ _ trivial (fun hHeld=> ?_);clear hK K;refine yl (a':= ?_) ?_ ?_;rotate_left
             ·show Act.put _ (some 45) _=_
              simp only [Act.put,List.setIfInBounds_toArray,List.set_cons_zero,List.set_cons_succ,zx,zy]
              rfl
             refine one_ (i:=4) (N:=some 43) #[true,true,true,true,true,true,true,false,true,true,true,false,false] rfl rfl (ym HT_.out (by kernel_rfl)) (by decide) (fun K hK=> ?_);refine Kd.R_append_rows_step Kd.string (w0:=w) w.heap.size (by rfl) (.tmp 39) (.tmp 42) 32 9 (.string ⟨#[]⟩) 16 rfl Try.underlying32 Zu rfl (by decide) (by omega) v398 y397 (l0.take (x5_1:Int).toNat) _ _ _ (fun k_=>some k_≠(v405:Value).ownBlock) (fun _=>False) rfl rfl ?aO ?aR (fun _ _ h=>h) (fun _ h=>h.elim) ?aF ?aB ?aS ?aL ?_
             (case aR=>first|(refine Zj (Q7:(l0.take (x5_1:Int).toNat).length=x5_1.toNat) ?_;repeat (first|exact (Kd.C_below HR400.out HB.out)|(with_reducible refine Kd.C_alloc ?_ _)|(with_reducible refine Kd.C_drewN ?_ _)|(with_reducible refine Kd.C_drew ?_)))|(repeat (first|exact (Kd.C_below HR400.out HB.out)|(with_reducible refine Kd.C_alloc ?_ _)|(with_reducible refine Kd.C_drewN ?_ _)|(with_reducible refine Kd.C_drew ?_))))
             (case aB=>exact Qc)
             (case aF=>exact (fun k_ hk=>Kd.fresh' (Kd.R_lt (Qh HO406)) k_ hk))
             (case aO=>exact Q4)
             (case aS=>exact (zE Qc))
             (case aL=>have:=LMc32.out;have hlx_:=(show (l0.take (x5_1:Int).toNat).length=x5_1.toNat from Q7);omega)
             intro v402 w44 ho hb hg hat
             rw [←Ny401.out] at ho;have n0_:=zA.mk (Kd.R_after (ok:=(fun _=>True)) (Qh HO406) hg hat);have n1_:=zA.mk (hb);have n2_:=zA.mk (ho);clear HO406 HB HO399;have HO406:=n0_;have HB:=n1_;have HO403:=n2_
             clear n0_ n1_ n2_ ho hb hg hat
             refine hK.out _ _ trivial (fun hHeld=> ?_);clear hK K;refine yl (a':= ?_) ?_ ?_;rotate_left
             ·show Act.put _ (some 43) _=_
              simp only [Act.put,List.setIfInBounds_toArray,List.set_cons_zero,List.set_cons_succ,zx,zy]
              rfl
             exact yl Q5 (hCont (v398,v402,v405) _ ⟨(Qh HO403),Q3,Qc⟩)
           ·skip
            refine Kd.R_lit_step Kd.string _ 9 ?hg (N:=45) ?hd (xs:=([a1]:List ByteArray)) (inner:= [.string a1]) (ok:=fun _=>True) (okp:=fun _=>True) ?hr ?hp (fun _ hk=>hk) trivial (Below.refl _ _) (Nat.le_refl _) (by simp) ?_;(case hd=>rfl);(case hg=>rfl);(case hr=>exact Qm);(case hp=>exact (Reps.one (show Kd.M Kd.string _ _ _ a1 [.string a1] from rfl) (Reps.none _ _)));intro v405 w40 ho41 hb hg_ hnew_;clear hg_ hnew_
            (first|rw [←Ny404.out] at ho41|(simp only [Int.reduceToNat] at ho41;rw [←Ny404.out] at ho41))
            have n0_:=zA.mk (Kd.R_lower ho41 (zE Qc));have n1_:=zA.mk (zH Qc hb);clear HB;have HO406:=n0_;have HB:=n1_;clear n0_ n1_ hb ho41;refine hK.out _ _ trivial (fun hHeld=> ?_);clear hK K;refine yl (a':= ?_) ?_ ?_;rotate_left
            ·show Act.put _ (some 45) _=_
             simp only [Act.put,List.setIfInBounds_toArray,List.set_cons_zero,List.set_cons_succ,zx,zy]
             rfl
            refine one_ (i:=0) (N:=some 39) #[true,true,true,true,false,true,true,false,true,true,true,false,false] rfl rfl (ym HT_.out (by kernel_rfl)) (by decide) (fun K hK=> ?_);refine Kd.R_lit_step Kd.string _ 9 ?hg (N:=39) ?hd (xs:=([]:List ByteArray)) (inner:= []) (ok:=fun _=>True) (okp:=fun _=>True) ?hr ?hp (fun _ hk=>hk) trivial (Below.refl _ _) (Nat.le_refl _) (by simp) ?_;(case hd=>rfl);(case hg=>rfl);(case hr=>exact Qm);(case hp=>exact (Reps.none _ _));intro v398 w42 ho43 hb hg_ hnew_;clear hg_ hnew_
            (first|rw [←Ny397.out] at ho43|(simp only [Int.reduceToNat] at ho43;rw [←Ny397.out] at ho43))
            have n0_:=zA.mk (Kd.R_elder' (Qh HO406) (Kd.R_base ho43) hb);have n1_:=zA.mk (Kd.R_lower (Kd.R_new' ho43 (Kd.R_lt (Qh HO406))) (zE Qc));have n2_:=zA.mk (zH Qc hb);clear HO406 HB;have HO406:=n0_;have HO399:=n1_;have HB:=n2_;clear n0_ n1_ n2_ hb ho43;refine hK.out _ _ trivial (fun hHeld=> ?_);clear hK K;refine yl (a':= ?_) ?_ ?_;rotate_left
            ·show Act.put _ (some 39) _=_
             simp only [Act.put,List.setIfInBounds_toArray,List.set_cons_zero,List.set_cons_succ,zx,zy]
             rfl
            refine one_ (i:=4) (N:=some 43) #[true,true,true,true,true,true,true,false,true,true,true,false,false] rfl rfl (ym HT_.out (by kernel_rfl)) (by decide) (fun K hK=> ?_);refine Kd.R_append_rows_step Kd.string (w0:=w) w.heap.size (by rfl) (.tmp 39) (.tmp 42) 32 9 (.string ⟨#[]⟩) 16 rfl Try.underlying32 Zu rfl (by decide) (by omega) v398 y397 (l0.take (x5_1:Int).toNat) _ _ _ (fun k_=>some k_≠(v405:Value).ownBlock) (fun _=>False) rfl rfl ?aO ?aR (fun _ _ h=>h) (fun _ h=>h.elim) ?aF ?aB ?aS ?aL ?_
            (case aR=>first|(refine Zj (Q7:(l0.take (x5_1:Int).toNat).length=x5_1.toNat) ?_;repeat (first|exact (Kd.C_below HR400.out HB.out)|(with_reducible refine Kd.C_alloc ?_ _)|(with_reducible refine Kd.C_drewN ?_ _)|(with_reducible refine Kd.C_drew ?_)))|(repeat (first|exact (Kd.C_below HR400.out HB.out)|(with_reducible refine Kd.C_alloc ?_ _)|(with_reducible refine Kd.C_drewN ?_ _)|(with_reducible refine Kd.C_drew ?_))))
            (case aB=>exact Qc)
            (case aF=>exact (fun k_ hk=>Kd.fresh' (Kd.R_lt (Qh HO406)) k_ hk))
            (case aO=>exact Q4)
            (case aS=>exact (zE Qc))
            (case aL=>have:=LMc32.out;have hlx_:=(show (l0.take (x5_1:Int).toNat).length=x5_1.toNat from Q7);omega)
            intro v402 w44 ho hb hg hat
            rw [←Ny401.out] at ho;have n0_:=zA.mk (Kd.R_after (ok:=(fun _=>True)) (Qh HO406) hg hat);have n1_:=zA.mk (hb);have n2_:=zA.mk (ho);clear HO406 HB HO399;have HO406:=n0_;have HB:=n1_;have HO403:=n2_
            clear n0_ n1_ n2_ ho hb hg hat
            refine hK.out _ _ trivial (fun hHeld=> ?_);clear hK K;refine yl (a':= ?_) ?_ ?_;rotate_left
            ·show Act.put _ (some 43) _=_
             simp only [Act.put,List.setIfInBounds_toArray,List.set_cons_zero,List.set_cons_succ,zx,zy]
             rfl
            exact yl Q5 (hCont (v398,v402,v405) _ ⟨(Qh HO403),Q3,Qc⟩)
          rintro ⟨v398,v402,v405⟩ w45 ⟨h0_,h1_,h2_⟩;have n0_:zA (Kd.R Kd.string 9 w45 w.heap.size (fun k_=>some k_≠(v405:Value).ownBlock) v402 y401):=⟨h0_⟩;have n1_:zA (Kd.R Kd.string 9 w45 w.heap.size (fun k_=>some k_≠(v402:Value).ownBlock) v405 y404):=⟨h1_⟩;have n2_:zA (Below w.heap.size w w45):=⟨h2_⟩;clear HB h0_ h1_ h2_;have HO403:=n0_;have HO406:=n1_;have HB:=n2_;clear n0_ n1_ n2_;have hHeld:=trivial;obtain ⟨Ao47,co47,eo47⟩:=Kd.R_slice HO406.out
          (first|subst eo47|(injection eo47 with f1_ f2_ f3_;have f4_:=f1_.symm;have f5_:=f3_.symm;clear f1_ f2_ f3_;subst f4_;subst f5_))
          refine yl (a':= ?_) ?_ ?_;rotate_left
          ·simp only [Zt,Act.put,List.setIfInBounds_toArray,List.set_cons_zero,List.set_cons_succ]
           rfl
          refine one_ (i:=7) (N:=some 46) #[true,true,true,true,true,true,true,true,true,true,true,false,false] rfl rfl (ym HT_.out (by kernel_rfl)) (by decide) (fun K hK=> ?_);refine Kd.R_append_rows_step Kd.string (w0:=w) w.heap.size (by rfl) (.tmp 43) (.tmp 45) 32 9 (.string ⟨#[]⟩) 16 rfl Try.underlying32 Zu rfl (by decide) (by omega) v402 y401 y404 _ _ _ (fun k_=>some k_≠(.slice Ao47 y404.length co47:Value).ownBlock) (fun _=>False) rfl rfl ?aO ?aR (fun _ _ h=>h) (fun _ h=>h.elim) ?aF ?aB ?aS ?aL ?_
          (case aR=>repeat (first|exact (Kd.R_reads' HO406.out).2.2|(with_reducible refine Kd.C_alloc ?_ _)|(with_reducible refine Kd.C_drewN ?_ _)|(with_reducible refine Kd.C_drew ?_)))
          (case aB=>exact Qc)
          (case aF=>exact (fun k_ hk=>Kd.fresh' (Kd.R_lt (Qh HO406)) k_ hk))
          (case aO=>exact (Qh HO403))
          (case aS=>exact (zE Qc))
          (case aL=>have:=LMc33.out;omega)
          intro v408 w46 ho hb hg hat
          rw [←Ny407.out] at ho;have n0_:=zA.mk (Kd.R_after (ok:=(fun _=>True)) (by (with_reducible repeat (first|apply Kd.R_alloc|apply Kd.R_drewN|apply Kd.R_drew));exact Kd.R_mono HO406.out (fun _ hk=>⟨trivial,hk⟩)) hg hat);have n1_:=zA.mk (hb);have n2_:=zA.mk (ho);clear HO406 HB HO403;have HO406:=n0_;have HB:=n1_;have HO409:=n2_
          clear n0_ n1_ n2_ ho hb hg hat
          refine hK.out _ _ trivial (fun hHeld=> ?_);clear hK K;refine yl (a':= ?_) ?_ ?_;rotate_left
          ·show Act.put _ (some 46) _=_
           simp only [Act.put,List.setIfInBounds_toArray,List.set_cons_zero,List.set_cons_succ,zx,zy]
           rfl
          refine one_ (i:=11) (N:=some 50) #[true,true,true,true,true,true,true,true,true,true,true,true,false] rfl rfl (ym HT_.out (by kernel_rfl)) (by decide) (fun K hK=> ?_);refine Kd.R_append_rows_step Kd.string (w0:=w) w.heap.size (by rfl) (.tmp 46) (.tmp 49) 32 9 (.string ⟨#[]⟩) 16 rfl Try.underlying32 Zu rfl (by decide) (by omega) v408 y407 (l0.drop (x5_1:Int).toNat) _ _ _ (fun k_=>some k_≠(.slice Ao47 y404.length co47:Value).ownBlock) (fun _=>False) rfl rfl ?aO ?aR (fun _ _ h=>h) (fun _ h=>h.elim) ?aF ?aB ?aS ?aL ?_
          (case aR=>first|(refine Zj (List.length_drop:(l0.drop (x5_1:Int).toNat).length=(l0.length - x5_1.toNat)) ?_;repeat (first|exact (Kd.C_below HR410.out HB.out)|(with_reducible refine Kd.C_alloc ?_ _)|(with_reducible refine Kd.C_drewN ?_ _)|(with_reducible refine Kd.C_drew ?_)))|(repeat (first|exact (Kd.C_below HR410.out HB.out)|(with_reducible refine Kd.C_alloc ?_ _)|(with_reducible refine Kd.C_drewN ?_ _)|(with_reducible refine Kd.C_drew ?_))))
          (case aB=>exact Qc)
          (case aF=>exact (fun k_ hk=>Kd.fresh' (Kd.R_lt (Qh HO406)) k_ hk))
          (case aO=>exact (Qh HO409))
          (case aS=>exact (zE Qc))
          (case aL=>have:=LMc36.out;have hlx_:=(show (l0.drop (x5_1:Int).toNat).length=(l0.length - x5_1.toNat) from List.length_drop);omega)
          intro v412 w48 ho hb hg hat
          rw [←Ny411.out] at ho;have n0_:=zA.mk (Kd.R_after (ok:=(fun _=>True)) (Qh HO406) hg hat);have n1_:=zA.mk (hb);have n2_:=zA.mk (ho);clear HO406 HB HO409;have HO406:=n0_;have HB:=n1_;have HO413:=n2_
          clear n0_ n1_ n2_ ho hb hg hat
          refine hK.out _ _ trivial (fun hHeld=> ?_);clear hK K;refine yl (a':= ?_) ?_ ?_;rotate_left
          ·show Act.put _ (some 50) _=_
           simp only [Act.put,List.setIfInBounds_toArray,List.set_cons_zero,List.set_cons_succ,zx,zy]
           rfl
          refine yM (i:=12) (N:=some 4) (v:= ?_) (a':= ?_) #[true,true,true,true,true,true,true,true,true,true,true,true,true] rfl rfl (yD HT_.out (by kernel_rfl)) (fun _ _ _ h=>h) (Or.inl ⟨by rfl,?_⟩) ?_ ?_;rotate_left
          ·intro w'
           go_simp
           with_reducible rfl
          rotate_left
          ·simp only [Act.put,List.setIfInBounds_toArray,List.set_cons_zero,List.set_cons_succ,zx,zy]
           rfl
          refine YR (Ze HT_.out (by kernel_rfl)) ?_
          try go_wp2
          go_ret
          exact ⟨_,by first|rfl|(simp [zS,zT] <;> rfl)|(simp [*,zS,zT] <;> rfl), .inr (by (with_reducible repeat (first|apply Kd.R_alloc|apply Kd.R_drewN|apply Kd.R_drew));exact Kd.R_mono HO413.out (fun _ hk=>trivial)),by repeat (first|(with_reducible first|exact HB.out|apply zG|apply zC|apply zF)|exact HB.out)⟩
         ·rw [if_neg c36] at H
          exact absurd H (by simp)
        ·rw [if_neg c33] at H
         exact absurd H (by simp)
       ·rw [if_neg c32] at H
        exact absurd H (by simp)
      ·rw [if_neg c31] at H
       exact absurd H (by simp)
     ·rw [if_neg c30] at H
      exact absurd H (by simp)
theorem zX.own {w':World} {base B:Nat} {ok:Nat→Prop} {A0:Option Addr} {c0:Nat} {l0 r:List ByteArray} {v0_:Value} (h:v0_= .slice A0 l0.length c0∧r=l0∨Kd.R Kd.string 9 w' B (fun _=>True) v0_ r)
  (ho:Kd.R Kd.string 9 w' base ok (.slice A0 l0.length c0) l0) (hb:base≤B):Kd.R Kd.string 9 w' base (fun _=>True) v0_ r:=by
 rcases h with ⟨rfl,rfl⟩|h
 ·exact Kd.R_mono ho (fun _ _=>trivial)
 ·exact Kd.R_lower h hb
end Go.Proofs.Ytlanhkekjhlmjaa.HGuessWords
