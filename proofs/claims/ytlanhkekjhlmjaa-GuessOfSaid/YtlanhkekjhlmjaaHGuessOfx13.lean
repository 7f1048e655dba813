-- Written by plus.py for this claim.
import Derived.Test.YtlanhkekjhlmjaaSGuessOfVZip
import Derived.Test.YtlanhkekjhlmjaaHGuessOfx0
import Derived.Test.YtlanhkekjhlmjaaHGuessOfx1
namespace Go.Proofs.Ytlanhkekjhlmjaa.HGuessOf
open Go.RowKit Go.Proofs.YtlanhkekjhlmjaaW.PrintWords Go.Proofs.YtlanhkekjhlmjaaW.PrintLast Go.Proofs.YtlanhkekjhlmjaaW.PrintMore
attribute [local go_sem] yq yr ZJ ZK ym yn yt yu   -- for this text's walks alone
set_option linter.unusedVariables false
set_option linter.unusedSimpArgs false
def ze.l0:Nat→List ByteArray→ByteArray→Int→Int→Option (List ByteArray)
 | 0,_,_,_,_=>none
 | k + 1,x0,x1,x5,x6=>if x5 < x6 then (if 0≤(wrap64 (Int.tdiv (wrap64 (x5 + x6)) 2)) then (if (wrap64 (Int.tdiv (wrap64 (x5 + x6)) 2)) < (x0.length:Int) then (if (Op.bytesLess ((rdOf ByteArray.empty x0 (wrap64 (Int.tdiv (wrap64 (x5 + x6)) 2))).toList) x1.toList)=true then (ze.l0 k x0 x1 (wrap64 ((wrap64 (Int.tdiv (wrap64 (x5 + x6)) 2)) + 1)) x6) else (ze.l0 k x0 x1 x5 (wrap64 (Int.tdiv (wrap64 (x5 + x6)) 2)))) else (none)) else (none)) else (if x5 < (x0.length:Int) then (if 0≤x5 then (if (rdOf ByteArray.empty x0 x5).toList=x1.toList then (some x0) else ((some (([]:List ByteArray):List ByteArray)).bind fun y302=>(if x5≤(x0.length:Int) then (if y302.length + (x0.take (x5:Int).toNat).length < 8796093022208 then ((some (y302 ++ (x0.take (x5:Int).toNat):List ByteArray)).bind fun y306=>((some (([x1]:List ByteArray):List ByteArray)).bind fun y309=>(if y306.length + y309.length < 8796093022208 then ((some (y306 ++ y309:List ByteArray)).bind fun y312=>(if y312.length + (x0.drop (x5:Int).toNat).length < 8796093022208 then (some (y312 ++ (x0.drop (x5:Int).toNat))) else (none))) else (none)))) else (none)) else (none)))) else (none)) else ((some (([]:List ByteArray):List ByteArray)).bind fun y319=>(if 0≤x5 then (if x5≤(x0.length:Int) then (if y319.length + (x0.take (x5:Int).toNat).length < 8796093022208 then ((some (y319 ++ (x0.take (x5:Int).toNat):List ByteArray)).bind fun y323=>((some (([x1]:List ByteArray):List ByteArray)).bind fun y326=>(if y323.length + y326.length < 8796093022208 then ((some (y323 ++ y326:List ByteArray)).bind fun y329=>(if y329.length + (x0.drop (x5:Int).toNat).length < 8796093022208 then (some (y329 ++ (x0.drop (x5:Int).toNat))) else (none))) else (none)))) else (none)) else (none)) else (none))))
def ze.f (k:Nat) (l0:List ByteArray) (a1:ByteArray):Option (List ByteArray):=ze.l0 k l0 a1 0 (l0.length:Int)
theorem ze.mono_l:∀k,(∀y0 y1 y2 y3,LeO (ze.l0 k y0 y1 y2 y3) (ze.l0 (k + 1) y0 y1 y2 y3))
 | 0=>fun _ _ _ _ r h=>by simp [ze.l0] at h
 | k + 1=>by
  have ih0:=ze.mono_l k
  ·intro y0 y1 y2 y3
   unfold ze.l0
   repeat' first
   | with_reducible first|exact ih0 _ _ _ _|exact LeO.refl _|exact LeO.none _|refine LeO.ite ?_ ?_|refine LeO.bind ?_ (fun _=> ?_)
   | exact ih0 _ _ _ _|exact LeO.none _|refine LeO.ite ?_ ?_|refine LeO.bind ?_ (fun _=> ?_)
theorem ze.mono:∀a0 a1 k,LeO (ze.f k a0 a1) (ze.f (k + 1) a0 a1):=by
 intro a0 a1 k;have ih0:=ze.mono_l k
 unfold ze.f
 repeat' first
   | with_reducible first|exact ih0 _ _ _ _|exact LeO.refl _|exact LeO.none _|refine LeO.ite ?_ ?_|refine LeO.bind ?_ (fun _=> ?_)
   | exact ih0 _ _ _ _|exact LeO.none _|refine LeO.ite ?_ ?_|refine LeO.bind ?_ (fun _=> ?_)
def ze.T9:Bool × List (List Nat × List Nat):=(true,[([],[]),([],[]),([],[]),([1,2],[1,2]),([0,3],[0,3]),([],[]),([5],[5]),([4,6,4],[4,6]),([],[]),([],[]),([8,9],[8,9]),([7,10,7],[7,10]),([11,11,0,1,2,3,4,5,6,7,8,9,10,11],[11])])
def ze.B9:List Nat:= [0,0,0,6,15,0,32,127,0,0,768,2047,4095]
theorem ze.tab9:rtab .any (Yx Try.f39 9)=ze.T9:=by kernel_rfl
theorem ze.bits9:Zh ze.T9.2 ze.B9=true:=by kernel_rfl
set_option maxHeartbeats 8000000 in
set_option maxRecDepth 100000 in
theorem ze.calls (k:Nat) (A0:Option Addr) (c0:Nat) (l0:List ByteArray) (a1:ByteArray) (r:List ByteArray) (w:World) (hr0:Kd.C Kd.string w A0 l0.length l0) (hc0:l0.length≤c0) (h:ze.f k l0 a1=some r) :
  Calls Try.prog 39 #[.slice A0 l0.length c0, .string a1] w fun e w'=>∃v0_:Value,e= .returned (v0_)∧(v0_= .slice A0 l0.length c0∧r=l0∨Kd.R Kd.string 9 w' w.heap.size (fun _=>True) v0_ r)∧Below w.heap.size w w':=by
 have HR0:=zA.mk hr0;have HC0:=zA.mk hc0;clear hr0 hc0;have HB:=zA.mk (Below.refl w.heap.size w);have H:(ze.l0 k l0 a1 0 (l0.length:Int))=some r:=h;clear h;have H':=zA.mk H;clear H
 go_enter Try.func39,Try.ntmps39
 go_wp2
 go_loopg [5,6] k (fun kq v5 v6 w'=>∃(x5_1:Int) (x6_1:Int),v5= .int .i64 x5_1∧v6= .int .i64 x6_1∧zA (ze.l0 kq l0 a1 x5_1 x6_1=some r)∧zA (kq≤k)∧zA (Below w.heap.size w w'))
 case atStart=>exact ⟨(0),((l0.length:Int)),Zf,Zf,H',⟨Nat.le_refl _⟩,⟨by repeat (first|(with_reducible first|exact HB.out|apply zG|apply zC|apply zH)|exact HB.out)⟩⟩
 case round=>
  clear H';(try clear p2);obtain ⟨x5_1,x6_1,rfl,rfl,HA,HK1,HB⟩:=hrel;cases gk with
  | zero=>exact absurd HA.out (by simp [ze.l0])
  | succ k1=>
   have H:=HA.out;clear HA;simp only [ze.l0] at H
   by_cases c3:x5_1 < x6_1
   ·rw [if_pos c3] at H
    have c3b0:=decide_eq_true c3;clear c3;obtain ⟨ji4,hji4⟩:∃j_:Int,(wrap64 (Int.tdiv (wrap64 (x5_1 + x6_1)) 2))=j_:=⟨_,rfl⟩
    replace H:(if 0≤(ji4) then (if (ji4) < (l0.length:Int) then (if (Op.bytesLess ((rdOf ByteArray.empty l0 (ji4)).toList) a1.toList)=true then (ze.l0 k1 l0 a1 (wrap64 ((ji4) + 1)) x6_1) else (ze.l0 k1 l0 a1 x5_1 ji4)) else (none)) else (none))=some r:=by first|(rw [hji4] at H;exact H)|(simp only [hji4] at H⊢;exact H)
    have hji4w:(IntKind.i64.wrap (Int.tdiv (wrap64 (x5_1 + x6_1)) 2))=ji4:=(zq _).trans hji4
    by_cases c5:0≤(ji4)
    ·rw [if_pos c5] at H
     have c5b0:=decide_eq_true c5;clear c5
     by_cases c6:(ji4) < (l0.length:Int)
     ·rw [if_pos c6] at H
      have c6b0:=decide_eq_true c6;clear c6
      by_cases c7:(Op.bytesLess ((rdOf ByteArray.empty l0 (ji4)).toList) a1.toList)=true
      ·rw [if_pos c7] at H
       have c7b0:(Op.bytesLess ((rdOf ByteArray.empty l0 (ji4)).toList) a1.toList)=true:=c7;clear c7;have H':=zA.mk H;clear H;have p300:0≤((ji4):Int):=Qa;have q300:(ji4) < (l0.length:Int):=Qa;obtain ⟨ad300,e300,hx300_0⟩:=Kd.at_string HR0.out (ji4) p300 q300;cases e300;replace hx300_0:=(HB.out.cell (ZzA w _ hx300_0)).trans hx300_0;replace p300:=eq_true p300;replace q300:=eq_true q300
       go_wp2
       go_roundg k1
       case measure=>have:=HK1.out;omega
       case rel=>exact ⟨(wrap64 ((ji4) + 1)),(x6_1),Za,Zf,H',⟨by have:=HK1.out;omega⟩,⟨by repeat (first|(with_reducible first|exact HB.out|apply zG|apply zC|apply zH)|exact HB.out)⟩⟩
      ·rw [if_neg c7] at H
       have c7b0:(Op.bytesLess ((rdOf ByteArray.empty l0 (ji4)).toList) a1.toList)=false:=by simpa using c7
       clear c7;have H':=zA.mk H;clear H;have p300:0≤((ji4):Int):=Qa;have q300:(ji4) < (l0.length:Int):=Qa;obtain ⟨ad300,e300,hx300_0⟩:=Kd.at_string HR0.out (ji4) p300 q300;cases e300;replace hx300_0:=(HB.out.cell (ZzA w _ hx300_0)).trans hx300_0;replace p300:=eq_true p300;replace q300:=eq_true q300
       go_wp2
       go_roundg k1
       case measure=>have:=HK1.out;omega
       case rel=>exact ⟨(x5_1),(ji4),Zf,Za,H',⟨by have:=HK1.out;omega⟩,⟨by repeat (first|(with_reducible first|exact HB.out|apply zG|apply zC|apply zH)|exact HB.out)⟩⟩
     ·rw [if_neg c6] at H
      exact absurd H (by simp)
    ·rw [if_neg c5] at H
     exact absurd H (by simp)
   ·rw [if_neg c3] at H
    have c3b0:=decide_eq_false c3;clear c3
    by_cases c8:x5_1 < (l0.length:Int)
    ·rw [if_pos c8] at H
     have c8b0:=decide_eq_true c8;clear c8
     by_cases c9:0≤x5_1
     ·rw [if_pos c9] at H
      have c9b0:=decide_eq_true c9;clear c9
      by_cases c10:(rdOf ByteArray.empty l0 x5_1).toList=a1.toList
      ·rw [if_pos c10] at H
       have c10b0:((rdOf ByteArray.empty l0 x5_1).toList == a1.toList)=true:=beq_iff_eq.mpr c10;have c10b1:((rdOf ByteArray.empty l0 x5_1).toList != a1.toList)=false:=bne_eq_false_iff_eq.mpr c10;clear c10;obtain rfl:=Option.some.inj H;have p301:0≤(x5_1:Int):=Qa;have q301:x5_1 < (l0.length:Int):=Qa;obtain ⟨ad301,e301,hx301_0⟩:=Kd.at_string HR0.out x5_1 p301 q301;cases e301;replace hx301_0:=(HB.out.cell (ZzA w _ hx301_0)).trans hx301_0;replace p301:=eq_true p301;replace q301:=eq_true q301
       go_wp2
       go_ret
       exact ⟨_,by first|rfl|(simp [zT,zU] <;> rfl)|(simp [*,zT,zU] <;> rfl),(by first|exact .inl ⟨rfl,rfl⟩|exact .inl rfl|(left;simp)),by repeat (first|(with_reducible first|exact HB.out|apply zG|apply zC|apply zH)|exact HB.out)⟩
      ·rw [if_neg c10] at H
       have c10b0:((rdOf ByteArray.empty l0 x5_1).toList == a1.toList)=false:=beq_eq_false_iff_ne.mpr c10;have c10b1:((rdOf ByteArray.empty l0 x5_1).toList != a1.toList)=true:=bne_iff_ne.mpr c10;obtain ⟨y302,hy302⟩:∃y_:List ByteArray,y_=(([]:List ByteArray)):=⟨_,rfl⟩;replace H:(if x5_1≤(l0.length:Int) then (if y302.length + (l0.take (x5_1:Int).toNat).length < 8796093022208 then ((some (y302 ++ (l0.take (x5_1:Int).toNat):List ByteArray)).bind fun y306=>((some (([a1]:List ByteArray):List ByteArray)).bind fun y309=>(if y306.length + y309.length < 8796093022208 then ((some (y306 ++ y309:List ByteArray)).bind fun y312=>(if y312.length + (l0.drop (x5_1:Int).toNat).length < 8796093022208 then (some (y312 ++ (l0.drop (x5_1:Int).toNat))) else (none))) else (none)))) else (none)) else (none))=some r:=Qb hy302 H;have Ny302:=zA.mk hy302;clear hy302;have c11b0:=eq_true (Qa:0≤x5_1)
       by_cases c12:x5_1≤(l0.length:Int)
       ·rw [if_pos c12] at H
        have c12b0:=eq_true c12;have c12b1:=decide_eq_true c12;clear c12
        by_cases c13:y302.length + (l0.take (x5_1:Int).toNat).length < 8796093022208
        ·rw [if_pos c13] at H
         have LMc13:=zA.mk c13;clear c13;obtain ⟨y306,hy306⟩:∃y_:List ByteArray,y_=(y302 ++ (l0.take (x5_1:Int).toNat)):=⟨_,rfl⟩;replace H:((some (([a1]:List ByteArray):List ByteArray)).bind fun y309=>(if y306.length + y309.length < 8796093022208 then ((some (y306 ++ y309:List ByteArray)).bind fun y312=>(if y312.length + (l0.drop (x5_1:Int).toNat).length < 8796093022208 then (some (y312 ++ (l0.drop (x5_1:Int).toNat))) else (none))) else (none)))=some r:=Qb hy306 H;have Ny306:=zA.mk hy306;clear hy306;obtain ⟨y309,hy309⟩:∃y_:List ByteArray,y_=(([a1]:List ByteArray)):=⟨_,rfl⟩;replace H:(if y306.length + y309.length < 8796093022208 then ((some (y306 ++ y309:List ByteArray)).bind fun y312=>(if y312.length + (l0.drop (x5_1:Int).toNat).length < 8796093022208 then (some (y312 ++ (l0.drop (x5_1:Int).toNat))) else (none))) else (none))=some r:=Qb hy309 H;have Ny309:=zA.mk hy309;clear hy309
         by_cases c14:y306.length + y309.length < 8796093022208
         ·rw [if_pos c14] at H
          have LMc14:=zA.mk c14;clear c14;obtain ⟨y312,hy312⟩:∃y_:List ByteArray,y_=(y306 ++ y309):=⟨_,rfl⟩;replace H:(if y312.length + (l0.drop (x5_1:Int).toNat).length < 8796093022208 then (some (y312 ++ (l0.drop (x5_1:Int).toNat))) else (none))=some r:=Qb hy312 H;have Ny312:=zA.mk hy312;clear hy312;have c15b0:=eq_true (Qa:0≤x5_1);have c16b0:=eq_true (Qa:x5_1≤(l0.length:Int))
          by_cases c17:y312.length + (l0.drop (x5_1:Int).toNat).length < 8796093022208
          ·rw [if_pos c17] at H
           have LMc17:=zA.mk c17;clear c17;obtain ⟨y316,hy316⟩:∃y_:List ByteArray,y_=(y312 ++ (l0.drop (x5_1:Int).toNat)):=⟨_,rfl⟩;replace H:(some y316)=some r:=Qb hy316 H;have Ny316:=zA.mk hy316;clear hy316;obtain rfl:=Option.some.inj H;have p301:0≤(x5_1:Int):=Qa;have q301:x5_1 < (l0.length:Int):=Qa;obtain ⟨ad301,e301,hx301_0⟩:=Kd.at_string HR0.out x5_1 p301 q301;cases e301;replace hx301_0:=(HB.out.cell (ZzA w _ hx301_0)).trans hx301_0;replace p301:=eq_true p301;replace q301:=eq_true q301
           try go_wp2
           have n0_:=zA.mk (zH HB.out);clear HB;have HB:=n0_;clear n0_;obtain ⟨i019,hi019,_,hsz19,_⟩:=info_parts YA;obtain ⟨hcut19,hA19,hC19⟩:=Ym (P:=Try.prog) Value.string (⟨#[]⟩:ByteArray) 32 9 .i64 Try.underlying32 hi019 hsz19 (some ad301) c0 l0 x5_1 (Qa) (Qa) HC0.out;have HR305:=zA.mk (Kd.C_of_reads (h1:=fun _=>rfl) (hA19 _ (Kd.reads_of_C HR0.out)));have HC305:=zA.mk hC19;clear hA19 hC19 hi019 hsz19;obtain ⟨i020,hi020,_,hsz20,_⟩:=info_parts YA;obtain ⟨A20,hcut20,hA20,hC20⟩:=qR (P:=Try.prog) Value.string (⟨#[]⟩:ByteArray) 32 9 .i64 Try.underlying32 hi020 hsz20 (some ad301) c0 l0 x5_1 (Qa) (Qa) HC0.out;have HR315:=zA.mk (Kd.C_of_reads (h1:=fun _=>rfl) (hA20 _ (Kd.reads_of_C HR0.out)));have HC315:=zA.mk hC20;clear hA20 hC20 hi020 hsz20;refine Zr (n:=13) (S:=fun w'=>True) (ds:= []) #[false,false,false,false,false,false,false,false,false,false,false,false,false] (by kernel_rfl) rfl rfl trivial (fun hHeld=> ?_);refine yw ze.tab9 ze.bits9 (fun HT_ HW_=> ?_)
           generalize wr.drew=w18 at HB HR305 HR315 hHeld⊢
           refine yF (i:=1) (N:=some 40) (v:= ?_) (a':= ?_) #[false,true,false,false,false,false,false,false,false,false,false,false,false] rfl rfl (yA HT_.out (by kernel_rfl)) (fun _ _ _ h=>h) (Or.inl ⟨by rfl,?_⟩) ?_ ?_;rotate_left
           ·intro w'
            go_simp
            with_reducible rfl
           rotate_left
           ·simp only [Act.put,List.setIfInBounds_toArray,List.set_cons_zero,List.set_cons_succ,zq,zt]
            rfl
           refine yF (i:=2) (N:=some 41) (v:= ?_) (a':= ?_) #[false,true,true,false,false,false,false,false,false,false,false,false,false] rfl rfl (yA HT_.out (by kernel_rfl)) (fun _ _ _ h=>h) (Or.inl ⟨by rfl,?_⟩) ?_ ?_;rotate_left
           ·intro w'
            go_simp
            with_reducible rfl
           rotate_left
           ·simp only [Act.put,List.setIfInBounds_toArray,List.set_cons_zero,List.set_cons_succ,zq,zt]
            rfl
           refine yF (i:=3) (N:=some 42) (v:= ?_) (a':= ?_) #[false,true,true,true,false,false,false,false,false,false,false,false,false] rfl rfl (yA HT_.out (by kernel_rfl)) (fun _ _ _ h=>h) (Or.inl ⟨by rfl,?_⟩) ?_ ?_;rotate_left
           ·intro w'
            go_simp
            with_reducible rfl
           rotate_left
           ·simp only [Act.put,List.setIfInBounds_toArray,List.set_cons_zero,List.set_cons_succ,zq,zt]
            rfl
           refine yF (i:=5) (N:=some 44) (v:= ?_) (a':= ?_) #[false,true,true,true,false,true,false,false,false,false,false,false,false] rfl rfl (yA HT_.out (by kernel_rfl)) (fun _ _ _ h=>h) (Or.inl ⟨by rfl,?_⟩) ?_ ?_;rotate_left
           ·intro w'
            go_simp
            with_reducible rfl
           rotate_left
           ·simp only [Act.put,List.setIfInBounds_toArray,List.set_cons_zero,List.set_cons_succ,zq,zt]
            rfl
           refine yF (i:=8) (N:=some 47) (v:= ?_) (a':= ?_) #[false,true,true,true,false,true,false,false,true,false,false,false,false] rfl rfl (yA HT_.out (by kernel_rfl)) (fun _ _ _ h=>h) (Or.inl ⟨by rfl,?_⟩) ?_ ?_;rotate_left
           ·intro w'
            go_simp
            with_reducible rfl
           rotate_left
           ·simp only [Act.put,List.setIfInBounds_toArray,List.set_cons_zero,List.set_cons_succ,zq,zt]
            rfl
           refine yF (i:=9) (N:=some 48) (v:= ?_) (a':= ?_) #[false,true,true,true,false,true,false,false,true,true,false,false,false] rfl rfl (yA HT_.out (by kernel_rfl)) (fun _ _ _ h=>h) (Or.inl ⟨by rfl,?_⟩) ?_ ?_;rotate_left
           ·intro w'
            go_simp
            with_reducible rfl
           rotate_left
           ·simp only [Act.put,List.setIfInBounds_toArray,List.set_cons_zero,List.set_cons_succ,zq,zt]
            rfl
           refine yF (i:=10) (N:=some 49) (v:= ?_) (a':= ?_) #[false,true,true,true,false,true,false,false,true,true,true,false,false] rfl rfl (yA HT_.out (by kernel_rfl)) (fun _ _ _ h=>h) (Or.inl ⟨by rfl,?_⟩) ?_ ?_;rotate_left
           ·intro w'
            go_simp
            with_reducible rfl
           rotate_left
           ·simp only [Act.put,List.setIfInBounds_toArray,List.set_cons_zero,List.set_cons_succ,zq,zt]
            rfl
           refine join_ (σ:=Value × Value × Value) 3 #[true,true,true,true,true,true,true,false,true,true,true,false,false] (fun s_=> [(39,s_.1),(43,s_.2.1),(45,s_.2.2)]) (fun s_ w'=>(Kd.R Kd.string 9 w' w.heap.size (fun k_=>some k_≠(s_.2.2:Value).ownBlock) s_.2.1 y306)∧(Kd.R Kd.string 9 w' w.heap.size (fun k_=>some k_≠(s_.2.1:Value).ownBlock) s_.2.2 y309)∧(Below w.heap.size w w')) ?_ ?_;rotate_left
           ·intro hCont
            refine two_ (i:=0) (j:=6) (Ni:=some 39) (Nj:=some 45) #[true,true,true,true,false,true,false,false,true,true,true,false,false] #[false,true,true,true,false,true,true,false,true,true,true,false,false] rfl rfl rfl rfl (two_of HT_.out (by kernel_rfl)) (by decide) (by decide) (fun K hK=> ?_) (fun K hK=> ?_)
            ·skip
             refine Kd.R_lit_step Kd.string _ 9 ?hg (N:=39) ?hd (xs:=([]:List ByteArray)) (inner:= []) (ok:=fun _=>True) (okp:=fun _=>True) ?hr ?hp (fun _ hk=>hk) trivial (Below.refl _ _) (Nat.le_refl _) (by simp) ?_;(case hd=>rfl);(case hg=>rfl);(case hr=>exact Qm);(case hp=>exact (Reps.none _ _));intro v303 w21 ho22 hb hg_ hnew_;clear hg_ hnew_
             (first|rw [←Ny302.out] at ho22|(simp only [Int.reduceToNat] at ho22;rw [←Ny302.out] at ho22))
             have n0_:=zA.mk (Kd.R_lower ho22 (zD Qc));have n1_:=zA.mk (zE Qc hb);clear HB;have HO304:=n0_;have HB:=n1_;clear n0_ n1_ hb ho22;refine hK.out _ _ trivial (fun hHeld=> ?_);clear hK K;refine yl (a':= ?_) ?_ ?_;rotate_left
             ·show Act.put _ (some 39) _=_
              simp only [Act.put,List.setIfInBounds_toArray,List.set_cons_zero,List.set_cons_succ,zq,zt]
              rfl
             refine two_ (i:=4) (j:=6) (Ni:=some 43) (Nj:=some 45) #[true,true,true,true,true,true,false,false,true,true,true,false,false] #[true,true,true,true,false,true,true,false,true,true,true,false,false] rfl rfl rfl rfl (two_of HT_.out (by kernel_rfl)) (by decide) (by decide) (fun K hK=> ?_) (fun K hK=> ?_)
             ·skip
              refine Kd.R_append_rows_step Kd.string (w0:=w) w.heap.size (by rfl) (.tmp 39) (.tmp 42) 32 9 (.string ⟨#[]⟩) 16 rfl Try.underlying32 YA rfl (by decide) (by omega) v303 y302 (l0.take (x5_1:Int).toNat) _ _ _ (fun _=>True) (fun _=>False) rfl rfl ?aO ?aR (fun _ _ h=>h) (fun _ h=>h.elim) ?aF ?aB ?aS ?aL ?_
              (case aR=>first|(refine Zs (Zb:(l0.take (x5_1:Int).toNat).length=x5_1.toNat) ?_;repeat (first|exact (Kd.C_below HR305.out HB.out)|(with_reducible refine Kd.C_alloc ?_ _)|(with_reducible refine Kd.C_drewN ?_ _)|(with_reducible refine Kd.C_drew ?_)))|(repeat (first|exact (Kd.C_below HR305.out HB.out)|(with_reducible refine Kd.C_alloc ?_ _)|(with_reducible refine Kd.C_drewN ?_ _)|(with_reducible refine Kd.C_drew ?_))))
              (case aB=>exact Qc)
              (case aF=>exact (fun _ _=>trivial))
              (case aO=>exact (Qh HO304))
              (case aS=>exact (zD Qc))
              (case aL=>have:=LMc13.out;have hlx_:=(show (l0.take (x5_1:Int).toNat).length=x5_1.toNat from Zb);omega)
              intro v307 w23 ho hb hg hat
              rw [←Ny306.out] at ho;have n0_:=zA.mk (hb);have n1_:=zA.mk (ho);clear HB HO304;have HB:=n0_;have HO308:=n1_
              clear n0_ n1_ ho hb hg hat
              refine hK.out _ _ trivial (fun hHeld=> ?_);clear hK K;refine yl (a':= ?_) ?_ ?_;rotate_left
              ·show Act.put _ (some 43) _=_
               simp only [Act.put,List.setIfInBounds_toArray,List.set_cons_zero,List.set_cons_succ,zq,zt]
               rfl
              refine one_ (i:=6) (N:=some 45) #[true,true,true,true,true,true,true,false,true,true,true,false,false] rfl rfl (yj HT_.out (by kernel_rfl)) (by decide) (fun K hK=> ?_);refine Kd.R_lit_step Kd.string _ 9 ?hg (N:=45) ?hd (xs:=([a1]:List ByteArray)) (inner:= [.string a1]) (ok:=fun _=>True) (okp:=fun _=>True) ?hr ?hp (fun _ hk=>hk) trivial (Below.refl _ _) (Nat.le_refl _) (by simp) ?_;(case hd=>rfl);(case hg=>rfl);(case hr=>exact Qm);(case hp=>exact (Reps.one (show Kd.M Kd.string _ _ _ a1 [.string a1] from rfl) (Reps.none _ _)));intro v310 w24 ho25 hb hg_ hnew_;clear hg_ hnew_
              (first|rw [←Ny309.out] at ho25|(simp only [Int.reduceToNat] at ho25;rw [←Ny309.out] at ho25))
              have n0_:=zA.mk (Kd.R_elder' (Qh HO308) (Kd.R_base ho25) hb);have n1_:=zA.mk (Kd.R_lower (Kd.R_new' ho25 (Kd.R_lt (Qh HO308))) (zD Qc));have n2_:=zA.mk (zE Qc hb);clear HO308 HB;have HO308:=n0_;have HO311:=n1_;have HB:=n2_;clear n0_ n1_ n2_ hb ho25;refine hK.out _ _ trivial (fun hHeld=> ?_);clear hK K;refine yl (a':= ?_) ?_ ?_;rotate_left
              ·show Act.put _ (some 45) _=_
               simp only [Act.put,List.setIfInBounds_toArray,List.set_cons_zero,List.set_cons_succ,zq,zt]
               rfl
              exact yl Q9 (hCont (v303,v307,v310) _ ⟨(by (with_reducible repeat (first|apply Kd.R_alloc|apply Kd.R_drewN|apply Kd.R_drew));exact Kd.R_mono HO308.out (fun _ hk=>hk.2)),Q5,Qc⟩)
             ·skip
              refine Kd.R_lit_step Kd.string _ 9 ?hg (N:=45) ?hd (xs:=([a1]:List ByteArray)) (inner:= [.string a1]) (ok:=fun _=>True) (okp:=fun _=>True) ?hr ?hp (fun _ hk=>hk) trivial (Below.refl _ _) (Nat.le_refl _) (by simp) ?_;(case hd=>rfl);(case hg=>rfl);(case hr=>exact Qm);(case hp=>exact (Reps.one (show Kd.M Kd.string _ _ _ a1 [.string a1] from rfl) (Reps.none _ _)));intro v310 w23 ho24 hb hg_ hnew_;clear hg_ hnew_
              (first|rw [←Ny309.out] at ho24|(simp only [Int.reduceToNat] at ho24;rw [←Ny309.out] at ho24))
              have n0_:=zA.mk (Kd.R_elder' (Qh HO304) (Kd.R_base ho24) hb);have n1_:=zA.mk (Kd.R_lower (Kd.R_new' ho24 (Kd.R_lt (Qh HO304))) (zD Qc));have n2_:=zA.mk (zE Qc hb);clear HO304 HB;have HO304:=n0_;have HO311:=n1_;have HB:=n2_;clear n0_ n1_ n2_ hb ho24;refine hK.out _ _ trivial (fun hHeld=> ?_);clear hK K;refine yl (a':= ?_) ?_ ?_;rotate_left
              ·show Act.put _ (some 45) _=_
               simp only [Act.put,List.setIfInBounds_toArray,List.set_cons_zero,List.set_cons_succ,zq,zt]
               rfl
              refine one_ (i:=4) (N:=some 43) #[true,true,true,true,true,true,true,false,true,true,true,false,false] rfl rfl (yj HT_.out (by kernel_rfl)) (by decide) (fun K hK=> ?_);refine Kd.R_append_rows_step Kd.string (w0:=w) w.heap.size (by rfl) (.tmp 39) (.tmp 42) 32 9 (.string ⟨#[]⟩) 16 rfl Try.underlying32 YA rfl (by decide) (by omega) v303 y302 (l0.take (x5_1:Int).toNat) _ _ _ (fun k_=>some k_≠(v310:Value).ownBlock) (fun _=>False) rfl rfl ?aO ?aR (fun _ _ h=>h) (fun _ h=>h.elim) ?aF ?aB ?aS ?aL ?_
              (case aR=>first|(refine Zs (Zb:(l0.take (x5_1:Int).toNat).length=x5_1.toNat) ?_;repeat (first|exact (Kd.C_below HR305.out HB.out)|(with_reducible refine Kd.C_alloc ?_ _)|(with_reducible refine Kd.C_drewN ?_ _)|(with_reducible refine Kd.C_drew ?_)))|(repeat (first|exact (Kd.C_below HR305.out HB.out)|(with_reducible refine Kd.C_alloc ?_ _)|(with_reducible refine Kd.C_drewN ?_ _)|(with_reducible refine Kd.C_drew ?_))))
              (case aB=>exact Qc)
              (case aF=>exact (fun k_ hk=>Kd.fresh' (Kd.R_lt (Qh HO311)) k_ hk))
              (case aO=>exact Q6)
              (case aS=>exact (zD Qc))
              (case aL=>have:=LMc13.out;have hlx_:=(show (l0.take (x5_1:Int).toNat).length=x5_1.toNat from Zb);omega)
              intro v307 w25 ho hb hg hat
              rw [←Ny306.out] at ho;have n0_:=zA.mk (Kd.R_after (ok:=(fun _=>True)) (Qh HO311) hg hat);have n1_:=zA.mk (hb);have n2_:=zA.mk (ho);clear HO311 HB HO304;have HO311:=n0_;have HB:=n1_;have HO308:=n2_
              clear n0_ n1_ n2_ ho hb hg hat
              refine hK.out _ _ trivial (fun hHeld=> ?_);clear hK K;refine yl (a':= ?_) ?_ ?_;rotate_left
              ·show Act.put _ (some 43) _=_
               simp only [Act.put,List.setIfInBounds_toArray,List.set_cons_zero,List.set_cons_succ,zq,zt]
               rfl
              exact yl Q9 (hCont (v303,v307,v310) _ ⟨(Qh HO308),Q5,Qc⟩)
            ·skip
             refine Kd.R_lit_step Kd.string _ 9 ?hg (N:=45) ?hd (xs:=([a1]:List ByteArray)) (inner:= [.string a1]) (ok:=fun _=>True) (okp:=fun _=>True) ?hr ?hp (fun _ hk=>hk) trivial (Below.refl _ _) (Nat.le_refl _) (by simp) ?_;(case hd=>rfl);(case hg=>rfl);(case hr=>exact Qm);(case hp=>exact (Reps.one (show Kd.M Kd.string _ _ _ a1 [.string a1] from rfl) (Reps.none _ _)));intro v310 w21 ho22 hb hg_ hnew_;clear hg_ hnew_
             (first|rw [←Ny309.out] at ho22|(simp only [Int.reduceToNat] at ho22;rw [←Ny309.out] at ho22))
             have n0_:=zA.mk (Kd.R_lower ho22 (zD Qc));have n1_:=zA.mk (zE Qc hb);clear HB;have HO311:=n0_;have HB:=n1_;clear n0_ n1_ hb ho22;refine hK.out _ _ trivial (fun hHeld=> ?_);clear hK K;refine yl (a':= ?_) ?_ ?_;rotate_left
             ·show Act.put _ (some 45) _=_
              simp only [Act.put,List.setIfInBounds_toArray,List.set_cons_zero,List.set_cons_succ,zq,zt]
              rfl
             refine one_ (i:=0) (N:=some 39) #[true,true,true,true,false,true,true,false,true,true,true,false,false] rfl rfl (yj HT_.out (by kernel_rfl)) (by decide) (fun K hK=> ?_);refine Kd.R_lit_step Kd.string _ 9 ?hg (N:=39) ?hd (xs:=([]:List ByteArray)) (inner:= []) (ok:=fun _=>True) (okp:=fun _=>True) ?hr ?hp (fun _ hk=>hk) trivial (Below.refl _ _) (Nat.le_refl _) (by simp) ?_;(case hd=>rfl);(case hg=>rfl);(case hr=>exact Qm);(case hp=>exact (Reps.none _ _));intro v303 w23 ho24 hb hg_ hnew_;clear hg_ hnew_
             (first|rw [←Ny302.out] at ho24|(simp only [Int.reduceToNat] at ho24;rw [←Ny302.out] at ho24))
             have n0_:=zA.mk (Kd.R_elder' (Qh HO311) (Kd.R_base ho24) hb);have n1_:=zA.mk (Kd.R_lower (Kd.R_new' ho24 (Kd.R_lt (Qh HO311))) (zD Qc));have n2_:=zA.mk (zE Qc hb);clear HO311 HB;have HO311:=n0_;have HO304:=n1_;have HB:=n2_;clear n0_ n1_ n2_ hb ho24;refine hK.out _ _ trivial (fun hHeld=> ?_);clear hK K;refine yl (a':= ?_) ?_ ?_;rotate_left
             ·show Act.put _ (some 39) _=_
              simp only [Act.put,List.setIfInBounds_toArray,List.set_cons_zero,List.set_cons_succ,zq,zt]
              rfl
             refine one_ (i:=4) (N:=some 43) #[true,true,true,true,true,true,true,false,true,true,true,false,false] rfl rfl (yj HT_.out (by kernel_rfl)) (by decide) (fun K hK=> ?_);refine Kd.R_append_rows_step Kd.string (w0:=w) w.heap.size (by rfl) (.tmp 39) (.tmp 42) 32 9 (.string ⟨#[]⟩) 16 rfl Try.underlying32 YA rfl (by decide) (by omega) v303 y302 (l0.take (x5_1:Int).toNat) _ _ _ (fun k_=>some k_≠(v310:Value).ownBlock) (fun _=>False) rfl rfl ?aO ?aR (fun _ _ h=>h) (fun _ h=>h.elim) ?aF ?aB ?aS ?aL ?_
             (case aR=>first|(refine Zs (Zb:(l0.take (x5_1:Int).toNat).length=x5_1.toNat) ?_;repeat (first|exact (Kd.C_below HR305.out HB.out)|(with_reducible refine Kd.C_alloc ?_ _)|(with_reducible refine Kd.C_drewN ?_ _)|(with_reducible refine Kd.C_drew ?_)))|(repeat (first|exact (Kd.C_below HR305.out HB.out)|(with_reducible refine Kd.C_alloc ?_ _)|(with_reducible refine Kd.C_drewN ?_ _)|(with_reducible refine Kd.C_drew ?_))))
             (case aB=>exact Qc)
             (case aF=>exact (fun k_ hk=>Kd.fresh' (Kd.R_lt (Qh HO311)) k_ hk))
             (case aO=>exact Q6)
             (case aS=>exact (zD Qc))
             (case aL=>have:=LMc13.out;have hlx_:=(show (l0.take (x5_1:Int).toNat).length=x5_1.toNat from Zb);omega)
             intro v307 w25 ho hb hg hat
             rw [←Ny306.out] at ho;have n0_:=zA.mk (Kd.R_after (ok:=(fun _=>True)) (Qh HO311) hg hat);have n1_:=zA.mk (hb);have n2_:=zA.mk (ho);clear HO311 HB HO304;have HO311:=n0_;have HB:=n1_;have HO308:=n2_
             clear n0_ n1_ n2_ ho hb hg hat
             refine hK.out _ _ trivial (fun hHeld=> ?_);clear hK K;refine yl (a':= ?_) ?_ ?_;rotate_left
             ·show Act.put _ (some 43) _=_
              simp only [Act.put,List.setIfInBounds_toArray,List.set_cons_zero,List.set_cons_succ,zq,zt]
              rfl
             exact yl Q9 (hCont (v303,v307,v310) _ ⟨(Qh HO308),Q5,Qc⟩)
           rintro ⟨v303,v307,v310⟩ w26 ⟨h0_,h1_,h2_⟩;have n0_:zA (Kd.R Kd.string 9 w26 w.heap.size (fun k_=>some k_≠(v310:Value).ownBlock) v307 y306):=⟨h0_⟩;have n1_:zA (Kd.R Kd.string 9 w26 w.heap.size (fun k_=>some k_≠(v307:Value).ownBlock) v310 y309):=⟨h1_⟩;have n2_:zA (Below w.heap.size w w26):=⟨h2_⟩;clear HB h0_ h1_ h2_;have HO308:=n0_;have HO311:=n1_;have HB:=n2_;clear n0_ n1_ n2_;have hHeld:=trivial;obtain ⟨Ao28,co28,eo28⟩:=Kd.R_slice HO311.out
           (first|subst eo28|(injection eo28 with f1_ f2_ f3_;have f4_:=f1_.symm;have f5_:=f3_.symm;clear f1_ f2_ f3_;subst f4_;subst f5_))
           refine yl (a':= ?_) ?_ ?_;rotate_left
           ·simp only [Zz,Act.put,List.setIfInBounds_toArray,List.set_cons_zero,List.set_cons_succ]
            rfl
           refine one_ (i:=7) (N:=some 46) #[true,true,true,true,true,true,true,true,true,true,true,false,false] rfl rfl (yj HT_.out (by kernel_rfl)) (by decide) (fun K hK=> ?_);refine Kd.R_append_rows_step Kd.string (w0:=w) w.heap.size (by rfl) (.tmp 43) (.tmp 45) 32 9 (.string ⟨#[]⟩) 16 rfl Try.underlying32 YA rfl (by decide) (by omega) v307 y306 y309 _ _ _ (fun k_=>some k_≠(.slice Ao28 y309.length co28:Value).ownBlock) (fun _=>False) rfl rfl ?aO ?aR (fun _ _ h=>h) (fun _ h=>h.elim) ?aF ?aB ?aS ?aL ?_
           (case aR=>repeat (first|exact (Kd.R_reads' HO311.out).2.2|(with_reducible refine Kd.C_alloc ?_ _)|(with_reducible refine Kd.C_drewN ?_ _)|(with_reducible refine Kd.C_drew ?_)))
           (case aB=>exact Qc)
           (case aF=>exact (fun k_ hk=>Kd.fresh' (Kd.R_lt (Qh HO311)) k_ hk))
           (case aO=>exact (Qh HO308))
           (case aS=>exact (zD Qc))
           (case aL=>have:=LMc14.out;omega)
           intro v313 w27 ho hb hg hat
           rw [←Ny312.out] at ho;have n0_:=zA.mk (Kd.R_after (ok:=(fun _=>True)) (by (with_reducible repeat (first|apply Kd.R_alloc|apply Kd.R_drewN|apply Kd.R_drew));exact Kd.R_mono HO311.out (fun _ hk=>⟨trivial,hk⟩)) hg hat);have n1_:=zA.mk (hb);have n2_:=zA.mk (ho);clear HO311 HB HO308;have HO311:=n0_;have HB:=n1_;have HO314:=n2_
           clear n0_ n1_ n2_ ho hb hg hat
           refine hK.out _ _ trivial (fun hHeld=> ?_);clear hK K;refine yl (a':= ?_) ?_ ?_;rotate_left
           ·show Act.put _ (some 46) _=_
            simp only [Act.put,List.setIfInBounds_toArray,List.set_cons_zero,List.set_cons_succ,zq,zt]
            rfl
           refine one_ (i:=11) (N:=some 50) #[true,true,true,true,true,true,true,true,true,true,true,true,false] rfl rfl (yj HT_.out (by kernel_rfl)) (by decide) (fun K hK=> ?_);refine Kd.R_append_rows_step Kd.string (w0:=w) w.heap.size (by rfl) (.tmp 46) (.tmp 49) 32 9 (.string ⟨#[]⟩) 16 rfl Try.underlying32 YA rfl (by decide) (by omega) v313 y312 (l0.drop (x5_1:Int).toNat) _ _ _ (fun k_=>some k_≠(.slice Ao28 y309.length co28:Value).ownBlock) (fun _=>False) rfl rfl ?aO ?aR (fun _ _ h=>h) (fun _ h=>h.elim) ?aF ?aB ?aS ?aL ?_
           (case aR=>first|(refine Zs (List.length_drop:(l0.drop (x5_1:Int).toNat).length=(l0.length - x5_1.toNat)) ?_;repeat (first|exact (Kd.C_below HR315.out HB.out)|(with_reducible refine Kd.C_alloc ?_ _)|(with_reducible refine Kd.C_drewN ?_ _)|(with_reducible refine Kd.C_drew ?_)))|(repeat (first|exact (Kd.C_below HR315.out HB.out)|(with_reducible refine Kd.C_alloc ?_ _)|(with_reducible refine Kd.C_drewN ?_ _)|(with_reducible refine Kd.C_drew ?_))))
           (case aB=>exact Qc)
           (case aF=>exact (fun k_ hk=>Kd.fresh' (Kd.R_lt (Qh HO311)) k_ hk))
           (case aO=>exact (Qh HO314))
           (case aS=>exact (zD Qc))
           (case aL=>have:=LMc17.out;have hlx_:=(show (l0.drop (x5_1:Int).toNat).length=(l0.length - x5_1.toNat) from List.length_drop);omega)
           intro v317 w29 ho hb hg hat
           rw [←Ny316.out] at ho;have n0_:=zA.mk (Kd.R_after (ok:=(fun _=>True)) (Qh HO311) hg hat);have n1_:=zA.mk (hb);have n2_:=zA.mk (ho);clear HO311 HB HO314;have HO311:=n0_;have HB:=n1_;have HO318:=n2_
           clear n0_ n1_ n2_ ho hb hg hat
           refine hK.out _ _ trivial (fun hHeld=> ?_);clear hK K;refine yl (a':= ?_) ?_ ?_;rotate_left
           ·show Act.put _ (some 50) _=_
            simp only [Act.put,List.setIfInBounds_toArray,List.set_cons_zero,List.set_cons_succ,zq,zt]
            rfl
           refine yF (i:=12) (N:=some 4) (v:= ?_) (a':= ?_) #[true,true,true,true,true,true,true,true,true,true,true,true,true] rfl rfl (yA HT_.out (by kernel_rfl)) (fun _ _ _ h=>h) (Or.inl ⟨by rfl,?_⟩) ?_ ?_;rotate_left
           ·intro w'
            go_simp
            with_reducible rfl
           rotate_left
           ·simp only [Act.put,List.setIfInBounds_toArray,List.set_cons_zero,List.set_cons_succ,zq,zt]
            rfl
           refine YD (ZW HT_.out (by kernel_rfl)) ?_
           try go_wp2
           go_ret
           exact ⟨_,by first|rfl|(simp [zT,zU] <;> rfl)|(simp [*,zT,zU] <;> rfl), .inr (by (with_reducible repeat (first|apply Kd.R_alloc|apply Kd.R_drewN|apply Kd.R_drew));exact Kd.R_mono HO318.out (fun _ hk=>trivial)),by repeat (first|(with_reducible first|exact HB.out|apply zG|apply zC|apply zH)|exact HB.out)⟩
          ·rw [if_neg c17] at H
           exact absurd H (by simp)
         ·rw [if_neg c14] at H
          exact absurd H (by simp)
        ·rw [if_neg c13] at H
         exact absurd H (by simp)
       ·rw [if_neg c12] at H
        exact absurd H (by simp)
     ·rw [if_neg c9] at H
      exact absurd H (by simp)
    ·rw [if_neg c8] at H
     have c8b0:=decide_eq_false c8;clear c8;obtain ⟨y319,hy319⟩:∃y_:List ByteArray,y_=(([]:List ByteArray)):=⟨_,rfl⟩;replace H:(if 0≤x5_1 then (if x5_1≤(l0.length:Int) then (if y319.length + (l0.take (x5_1:Int).toNat).length < 8796093022208 then ((some (y319 ++ (l0.take (x5_1:Int).toNat):List ByteArray)).bind fun y323=>((some (([a1]:List ByteArray):List ByteArray)).bind fun y326=>(if y323.length + y326.length < 8796093022208 then ((some (y323 ++ y326:List ByteArray)).bind fun y329=>(if y329.length + (l0.drop (x5_1:Int).toNat).length < 8796093022208 then (some (y329 ++ (l0.drop (x5_1:Int).toNat))) else (none))) else (none)))) else (none)) else (none)) else (none))=some r:=Qb hy319 H;have Ny319:=zA.mk hy319;clear hy319
     by_cases c30:0≤x5_1
     ·rw [if_pos c30] at H
      have c30b0:=eq_true c30;have c30b1:=decide_eq_true c30;clear c30
      by_cases c31:x5_1≤(l0.length:Int)
      ·rw [if_pos c31] at H
       have c31b0:=eq_true c31;have c31b1:=decide_eq_true c31;clear c31
       by_cases c32:y319.length + (l0.take (x5_1:Int).toNat).length < 8796093022208
       ·rw [if_pos c32] at H
        have LMc32:=zA.mk c32;clear c32;obtain ⟨y323,hy323⟩:∃y_:List ByteArray,y_=(y319 ++ (l0.take (x5_1:Int).toNat)):=⟨_,rfl⟩;replace H:((some (([a1]:List ByteArray):List ByteArray)).bind fun y326=>(if y323.length + y326.length < 8796093022208 then ((some (y323 ++ y326:List ByteArray)).bind fun y329=>(if y329.length + (l0.drop (x5_1:Int).toNat).length < 8796093022208 then (some (y329 ++ (l0.drop (x5_1:Int).toNat))) else (none))) else (none)))=some r:=Qb hy323 H;have Ny323:=zA.mk hy323;clear hy323;obtain ⟨y326,hy326⟩:∃y_:List ByteArray,y_=(([a1]:List ByteArray)):=⟨_,rfl⟩;replace H:(if y323.length + y326.length < 8796093022208 then ((some (y323 ++ y326:List ByteArray)).bind fun y329=>(if y329.length + (l0.drop (x5_1:Int).toNat).length < 8796093022208 then (some (y329 ++ (l0.drop (x5_1:Int).toNat))) else (none))) else (none))=some r:=Qb hy326 H;have Ny326:=zA.mk hy326;clear hy326
        by_cases c33:y323.length + y326.length < 8796093022208
        ·rw [if_pos c33] at H
         have LMc33:=zA.mk c33;clear c33;obtain ⟨y329,hy329⟩:∃y_:List ByteArray,y_=(y323 ++ y326):=⟨_,rfl⟩;replace H:(if y329.length + (l0.drop (x5_1:Int).toNat).length < 8796093022208 then (some (y329 ++ (l0.drop (x5_1:Int).toNat))) else (none))=some r:=Qb hy329 H;have Ny329:=zA.mk hy329;clear hy329;have c34b0:=eq_true (Qa:0≤x5_1);have c35b0:=eq_true (Qa:x5_1≤(l0.length:Int))
         by_cases c36:y329.length + (l0.drop (x5_1:Int).toNat).length < 8796093022208
         ·rw [if_pos c36] at H
          have LMc36:=zA.mk c36;clear c36;obtain ⟨y333,hy333⟩:∃y_:List ByteArray,y_=(y329 ++ (l0.drop (x5_1:Int).toNat)):=⟨_,rfl⟩;replace H:(some y333)=some r:=Qb hy333 H;have Ny333:=zA.mk hy333;clear hy333;obtain rfl:=Option.some.inj H
          try go_wp2
          have n0_:=zA.mk (zH HB.out);clear HB;have HB:=n0_;clear n0_;obtain ⟨i038,hi038,_,hsz38,_⟩:=info_parts YA;obtain ⟨hcut38,hA38,hC38⟩:=Ym (P:=Try.prog) Value.string (⟨#[]⟩:ByteArray) 32 9 .i64 Try.underlying32 hi038 hsz38 A0 c0 l0 x5_1 (Qa) (Qa) HC0.out;have HR322:=zA.mk (Kd.C_of_reads (h1:=fun _=>rfl) (hA38 _ (Kd.reads_of_C HR0.out)));have HC322:=zA.mk hC38;clear hA38 hC38 hi038 hsz38;obtain ⟨i039,hi039,_,hsz39,_⟩:=info_parts YA;obtain ⟨A39,hcut39,hA39,hC39⟩:=qR (P:=Try.prog) Value.string (⟨#[]⟩:ByteArray) 32 9 .i64 Try.underlying32 hi039 hsz39 A0 c0 l0 x5_1 (Qa) (Qa) HC0.out;have HR332:=zA.mk (Kd.C_of_reads (h1:=fun _=>rfl) (hA39 _ (Kd.reads_of_C HR0.out)));have HC332:=zA.mk hC39;clear hA39 hC39 hi039 hsz39;refine Zr (n:=13) (S:=fun w'=>True) (ds:= []) #[false,false,false,false,false,false,false,false,false,false,false,false,false] (by kernel_rfl) rfl rfl trivial (fun hHeld=> ?_);refine yw ze.tab9 ze.bits9 (fun HT_ HW_=> ?_)
          generalize wr.drew=w37 at HB HR322 HR332 hHeld⊢
          refine yF (i:=1) (N:=some 40) (v:= ?_) (a':= ?_) #[false,true,false,false,false,false,false,false,false,false,false,false,false] rfl rfl (yA HT_.out (by kernel_rfl)) (fun _ _ _ h=>h) (Or.inl ⟨by rfl,?_⟩) ?_ ?_;rotate_left
          ·intro w'
           go_simp
           with_reducible rfl
          rotate_left
          ·simp only [Act.put,List.setIfInBounds_toArray,List.set_cons_zero,List.set_cons_succ,zq,zt]
           rfl
          refine yF (i:=2) (N:=some 41) (v:= ?_) (a':= ?_) #[false,true,true,false,false,false,false,false,false,false,false,false,false] rfl rfl (yA HT_.out (by kernel_rfl)) (fun _ _ _ h=>h) (Or.inl ⟨by rfl,?_⟩) ?_ ?_;rotate_left
          ·intro w'
           go_simp
           with_reducible rfl
          rotate_left
          ·simp only [Act.put,List.setIfInBounds_toArray,List.set_cons_zero,List.set_cons_succ,zq,zt]
           rfl
          refine yF (i:=3) (N:=some 42) (v:= ?_) (a':= ?_) #[false,true,true,true,false,false,false,false,false,false,false,false,false] rfl rfl (yA HT_.out (by kernel_rfl)) (fun _ _ _ h=>h) (Or.inl ⟨by rfl,?_⟩) ?_ ?_;rotate_left
          ·intro w'
           go_simp
           with_reducible rfl
          rotate_left
          ·simp only [Act.put,List.setIfInBounds_toArray,List.set_cons_zero,List.set_cons_succ,zq,zt]
           rfl
          refine yF (i:=5) (N:=some 44) (v:= ?_) (a':= ?_) #[false,true,true,true,false,true,false,false,false,false,false,false,false] rfl rfl (yA HT_.out (by kernel_rfl)) (fun _ _ _ h=>h) (Or.inl ⟨by rfl,?_⟩) ?_ ?_;rotate_left
          ·intro w'
           go_simp
           with_reducible rfl
          rotate_left
          ·simp only [Act.put,List.setIfInBounds_toArray,List.set_cons_zero,List.set_cons_succ,zq,zt]
           rfl
          refine yF (i:=8) (N:=some 47) (v:= ?_) (a':= ?_) #[false,true,true,true,false,true,false,false,true,false,false,false,false] rfl rfl (yA HT_.out (by kernel_rfl)) (fun _ _ _ h=>h) (Or.inl ⟨by rfl,?_⟩) ?_ ?_;rotate_left
          ·intro w'
           go_simp
           with_reducible rfl
          rotate_left
          ·simp only [Act.put,List.setIfInBounds_toArray,List.set_cons_zero,List.set_cons_succ,zq,zt]
           rfl
          refine yF (i:=9) (N:=some 48) (v:= ?_) (a':= ?_) #[false,true,true,true,false,true,false,false,true,true,false,false,false] rfl rfl (yA HT_.out (by kernel_rfl)) (fun _ _ _ h=>h) (Or.inl ⟨by rfl,?_⟩) ?_ ?_;rotate_left
          ·intro w'
           go_simp
           with_reducible rfl
          rotate_left
          ·simp only [Act.put,List.setIfInBounds_toArray,List.set_cons_zero,List.set_cons_succ,zq,zt]
           rfl
          refine yF (i:=10) (N:=some 49) (v:= ?_) (a':= ?_) #[false,true,true,true,false,true,false,false,true,true,true,false,false] rfl rfl (yA HT_.out (by kernel_rfl)) (fun _ _ _ h=>h) (Or.inl ⟨by rfl,?_⟩) ?_ ?_;rotate_left
          ·intro w'
           go_simp
           with_reducible rfl
          rotate_left
          ·simp only [Act.put,List.setIfInBounds_toArray,List.set_cons_zero,List.set_cons_succ,zq,zt]
           rfl
          refine join_ (σ:=Value × Value × Value) 3 #[true,true,true,true,true,true,true,false,true,true,true,false,false] (fun s_=> [(39,s_.1),(43,s_.2.1),(45,s_.2.2)]) (fun s_ w'=>(Kd.R Kd.string 9 w' w.heap.size (fun k_=>some k_≠(s_.2.2:Value).ownBlock) s_.2.1 y323)∧(Kd.R Kd.string 9 w' w.heap.size (fun k_=>some k_≠(s_.2.1:Value).ownBlock) s_.2.2 y326)∧(Below w.heap.size w w')) ?_ ?_;rotate_left
          ·intro hCont
           refine two_ (i:=0) (j:=6) (Ni:=some 39) (Nj:=some 45) #[true,true,true,true,false,true,false,false,true,true,true,false,false] #[false,true,true,true,false,true,true,false,true,true,true,false,false] rfl rfl rfl rfl (two_of HT_.out (by kernel_rfl)) (by decide) (by decide) (fun K hK=> ?_) (fun K hK=> ?_)
           ·skip
            refine Kd.R_lit_step Kd.string _ 9 ?hg (N:=39) ?hd (xs:=([]:List ByteArray)) (inner:= []) (ok:=fun _=>True) (okp:=fun _=>True) ?hr ?hp (fun _ hk=>hk) trivial (Below.refl _ _) (Nat.le_refl _) (by simp) ?_;(case hd=>rfl);(case hg=>rfl);(case hr=>exact Qm);(case hp=>exact (Reps.none _ _));intro v320 w40 ho41 hb hg_ hnew_;clear hg_ hnew_
            (first|rw [←Ny319.out] at ho41|(simp only [Int.reduceToNat] at ho41;rw [←Ny319.out] at ho41))
            have n0_:=zA.mk (Kd.R_lower ho41 (zD Qc));have n1_:=zA.mk (zE Qc hb);clear HB;have HO321:=n0_;have HB:=n1_;clear n0_ n1_ hb ho41;refine hK.out _ _ trivial (fun hHeld=> ?_);clear hK K;refine yl (a':= ?_) ?_ ?_;rotate_left
            ·show Act.put _ (some 39) _=_
             simp only [Act.put,List.setIfInBounds_toArray,List.set_cons_zero,List.set_cons_succ,zq,zt]
             rfl
            refine two_ (i:=4) (j:=6) (Ni:=some 43) (Nj:=some 45) #[true,true,true,true,true,true,false,false,true,true,true,false,false] #[true,true,true,true,false,true,true,false,true,true,true,false,false] rfl rfl rfl rfl (two_of HT_.out (by kernel_rfl)) (by decide) (by decide) (fun K hK=> ?_) (fun K hK=> ?_)
            ·skip
             refine Kd.R_append_rows_step Kd.string (w0:=w) w.heap.size (by rfl) (.tmp 39) (.tmp 42) 32 9 (.string ⟨#[]⟩) 16 rfl Try.underlying32 YA rfl (by decide) (by omega) v320 y319 (l0.take (x5_1:Int).toNat) _ _ _ (fun _=>True) (fun _=>False) rfl rfl ?aO ?aR (fun _ _ h=>h) (fun _ h=>h.elim) ?aF ?aB ?aS ?aL ?_
             (case aR=>first|(refine Zs (Zb:(l0.take (x5_1:Int).toNat).length=x5_1.toNat) ?_;repeat (first|exact (Kd.C_below HR322.out HB.out)|(with_reducible refine Kd.C_alloc ?_ _)|(with_reducible refine Kd.C_drewN ?_ _)|(with_reducible refine Kd.C_drew ?_)))|(repeat (first|exact (Kd.C_below HR322.out HB.out)|(with_reducible refine Kd.C_alloc ?_ _)|(with_reducible refine Kd.C_drewN ?_ _)|(with_reducible refine Kd.C_drew ?_))))
             (case aB=>exact Qc)
             (case aF=>exact (fun _ _=>trivial))
             (case aO=>exact (Qh HO321))
             (case aS=>exact (zD Qc))
             (case aL=>have:=LMc32.out;have hlx_:=(show (l0.take (x5_1:Int).toNat).length=x5_1.toNat from Zb);omega)
             intro v324 w42 ho hb hg hat
             rw [←Ny323.out] at ho;have n0_:=zA.mk (hb);have n1_:=zA.mk (ho);clear HB HO321;have HB:=n0_;have HO325:=n1_
             clear n0_ n1_ ho hb hg hat
             refine hK.out _ _ trivial (fun hHeld=> ?_);clear hK K;refine yl (a':= ?_) ?_ ?_;rotate_left
             ·show Act.put _ (some 43) _=_
              simp only [Act.put,List.setIfInBounds_toArray,List.set_cons_zero,List.set_cons_succ,zq,zt]
              rfl
             refine one_ (i:=6) (N:=some 45) #[true,true,true,true,true,true,true,false,true,true,true,false,false] rfl rfl (yj HT_.out (by kernel_rfl)) (by decide) (fun K hK=> ?_);refine Kd.R_lit_step Kd.string _ 9 ?hg (N:=45) ?hd (xs:=([a1]:List ByteArray)) (inner:= [.string a1]) (ok:=fun _=>True) (okp:=fun _=>True) ?hr ?hp (fun _ hk=>hk) trivial (Below.refl _ _) (Nat.le_refl _) (by simp) ?_;(case hd=>rfl);(case hg=>rfl);(case hr=>exact Qm);(case hp=>exact (Reps.one (show Kd.M Kd.string _ _ _ a1 [.string a1] from rfl) (Reps.none _ _)));intro v327 w43 ho44 hb hg_ hnew_;clear hg_ hnew_
             (first|rw [←Ny326.out] at ho44|(simp only [Int.reduceToNat] at ho44;rw [←Ny326.out] at ho44))
             have n0_:=zA.mk (Kd.R_elder' (Qh HO325) (Kd.R_base ho44) hb);have n1_:=zA.mk (Kd.R_lower (Kd.R_new' ho44 (Kd.R_lt (Qh HO325))) (zD Qc));have n2_:=zA.mk (zE Qc hb);clear HO325 HB;have HO325:=n0_;have HO328:=n1_;have HB:=n2_;clear n0_ n1_ n2_ hb ho44;refine hK.out _ _ trivial (fun hHeld=> ?_);clear hK K;refine yl (a':= ?_) ?_ ?_;rotate_left
             ·show Act.put _ (some 45) _=_
              simp only [Act.put,List.setIfInBounds_toArray,List.set_cons_zero,List.set_cons_succ,zq,zt]
              rfl
             exact yl Q9 (hCont (v320,v324,v327) _ ⟨(by (with_reducible repeat (first|apply Kd.R_alloc|apply Kd.R_drewN|apply Kd.R_drew));exact Kd.R_mono HO325.out (fun _ hk=>hk.2)),Q7,Qc⟩)
            ·skip
             refine Kd.R_lit_step Kd.string _ 9 ?hg (N:=45) ?hd (xs:=([a1]:List ByteArray)) (inner:= [.string a1]) (ok:=fun _=>True) (okp:=fun _=>True) ?hr ?hp (fun _ hk=>hk) trivial (Below.refl _ _) (Nat.le_refl _) (by simp) ?_;(case hd=>rfl);(case hg=>rfl);(case hr=>exact Qm);(case hp=>exact (Reps.one (show Kd.M Kd.string _ _ _ a1 [.string a1] from rfl) (Reps.none _ _)));intro v327 w42 ho43 hb hg_ hnew_;clear hg_ hnew_
             (first|rw [←Ny326.out] at ho43|(simp only [Int.reduceToNat] at ho43;rw [←Ny326.out] at ho43))
             have n0_:=zA.mk (Kd.R_elder' (Qh HO321) (Kd.R_base ho43) hb);have n1_:=zA.mk (Kd.R_lower (Kd.R_new' ho43 (Kd.R_lt (Qh HO321))) (zD Qc));have n2_:=zA.mk (zE Qc hb);clear HO321 HB;have HO321:=n0_;have HO328:=n1_;have HB:=n2_;clear n0_ n1_ n2_ hb ho43;refine hK.out _ _ trivial (fun hHeld=> ?_);clear hK K;refine yl (a':= ?_) ?_ ?_;rotate_left
             ·show Act.put _ (some 45) _=_
              simp only [Act.put,List.setIfInBounds_toArray,List.set_cons_zero,List.set_cons_succ,zq,zt]
              rfl
             refine one_ (i:=4) (N:=some 43) #[true,true,true,true,true,true,true,false,true,true,true,false,false] rfl rfl (yj HT_.out (by kernel_rfl)) (by decide) (fun K hK=> ?_);refine Kd.R_append_rows_step Kd.string (w0:=w) w.heap.size (by rfl) (.tmp 39) (.tmp 42) 32 9 (.string ⟨#[]⟩) 16 rfl Try.underlying32 YA rfl (by decide) (by omega) v320 y319 (l0.take (x5_1:Int).toNat) _ _ _ (fun k_=>some k_≠(v327:Value).ownBlock) (fun _=>False) rfl rfl ?aO ?aR (fun _ _ h=>h) (fun _ h=>h.elim) ?aF ?aB ?aS ?aL ?_
             (case aR=>first|(refine Zs (Zb:(l0.take (x5_1:Int).toNat).length=x5_1.toNat) ?_;repeat (first|exact (Kd.C_below HR322.out HB.out)|(with_reducible refine Kd.C_alloc ?_ _)|(with_reducible refine Kd.C_drewN ?_ _)|(with_reducible refine Kd.C_drew ?_)))|(repeat (first|exact (Kd.C_below HR322.out HB.out)|(with_reducible refine Kd.C_alloc ?_ _)|(with_reducible refine Kd.C_drewN ?_ _)|(with_reducible refine Kd.C_drew ?_))))
             (case aB=>exact Qc)
             (case aF=>exact (fun k_ hk=>Kd.fresh' (Kd.R_lt (Qh HO328)) k_ hk))
             (case aO=>exact Q8)
             (case aS=>exact (zD Qc))
             (case aL=>have:=LMc32.out;have hlx_:=(show (l0.take (x5_1:Int).toNat).length=x5_1.toNat from Zb);omega)
             intro v324 w44 ho hb hg hat
             rw [←Ny323.out] at ho;have n0_:=zA.mk (Kd.R_after (ok:=(fun _=>True)) (Qh HO328) hg hat);have n1_:=zA.mk (hb);have n2_:=zA.mk (ho);clear HO328 HB HO321;have HO328:=n0_;have HB:=n1_;have HO325:=n2_
             clear n0_ n1_ n2_ ho hb hg hat
             refine hK.out _ _ trivial (fun hHeld=> ?_);clear hK K;refine yl (a':= ?_) ?_ ?_;rotate_left
             ·show Act.put _ (some 43) _=_
              simp only [Act.put,List.setIfInBounds_toArray,List.set_cons_zero,List.set_cons_succ,zq,zt]
              rfl
             exact yl Q9 (hCont (v320,v324,v327) _ ⟨(Qh HO325),Q7,Qc⟩)
           ·skip
            refine Kd.R_lit_step Kd.string _ 9 ?hg (N:=45) ?hd (xs:=([a1]:List ByteArray)) (inner:= [.string a1]) (ok:=fun _=>True) (okp:=fun _=>True) ?hr ?hp (fun _ hk=>hk) trivial (Below.refl _ _) (Nat.le_refl _) (by simp) ?_;(case hd=>rfl);(case hg=>rfl);(case hr=>exact Qm);(case hp=>exact (Reps.one (show Kd.M Kd.string _ _ _ a1 [.string a1] from rfl) (Reps.none _ _)));intro v327 w40 ho41 hb hg_ hnew_;clear hg_ hnew_
            (first|rw [←Ny326.out] at ho41|(simp only [Int.reduceToNat] at ho41;rw [←Ny326.out] at ho41))
            have n0_:=zA.mk (Kd.R_lower ho41 (zD Qc));have n1_:=zA.mk (zE Qc hb);clear HB;have HO328:=n0_;have HB:=n1_;clear n0_ n1_ hb ho41;refine hK.out _ _ trivial (fun hHeld=> ?_);clear hK K;refine yl (a':= ?_) ?_ ?_;rotate_left
            ·show Act.put _ (some 45) _=_
             simp only [Act.put,List.setIfInBounds_toArray,List.set_cons_zero,List.set_cons_succ,zq,zt]
             rfl
            refine one_ (i:=0) (N:=some 39) #[true,true,true,true,false,true,true,false,true,true,true,false,false] rfl rfl (yj HT_.out (by kernel_rfl)) (by decide) (fun K hK=> ?_);refine Kd.R_lit_step Kd.string _ 9 ?hg (N:=39) ?hd (xs:=([]:List ByteArray)) (inner:= []) (ok:=fun _=>True) (okp:=fun _=>True) ?hr ?hp (fun _ hk=>hk) trivial (Below.refl _ _) (Nat.le_refl _) (by simp) ?_;(case hd=>rfl);(case hg=>rfl);(case hr=>exact Qm);(case hp=>exact (Reps.none _ _));intro v320 w42 ho43 hb hg_ hnew_;clear hg_ hnew_
            (first|rw [←Ny319.out] at ho43|(simp only [Int.reduceToNat] at ho43;rw [←Ny319.out] at ho43))
            have n0_:=zA.mk (Kd.R_elder' (Qh HO328) (Kd.R_base ho43) hb);have n1_:=zA.mk (Kd.R_lower (Kd.R_new' ho43 (Kd.R_lt (Qh HO328))) (zD Qc));have n2_:=zA.mk (zE Qc hb);clear HO328 HB;have HO328:=n0_;have HO321:=n1_;have HB:=n2_;clear n0_ n1_ n2_ hb ho43;refine hK.out _ _ trivial (fun hHeld=> ?_);clear hK K;refine yl (a':= ?_) ?_ ?_;rotate_left
            ·show Act.put _ (some 39) _=_
             simp only [Act.put,List.setIfInBounds_toArray,List.set_cons_zero,List.set_cons_succ,zq,zt]
             rfl
            refine one_ (i:=4) (N:=some 43) #[true,true,true,true,true,true,true,false,true,true,true,false,false] rfl rfl (yj HT_.out (by kernel_rfl)) (by decide) (fun K hK=> ?_);refine Kd.R_append_rows_step Kd.string (w0:=w) w.heap.size (by rfl) (.tmp 39) (.tmp 42) 32 9 (.string ⟨#[]⟩) 16 rfl Try.underlying32 YA rfl (by decide) (by omega) v320 y319 (l0.take (x5_1:Int).toNat) _ _ _ (fun k_=>some k_≠(v327:Value).ownBlock) (fun _=>False) rfl rfl ?aO ?aR (fun _ _ h=>h) (fun _ h=>h.elim) ?aF ?aB ?aS ?aL ?_
            (case aR=>first|(refine Zs (Zb:(l0.take (x5_1:Int).toNat).length=x5_1.toNat) ?_;repeat (first|exact (Kd.C_below HR322.out HB.out)|(with_reducible refine Kd.C_alloc ?_ _)|(with_reducible refine Kd.C_drewN ?_ _)|(with_reducible refine Kd.C_drew ?_)))|(repeat (first|exact (Kd.C_below HR322.out HB.out)|(with_reducible refine Kd.C_alloc ?_ _)|(with_reducible refine Kd.C_drewN ?_ _)|(with_reducible refine Kd.C_drew ?_))))
            (case aB=>exact Qc)
            (case aF=>exact (fun k_ hk=>Kd.fresh' (Kd.R_lt (Qh HO328)) k_ hk))
            (case aO=>exact Q8)
            (case aS=>exact (zD Qc))
            (case aL=>have:=LMc32.out;have hlx_:=(show (l0.take (x5_1:Int).toNat).length=x5_1.toNat from Zb);omega)
            intro v324 w44 ho hb hg hat
            rw [←Ny323.out] at ho;have n0_:=zA.mk (Kd.R_after (ok:=(fun _=>True)) (Qh HO328) hg hat);have n1_:=zA.mk (hb);have n2_:=zA.mk (ho);clear HO328 HB HO321;have HO328:=n0_;have HB:=n1_;have HO325:=n2_
            clear n0_ n1_ n2_ ho hb hg hat
            refine hK.out _ _ trivial (fun hHeld=> ?_);clear hK K;refine yl (a':= ?_) ?_ ?_;rotate_left
            ·show Act.put _ (some 43) _=_
             simp only [Act.put,List.setIfInBounds_toArray,List.set_cons_zero,List.set_cons_succ,zq,zt]
             rfl
            exact yl Q9 (hCont (v320,v324,v327) _ ⟨(Qh HO325),Q7,Qc⟩)
          rintro ⟨v320,v324,v327⟩ w45 ⟨h0_,h1_,h2_⟩;have n0_:zA (Kd.R Kd.string 9 w45 w.heap.size (fun k_=>some k_≠(v327:Value).ownBlock) v324 y323):=⟨h0_⟩;have n1_:zA (Kd.R Kd.string 9 w45 w.heap.size (fun k_=>some k_≠(v324:Value).ownBlock) v327 y326):=⟨h1_⟩;have n2_:zA (Below w.heap.size w w45):=⟨h2_⟩;clear HB h0_ h1_ h2_;have HO325:=n0_;have HO328:=n1_;have HB:=n2_;clear n0_ n1_ n2_;have hHeld:=trivial;obtain ⟨Ao47,co47,eo47⟩:=Kd.R_slice HO328.out
          (first|subst eo47|(injection eo47 with f1_ f2_ f3_;have f4_:=f1_.symm;have f5_:=f3_.symm;clear f1_ f2_ f3_;subst f4_;subst f5_))
          refine yl (a':= ?_) ?_ ?_;rotate_left
          ·simp only [Zz,Act.put,List.setIfInBounds_toArray,List.set_cons_zero,List.set_cons_succ]
           rfl
          refine one_ (i:=7) (N:=some 46) #[true,true,true,true,true,true,true,true,true,true,true,false,false] rfl rfl (yj HT_.out (by kernel_rfl)) (by decide) (fun K hK=> ?_);refine Kd.R_append_rows_step Kd.string (w0:=w) w.heap.size (by rfl) (.tmp 43) (.tmp 45) 32 9 (.string ⟨#[]⟩) 16 rfl Try.underlying32 YA rfl (by decide) (by omega) v324 y323 y326 _ _ _ (fun k_=>some k_≠(.slice Ao47 y326.length co47:Value).ownBlock) (fun _=>False) rfl rfl ?aO ?aR (fun _ _ h=>h) (fun _ h=>h.elim) ?aF ?aB ?aS ?aL ?_
          (case aR=>repeat (first|exact (Kd.R_reads' HO328.out).2.2|(with_reducible refine Kd.C_alloc ?_ _)|(with_reducible refine Kd.C_drewN ?_ _)|(with_reducible refine Kd.C_drew ?_)))
          (case aB=>exact Qc)
          (case aF=>exact (fun k_ hk=>Kd.fresh' (Kd.R_lt (Qh HO328)) k_ hk))
          (case aO=>exact (Qh HO325))
          (case aS=>exact (zD Qc))
          (case aL=>have:=LMc33.out;omega)
          intro v330 w46 ho hb hg hat
          rw [←Ny329.out] at ho;have n0_:=zA.mk (Kd.R_after (ok:=(fun _=>True)) (by (with_reducible repeat (first|apply Kd.R_alloc|apply Kd.R_drewN|apply Kd.R_drew));exact Kd.R_mono HO328.out (fun _ hk=>⟨trivial,hk⟩)) hg hat);have n1_:=zA.mk (hb);have n2_:=zA.mk (ho);clear HO328 HB HO325;have HO328:=n0_;have HB:=n1_;have HO331:=n2_
          clear n0_ n1_ n2_ ho hb hg hat
          refine hK.out _ _ trivial (fun hHeld=> ?_);clear hK K;refine yl (a':= ?_) ?_ ?_;rotate_left
          ·show Act.put _ (some 46) _=_
           simp only [Act.put,List.setIfInBounds_toArray,List.set_cons_zero,List.set_cons_succ,zq,zt]
           rfl
          refine one_ (i:=11) (N:=some 50) #[true,true,true,true,true,true,true,true,true,true,true,true,false] rfl rfl (yj HT_.out (by kernel_rfl)) (by decide) (fun K hK=> ?_);refine Kd.R_append_rows_step Kd.string (w0:=w) w.heap.size (by rfl) (.tmp 46) (.tmp 49) 32 9 (.string ⟨#[]⟩) 16 rfl Try.underlying32 YA rfl (by decide) (by omega) v330 y329 (l0.drop (x5_1:Int).toNat) _ _ _ (fun k_=>some k_≠(.slice Ao47 y326.length co47:Value).ownBlock) (fun _=>False) rfl rfl ?aO ?aR (fun _ _ h=>h) (fun _ h=>h.elim) ?aF ?aB ?aS ?aL ?_
          (case aR=>first|(refine Zs (List.length_drop:(l0.drop (x5_1:Int).toNat).length=(l0.length - x5_1.toNat)) ?_;repeat (first|exact (Kd.C_below HR332.out HB.out)|(with_reducible refine Kd.C_alloc ?_ _)|(with_reducible refine Kd.C_drewN ?_ _)|(with_reducible refine Kd.C_drew ?_)))|(repeat (first|exact (Kd.C_below HR332.out HB.out)|(with_reducible refine Kd.C_alloc ?_ _)|(with_reducible refine Kd.C_drewN ?_ _)|(with_reducible refine Kd.C_drew ?_))))
          (case aB=>exact Qc)
          (case aF=>exact (fun k_ hk=>Kd.fresh' (Kd.R_lt (Qh HO328)) k_ hk))
          (case aO=>exact (Qh HO331))
          (case aS=>exact (zD Qc))
          (case aL=>have:=LMc36.out;have hlx_:=(show (l0.drop (x5_1:Int).toNat).length=(l0.length - x5_1.toNat) from List.length_drop);omega)
          intro v334 w48 ho hb hg hat
          rw [←Ny333.out] at ho;have n0_:=zA.mk (Kd.R_after (ok:=(fun _=>True)) (Qh HO328) hg hat);have n1_:=zA.mk (hb);have n2_:=zA.mk (ho);clear HO328 HB HO331;have HO328:=n0_;have HB:=n1_;have HO335:=n2_
          clear n0_ n1_ n2_ ho hb hg hat
          refine hK.out _ _ trivial (fun hHeld=> ?_);clear hK K;refine yl (a':= ?_) ?_ ?_;rotate_left
          ·show Act.put _ (some 50) _=_
           simp only [Act.put,List.setIfInBounds_toArray,List.set_cons_zero,List.set_cons_succ,zq,zt]
           rfl
          refine yF (i:=12) (N:=some 4) (v:= ?_) (a':= ?_) #[true,true,true,true,true,true,true,true,true,true,true,true,true] rfl rfl (yA HT_.out (by kernel_rfl)) (fun _ _ _ h=>h) (Or.inl ⟨by rfl,?_⟩) ?_ ?_;rotate_left
          ·intro w'
           go_simp
           with_reducible rfl
          rotate_left
          ·simp only [Act.put,List.setIfInBounds_toArray,List.set_cons_zero,List.set_cons_succ,zq,zt]
           rfl
          refine YD (ZW HT_.out (by kernel_rfl)) ?_
          try go_wp2
          go_ret
          exact ⟨_,by first|rfl|(simp [zT,zU] <;> rfl)|(simp [*,zT,zU] <;> rfl), .inr (by (with_reducible repeat (first|apply Kd.R_alloc|apply Kd.R_drewN|apply Kd.R_drew));exact Kd.R_mono HO335.out (fun _ hk=>trivial)),by repeat (first|(with_reducible first|exact HB.out|apply zG|apply zC|apply zH)|exact HB.out)⟩
         ·rw [if_neg c36] at H
          exact absurd H (by simp)
        ·rw [if_neg c33] at H
         exact absurd H (by simp)
       ·rw [if_neg c32] at H
        exact absurd H (by simp)
      ·rw [if_neg c31] at H
       exact absurd H (by simp)
     ·rw [if_neg c30] at H
      exact absurd H (by simp)
theorem ze.own {w':World} {base B:Nat} {ok:Nat→Prop} {A0:Option Addr} {c0:Nat} {l0 r:List ByteArray} {v0_:Value} (h:v0_= .slice A0 l0.length c0∧r=l0∨Kd.R Kd.string 9 w' B (fun _=>True) v0_ r)
  (ho:Kd.R Kd.string 9 w' base ok (.slice A0 l0.length c0) l0) (hb:base≤B):Kd.R Kd.string 9 w' base (fun _=>True) v0_ r:=by
 rcases h with ⟨rfl,rfl⟩|h
 ·exact Kd.R_mono ho (fun _ _=>trivial)
 ·exact Kd.R_lower h hb
end Go.Proofs.Ytlanhkekjhlmjaa.HGuessOf
