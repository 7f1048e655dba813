-- Written by plus.py for this claim.
import Derived.Test.YtpfeebmfihgelaaGreatSGuessPicksVZip
import Derived.Test.YtpfeebmfihgelaaGreatHGuessPicksx0
import Derived.Test.YtpfeebmfihgelaaGreatHGuessPicksx1
namespace Go.Proofs.YtpfeebmfihgelaaGreat.HGuessPicks
open Go.RowKit Go.Proofs.YtpfeebmfihgelaaGreatW.PrintWords Go.Proofs.YtpfeebmfihgelaaGreatW.PrintLast Go.Proofs.YtpfeebmfihgelaaGreatW.PrintMore
attribute [local go_sem] yx yy ZI ZJ yo yp yz ZA
set_option linter.unusedVariables false
set_option linter.unusedSimpArgs false
def zh.l0:Nat→List ByteArray→ByteArray→Int→Int→Option (List ByteArray)
 | 0,_,_,_,_=>none
 | k + 1,x0,x1,x5,x6=>if x5 < x6 then (if 0≤(wrap64 (Int.tdiv (wrap64 (x5 + x6)) 2)) then (if (wrap64 (Int.tdiv (wrap64 (x5 + x6)) 2)) < (x0.length:Int) then (if (Op.bytesLess ((rdOf ByteArray.empty x0 (wrap64 (Int.tdiv (wrap64 (x5 + x6)) 2))).toList) x1.toList)=true then (zh.l0 k x0 x1 (wrap64 ((wrap64 (Int.tdiv (wrap64 (x5 + x6)) 2)) + 1)) x6) else (zh.l0 k x0 x1 x5 (wrap64 (Int.tdiv (wrap64 (x5 + x6)) 2)))) else (none)) else (none)) else (if x5 < (x0.length:Int) then (if 0≤x5 then (if (rdOf ByteArray.empty x0 x5).toList=x1.toList then (some x0) else ((some (([]:List ByteArray):List ByteArray)).bind fun y333=>(if x5≤(x0.length:Int) then (if y333.length + (x0.take (x5:Int).toNat).length < 8796093022208 then ((some (y333 ++ (x0.take (x5:Int).toNat):List ByteArray)).bind fun y337=>((some (([x1]:List ByteArray):List ByteArray)).bind fun y340=>(if y337.length + y340.length < 8796093022208 then ((some (y337 ++ y340:List ByteArray)).bind fun wS=>(if wS.length + (x0.drop (x5:Int).toNat).length < 8796093022208 then (some (wS ++ (x0.drop (x5:Int).toNat))) else (none))) else (none)))) else (none)) else (none)))) else (none)) else ((some (([]:List ByteArray):List ByteArray)).bind fun y350=>(if 0≤x5 then (if x5≤(x0.length:Int) then (if y350.length + (x0.take (x5:Int).toNat).length < 8796093022208 then ((some (y350 ++ (x0.take (x5:Int).toNat):List ByteArray)).bind fun y354=>((some (([x1]:List ByteArray):List ByteArray)).bind fun y357=>(if y354.length + y357.length < 8796093022208 then ((some (y354 ++ y357:List ByteArray)).bind fun y360=>(if y360.length + (x0.drop (x5:Int).toNat).length < 8796093022208 then (some (y360 ++ (x0.drop (x5:Int).toNat))) else (none))) else (none)))) else (none)) else (none)) else (none))))
def zh.f (k:Nat) (l0:List ByteArray) (a1:ByteArray):Option (List ByteArray):=zh.l0 k l0 a1 0 (l0.length:Int)
theorem zh.mono_l:∀k,(∀y0 y1 y2 y3,LeO (zh.l0 k y0 y1 y2 y3) (zh.l0 (k + 1) y0 y1 y2 y3))
 | 0=>fun _ _ _ _ r h=>by simp [zh.l0] at h
 | k + 1=>by
  have ih0:=zh.mono_l k
  ·intro y0 y1 y2 y3
   unfold zh.l0
   repeat' first
   | with_reducible first|exact ih0 _ _ _ _|exact LeO.refl _|exact LeO.none _|refine LeO.ite ?_ ?_|refine LeO.bind ?_ (fun _=> ?_)
theorem zh.mono:∀a0 a1 k,LeO (zh.f k a0 a1) (zh.f (k + 1) a0 a1):=by
 intro a0 a1 k;have ih0:=zh.mono_l k
 unfold zh.f
 repeat' first
   | with_reducible first|exact ih0 _ _ _ _|exact LeO.refl _|exact LeO.none _|refine LeO.ite ?_ ?_|refine LeO.bind ?_ (fun _=> ?_)
def zh.T9:Bool × List (List Nat × List Nat):=(true,[([],[]),([],[]),([],[]),([1,2],[1,2]),([0,3],[0,3]),([],[]),([5],[5]),([4,6,4],[4,6]),([],[]),([],[]),([8,9],[8,9]),([7,10,7],[7,10]),([11,11,0,1,2,3,4,5,6,7,8,9,10,11],[11])])
def zh.B9:List Nat:= [0,0,0,6,15,0,32,127,0,0,768,2047,4095]
theorem zh.tab9:rtab .any (qJ Tryz.f43 9)=zh.T9:=by kernel_rfl
theorem zh.bits9:ZP zh.T9.2 zh.B9=true:=by kernel_rfl
set_option maxHeartbeats 8000000 in
set_option maxRecDepth 100000 in
theorem zh.calls (k:Nat) (A0:Option Addr) (c0:Nat) (l0:List ByteArray) (a1:ByteArray) (r:List ByteArray) (w:World) (hr0:Kd.C Kd.string w A0 l0.length l0) (hc0:l0.length≤c0) (h:zh.f k l0 a1=some r) :
  Calls Tryz.prog 43 #[.slice A0 l0.length c0, .string a1] w fun e w'=>∃v0_:Value,e= .returned (v0_)∧(v0_= .slice A0 l0.length c0∧r=l0∨Kd.R Kd.string 9 w' w.heap.size (fun _=>True) v0_ r)∧Below w.heap.size w w':=by
 have HR0:=zA.mk hr0;have HC0:=zA.mk hc0;clear hr0 hc0;have HB:=zA.mk (Below.refl w.heap.size w);have H:(zh.l0 k l0 a1 0 (l0.length:Int))=some r:=h;clear h;have H':=zA.mk H;clear H
 go_enter Tryz.func43,Tryz.ntmps43
 go_wp2
 go_loopg [5,6] k (fun kq v5 v6 w'=>∃(x5_1:Int) (x6_1:Int),v5= .int .i64 x5_1∧v6= .int .i64 x6_1∧zA (zh.l0 kq l0 a1 x5_1 x6_1=some r)∧zA (kq≤k)∧zA (Below w.heap.size w w'))
 case atStart=>exact ⟨(0),((l0.length:Int)),Zk,Zk,H',⟨Nat.le_refl _⟩,⟨by repeat (first|(with_reducible first|exact HB.out|apply zE|apply zC|apply zG)|exact HB.out)⟩⟩
 case round=>
  clear H';(try clear p2);obtain ⟨x5_1,x6_1,rfl,rfl,HA,HK1,HB⟩:=hrel;cases gk with
  | zero=>exact absurd HA.out (by simp [zh.l0])
  | succ k1=>
   have H:=HA.out;clear HA;simp only [zh.l0] at H
   by_cases c3:x5_1 < x6_1
   ·rw [if_pos c3] at H
    have c3b0:=decide_eq_true c3;clear c3;obtain ⟨ji4,hji4⟩:∃j_:Int,(wrap64 (Int.tdiv (wrap64 (x5_1 + x6_1)) 2))=j_:=⟨_,rfl⟩
    replace H:(if 0≤(ji4) then (if (ji4) < (l0.length:Int) then (if (Op.bytesLess ((rdOf ByteArray.empty l0 (ji4)).toList) a1.toList)=true then (zh.l0 k1 l0 a1 (wrap64 ((ji4) + 1)) x6_1) else (zh.l0 k1 l0 a1 x5_1 ji4)) else (none)) else (none))=some r:=by first|(rw [hji4] at H;exact H)|(simp only [hji4] at H⊢;exact H)
    have hji4w:(IntKind.i64.wrap (Int.tdiv (wrap64 (x5_1 + x6_1)) 2))=ji4:=(yl _).trans hji4
    by_cases c5:0≤(ji4)
    ·rw [if_pos c5] at H
     have c5b0:=decide_eq_true c5;clear c5
     by_cases c6:(ji4) < (l0.length:Int)
     ·rw [if_pos c6] at H
      have c6b0:=decide_eq_true c6;clear c6
      by_cases c7:(Op.bytesLess ((rdOf ByteArray.empty l0 (ji4)).toList) a1.toList)=true
      ·rw [if_pos c7] at H
       have c7b0:(Op.bytesLess ((rdOf ByteArray.empty l0 (ji4)).toList) a1.toList)=true:=c7;clear c7;have H':=zA.mk H;clear H;have p331:0≤((ji4):Int):=Qa;have q331:(ji4) < (l0.length:Int):=Qa;obtain ⟨ad331,e331,hx331_0⟩:=Kd.at_string HR0.out (ji4) p331 q331;cases e331;replace hx331_0:=Qp HB hx331_0;replace p331:=eq_true p331;replace q331:=eq_true q331
       go_wp2
       go_roundg k1
       case measure=>have:=HK1.out;omega
       case rel=>exact ⟨(wrap64 ((ji4) + 1)),(x6_1),Ze,Zk,H',⟨by have:=HK1.out;omega⟩,⟨by repeat (first|(with_reducible first|exact HB.out|apply zE|apply zC|apply zG)|exact HB.out)⟩⟩
      ·rw [if_neg c7] at H
       have c7b0:(Op.bytesLess ((rdOf ByteArray.empty l0 (ji4)).toList) a1.toList)=false:=by simpa using c7
       clear c7;have H':=zA.mk H;clear H;have p331:0≤((ji4):Int):=Qa;have q331:(ji4) < (l0.length:Int):=Qa;obtain ⟨ad331,e331,hx331_0⟩:=Kd.at_string HR0.out (ji4) p331 q331;cases e331;replace hx331_0:=Qp HB hx331_0;replace p331:=eq_true p331;replace q331:=eq_true q331
       go_wp2
       go_roundg k1
       case measure=>have:=HK1.out;omega
       case rel=>exact ⟨(x5_1),(ji4),Zk,Ze,H',⟨by have:=HK1.out;omega⟩,⟨by repeat (first|(with_reducible first|exact HB.out|apply zE|apply zC|apply zG)|exact HB.out)⟩⟩
     ·rw [if_neg c6] at H
      exact absurd H (by simp)
    ·rw [if_neg c5] at H
     exact absurd H (by simp)
   ·rw [if_neg c3] at H
    have c3b0:=decide_eq_false c3;clear c3
    by_cases c8:x5_1 < (l0.length:Int)
    ·rw [if_pos c8] at H
     have c8b0:=decide_eq_true c8;clear c8
     by_cases c9:0≤x5_1
     ·rw [if_pos c9] at H
      have c9b0:=decide_eq_true c9;clear c9
      by_cases c10:(rdOf ByteArray.empty l0 x5_1).toList=a1.toList
      ·rw [if_pos c10] at H
       have c10b0:((rdOf ByteArray.empty l0 x5_1).toList == a1.toList)=true:=beq_iff_eq.mpr c10;have c10b1:((rdOf ByteArray.empty l0 x5_1).toList != a1.toList)=false:=bne_eq_false_iff_eq.mpr c10;clear c10;obtain rfl:=Option.some.inj H;have p332:0≤(x5_1:Int):=Qa;have q332:x5_1 < (l0.length:Int):=Qa;obtain ⟨ad332,e332,hx332_0⟩:=Kd.at_string HR0.out x5_1 p332 q332;cases e332;replace hx332_0:=Qp HB hx332_0;replace p332:=eq_true p332;replace q332:=eq_true q332
       go_wp2
       go_ret
       exact ⟨_,by first|rfl|(simp [zR,zS] <;> rfl)|(simp [*,zR,zS] <;> rfl),(by first|exact .inl ⟨rfl,rfl⟩|exact .inl rfl|(left;simp)),by repeat (first|(with_reducible first|exact HB.out|apply zE|apply zC|apply zG)|exact HB.out)⟩
      ·rw [if_neg c10] at H
       have c10b0:((rdOf ByteArray.empty l0 x5_1).toList == a1.toList)=false:=beq_eq_false_iff_ne.mpr c10;have c10b1:((rdOf ByteArray.empty l0 x5_1).toList != a1.toList)=true:=bne_iff_ne.mpr c10;obtain ⟨y333,hy333⟩:∃y_:List ByteArray,y_=(([]:List ByteArray)):=⟨_,rfl⟩;replace H:(if x5_1≤(l0.length:Int) then (if y333.length + (l0.take (x5_1:Int).toNat).length < 8796093022208 then ((some (y333 ++ (l0.take (x5_1:Int).toNat):List ByteArray)).bind fun y337=>((some (([a1]:List ByteArray):List ByteArray)).bind fun y340=>(if y337.length + y340.length < 8796093022208 then ((some (y337 ++ y340:List ByteArray)).bind fun wS=>(if wS.length + (l0.drop (x5_1:Int).toNat).length < 8796093022208 then (some (wS ++ (l0.drop (x5_1:Int).toNat))) else (none))) else (none)))) else (none)) else (none))=some r:=Qb hy333 H;have Ny333:=zA.mk hy333;clear hy333;have c11b0:=eq_true (Qa:0≤x5_1)
       by_cases c12:x5_1≤(l0.length:Int)
       ·rw [if_pos c12] at H
        have c12b0:=eq_true c12;have c12b1:=decide_eq_true c12;clear c12
        by_cases c13:y333.length + (l0.take (x5_1:Int).toNat).length < 8796093022208
        ·rw [if_pos c13] at H
         have LMc13:=zA.mk c13;clear c13;obtain ⟨y337,hy337⟩:∃y_:List ByteArray,y_=(y333 ++ (l0.take (x5_1:Int).toNat)):=⟨_,rfl⟩;replace H:((some (([a1]:List ByteArray):List ByteArray)).bind fun y340=>(if y337.length + y340.length < 8796093022208 then ((some (y337 ++ y340:List ByteArray)).bind fun wS=>(if wS.length + (l0.drop (x5_1:Int).toNat).length < 8796093022208 then (some (wS ++ (l0.drop (x5_1:Int).toNat))) else (none))) else (none)))=some r:=Qb hy337 H;have Ny337:=zA.mk hy337;clear hy337;obtain ⟨y340,hy340⟩:∃y_:List ByteArray,y_=(([a1]:List ByteArray)):=⟨_,rfl⟩;replace H:(if y337.length + y340.length < 8796093022208 then ((some (y337 ++ y340:List ByteArray)).bind fun wS=>(if wS.length + (l0.drop (x5_1:Int).toNat).length < 8796093022208 then (some (wS ++ (l0.drop (x5_1:Int).toNat))) else (none))) else (none))=some r:=Qb hy340 H;have Ny340:=zA.mk hy340;clear hy340
         by_cases c14:y337.length + y340.length < 8796093022208
         ·rw [if_pos c14] at H
          have LMc14:=zA.mk c14;clear c14;obtain ⟨wS,hy343⟩:∃y_:List ByteArray,y_=(y337 ++ y340):=⟨_,rfl⟩;replace H:(if wS.length + (l0.drop (x5_1:Int).toNat).length < 8796093022208 then (some (wS ++ (l0.drop (x5_1:Int).toNat))) else (none))=some r:=Qb hy343 H;have Ny343:=zA.mk hy343;clear hy343;have c15b0:=eq_true (Qa:0≤x5_1);have c16b0:=eq_true (Qa:x5_1≤(l0.length:Int))
          by_cases c17:wS.length + (l0.drop (x5_1:Int).toNat).length < 8796093022208
          ·rw [if_pos c17] at H
           have LMc17:=zA.mk c17;clear c17;obtain ⟨y347,hy347⟩:∃y_:List ByteArray,y_=(wS ++ (l0.drop (x5_1:Int).toNat)):=⟨_,rfl⟩;replace H:(some y347)=some r:=Qb hy347 H;have Ny347:=zA.mk hy347;clear hy347;obtain rfl:=Option.some.inj H;have p332:0≤(x5_1:Int):=Qa;have q332:x5_1 < (l0.length:Int):=Qa;obtain ⟨ad332,e332,hx332_0⟩:=Kd.at_string HR0.out x5_1 p332 q332;cases e332;replace hx332_0:=Qp HB hx332_0;replace p332:=eq_true p332;replace q332:=eq_true q332
           try go_wp2
           have n0_:=zA.mk (zG HB.out);clear HB;have HB:=n0_;clear n0_;obtain ⟨i019,hi019,_,hsz19,_⟩:=info_parts YM;obtain ⟨hcut19,hA19,hC19⟩:=Yx (P:=Tryz.prog) Value.string (⟨#[]⟩:ByteArray) 43 9 .i64 Tryz.underlying43 hi019 hsz19 (some ad332) c0 l0 x5_1 (Qa) (Qa) HC0.out;have HR336:=zA.mk (Kd.C_of_reads (h1:=fun _=>rfl) (hA19 _ (Kd.reads_of_C HR0.out)));have HC336:=zA.mk hC19;clear hA19 hC19 hi019 hsz19;obtain ⟨i020,hi020,_,hsz20,_⟩:=info_parts YM;obtain ⟨A20,hcut20,hA20,hC20⟩:=qg (P:=Tryz.prog) Value.string (⟨#[]⟩:ByteArray) 43 9 .i64 Tryz.underlying43 hi020 hsz20 (some ad332) c0 l0 x5_1 (Qa) (Qa) HC0.out;have HR346:=zA.mk (Kd.C_of_reads (h1:=fun _=>rfl) (hA20 _ (Kd.reads_of_C HR0.out)));have HC346:=zA.mk hC20;clear hA20 hC20 hi020 hsz20;refine YJ (n:=13) (S:=fun w'=>True) (ds:= []) #[false,false,false,false,false,false,false,false,false,false,false,false,false] (by kernel_rfl) rfl rfl trivial (fun hHeld=> ?_);refine ZG zh.tab9 zh.bits9 (fun HT_ HW_=> ?_)
           generalize wr.drew=w18 at HB HR336 HR346 hHeld⊢
           refine Qq (i:=1) (N:=some 40) #[false,true,false,false,false,false,false,false,false,false,false,false,false] HT_.out ?_;refine Qq (i:=2) (N:=some 41) #[false,true,true,false,false,false,false,false,false,false,false,false,false] HT_.out ?_;refine Qq (i:=3) (N:=some 42) #[false,true,true,true,false,false,false,false,false,false,false,false,false] HT_.out ?_;refine Qq (i:=5) (N:=some 44) #[false,true,true,true,false,true,false,false,false,false,false,false,false] HT_.out ?_;refine Qq (i:=8) (N:=some 47) #[false,true,true,true,false,true,false,false,true,false,false,false,false] HT_.out ?_;refine Qq (i:=9) (N:=some 48) #[false,true,true,true,false,true,false,false,true,true,false,false,false] HT_.out ?_;refine Qq (i:=10) (N:=some 49) #[false,true,true,true,false,true,false,false,true,true,true,false,false] HT_.out ?_;refine join_ (σ:=Value × Value × Value) 3 #[true,true,true,true,true,true,true,false,true,true,true,false,false] (fun s_=> [(39,s_.1),(43,s_.2.1),(45,s_.2.2)]) (fun s_ w'=>(Kd.R Kd.string 9 w' w.heap.size (fun k_=>some k_≠(s_.2.2:Value).ownBlock) s_.2.1 y337)∧(Kd.R Kd.string 9 w' w.heap.size (fun k_=>some k_≠(s_.2.1:Value).ownBlock) s_.2.2 y340)∧(Below w.heap.size w w')) ?_ ?_;rotate_left
           ·intro hCont
            refine two_ (i:=0) (j:=6) (Ni:=some 39) (Nj:=some 45) #[true,true,true,true,false,true,false,false,true,true,true,false,false] #[false,true,true,true,false,true,true,false,true,true,true,false,false] rfl rfl rfl rfl (two_of HT_.out (by kernel_rfl)) (by decide) (by decide) (fun K hK=> ?_) (fun K hK=> ?_)
            ·skip
             refine Kd.R_lit_step Kd.string _ 9 ?hg (N:=39) ?hd (xs:=([]:List ByteArray)) (inner:= []) (ok:=fun _=>True) (okp:=fun _=>True) ?hr ?hp (fun _ hk=>hk) trivial (Below.refl _ _) (Nat.le_refl _) (by simp) ?_;(case hd=>rfl);(case hg=>rfl);(case hr=>exact Qm);(case hp=>exact (Reps.none _ _));intro v334 w21 ho22 hb hg_ hnew_;clear hg_ hnew_
             (first|rw [←Ny333.out] at ho22|(simp only [Int.reduceToNat] at ho22;rw [←Ny333.out] at ho22))
             have n0_:=zA.mk (Kd.R_lower ho22 (zD Qc));have n1_:=zA.mk (zF Qc hb);clear HB;have HO335:=n0_;have HB:=n1_;clear n0_ n1_ hb ho22;refine hK.out _ _ trivial (fun hHeld=> ?_);clear hK K;refine yu (a':= ?_) ?_ ?_;rotate_left
             ·show Act.put _ (some 39) _=_
              simp only [Act.put,List.setIfInBounds_toArray,List.set_cons_zero,List.set_cons_succ,yl,yq]
              rfl
             refine two_ (i:=4) (j:=6) (Ni:=some 43) (Nj:=some 45) #[true,true,true,true,true,true,false,false,true,true,true,false,false] #[true,true,true,true,false,true,true,false,true,true,true,false,false] rfl rfl rfl rfl (two_of HT_.out (by kernel_rfl)) (by decide) (by decide) (fun K hK=> ?_) (fun K hK=> ?_)
             ·skip
              refine Kd.R_append_rows_step Kd.string (w0:=w) w.heap.size (by rfl) (.tmp 39) (.tmp 42) 43 9 (.string ⟨#[]⟩) 16 rfl Tryz.underlying43 YM rfl (by decide) (by omega) v334 y333 (l0.take (x5_1:Int).toNat) _ _ _ (fun _=>True) (fun _=>False) rfl rfl ?aO ?aR (fun _ _ h=>h) (fun _ h=>h.elim) ?aF ?aB ?aS ?aL ?_
              (case aR=>first|(refine YK (Zf:(l0.take (x5_1:Int).toNat).length=x5_1.toNat) ?_;repeat (first|exact (Kd.C_below HR336.out HB.out)|(with_reducible refine Kd.C_alloc ?_ _)|(with_reducible refine Kd.C_drewN ?_ _)|(with_reducible refine Kd.C_drew ?_)))|(repeat (first|exact (Kd.C_below HR336.out HB.out)|(with_reducible refine Kd.C_alloc ?_ _)|(with_reducible refine Kd.C_drewN ?_ _)|(with_reducible refine Kd.C_drew ?_))))
              (case aB=>exact Qc)
              (case aF=>exact (fun _ _=>trivial))
              (case aO=>exact (Qh HO335))
              (case aS=>exact (zD Qc))
              (case aL=>have:=LMc13.out;have hlx_:=(show (l0.take (x5_1:Int).toNat).length=x5_1.toNat from Zf);omega)
              intro v338 w23 ho hb hg hat
              rw [←Ny337.out] at ho;have n0_:=zA.mk (hb);have n1_:=zA.mk (ho);clear HB HO335;have HB:=n0_;have HO339:=n1_
              clear n0_ n1_ ho hb hg hat
              refine hK.out _ _ trivial (fun hHeld=> ?_);clear hK K;refine yu (a':= ?_) ?_ ?_;rotate_left
              ·show Act.put _ (some 43) _=_
               simp only [Act.put,List.setIfInBounds_toArray,List.set_cons_zero,List.set_cons_succ,yl,yq]
               rfl
              refine one_ (i:=6) (N:=some 45) #[true,true,true,true,true,true,true,false,true,true,true,false,false] rfl rfl (yr HT_.out (by kernel_rfl)) (by decide) (fun K hK=> ?_);refine Kd.R_lit_step Kd.string _ 9 ?hg (N:=45) ?hd (xs:=([a1]:List ByteArray)) (inner:= [.string a1]) (ok:=fun _=>True) (okp:=fun _=>True) ?hr ?hp (fun _ hk=>hk) trivial (Below.refl _ _) (Nat.le_refl _) (by simp) ?_;(case hd=>rfl);(case hg=>rfl);(case hr=>exact Qm);(case hp=>exact (Reps.one (show Kd.M Kd.string _ _ _ a1 [.string a1] from rfl) (Reps.none _ _)));intro v341 w24 ho25 hb hg_ hnew_;clear hg_ hnew_
              (first|rw [←Ny340.out] at ho25|(simp only [Int.reduceToNat] at ho25;rw [←Ny340.out] at ho25))
              have n0_:=zA.mk (Kd.R_elder' (Qh HO339) (Kd.R_base ho25) hb);have n1_:=zA.mk (Kd.R_lower (Kd.R_new' ho25 (Kd.R_lt (Qh HO339))) (zD Qc));have n2_:=zA.mk (zF Qc hb);clear HO339 HB;have HO339:=n0_;have HO342:=n1_;have HB:=n2_;clear n0_ n1_ n2_ hb ho25;refine hK.out _ _ trivial (fun hHeld=> ?_);clear hK K;refine yu (a':= ?_) ?_ ?_;rotate_left
              ·show Act.put _ (some 45) _=_
               simp only [Act.put,List.setIfInBounds_toArray,List.set_cons_zero,List.set_cons_succ,yl,yq]
               rfl
              exact yu Zd (hCont (v334,v338,v341) _ ⟨(by (with_reducible repeat (first|apply Kd.R_alloc|apply Kd.R_drewN|apply Kd.R_drew));exact Kd.R_mono HO339.out (fun _ hk=>hk.2)),Q9,Qc⟩)
             ·skip
              refine Kd.R_lit_step Kd.string _ 9 ?hg (N:=45) ?hd (xs:=([a1]:List ByteArray)) (inner:= [.string a1]) (ok:=fun _=>True) (okp:=fun _=>True) ?hr ?hp (fun _ hk=>hk) trivial (Below.refl _ _) (Nat.le_refl _) (by simp) ?_;(case hd=>rfl);(case hg=>rfl);(case hr=>exact Qm);(case hp=>exact (Reps.one (show Kd.M Kd.string _ _ _ a1 [.string a1] from rfl) (Reps.none _ _)));intro v341 w23 ho24 hb hg_ hnew_;clear hg_ hnew_
              (first|rw [←Ny340.out] at ho24|(simp only [Int.reduceToNat] at ho24;rw [←Ny340.out] at ho24))
              have n0_:=zA.mk (Kd.R_elder' (Qh HO335) (Kd.R_base ho24) hb);have n1_:=zA.mk (Kd.R_lower (Kd.R_new' ho24 (Kd.R_lt (Qh HO335))) (zD Qc));have n2_:=zA.mk (zF Qc hb);clear HO335 HB;have HO335:=n0_;have HO342:=n1_;have HB:=n2_;clear n0_ n1_ n2_ hb ho24;refine hK.out _ _ trivial (fun hHeld=> ?_);clear hK K;refine yu (a':= ?_) ?_ ?_;rotate_left
              ·show Act.put _ (some 45) _=_
               simp only [Act.put,List.setIfInBounds_toArray,List.set_cons_zero,List.set_cons_succ,yl,yq]
               rfl
              refine one_ (i:=4) (N:=some 43) #[true,true,true,true,true,true,true,false,true,true,true,false,false] rfl rfl (yr HT_.out (by kernel_rfl)) (by decide) (fun K hK=> ?_);refine Kd.R_append_rows_step Kd.string (w0:=w) w.heap.size (by rfl) (.tmp 39) (.tmp 42) 43 9 (.string ⟨#[]⟩) 16 rfl Tryz.underlying43 YM rfl (by decide) (by omega) v334 y333 (l0.take (x5_1:Int).toNat) _ _ _ (fun k_=>some k_≠(v341:Value).ownBlock) (fun _=>False) rfl rfl ?aO ?aR (fun _ _ h=>h) (fun _ h=>h.elim) ?aF ?aB ?aS ?aL ?_
              (case aR=>first|(refine YK (Zf:(l0.take (x5_1:Int).toNat).length=x5_1.toNat) ?_;repeat (first|exact (Kd.C_below HR336.out HB.out)|(with_reducible refine Kd.C_alloc ?_ _)|(with_reducible refine Kd.C_drewN ?_ _)|(with_reducible refine Kd.C_drew ?_)))|(repeat (first|exact (Kd.C_below HR336.out HB.out)|(with_reducible refine Kd.C_alloc ?_ _)|(with_reducible refine Kd.C_drewN ?_ _)|(with_reducible refine Kd.C_drew ?_))))
              (case aB=>exact Qc)
              (case aF=>exact (fun k_ hk=>Kd.fresh' (Kd.R_lt (Qh HO342)) k_ hk))
              (case aO=>exact Za)
              (case aS=>exact (zD Qc))
              (case aL=>have:=LMc13.out;have hlx_:=(show (l0.take (x5_1:Int).toNat).length=x5_1.toNat from Zf);omega)
              intro v338 w25 ho hb hg hat
              rw [←Ny337.out] at ho;have n0_:=zA.mk (Kd.R_after (ok:=(fun _=>True)) (Qh HO342) hg hat);have n1_:=zA.mk (hb);have n2_:=zA.mk (ho);clear HO342 HB HO335;have HO342:=n0_;have HB:=n1_;have HO339:=n2_
              clear n0_ n1_ n2_ ho hb hg hat
              refine hK.out _ _ trivial (fun hHeld=> ?_);clear hK K;refine yu (a':= ?_) ?_ ?_;rotate_left
              ·show Act.put _ (some 43) _=_
               simp only [Act.put,List.setIfInBounds_toArray,List.set_cons_zero,List.set_cons_succ,yl,yq]
               rfl
              exact yu Zd (hCont (v334,v338,v341) _ ⟨(Qh HO339),Q9,Qc⟩)
            ·skip
             refine Kd.R_lit_step Kd.string _ 9 ?hg (N:=45) ?hd (xs:=([a1]:List ByteArray)) (inner:= [.string a1]) (ok:=fun _=>True) (okp:=fun _=>True) ?hr ?hp (fun _ hk=>hk) trivial (Below.refl _ _) (Nat.le_refl _) (by simp) ?_;(case hd=>rfl);(case hg=>rfl);(case hr=>exact Qm);(case hp=>exact (Reps.one (show Kd.M Kd.string _ _ _ a1 [.string a1] from rfl) (Reps.none _ _)));intro v341 w21 ho22 hb hg_ hnew_;clear hg_ hnew_
             (first|rw [←Ny340.out] at ho22|(simp only [Int.reduceToNat] at ho22;rw [←Ny340.out] at ho22))
             have n0_:=zA.mk (Kd.R_lower ho22 (zD Qc));have n1_:=zA.mk (zF Qc hb);clear HB;have HO342:=n0_;have HB:=n1_;clear n0_ n1_ hb ho22;refine hK.out _ _ trivial (fun hHeld=> ?_);clear hK K;refine yu (a':= ?_) ?_ ?_;rotate_left
             ·show Act.put _ (some 45) _=_
              simp only [Act.put,List.setIfInBounds_toArray,List.set_cons_zero,List.set_cons_succ,yl,yq]
              rfl
             refine one_ (i:=0) (N:=some 39) #[true,true,true,true,false,true,true,false,true,true,true,false,false] rfl rfl (yr HT_.out (by kernel_rfl)) (by decide) (fun K hK=> ?_);refine Kd.R_lit_step Kd.string _ 9 ?hg (N:=39) ?hd (xs:=([]:List ByteArray)) (inner:= []) (ok:=fun _=>True) (okp:=fun _=>True) ?hr ?hp (fun _ hk=>hk) trivial (Below.refl _ _) (Nat.le_refl _) (by simp) ?_;(case hd=>rfl);(case hg=>rfl);(case hr=>exact Qm);(case hp=>exact (Reps.none _ _));intro v334 w23 ho24 hb hg_ hnew_;clear hg_ hnew_
             (first|rw [←Ny333.out] at ho24|(simp only [Int.reduceToNat] at ho24;rw [←Ny333.out] at ho24))
             have n0_:=zA.mk (Kd.R_elder' (Qh HO342) (Kd.R_base ho24) hb);have n1_:=zA.mk (Kd.R_lower (Kd.R_new' ho24 (Kd.R_lt (Qh HO342))) (zD Qc));have n2_:=zA.mk (zF Qc hb);clear HO342 HB;have HO342:=n0_;have HO335:=n1_;have HB:=n2_;clear n0_ n1_ n2_ hb ho24;refine hK.out _ _ trivial (fun hHeld=> ?_);clear hK K;refine yu (a':= ?_) ?_ ?_;rotate_left
             ·show Act.put _ (some 39) _=_
              simp only [Act.put,List.setIfInBounds_toArray,List.set_cons_zero,List.set_cons_succ,yl,yq]
              rfl
             refine one_ (i:=4) (N:=some 43) #[true,true,true,true,true,true,true,false,true,true,true,false,false] rfl rfl (yr HT_.out (by kernel_rfl)) (by decide) (fun K hK=> ?_);refine Kd.R_append_rows_step Kd.string (w0:=w) w.heap.size (by rfl) (.tmp 39) (.tmp 42) 43 9 (.string ⟨#[]⟩) 16 rfl Tryz.underlying43 YM rfl (by decide) (by omega) v334 y333 (l0.take (x5_1:Int).toNat) _ _ _ (fun k_=>some k_≠(v341:Value).ownBlock) (fun _=>False) rfl rfl ?aO ?aR (fun _ _ h=>h) (fun _ h=>h.elim) ?aF ?aB ?aS ?aL ?_
             (case aR=>first|(refine YK (Zf:(l0.take (x5_1:Int).toNat).length=x5_1.toNat) ?_;repeat (first|exact (Kd.C_below HR336.out HB.out)|(with_reducible refine Kd.C_alloc ?_ _)|(with_reducible refine Kd.C_drewN ?_ _)|(with_reducible refine Kd.C_drew ?_)))|(repeat (first|exact (Kd.C_below HR336.out HB.out)|(with_reducible refine Kd.C_alloc ?_ _)|(with_reducible refine Kd.C_drewN ?_ _)|(with_reducible refine Kd.C_drew ?_))))
             (case aB=>exact Qc)
             (case aF=>exact (fun k_ hk=>Kd.fresh' (Kd.R_lt (Qh HO342)) k_ hk))
             (case aO=>exact Za)
             (case aS=>exact (zD Qc))
             (case aL=>have:=LMc13.out;have hlx_:=(show (l0.take (x5_1:Int).toNat).length=x5_1.toNat from Zf);omega)
             intro v338 w25 ho hb hg hat
             rw [←Ny337.out] at ho;have n0_:=zA.mk (Kd.R_after (ok:=(fun _=>True)) (Qh HO342) hg hat);have n1_:=zA.mk (hb);have n2_:=zA.mk (ho);clear HO342 HB HO335;have HO342:=n0_;have HB:=n1_;have HO339:=n2_
             clear n0_ n1_ n2_ ho hb hg hat
             refine hK.out _ _ trivial (fun hHeld=> ?_);clear hK K;refine yu (a':= ?_) ?_ ?_;rotate_left
             ·show Act.put _ (some 43) _=_
              simp only [Act.put,List.setIfInBounds_toArray,List.set_cons_zero,List.set_cons_succ,yl,yq]
              rfl
             exact yu Zd (hCont (v334,v338,v341) _ ⟨(Qh HO339),Q9,Qc⟩)
           rintro ⟨v334,v338,v341⟩ w26 ⟨h0_,h1_,h2_⟩;have n0_:zA (Kd.R Kd.string 9 w26 w.heap.size (fun k_=>some k_≠(v341:Value).ownBlock) v338 y337):=⟨h0_⟩;have n1_:zA (Kd.R Kd.string 9 w26 w.heap.size (fun k_=>some k_≠(v338:Value).ownBlock) v341 y340):=⟨h1_⟩;have n2_:zA (Below w.heap.size w w26):=⟨h2_⟩;clear HB h0_ h1_ h2_;have HO339:=n0_;have HO342:=n1_;have HB:=n2_;clear n0_ n1_ n2_;have hHeld:=trivial;obtain ⟨Ao28,co28,eo28⟩:=Kd.R_slice HO342.out
           (first|subst eo28|(injection eo28 with f1_ f2_ f3_;have f4_:=f1_.symm;have f5_:=f3_.symm;clear f1_ f2_ f3_;subst f4_;subst f5_))
           refine yu (a':= ?_) ?_ ?_;rotate_left
           ·simp only [YP,Act.put,List.setIfInBounds_toArray,List.set_cons_zero,List.set_cons_succ]
            rfl
           refine one_ (i:=7) (N:=some 46) #[true,true,true,true,true,true,true,true,true,true,true,false,false] rfl rfl (yr HT_.out (by kernel_rfl)) (by decide) (fun K hK=> ?_);refine Kd.R_append_rows_step Kd.string (w0:=w) w.heap.size (by rfl) (.tmp 43) (.tmp 45) 43 9 (.string ⟨#[]⟩) 16 rfl Tryz.underlying43 YM rfl (by decide) (by omega) v338 y337 y340 _ _ _ (fun k_=>some k_≠(.slice Ao28 y340.length co28:Value).ownBlock) (fun _=>False) rfl rfl ?aO ?aR (fun _ _ h=>h) (fun _ h=>h.elim) ?aF ?aB ?aS ?aL ?_
           (case aR=>exact Qo ((Kd.R_reads' HO342.out).2.2))
           (case aB=>exact Qc)
           (case aF=>exact (fun k_ hk=>Kd.fresh' (Kd.R_lt (Qh HO342)) k_ hk))
           (case aO=>exact (Qh HO339))
           (case aS=>exact (zD Qc))
           (case aL=>have:=LMc14.out;omega)
           intro v344 w27 ho hb hg hat
           rw [←Ny343.out] at ho;have n0_:=zA.mk (Kd.R_after (ok:=(fun _=>True)) (by (with_reducible repeat (first|apply Kd.R_alloc|apply Kd.R_drewN|apply Kd.R_drew));exact Kd.R_mono HO342.out (fun _ hk=>⟨trivial,hk⟩)) hg hat);have n1_:=zA.mk (hb);have n2_:=zA.mk (ho);clear HO342 HB HO339;have HO342:=n0_;have HB:=n1_;have HO345:=n2_
           clear n0_ n1_ n2_ ho hb hg hat
           refine hK.out _ _ trivial (fun hHeld=> ?_);clear hK K;refine yu (a':= ?_) ?_ ?_;rotate_left
           ·show Act.put _ (some 46) _=_
            simp only [Act.put,List.setIfInBounds_toArray,List.set_cons_zero,List.set_cons_succ,yl,yq]
            rfl
           refine one_ (i:=11) (N:=some 50) #[true,true,true,true,true,true,true,true,true,true,true,true,false] rfl rfl (yr HT_.out (by kernel_rfl)) (by decide) (fun K hK=> ?_);refine Kd.R_append_rows_step Kd.string (w0:=w) w.heap.size (by rfl) (.tmp 46) (.tmp 49) 43 9 (.string ⟨#[]⟩) 16 rfl Tryz.underlying43 YM rfl (by decide) (by omega) v344 wS (l0.drop (x5_1:Int).toNat) _ _ _ (fun k_=>some k_≠(.slice Ao28 y340.length co28:Value).ownBlock) (fun _=>False) rfl rfl ?aO ?aR (fun _ _ h=>h) (fun _ h=>h.elim) ?aF ?aB ?aS ?aL ?_
           (case aR=>first|(refine YK (List.length_drop:(l0.drop (x5_1:Int).toNat).length=(l0.length - x5_1.toNat)) ?_;repeat (first|exact (Kd.C_below HR346.out HB.out)|(with_reducible refine Kd.C_alloc ?_ _)|(with_reducible refine Kd.C_drewN ?_ _)|(with_reducible refine Kd.C_drew ?_)))|(repeat (first|exact (Kd.C_below HR346.out HB.out)|(with_reducible refine Kd.C_alloc ?_ _)|(with_reducible refine Kd.C_drewN ?_ _)|(with_reducible refine Kd.C_drew ?_))))
           (case aB=>exact Qc)
           (case aF=>exact (fun k_ hk=>Kd.fresh' (Kd.R_lt (Qh HO342)) k_ hk))
           (case aO=>exact (Qh HO345))
           (case aS=>exact (zD Qc))
           (case aL=>have:=LMc17.out;have hlx_:=(show (l0.drop (x5_1:Int).toNat).length=(l0.length - x5_1.toNat) from List.length_drop);omega)
           intro v348 w29 ho hb hg hat
           rw [←Ny347.out] at ho;have n0_:=zA.mk (Kd.R_after (ok:=(fun _=>True)) (Qh HO342) hg hat);have n1_:=zA.mk (hb);have n2_:=zA.mk (ho);clear HO342 HB HO345;have HO342:=n0_;have HB:=n1_;have HO349:=n2_
           clear n0_ n1_ n2_ ho hb hg hat
           refine hK.out _ _ trivial (fun hHeld=> ?_);clear hK K;refine yu (a':= ?_) ?_ ?_;rotate_left
           ·show Act.put _ (some 50) _=_
            simp only [Act.put,List.setIfInBounds_toArray,List.set_cons_zero,List.set_cons_succ,yl,yq]
            rfl
           refine Qq (i:=12) (N:=some 4) #[true,true,true,true,true,true,true,true,true,true,true,true,true] HT_.out ?_;refine YS (Zq HT_.out (by kernel_rfl)) ?_
           try go_wp2
           go_ret
           exact ⟨_,by first|rfl|(simp [zR,zS] <;> rfl)|(simp [*,zR,zS] <;> rfl), .inr (by (with_reducible repeat (first|apply Kd.R_alloc|apply Kd.R_drewN|apply Kd.R_drew));exact Kd.R_mono HO349.out (fun _ hk=>trivial)),by repeat (first|(with_reducible first|exact HB.out|apply zE|apply zC|apply zG)|exact HB.out)⟩
          ·rw [if_neg c17] at H
           exact absurd H (by simp)
         ·rw [if_neg c14] at H
          exact absurd H (by simp)
        ·rw [if_neg c13] at H
         exact absurd H (by simp)
       ·rw [if_neg c12] at H
        exact absurd H (by simp)
     ·rw [if_neg c9] at H
      exact absurd H (by simp)
    ·rw [if_neg c8] at H
     have c8b0:=decide_eq_false c8;clear c8;obtain ⟨y350,hy350⟩:∃y_:List ByteArray,y_=(([]:List ByteArray)):=⟨_,rfl⟩;replace H:(if 0≤x5_1 then (if x5_1≤(l0.length:Int) then (if y350.length + (l0.take (x5_1:Int).toNat).length < 8796093022208 then ((some (y350 ++ (l0.take (x5_1:Int).toNat):List ByteArray)).bind fun y354=>((some (([a1]:List ByteArray):List ByteArray)).bind fun y357=>(if y354.length + y357.length < 8796093022208 then ((some (y354 ++ y357:List ByteArray)).bind fun y360=>(if y360.length + (l0.drop (x5_1:Int).toNat).length < 8796093022208 then (some (y360 ++ (l0.drop (x5_1:Int).toNat))) else (none))) else (none)))) else (none)) else (none)) else (none))=some r:=Qb hy350 H;have Ny350:=zA.mk hy350;clear hy350
     by_cases c30:0≤x5_1
     ·rw [if_pos c30] at H
      have c30b0:=eq_true c30;have c30b1:=decide_eq_true c30;clear c30
      by_cases c31:x5_1≤(l0.length:Int)
      ·rw [if_pos c31] at H
       have c31b0:=eq_true c31;have c31b1:=decide_eq_true c31;clear c31
       by_cases c32:y350.length + (l0.take (x5_1:Int).toNat).length < 8796093022208
       ·rw [if_pos c32] at H
        have LMc32:=zA.mk c32;clear c32;obtain ⟨y354,hy354⟩:∃y_:List ByteArray,y_=(y350 ++ (l0.take (x5_1:Int).toNat)):=⟨_,rfl⟩;replace H:((some (([a1]:List ByteArray):List ByteArray)).bind fun y357=>(if y354.length + y357.length < 8796093022208 then ((some (y354 ++ y357:List ByteArray)).bind fun y360=>(if y360.length + (l0.drop (x5_1:Int).toNat).length < 8796093022208 then (some (y360 ++ (l0.drop (x5_1:Int).toNat))) else (none))) else (none)))=some r:=Qb hy354 H;have Ny354:=zA.mk hy354;clear hy354;obtain ⟨y357,hy357⟩:∃y_:List ByteArray,y_=(([a1]:List ByteArray)):=⟨_,rfl⟩;replace H:(if y354.length + y357.length < 8796093022208 then ((some (y354 ++ y357:List ByteArray)).bind fun y360=>(if y360.length + (l0.drop (x5_1:Int).toNat).length < 8796093022208 then (some (y360 ++ (l0.drop (x5_1:Int).toNat))) else (none))) else (none))=some r:=Qb hy357 H;have Ny357:=zA.mk hy357;clear hy357
        by_cases c33:y354.length + y357.length < 8796093022208
        ·rw [if_pos c33] at H
         have LMc33:=zA.mk c33;clear c33;obtain ⟨y360,hy360⟩:∃y_:List ByteArray,y_=(y354 ++ y357):=⟨_,rfl⟩;replace H:(if y360.length + (l0.drop (x5_1:Int).toNat).length < 8796093022208 then (some (y360 ++ (l0.drop (x5_1:Int).toNat))) else (none))=some r:=Qb hy360 H;have Ny360:=zA.mk hy360;clear hy360;have c34b0:=eq_true (Qa:0≤x5_1);have c35b0:=eq_true (Qa:x5_1≤(l0.length:Int))
         by_cases c36:y360.length + (l0.drop (x5_1:Int).toNat).length < 8796093022208
         ·rw [if_pos c36] at H
          have LMc36:=zA.mk c36;clear c36;obtain ⟨y364,hy364⟩:∃y_:List ByteArray,y_=(y360 ++ (l0.drop (x5_1:Int).toNat)):=⟨_,rfl⟩;replace H:(some y364)=some r:=Qb hy364 H;have Ny364:=zA.mk hy364;clear hy364;obtain rfl:=Option.some.inj H
          try go_wp2
          have n0_:=zA.mk (zG HB.out);clear HB;have HB:=n0_;clear n0_;obtain ⟨i038,hi038,_,hsz38,_⟩:=info_parts YM;obtain ⟨hcut38,hA38,hC38⟩:=Yx (P:=Tryz.prog) Value.string (⟨#[]⟩:ByteArray) 43 9 .i64 Tryz.underlying43 hi038 hsz38 A0 c0 l0 x5_1 (Qa) (Qa) HC0.out;have HR353:=zA.mk (Kd.C_of_reads (h1:=fun _=>rfl) (hA38 _ (Kd.reads_of_C HR0.out)));have HC353:=zA.mk hC38;clear hA38 hC38 hi038 hsz38;obtain ⟨i039,hi039,_,hsz39,_⟩:=info_parts YM;obtain ⟨A39,hcut39,hA39,hC39⟩:=qg (P:=Tryz.prog) Value.string (⟨#[]⟩:ByteArray) 43 9 .i64 Tryz.underlying43 hi039 hsz39 A0 c0 l0 x5_1 (Qa) (Qa) HC0.out;have HR363:=zA.mk (Kd.C_of_reads (h1:=fun _=>rfl) (hA39 _ (Kd.reads_of_C HR0.out)));have HC363:=zA.mk hC39;clear hA39 hC39 hi039 hsz39;refine YJ (n:=13) (S:=fun w'=>True) (ds:= []) #[false,false,false,false,false,false,false,false,false,false,false,false,false] (by kernel_rfl) rfl rfl trivial (fun hHeld=> ?_);refine ZG zh.tab9 zh.bits9 (fun HT_ HW_=> ?_)
          generalize wr.drew=w37 at HB HR353 HR363 hHeld⊢
          refine Qq (i:=1) (N:=some 40) #[false,true,false,false,false,false,false,false,false,false,false,false,false] HT_.out ?_;refine Qq (i:=2) (N:=some 41) #[false,true,true,false,false,false,false,false,false,false,false,false,false] HT_.out ?_;refine Qq (i:=3) (N:=some 42) #[false,true,true,true,false,false,false,false,false,false,false,false,false] HT_.out ?_;refine Qq (i:=5) (N:=some 44) #[false,true,true,true,false,true,false,false,false,false,false,false,false] HT_.out ?_;refine Qq (i:=8) (N:=some 47) #[false,true,true,true,false,true,false,false,true,false,false,false,false] HT_.out ?_;refine Qq (i:=9) (N:=some 48) #[false,true,true,true,false,true,false,false,true,true,false,false,false] HT_.out ?_;refine Qq (i:=10) (N:=some 49) #[false,true,true,true,false,true,false,false,true,true,true,false,false] HT_.out ?_;refine join_ (σ:=Value × Value × Value) 3 #[true,true,true,true,true,true,true,false,true,true,true,false,false] (fun s_=> [(39,s_.1),(43,s_.2.1),(45,s_.2.2)]) (fun s_ w'=>(Kd.R Kd.string 9 w' w.heap.size (fun k_=>some k_≠(s_.2.2:Value).ownBlock) s_.2.1 y354)∧(Kd.R Kd.string 9 w' w.heap.size (fun k_=>some k_≠(s_.2.1:Value).ownBlock) s_.2.2 y357)∧(Below w.heap.size w w')) ?_ ?_;rotate_left
          ·intro hCont
           refine two_ (i:=0) (j:=6) (Ni:=some 39) (Nj:=some 45) #[true,true,true,true,false,true,false,false,true,true,true,false,false] #[false,true,true,true,false,true,true,false,true,true,true,false,false] rfl rfl rfl rfl (two_of HT_.out (by kernel_rfl)) (by decide) (by decide) (fun K hK=> ?_) (fun K hK=> ?_)
           ·skip
            refine Kd.R_lit_step Kd.string _ 9 ?hg (N:=39) ?hd (xs:=([]:List ByteArray)) (inner:= []) (ok:=fun _=>True) (okp:=fun _=>True) ?hr ?hp (fun _ hk=>hk) trivial (Below.refl _ _) (Nat.le_refl _) (by simp) ?_;(case hd=>rfl);(case hg=>rfl);(case hr=>exact Qm);(case hp=>exact (Reps.none _ _));intro v351 w40 ho41 hb hg_ hnew_;clear hg_ hnew_
            (first|rw [←Ny350.out] at ho41|(simp only [Int.reduceToNat] at ho41;rw [←Ny350.out] at ho41))
            have n0_:=zA.mk (Kd.R_lower ho41 (zD Qc));have n1_:=zA.mk (zF Qc hb);clear HB;have HO352:=n0_;have HB:=n1_;clear n0_ n1_ hb ho41;refine hK.out _ _ trivial (fun hHeld=> ?_);clear hK K;refine yu (a':= ?_) ?_ ?_;rotate_left
            ·show Act.put _ (some 39) _=_
             simp only [Act.put,List.setIfInBounds_toArray,List.set_cons_zero,List.set_cons_succ,yl,yq]
             rfl
            refine two_ (i:=4) (j:=6) (Ni:=some 43) (Nj:=some 45) #[true,true,true,true,true,true,false,false,true,true,true,false,false] #[true,true,true,true,false,true,true,false,true,true,true,false,false] rfl rfl rfl rfl (two_of HT_.out (by kernel_rfl)) (by decide) (by decide) (fun K hK=> ?_) (fun K hK=> ?_)
            ·skip
             refine Kd.R_append_rows_step Kd.string (w0:=w) w.heap.size (by rfl) (.tmp 39) (.tmp 42) 43 9 (.string ⟨#[]⟩) 16 rfl Tryz.underlying43 YM rfl (by decide) (by omega) v351 y350 (l0.take (x5_1:Int).toNat) _ _ _ (fun _=>True) (fun _=>False) rfl rfl ?aO ?aR (fun _ _ h=>h) (fun _ h=>h.elim) ?aF ?aB ?aS ?aL ?_
             (case aR=>first|(refine YK (Zf:(l0.take (x5_1:Int).toNat).length=x5_1.toNat) ?_;repeat (first|exact (Kd.C_below HR353.out HB.out)|(with_reducible refine Kd.C_alloc ?_ _)|(with_reducible refine Kd.C_drewN ?_ _)|(with_reducible refine Kd.C_drew ?_)))|(repeat (first|exact (Kd.C_below HR353.out HB.out)|(with_reducible refine Kd.C_alloc ?_ _)|(with_reducible refine Kd.C_drewN ?_ _)|(with_reducible refine Kd.C_drew ?_))))
             (case aB=>exact Qc)
             (case aF=>exact (fun _ _=>trivial))
             (case aO=>exact (Qh HO352))
             (case aS=>exact (zD Qc))
             (case aL=>have:=LMc32.out;have hlx_:=(show (l0.take (x5_1:Int).toNat).length=x5_1.toNat from Zf);omega)
             intro v355 w42 ho hb hg hat
             rw [←Ny354.out] at ho;have n0_:=zA.mk (hb);have n1_:=zA.mk (ho);clear HB HO352;have HB:=n0_;have HO356:=n1_
             clear n0_ n1_ ho hb hg hat
             refine hK.out _ _ trivial (fun hHeld=> ?_);clear hK K;refine yu (a':= ?_) ?_ ?_;rotate_left
             ·show Act.put _ (some 43) _=_
              simp only [Act.put,List.setIfInBounds_toArray,List.set_cons_zero,List.set_cons_succ,yl,yq]
              rfl
             refine one_ (i:=6) (N:=some 45) #[true,true,true,true,true,true,true,false,true,true,true,false,false] rfl rfl (yr HT_.out (by kernel_rfl)) (by decide) (fun K hK=> ?_);refine Kd.R_lit_step Kd.string _ 9 ?hg (N:=45) ?hd (xs:=([a1]:List ByteArray)) (inner:= [.string a1]) (ok:=fun _=>True) (okp:=fun _=>True) ?hr ?hp (fun _ hk=>hk) trivial (Below.refl _ _) (Nat.le_refl _) (by simp) ?_;(case hd=>rfl);(case hg=>rfl);(case hr=>exact Qm);(case hp=>exact (Reps.one (show Kd.M Kd.string _ _ _ a1 [.string a1] from rfl) (Reps.none _ _)));intro v358 w43 ho44 hb hg_ hnew_;clear hg_ hnew_
             (first|rw [←Ny357.out] at ho44|(simp only [Int.reduceToNat] at ho44;rw [←Ny357.out] at ho44))
             have n0_:=zA.mk (Kd.R_elder' (Qh HO356) (Kd.R_base ho44) hb);have n1_:=zA.mk (Kd.R_lower (Kd.R_new' ho44 (Kd.R_lt (Qh HO356))) (zD Qc));have n2_:=zA.mk (zF Qc hb);clear HO356 HB;have HO356:=n0_;have HO359:=n1_;have HB:=n2_;clear n0_ n1_ n2_ hb ho44;refine hK.out _ _ trivial (fun hHeld=> ?_);clear hK K;refine yu (a':= ?_) ?_ ?_;rotate_left
             ·show Act.put _ (some 45) _=_
              simp only [Act.put,List.setIfInBounds_toArray,List.set_cons_zero,List.set_cons_succ,yl,yq]
              rfl
             exact yu Zd (hCont (v351,v355,v358) _ ⟨(by (with_reducible repeat (first|apply Kd.R_alloc|apply Kd.R_drewN|apply Kd.R_drew));exact Kd.R_mono HO356.out (fun _ hk=>hk.2)),Zb,Qc⟩)
            ·skip
             refine Kd.R_lit_step Kd.string _ 9 ?hg (N:=45) ?hd (xs:=([a1]:List ByteArray)) (inner:= [.string a1]) (ok:=fun _=>True) (okp:=fun _=>True) ?hr ?hp (fun _ hk=>hk) trivial (Below.refl _ _) (Nat.le_refl _) (by simp) ?_;(case hd=>rfl);(case hg=>rfl);(case hr=>exact Qm);(case hp=>exact (Reps.one (show Kd.M Kd.string _ _ _ a1 [.string a1] from rfl) (Reps.none _ _)));intro v358 w42 ho43 hb hg_ hnew_;clear hg_ hnew_
             (first|rw [←Ny357.out] at ho43|(simp only [Int.reduceToNat] at ho43;rw [←Ny357.out] at ho43))
             have n0_:=zA.mk (Kd.R_elder' (Qh HO352) (Kd.R_base ho43) hb);have n1_:=zA.mk (Kd.R_lower (Kd.R_new' ho43 (Kd.R_lt (Qh HO352))) (zD Qc));have n2_:=zA.mk (zF Qc hb);clear HO352 HB;have HO352:=n0_;have HO359:=n1_;have HB:=n2_;clear n0_ n1_ n2_ hb ho43;refine hK.out _ _ trivial (fun hHeld=> ?_);clear hK K;refine yu (a':= ?_) ?_ ?_;rotate_left
             ·show Act.put _ (some 45) _=_
              simp only [Act.put,List.setIfInBounds_toArray,List.set_cons_zero,List.set_cons_succ,yl,yq]
              rfl
             refine one_ (i:=4) (N:=some 43) #[true,true,true,true,true,true,true,false,true,true,true,false,false] rfl rfl (yr HT_.out (by kernel_rfl)) (by decide) (fun K hK=> ?_);refine Kd.R_append_rows_step Kd.string (w0:=w) w.heap.size (by rfl) (.tmp 39) (.tmp 42) 43 9 (.string ⟨#[]⟩) 16 rfl Tryz.underlying43 YM rfl (by decide) (by omega) v351 y350 (l0.take (x5_1:Int).toNat) _ _ _ (fun k_=>some k_≠(v358:Value).ownBlock) (fun _=>False) rfl rfl ?aO ?aR (fun _ _ h=>h) (fun _ h=>h.elim) ?aF ?aB ?aS ?aL ?_
             (case aR=>first|(refine YK (Zf:(l0.take (x5_1:Int).toNat).length=x5_1.toNat) ?_;repeat (first|exact (Kd.C_below HR353.out HB.out)|(with_reducible refine Kd.C_alloc ?_ _)|(with_reducible refine Kd.C_drewN ?_ _)|(with_reducible refine Kd.C_drew ?_)))|(repeat (first|exact (Kd.C_below HR353.out HB.out)|(with_reducible refine Kd.C_alloc ?_ _)|(with_reducible refine Kd.C_drewN ?_ _)|(with_reducible refine Kd.C_drew ?_))))
             (case aB=>exact Qc)
             (case aF=>exact (fun k_ hk=>Kd.fresh' (Kd.R_lt (Qh HO359)) k_ hk))
             (case aO=>exact Zc)
             (case aS=>exact (zD Qc))
             (case aL=>have:=LMc32.out;have hlx_:=(show (l0.take (x5_1:Int).toNat).length=x5_1.toNat from Zf);omega)
             intro v355 w44 ho hb hg hat
             rw [←Ny354.out] at ho;have n0_:=zA.mk (Kd.R_after (ok:=(fun _=>True)) (Qh HO359) hg hat);have n1_:=zA.mk (hb);have n2_:=zA.mk (ho);clear HO359 HB HO352;have HO359:=n0_;have HB:=n1_;have HO356:=n2_
             clear n0_ n1_ n2_ ho hb hg hat
             refine hK.out _ _ trivial (fun hHeld=> ?_);clear hK K;refine yu (a':= ?_) ?_ ?_;rotate_left
             ·show Act.put _ (some 43) _=_
              simp only [Act.put,List.setIfInBounds_toArray,List.set_cons_zero,List.set_cons_succ,yl,yq]
              rfl
             exact yu Zd (hCont (v351,v355,v358) _ ⟨(Qh HO356),Zb,Qc⟩)
           ·skip
            refine Kd.R_lit_step Kd.string _ 9 ?hg (N:=45) ?hd (xs:=([a1]:List ByteArray)) (inner:= [.string a1]) (ok:=fun _=>True) (okp:=fun _=>True) ?hr ?hp (fun _ hk=>hk) trivial (Below.refl _ _) (Nat.le_refl _) (by simp) ?_;(case hd=>rfl);(case hg=>rfl);(case hr=>exact Qm);(case hp=>exact (Reps.one (show Kd.M Kd.string _ _ _ a1 [.string a1] from rfl) (Reps.none _ _)));intro v358 w40 ho41 hb hg_ hnew_;clear hg_ hnew_
            (first|rw [←Ny357.out] at ho41|(simp only [Int.reduceToNat] at ho41;rw [←Ny357.out] at ho41))
            have n0_:=zA.mk (Kd.R_lower ho41 (zD Qc));have n1_:=zA.mk (zF Qc hb);clear HB;have HO359:=n0_;have HB:=n1_;clear n0_ n1_ hb ho41;refine hK.out _ _ trivial (fun hHeld=> ?_);clear hK K;refine yu (a':= ?_) ?_ ?_;rotate_left
            ·show Act.put _ (some 45) _=_
             simp only [Act.put,List.setIfInBounds_toArray,List.set_cons_zero,List.set_cons_succ,yl,yq]
             rfl
            refine one_ (i:=0) (N:=some 39) #[true,true,true,true,false,true,true,false,true,true,true,false,false] rfl rfl (yr HT_.out (by kernel_rfl)) (by decide) (fun K hK=> ?_);refine Kd.R_lit_step Kd.string _ 9 ?hg (N:=39) ?hd (xs:=([]:List ByteArray)) (inner:= []) (ok:=fun _=>True) (okp:=fun _=>True) ?hr ?hp (fun _ hk=>hk) trivial (Below.refl _ _) (Nat.le_refl _) (by simp) ?_;(case hd=>rfl);(case hg=>rfl);(case hr=>exact Qm);(case hp=>exact (Reps.none _ _));intro v351 w42 ho43 hb hg_ hnew_;clear hg_ hnew_
            (first|rw [←Ny350.out] at ho43|(simp only [Int.reduceToNat] at ho43;rw [←Ny350.out] at ho43))
            have n0_:=zA.mk (Kd.R_elder' (Qh HO359) (Kd.R_base ho43) hb);have n1_:=zA.mk (Kd.R_lower (Kd.R_new' ho43 (Kd.R_lt (Qh HO359))) (zD Qc));have n2_:=zA.mk (zF Qc hb);clear HO359 HB;have HO359:=n0_;have HO352:=n1_;have HB:=n2_;clear n0_ n1_ n2_ hb ho43;refine hK.out _ _ trivial (fun hHeld=> ?_);clear hK K;refine yu (a':= ?_) ?_ ?_;rotate_left
            ·show Act.put _ (some 39) _=_
             simp only [Act.put,List.setIfInBounds_toArray,List.set_cons_zero,List.set_cons_succ,yl,yq]
             rfl
            refine one_ (i:=4) (N:=some 43) #[true,true,true,true,true,true,true,false,true,true,true,false,false] rfl rfl (yr HT_.out (by kernel_rfl)) (by decide) (fun K hK=> ?_);refine Kd.R_append_rows_step Kd.string (w0:=w) w.heap.size (by rfl) (.tmp 39) (.tmp 42) 43 9 (.string ⟨#[]⟩) 16 rfl Tryz.underlying43 YM rfl (by decide) (by omega) v351 y350 (l0.take (x5_1:Int).toNat) _ _ _ (fun k_=>some k_≠(v358:Value).ownBlock) (fun _=>False) rfl rfl ?aO ?aR (fun _ _ h=>h) (fun _ h=>h.elim) ?aF ?aB ?aS ?aL ?_
            (case aR=>first|(refine YK (Zf:(l0.take (x5_1:Int).toNat).length=x5_1.toNat) ?_;repeat (first|exact (Kd.C_below HR353.out HB.out)|(with_reducible refine Kd.C_alloc ?_ _)|(with_reducible refine Kd.C_drewN ?_ _)|(with_reducible refine Kd.C_drew ?_)))|(repeat (first|exact (Kd.C_below HR353.out HB.out)|(with_reducible refine Kd.C_alloc ?_ _)|(with_reducible refine Kd.C_drewN ?_ _)|(with_reducible refine Kd.C_drew ?_))))
            (case aB=>exact Qc)
            (case aF=>exact (fun k_ hk=>Kd.fresh' (Kd.R_lt (Qh HO359)) k_ hk))
            (case aO=>exact Zc)
            (case aS=>exact (zD Qc))
            (case aL=>have:=LMc32.out;have hlx_:=(show (l0.take (x5_1:Int).toNat).length=x5_1.toNat from Zf);omega)
            intro v355 w44 ho hb hg hat
            rw [←Ny354.out] at ho;have n0_:=zA.mk (Kd.R_after (ok:=(fun _=>True)) (Qh HO359) hg hat);have n1_:=zA.mk (hb);have n2_:=zA.mk (ho);clear HO359 HB HO352;have HO359:=n0_;have HB:=n1_;have HO356:=n2_
            clear n0_ n1_ n2_ ho hb hg hat
            refine hK.out _ _ trivial (fun hHeld=> ?_);clear hK K;refine yu (a':= ?_) ?_ ?_;rotate_left
            ·show Act.put _ (some 43) _=_
             simp only [Act.put,List.setIfInBounds_toArray,List.set_cons_zero,List.set_cons_succ,yl,yq]
             rfl
            exact yu Zd (hCont (v351,v355,v358) _ ⟨(Qh HO356),Zb,Qc⟩)
          rintro ⟨v351,v355,v358⟩ w45 ⟨h0_,h1_,h2_⟩;have n0_:zA (Kd.R Kd.string 9 w45 w.heap.size (fun k_=>some k_≠(v358:Value).ownBlock) v355 y354):=⟨h0_⟩;have n1_:zA (Kd.R Kd.string 9 w45 w.heap.size (fun k_=>some k_≠(v355:Value).ownBlock) v358 y357):=⟨h1_⟩;have n2_:zA (Below w.heap.size w w45):=⟨h2_⟩;clear HB h0_ h1_ h2_;have HO356:=n0_;have HO359:=n1_;have HB:=n2_;clear n0_ n1_ n2_;have hHeld:=trivial;obtain ⟨Ao47,co47,eo47⟩:=Kd.R_slice HO359.out
          (first|subst eo47|(injection eo47 with f1_ f2_ f3_;have f4_:=f1_.symm;have f5_:=f3_.symm;clear f1_ f2_ f3_;subst f4_;subst f5_))
          refine yu (a':= ?_) ?_ ?_;rotate_left
          ·simp only [YP,Act.put,List.setIfInBounds_toArray,List.set_cons_zero,List.set_cons_succ]
           rfl
          refine one_ (i:=7) (N:=some 46) #[true,true,true,true,true,true,true,true,true,true,true,false,false] rfl rfl (yr HT_.out (by kernel_rfl)) (by decide) (fun K hK=> ?_);refine Kd.R_append_rows_step Kd.string (w0:=w) w.heap.size (by rfl) (.tmp 43) (.tmp 45) 43 9 (.string ⟨#[]⟩) 16 rfl Tryz.underlying43 YM rfl (by decide) (by omega) v355 y354 y357 _ _ _ (fun k_=>some k_≠(.slice Ao47 y357.length co47:Value).ownBlock) (fun _=>False) rfl rfl ?aO ?aR (fun _ _ h=>h) (fun _ h=>h.elim) ?aF ?aB ?aS ?aL ?_
          (case aR=>exact Qo ((Kd.R_reads' HO359.out).2.2))
          (case aB=>exact Qc)
          (case aF=>exact (fun k_ hk=>Kd.fresh' (Kd.R_lt (Qh HO359)) k_ hk))
          (case aO=>exact (Qh HO356))
          (case aS=>exact (zD Qc))
          (case aL=>have:=LMc33.out;omega)
          intro v361 w46 ho hb hg hat
          rw [←Ny360.out] at ho;have n0_:=zA.mk (Kd.R_after (ok:=(fun _=>True)) (by (with_reducible repeat (first|apply Kd.R_alloc|apply Kd.R_drewN|apply Kd.R_drew));exact Kd.R_mono HO359.out (fun _ hk=>⟨trivial,hk⟩)) hg hat);have n1_:=zA.mk (hb);have n2_:=zA.mk (ho);clear HO359 HB HO356;have HO359:=n0_;have HB:=n1_;have HO362:=n2_
          clear n0_ n1_ n2_ ho hb hg hat
          refine hK.out _ _ trivial (fun hHeld=> ?_);clear hK K;refine yu (a':= ?_) ?_ ?_;rotate_left
          ·show Act.put _ (some 46) _=_
           simp only [Act.put,List.setIfInBounds_toArray,List.set_cons_zero,List.set_cons_succ,yl,yq]
           rfl
          refine one_ (i:=11) (N:=some 50) #[true,true,true,true,true,true,true,true,true,true,true,true,false] rfl rfl (yr HT_.out (by kernel_rfl)) (by decide) (fun K hK=> ?_);refine Kd.R_append_rows_step Kd.string (w0:=w) w.heap.size (by rfl) (.tmp 46) (.tmp 49) 43 9 (.string ⟨#[]⟩) 16 rfl Tryz.underlying43 YM rfl (by decide) (by omega) v361 y360 (l0.drop (x5_1:Int).toNat) _ _ _ (fun k_=>some k_≠(.slice Ao47 y357.length co47:Value).ownBlock) (fun _=>False) rfl rfl ?aO ?aR (fun _ _ h=>h) (fun _ h=>h.elim) ?aF ?aB ?aS ?aL ?_
          (case aR=>first|(refine YK (List.length_drop:(l0.drop (x5_1:Int).toNat).length=(l0.length - x5_1.toNat)) ?_;repeat (first|exact (Kd.C_below HR363.out HB.out)|(with_reducible refine Kd.C_alloc ?_ _)|(with_reducible refine Kd.C_drewN ?_ _)|(with_reducible refine Kd.C_drew ?_)))|(repeat (first|exact (Kd.C_below HR363.out HB.out)|(with_reducible refine Kd.C_alloc ?_ _)|(with_reducible refine Kd.C_drewN ?_ _)|(with_reducible refine Kd.C_drew ?_))))
          (case aB=>exact Qc)
          (case aF=>exact (fun k_ hk=>Kd.fresh' (Kd.R_lt (Qh HO359)) k_ hk))
          (case aO=>exact (Qh HO362))
          (case aS=>exact (zD Qc))
          (case aL=>have:=LMc36.out;have hlx_:=(show (l0.drop (x5_1:Int).toNat).length=(l0.length - x5_1.toNat) from List.length_drop);omega)
          intro v365 w48 ho hb hg hat
          rw [←Ny364.out] at ho;have n0_:=zA.mk (Kd.R_after (ok:=(fun _=>True)) (Qh HO359) hg hat);have n1_:=zA.mk (hb);have n2_:=zA.mk (ho);clear HO359 HB HO362;have HO359:=n0_;have HB:=n1_;have HO366:=n2_
          clear n0_ n1_ n2_ ho hb hg hat
          refine hK.out _ _ trivial (fun hHeld=> ?_);clear hK K;refine yu (a':= ?_) ?_ ?_;rotate_left
          ·show Act.put _ (some 50) _=_
           simp only [Act.put,List.setIfInBounds_toArray,List.set_cons_zero,List.set_cons_succ,yl,yq]
           rfl
          refine Qq (i:=12) (N:=some 4) #[true,true,true,true,true,true,true,true,true,true,true,true,true] HT_.out ?_;refine YS (Zq HT_.out (by kernel_rfl)) ?_
          try go_wp2
          go_ret
          exact ⟨_,by first|rfl|(simp [zR,zS] <;> rfl)|(simp [*,zR,zS] <;> rfl), .inr (by (with_reducible repeat (first|apply Kd.R_alloc|apply Kd.R_drewN|apply Kd.R_drew));exact Kd.R_mono HO366.out (fun _ hk=>trivial)),by repeat (first|(with_reducible first|exact HB.out|apply zE|apply zC|apply zG)|exact HB.out)⟩
         ·rw [if_neg c36] at H
          exact absurd H (by simp)
        ·rw [if_neg c33] at H
         exact absurd H (by simp)
       ·rw [if_neg c32] at H
        exact absurd H (by simp)
      ·rw [if_neg c31] at H
       exact absurd H (by simp)
     ·rw [if_neg c30] at H
      exact absurd H (by simp)
theorem zh.own {w':World} {base B:Nat} {ok:Nat→Prop} {A0:Option Addr} {c0:Nat} {l0 r:List ByteArray} {v0_:Value} (h:v0_= .slice A0 l0.length c0∧r=l0∨Kd.R Kd.string 9 w' B (fun _=>True) v0_ r)
  (ho:Kd.R Kd.string 9 w' base ok (.slice A0 l0.length c0) l0) (hb:base≤B):Kd.R Kd.string 9 w' base (fun _=>True) v0_ r:=by
 rcases h with ⟨rfl,rfl⟩|h
 ·exact Kd.R_mono ho (fun _ _=>trivial)
 ·exact Kd.R_lower h hb
end Go.Proofs.YtpfeebmfihgelaaGreat.HGuessPicks
