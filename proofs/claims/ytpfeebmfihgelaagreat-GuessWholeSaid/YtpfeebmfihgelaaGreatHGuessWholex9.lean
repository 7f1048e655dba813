-- Written by plus.py for this claim.
import Derived.Test.YtpfeebmfihgelaaGreatSGuessWholeVZip
import Derived.Test.YtpfeebmfihgelaaGreatHGuessWholex0
import Derived.Test.YtpfeebmfihgelaaGreatHGuessWholex4
import Derived.Test.YtpfeebmfihgelaaGreatHGuessWholex6
import Derived.Test.YtpfeebmfihgelaaGreatHGuessWholex8
namespace Go.Proofs.YtpfeebmfihgelaaGreat.HGuessWhole
open Go.RowKit Go.Proofs.YtpfeebmfihgelaaGreatW.PrintWords Go.Proofs.YtpfeebmfihgelaaGreatW.PrintLast Go.Proofs.YtpfeebmfihgelaaGreatW.PrintMore
attribute [local go_sem] ym yn ZG ZH yd ye yo yp   -- for this text's walks alone
set_option linter.unusedVariables false
set_option maxHeartbeats 8000000
set_option maxRecDepth 100000
set_option linter.unusedSimpArgs false
theorem zw.grow_calls (k:Nat) (gq gb gs n cap:Nat) (kk:Int) (sets:List (List ByteArray)) (x:S80) (Ax:Option Addr) (cx:Nat) (c j:List ByteArray) (w0 w:World)
  (hb:Below w0.heap.size w0 w) (hq:w.cell? ⟨gq,0,none⟩=some (.slice (some ⟨gs,0,none⟩) n cap)) (hk:w.cell? ⟨gb,1,none⟩=some (.int .i64 kk)) (hqs:gq≠gs) (hbs:gb≠gs) (hge:w0.heap.size≤gs)
  (hS:Kd.S (Kd.slice 9 Kd.string) 43 w w0.heap.size (fun _=>True) (.slice (some ⟨gs,0,none⟩) n cap) sets) (hx:Kd.C Kd.string w Ax x.f2.length x.f2) (hxc:x.f2.length≤cx)
  (h0:0≤x.f0∧x.f0 < (sets.length:Int)) (h1:0≤x.f1∧x.f1 < (sets.length:Int)) (hc:zi.f k x.f2 (ze sets x.f1) kk=some c) (hj:yZ.f (ze sets x.f0) c=some j) :
  Calls Tryz.prog 47 #[.agg #[.int .i64 x.f0, .int .i64 x.f1, .slice Ax x.f2.length cx], .pointer (some ⟨gq,0,none⟩), .pointer (some ⟨gb,0,none⟩)] w fun e w'=>e= .returned (.tuple #[.bool (decide ((ze sets x.f0).length < j.length)), .bool (decide ((j.length:Int)≤600))])∧Kd.S (Kd.slice 9 Kd.string) 43 w' w0.heap.size (fun _=>True) (.slice (some ⟨gs,0,none⟩) n cap) (sets.set x.f0.toNat j)∧zk w w' gs none∧Below w0.heap.size w0 w':=by
 have hn:=(Kd.S_reads' hS).1;obtain ⟨ad0,A0,c0,e0,hy0,hyl0,hyr0⟩:=Zc (Kd.S_reads' hS).2.2 x.f0 h0.1 h0.2
 obtain rfl:(⟨gs,0,none⟩:Addr)=ad0:=by injection e0
 obtain ⟨ad1,A1,c1,e1,hy1,hyl1,hyr1⟩:=Zc (Kd.S_reads' hS).2.2 x.f1 h1.1 h1.2
 obtain rfl:(⟨gs,0,none⟩:Addr)=ad1:=by injection e1
 have HQ:=zA.mk hq;have HK:=zA.mk hk;have HY0:=zA.mk hy0;have HY1:=zA.mk hy1;have HYR0:=zA.mk hyr0;have HYR1:=zA.mk hyr1;have HYL0:=zA.mk hyl0;have HYL1:=zA.mk hyl1;have HX:=zA.mk hx;have HXC:=zA.mk hxc;have HS:=zA.mk hS;have HB:=zA.mk hb;have HC:=zA.mk hc;have HJ:=zA.mk hj;have HN:=zA.mk hn;have P0:=zA.mk h0.1;have Q0:=zA.mk (show x.f0 < (n:Int) by rw [hn];exact h0.2);have P1:=zA.mk h1.1;have Q1:=zA.mk (show x.f1 < (n:Int) by rw [hn];exact h1.2);have hu79:=Tryz.underlying80;clear hq hk hy0 hy1 hyr0 hyr1 hyl0 hyl1 hx hxc hS hb hc hj hn h0 h1 e0 e1
 go_enter Tryz.func47,Tryz.ntmps47
 go_wp2
 refine Plus.hide_world fun W1 hW1=> ?_
 have hb1:Below w.heap.size w W1:=by rw [←hW1.out];exact zG (Below.refl _ _) _
 have z0:W1.cell? ⟨w.heap.size,0,none⟩=some (.int .i64 x.f0):=by rw [←hW1.out];exact zO (yQ _ _) 0
 have z1:W1.cell? ⟨w.heap.size,1,none⟩=some (.int .i64 x.f1):=by rw [←hW1.out];exact zO (yQ _ _) 1
 have z2:W1.cell? ⟨w.heap.size,2,none⟩=some (.slice Ax x.f2.length cx):=by rw [←hW1.out];exact zO (yQ _ _) 2
 have y0:=(hb1.cell (ZzA _ _ HY0.out)).trans HY0.out;have y1:=(hb1.cell (ZzA _ _ HY1.out)).trans HY1.out;have kq:=(hb1.cell (ZzA _ _ HQ.out)).trans HQ.out;have kb:=(hb1.cell (ZzA _ _ HK.out)).trans HK.out
 try simp only [ZE] at y0 y1
 have p0:=eq_true P0.out;have q0:=eq_true Q0.out;have p1:=eq_true P1.out;have q1:=eq_true Q1.out;have HB1:=zA.mk hb1;have L0:=ZzA _ _ z0;have LQ:=ZzA _ _ kq;have LB:=ZzA _ _ kb;have LS:=ZzA _ _ y0;clear hb1 hW1;have HKEEP:=zA.mk (show ∀V:World,Below W1.heap.size W1 V→V.cell? ⟨gq,0,none⟩=some (.slice (some ⟨gs,0,none⟩) n cap)∧V.cell? ⟨w.heap.size,0,none⟩=some (.int .i64 x.f0)∧V.cell? ⟨w.heap.size,1,none⟩=some (.int .i64 x.f1)∧V.cell? ⟨w.heap.size,2,none⟩=some (.slice Ax x.f2.length cx)∧V.cell? ⟨gs,x.f0.toNat,none⟩=some (.slice A0 (ze sets x.f0).length c0)∧V.cell? ⟨gs,x.f1.toNat,none⟩=some (.slice A1 (ze sets x.f1).length c1)∧V.cell? ⟨gb,1,none⟩=some (.int .i64 kk) from fun V hv=>⟨(hv.cell LQ).trans kq,(hv.cell L0).trans z0,(hv.cell (ZzA _ _ z1)).trans z1,(hv.cell (ZzA _ _ z2)).trans z2,(hv.cell LS).trans y0,(hv.cell (ZzA _ _ y1)).trans y1,(hv.cell LB).trans kb⟩);clear L0 LQ LB LS
 go_region_held3 (fun V=>V.cell? ⟨gq,0,none⟩=some (.slice (some ⟨gs,0,none⟩) n cap)∧V.cell? ⟨w.heap.size,0,none⟩=some (.int .i64 x.f0)∧V.cell? ⟨w.heap.size,1,none⟩=some (.int .i64 x.f1)∧V.cell? ⟨w.heap.size,2,none⟩=some (.slice Ax x.f2.length cx)∧V.cell? ⟨gs,x.f0.toNat,none⟩=some (.slice A0 (ze sets x.f0).length c0)∧V.cell? ⟨gs,x.f1.toNat,none⟩=some (.slice A1 (ze sets x.f1).length c1)∧V.cell? ⟨gb,1,none⟩=some (.int .i64 kk))
  (first|go_keep|exact HKEEP.out _ hb7|exact HKEEP.out _ hb8)
  (first
   | (go_at_call 32;refine (zi.calls k Ax cx x.f2 A1 c1 (ze sets x.f1) kk c _ (Kd.C_drew (Kd.C_below HX.out HB1.out)) HXC.out (Kd.C_drew (Kd.C_below HYR1.out HB1.out)) HYL1.out HC.out).mono ?_;rintro e w7 ⟨v7,rfl,hR7,hb7⟩;replace hb7:Below W1.heap.size W1 w7:=zD (zI (Below.refl W1.heap.size W1)) hb7;obtain ⟨A7,c7,e7⟩:=Kd.R_slice hR7;subst e7)
   | (go_at_call 48;refine (yZ.calls A0 c0 (ze sets x.f0) A7 c7 c j w7 (Kd.C_below (Kd.C_below HYR0.out HB1.out) hb7) HYL0.out (Kd.R_reads' hR7).2.2 (Kd.R_reads' hR7).2.1 HJ.out).mono ?_;rintro e w8 ⟨v8,rfl,hR8,hb8⟩;replace hb8:Below W1.heap.size W1 w8:=zD hb7 hb8;obtain ⟨A8,c8,e8⟩:=Kd.R_slice hR8;subst e8))
 obtain ⟨kq8,z08,z18,z28,y08,y18,kb8⟩:=HKEEP.out _ hb8;have HB8:=zA.mk hb8;have hge2:w0.heap.size≤W1.heap.size:=Nat.le_trans HB.out.size HB1.out.size;have hput:=zW.put_row (W0:=W1) hge2 (Kd.S_below HS.out HB1.out) hb8 (Kd.R_lower hR8 hb7.size) x.f0 P0.out Q0.out;have hfz:=(zW.put_ok (Kd.S_below (Kd.S_below HS.out HB1.out) hb8) x.f0 P0.out Q0.out).1;have HP1:=zA.mk hput.1;have HP2:=zA.mk hput.2;have HQ8:=zA.mk (zk.of_below (zD HB1.out hb8) gs none);have HW8:=zA.mk (zD HB.out (zD HB1.out hb8));clear hb7 hb8 hR7 hR8 kq z0 z1 z2 y0 y1 kb HKEEP hput hge2
 go_wp2
 go_ret2
 exact ⟨rfl,HP1.out,zk.trans HQ8.out ⟨HP2.out.size,fun i hi hg _=>HP2.out.block i hi (fun e=>hg (Option.some.inj e))⟩ (.inl rfl),zK HW8.out hge⟩
def zw.round (k:Nat) (kk:Int):List S80→List (List ByteArray)→Bool→Option (List (List ByteArray) × Bool × Bool)
 | [],sets,more=>some (sets,more,true)
 | x :: xs,sets,more=>if (0≤x.f0∧x.f0 < (sets.length:Int))∧(0≤x.f1∧x.f1 < (sets.length:Int)) then (zi.f k x.f2 (ze sets x.f1) kk).bind fun c=>(yZ.f (ze sets x.f0) c).bind fun j=>if (j.length:Int)≤600 then zw.round k kk xs (sets.set x.f0.toNat j) (more || decide ((ze sets x.f0).length < j.length)) else some ([],false,false) else none
def zw.loop (k:Nat) (kk:Int) (xs:List S80):Nat→List (List ByteArray)→Option (Option (List (List ByteArray)))
 | 0,_=>none
 | q + 1,sets=>(zw.round k kk xs sets false).bind fun x=>if x.2.2=false then some none else if x.2.1=false then some (some x.1) else zw.loop k kk xs q x.1
def zw.f (k:Nat) (a0_0 a0_1:Int) (l0_2:List Int) (va:List S42):Option (List (List ByteArray) × Int):=
 (zj.f k a0_0 a0_1 l0_2 va).bind fun x=>if x.2=0 then (if 0 < l0_2.length∧l0_2.length≤1000000∧x.1.length≤1000000000 then (strings_Repeat.f (⟨#[0]⟩:ByteArray) a0_1).bind fun z=>(zw.loop k a0_1 x.1 k ((List.replicate l0_2.length []).set 0 [z])).bind fun y=>match y with|none=>some ([],15)|some s=>some (s,0) else none) else some ([],x.2)
theorem zw.round_mono (k:Nat) (kk:Int):∀xs sets m,LeO (zw.round k kk xs sets m) (zw.round (k + 1) kk xs sets m)
 | [],_,_=>LeO.refl _
 | x :: xs,sets,m=>by
  unfold zw.round
  by_cases h0:(0≤x.f0∧x.f0 < (sets.length:Int))∧(0≤x.f1∧x.f1 < (sets.length:Int))
  ·simp only [if_pos h0]
   refine LeO.bind (zi.mono _ _ _ _) (fun c=>LeO.bind (LeO.refl _) (fun j=> ?_))
   by_cases h1:(j.length:Int)≤600
   ·simp only [if_pos h1];exact zw.round_mono k kk xs _ _
   ·simp only [if_neg h1];exact LeO.refl _
  ·simp only [if_neg h0];exact LeO.refl _
theorem zw.loop_mono (k:Nat) (kk:Int) (xs:List S80):∀q sets,LeO (zw.loop k kk xs q sets) (zw.loop (k + 1) kk xs q sets)
 | 0,_=>LeO.refl _
 | q + 1,sets=>LeO.bind (zw.round_mono k kk _ _ _) (fun x=>by
   by_cases h1:x.2.2=false
   ·simp only [if_pos h1];exact LeO.refl _
   ·simp only [if_neg h1]
    by_cases h2:x.2.1=false
    ·simp only [if_pos h2];exact LeO.refl _
    ·simp only [if_neg h2];exact zw.loop_mono k kk xs q x.1)
theorem zw.loop_mono2 (k:Nat) (kk:Int) (xs:List S80):∀q sets,LeO (zw.loop k kk xs q sets) (zw.loop k kk xs (q + 1) sets)
 | 0,_=>fun _ h=>by cases h
 | q + 1,sets=>LeO.bind (LeO.refl _) (fun x=>by
   by_cases h1:x.2.2=false
   ·simp only [if_pos h1];exact LeO.refl _
   ·simp only [if_neg h1]
    by_cases h2:x.2.1=false
    ·simp only [if_pos h2];exact LeO.refl _
    ·simp only [if_neg h2];exact zw.loop_mono2 k kk xs q x.1)
theorem zw.mono:∀a b c d k,LeO (zw.f k a b c d) (zw.f (k + 1) a b c d):=by
 intro a b c d k
 unfold zw.f
 refine LeO.bind (zj.mono _ _ _ _ _) (fun x=> ?_)
 by_cases h0:x.2=0
 ·simp only [if_pos h0]
  by_cases h1:0 < c.length∧c.length≤1000000∧x.1.length≤1000000000
  ·simp only [if_pos h1]
   exact LeO.bind (LeO.refl _) (fun z=>LeO.bind (fun r h=>zw.loop_mono2 _ _ _ _ _ _ (zw.loop_mono _ _ _ _ _ _ h)) (fun _=>LeO.refl _))
  ·simp only [if_neg h1];exact LeO.refl _
 ·simp only [if_neg h0];exact LeO.refl _
theorem zw.rd_cons {s:S80} {l:List S80} {xs:List S80} {i:Nat} (h:xs.drop i=s :: l):i < xs.length∧YY xs (i:Int)=s∧xs.drop (i + 1)=l:=by
 have hi:i < xs.length:=by
  rcases Nat.lt_or_ge i xs.length with h1|h1
  ·exact h1
  ·rw [List.drop_of_length_le h1] at h;cases h
 rw [List.drop_eq_getElem_cons hi] at h
 injection h with h1 h2
 refine ⟨hi,?_,h2⟩;rw [←h1]
 unfold YY
 simp [List.getD_eq_getElem?_getD,hi]
def zw.T5:Bool × List (List Nat × List Nat):=(true,[([],[]),([],[]),([1],[1]),([2],[2]),([3],[3]),([0,0,1,2,3,4],[0]),([5,4,3,0,1,2,3,4],[4,5])])
def zw.B5:List Nat:= [0,0,2,6,14,31,63]
theorem zw.tab5:rtab .any (qw Tryz.f29 5)=zw.T5:=by kernel_rfl
theorem zw.bits5:ZL zw.T5.2 zw.B5=true:=by kernel_rfl
theorem zw.calls (k:Nat) (a0_0 a0_1:Int) (A2:Option Addr) (c2:Nat) (l0_2:List Int) (A3:Option Addr) (c3:Nat) (va:List S42) (r1:List (List ByteArray)) (r2:Int) (w:World)
  (hr2:Kd.C (Kd.int .i64) w A2 l0_2.length l0_2) (hc2:l0_2.length≤c2) (hr3:Kd.C k42 w A3 va.length va) (hc3:va.length≤c3) (h:zw.f k a0_0 a0_1 l0_2 va=some (r1,r2)) :
  Calls Tryz.prog 29 #[.agg #[.int .i64 a0_0, .int .i64 a0_1, .slice A2 l0_2.length c2, .slice A3 va.length c3]] w fun e w'=>∃v0_:Value,e= .returned (.tuple #[v0_, .int .i64 r2])∧Kd.S (Kd.slice 9 Kd.string) 43 w' w.heap.size (fun _=>True) v0_ r1∧Below w.heap.size w w':=by
 obtain ⟨⟨x1,x2⟩,hx,ha⟩:=ZzB h;have HX:=zA.mk hx;have HR2:=zA.mk hr2;have HC2:=zA.mk hc2;have HR3:=zA.mk hr3;have HC3:=zA.mk hc3;have hu:=Tryz.underlying25;have hu79:=Tryz.underlying80
 by_cases h0:x2=0
 ·subst h0
  rw [if_pos rfl] at ha
  by_cases hs:0 < l0_2.length∧l0_2.length≤1000000∧x1.length≤1000000000
  ·rw [if_pos hs] at ha
   obtain ⟨z,hz,ha⟩:=ZzB ha;obtain ⟨y,hy,ha⟩:=ZzB ha;have HZ:=zA.mk hz;have HY:=zA.mk hy;have HA:=zA.mk ha;have HS:=zA.mk hs;clear h ha hx hz hy hs hr2 hr3 hc2 hc3
   go_enter Tryz.func29,Tryz.ntmps29
   go_wp2_with fail
   refine (zj.calls k a0_0 a0_1 A2 c2 l0_2 A3 c3 va x1 0 _ (Kd.C_alloc HR2.out _) HC2.out (Kd.C_alloc HR3.out _) HC3.out HX.out).mono ?_;rintro e w1 ⟨v1,rfl,hS1,hb1⟩;have q0:=(hb1.cell (p:=⟨w.heap.size,0,none⟩) (by simp)).trans (zO (yQ _ _) 0);have q1:=(hb1.cell (p:=⟨w.heap.size,1,none⟩) (by simp)).trans (zO (yQ _ _) 1);have q2:=(hb1.cell (p:=⟨w.heap.size,2,none⟩) (by simp)).trans (zO (yQ _ _) 2);have q3:=(hb1.cell (p:=⟨w.heap.size,3,none⟩) (by simp)).trans (zO (yQ _ _) 3);have HB1:=zA.mk (zD (zG (Below.refl w.heap.size w) _) hb1);obtain ⟨Al,cl,el⟩:=Kd.S_slice hS1;subst el;have HL:=zA.mk (Kd.S_reads' hS1).2.2;clear hb1 hS1;obtain ⟨cz,hcz⟩:∃cz,cz=madeCells (Value.slice none 0 0).cells (l0_2.length * 1):=⟨_,rfl⟩
   have hmk:=fun V=>zW.run_made V l0_2.length HS.out.2.1 cz hcz
   have HCZ:=zA.mk hcz;clear hcz
   go_wp2
   refine Plus.hide_world fun W2 hW2=> ?_
   have hb2:Below w1.heap.size w1 W2:=by rw [←hW2.out];repeat (first|exact Below.refl _ _|apply zC|apply zI|apply zG|refine zK ?_ (Nat.le_succ _))
   have hb3:Below (w1.alloc (.cells cz 43 (0,0))).heap.size (w1.alloc (.cells cz 43 (0,0))) W2:=by rw [←hW2.out];repeat (first|exact Below.refl _ _|apply zC|apply zI|apply zG|refine zK ?_ (by simp))
   have c6:W2.cell? ⟨w1.heap.size + 1,0,none⟩=some (.slice (some ⟨w1.heap.size,0,none⟩) l0_2.length l0_2.length):=by
    rw [←hW2.out,show w1.heap.size + 1=(w1.alloc (.cells cz 43 (0,0))).heap.size from by simp]
    exact zO (yQ _ _) 0
   have HS2:=zA.mk (Kd.S_below (zW.made_S w1 l0_2.length HS.out.2.1 cz HCZ.out) hb3);have c1:=(hb2.cell (ZzA _ _ q1)).trans q1;have hw2:w1.heap.size≤W2.heap.size:=hb2.size;have HB2:=zA.mk hb2;have P0:=zA.mk (show (0:Int) < (l0_2.length:Int) by have:=HS.out.1;omega);have p0:=eq_true P0.out;have p0n:=eq_true HS.out.1;have HC6:=zA.mk c6;have HC1:=zA.mk c1;have HQ1:=zA.mk q1;clear hb2 hb3 hW2 q0 q1 q2 q3 hmk HCZ c6 c1;refine YL (n:=7) (S:=fun w'=>w'.cell? ⟨w1.heap.size + 1,0,none⟩=some (.slice (some ⟨w1.heap.size,0,none⟩) l0_2.length l0_2.length)∧w'.cell? ⟨w.heap.size,1,none⟩=some (.int .i64 a0_1)) (ds:= [6]) #[false,false,false,false,false,false,false] (by kernel_rfl) rfl rfl ⟨(show W2.drew.cell? _=_ from HC6.out),(show W2.drew.cell? _=_ from HC1.out)⟩ (fun hHeld=> ?_);refine ZV zw.tab5 zw.bits5 (fun HT_ HW_=> ?_);refine Qq (i:=1) (N:=some 26) #[false,true,false,false,false,false,false] HT_.out ?_;refine Qt (i:=0) (N:=some 25) #[true,true,false,false,false,false,false] HT_.out HW_.out hHeld ?_;refine Qt (i:=2) (N:=some 27) #[true,true,true,false,false,false,false] HT_.out HW_.out hHeld ?_;refine one_ (i:=3) (N:=some 28) #[true,true,true,true,false,false,false] rfl rfl (ZD HT_.out (by kernel_rfl)) (by decide) (fun K hK=> ?_);refine qD Tryz.func46 (by kernel_rfl) rfl #[.string (⟨#[0]⟩:ByteArray), .int .i64 a0_1] (by rfl) rfl rfl (by simp only [List.map_toArray,List.map_cons,List.map_nil];rfl) ?_
   with_reducible refine (strings_Repeat.calls _ a0_1 z _ HZ.out).mono ?_
   rintro e w3 ⟨rfl,hb3⟩;refine ⟨_,rfl,?_⟩;replace hb3:Below W2.heap.size W2 w3:=zD (zI (Below.refl W2.heap.size W2)) hb3;refine hK.out _ _ ⟨(hb3.cell (ZzA _ _ HC6.out)).trans HC6.out,(hb3.cell (ZzA _ _ HC1.out)).trans HC1.out⟩ (fun hHeld=> ?_);clear hK K;refine Zh (a':= ?_) ?_ ?_;rotate_left
   ·show Act.put _ (some 28) _=_
    simp only [Act.put,List.setIfInBounds_toArray,List.set_cons_zero,List.set_cons_succ,yz,ZQ]
    rfl
   refine one_ (i:=4) (N:=some 29) #[true,true,true,true,true,false,false] rfl rfl (ZD HT_.out (by kernel_rfl)) (by decide) (fun K hK=> ?_);refine Kd.R_lit_step Kd.string (w0:=W2) W2.heap.size 9 (by rfl) rfl (xs:= [z]) (inner:= [.string z]) (ok:=fun _=>True) (okp:=fun _=>True) Qm (Reps.one (show Kd.M Kd.string _ _ _ z [.string z] from rfl) (Reps.none _ _)) (fun _ hk=>hk) trivial hb3 hb3.size (by simp) ?_;intro v4 w4 ho4 hb4 hg_ hnew_;clear hg_ hnew_;obtain ⟨A4,c4,e4⟩:=Kd.R_slice ho4;subst e4;refine hK.out _ _ ⟨(hb4.cell (ZzA _ _ HC6.out)).trans HC6.out,(hb4.cell (ZzA _ _ HC1.out)).trans HC1.out⟩ (fun hHeld=> ?_);clear hK K;refine Zh (a':= ?_) ?_ ?_;rotate_left
   ·show Act.put _ (some 29) _=_
    simp only [Act.put,List.setIfInBounds_toArray,List.set_cons_zero,List.set_cons_succ,yz,ZQ]
    rfl
   refine Qq (i:=5) (N:=some 30) #[true,true,true,true,true,true,false] HT_.out ?_;refine qx (i:=6) (N:=none) #[true,true,true,true,true,true,true] rfl rfl (ZD HT_.out (by kernel_rfl)) (by decide) (fun K hK=> ?_);have hput:=zW.put_row (W0:=W2) hw2 HS2.out hb4 ho4 0 (Int.le_refl 0) P0.out;have hfz:=(zW.put_ok (Kd.S_below HS2.out hb4) 0 (Int.le_refl 0) P0.out).1;obtain ⟨A5,c5,hcz⟩:=(zW.put_ok (Kd.S_below HS2.out hb4) 0 (Int.le_refl 0) P0.out).2
   try simp only [Int.toNat_zero] at hcz hfz
   have HP1:=zA.mk hput.1;have HP2:=zA.mk hput.2;have HB4:=zA.mk hb4;clear hput hb3 ho4;refine qc (w1:= ?_) (by rfl) rfl ?_ ?_;rotate_left
   ·go_simp
    rfl
   refine hK.out _ _ ?_;clear hK K;refine Yu (Zn HT_.out (by kernel_rfl)) ?_
   go_wp2
   refine Plus.hide_world fun W5 hW5=> ?_
   have hb5:Below w1.heap.size w1 W5:=by rw [←hW5.out];exact zK (zD HB2.out HB4.out) (Nat.le_refl _)
   have HS5:zA (Kd.S (Kd.slice 9 Kd.string) 43 W5 w1.heap.size (fun _=>True) (.slice (some ⟨w1.heap.size,0,none⟩) l0_2.length l0_2.length) ((List.replicate l0_2.length []).set 0 [z])):=⟨by rw [←hW5.out];exact HP1.out⟩
   have HC6':zA (W5.cell? ⟨w1.heap.size + 1,0,none⟩=some (.slice (some ⟨w1.heap.size,0,none⟩) l0_2.length l0_2.length)):=⟨by
    rw [←hW5.out];refine (World.cell?_setCell_far _ _ _ _ (by show w1.heap.size≠w1.heap.size + 1;omega)).trans ?_
    exact (HB4.out.cell (ZzA _ _ HC6.out)).trans HC6.out⟩
   have HC1':=zA.mk ((hb5.cell (ZzA _ _ HQ1.out)).trans HQ1.out);have HB5:=zA.mk hb5;have hwl:w.heap.size < w1.heap.size:=ZzA w1 ⟨w.heap.size,1,none⟩ HQ1.out;have hn1:=HS.out.2.2;clear hb5 hW5 HP1 HP2 HB4 hb4 HS2 hw2 HB2 HC6 HC1 HQ1 hcz hfz P0 p0 p0n
   go_loopg [8] k (fun kq v8 wr=>∃(m:Bool) (st:List (List ByteArray)),v8= .bool m∧zA (if m=true then zw.loop k a0_1 x1 kq st=some y else y=some st)∧zA (Kd.S (Kd.slice 9 Kd.string) 43 wr w1.heap.size (fun _=>True) (.slice (some ⟨w1.heap.size,0,none⟩) l0_2.length l0_2.length) st)∧zA (zk W5 wr w1.heap.size none)∧zA (Below w1.heap.size w1 wr))
   case atStart=>exact ⟨true,_,rfl,⟨by rw [if_pos rfl];exact HY.out⟩,HS5,⟨zk.refl _ _ _⟩,HB5⟩
   case round=>
    clear HS5 HB5 HY;obtain ⟨m,st,rfl,HM,HSr,HQr,HBr⟩:=hrel;cases m
    ·have hm:=HM.out
     rw [if_neg Bool.false_ne_true] at hm;subst hm;obtain ⟨rfl,rfl⟩:=Prod.mk.inj (Option.some.inj HA.out);have z6:=zW.keepc HQr.out (by omega) HC6'.out
     go_wp2
     go_ret2
     exact ⟨_,rfl,Kd.S_lower HSr.out (Nat.le_of_lt hwl),zD HB1.out HBr.out⟩
    ·cases gk with
     | zero=>exact absurd HM.out (by simp [zw.loop])
     | succ k1=>
      have hl:=HM.out;rw [if_pos rfl,zw.loop] at hl;obtain ⟨⟨st',more,ok⟩,hr,hl⟩:=ZzB hl;have HR:=zA.mk hr;have HL1:=zA.mk hl;clear hl hr HM
      go_wp2
      go_loopw [8,35] (fun v8 v35 wr=>∃(i:Nat) (st:List (List ByteArray)) (m:Bool),v8= .bool m∧v35= .int .i64 (i:Int)∧zA (i≤x1.length)∧zA (zw.round k a0_1 (x1.drop i) st m=some (st',more,ok))∧zA (Kd.S (Kd.slice 9 Kd.string) 43 wr w1.heap.size (fun _=>True) (.slice (some ⟨w1.heap.size,0,none⟩) l0_2.length l0_2.length) st)∧zA (zk W5 wr w1.heap.size none)∧zA (Below w1.heap.size w1 wr))
       (fun _ v35 _=>x1.length - (Plus.intOf v35).toNat)
      case atStart=>exact ⟨0,st,false,rfl,rfl,⟨Nat.zero_le _⟩,⟨by rw [List.drop_zero];exact HR.out⟩,HSr,HQr,HBr⟩
      case round=>
       clear HR HSr HQr HBr;obtain ⟨i,st,m,rfl,rfl,HI,HRD,HSr,HQr,HBr⟩:=hrel
       by_cases hlt:i < x1.length
       ·obtain ⟨x,xs,hd⟩:∃s l',x1.drop i=s :: l':=⟨_,_,List.drop_eq_getElem_cons hlt⟩
        obtain ⟨_,hsi,hl'⟩:=zw.rd_cons hd;have ha:=HRD.out;rw [hd,zw.round] at ha
        by_cases hbd:(0≤x.f0∧x.f0 < (st.length:Int))∧(0≤x.f1∧x.f1 < (st.length:Int))
        ·rw [if_pos hbd] at ha
         obtain ⟨c,hc,ha⟩:=ZzB ha;obtain ⟨j,hj,ha⟩:=ZzB ha;have HC:=zA.mk hc;have HJ:=zA.mk hj;have HRA:=zA.mk ha;have HD:=zA.mk hl';have HBD:=zA.mk hbd;have c0b:decide ((i:Int) < (x1.length:Int))=true:=decide_eq_true (by omega)
         have p1:0≤(i:Int):=by omega
         have q1:(i:Int) < (x1.length:Int):=by omega
         obtain ⟨ad,Ax,cx,e1,hx0,hx1,hx2,hl2,hi2⟩:=at_T80 HL.out (i:Int) p1 q1;rw [hsi] at hx0 hx1 hx2 hl2 hi2;cases e1;rw [Int.toNat_natCast] at hx0 hx1 hx2;replace hx0:=Qp HBr hx0;replace hx1:=Qp HBr hx1;replace hx2:=Qp HBr hx2;have HI2:=zA.mk hi2;have HL2:=zA.mk hl2;replace p1:=eq_true p1;replace q1:=eq_true q1;clear hd ha hc hj hl' hsi hbd hi2 hl2 HRD
         go_wp2_with fail
         generalize hW':wr.alloc _=W'
         have hbW:Below wr.heap.size wr W':=hW'▸zG (Below.refl _ _) _;have z6:=zW.keepc HQr.out (by omega) HC6'.out;have z1:=zW.keepc HQr.out (by omega) HC1'.out;refine (zw.grow_calls k (w1.heap.size + 1) w.heap.size w1.heap.size l0_2.length l0_2.length a0_1 st x Ax cx c j w1 W' (zD HBr.out hbW) ((hbW.cell (ZzA _ _ z6)).trans z6) ((hbW.cell (ZzA _ _ z1)).trans z1) (by omega) (by omega) (Nat.le_refl _) (Kd.S_below HSr.out hbW) (Kd.C_below HI2.out (zD HBr.out hbW)) HL2.out HBD.out.1 HBD.out.2 HC.out HJ.out).mono ?_;rintro e w8 ⟨rfl,hS8,hQ8,hB8⟩;have HS8:=zA.mk hS8;have HQ8:=zA.mk (zk.trans (zk.trans HQr.out (zk.of_below hbW w1.heap.size none) (.inl rfl)) hQ8 (.inl rfl));have HB8:=zA.mk hB8;clear hx0 hx1 hx2 hW' hbW z6 z1 hS8 hQ8 hB8 p1 q1
         by_cases hj6:(j.length:Int)≤600
         ·have ha:=HRA.out
          rw [if_pos hj6] at ha;have HA3:=zA.mk ha;have c6:decide ((j.length:Int)≤600)=true:=decide_eq_true hj6
          have hw2:wrap64 ((i:Int) + 1)=((i + 1:Nat):Int):=by have:=hn1;unfold wrap64;omega
          clear ha hj6
          generalize decide ((ze st x.f0).length < j.length)=g at HA3⊢
          cases m
          ·go_wp2
           go_roundw
           case rel=>exact ⟨i + 1,_,_,by rfl,by first|rfl|rw [hw2],⟨hlt⟩,⟨by rw [HD.out];exact HA3.out⟩,HS8,HQ8,HB8⟩
           case measure=>simp [Plus.intOf];omega
          ·go_wp2
           go_roundw
           case rel=>exact ⟨i + 1,_,_,by rfl,by first|rfl|rw [hw2],⟨hlt⟩,⟨by rw [HD.out];exact HA3.out⟩,HS8,HQ8,HB8⟩
           case measure=>simp [Plus.intOf];omega
         ·have ha:=HRA.out
          rw [if_neg hj6] at ha;obtain ⟨rfl,hmo⟩:=Prod.mk.inj (Option.some.inj ha);obtain ⟨rfl,rfl⟩:=Prod.mk.inj hmo;have hl:=HL1.out;rw [if_pos rfl] at hl;obtain rfl:=Option.some.inj hl;obtain ⟨rfl,rfl⟩:=Prod.mk.inj (Option.some.inj HA.out);have c6:decide ((j.length:Int)≤600)=false:=decide_eq_false hj6;clear ha hmo hl hj6
          go_wp2
          go_ret2
          exact ⟨_,rfl,Kd.S_nil _ _ _ _ _,zD HB1.out HB8.out⟩
        ·rw [if_neg hbd] at ha;cases ha
       ·obtain rfl:i=x1.length:=by have:=HI.out;omega
        have ha:=HRD.out;rw [List.drop_of_length_le (Nat.le_refl _),zw.round] at ha;obtain ⟨rfl,hmo⟩:=Prod.mk.inj (Option.some.inj ha);obtain ⟨rfl,rfl⟩:=Prod.mk.inj hmo;clear ha hmo;have hl:=HL1.out;rw [if_neg (by simp)] at hl
        have HM2:zA (if m=true then zw.loop k a0_1 x1 k1 st=some y else y=some st):=⟨by
         cases m
         ·rw [if_pos rfl] at hl
          rw [if_neg (by simp)]
          exact (Option.some.inj hl).symm
         ·rw [if_neg (by simp)] at hl
          rw [if_pos rfl];exact hl⟩
        clear hl;have c0b:decide ((x1.length:Int) < (x1.length:Int))=false:=decide_eq_false (by omega)
        go_wp2
        go_roundg k1
        case measure=>omega
        case rel=>exact ⟨_,st,rfl,HM2,HSr,HQr,HBr⟩
  ·rw [if_neg hs] at ha;cases ha
 ·rw [if_neg h0] at ha
  obtain ⟨rfl,rfl⟩:=Prod.mk.inj (Option.some.inj ha);have hz:(x2 != 0)=true:=bne_iff_ne.mpr h0;have HN:=zA.mk h0;clear h ha hx hr2 hr3 hc2 hc3 h0
  go_enter Tryz.func29,Tryz.ntmps29
  go_wp2_with fail
  refine (zj.calls k a0_0 a0_1 A2 c2 l0_2 A3 c3 va x1 x2 _ (Kd.C_alloc HR2.out _) HC2.out (Kd.C_alloc HR3.out _) HC3.out HX.out).mono ?_;rintro e w1 ⟨v1,rfl,hS1,hb1⟩;have HB1:=zA.mk (zD (zG (Below.refl w.heap.size w) _) hb1);clear hb1 hS1
  go_wp2
  go_ret2
  exact ⟨_,rfl,Kd.S_nil _ _ _ _ _,HB1.out⟩
end Go.Proofs.YtpfeebmfihgelaaGreat.HGuessWhole
