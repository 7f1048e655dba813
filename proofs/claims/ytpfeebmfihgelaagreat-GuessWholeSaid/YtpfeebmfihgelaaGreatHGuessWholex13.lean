-- Written by plus.py for this claim.
import Derived.Test.YtpfeebmfihgelaaGreatSGuessWholeVZip
import Derived.Test.YtpfeebmfihgelaaGreatHGuessWholex0
import Derived.Test.YtpfeebmfihgelaaGreatHGuessWholex1
import Derived.Test.YtpfeebmfihgelaaGreatHGuessWholex11
import Derived.Test.YtpfeebmfihgelaaGreatHGuessWholex12
namespace Go.Proofs.YtpfeebmfihgelaaGreat.HGuessWhole
open Go.RowKit Go.Proofs.YtpfeebmfihgelaaGreatW.PrintWords Go.Proofs.YtpfeebmfihgelaaGreatW.PrintLast Go.Proofs.YtpfeebmfihgelaaGreatW.PrintMore
attribute [local go_sem] ym yn ZG ZH yd ye yo yp   -- for this text's walks alone
set_option linter.unusedVariables false
set_option maxHeartbeats 8000000
set_option maxRecDepth 100000
set_option linter.unusedSimpArgs false
def zR.hass (k:Nat) (all:List (List ByteArray)) (t:ByteArray):List Int→Option (List Bool)
 | []=>some []
 | p :: ps=>(ZI.f k (ze all p) t).bind fun b=>(zR.hass k all t ps).bind fun bs=>some (b :: bs)
def zR.first:List Bool→Nat→Int
 | [],_=> -1
 | b :: bs,i=>if b=true then (i:Int) else zR.first bs (i + 1)
def zR.f (k:Nat) (a0_0 a0_1:Int) (l0_2:List Int) (va:List S42) (a1:Int) (a2:ByteArray):Option (Int × Int):=
 (yB.f k a0_0 a0_1 l0_2 va).bind fun g=>if g.2=0 then (if a1 < 0∨(l0_2.length:Int)≤a1 then some (0,3) else (yL.f k a0_0 a0_1 l0_2 va a1).bind fun ps=>if ps.length≤1000000000∧(∀p ∈ ps,0≤p∧p < (g.1.length:Int)) then (zR.hass k g.1 a2 ps).bind fun hs=>some (zR.first hs 0,0) else none) else some (0,g.2)
theorem zR.hass_mono (k:Nat) (all:List (List ByteArray)) (t:ByteArray):∀ps,LeO (zR.hass k all t ps) (zR.hass (k + 1) all t ps)
 | []=>LeO.refl _
 | p :: ps=>by
  unfold zR.hass
  exact LeO.bind (ZI.mono _ _ _) (fun b=>LeO.bind (zR.hass_mono k all t ps) (fun bs=>LeO.refl _))
theorem zR.mono:∀a b c d e f k,LeO (zR.f k a b c d e f) (zR.f (k + 1) a b c d e f):=by
 intro a b c d e f k
 unfold zR.f
 refine LeO.bind (yB.mono _ _ _ _ _) (fun g=>LeO.ite ?_ (LeO.refl _));refine LeO.ite (LeO.refl _) (LeO.bind (yL.mono _ _ _ _ _ _) (fun ps=>LeO.ite (LeO.bind (zR.hass_mono k _ _ _) (fun hs=>LeO.refl _)) (LeO.refl _)))
def zR.KpC (X:Nat→Prop) (A B:World):Prop:=A.heap.size≤B.heap.size∧∀i cs t,¬X i→t≠9→A.heap[i]? =some (.cells cs t (0,0))→B.heap[i]? =some (.cells cs t (0,0))
theorem zR.KpC.refl {X:Nat→Prop} (A:World):zR.KpC X A A:=⟨Nat.le_refl _,fun _ _ _ _ _ h=>h⟩
theorem zR.KpC.trans {X:Nat→Prop} {A B C:World} (h:zR.KpC X A B) (k:zR.KpC X B C):zR.KpC X A C:=⟨Nat.le_trans h.1 k.1,fun i cs t hx ht ho=>k.2 i cs t hx ht (h.2 i cs t hx ht ho)⟩
theorem zR.KpC.b {X:Nat→Prop} (W:World) (l:Nat) (o o':Obj) (h:W.heap[l]? =some o) (ho:o.isCells=false):zR.KpC X W (W.putObj l o'):=by
 refine ⟨(grownBy_putObj' W l o').size,fun i cs t _ _ hi=> ?_⟩
 have hil:i≠l:=fun e=>by subst e;rw [h] at hi;cases hi;cases ho
 exact ((grownBy_putObj' W l o').block i (Array.getElem?_eq_some_iff.1 hi).1 (fun e=>hil (Option.some.inj e))).trans hi
theorem zR.KpC.of_below {X:Nat→Prop} {A B:World} (h:Below A.heap.size A B):zR.KpC X A B:=
 ⟨h.size,fun i _ _ _ _ hi=>(h.block i (Array.getElem?_eq_some_iff.1 hi).1).trans hi⟩
theorem zR.KpC.cell {X:Nat→Prop} {A B:World} (h:zR.KpC X A B) {a:Addr} {v:Value} {cs:Array Value} {t:TypeId} (hx:¬X a.block) (ht:t≠9) (hb:A.heap[a.block]? =some (.cells cs t (0,0))) (hc:A.cell? a=some v):B.cell? a=some v:=by
 rw [World.cell?_of_block ((h.2 _ cs t hx ht hb).trans hb.symm)];exact hc
theorem zR.keeps {A B:World} (h:Below A.heap.size A B):KeepsOthers A B:=
 ⟨h.size,fun i _ hi _=>(h.block i (Array.getElem?_eq_some_iff.1 hi).1).trans hi⟩
theorem zR.grown {A B:World} (h:Below A.heap.size A B):A.grownBy B none:=⟨h.os,h.tape,h.output,h.size,fun i hi _=>h.block i hi⟩
abbrev zR.Row (all:List (List ByteArray)) (ps:List Int) (j:Nat):List ByteArray:=ze all (ps.getD j 0)
abbrev zR.X (all:List (List ByteArray)) (ps:List Int) (w0:World):Type:= { x:Nat × Option Addr × Nat // x.1 < ps.length∧Kd.C Kd.string w0 x.2.1 (zR.Row all ps x.1).length (zR.Row all ps x.1)∧(zR.Row all ps x.1).length≤x.2.2 }
abbrev zR.encs {all:List (List ByteArray)} {ps:List Int} {w0:World} (x:zR.X all ps w0):Array Value:= #[.int .i64 (x.1.1:Int), .slice x.1.2.1 (zR.Row all ps x.1.1).length x.1.2.2]
section
attribute [local go_sem] Oper.semAt_some
theorem zR.seq (k:Nat) (a0_0 a0_1:Int) (A2:Option Addr) (c2:Nat) (l0_2:List Int) (A3:Option Addr) (c3:Nat) (va:List S42) (n:Int) (all:List (List ByteArray)) (Aa:Option Addr) (ca:Nat) (ps:List Int) (gb gn ga m:Nat) (w00 w:World) (h00:Below w00.heap.size w00 w)
  (hm:1≤m) (X:Nat→Prop) (hX:∀b,X b→b < w.heap.size) (hXa:∀ad,Aa=some ad→¬X ad.block) (hXg:¬X ga)
  (b0:w.cell? ⟨gb,0,none⟩=some (.int .i64 a0_0)) (b1:w.cell? ⟨gb,1,none⟩=some (.int .i64 a0_1)) (b2:w.cell? ⟨gb,2,none⟩=some (.slice A2 l0_2.length c2)) (b3:w.cell? ⟨gb,3,none⟩=some (.slice A3 va.length c3))
  (bn:w.cell? ⟨gn,0,none⟩=some (.int .i64 n)) (ba:w.heap[ga]? =some (.cells #[.slice Aa all.length ca] 32 (0,0))) (hty:∀ad,Aa=some ad→∃cs,w.heap[ad.block]? =some (.cells cs 43 (0,0)))
  (hr2:Kd.C (Kd.int .i64) w A2 l0_2.length l0_2) (hc2:l0_2.length≤c2) (hr3:Kd.C k42 w A3 va.length va) (hc3:va.length≤c3) (hall:Kd.C (Kd.slice 9 Kd.string) w00 Aa all.length all)
  (hP:yL.f k a0_0 a0_1 l0_2 va n=some ps) (hl:ps.length≤1000000000) (hin:∀p ∈ ps,0≤p∧p < (all.length:Int)) :
  SeqStopsK Fence.wide m Tryz.prog 34 #[.pointer (some ⟨gb,0,none⟩), .pointer (some ⟨gn,0,none⟩), .pointer (some ⟨ga,0,none⟩)] (zR.encs (all:=all) (ps:=ps) (w0:=w00)) (zR.KpC X)
   (fun xs=>xs.map (·.1.1)=List.range ps.length) (fun pre=>∃i,pre.map (·.1.1)=List.range i) ps.length w:=by
 intro l J Jx W hW hJ hJx hY h0;have z0:=(hW.cell (ZzA _ _ b0)).trans b0;have z1:=(hW.cell (ZzA _ _ b1)).trans b1;have z2:=(hW.cell (ZzA _ _ b2)).trans b2;have z3:=(hW.cell (ZzA _ _ b3)).trans b3;have zn:=(hW.cell (ZzA _ _ bn)).trans bn;have HBA:=zA.mk ba;have HALL:=zA.mk hall;have HR2:=zA.mk (Kd.C_below hr2 hW);have HR3:=zA.mk (Kd.C_below hr3 hW);have HC2:=zA.mk hc2;have HC3:=zA.mk hc3;have HP:=zA.mk hP;have HW:=zA.mk hW;have HY:=zA.mk @hY;have HJ:=zA.mk @hJ;have H0:=zA.mk h0;have HIN:=zA.mk hin;have HX:=zA.mk hX;have hu25:=Tryz.underlying25;clear b0 b1 b2 b3 bn ba hall hr2 hr3 hc2 hc3 hP hW hY hJ hJx h0 hin hX;refine callsIn_of_wp Tryz.func34 rfl trivial ?_ rfl;simp only [Tryz.ntmps34,List.size_toArray,List.length_cons,List.length_nil,Nat.reduceAdd,Nat.reduceSub,Array.replicate_succ,Array.replicate_zero,List.push_toArray,List.append_toArray,List.nil_append,List.cons_append]
 gi_wp2_with (refine ⟨trivial,?_⟩;gi_at_call 35;refine (callsIn_wide.2 (yL.calls k a0_0 a0_1 A2 c2 l0_2 A3 c3 va n ps _ HR2.out HC2.out HR3.out HC3.out HP.out)).mono ?_;rintro e w1 ⟨v1,rfl,hR1,hb1⟩;obtain ⟨Ap,cp,rfl⟩:=Kd.R_slice hR1)
 have hR:=(Kd.R_reads' hR1).2.2;have hbase:=Kd.R_base hR1;have HTY:=zA.mk (Kd.R_typed hR1);have hj1:=HJ.out [] W w1 none H0.out (zR.grown hb1) (fun r e=>by cases e);have K1:zA (zR.KpC X w w1):=⟨zR.KpC.trans (zR.KpC.of_below HW.out) (zR.KpC.of_below hb1)⟩;have HRB:=zA.mk hR;have HBS:=zA.mk hbase;have HJ1:=zA.mk hj1;have hsz:w.heap.size≤W.heap.size:=HW.out.size;clear hR hbase hj1 hR1 z0 z1 z2 z3 zn hb1
 gi_loopw [11] (fun i wr=>∃(j:Nat) (pre:List (zR.X all ps w00)),i= .int .i64 (j:Int)∧zA (j≤ps.length)∧zA (pre.map (·.1.1)=List.range j)∧zA (J pre wr)∧zA (zR.KpC X w1 wr))
  (fun i _=>ps.length - (Plus.intOf i).toNat)
 case atStart=>exact ⟨0,[],rfl,⟨Nat.zero_le _⟩,⟨rfl⟩,HJ1,⟨zR.KpC.refl _⟩⟩
 case round=>
  obtain ⟨j,pre,rfl,HJL,HPRE,HJS,HK⟩:=hrel
  by_cases hlt:j < ps.length
  ·obtain ⟨adp,hAp,hcp⟩:=Kd.at_int HRB.out (j:Int) (by omega) (by omega)
   have hmem:ps.getD j 0 ∈ ps:=by rw [List.getD_eq_getElem?_getD,List.getElem?_eq_getElem hlt];exact List.getElem_mem _
   obtain ⟨q0,q1⟩:=HIN.out _ hmem;obtain ⟨ada,A0,c0,hA,hya,hyl,hyr⟩:=Zc HALL.out (ps.getD j 0) q0 q1;replace hya:=(h00.cell (ZzA _ _ hya)).trans hya;obtain ⟨fn,tmps,assign,body,hy,hRd⟩:=HY.out pre ⟨(j,A0,c0),hlt,hyr,hyl⟩ wr HJS.out (by rw [←List.length_map (f:=(·.1.1)),HPRE.out,List.length_range];exact hlt)
   dsimp only [zR.encs] at hy
   obtain ⟨csp,hcsp⟩:=HTY.out adp.block (by rw [hAp];rfl);obtain ⟨csa,hcsa⟩:=hty ada hA;have zp:wr.cell? (adp.add j)=some (.int .i64 (ps.getD j 0)):=HK.out.cell (a:=adp.add j) (t:=3) (cs:=csp) (fun hx=>by have h1:=HX.out _ hx;have h2:=HBS.out adp.block (by rw [hAp];rfl);have h3:(adp.add j).block=adp.block:=ZU _ _;rw [h3] at h1;omega) (by decide) (by rw [ZU];exact hcsp) hcp;have kw:=zR.KpC.trans K1.out HK.out;have za:=kw.cell (a:=⟨ga,0,none⟩) (t:=32) hXg (by decide) HBA.out (zO HBA.out 0);have zr:=kw.cell (a:=ada.add (ps.getD j 0).toNat) (t:=43) (by rw [ZU];exact hXa ada hA) (by decide) (by rw [ZU];exact hcsa) hya;subst hAp;subst hA;obtain ⟨n0,hn0⟩:∃n0,n0=(zR.Row all ps j).length:=⟨_,rfl⟩;obtain ⟨p0,hp0⟩:∃p0,p0=ps.getD j 0:=⟨_,rfl⟩
   replace zr:wr.cell? (ada.add p0.toNat)=some (.slice A0 n0 c0):=by rw [hn0,hp0];exact zr
   replace zp:wr.cell? (adp.add j)=some (.int .i64 p0):=by rw [hp0];exact zp
   rw [←hn0] at hy;rw [←hp0] at q0 q1;have HRD:=zA.mk @hRd;have c0b:decide ((j:Int) < (ps.length:Int))=true:=decide_eq_true (by omega);have p1:=eq_true (show (0:Int)≤(j:Int) by omega);have p2:=eq_true (show (j:Int) < (ps.length:Int) by omega);have p3:=eq_true q0;have p4:=eq_true q1
   have hw2:wrap64 ((j:Int) + 1)=((j + 1:Nat):Int):=by unfold wrap64;omega
   have ht:((j:Int)).toNat=j:=rfl;clear hcp hmem hya kw q0 q1 hRd hn0 hp0 hcsp hcsa
   gi_wp2
   refine HRD.out.mono ?_;rintro e W3 (⟨rfl,hJ3,hk3⟩|⟨rfl,hJx3⟩)
   ·have HJ3:=zA.mk hJ3
    have HK3:=zA.mk (zR.KpC.trans HK.out hk3);clear hJ3 hk3 hy
    gi_wp2
    go_roundw
    case rel=>exact ⟨j + 1,_,by first|rfl|rw [hw2],⟨hlt⟩,⟨by rw [List.map_append,HPRE.out,List.range_succ];rfl⟩,HJ3,HK3⟩
    case measure=>simp [Plus.intOf,hw2];omega
   ·gi_wp2
    refine bodyPost_ret (results_none rfl _ _ _) rfl ?_
    exact ⟨⟨_,rfl⟩, .inr ⟨_,⟨j + 1,by rw [List.map_append,HPRE.out,List.range_succ];rfl⟩,hJx3⟩⟩
  ·obtain rfl:j=ps.length:=by have:=HJL.out;omega
   have c0b:decide ((ps.length:Int) < (ps.length:Int))=false:=decide_eq_false (by omega)
   gi_wp2
   go_end0
   exact ⟨⟨_,rfl⟩, .inl ⟨pre,HPRE.out,HJS.out⟩⟩
def zR.Asked (a0_0 a0_1:Int) (A2:Option Addr) (c2:Nat) (l0_2:List Int) (A3:Option Addr) (c3:Nat) (va:List S42) (n:Int) (all:List (List ByteArray)) (e0:Int) (w:World) (e:Ending) (w':World):Prop:=
 Below w.heap.size w w'∧
   (e0≠0→e= .returned (.tuple #[.nilFunc, .int .i64 e0]))∧(e0=0→(n < 0∨(l0_2.length:Int)≤n)→e= .returned (.tuple #[.nilFunc, .int .i64 3]))∧
   (e0=0→¬(n < 0∨(l0_2.length:Int)≤n)→∃(gb gn ga:Nat) (Aa:Option Addr) (ca:Nat),e= .returned (.tuple #[.func (.func 34) #[] #[.pointer (some ⟨gb,0,none⟩), .pointer (some ⟨gn,0,none⟩), .pointer (some ⟨ga,0,none⟩)], .int .i64 0])∧
    w'.cell? ⟨gb,0,none⟩=some (.int .i64 a0_0)∧w'.cell? ⟨gb,1,none⟩=some (.int .i64 a0_1)∧w'.cell? ⟨gb,2,none⟩=some (.slice A2 l0_2.length c2)∧w'.cell? ⟨gb,3,none⟩=some (.slice A3 va.length c3)∧w'.cell? ⟨gn,0,none⟩=some (.int .i64 n)∧w'.heap[ga]? =some (.cells #[.slice Aa all.length ca] 32 (0,0))∧(∀ad,Aa=some ad→∃cs,w'.heap[ad.block]? =some (.cells cs 43 (0,0)))∧
    Kd.C (Kd.slice 9 Kd.string) w' Aa all.length all)
theorem zR.asked (k:Nat) (a0_0 a0_1:Int) (A2:Option Addr) (c2:Nat) (l0_2:List Int) (A3:Option Addr) (c3:Nat) (va:List S42) (n:Int) (all:List (List ByteArray)) (e0:Int) (w:World)
  (hr2:Kd.C (Kd.int .i64) w A2 l0_2.length l0_2) (hc2:l0_2.length≤c2) (hr3:Kd.C k42 w A3 va.length va) (hc3:va.length≤c3) (h:yB.f k a0_0 a0_1 l0_2 va=some (all,e0)) :
  Calls Tryz.prog 17 #[.agg #[.int .i64 a0_0, .int .i64 a0_1, .slice A2 l0_2.length c2, .slice A3 va.length c3], .int .i64 n] w (zR.Asked a0_0 a0_1 A2 c2 l0_2 A3 c3 va n all e0 w):=by
 have H:=zA.mk h;have HR2:=zA.mk hr2;have HC2:=zA.mk hc2;have HR3:=zA.mk hr3;have HC3:=zA.mk hc3;have hu:=Tryz.underlying25;clear h hr2 hc2 hr3 hc3
 go_enter Tryz.func17,Tryz.ntmps17
 go_wp2_with fail
 refine (yB.calls k a0_0 a0_1 A2 c2 l0_2 A3 c3 va all e0 _ (Kd.C_below HR2.out (zG (zG (Below.refl _ _) _) _)) HC2.out (Kd.C_below HR3.out (zG (zG (Below.refl _ _) _) _)) HC3.out H.out).mono ?_;rintro e w1 ⟨v1,rfl,hN1,hb1⟩;have q0:=(hb1.cell (p:=⟨w.heap.size,0,none⟩) (by simp;omega)).trans ((zG (Below.refl (w.alloc _).heap.size (w.alloc _)) _).cell (p:=⟨w.heap.size,0,none⟩) (by simp) |>.trans (zO (yQ _ _) 0));have q1:=(hb1.cell (p:=⟨w.heap.size,1,none⟩) (by simp;omega)).trans ((zG (Below.refl (w.alloc _).heap.size (w.alloc _)) _).cell (p:=⟨w.heap.size,1,none⟩) (by simp) |>.trans (zO (yQ _ _) 1));have q2:=(hb1.cell (p:=⟨w.heap.size,2,none⟩) (by simp;omega)).trans ((zG (Below.refl (w.alloc _).heap.size (w.alloc _)) _).cell (p:=⟨w.heap.size,2,none⟩) (by simp) |>.trans (zO (yQ _ _) 2));have q3:=(hb1.cell (p:=⟨w.heap.size,3,none⟩) (by simp;omega)).trans ((zG (Below.refl (w.alloc _).heap.size (w.alloc _)) _).cell (p:=⟨w.heap.size,3,none⟩) (by simp) |>.trans (zO (yQ _ _) 3));have qn:=(hb1.cell (p:=⟨w.heap.size + 1,0,none⟩) (by simp)).trans (by have this:=zO (yQ (w.alloc (.cells #[.int .i64 a0_0, .int .i64 a0_1, .slice A2 l0_2.length c2, .slice A3 va.length c3] 25)) (.cells #[.int .i64 n] 3)) 0;simp only [World.size_alloc] at this;exact this);have HB1:=zA.mk (zD (zG (zG (Below.refl w.heap.size w) _) _) hb1);obtain ⟨Aa,ca,rfl⟩:=Kd.N_slice hN1;have HN:=zA.mk (Kd.N_reads' hN1).2.2;have HNT:=zA.mk (Kd.N_typed hN1);have hba:Below w1.heap.size w1 (w1.alloc (.cells #[.slice Aa all.length ca] 32)):=zG (Below.refl _ _) _;have g0:=(hba.cell (ZzA _ _ q0)).trans q0;have g1:=(hba.cell (ZzA _ _ q1)).trans q1;have g2:=(hba.cell (ZzA _ _ q2)).trans q2;have g3:=(hba.cell (ZzA _ _ q3)).trans q3;have gn:=(hba.cell (ZzA _ _ qn)).trans qn;have HB2:=zA.mk (zD HB1.out hba);have HN2:=zA.mk (Kd.C_below HN.out hba)
 have HT2:zA (∀ad,Aa=some ad→∃cs,(w1.alloc (.cells #[.slice Aa all.length ca] 32)).heap[ad.block]? =some (.cells cs 43 (0,0))):=⟨fun ad e=>by
  obtain ⟨cs,h⟩:=HNT.out ad.block (by rw [e];rfl)
  exact ⟨cs,zY h hba⟩⟩
 clear hN1 hb1 q0 q1 q2 q3 qn hba HN HB1 HNT
 by_cases h0:e0=0
 ·subst h0
  by_cases hn:n < 0∨(l0_2.length:Int)≤n
  ·have hn':=hn
   have P:zA (n < 0∨(l0_2.length:Int)≤n):=⟨hn⟩
   by_cases h1:n < 0
   ·have c1:decide (n < 0)=true:=decide_eq_true h1
    clear hn hn' h1
    go_wp2
    go_ret2
    unfold zR.Asked;exact ⟨HB2.out,fun h=>absurd rfl h,fun _ _=>rfl,fun _ h=>absurd P.out h⟩
   ·have c1:decide (n < 0)=false:=decide_eq_false h1
    have c2:decide ((l0_2.length:Int)≤n)=true:=decide_eq_true (hn.resolve_left h1);clear hn hn' h1
    go_wp2
    go_ret2
    unfold zR.Asked;exact ⟨HB2.out,fun h=>absurd rfl h,fun _ _=>rfl,fun _ h=>absurd P.out h⟩
  ·have P:zA (¬(n < 0∨(l0_2.length:Int)≤n)):=⟨hn⟩
   have c1:decide (n < 0)=false:=decide_eq_false (fun h=>hn (.inl h));have c2:decide ((l0_2.length:Int)≤n)=false:=decide_eq_false (fun h=>hn (.inr h));clear hn;have G0:=zA.mk g0;have G1:=zA.mk g1;have G3:=zA.mk g3
   go_wp2
   go_ret2
   unfold zR.Asked;exact ⟨HB2.out,fun h=>absurd rfl h,fun _ h=>absurd h P.out,fun _ _=>⟨_,_,_,_,_,rfl,G0.out,G1.out,g2,G3.out,gn,yQ _ _,HT2.out,HN2.out⟩⟩
 ·have c1:(e0 != 0)=true:=bne_iff_ne.mpr h0
  have P:=zA.mk h0;clear h0
  go_wp2
  go_ret2
  unfold zR.Asked;exact ⟨HB2.out,fun _=>rfl,fun h=>absurd h P.out,fun h=>absurd h P.out⟩
theorem zR.hass_get (k:Nat) (all:List (List ByteArray)) (t:ByteArray):∀(ps:List Int) (hs:List Bool),zR.hass k all t ps=some hs→hs.length=ps.length∧∀j,j < ps.length→ZI.f k (zR.Row all ps j) t=some (hs.getD j false)
 | [],hs,h=>by obtain rfl:=Option.some.inj h;exact ⟨rfl,fun j hj=>absurd hj (Nat.not_lt_zero _)⟩
 | p :: ps,hs,h=>by
  unfold zR.hass at h
  obtain ⟨b,hb,h⟩:=ZzB h;obtain ⟨bs,hbs,h⟩:=ZzB h;obtain rfl:=Option.some.inj h;obtain ⟨i1,i2⟩:=zR.hass_get k all t ps bs hbs;refine ⟨by simp [i1],fun j hj=> ?_⟩;cases j with
  | zero=>exact hb
  | succ j=>exact i2 j (by simpa using hj)
theorem zR.first_at:∀(hs:List Bool) (i j:Nat),(∀t,t < j→hs.getD t false=false)→hs.getD j false=true→zR.first hs i=((i + j:Nat):Int)
 | [],_,_,_,h=>by simp at h
 | b :: bs,i,j,h,hj=>by
  unfold zR.first
  cases j with
  | zero=>
   have hb:b=true:=hj;rw [if_pos hb];rfl
  | succ j=>
   have hb:b=false:=h 0 (Nat.succ_pos _);rw [if_neg (by rw [hb];exact Bool.false_ne_true),zR.first_at bs (i + 1) j (fun t ht=>h (t + 1) (Nat.succ_lt_succ ht)) hj]
   congr 1;omega
theorem zR.first_none:∀(hs:List Bool) (i:Nat),(∀t,t < hs.length→hs.getD t false=false)→zR.first hs i= -1
 | [],_,_=>rfl
 | b :: bs,i,h=>by
  have hb:b=false:=h 0 (by simp)
  unfold zR.first
  rw [if_neg (by rw [hb];exact Bool.false_ne_true)]
  exact zR.first_none bs (i + 1) (fun t ht=>h (t + 1) (by simpa using ht))
theorem zR.two {w:World} {a b:Nat} {u v u0 v0:Value} (hab:a≠b) (ha:w.cell? ⟨a,0,none⟩=some u0) (hb:w.cell? ⟨b,0,none⟩=some v0):((w.setCell ⟨a,0,none⟩ u).setCell ⟨b,0,none⟩ v).drew.cell? ⟨a,0,none⟩=some u∧((w.setCell ⟨a,0,none⟩ u).setCell ⟨b,0,none⟩ v).drew.cell? ⟨b,0,none⟩=some v:=by
 refine ⟨(World.cell?_setCell_far _ _ _ _ (by show b≠a;exact fun e=>hab e.symm)).trans (World.cell?_setCell_same _ _ _ ha),World.cell?_setCell_same _ _ _ ((World.cell?_setCell_far _ _ _ _ (by show a≠b;exact hab)).trans hb)⟩
theorem zR.range_last {pre:List Nat} {x i:Nat} (h:pre ++ [x]=List.range i):x=pre.length∧pre=List.range pre.length:=by
 have hl:i=pre.length + 1:=by have:=congrArg List.length h;simp at this;omega
 subst hl;rw [List.range_succ] at h;obtain ⟨h1,h2⟩:=List.append_inj' h rfl
 exact ⟨by simpa using h2,h1⟩
theorem zR.calls (k:Nat) (a0_0 a0_1:Int) (A2:Option Addr) (c2:Nat) (l0_2:List Int) (A3:Option Addr) (c3:Nat) (va:List S42) (a1:Int) (a2:ByteArray) (r1 r2:Int) (w:World)
  (hr2:Kd.C (Kd.int .i64) w A2 l0_2.length l0_2) (hc2:l0_2.length≤c2) (hr3:Kd.C k42 w A3 va.length va) (hc3:va.length≤c3) (h:zR.f k a0_0 a0_1 l0_2 va a1 a2=some (r1,r2)) :
  Calls Tryz.prog 6 #[.agg #[.int .i64 a0_0, .int .i64 a0_1, .slice A2 l0_2.length c2, .slice A3 va.length c3], .int .i64 a1, .string a2] w fun e w'=>e= .returned (.tuple #[.int .i64 r1, .int .i64 r2])∧Below w.heap.size w w':=by
 obtain ⟨⟨all,e0⟩,hg,ha⟩:=ZzB h;have HG:=zA.mk hg;have HA:=zA.mk ha;have HR2:=zA.mk hr2;have HC2:=zA.mk hc2;have HR3:=zA.mk hr3;have HC3:=zA.mk hc3;have hu:=Tryz.underlying25;clear h hg ha hr2 hc2 hr3 hc3;refine (callsIn_wide (n:=9)).1 (callsIn_of_wp_marks Tryz.func6 rfl trivial ?_ rfl);refine wpIn_wide.2 ?_;simp only [Tryz.ntmps6,List.size_toArray,List.length_cons,List.length_nil,Nat.reduceAdd,Nat.reduceSub,Array.replicate_succ,Array.replicate_zero,List.push_toArray,List.append_toArray,List.nil_append,List.cons_append]
 go_wp2_with fail
 generalize hW0:(World.alloc (World.alloc (World.alloc (World.alloc w _) _) _) _)=W0
 have HW0:=zA.mk hW0
 have hs0:W0.heap.size=w.heap.size + 4:=by rw [←hW0];simp
 have x5:W0.heap[w.heap.size + 1]? =some (.cells #[.string a2] 9 (0,0)):=by
  rw [←hW0];refine zL (zL ?_ _) _;have this:=yQ (w.alloc (.cells #[.int .i64 a0_0, .int .i64 a0_1, .slice A2 l0_2.length c2, .slice A3 va.length c3] 25)) (.cells #[.string a2] 9);simp only [World.size_alloc] at this;exact this
 have x6:W0.heap[w.heap.size + 1 + 1]? =some (.cells #[.int .i64 0] 3 (0,0)):=by
  rw [←hW0];refine zL ?_ _;have this:=yQ ((w.alloc (.cells #[.int .i64 a0_0, .int .i64 a0_1, .slice A2 l0_2.length c2, .slice A3 va.length c3] 25)).alloc (.cells #[.string a2] 9)) (.cells #[.int .i64 0] 3);simp only [World.size_alloc] at this;exact this
 have x7:W0.heap[w.heap.size + 1 + 1 + 1]? =some (.cells #[.int .i64 0] 27 (0,0)):=by
  rw [←hW0];have this:=yQ (((w.alloc (.cells #[.int .i64 a0_0, .int .i64 a0_1, .slice A2 l0_2.length c2, .slice A3 va.length c3] 25)).alloc (.cells #[.string a2] 9)).alloc (.cells #[.int .i64 0] 3)) (.cells #[.int .i64 0] 27);simp only [World.size_alloc] at this;exact this
 have hb0:Below w.heap.size w W0:=by rw [←hW0];exact zG (zG (zG (zG (Below.refl _ _) _) _) _) _
 refine (zR.asked k a0_0 a0_1 A2 c2 l0_2 A3 c3 va a1 all e0 W0 (Kd.C_below HR2.out hb0) HC2.out (Kd.C_below HR3.out hb0) HC3.out HG.out).mono ?_;rintro e w1 ⟨hb1,A1,A2',A3'⟩;have y5:=zY x5 hb1;have y6:=zY x6 hb1;have y7:=zY x7 hb1
 have hs1:w.heap.size + 4≤w1.heap.size:=by rw [←hs0];exact hb1.size
 have HB1:=zA.mk (zD hb0 hb1);clear hW0 HW0 x5 x6 x7 hb0 hb1 hs0
 have hkind:(∃q:Int,q≠0∧e= .returned (.tuple #[.nilFunc, .int .i64 q])∧r1=0∧r2=q)∨(e0=0∧¬(a1 < 0∨(l0_2.length:Int)≤a1)):=by
  have ha:=HA.out
  by_cases h0:e0=0
  ·by_cases hn:a1 < 0∨(l0_2.length:Int)≤a1
   ·rw [if_pos h0,if_pos hn] at ha
    obtain ⟨h1,h2⟩:=Prod.mk.inj (Option.some.inj ha)
    exact .inl ⟨3,by decide,A2' h0 hn,h1.symm,h2.symm⟩
   ·exact .inr ⟨h0,hn⟩
  ·rw [if_neg h0] at ha
   obtain ⟨h1,h2⟩:=Prod.mk.inj (Option.some.inj ha)
   exact .inl ⟨e0,h0,A1 h0,h1.symm,h2.symm⟩
 rcases hkind with ⟨q,h0,rfl,rfl,rfl⟩|⟨h0,hn⟩
 ·have hba:Below w1.heap.size w1 (w1.alloc (.cells #[.int .i64 r2] 27)):=zG (Below.refl _ _) _
  have z6:=zY y6 hba;have z7:=zY y7 hba;have s6:=zO z6 0;have s7:=zO z7 0;have f6:=zB z6 0;have f7:=zB z7 0;have HB2:=zA.mk (zD HB1.out hba);have c1:(r2 != 0)=true:=bne_iff_ne.mpr h0;clear h0 A1 A2' A3' HA HG y5 y6 y7 hba z6 z7
  go_wp2
  go_region
  go_wp2
  obtain ⟨h6,h7⟩:=zR.two (w:=w1.alloc (.cells #[.int .i64 r2] 27)) (u:= .int .i64 0) (v:= .int .i64 r2) (by omega:w.heap.size + 1 + 1≠w.heap.size + 1 + 1 + 1) s6 s7;refine ⟨.tuple #[.int .i64 0, .int .i64 r2],by simp [results,Tryz.f6,go_sem,h6,h7],rfl,?_⟩
  exact zI (zK (zK HB2.out (by show w.heap.size≤w.heap.size + 1 + 1;omega)) Q5)
 ·subst h0
  obtain ⟨gb,gn,ga,Aa,ca,rfl,b0,b1,b2,b3,bn,ba,hty,hall⟩:=A3' rfl hn;have ha:=HA.out;rw [if_pos rfl,if_neg hn] at ha;obtain ⟨ps,hP,ha⟩:=ZzB ha
  by_cases hcd:ps.length≤1000000000∧(∀p ∈ ps,0≤p∧p < (all.length:Int))
  ·rw [if_pos hcd] at ha
   obtain ⟨hs,hhs,ha⟩:=ZzB ha;obtain ⟨rfl,rfl⟩:=Prod.mk.inj (Option.some.inj ha);obtain ⟨hl1,hl2⟩:=zR.hass_get k all a2 ps hs hhs;have HL1:=zA.mk hl1;have HL2:=zA.mk hl2;have HP:=zA.mk hP;have HCD:=zA.mk hcd;clear ha hhs hP hn A1 A2' A3' HA HG hl1 hl2 hcd
   go_wp2_with fail
   refine Plus.hide_world fun W2 hW2=> ?_
   have hba:Below w1.heap.size w1 W2:=by rw [←hW2.out];exact zG (Below.refl _ _) _
   have z5:=zY y5 hba;have z6:=zY y6 hba;have z7:=zY y7 hba
   have z9:W2.heap[w1.heap.size]? =some (.cells #[.int .i64 0] 27 (0,0)):=by rw [←hW2.out];exact yQ _ _
   have d0:=(hba.cell (ZzA _ _ b0)).trans b0;have d1:=(hba.cell (ZzA _ _ b1)).trans b1;have d2:=(hba.cell (ZzA _ _ b2)).trans b2;have d3:=(hba.cell (ZzA _ _ b3)).trans b3;have dn:=(hba.cell (ZzA _ _ bn)).trans bn;have da:=zY ba hba;have HT3:zA (∀ad,Aa=some ad→∃cs,W2.heap[ad.block]? =some (.cells cs 43 (0,0))):=⟨fun ad e=>let ⟨cs,h⟩:=hty ad e;⟨cs,zY h hba⟩⟩;have HALL:=zA.mk (Kd.C_below hall hba);have HB2:=zA.mk (zD HB1.out hba);have hs2:w1.heap.size < W2.heap.size:=ZzA W2 ⟨w1.heap.size,0,none⟩ (zO z9 0);clear y5 y6 y7 b0 b1 b2 b3 bn ba hall hty hW2 hba;refine (wpIn_wide (n:=9)).1 ?_
   refine wpIn_rangeFunc_ownF rfl (by decide) (gf:=34) (lb:= #[.pointer (some ⟨gb,0,none⟩), .pointer (some ⟨gn,0,none⟩), .pointer (some ⟨ga,0,none⟩)]) rfl trivial (enters_of Tryz.func34 (by kernel_rfl) rfl)
    (zR.seq k a0_0 a0_1 A2 c2 l0_2 A3 c3 va a1 all Aa ca ps gb gn ga 8 W2 W2 (Below.refl _ _) (by decide) (fun _=>False) (fun _ h=>h.elim) (fun _ _ h=>h) (fun h=>h) d0 d1 d2 d3 dn da HT3.out (Kd.C_below HR2.out HB2.out) HC2.out (Kd.C_below HR3.out HB2.out) HC3.out HALL.out HP.out HCD.out.1 HCD.out.2)
    zR.KpC.trans (fun W l o o' _ h1 h2 _=>zR.KpC.b W l o o' h1 h2) (Below.refl _ _) (fun _=>rfl)
    (fun (pre:List (zR.X all ps W2)) W=>(∀x ∈ pre,hs.getD x.1.1 false=false)∧Below W2.heap.size W2 W)
    (fun c (pre:List (zR.X all ps W2)) W=>(c= .ret∧(∃(pre':List (zR.X all ps W2)) (x:zR.X all ps W2),pre=pre' ++ [x]∧(∀y ∈ pre',hs.getD y.1.1 false=false)∧hs.getD x.1.1 false=true∧W.cell? ⟨w.heap.size + 1 + 1,0,none⟩=some (.int .i64 (x.1.1:Int)))∧W.cell? ⟨w.heap.size + 1 + 1 + 1,0,none⟩=some (.int .i64 0))∧Below w.heap.size w W)
    (fun s A B row h hg hr=>⟨h.1,ownFrom_below (Nat.le_refl _) (Nat.le_refl _) s A B row h.2 hg hr⟩)
    (fun c s A B row h hg hr=>⟨⟨h.1.1,let ⟨pre',x,e1,e2,e3,e4⟩:=h.1.2.1;⟨pre',x,e1,e2,e3,Go.cell_kept e4 hg (fun r e=>(hr r e).2)⟩,Go.cell_kept h.1.2.2 hg (fun r e=>(hr r e).2)⟩,ownFrom_below (Nat.le_refl _) HB2.out.size s A B row h.2 hg hr⟩)
    ⟨fun _ h=>(nomatch h),Below.refl _ _⟩ ?a1 ?assign ?body ?done ?stop
   case assign=>
    intro l x W K hK
    gi_wp2
    exact hK
   case body=>
    rintro l pre x W ⟨hpre,hB⟩ hlen;obtain ⟨vx,hvx⟩:∃v,v=Value.slice x.1.2.1 (zR.Row all ps x.1.1).length x.1.2.2:=⟨_,rfl⟩;obtain ⟨j,hj⟩:∃j,j=x.1.1:=⟨_,rfl⟩;obtain ⟨b,hb⟩:∃b,b=hs.getD x.1.1 false:=⟨_,rfl⟩;have HHH:=zA.mk (show ZI.f k (zR.Row all ps x.1.1) a2=some b by rw [hb];exact HL2.out _ x.2.1);have HCX:=zA.mk (Kd.C_below x.2.2.1 hB);have HLX:=zA.mk x.2.2.2;have HVX:=zA.mk hvx;have HJX:=zA.mk hj;have HBX:=zA.mk hb;have HPRE:=zA.mk hpre;have HBW:=zA.mk hB;rw [←hvx,←hj];have z5':=(hB.block _ (yA z5)).trans z5;have z6':=(hB.block _ (yA z6)).trans z6;have z7':=(hB.block _ (yA z7)).trans z7;have z9':=(hB.block _ (yA z9)).trans z9;have s5:=zO z5' 0;have s6:=zO z6' 0;have s7:=zO z7' 0;have s9:=zO z9' 0;have f6:=zB z6' 0;have f7:=zB z7' 0;clear hvx hj hb hpre hB z5' z6' z7' z9';cases b
    ·gi_wp2_with (refine ⟨trivial,?_⟩;gi_at_call 18;rw [HVX.out];refine (CallsIn.inRound l (callsIn_wide.2 (ZI.calls k _ _ _ a2 false W HCX.out HLX.out HHH.out))).mono ?_;rintro e w5 ⟨rfl,⟨nd,rfl⟩⟩)
     exact ⟨zR.keeps (zC (Below.refl _ _) nd),zR.KpC.of_below (zC (Below.refl _ _) nd),fun y hy=>(by
      rcases List.mem_append.1 hy with h|h
      ·exact HPRE.out y h
      ·rw [List.mem_singleton.1 h];exact HBX.out.symm),zD HBW.out (zC (Below.refl _ _) nd)⟩
    ·gi_wp2_with (refine ⟨trivial,?_⟩;gi_at_call 18;rw [HVX.out];refine (CallsIn.inRound l (callsIn_wide.2 (ZI.calls k _ _ _ a2 true W HCX.out HLX.out HHH.out))).mono ?_;rintro e w5 ⟨rfl,⟨nd,rfl⟩⟩)
     have hmx:Tryz.prog.follows .mixedOrders=true:=by kernel_rfl
     gi_region_with_o (fail)
     all_goals gi_wp2
     all_goals
      obtain ⟨h6,h7⟩:=zR.two (w:=W.drewN (nd + 1)) (u:= .int .i64 (j:Int)) (v:= .int .i64 0) (by omega:w.heap.size + 1 + 1≠w.heap.size + 1 + 1 + 1) (show (W.drewN (nd + 1)).cell? _=_ from s6) (show (W.drewN (nd + 1)).cell? _=_ from s7);have hd:Below W.heap.size W (W.drewN (nd + 1)):=zC (Below.refl _ _) (nd + 1)
      exact ⟨((zR.keeps hd).trans (KeepsOthers.setCell _ _ _)).trans (KeepsOthers.setCell _ _ _),⟨rfl,⟨pre,x,rfl,HPRE.out,HBX.out.symm,by rw [←HJX.out];exact h6⟩,h7⟩,zK (zK (zD (zD HB2.out HBW.out) hd) (by show w.heap.size≤w.heap.size + 1 + 1;omega)) Q5⟩
   case done=>
    rintro D xs W hD hS ⟨hpre,hB⟩ hK;have z6':=(hB.block _ (yA z6)).trans z6;have z7':=(hB.block _ (yA z7)).trans z7;have s9:=zO ((hB.block _ (yA z9)).trans z9) 0;have s6:=zO z6' 0;have s7:=zO z7' 0;have f6:=zB z6' 0;have f7:=zB z7' 0;have HB3:=zA.mk (zD HB2.out hB);have HPRE:=zA.mk hpre;clear z6' z7' hB hpre
    go_wp2
    go_region
    go_wp2
    obtain ⟨h6,h7⟩:=zR.two (w:=W) (u:= .int .i64 (-1)) (v:= .int .i64 0) (by omega:w.heap.size + 1 + 1≠w.heap.size + 1 + 1 + 1) s6 s7;have hK':=(((KeepsOthers.setCell W ⟨w.heap.size + 1 + 1,0,none⟩ (.int .i64 (-1))).trans (KeepsOthers.setCell _ ⟨w.heap.size + 1 + 1 + 1,0,none⟩ (.int .i64 0))).trans (KeepsOthers.drew _)).same D _ hK rfl;refine ⟨by simp, .inl ⟨D,_,rfl,run_takeDeferred hK',?_⟩⟩;have g6:=Go.cell_kept h6 (grownBy_putObj' _ D (.deferred none)) (fun r e=>by cases e;exact ⟨_,hK',rfl⟩);have g7:=Go.cell_kept h7 (grownBy_putObj' _ D (.deferred none)) (fun r e=>by cases e;exact ⟨_,hK',rfl⟩);refine ⟨.tuple #[.int .i64 (-1), .int .i64 0],by simp [results,Tryz.f6,go_sem,g6,g7],?_,(zI (zK (zK HB3.out (by show w.heap.size≤w.heap.size + 1 + 1;omega)) Q5)).trans (belowK_b (w:=W2) HB2.out.size _ D _ _ hD hK' rfl rfl)⟩
    rw [zR.first_none hs 0 (fun t ht=>by
     have hm:t ∈ xs.map (·.1.1):=by rw [hS];exact List.mem_range.2 (by rw [←HL1.out];exact ht)
     obtain ⟨y,hy,rfl⟩:=List.mem_map.1 hm
     exact HPRE.out y hy)]
   case stop=>
    rintro D c pre W hD ⟨i,hi⟩ ⟨⟨rfl,⟨pre',x,rfl,h1,h2,hc6⟩,hc7⟩,hB⟩ hK;refine wpIn_wide.2 ?_
    go_wp2
    refine ⟨by simp, .inl ⟨D,_,rfl,run_takeDeferred hK,?_⟩⟩;have g6:=Go.cell_kept hc6 (grownBy_putObj' _ D (.deferred none)) (fun r e=>by cases e;exact ⟨_,hK,rfl⟩);have g7:=Go.cell_kept hc7 (grownBy_putObj' _ D (.deferred none)) (fun r e=>by cases e;exact ⟨_,hK,rfl⟩);refine ⟨.tuple #[.int .i64 (x.1.1:Int), .int .i64 0],by simp [results,Tryz.f6,go_sem,g6,g7],?_,hB.trans (belowK_b (w:=W2) HB2.out.size _ D _ _ hD hK rfl rfl)⟩;rw [List.map_append] at hi;obtain ⟨e1,e2⟩:=zR.range_last (x:=x.1.1) hi
    rw [zR.first_at hs 0 x.1.1 (fun t ht=>by
     have hm:t ∈ pre'.map (·.1.1):=by rw [e2,←e1];exact List.mem_range.2 ht
     obtain ⟨y,hy,rfl⟩:=List.mem_map.1 hm
     exact h1 y hy) h2,Nat.zero_add]
  ·rw [if_neg hcd] at ha;cases ha
end
section
open Go.Sort Go.Plus
def zt.iset (l:List Int):List Int:=Lib.compact (l.mergeSort fun x y=>decide (x≤y))
theorem zt.iset_rises (l:List Int):(zt.iset l).Pairwise (· < ·)∧∀x,x ∈ zt.iset l↔x ∈ l:=by
 have hs:(l.mergeSort fun x y=>decide (x≤y)).Pairwise (· ≤ ·):=by
  have h:=List.pairwise_mergeSort (le:=fun x y:Int=>decide (x≤y)) (fun a b c h k=>decide_eq_true (Int.le_trans (of_decide_eq_true h) (of_decide_eq_true k))) (fun a b=>by
   rcases Int.le_total a b with h|h
   ·simp [h]
   ·simp [h]) l
  exact h.imp fun h=>of_decide_eq_true h
 have h:=Plus.compact_rises (r:=fun x y:Int=>x≤y) (s:=fun x y=>x < y) (fun x y=>by constructor <;> intro h <;> omega) (fun x y z=>Int.le_trans) (fun x y=>Int.le_antisymm) _ hs
 exact ⟨h.1,fun x=>by unfold zt.iset;rw [h.2,List.mem_mergeSort]⟩
theorem zt.iset_length_le (l:List Int):(zt.iset l).length≤l.length:=
 Plus.short_of_subset _ _ ((zt.iset_rises l).1.imp fun h=>by omega) fun x hx=>((zt.iset_rises l).2 x).1 hx
theorem zt.iset_nil:zt.iset []= []:=List.eq_nil_of_length_eq_zero (Nat.le_zero.1 (zt.iset_length_le []))
def zt.f (l0:List Int):Option (List Int):=if l0.length * 8≤140737488355328 then some (zt.iset l0) else none
theorem zt.add_at (b off j:Nat):(⟨b,off,none⟩:Addr).add j=⟨b,off + j,none⟩:=by unfold Addr.add;split <;> simp_all
theorem zt.grow_none (w:World):grow w #[]=w:=by cases w;simp [grow]
theorem zt.spot {w:World} {a:Addr} {v:Value} (h:w.cell? a=some v):a=⟨a.block,a.off,none⟩:=by
 obtain ⟨b,o,s⟩:=a;cases s with
 | none=>rfl
 | some s=>unfold World.cell? at h;split at h <;> simp at h
theorem zt.own_cut {w:World} {base g cap m:Nat} {e:TypeId} {cur:Array Value} {ts:List Int} (hbase:base≤g) (hb:w.heap[g]? =some (.cells cur e (0,0))) (h1:m≤cap) (h2:cap≤maxLen) (h3:cur.size=cap) (hm:ts.length=m) (h4:cur.toList.take m=ts.map (Value.int .i64)) :
  w.ownsRow base e 1 (.slice (some ⟨g,0,none⟩) m cap) m (ts.map (Value.int .i64)):=
 ⟨by simp [hm], .inr ⟨g,cap,cur,rfl,hbase,hb,h1,h2,by omega,by rw [Nat.mul_one];exact h4⟩⟩
theorem zt.calls (A0:Option Addr) (c0:Nat) (l0:List Int) (r:List Int) (w:World) (hr0:Kd.C (Kd.int .i64) w A0 l0.length l0) (hc0:l0.length≤c0) (h:zt.f l0=some r) :
  Calls Tryz.prog 39 #[.slice A0 l0.length c0] w fun e w'=>∃v0_:Value,e= .returned v0_∧Kd.R (Kd.int .i64) 3 w' w.heap.size (fun _=>True) v0_ r∧Below w.heap.size w w':=by
 unfold zt.f at h
 split at h
 case isFalse=>cases h
 rename_i hsz
 obtain rfl:=Option.some.inj h;clear h
 rcases Nat.eq_zero_or_pos l0.length with h0|h0
 ·obtain rfl:l0= []:=List.eq_nil_of_length_eq_zero h0
  have hcl:Calls Tryz.prog 57 #[.slice A0 0 c0] w fun e w'=>∃A1 c1,e= .returned (.slice A1 0 c1)∧Kd.R (Kd.int .i64) 3 w' w.heap.size (fun _=>True) (.slice A1 0 c1) []∧Below w.heap.size w w':=by
   cases A0 with
   | none=>exact (Tryz.slices_Clone_int_nil 0 c0 w).mono fun e w' ⟨he,hw⟩=>⟨none,0,he,hw▸Kd.R_nil _ _ _ _ _,hw▸Below.refl _ _⟩
   | some a=>
    refine (Tryz.slices_Clone_int_zero a c0 w).mono fun e w' ⟨v',he,ho,_,hb⟩=> ?_
    have hR:Kd.R (Kd.int .i64) 3 w' w.heap.size (fun _=>True) v' []:=Kd.R_of_own (enc:=(Value.int .i64)) (h1:=fun _=>rfl) ho (fun _ _=>trivial);obtain ⟨A1,c1,rfl⟩:=Kd.R_slice hR
    exact ⟨A1,c1,he,hR,hb⟩
  rw [zt.iset_nil]
  go_enter Tryz.func39,Tryz.ntmps39
  go_wp2_with (first
   | (go_at_call 57;refine hcl.mono ?_;rintro e w1 ⟨A1,c1,rfl,hR,hb⟩)
   | (go_at_call 58;refine (Tryz.slices_Sort_int_none A1 c1 _).mono ?_;rintro e w2 ⟨rfl,rfl⟩)
   | (go_at_call 59;refine (Tryz.slices_Compact_int_empty A1 c1 _).mono ?_;rintro e w3 ⟨rfl,rfl⟩)
   | go_in)
  go_ret
  exact ⟨_,rfl,hR,hb⟩
 ·obtain ⟨ad,rfl,hcells⟩:=(Kd.reads_of_C (enc:=(Value.int .i64)) (d:=0) (h1:=fun _=>rfl) hr0).2.2 h0
  have hsp:=zt.spot (hcells 0 h0)
  obtain ⟨b,off,rfl⟩:∃b off,ad=⟨b,off,none⟩:=by
   have e:ad.add 0=ad:=by simp [Addr.add]
   rw [e] at hsp
   exact ⟨_,_,hsp⟩
  have hc:∀j,j < l0.length→w.cell? ⟨b,off + j,none⟩=some (.int .i64 (l0.getD j 0)):=fun j hj=>by
   have:=hcells j hj;rwa [zt.add_at] at this
  have hlen:l0.length≤17592186044416:=by omega
  have hcl:Calls Tryz.prog 57 #[.slice (some ⟨b,off,none⟩) l0.length c0] w fun e w'=>∃g cap cur,e= .returned (.slice (some ⟨g,0,none⟩) l0.length cap)∧w.heap.size≤g∧w'.heap[g]? =some (.cells cur 3 (0,0))∧l0.length≤cap∧cap≤maxLen∧cur.size=cap∧cur.toList.take l0.length=l0.map (Value.int .i64)∧Below w.heap.size w w':=by
   refine (Tryz.slices_Clone_int b off l0.length c0 l0 w (Nat.le_refl _) hsz hc).mono fun e w' ⟨v',he,ho,hne,hb⟩=> ?_
   rcases ho.2 with ⟨hnil,_⟩|⟨g,cap,cur,rfl,hbase,hbk,h1,h2,h3,h4⟩
   ·exact absurd hnil hne
   ·refine ⟨g,cap,cur,he,hbase,hbk,h1,h2,by omega,?_,hb⟩
    rw [Nat.mul_one,List.take_length] at h4
    exact h4
  have hso:∀g cap cur w1,w1.heap[g]? =some (.cells cur 3 (0,0))→l0.length≤cap→cur.size=cap→cur.toList.take l0.length=l0.map (Value.int .i64)→
    Calls Tryz.prog 58 #[.slice (some ⟨g,0,none⟩) l0.length cap] w1 fun e w'=>e= .returned (.tuple #[])∧∃cur',w'.heap[g]? =some (.cells cur' 3 (0,0))∧cur'.size=cap∧cur'.toList.take l0.length=(l0.mergeSort fun x y=>decide (x≤y)).map (Value.int .i64)∧w1.grownBy w' (some g):=by
   intro g cap cur w1 hbk h1 h3 h4;have hgl:g < w1.heap.size:=(Array.getElem?_eq_some_iff.1 hbk).1;have hh:=Tryz.slices_Sort_int g 0 cap l0 w1 (holds_of_blockI hbk h4) hgl (by omega)
   refine hh.mono fun e w' ⟨he,n,os,hw⟩=>⟨he,?_⟩
   subst hw
   have hl:(l0.mergeSort fun x y=>decide (x≤y)).length=l0.length:=by rw [List.length_mergeSort]
   refine ⟨_,heap_sortedI _ hbk,by simp [putCells,h3],?_,grownBy_sortedI _⟩;rw [←hl]
   exact take_putCellsI cur _ (by omega)
  have hco:∀g cap cur w1,w1.heap[g]? =some (.cells cur 3 (0,0))→l0.length≤cap→cur.size=cap→cur.toList.take l0.length=(l0.mergeSort fun x y=>decide (x≤y)).map (Value.int .i64)→
    Calls Tryz.prog 59 #[.slice (some ⟨g,0,none⟩) l0.length cap] w1 fun e w'=>∃cur',e= .returned (.slice (some ⟨g,0,none⟩) (zt.iset l0).length cap)∧w'.heap[g]? =some (.cells cur' 3 (0,0))∧cur'.size=cap∧cur'.toList.take (zt.iset l0).length=(zt.iset l0).map (Value.int .i64)∧w1.grownBy w' (some g):=by
   intro g cap cur w1 hbk h1 h3 h4
   have hl:(l0.mergeSort fun x y=>decide (x≤y)).length=l0.length:=by rw [List.length_mergeSort]
   have hh:=Tryz.slices_Compact_int g 0 cap (l0.mergeSort fun x y=>decide (x≤y)) w1 (holds_of_blockI hbk (by rw [hl];exact h4)) (by rw [hl];omega) (by rw [hl];omega);rw [hl] at hh
   refine hh.mono fun e w' ⟨he,q,hw⟩=> ?_
   have hts:Lib.compact (l0.mergeSort fun x y=>decide (x≤y))=zt.iset l0:=rfl;rw [hts] at he hw;have hm:(zt.iset l0).length≤l0.length:=zt.iset_length_le _
   have hg0:w'=grow (putRow (Value.int .i64) (Sort.ahead w1 q) g 0 (zt.iset l0 ++ List.replicate (l0.length - (zt.iset l0).length) 0).toArray) #[]:=by rw [hw,zt.grow_none]
   have hlt:(zt.iset l0 ++ List.replicate (l0.length - (zt.iset l0).length) 0).length=l0.length:=by simp;omega
   have htk:=take_putCellsI cur (zt.iset l0 ++ List.replicate (l0.length - (zt.iset l0).length) 0) (by omega);rw [hlt] at htk;refine ⟨putCells (Value.int .i64) 0 (zt.iset l0 ++ List.replicate (l0.length - (zt.iset l0).length) 0).toArray cur,he,by rw [hg0];exact heap_sortedI _ hbk,by simp [putCells,h3],?_,by rw [hg0];exact grownBy_sortedI _⟩;have:=congrArg (List.take (zt.iset l0).length) htk;rw [List.take_take,Nat.min_eq_left hm,List.map_append,List.take_left' (by simp)] at this
   exact this
  have hm:(zt.iset l0).length≤l0.length:=zt.iset_length_le _;clear hcells hr0 hsp;have HCL:=Plus.Kept.mk hcl;have HSO:=Plus.Kept.mk hso;have HCO:=Plus.Kept.mk hco;clear hcl hso hco hc
  go_enter Tryz.func39,Tryz.ntmps39
  go_wp2_with (first
   | (go_at_call 57;refine HCL.out.mono ?_;rintro e w1 ⟨g,cap,cur,rfl,hge,hbk1,h1,h2,h3,h4,hb1⟩)
   | (go_at_call 58;refine (HSO.out g cap cur w1 hbk1 h1 h3 h4).mono ?_;rintro e w2 ⟨rfl,cur2,hbk2,h32,h42,hg2⟩)
   | (go_at_call 59;refine (HCO.out g cap cur2 w2 hbk2 h1 h32 h42).mono ?_;rintro e w3 ⟨cur3,rfl,hbk3,h33,h43,hg3⟩)
   | go_in)
  go_ret
  have hown:=zt.own_cut (base:=w.heap.size) hge hbk3 (Nat.le_trans hm h1) h2 h33 rfl h43;refine ⟨_,rfl,Kd.R_of_own (enc:=(Value.int .i64)) (h1:=fun _=>rfl) ?_ (fun _ _=>trivial),?_⟩
  ·exact hown
  ·have b2:=hb1.grown hg2 hb1.size (fun j hj=>by cases hj;exact hge)
   exact b2.grown hg3 b2.size (fun j hj=>by cases hj;exact hge)
end
def yM.l0:Nat→List Int→List ByteArray→Int→Int→Option (List Int)
 | 0,_,_,_,_=>none
 | k + 1,x3,x6,x7,x8=>if x8 < x7 then (if 0≤x8 then (if x8 < (x6.length:Int) then (if (rdOf ByteArray.empty x6 x8).toList=([]:List UInt8) then (yM.l0 k x3 x6 x7 (wrap64 (x8 + 1))) else (if 0 < ((rdOf ByteArray.empty x6 x8).size:Int) then (if x3.length < 17592186044416 then (yM.l0 k (x3 ++ [wrap64 (bt (rdOf ByteArray.empty x6 x8) 0)]) x6 x7 (wrap64 (x8 + 1))) else (none)) else (none))) else (none)) else (none)) else ((zt.f x3).bind fun t321=>(some t321))
def yM.f (k:Nat) (l0:List ByteArray):Option (List Int):=yM.l0 k ([]:List Int) l0 (l0.length:Int) 0
theorem yM.mono_l:∀k,(∀y0 y1 y2 y3,LeO (yM.l0 k y0 y1 y2 y3) (yM.l0 (k + 1) y0 y1 y2 y3))
 | 0=>fun _ _ _ _ r h=>by simp [yM.l0] at h
 | k + 1=>by
  have ih0:=yM.mono_l k
  ·intro y0 y1 y2 y3
   unfold yM.l0
   repeat' first
   | with_reducible first|exact ih0 _ _ _ _|exact LeO.refl _|exact LeO.none _|refine LeO.ite ?_ ?_|refine LeO.bind ?_ (fun _=> ?_)
theorem yM.mono:∀a0 k,LeO (yM.f k a0) (yM.f (k + 1) a0):=by
 intro a0 k;have ih0:=yM.mono_l k
 unfold yM.f
 repeat' first
   | with_reducible first|exact ih0 _ _ _ _|exact LeO.refl _|exact LeO.none _|refine LeO.ite ?_ ?_|refine LeO.bind ?_ (fun _=> ?_)
theorem yM.calls (k:Nat) (A0:Option Addr) (c0:Nat) (l0:List ByteArray) (r:List Int) (w:World) (hr0:Kd.C Kd.string w A0 l0.length l0) (hc0:l0.length≤c0) (h:yM.f k l0=some r) :
  Calls Tryz.prog 19 #[.slice A0 l0.length c0] w fun e w'=>∃v0_:Value,e= .returned (v0_)∧Kd.R (Kd.int .i64) 3 w' w.heap.size (fun _=>True) v0_ r∧Below w.heap.size w w':=by
 have HR0:=zA.mk hr0;have HC0:=zA.mk hc0;clear hr0 hc0;have HB:=zA.mk (Below.refl w.heap.size w);have H:(yM.l0 k ([]:List Int) l0 (l0.length:Int) 0)=some r:=h;clear h;have H':=zA.mk H;clear H
 go_enter Tryz.func19,Tryz.ntmps19
 go_wp2
 go_loopg [3,8] k (fun kq v3 v8 w'=>∃(x3_1:List Int) (x8_1:Int),v8= .int .i64 x8_1∧zA (yM.l0 kq x3_1 l0 (l0.length:Int) x8_1=some r)∧zA (kq≤k)∧zA (Kd.R (Kd.int .i64) 3 w' w.heap.size (fun _=>True) v3 x3_1)∧zA (Below w.heap.size w w'))
 case atStart=>exact ⟨(([]:List Int)),(0),Q6,H',⟨Nat.le_refl _⟩,⟨by first|exact Kd.R_nil _ _ _ _ _|exact Kd.N_nil _ _ _ _ _|exact Kd.V_nil _ _ _ _ _|exact Kd.Q_nil _ _ _ _ _|exact Kd.S_nil _ _ _ _ _⟩,⟨by repeat (first|(with_reducible first|exact HB.out|apply zG|apply zC|apply zI)|exact HB.out)⟩⟩
 case round=>
  clear H';(try clear c1);obtain ⟨x3_1,x8_1,rfl,HA,HK1,HO_3,HB⟩:=hrel;cases gk with
  | zero=>exact absurd HA.out (by simp [yM.l0])
  | succ k1=>
   have H:=HA.out;clear HA;simp only [yM.l0] at H
   by_cases c2:x8_1 < (l0.length:Int)
   ·rw [if_pos c2] at H
    have c2b0:=decide_eq_true c2;clear c2
    by_cases c3:0≤x8_1
    ·rw [if_pos c3] at H
     have c3b0:=decide_eq_true c3;clear c3
     by_cases c4:x8_1 < (l0.length:Int)
     ·rw [if_pos c4] at H
      have c4b0:=decide_eq_true c4;clear c4
      by_cases c5:(rdOf ByteArray.empty l0 x8_1).toList=([]:List UInt8)
      ·rw [if_pos c5] at H
       have c5b0:((rdOf ByteArray.empty l0 x8_1).toList == ([]:List UInt8))=true:=beq_iff_eq.mpr c5;have c5b1:((rdOf ByteArray.empty l0 x8_1).toList != ([]:List UInt8))=false:=bne_eq_false_iff_eq.mpr c5;clear c5;have H':=zA.mk H;clear H;have p317:0≤(x8_1:Int):=Qa;have q317:x8_1 < (l0.length:Int):=Qa;obtain ⟨ad317,e317,hx317_0⟩:=Kd.at_string HR0.out x8_1 p317 q317;cases e317;replace hx317_0:=Qp HB hx317_0;replace p317:=eq_true p317;replace q317:=eq_true q317
       go_wp2
       go_roundg k1
       case measure=>have:=HK1.out;omega
       case rel=>exact ⟨(x3_1),(wrap64 (x8_1 + 1)),Q6,H',⟨by have:=HK1.out;omega⟩,⟨Qh HO_3⟩,⟨by repeat (first|(with_reducible first|exact HB.out|apply zG|apply zC|apply zI)|exact HB.out)⟩⟩
      ·rw [if_neg c5] at H
       have c5b0:((rdOf ByteArray.empty l0 x8_1).toList == ([]:List UInt8))=false:=beq_eq_false_iff_ne.mpr c5;have c5b1:((rdOf ByteArray.empty l0 x8_1).toList != ([]:List UInt8))=true:=bne_iff_ne.mpr c5
       by_cases c6:0 < ((rdOf ByteArray.empty l0 x8_1).size:Int)
       ·rw [if_pos c6] at H
        have c6b0:=decide_eq_true c6;have c6b1:decide (0 < (rdOf ByteArray.empty l0 x8_1).size)=true:=decide_eq_true (by omega);clear c6
        by_cases c8:x3_1.length < 17592186044416
        ·rw [if_pos c8] at H
         have LMc8:=zA.mk c8;clear c8;obtain ⟨y318,hy318⟩:∃y_:List Int,y_=(x3_1 ++ [wrap64 (bt (rdOf ByteArray.empty l0 x8_1) 0)]):=⟨_,rfl⟩;replace H:(yM.l0 k1 y318 l0 (l0.length:Int) (wrap64 (x8_1 + 1)))=some r:=Qb hy318 H;have Ny318:=zA.mk hy318;clear hy318;have H':=zA.mk H;clear H;have p317:0≤(x8_1:Int):=Qa;have q317:x8_1 < (l0.length:Int):=Qa;obtain ⟨ad317,e317,hx317_0⟩:=Kd.at_string HR0.out x8_1 p317 q317;cases e317;replace hx317_0:=Qp HB hx317_0;replace p317:=eq_true p317;replace q317:=eq_true q317;have p7:0≤(0:Int):=(by omega);have q7:0 < (rdOf ByteArray.empty l0 x8_1).size:=(by have:(0:Int) < ((rdOf ByteArray.empty l0 x8_1).size:Int):=Qa;omega);have hx7:∀h:0 < (rdOf ByteArray.empty l0 x8_1).size,(((rdOf ByteArray.empty l0 x8_1)[0]'h).toNat:Int)=bt (rdOf ByteArray.empty l0 x8_1) 0:=YH (rdOf ByteArray.empty l0 x8_1) 0;clear p7;have qi7:(0 < ((rdOf ByteArray.empty l0 x8_1).size:Int))=True:=eq_true (Qa);replace q7:=eq_true q7
         go_wp2_with (first|((with_reducible refine ZZ (b:= .append) (xs:= #[.tmp 14, .tmp 18]) rfl ?_);at_builtin;refine Kd.R_append (Kd.int .i64) (w0:=w) w.heap.size rfl (.tmp 14) (.tmp 18) 22 3 (.int .i64 0) 8 rfl Tryz.underlying22 info3 rfl (by decide) (by omega) u3 x3_1 (wrap64 (bt (rdOf ByteArray.empty l0 x8_1) 0)) [.int .i64 (wrap64 (bt (rdOf ByteArray.empty l0 x8_1) 0))] (fun _=>True) (fun _=>False) rfl rfl ?aP (fun _ hk=>hk.elim) ?aF ?aO ?aB ?aS ?aL ?_;(case aP=>exact rfl);(case aB=>exact Qc);(case aF=>exact (fun _ _=>trivial));(case aO=>exact (Qh HO_3));(case aS=>exact (zE Qc));(case aL=>have:=LMc8.out;omega);intro v319 w9 ho hb hg hat;rw [←Ny318.out] at ho;have n0_:=zA.mk (hb);have n1_:=zA.mk (ho);clear HB HO_3;have HB:=n0_;have HO320:=n1_;clear n0_ n1_ ho hb hg hat))
         go_roundg k1
         case measure=>have:=HK1.out;omega
         case rel=>exact ⟨(y318),(wrap64 (x8_1 + 1)),Q6,H',⟨by have:=HK1.out;omega⟩,⟨Qh HO320⟩,⟨by repeat (first|(with_reducible first|exact HB.out|apply zG|apply zC|apply zI)|exact HB.out)⟩⟩
        ·rw [if_neg c8] at H
         exact absurd H (by simp)
       ·rw [if_neg c6] at H
        exact absurd H (by simp)
     ·rw [if_neg c4] at H
      exact absurd H (by simp)
    ·rw [if_neg c3] at H
     exact absurd H (by simp)
   ·rw [if_neg c2] at H
    have c2b0:=decide_eq_false c2;clear c2;replace H:=ZzB H;obtain ⟨t321,A100,H⟩:=H;replace H:(some t321)=some r:=H;have A10:=zA.mk A100;clear A100;obtain rfl:=Option.some.inj H;obtain ⟨Ao11,co11,eo11⟩:=Kd.R_slice HO_3.out;subst eo11
    go_wp2_with (first|((with_reducible refine zm (f:=39) rfl ?_);refine yJ (some 22) rfl rfl Tryz.func39 (by kernel_rfl) rfl #[.slice Ao11 x3_1.length co11] rfl QZ ?_;(with_reducible refine (zt.calls _ _ x3_1 t321 _ ?side1 ?side2 A10.out).mono ?_);(case side1=>exact Qo ((Kd.R_reads' HO_3.out).2.2));(case side2=>exact (Kd.R_reads' HO_3.out).2.1);rintro e w12 ⟨v322,rfl,ho0,hb⟩;refine ⟨_,rfl,?_⟩;have n1_:=zA.mk (Kd.R_lower (ZB ho0) (zE Qc));have n2_:=zA.mk (zD Qc hb);clear HB;have HO323:=n1_;have HB:=n2_;clear n1_ n2_;(try clear hb ho0)))
    go_ret
    exact ⟨_,by first|rfl|(simp [zb,zc] <;> rfl)|(simp [*,zb,zc] <;> rfl),by (with_reducible repeat (first|apply Kd.R_alloc|apply Kd.R_drewN|apply Kd.R_drew));exact Kd.R_mono HO323.out (fun _ hk=>trivial),by repeat (first|(with_reducible first|exact HB.out|apply zG|apply zC|apply zI)|exact HB.out)⟩
end Go.Proofs.YtpfeebmfihgelaaGreat.HGuessWhole
