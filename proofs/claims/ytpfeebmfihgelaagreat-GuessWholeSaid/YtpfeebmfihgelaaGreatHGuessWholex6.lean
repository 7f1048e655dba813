-- Written by plus.py for this claim.
import Derived.Test.YtpfeebmfihgelaaGreatSGuessWholeVZip
import Derived.Test.YtpfeebmfihgelaaGreatHGuessWholex0
import Derived.Test.YtpfeebmfihgelaaGreatHGuessWholex4
import Derived.Test.YtpfeebmfihgelaaGreatHGuessWholex5
namespace Go.Proofs.YtpfeebmfihgelaaGreat.HGuessWhole
open Go.RowKit Go.Proofs.YtpfeebmfihgelaaGreatW.PrintWords Go.Proofs.YtpfeebmfihgelaaGreatW.PrintLast Go.Proofs.YtpfeebmfihgelaaGreatW.PrintMore
attribute [local go_sem] ym yn ZG ZH yd ye yo yp   -- for this text's walks alone
set_option linter.unusedVariables false
set_option maxHeartbeats 8000000
set_option maxRecDepth 100000
set_option linter.unusedSimpArgs false
def zW.row (cat:List ByteArray→List ByteArray→Option (List ByteArray)) (sets:List (List ByteArray)) (most:Int):List S70→List ByteArray→Option (List ByteArray × Bool)
 | [],out=>some (out,true)
 | s :: l,out=>(if s.f0=true then Zp.f s.f1 else if 0≤s.f1∧s.f1 < (sets.length:Int) then some (ze sets s.f1) else none).bind fun x=>(cat out x).bind fun o=>if (o.length:Int) > most then some ([],false) else zW.row cat sets most l o
def zW.KK (gc:Nat) (kk:Int) (w:World):Prop:=w.heap[gc]? =some (.cells #[.int .i64 kk] 3 (0,0))
theorem zW.KK.lt {gc:Nat} {kk:Int} {w:World} (h:zW.KK gc kk w):gc < w.heap.size:=yA h
theorem zW.KK.below {gc:Nat} {kk:Int} {w W:World} (h:zW.KK gc kk w) (hb:Below w.heap.size w W):zW.KK gc kk W:=(hb.block _ h.lt).trans h
theorem zW.KK.keep {gc gs:Nat} {kk:Int} {w W:World} (h:zW.KK gc kk w) (hb:zk w W gs none) (hne:gc≠gs):zW.KK gc kk W:=(hb.2 _ h.lt hne (by simp)).trans h
def zW.Cats (fn gc:Nat) (kk:Int) (cat:List ByteArray→List ByteArray→Option (List ByteArray)):Prop:=
 ∀(A0:Option Addr) (c0:Nat) (a:List ByteArray) (A1:Option Addr) (c1:Nat) (b r:List ByteArray) (W:World),Kd.C Kd.string W A0 a.length a→a.length≤c0→Kd.C Kd.string W A1 b.length b→b.length≤c1→zW.KK gc kk W→cat a b=some r→
  Calls Tryz.prog fn #[.slice A0 a.length c0, .slice A1 b.length c1, .pointer (some ⟨gc,0,none⟩)] W fun e w'=>∃v,e= .returned v∧Kd.R Kd.string 9 w' W.heap.size (fun _=>True) v r∧Below W.heap.size W w'
theorem zW.rd_cons {s:S70} {l:List S70} {xs:List S70} {i:Nat} (h:xs.drop i=s :: l):i < xs.length∧zl xs (i:Int)=s∧xs.drop (i + 1)=l:=by
 have hi:i < xs.length:=by
  rcases Nat.lt_or_ge i xs.length with h1|h1
  ·exact h1
  ·rw [List.drop_of_length_le h1] at h;cases h
 rw [List.drop_eq_getElem_cons hi] at h
 injection h with h1 h2
 refine ⟨hi,?_,h2⟩;rw [←h1]
 unfold zl
 simp [List.getD_eq_getElem?_getD,hi]
theorem zW.row_calls {fn gc:Nat} {kk:Int} {cat:List ByteArray→List ByteArray→Option (List ByteArray)} (hfn:fn=70∨fn=70) (hcat:zW.Cats fn gc kk cat) (g:Nat) (As:Option Addr) (cs:Nat) (sets:List (List ByteArray)) (most:Int) (A1:Option Addr) (c1:Nat) (l:List S70) (r:List ByteArray) (ok:Bool) (w:World)
  (h4:w.cell? ⟨g,4,none⟩=some (.slice As sets.length cs)) (h5:w.cell? ⟨g,5,none⟩=some (.int .i64 most)) (h6:w.cell? ⟨g,6,none⟩=some (.func (.func fn) #[] #[.pointer (some ⟨gc,0,none⟩)])) (hk:zW.KK gc kk w)
  (hs:Kd.C (Kd.slice 9 Kd.string) w As sets.length sets) (hl:Kd.C k70 w A1 l.length l) (hlen:l.length≤140737488355328) (h:zW.row cat sets most l [(⟨#[]⟩:ByteArray)]=some (r,ok)) :
  Calls Tryz.prog 88 #[.pointer (some ⟨g,0,none⟩), .slice A1 l.length c1] w fun e w'=>∃v,e= .returned (.tuple #[v, .bool ok])∧Kd.R Kd.string 9 w' w.heap.size (fun _=>True) v r∧Below w.heap.size w w':=by
 rcases hfn with rfl|rfl
 all_goals
   have H4:=Plus.Kept.mk h4;have H5:=Plus.Kept.mk h5;have H6:=Plus.Kept.mk h6;have HK:=Plus.Kept.mk hk;have HS:=Plus.Kept.mk hs;have HL:=Plus.Kept.mk hl;have H:=Plus.Kept.mk h;have hu39:=Tryz.underlying70;clear h4 h5 h6 hk hs hl h;have HB:=zA.mk (Below.refl w.heap.size w)
   go_enter Tryz.func88,Tryz.ntmps88
   go_wp2_with (first|((with_reducible refine zx (N:=9) rfl ?_);refine Kd.R_lit Kd.string _ 9 (by rfl) (N:=9) (by rfl) (xs:=([(⟨#[]⟩:ByteArray)]:List ByteArray)) (inner:= [.string (⟨#[]⟩:ByteArray)]) (ok:=fun _=>True) (okp:=fun _=>True) Qm ?hp (fun _ hk=>hk) trivial (Below.refl _ _) (Nat.le_refl _) (by simp) ?_;(case hp=>exact (Reps.one (show Kd.M Kd.string _ _ _ (⟨#[]⟩:ByteArray) [.string (⟨#[]⟩:ByteArray)] from rfl) (Reps.none _ _)));intro v220 w5 ho6 hb hg_ hnew_;clear hg_ hnew_;have HO:=zA.mk ho6;have HB1:=zA.mk hb;clear ho6 hb))
   go_loopw [6,12] (fun v6 v12 wr=>∃(i:Nat) (acc:List ByteArray),v12= .int .i64 (i:Int)∧zA (i≤l.length)∧zA (zW.row cat sets most (l.drop i) acc=some (r,ok))∧zA (Kd.R Kd.string 9 wr w.heap.size (fun _=>True) v6 acc)∧zA (Below w.heap.size w wr))
    (fun _ v12 _=>l.length - (Plus.intOf v12).toNat)
   case atStart=>exact ⟨0,_,rfl,⟨Nat.zero_le _⟩,⟨by rw [List.drop_zero];exact H.out⟩,HO,HB1⟩
   case round=>
    clear HO HB1 HB;obtain ⟨i,acc,rfl,HI,HA,HO,HB⟩:=hrel
    by_cases hlt:i < l.length
    ·obtain ⟨s,l',hd⟩:∃s l',l.drop i=s :: l':=⟨_,_,List.drop_eq_getElem_cons hlt⟩
     obtain ⟨_,hsi,hl'⟩:=zW.rd_cons hd;have ha:=HA.out;rw [hd,zW.row] at ha;obtain ⟨x,hx,ha⟩:=ZzB ha;obtain ⟨o,ho,ha⟩:=ZzB ha;have HO2:=Plus.Kept.mk ho;have HA2:=Plus.Kept.mk ha;have HX:=Plus.Kept.mk hx;have HD:=Plus.Kept.mk hl';have c0b:decide ((i:Int) < (l.length:Int))=true:=decide_eq_true (by omega)
     have p1:0≤(i:Int):=by omega
     have q1:(i:Int) < (l.length:Int):=by omega
     obtain ⟨ad,e1,hx0,hx1⟩:=Zq HL.out (i:Int) p1 q1;rw [hsi] at hx0 hx1;clear hd ho ha hx hl' hsi HA;cases e1;rw [Int.toNat_natCast] at hx0 hx1;replace hx0:=Qp HB hx0;replace hx1:=Qp HB hx1;replace p1:=eq_true p1;replace q1:=eq_true q1;obtain ⟨Ao,co,eo⟩:=Kd.R_slice HO.out;subst eo;cases hb0:s.f0
     ·rw [hb0] at hx0
      go_wp2
      refine Plus.hide_world fun W' hW'=> ?_
      have hbW:Below wr.heap.size wr W':=hW'.out▸zG (Below.refl _ _) _;have HBW:=zA.mk (zD HB.out hbW);have k4:=(HBW.out.cell (ZzA _ _ H4.out)).trans H4.out;have k6:=(HBW.out.cell (ZzA _ _ H6.out)).trans H6.out
      have s1:W'.cell? ⟨wr.heap.size,1,none⟩=some (.int .i64 s.f1):=by rw [←hW'.out];exact zO (yQ _ _) 1
      have hx:=HX.out;rw [hb0,if_neg (by decide)] at hx
      by_cases hn:0≤s.f1∧s.f1 < (sets.length:Int)
      ·rw [if_pos hn] at hx
       obtain rfl:=Option.some.inj hx;have p2:=hn.1;have q2:=hn.2;obtain ⟨ad2,A2,c2,e2,hy0,hyl,hyr⟩:=Zc HS.out s.f1 p2 q2;cases e2;replace hy0:=Qp HBW hy0;have HYR:=zA.mk (Kd.C_below hyr HBW.out);have HYL:=zA.mk hyl;have HO1:=zA.mk (Kd.R_below HO.out hbW);have HKW:=zA.mk (HK.out.below HBW.out);clear hx hn hbW hyr hyl hx0 hx1;replace p2:=eq_true p2;replace q2:=eq_true q2;clear hW';have HC5:=zA.mk ((HBW.out.cell (ZzA _ _ H5.out)).trans H5.out)
       have hgt:decide (most < (o.length:Int))=true∨decide (most < (o.length:Int))=false:=by cases decide (most < (o.length:Int)) <;> simp
       go_still_tail 13,(by kernel_rfl)
       go_wp2_with fail
       refine (hcat Ao co acc A2 c2 (ze sets s.f1) o W'.drew (Kd.C_drew (Kd.R_reads' HO1.out).2.2) (Kd.R_reads' HO1.out).2.1 (Kd.C_drew HYR.out) HYL.out (show zW.KK gc kk W'.drew from HKW.out) HO2.out).mono ?_;rintro e w8 ⟨v8,rfl,hR8,hb8⟩;have HR8:=zA.mk (Kd.R_lower hR8 HBW.out.size);have HB8:=zA.mk (zD (zI HBW.out) hb8);clear k4 k6 s1;have k5:=(HB8.out.cell (ZzA _ _ H5.out)).trans H5.out;obtain ⟨A8,c8,e8⟩:=Kd.R_slice HR8.out;subst e8
       rcases hgt with hgt|hgt
       ·have hg2:(o.length:Int) > most:=of_decide_eq_true hgt
        have hw:=HA2.out;rw [if_pos hg2] at hw;obtain ⟨rfl,rfl⟩:=Prod.mk.inj (Option.some.inj hw);clear hw hg2
        go_wp2
        go_ret2
        exact ⟨_,rfl,Kd.R_nil _ _ _ _ _,HB8.out⟩
       ·have hg2:¬(o.length:Int) > most:=of_decide_eq_false hgt
        have hw:=HA2.out;rw [if_neg hg2] at hw;have HW:=zA.mk hw
        have hw2:wrap64 ((i:Int) + 1)=((i + 1:Nat):Int):=by have:=hlen;unfold wrap64;omega
        clear hw hg2
        go_wp2
        go_roundw
        case rel=>exact ⟨i + 1,o,by first|rfl|rw [hw2],⟨hlt⟩,⟨by rw [HD.out];exact HW.out⟩,HR8,HB8⟩
        case measure=>simp [Plus.intOf];omega
      ·rw [if_neg hn] at hx;cases hx
     ·rw [hb0] at hx0
      go_wp2
      refine Plus.hide_world fun W' hW'=> ?_
      have hbW:Below wr.heap.size wr W':=hW'.out▸zG (Below.refl _ _) _;have HBW:=zA.mk (zD HB.out hbW);have k6:=(HBW.out.cell (ZzA _ _ H6.out)).trans H6.out
      have s1:W'.cell? ⟨wr.heap.size,1,none⟩=some (.int .i64 s.f1):=by rw [←hW'.out];exact zO (yQ _ _) 1
      have l6:=ZzA _ _ k6;have l1:=ZzA _ _ s1;have hx:=HX.out;rw [hb0,if_pos rfl] at hx;have HX1:=zA.mk hx;have HO1:=zA.mk (Kd.R_below HO.out hbW);have HKW:=zA.mk (HK.out.below HBW.out)
      have hgt:decide (most < (o.length:Int))=true∨decide (most < (o.length:Int))=false:=by cases decide (most < (o.length:Int)) <;> simp
      clear hx hbW hx0 hx1 hW'
      first
      | (go_region_held3 (fun V=>V.cell? ⟨g,6,none⟩=some (.func (.func 70) #[] #[.pointer (some ⟨gc,0,none⟩)])∧V.cell? ⟨wr.heap.size,1,none⟩=some (.int .i64 s.f1))
        (first|go_keep|exact ⟨(hb7.cell (p:=⟨g,6,none⟩) l6).trans k6,(hb7.cell (p:=⟨wr.heap.size,1,none⟩) l1).trans s1⟩|exact ⟨(hb8.cell (p:=⟨g,6,none⟩) (Nat.lt_of_lt_of_le l6 hb7.size)).trans ((hb7.cell (p:=⟨g,6,none⟩) l6).trans k6),(hb8.cell (p:=⟨wr.heap.size,1,none⟩) (Nat.lt_of_lt_of_le l1 hb7.size)).trans ((hb7.cell (p:=⟨wr.heap.size,1,none⟩) l1).trans s1)⟩)
        (first
         | (go_at_call 107;refine (Zp.calls s.f1 x _ HX1.out).mono ?_;rintro e w7 ⟨v7,rfl,hR7,hb7⟩;replace hb7:Below W'.heap.size W' w7:=zD (zI (Below.refl W'.heap.size W')) hb7;obtain ⟨A7,c7,e7⟩:=Kd.R_slice hR7;subst e7)
         | (go_at_call 70;refine (hcat Ao co acc A7 c7 x o w7 (Kd.R_reads' (Kd.R_below HO1.out hb7)).2.2 (Kd.R_reads' HO1.out).2.1 (Kd.R_reads' hR7).2.2 (Kd.R_reads' hR7).2.1 (HKW.out.below hb7) HO2.out).mono ?_;rintro e w8 ⟨v8,rfl,hR8,hb8⟩)))
      | (go_region_held3 (fun V=>V.cell? ⟨g,6,none⟩=some (.func (.func 70) #[] #[.pointer (some ⟨gc,0,none⟩)])∧V.cell? ⟨wr.heap.size,1,none⟩=some (.int .i64 s.f1))
        (first|go_keep|exact ⟨(hb7.cell (p:=⟨g,6,none⟩) l6).trans k6,(hb7.cell (p:=⟨wr.heap.size,1,none⟩) l1).trans s1⟩|exact ⟨(hb8.cell (p:=⟨g,6,none⟩) (Nat.lt_of_lt_of_le l6 hb7.size)).trans ((hb7.cell (p:=⟨g,6,none⟩) l6).trans k6),(hb8.cell (p:=⟨wr.heap.size,1,none⟩) (Nat.lt_of_lt_of_le l1 hb7.size)).trans ((hb7.cell (p:=⟨wr.heap.size,1,none⟩) l1).trans s1)⟩)
        (first
         | (go_at_call 107;refine (Zp.calls s.f1 x _ HX1.out).mono ?_;rintro e w7 ⟨v7,rfl,hR7,hb7⟩;replace hb7:Below W'.heap.size W' w7:=zD (zI (Below.refl W'.heap.size W')) hb7;obtain ⟨A7,c7,e7⟩:=Kd.R_slice hR7;subst e7)
         | (go_at_call 70;refine (hcat Ao co acc A7 c7 x o w7 (Kd.R_reads' (Kd.R_below HO1.out hb7)).2.2 (Kd.R_reads' HO1.out).2.1 (Kd.R_reads' hR7).2.2 (Kd.R_reads' hR7).2.1 (HKW.out.below hb7) HO2.out).mono ?_;rintro e w8 ⟨v8,rfl,hR8,hb8⟩)))
      have HR8:=zA.mk (Kd.R_lower hR8 (Nat.le_trans HBW.out.size hb7.size));have HB8:=zA.mk (zD (zD HBW.out hb7) hb8);have k5:=(HB8.out.cell (ZzA _ _ H5.out)).trans H5.out;obtain ⟨A8,c8,e8⟩:=Kd.R_slice HR8.out;subst e8;clear k6 s1 hR8 hR7 hb7 hb8
      rcases hgt with hgt|hgt
      ·have hg2:(o.length:Int) > most:=of_decide_eq_true hgt
       have hw:=HA2.out;rw [if_pos hg2] at hw;obtain ⟨rfl,rfl⟩:=Prod.mk.inj (Option.some.inj hw);clear hw hg2
       go_wp2
       go_ret2
       exact ⟨_,rfl,Kd.R_nil _ _ _ _ _,HB8.out⟩
      ·have hg2:¬(o.length:Int) > most:=of_decide_eq_false hgt
       have hw:=HA2.out;rw [if_neg hg2] at hw;have HW:=zA.mk hw
       have hw2:wrap64 ((i:Int) + 1)=((i + 1:Nat):Int):=by have:=hlen;unfold wrap64;omega
       clear hw hg2
       go_wp2
       go_roundw
       case rel=>exact ⟨i + 1,o,by first|rfl|rw [hw2],⟨hlt⟩,⟨by rw [HD.out];exact HW.out⟩,HR8,HB8⟩
       case measure=>simp [Plus.intOf];omega
    ·obtain rfl:i=l.length:=by have:=HI.out;omega
     have ha:=HA.out;rw [List.drop_of_length_le (Nat.le_refl _),zW.row] at ha;obtain ⟨rfl,rfl⟩:=Prod.mk.inj (Option.some.inj ha);obtain ⟨Ao,co,eo⟩:=Kd.R_slice HO.out;subst eo;clear ha;have c0b:decide ((l.length:Int) < (l.length:Int))=false:=decide_eq_false (by omega)
     go_wp2
     go_ret2
     exact ⟨_,rfl,HO.out,HB.out⟩
theorem zW.put_row {W0 W:World} {base gs n cap:Nat} {xs:List (List ByteArray)} {vj:Value} {j:List ByteArray} (hb0:base≤W0.heap.size) (h:Kd.S (Kd.slice 9 Kd.string) 43 W0 base (fun _=>True) (.slice (some ⟨gs,0,none⟩) n cap) xs) (hb:Below W0.heap.size W0 W)
  (hj:Kd.R Kd.string 9 W W0.heap.size (fun _=>True) vj j) (i:Int) (h0:0≤i) (h1:i < n) :
  Kd.S (Kd.slice 9 Kd.string) 43 (W.setCell ⟨gs,i.toNat,none⟩ vj) base (fun _=>True) (.slice (some ⟨gs,0,none⟩) n cap) (xs.set i.toNat j)∧W.grownBy (W.setCell ⟨gs,i.toNat,none⟩ vj) (some gs):=by
 have hg:gs < W0.heap.size:=Kd.S_lt h gs rfl;have ho:Kd.S (Kd.slice 9 Kd.string) 43 W base (fun k=>True∧¬W0.heap.size≤k) (.slice (some ⟨gs,0,none⟩) n cap) xs:=Kd.S_mono (Kd.S_old h hb) (fun k hk=>⟨trivial,Nat.not_le.2 hk.2⟩);obtain ⟨oki,c,hcl,hM,hcc,hfr,hoki,hH⟩:=Kd.S_elem ho [] i h0 h1;have hj2:Kd.R Kd.string 9 W base (fun k=>W0.heap.size≤k) vj j:=Kd.R_lower (Kd.R_mono (Kd.R_bound hj) (fun k hk=>hk.2.1)) hb0
 have h2:=Kd.S_seg hH h0 h1 (seg:= [vj]) (j:=0) (x':=j) (okp:=fun k=>W0.heap.size≤k) (show 0 + [vj].length≤((Kd.slice 9 Kd.string)).sz from Nat.le_refl 1) (by
  have hc1:c.length=1:=hcl;rw [List.take_zero,List.nil_append,List.drop_of_length_le (by rw [hc1];exact Nat.le_refl 1),List.append_nil]
  exact Kd.M_row hj2) (fun k hk=> .inr hk) (fun k hk=>⟨trivial,fun e=>by subst e;omega⟩)
 have e1:i.toNat * ((Kd.slice 9 Kd.string)).sz + 0=i.toNat:=Nat.mul_one _;rw [e1] at h2
 exact h2
theorem zW.put_ok {W:World} {base gs n cap:Nat} {xs:List (List ByteArray)} (h:Kd.S (Kd.slice 9 Kd.string) 43 W base (fun _=>True) (.slice (some ⟨gs,0,none⟩) n cap) xs) (i:Int) (h0:0≤i) (h1:i < n) :
  W.frozen? ⟨gs,i.toNat,none⟩=false∧∃A c,W.cell? ⟨gs,i.toNat,none⟩=some (.slice A (ze xs i).length c):=by
 have hn:=(Kd.S_reads' h).1;obtain ⟨_,_,_,_,hcc,hfr,_,_⟩:=Kd.S_elem h [] i h0 h1;obtain ⟨ad,A,c,e,hc,_,_⟩:=Zc (Kd.S_reads' h).2.2 i h0 (by omega);cases e;refine ⟨by have:=hfr 0;rwa [show i.toNat * ((Kd.slice 9 Kd.string)).sz + 0=i.toNat from Nat.mul_one _] at this,A,c,?_⟩
 rw [show (⟨gs,0,none⟩:Addr).add i.toNat=⟨gs,i.toNat,none⟩ from by unfold Addr.add;split <;> simp_all] at hc
 exact hc
def zW.round (cat:List ByteArray→List ByteArray→Option (List ByteArray)) (most:Int):List S42→List (List ByteArray)→Bool→Option (List (List ByteArray) × Bool × Bool)
 | [],sets,more=>some (sets,more,true)
 | p :: ps,sets,more=>if p.f1.length≤1000000 then ((zW.row cat sets most p.f1 [(⟨#[]⟩:ByteArray)]).bind fun x=>if x.2=false then some (sets,false,false) else if 0≤p.f0∧p.f0 < (sets.length:Int) then (yZ.f (ze sets p.f0) x.1).bind fun j=>if (j.length:Int) > most then some (sets,false,false) else zW.round cat most ps (sets.set p.f0.toNat j) (more || decide ((j.length:Int) > ((ze sets p.f0).length:Int))) else none) else none
theorem zW.rd_prod {s:S42} {l:List S42} {xs:List S42} {i:Nat} (h:xs.drop i=s :: l):i < xs.length∧zF xs (i:Int)=s∧xs.drop (i + 1)=l:=by
 have hi:i < xs.length:=by
  rcases Nat.lt_or_ge i xs.length with h1|h1
  ·exact h1
  ·rw [List.drop_of_length_le h1] at h;cases h
 rw [List.drop_eq_getElem_cons hi] at h
 injection h with h1 h2
 refine ⟨hi,?_,h2⟩;rw [←h1]
 unfold zF
 simp [List.getD_eq_getElem?_getD,hi]
theorem zW.round_calls {fn gc:Nat} {kk:Int} {cat:List ByteArray→List ByteArray→Option (List ByteArray)} (hfn:fn=70∨fn=70) (hcat:zW.Cats fn gc kk cat) (g gs n cap:Nat) (sets:List (List ByteArray)) (most:Int) (AL:Option Addr) (cL:Nat) (ps:List S42) (sets':List (List ByteArray)) (more ok:Bool) (w0 w:World)
  (hb:Below w0.heap.size w0 w) (h3:w.cell? ⟨g,3,none⟩=some (.slice AL ps.length cL)) (h4:w.cell? ⟨g,4,none⟩=some (.slice (some ⟨gs,0,none⟩) n cap)) (h5:w.cell? ⟨g,5,none⟩=some (.int .i64 most)) (h6:w.cell? ⟨g,6,none⟩=some (.func (.func fn) #[] #[.pointer (some ⟨gc,0,none⟩)])) (hk:zW.KK gc kk w)
  (hne:g≠gs) (hnk:gc≠gs) (hge:w0.heap.size≤gs) (hS:Kd.S (Kd.slice 9 Kd.string) 43 w w0.heap.size (fun _=>True) (.slice (some ⟨gs,0,none⟩) n cap) sets) (hL:Kd.C k42 w0 AL ps.length ps) (hlen:ps.length≤1000000) (h:zW.round cat most ps sets false=some (sets',more,ok)) :
  Calls Tryz.prog 69 #[.pointer (some ⟨g,0,none⟩)] w fun e w'=>e= .returned (.tuple #[.bool more, .bool ok])∧Kd.S (Kd.slice 9 Kd.string) 43 w' w0.heap.size (fun _=>True) (.slice (some ⟨gs,0,none⟩) n cap) sets'∧zk w w' gs none∧Below w0.heap.size w0 w':=by
 have H3:=Plus.Kept.mk h3;have H4:=Plus.Kept.mk h4;have H5:=Plus.Kept.mk h5;have H6:=Plus.Kept.mk h6;have HK:=Plus.Kept.mk hk;have HL:=Plus.Kept.mk hL;have H:=Plus.Kept.mk h;have HS0:=Plus.Kept.mk hS;have HB0:=Plus.Kept.mk hb;have hu80:=Tryz.underlying42
 have keepc:∀ {W:World} {b o:Nat} {v:Value},zk w W gs none→b≠gs→w.cell? ⟨b,o,none⟩=some v→W.cell? ⟨b,o,none⟩=some v:=fun {W b o v} hK hb' hc=>by
  have hlt:=ZzA _ _ hc;have e:=hK.2 b hlt hb' (by simp)
  unfold World.cell? at hc⊢
  rw [e];exact hc
 have KC:=Plus.Kept.mk @keepc;clear h4 h5 h6 hk hL h hS hb keepc
 go_enter Tryz.func69,Tryz.ntmps69
 go_wp2
 clear h3
 go_loopw [2,15] (fun v2 v15 wr=>∃(i:Nat) (st:List (List ByteArray)) (m:Bool),v2= .bool m∧v15= .int .i64 (i:Int)∧zA (i≤ps.length)∧zA (zW.round cat most (ps.drop i) st m=some (sets',more,ok))∧zA (Kd.S (Kd.slice 9 Kd.string) 43 wr w0.heap.size (fun _=>True) (.slice (some ⟨gs,0,none⟩) n cap) st)∧zA (zk w wr gs none)∧zA (Below w0.heap.size w0 wr))
  (fun _ v15 _=>ps.length - (Plus.intOf v15).toNat)
 case atStart=>exact ⟨0,sets,false,rfl,rfl,⟨Nat.zero_le _⟩,⟨by rw [List.drop_zero];exact H.out⟩,⟨HS0.out⟩,⟨zk.refl _ _ _⟩,⟨HB0.out⟩⟩
 case round=>
  obtain ⟨i,st,m,rfl,rfl,HI,HA,HS,HQ,HB⟩:=hrel
  by_cases hlt:i < ps.length
  ·obtain ⟨p,l',hd⟩:∃s l',ps.drop i=s :: l':=⟨_,_,List.drop_eq_getElem_cons hlt⟩
   obtain ⟨_,hsi,hl'⟩:=zW.rd_prod hd;have ha:=HA.out;rw [hd,zW.round] at ha
   by_cases hpl:p.f1.length≤1000000
   ·rw [if_pos hpl] at ha
    obtain ⟨⟨x,okx⟩,hx,ha⟩:=ZzB ha;have HX:=Plus.Kept.mk hx;have HA2:=Plus.Kept.mk ha;have HD:=Plus.Kept.mk hl';have c0b:decide ((i:Int) < (ps.length:Int))=true:=decide_eq_true (by omega)
    have p1:0≤(i:Int):=by omega
    have q1:(i:Int) < (ps.length:Int):=by omega
    obtain ⟨ad,A1,c1,e1,hx0,hx1,hl1,hi1⟩:=ZX HL.out (i:Int) p1 q1;rw [hsi] at hx0 hx1 hl1 hi1;clear hd ha hx hl' hsi HA;cases e1;rw [Int.toNat_natCast] at hx0 hx1;replace hx0:=Qp HB hx0;replace hx1:=Qp HB hx1;have HI1:=zA.mk (Kd.C_below hi1 HB.out);have HQ1:=zA.mk hpl;clear hi1 hl1 hpl;replace p1:=eq_true p1;replace q1:=eq_true q1;have g4:=Plus.Kept.mk (KC.out HQ.out hne H4.out);have g5:=Plus.Kept.mk (KC.out HQ.out hne H5.out);have g6:=Plus.Kept.mk (KC.out HQ.out hne H6.out);have gK:=Plus.Kept.mk (HK.out.keep HQ.out hnk)
    go_wp2_with fail
    generalize hW':wr.alloc _=W'
    have hbW:Below wr.heap.size wr W':=hW'▸zG (Below.refl _ _) _
    have s0:W'.cell? ⟨wr.heap.size,0,none⟩=some (.int .i64 p.f0):=by rw [←hW'];exact zO (yQ _ _) 0
    have HBW:=zA.mk (zD HB.out hbW);have e4:=(hbW.cell (ZzA _ _ g4.out)).trans g4.out;have e5:=(hbW.cell (ZzA _ _ g5.out)).trans g5.out;have e6:=(hbW.cell (ZzA _ _ g6.out)).trans g6.out;have eK:=gK.out.below hbW;have HSW:=zA.mk (Kd.S_below HS.out hbW);have HQW:=zA.mk (zk.trans HQ.out (zk.of_below hbW gs none) (.inl rfl));have hn:=(Kd.S_reads' HSW.out).1;refine (zW.row_calls hfn hcat g (some ⟨gs,0,none⟩) cap st most A1 c1 p.f1 x okx W' (hn▸e4) e5 e6 eK (Kd.S_reads' HSW.out).2.2 (Kd.C_below HI1.out hbW) (by have:=HQ1.out;omega) HX.out).mono ?_;rintro e w8 ⟨v8,rfl,hR8,hb8⟩;have HB8:=zA.mk (zD HBW.out hb8);have HS8:=zA.mk (Kd.S_below HSW.out hb8);have HQ8:=zA.mk (zk.trans HQW.out (zk.of_below hb8 gs none) (.inl rfl));have t0:=(hb8.cell (ZzA _ _ s0)).trans s0;have f4:=(hb8.cell (ZzA _ _ e4)).trans e4;have f5:=(hb8.cell (ZzA _ _ e5)).trans e5;have HT0:=zA.mk t0;have HF4:=zA.mk f4;have HF5:=zA.mk f5;have HN:=zA.mk hn;clear hx0 hx1 e4 e5 e6 eK hW' hbW s0 g4 g5 g6 gK hn t0 f4 f5;cases okx
    ·have ha:=HA2.out
     rw [if_pos rfl] at ha;obtain ⟨rfl,hmo⟩:=Prod.mk.inj (Option.some.inj ha);obtain ⟨rfl,rfl⟩:=Prod.mk.inj hmo;clear ha hmo hR8 hb8
     go_wp2
     go_ret2
     exact ⟨rfl,HS8.out,HQ8.out,HB8.out⟩
    ·have ha:=HA2.out
     rw [if_neg (by simp)] at ha
     by_cases hp:0≤p.f0∧p.f0 < (st.length:Int)
     ·rw [if_pos hp] at ha
      obtain ⟨j,hj,ha⟩:=ZzB ha;have HJ:=zA.mk hj;have HA3:=zA.mk ha;obtain ⟨A8,c8,e8⟩:=Kd.R_slice hR8;subst e8;have HR8:=zA.mk hR8;have p2:=hp.1;have q2:=hp.2;have P2:=zA.mk p2;have Q2:=zA.mk (show p.f0 < (n:Int) by rw [HN.out];exact q2);obtain ⟨ad2,A2,c2,e2,hy0,hyl,hyr⟩:=Zc (Kd.S_reads' HS8.out).2.2 p.f0 p2 q2
      obtain rfl:(⟨gs,0,none⟩:Addr)=ad2:=by injection e2
      have HYL:=zA.mk hyl;have HYR:=zA.mk hyr;have HY0:=zA.mk hy0;clear e2 hyl hyr hj ha hp p2 q2 hy0 hR8 hb8
      go_wp2
      have f4:=HF4.out;have t0:=HT0.out;have hy0:=HY0.out
      try simp only [ZE] at hy0
      have p2:=eq_true P2.out;have q2:=eq_true Q2.out
      go_still_tail 9,(by kernel_rfl)
      go_wp2_with fail
      clear f4 t0 hy0 p2 q2;refine (yZ.calls A2 c2 (ze st p.f0) A8 c8 x j w8.drew (Kd.C_drew HYR.out) HYL.out (Kd.C_drew (Kd.R_reads' HR8.out).2.2) (Kd.R_reads' HR8.out).2.1 HJ.out).mono ?_;rintro e w9 ⟨v9,rfl,hR9,hb9⟩;obtain ⟨A9,c9,e9⟩:=Kd.R_slice hR9;subst e9;have HR9:=zA.mk hR9;have HW9:=zA.mk hb9;have HB9:=zA.mk (zD (zI HB8.out) hb9);have HS9:=zA.mk (Kd.S_below (Kd.S_drew HS8.out) hb9);have HQ9:=zA.mk (zk.trans HQ8.out (zk.of_below (zD (zI (Below.refl _ _)) hb9) gs none) (.inl rfl));have f5:=(hb9.cell (ZzA w8.drew _ (show w8.drew.cell? _=_ from HF5.out))).trans (show w8.drew.cell? _=_ from HF5.out);have HG4:=zA.mk ((hb9.cell (ZzA w8.drew _ (show w8.drew.cell? _=_ from HF4.out))).trans (show w8.drew.cell? _=_ from HF4.out));have HT9:=zA.mk ((hb9.cell (ZzA w8.drew _ (show w8.drew.cell? _=_ from HT0.out))).trans (show w8.drew.cell? _=_ from HT0.out));have HY9:=zA.mk ((hb9.cell (ZzA w8.drew _ (show w8.drew.cell? _=_ from HY0.out))).trans (show w8.drew.cell? _=_ from HY0.out));clear hR9 hb9
      have hgt:decide (most < (j.length:Int))=true∨decide (most < (j.length:Int))=false:=by cases decide (most < (j.length:Int)) <;> simp
      rcases hgt with hgt|hgt
      ·have hg2:(j.length:Int) > most:=of_decide_eq_true hgt
       have ha:=HA3.out;rw [if_pos hg2] at ha;obtain ⟨rfl,hmo⟩:=Prod.mk.inj (Option.some.inj ha);obtain ⟨rfl,rfl⟩:=Prod.mk.inj hmo;clear ha hmo hg2
       go_wp2
       go_ret2
       exact ⟨rfl,HS9.out,HQ9.out,HB9.out⟩
      ·have hg2:¬(j.length:Int) > most:=of_decide_eq_false hgt
       have ha:=HA3.out;rw [if_neg hg2] at ha;have HA4:=zA.mk ha;clear ha hg2
       go_wp2
       have f4:=HG4.out;have t0:=HT9.out;have hy0:=HY9.out
       try simp only [ZE] at hy0
       have p2:=eq_true P2.out;have q2:=eq_true Q2.out;cases m
       ·go_quiet (fail)
        clear f4 t0 hy0 p2 q2
        go_wp2
        refine Plus.hide_world fun W10 hW10=> ?_
        have hb10:Below w9.heap.size w9 W10:=by rw [←hW10.out];repeat (first|exact Below.refl _ _|apply zC|apply zI)
        have hB11:Below w8.drew.heap.size w8.drew W10.drew:=zI (zD HW9.out hb10);have hR11:Kd.R Kd.string 9 W10.drew w8.drew.heap.size (fun _=>True) (.slice A9 j.length c9) j:=Kd.R_drew (Kd.R_below HR9.out hb10);have hput:=zW.put_row (W0:=w8.drew) (Nat.le_trans HB8.out.size (Nat.le_refl _)) (Kd.S_drew HS8.out) hB11 hR11 p.f0 P2.out Q2.out;have hpo:=zW.put_ok (Kd.S_below HS9.out hb10) p.f0 P2.out Q2.out;have HP1:=zA.mk hput.1;have HP2:=zA.mk hput.2;have hfz:=hpo.1;obtain ⟨A12,c12,hcz⟩:=hpo.2;have f4:=(hb10.cell (ZzA _ _ HG4.out)).trans HG4.out;have t0:=(hb10.cell (ZzA _ _ HT9.out)).trans HT9.out;have HQ11:=zA.mk (zk.trans HQ9.out (zk.of_below (zI hb10) gs none) (.inl rfl));have HB11:=zA.mk (zI (zD HB9.out hb10));have p2:=eq_true P2.out;have q2:=eq_true Q2.out;clear hB11 hR11 hput hpo hb10 hW10
        go_still_tail 8,(by kernel_rfl)
        go_wp2
        have hw2:wrap64 ((i:Int) + 1)=((i + 1:Nat):Int):=by have:=hlen;unfold wrap64;omega
        go_roundw
        case rel=>exact ⟨i + 1,st.set p.f0.toNat j,_,rfl,by first|rfl|rw [hw2],⟨hlt⟩,⟨by rw [HD.out];refine Eq.trans ?_ HA4.out;first|rfl|(congr 1;simp;done)|(simp;done)⟩,HP1,⟨zk.trans HQ11.out ⟨HP2.out.size,fun i hi hg _=>HP2.out.block i hi (fun e=>hg (Option.some.inj e))⟩ (.inl rfl)⟩,⟨zK HB11.out hge⟩⟩
        case measure=>simp [Plus.intOf];omega
       ·go_quiet (fail)
        clear f4 t0 hy0 p2 q2
        go_wp2
        refine Plus.hide_world fun W10 hW10=> ?_
        have hb10:Below w9.heap.size w9 W10:=by rw [←hW10.out];repeat (first|exact Below.refl _ _|apply zC|apply zI)
        have hB11:Below w8.drew.heap.size w8.drew W10.drew:=zI (zD HW9.out hb10);have hR11:Kd.R Kd.string 9 W10.drew w8.drew.heap.size (fun _=>True) (.slice A9 j.length c9) j:=Kd.R_drew (Kd.R_below HR9.out hb10);have hput:=zW.put_row (W0:=w8.drew) (Nat.le_trans HB8.out.size (Nat.le_refl _)) (Kd.S_drew HS8.out) hB11 hR11 p.f0 P2.out Q2.out;have hpo:=zW.put_ok (Kd.S_below HS9.out hb10) p.f0 P2.out Q2.out;have HP1:=zA.mk hput.1;have HP2:=zA.mk hput.2;have hfz:=hpo.1;obtain ⟨A12,c12,hcz⟩:=hpo.2;have f4:=(hb10.cell (ZzA _ _ HG4.out)).trans HG4.out;have t0:=(hb10.cell (ZzA _ _ HT9.out)).trans HT9.out;have HQ11:=zA.mk (zk.trans HQ9.out (zk.of_below (zI hb10) gs none) (.inl rfl));have HB11:=zA.mk (zI (zD HB9.out hb10));have p2:=eq_true P2.out;have q2:=eq_true Q2.out;clear hB11 hR11 hput hpo hb10 hW10
        go_still_tail 8,(by kernel_rfl)
        go_wp2
        have hw2:wrap64 ((i:Int) + 1)=((i + 1:Nat):Int):=by have:=hlen;unfold wrap64;omega
        go_roundw
        case rel=>exact ⟨i + 1,st.set p.f0.toNat j,_,rfl,by first|rfl|rw [hw2],⟨hlt⟩,⟨by rw [HD.out];refine Eq.trans ?_ HA4.out;first|rfl|(congr 1;simp;done)|(simp;done)⟩,HP1,⟨zk.trans HQ11.out ⟨HP2.out.size,fun i hi hg _=>HP2.out.block i hi (fun e=>hg (Option.some.inj e))⟩ (.inl rfl)⟩,⟨zK HB11.out hge⟩⟩
        case measure=>simp [Plus.intOf];omega
     ·rw [if_neg hp] at ha;cases ha
   ·rw [if_neg hpl] at ha;cases ha
  ·obtain rfl:i=ps.length:=by have:=HI.out;omega
   have ha:=HA.out;rw [List.drop_of_length_le (Nat.le_refl _),zW.round] at ha;obtain ⟨rfl,hmo⟩:=Prod.mk.inj (Option.some.inj ha);obtain ⟨rfl,rfl⟩:=Prod.mk.inj hmo;clear ha hmo;have c0b:decide ((ps.length:Int) < (ps.length:Int))=false:=decide_eq_false (by omega)
   go_wp2
   go_ret2
   exact ⟨rfl,HS.out,HQ.out,HB.out⟩
theorem zW.keepc {w W:World} {gs b o:Nat} {v:Value} (hK:zk w W gs none) (hb:b≠gs) (hc:w.cell? ⟨b,o,none⟩=some v):W.cell? ⟨b,o,none⟩=some v:=by
 have e:=hK.2 b (ZzA _ _ hc) hb (by simp)
 unfold World.cell? at hc⊢
 rw [e];exact hc
def zW.loop (cat:List ByteArray→List ByteArray→Option (List ByteArray)) (most:Int) (ps:List S42):Nat→List (List ByteArray)→Option (Option (List (List ByteArray)))
 | 0,_=>none
 | k + 1,sets=>(zW.round cat most ps sets false).bind fun x=>if x.2.2=false then some none else if x.2.1=false then some (some x.1) else zW.loop cat most ps k x.1
theorem zW.loop_mono (cat:List ByteArray→List ByteArray→Option (List ByteArray)) (most:Int) (ps:List S42):∀k sets,LeO (zW.loop cat most ps k sets) (zW.loop cat most ps (k + 1) sets)
 | 0,_=>fun _ h=>by cases h
 | k + 1,sets=>LeO.bind (LeO.refl _) (fun x=>by
   by_cases h1:x.2.2=false
   ·simp only [if_pos h1];exact LeO.refl _
   ·simp only [if_neg h1]
    by_cases h2:x.2.1=false
    ·simp only [if_pos h2];exact LeO.refl _
    ·simp only [if_neg h2];exact zW.loop_mono cat most ps k x.1)
def zW.grow (cat:List ByteArray→List ByteArray→Option (List ByteArray)) (k:Nat) (a0_0 a0_1:Int) (l0_2:List Int) (va:List S42) (most:Int):Option (List (List ByteArray) × Int):=
 (yH.f k a0_0 a0_1 l0_2 va).bind fun e=>if e=0 then (if 0 < l0_2.length∧l0_2.length≤1000000∧va.length≤1000000 then (zW.loop cat most va k (List.replicate l0_2.length [])).bind fun x=>match x with|none=>some ([],15)|some s=>some (s,0) else none) else some ([],e)
def zW.Made (fn:Nat) (w0 w:World) (gc:Nat) (kk:Int) (most:Int) (g:Nat) (sets:List (List ByteArray)):Prop:=
 ∃gs n cap,w.cell? ⟨g,4,none⟩=some (.slice (some ⟨gs,0,none⟩) n cap)∧w.cell? ⟨g,5,none⟩=some (.int .i64 most)∧w.cell? ⟨g,6,none⟩=some (.func (.func fn) #[] #[.pointer (some ⟨gc,0,none⟩)])∧zW.KK gc kk w∧Kd.S (Kd.slice 9 Kd.string) 43 w w0.heap.size (fun _=>True) (.slice (some ⟨gs,0,none⟩) n cap) sets
theorem zW.made_S (V:World) (n:Nat) (hn:n≤1000000) (cz:Array Value) (hcz:cz=madeCells (Value.slice none 0 0).cells (n * 1)):Kd.S (Kd.slice 9 Kd.string) 43 (V.alloc (.cells cz 43 (0,0))) V.heap.size (fun _=>True) (.slice (some ⟨V.heap.size,0,none⟩) n n) (List.replicate n []):=by
 refine Kd.S_bare ⟨fun _ _=>trivial,cz.toList,?_,?_⟩
 ·have h2:=World.ownsRow_lit (base:=V.heap.size) (e:=43) (size:=1) V cz n (Nat.le_refl _) (by unfold maxLen;omega) (by rw [hcz,size_madeCells])
  show (V.alloc (.cells cz 43 (0,0))).ownsRow V.heap.size 43 1 _ (List.replicate n ([]:List ByteArray)).length cz.toList
  rw [List.length_replicate]
  simpa using h2
 ·rw [hcz]
  exact Kd.reps_made (R:=(Kd.bare (Kd.slice 9 Kd.string)).M _ _ _) (z:= .slice none 0 0) (size:=1) rfl (by decide) (show ((Kd.slice 9 Kd.string)).M _ _ (fun _=>False) [] [.slice none 0 0] from Kd.M_row (Kd.R_nil _ _ _ _ _)) n
theorem zW.run_made (V:World) (n:Nat) (hn:n≤1000000) (cz:Array Value) (hcz:cz=madeCells (Value.slice none 0 0).cells (n * 1)) :
  (Instr.makeSlice 32 (.int .i64 (n:Int)) (.int .i64 (n:Int))).run Tryz.prog V= .ok (.slice (some ⟨V.heap.size,0,none⟩) n n) (V.alloc (.cells cz 43)):=by
 obtain ⟨i0,hi,hz0,hz1,hz2⟩:=info_parts (show (Tryz.prog.info? 43).map (fun i=>(i.zero,i.size,i.bytes))=some (some (.slice none 0 0),1,24) from by kernel_rfl);have h:=run_make (P:=Tryz.prog) V 32 43 i0 (.slice none 0 0) Tryz.underlying32 hi hz0 .i64 .i64 (n:Int) (n:Int) (by omega) (by omega) (by rw [hz2];omega) (by omega);rw [hz1,Int.toNat_natCast] at h;rw [hcz]
 exact h
def zW.Grown (fn gc:Nat) (kk most:Int) (r1:List (List ByteArray)) (r2:Int) (w:World) (e:Ending) (w':World):Prop:=
 Below w.heap.size w w'∧((r2≠0∧r1= []∧e= .returned (.tuple #[.pointer none, .int .i64 r2]))∨(r2=0∧∃g,e= .returned (.tuple #[.pointer (some ⟨g,0,none⟩), .int .i64 0])∧zW.Made fn w w' gc kk most g r1))
theorem zW.grow_calls {fn gc:Nat} {kk:Int} {cat:List ByteArray→List ByteArray→Option (List ByteArray)} (hfn:fn=70∨fn=70) (hcat:zW.Cats fn gc kk cat) (k:Nat) (a0_0 a0_1:Int) (A2:Option Addr) (c2:Nat) (l0_2:List Int) (A3:Option Addr) (c3:Nat) (va:List S42) (most:Int) (r1:List (List ByteArray)) (r2:Int) (w:World)
  (hr2:Kd.C (Kd.int .i64) w A2 l0_2.length l0_2) (hc2:l0_2.length≤c2) (hr3:Kd.C k42 w A3 va.length va) (hc3:va.length≤c3) (hk:zW.KK gc kk w) (h:zW.grow cat k a0_0 a0_1 l0_2 va most=some (r1,r2)) :
  Calls Tryz.prog 49 #[.agg #[.int .i64 a0_0, .int .i64 a0_1, .slice A2 l0_2.length c2, .slice A3 va.length c3], .int .i64 most, .func (.func fn) #[] #[.pointer (some ⟨gc,0,none⟩)]] w (zW.Grown fn gc kk most r1 r2 w):=by
 obtain ⟨e0,he,ha⟩:=ZzB h;have HE:=zA.mk he;have HR2:=zA.mk hr2;have HC2:=zA.mk hc2;have HR3:=zA.mk hr3;have HC3:=zA.mk hc3;have HK:=zA.mk hk;have hu:=Tryz.underlying25;have hu2:=Tryz.underlying89
 by_cases h0:e0=0
 ·subst h0
  rw [if_pos rfl] at ha
  by_cases hs:0 < l0_2.length∧l0_2.length≤1000000∧va.length≤1000000
  ·rw [if_pos hs] at ha
   obtain ⟨x,hx,ha⟩:=ZzB ha;have HX:=zA.mk hx;have HA:=zA.mk ha;have HS:=zA.mk hs;clear h he ha hx hs hr2 hr3 hk hc2 hc3
   go_enter Tryz.func49,Tryz.ntmps49
   go_wp2_with fail
   refine (yH.calls k a0_0 a0_1 A2 c2 l0_2 A3 c3 va 0 _ (Kd.C_alloc HR2.out _) HC2.out (Kd.C_alloc HR3.out _) HC3.out HE.out).mono ?_;rintro e w1 ⟨rfl,hb1⟩;have q0:=(hb1.cell (p:=⟨w.heap.size,0,none⟩) (by simp)).trans (zO (yQ _ _) 0);have q1:=(hb1.cell (p:=⟨w.heap.size,1,none⟩) (by simp)).trans (zO (yQ _ _) 1);have q2:=(hb1.cell (p:=⟨w.heap.size,2,none⟩) (by simp)).trans (zO (yQ _ _) 2);have q3:=(hb1.cell (p:=⟨w.heap.size,3,none⟩) (by simp)).trans (zO (yQ _ _) 3);have HB1:=zA.mk (zD (zG (Below.refl w.heap.size w) _) hb1);clear hb1
   go_wp2
   refine Plus.hide_world fun W1 hW1=> ?_
   obtain rfl:=hW1.out;clear hW1;obtain ⟨cz,hcz⟩:∃cz,cz=madeCells (Value.slice none 0 0).cells (l0_2.length * 1):=⟨_,rfl⟩
   have hmk:=fun V=>zW.run_made V l0_2.length HS.out.2.1 cz hcz
   have HCZ:=zA.mk hcz;clear hcz
   go_region_held3 (fun V=>V.cell? ⟨w.heap.size,0,none⟩=some (.int .i64 a0_0)∧V.cell? ⟨w.heap.size,1,none⟩=some (.int .i64 a0_1)∧V.cell? ⟨w.heap.size,2,none⟩=some (.slice A2 l0_2.length c2)∧V.cell? ⟨w.heap.size,3,none⟩=some (.slice A3 va.length c3))
    (first|go_keep) (fail)
   clear hmk q0 q1 q2 q3
   go_wp2
   refine Plus.hide_world fun W2 hW2=> ?_
   have hb2:Below w1.heap.size w1 W2:=by rw [←hW2.out];repeat (first|exact Below.refl _ _|apply zC|apply zI|apply zG)
   have blk:W2.heap[w1.heap.size + 1]? =some (.cells #[.int .i64 a0_0, .int .i64 a0_1, .slice A2 l0_2.length c2, .slice A3 va.length c3, .slice (some ⟨w1.heap.size,0,none⟩) l0_2.length l0_2.length, .int .i64 most, .func (.func fn) #[] #[.pointer (some ⟨gc,0,none⟩)]] 89 (0,0)):=by
    rw [←hW2.out];rw [show w1.heap.size + 1=(w1.alloc (.cells cz 43 (0,0))).heap.size from by simp]
    exact yQ _ _
   have G3:=zA.mk ((zO blk 3).trans rfl);have G4:=zA.mk ((zO blk 4).trans rfl);have G5:=zA.mk ((zO blk 5).trans rfl);have G6:=zA.mk ((zO blk 6).trans rfl);have hB2:=zD HB1.out hb2;have HB2:=zA.mk hB2;have GK:=zA.mk (HK.out.below hB2)
   have HS2:Kd.S (Kd.slice 9 Kd.string) 43 W2 w.heap.size (fun _=>True) (.slice (some ⟨w1.heap.size,0,none⟩) l0_2.length l0_2.length) (List.replicate l0_2.length []):=by
    have h1:=zW.made_S w1 l0_2.length HS.out.2.1 cz HCZ.out;rw [←hW2.out]
    exact Kd.S_drew (Kd.S_alloc (Kd.S_lower h1 HB1.out.size) _)
   have HSS:=zA.mk HS2;have hgc:gc < w.heap.size:=HK.out.lt;have hw1:w.heap.size≤w1.heap.size:=HB1.out.size;clear hb2 blk hB2 HS2 hW2
   go_loopg [10] k (fun kq v10 wr=>∃st:List (List ByteArray),zA (zW.loop cat most va kq st=some x)∧zA (Kd.S (Kd.slice 9 Kd.string) 43 wr w.heap.size (fun _=>True) (.slice (some ⟨w1.heap.size,0,none⟩) l0_2.length l0_2.length) st)∧zA (zk W2 wr w1.heap.size none)∧zA (Below w.heap.size w wr))
   case atStart=>exact ⟨_,HX,HSS,⟨zk.refl _ _ _⟩,HB2⟩
   case round=>
    obtain ⟨st,HL,HSr,HQr,HBr⟩:=hrel;cases gk with
    | zero=>exact absurd HL.out (by simp [zW.loop])
    | succ k1=>
     have hl:=HL.out;rw [zW.loop] at hl;obtain ⟨⟨st',more,ok⟩,hr,hl⟩:=ZzB hl;have HR:=zA.mk hr;have HL1:=zA.mk hl;clear hl hr
     go_wp2_with fail
     refine (zW.round_calls hfn hcat (w1.heap.size + 1) w1.heap.size l0_2.length l0_2.length st most A3 c3 va st' more ok w _ HBr.out (zW.keepc HQr.out (by omega) G3.out) (zW.keepc HQr.out (by omega) G4.out) (zW.keepc HQr.out (by omega) G5.out) (zW.keepc HQr.out (by omega) G6.out) (GK.out.keep HQr.out (by omega)) (by omega) (by omega) hw1 HSr.out HR3.out HS.out.2.2 HR.out).mono ?_;rintro e w3 ⟨rfl,hS3,hQ3,hB3⟩;have HS3:=zA.mk hS3;have HQ3:=zA.mk (zk.trans HQr.out hQ3 (.inl rfl));have HB3:=zA.mk hB3;clear hS3 hQ3 hB3;cases ok
     ·have hl:=HL1.out
      rw [if_pos rfl] at hl;obtain rfl:=Option.some.inj hl;obtain ⟨rfl,rfl⟩:=Prod.mk.inj (Option.some.inj HA.out);clear hl
      go_wp2
      go_ret2
      exact ⟨HB3.out, .inl ⟨by decide,rfl,rfl⟩⟩
     ·cases more
      ·have hl:=HL1.out
       rw [if_neg (by simp),if_pos rfl] at hl;obtain rfl:=Option.some.inj hl;obtain ⟨rfl,rfl⟩:=Prod.mk.inj (Option.some.inj HA.out);clear hl
       go_wp2
       go_ret2
       exact ⟨HB3.out, .inr ⟨rfl,_,rfl,_,_,_,zW.keepc HQ3.out (by omega) G4.out,zW.keepc HQ3.out (by omega) G5.out,zW.keepc HQ3.out (by omega) G6.out,GK.out.keep HQ3.out (by omega),HS3.out⟩⟩
      ·have hl:=HL1.out
       rw [if_neg (by simp),if_neg (by simp)] at hl;have HL2:=zA.mk hl;clear hl
       go_wp2
       go_roundg k1
       case measure=>omega
       case rel=>exact ⟨st',HL2,HS3,HQ3,HB3⟩
  ·rw [if_neg hs] at ha;cases ha
 ·rw [if_neg h0] at ha
  obtain ⟨rfl,rfl⟩:=Prod.mk.inj (Option.some.inj ha);have hz:(e0 != 0)=true:=bne_iff_ne.mpr h0;have HN:=zA.mk h0;clear h he ha hr2 hr3 hk hc2 hc3 h0
  go_enter Tryz.func49,Tryz.ntmps49
  go_wp2_with fail
  refine (yH.calls k a0_0 a0_1 A2 c2 l0_2 A3 c3 va e0 _ (Kd.C_alloc HR2.out _) HC2.out (Kd.C_alloc HR3.out _) HC3.out HE.out).mono ?_;rintro e w1 ⟨rfl,hb1⟩;have HB1:=zA.mk (zD (zG (Below.refl w.heap.size w) _) hb1);clear hb1
  go_wp2
  go_ret2
  exact ⟨HB1.out, .inl ⟨HN.out,rfl,rfl⟩⟩
theorem zW.grown_ok {fn gc:Nat} {kk most:Int} {r1:List (List ByteArray)} {r2:Int} {w:World} {e:Ending} {w':World} (hz:r2=0) (h:zW.Grown fn gc kk most r1 r2 w e w'):Below w.heap.size w w'∧∃g,e= .returned (.tuple #[.pointer (some ⟨g,0,none⟩), .int .i64 0])∧zW.Made fn w w' gc kk most g r1:=⟨h.1,(h.2.resolve_left (fun h=>h.1 hz)).2⟩
theorem zW.grown_err {fn gc:Nat} {kk most:Int} {r1:List (List ByteArray)} {r2:Int} {w:World} {e:Ending} {w':World} (hz:r2≠0) (h:zW.Grown fn gc kk most r1 r2 w e w'):Below w.heap.size w w'∧r1= []∧e= .returned (.tuple #[.pointer none, .int .i64 r2]):=⟨h.1,(h.2.resolve_right (fun h=>hz h.1)).2⟩
theorem zW.first_calls (kk:Int) (w:World):Calls Tryz.prog 50 #[.int .i64 kk] w fun e w'=>e= .returned (.func (.func 70) #[] #[.pointer (some ⟨w.heap.size,0,none⟩)])∧w'=w.alloc (.cells #[.int .i64 kk] 3):=by
 go_enter Tryz.func50,Tryz.ntmps50
 go_wp2
 go_ret
 exact ⟨rfl,rfl⟩
theorem zW.clo_calls (k:Nat) (gc:Nat) (kk:Int):zW.Cats 70 gc kk (fun a b=>zi.f k a b kk):=by
 intro A0 c0 a A1 c1 b r W h0 l0 h1 l1 hk h;replace hk:W.cell? ⟨gc,0,none⟩=some (.int .i64 kk):=zO hk 0;have H:=zA.mk h;have H0:=zA.mk h0;have H1:=zA.mk h1;clear h h0 h1
 go_enter Tryz.func70,Tryz.ntmps70
 go_wp2_with fail
 refine (zi.calls k A0 c0 a A1 c1 b kk r _ H0.out l0 H1.out l1 H.out).mono ?_;rintro e w1 ⟨v,rfl,hR,hb⟩
 go_wp2
 go_ret
 exact ⟨v,rfl,hR,hb⟩
theorem zW.row_mono {cat cat':List ByteArray→List ByteArray→Option (List ByteArray)} (hc:∀a b,LeO (cat a b) (cat' a b)) (sets:List (List ByteArray)) (most:Int):∀l out,LeO (zW.row cat sets most l out) (zW.row cat' sets most l out)
 | [],_=>LeO.refl _
 | s :: l,out=>LeO.bind (LeO.refl _) (fun x=>LeO.bind (hc _ _) (fun o=>by
   by_cases h:(o.length:Int) > most
   ·simp only [if_pos h];exact LeO.refl _
   ·simp only [if_neg h];exact zW.row_mono hc sets most l o))
theorem zW.round_mono {cat cat':List ByteArray→List ByteArray→Option (List ByteArray)} (hc:∀a b,LeO (cat a b) (cat' a b)) (most:Int):∀ps sets m,LeO (zW.round cat most ps sets m) (zW.round cat' most ps sets m)
 | [],_,_=>LeO.refl _
 | p :: ps,sets,m=>by
  unfold zW.round
  by_cases h0:p.f1.length≤1000000
  ·simp only [if_pos h0]
   refine LeO.bind (zW.row_mono hc _ _ _ _) (fun x=> ?_)
   by_cases h1:x.2=false
   ·simp only [if_pos h1];exact LeO.refl _
   ·simp only [if_neg h1]
    by_cases h2:0≤p.f0∧p.f0 < (sets.length:Int)
    ·simp only [if_pos h2]
     refine LeO.bind (LeO.refl _) (fun j=> ?_)
     by_cases h3:(j.length:Int) > most
     ·simp only [if_pos h3];exact LeO.refl _
     ·simp only [if_neg h3];exact zW.round_mono hc most ps _ _
    ·simp only [if_neg h2];exact LeO.refl _
  ·simp only [if_neg h0];exact LeO.refl _
theorem zW.loop_mono2 {cat cat':List ByteArray→List ByteArray→Option (List ByteArray)} (hc:∀a b,LeO (cat a b) (cat' a b)) (most:Int) (ps:List S42):∀k sets,LeO (zW.loop cat most ps k sets) (zW.loop cat' most ps k sets)
 | 0,_=>LeO.refl _
 | k + 1,sets=>LeO.bind (zW.round_mono hc _ _ _ _) (fun x=>by
   by_cases h1:x.2.2=false
   ·simp only [if_pos h1];exact LeO.refl _
   ·simp only [if_neg h1]
    by_cases h2:x.2.1=false
    ·simp only [if_pos h2];exact LeO.refl _
    ·simp only [if_neg h2];exact zW.loop_mono2 hc most ps k x.1)
theorem zW.grow_mono {cat cat':List ByteArray→List ByteArray→Option (List ByteArray)} (hc:∀a b,LeO (cat a b) (cat' a b)) (k:Nat) (a0_0 a0_1:Int) (l0_2:List Int) (va:List S42) (most:Int):LeO (zW.grow cat k a0_0 a0_1 l0_2 va most) (zW.grow cat' (k + 1) a0_0 a0_1 l0_2 va most):=by
 unfold zW.grow
 refine LeO.bind (yH.mono _ _ _ _ _) (fun e=> ?_)
 by_cases h0:e=0
 ·simp only [if_pos h0]
  by_cases h1:0 < l0_2.length∧l0_2.length≤1000000∧va.length≤1000000
  ·simp only [if_pos h1]
   refine LeO.bind (fun r h=>zW.loop_mono _ _ _ _ _ _ (zW.loop_mono2 hc _ _ _ _ _ h)) (fun x=>LeO.refl _)
  ·simp only [if_neg h1];exact LeO.refl _
 ·simp only [if_neg h0];exact LeO.refl _
def zW.f (k:Nat) (a0_0 a0_1:Int) (l0_2:List Int) (va:List S42):Option (List (List ByteArray) × Int):=zW.grow (fun a b=>zi.f k a b a0_1) k a0_0 a0_1 l0_2 va 600
theorem zW.mono:∀a b c d k,LeO (zW.f k a b c d) (zW.f (k + 1) a b c d):=fun _ _ _ _ k=>zW.grow_mono (fun a b=>zi.mono _ _ _ _) k _ _ _ _ _
theorem zW.calls (k:Nat) (a0_0 a0_1:Int) (A2:Option Addr) (c2:Nat) (l0_2:List Int) (A3:Option Addr) (c3:Nat) (va:List S42) (r1:List (List ByteArray)) (r2:Int) (w:World)
  (hr2:Kd.C (Kd.int .i64) w A2 l0_2.length l0_2) (hc2:l0_2.length≤c2) (hr3:Kd.C k42 w A3 va.length va) (hc3:va.length≤c3) (h:zW.f k a0_0 a0_1 l0_2 va=some (r1,r2)) :
  Calls Tryz.prog 30 #[.agg #[.int .i64 a0_0, .int .i64 a0_1, .slice A2 l0_2.length c2, .slice A3 va.length c3]] w fun e w'=>∃v0_:Value,e= .returned (.tuple #[v0_, .int .i64 r2])∧Kd.S (Kd.slice 9 Kd.string) 43 w' w.heap.size (fun _=>True) v0_ r1∧Below w.heap.size w w':=by
 have H:=zA.mk h;have HR2:=zA.mk hr2;have HC2:=zA.mk hc2;have HR3:=zA.mk hr3;have HC3:=zA.mk hc3;have hu:=Tryz.underlying25;clear h hr2 hc2 hr3 hc3
 go_enter Tryz.func30,Tryz.ntmps30
 go_wp2
 refine Plus.hide_world fun W1 hW1=> ?_
 have hb1:Below w.heap.size w W1:=by rw [←hW1.out];exact zG (Below.refl _ _) _
 have q0:W1.cell? ⟨w.heap.size,0,none⟩=some (.int .i64 a0_0):=by rw [←hW1.out];exact zO (yQ _ _) 0
 have q1:W1.cell? ⟨w.heap.size,1,none⟩=some (.int .i64 a0_1):=by rw [←hW1.out];exact zO (yQ _ _) 1
 have q2:W1.cell? ⟨w.heap.size,2,none⟩=some (.slice A2 l0_2.length c2):=by rw [←hW1.out];exact zO (yQ _ _) 2
 have q3:W1.cell? ⟨w.heap.size,3,none⟩=some (.slice A3 va.length c3):=by rw [←hW1.out];exact zO (yQ _ _) 3
 have HB1:=zA.mk hb1;clear hW1 hb1;have hlt:=ZzA _ _ q0
 by_cases hz:r2=0
 ·obtain rfl:=hz
  go_region_held3 (fun V=>V.cell? ⟨w.heap.size,0,none⟩=some (.int .i64 a0_0)∧V.cell? ⟨w.heap.size,1,none⟩=some (.int .i64 a0_1)∧V.cell? ⟨w.heap.size,2,none⟩=some (.slice A2 l0_2.length c2)∧V.cell? ⟨w.heap.size,3,none⟩=some (.slice A3 va.length c3))
   (first|go_keep|exact ⟨(hb5.cell (p:=⟨w.heap.size,0,none⟩) hlt).trans q0,(hb5.cell (p:=⟨w.heap.size,1,none⟩) hlt).trans q1,(hb5.cell (p:=⟨w.heap.size,2,none⟩) hlt).trans q2,(hb5.cell (p:=⟨w.heap.size,3,none⟩) hlt).trans q3⟩|exact ⟨(hb6.cell (p:=⟨w.heap.size,0,none⟩) (Nat.lt_of_lt_of_le hlt hb5.size)).trans ((hb5.cell (p:=⟨w.heap.size,0,none⟩) hlt).trans q0),(hb6.cell (p:=⟨w.heap.size,1,none⟩) (Nat.lt_of_lt_of_le hlt hb5.size)).trans ((hb5.cell (p:=⟨w.heap.size,1,none⟩) hlt).trans q1),(hb6.cell (p:=⟨w.heap.size,2,none⟩) (Nat.lt_of_lt_of_le hlt hb5.size)).trans ((hb5.cell (p:=⟨w.heap.size,2,none⟩) hlt).trans q2),(hb6.cell (p:=⟨w.heap.size,3,none⟩) (Nat.lt_of_lt_of_le hlt hb5.size)).trans ((hb5.cell (p:=⟨w.heap.size,3,none⟩) hlt).trans q3)⟩)
   (first
    | (go_at_call 50;refine (zW.first_calls a0_1 _).mono ?_;rintro e w5 ⟨rfl,hw5⟩;have hk5:zW.KK W1.heap.size a0_1 w5:=(by rw [hw5];exact yQ _ _);have hb5:Below W1.heap.size W1 w5:=(by rw [hw5];exact zG (zI (Below.refl _ _)) _);clear hw5)
    | (go_at_call 49;refine ((zW.grow_calls (.inl rfl) (zW.clo_calls k W1.heap.size a0_1) k a0_0 a0_1 A2 c2 l0_2 A3 c3 va 600 r1 0 w5 (Kd.C_below HR2.out (zD HB1.out hb5)) HC2.out (Kd.C_below HR3.out (zD HB1.out hb5)) HC3.out hk5 H.out).mono fun e w' hg=>zW.grown_ok rfl hg).mono ?_;rintro e w6 ⟨hb6,g6,rfl,hm6⟩))
  obtain ⟨gs,n,cap,m4,m5,m6,mK,mS⟩:=hm6;have HB6:=zA.mk (zD (zD HB1.out hb5) hb6);have HS6:=zA.mk (Kd.S_lower mS (zD HB1.out hb5).size);clear m5 m6 mK mS hk5 hb5 hb6 q0 q1 q2 q3
  go_wp2
  go_ret2
  exact ⟨_,rfl,HS6.out,HB6.out⟩
 ·have hz2:(r2 != 0)=true:=bne_iff_ne.mpr hz
  have HZ:=zA.mk hz;clear hz
  go_region_held3 (fun V=>V.cell? ⟨w.heap.size,0,none⟩=some (.int .i64 a0_0)∧V.cell? ⟨w.heap.size,1,none⟩=some (.int .i64 a0_1)∧V.cell? ⟨w.heap.size,2,none⟩=some (.slice A2 l0_2.length c2)∧V.cell? ⟨w.heap.size,3,none⟩=some (.slice A3 va.length c3))
   (first|go_keep|exact ⟨(hb5.cell (p:=⟨w.heap.size,0,none⟩) hlt).trans q0,(hb5.cell (p:=⟨w.heap.size,1,none⟩) hlt).trans q1,(hb5.cell (p:=⟨w.heap.size,2,none⟩) hlt).trans q2,(hb5.cell (p:=⟨w.heap.size,3,none⟩) hlt).trans q3⟩|exact ⟨(hb6.cell (p:=⟨w.heap.size,0,none⟩) (Nat.lt_of_lt_of_le hlt hb5.size)).trans ((hb5.cell (p:=⟨w.heap.size,0,none⟩) hlt).trans q0),(hb6.cell (p:=⟨w.heap.size,1,none⟩) (Nat.lt_of_lt_of_le hlt hb5.size)).trans ((hb5.cell (p:=⟨w.heap.size,1,none⟩) hlt).trans q1),(hb6.cell (p:=⟨w.heap.size,2,none⟩) (Nat.lt_of_lt_of_le hlt hb5.size)).trans ((hb5.cell (p:=⟨w.heap.size,2,none⟩) hlt).trans q2),(hb6.cell (p:=⟨w.heap.size,3,none⟩) (Nat.lt_of_lt_of_le hlt hb5.size)).trans ((hb5.cell (p:=⟨w.heap.size,3,none⟩) hlt).trans q3)⟩)
   (first
    | (go_at_call 50;refine (zW.first_calls a0_1 _).mono ?_;rintro e w5 ⟨rfl,hw5⟩;have hk5:zW.KK W1.heap.size a0_1 w5:=(by rw [hw5];exact yQ _ _);have hb5:Below W1.heap.size W1 w5:=(by rw [hw5];exact zG (zI (Below.refl _ _)) _);clear hw5)
    | (go_at_call 49;refine ((zW.grow_calls (.inl rfl) (zW.clo_calls k W1.heap.size a0_1) k a0_0 a0_1 A2 c2 l0_2 A3 c3 va 600 r1 r2 w5 (Kd.C_below HR2.out (zD HB1.out hb5)) HC2.out (Kd.C_below HR3.out (zD HB1.out hb5)) HC3.out hk5 H.out).mono fun e w' hg=>zW.grown_err HZ.out hg).mono ?_;rintro e w6 ⟨hb6,hr6,rfl⟩))
  subst hr6;have HB6:=zA.mk (zD (zD HB1.out hb5) hb6);clear hk5 hb5 hb6 q0 q1 q2 q3
  go_wp2
  go_ret2
  exact ⟨_,rfl,Kd.S_nil _ _ _ _ _,HB6.out⟩
end Go.Proofs.YtpfeebmfihgelaaGreat.HGuessWhole
