-- Written by plus.py for this claim.
import Derived.Test.YtpfeebmfihgelaaGreatSGuessPicksVZip
import Derived.Test.YtpfeebmfihgelaaGreatHGuessPicksx0
import Derived.Test.YtpfeebmfihgelaaGreatHGuessPicksx11
import Derived.Test.YtpfeebmfihgelaaGreatHGuessPicksx12
namespace Go.Proofs.YtpfeebmfihgelaaGreat.HGuessPicks
open Go.RowKit Go.Proofs.YtpfeebmfihgelaaGreatW.PrintWords Go.Proofs.YtpfeebmfihgelaaGreatW.PrintLast Go.Proofs.YtpfeebmfihgelaaGreatW.PrintMore
attribute [local go_sem] yx yy ZI ZJ yo yp yz ZA
set_option linter.unusedVariables false
set_option linter.unusedSimpArgs false
def yX.flat (all:List (List ByteArray)) (ps:List Int):List ByteArray:=ps.flatMap fun p=>zk all p
def yX.f (k:Nat) (a0_0 a0_1:Int) (l0_2:List Int) (l0_3:List S42) (a1:Int):Option (List Int × Int):=
 (yW.f k a0_0 a0_1 l0_2 l0_3).bind fun g=>if g.2=0 then (if a1 < 0∨(l0_2.length:Int)≤a1 then some ([],3) else (yc.f k a0_0 a0_1 l0_2 l0_3 a1).bind fun ps=>if ps.length≤1000000∧(∀p ∈ ps,0≤p∧p < (g.1.length:Int))∧(∀r ∈ g.1,r.length≤1000000) then (ye.f k (yX.flat g.1 ps)).bind fun r=>some (r,0) else none) else some ([],g.2)
theorem yX.mono:∀a b c d e k,LeO (yX.f k a b c d e) (yX.f (k + 1) a b c d e):=by
 intro a b c d e k
 unfold yX.f
 refine LeO.bind (yW.mono _ _ _ _ _) (fun g=>LeO.ite ?_ (LeO.refl _));refine LeO.ite (LeO.refl _) (LeO.bind (yc.mono _ _ _ _ _ _) (fun ps=>LeO.ite (LeO.bind (ye.mono _ _) (fun hs=>LeO.refl _)) (LeO.refl _)))
theorem yX.kept {α:Type} {d:Kd α} {t:Nat} {W W':World} {row:Option Nat} {base:Nat} {ok:Nat→Prop} {v:Value} {xs:List α} (h:d.R t W base ok v xs) (hg:W.grownBy W' row) (hrow:∀r,row=some r→∃o:Obj,W.heap[r]? =some o∧o.isCells=false):d.R t W' base ok v xs:=
 Kd.R_mono (Kd.R_grown (Kd.R_bound h) hg fun k hk e=>by
  obtain ⟨o,ho,hc⟩:=hrow k e.symm;obtain ⟨q,-,cells,h2⟩:=hk.2.2.2
  rw [h2] at ho;cases ho;cases hc) (fun _ hk=>hk.1)
theorem yX.boxKept {W W':World} {row:Option Nat} {g:Nat} {cs:Array Value} {t:TypeId} (h:W.heap[g]? =some (.cells cs t (0,0))) (hg:W.grownBy W' row) (hrow:∀r,row=some r→∃o:Obj,W.heap[r]? =some o∧o.isCells=false):W'.heap[g]? =some (.cells cs t (0,0)):=
 (Go.grownBy_keeps_cells hg hrow h rfl).trans h
theorem yX.range_get (ps:List Int):(List.range ps.length).map (fun j=>ps.getD j 0)=ps:=by
 refine List.ext_getElem? fun i=> ?_
 rw [List.getElem?_map]
 rcases Nat.lt_or_ge i ps.length with h|h
 ·rw [List.getElem?_range h,List.getElem?_eq_getElem h,Option.map_some,List.getD_eq_getElem?_getD,List.getElem?_eq_getElem h];rfl
 ·rw [List.getElem?_eq_none (by simpa using h),List.getElem?_eq_none h];rfl
theorem yX.flat_all {w0:World} (all:List (List ByteArray)) (ps:List Int) (xs:List (zU.X all ps w0)) (h:xs.map (·.1.1)=List.range ps.length):(xs.flatMap fun x=>zU.Row all ps x.1.1)=yX.flat all ps:=by
 have e:(xs.flatMap fun x=>zU.Row all ps x.1.1)=(xs.map (·.1.1)).flatMap fun j=>zU.Row all ps j:=by rw [List.flatMap_map]
 rw [e,h]
 have e2:((List.range ps.length).flatMap fun j=>zU.Row all ps j)=((List.range ps.length).map fun j=>ps.getD j 0).flatMap fun p=>zk all p:=by rw [List.flatMap_map]
 rw [e2,yX.range_get]
 rfl
theorem yX.append_rows {F:Fence} {n:Nat} {P:Program} {ops:Array Oper} {rest:List Oper} {o:Oper} {a:Act} {Q:Exit→Act→World→Prop} {w0 W:World} (base:Nat) (hgd:o.guard=none) (s x:Operand) (t e:TypeId) (z:Value) (bytes:Nat)
  (ho:o.op= .call { callee:= .builtin .append,args:= #[s,x],argTypes:= #[t,t] })
  (ht:P.underlying t=some (.slice e)) (hinfo:(P.info? e).map (fun i=>(i.zero,i.size,i.bytes))=some (some z,1,bytes)) (hz:z.cells.size=1) (hb0:0 < bytes)
  (v:Value) (xs ys:List ByteArray) (A:Option Addr) (m c:Nat) (ok:Nat→Prop) (hs:a.eval s=v) (hx:a.eval x= .slice A m c)
  (HO:Kd.string.R e W base ok v xs) (HR:Kd.string.C W A m ys) (hfresh:∀k,W.heap.size≤k→ok k)
  (HB:Below base w0 W) (hbase:base≤W.heap.size) (hl:(xs.length + m) * bytes≤140737488355328)
  (h:∀v1 w1,Kd.string.R e w1 base ok v1 (xs ++ ys)→Below base w0 w1→W.grownBy w1 v.ownBlock→wpListIn F n P ops Q rest (a.put o.dst v1) w1) :
  wpListIn F n P ops Q (o :: rest) a W:=by
 have key:=Kd.R_append_rows (P:=P) (ops:=ops) (rest:= []) (o:=o) (a:=a) (Q:=fun ex a' w'=>ex= .normal∧∃v1,a'=a.put o.dst v1∧Kd.string.R e w' base ok v1 (xs ++ ys)∧Below base w0 w'∧W.grownBy w' v.ownBlock) Kd.string base hgd s x t e z bytes ho ht hinfo hz (by decide) hb0 v xs ys A m c ok (fun _=>False) hs hx HO HR (fun _ _ hk=>hk) (fun _ hk=>hk.elim) hfresh HB hbase hl (fun v1 w1 h1 h2 h3 _=>⟨rfl,v1,rfl,h1,h2,h3⟩)
 unfold wpList at key
 rw [if_pos (by simp [Region.wanted,hgd])] at key
 refine wpListIn_plain hgd fun K hK=> ?_
 unfold Oper.wpIn
 refine ⟨by simp [Oper.about,ho,resolve,Target.leads,Sem.run_pure],?_⟩;rw [Oper.semAt_plain F _ _ (by rw [ho];intro c hc;cases hc)]
 rcases key with key|⟨-,a1,w1,hk,-⟩
 ·unfold Oper.wp at key
  have he:(execOp a.eval o).run P W=((Builtin.append_ #[t,t] o.type #[v, .slice A m c]).run P W).andThen fun x w'=> .ok (.value x) w':=by
   unfold execOp
   simp only [ho,resolve,invoke,builtin,Sem.run_bind,Sem.run_pure,Result.andThen_ok,List.map_toArray,List.map_cons,List.map_nil,hs,hx]
  rw [he] at key⊢;cases hb:(Builtin.append_ #[t,t] o.type #[v, .slice A m c]).run P W with
  | ok v1 w1=>
   rw [hb] at key;obtain ⟨-,v2,e2,h1,h2,h3⟩:=key
   show K (a.put o.dst v1) w1
   rw [e2]
   exact hK _ _ (h v2 w1 h1 h2 h3)
  | halt hh w1=>
   rw [hb] at key;cases hh with
   | panic p=>exact absurd key.1 (by simp)
   | _=>exact key.elim
 ·cases hk
section
attribute [local go_sem] Oper.semAt_some
set_option maxHeartbeats 8000000 in
set_option maxRecDepth 100000 in
theorem yX.calls (k:Nat) (a0_0 a0_1:Int) (A2:Option Addr) (c2:Nat) (l0_2:List Int) (A3:Option Addr) (c3:Nat) (l0_3:List S42) (a1:Int) (r1:List Int) (r2:Int) (w:World)
  (hr2:Kd.C (Kd.int .i64) w A2 l0_2.length l0_2) (hc2:l0_2.length≤c2) (hr3:Kd.C k42 w A3 l0_3.length l0_3) (hc3:l0_3.length≤c3) (h:yX.f k a0_0 a0_1 l0_2 l0_3 a1=some (r1,r2)) :
  Calls Tryz.prog 7 #[.agg #[.int .i64 a0_0, .int .i64 a0_1, .slice A2 l0_2.length c2, .slice A3 l0_3.length c3], .int .i64 a1] w fun e w'=>∃v0_:Value,e= .returned (.tuple #[v0_, .int .i64 r2])∧Kd.R (Kd.int .i64) 3 w' w.heap.size (fun _=>True) v0_ r1∧Below w.heap.size w w':=by
 obtain ⟨⟨all,e0⟩,hg,ha⟩:=ZzB h;have HG:=zA.mk hg;have HA:=zA.mk ha;have HR2:=zA.mk hr2;have HC2:=zA.mk hc2;have HR3:=zA.mk hr3;have HC3:=zA.mk hc3;have hu:=Tryz.underlying25;clear h hg ha hr2 hc2 hr3 hc3;refine (callsIn_wide (n:=9)).1 (callsIn_of_wp_marks Tryz.func7 rfl trivial ?_ rfl);refine wpIn_wide.2 ?_;simp only [Tryz.ntmps7,List.size_toArray,List.length_cons,List.length_nil,Nat.reduceAdd,Nat.reduceSub,Array.replicate_succ,Array.replicate_zero,List.push_toArray,List.append_toArray,List.nil_append,List.cons_append]
 go_wp2_with fail
 have hb0:Below w.heap.size w (w.alloc (.cells #[.int .i64 a0_0, .int .i64 a0_1, .slice A2 l0_2.length c2, .slice A3 l0_3.length c3] 25)):=zE (Below.refl _ _) _;refine (zU.asked k a0_0 a0_1 A2 c2 l0_2 A3 c3 l0_3 a1 all e0 _ (Kd.C_below HR2.out hb0) HC2.out (Kd.C_below HR3.out hb0) HC3.out HG.out).mono ?_;rintro e w1 ⟨hb1,A1,A2',A3'⟩;have HB1:=zA.mk (zF hb0 hb1);clear hb0 hb1
 have hkind:(∃q:Int,q≠0∧e= .returned (.tuple #[.nilFunc, .int .i64 q])∧r1= []∧r2=q)∨(e0=0∧¬(a1 < 0∨(l0_2.length:Int)≤a1)):=by
  have ha:=HA.out
  by_cases h0:e0=0
  ·by_cases hn:a1 < 0∨(l0_2.length:Int)≤a1
   ·rw [if_pos h0,if_pos hn] at ha
    obtain ⟨h1,h2⟩:=Prod.mk.inj (Option.some.inj ha)
    exact .inl ⟨3,by decide,A2' h0 hn,h1.symm,h2.symm⟩
   ·exact .inr ⟨h0,hn⟩
  ·rw [if_neg h0] at ha
   obtain ⟨h1,h2⟩:=Prod.mk.inj (Option.some.inj ha)
   exact .inl ⟨e0,h0,A1 h0,h1.symm,h2.symm⟩
 rcases hkind with ⟨q,h0,rfl,rfl,rfl⟩|⟨h0,hn⟩
 ·have c1:(r2 != 0)=true:=bne_iff_ne.mpr h0
  clear h0 A1 A2' A3' HA HG
  go_wp2
  refine ⟨.tuple #[.slice none 0 0, .int .i64 r2],by simp [results,Tryz.f7,go_sem],_,rfl,Kd.R_nil _ _ _ _ _,HB1.out⟩
 ·subst h0
  obtain ⟨gb,gn,ga,Aa,ca,rfl,b0,b1,b2,b3,bn,ba,hty,hall⟩:=A3' rfl hn;have ha:=HA.out;rw [if_pos rfl,if_neg hn] at ha;obtain ⟨ps,hP,ha⟩:=ZzB ha
  by_cases hcd:ps.length≤1000000∧(∀p ∈ ps,0≤p∧p < (all.length:Int))∧(∀r ∈ all,r.length≤1000000)
  ·rw [if_pos hcd] at ha
   obtain ⟨rr,hhs,ha⟩:=ZzB ha;obtain ⟨rfl,rfl⟩:=Prod.mk.inj (Option.some.inj ha);have HH:=zA.mk hhs;have HP:=zA.mk hP;have HCD:=zA.mk hcd;clear ha hhs hP hn A1 A2' A3' HA HG hcd
   go_wp2_with fail
   refine Plus.hide_world fun W2 hW2=> ?_
   have hba:Below w1.heap.size w1 W2:=by rw [←hW2.out];exact zE (Below.refl _ _) _
   have z8:W2.heap[w1.heap.size]? =some (.cells #[.slice none 0 0] 43 (0,0)):=by rw [←hW2.out];exact yh _ _
   have d0:=(hba.cell (ZzA _ _ b0)).trans b0;have d1:=(hba.cell (ZzA _ _ b1)).trans b1;have d2:=(hba.cell (ZzA _ _ b2)).trans b2;have d3:=(hba.cell (ZzA _ _ b3)).trans b3;have dn:=(hba.cell (ZzA _ _ bn)).trans bn;have da:=zZ ba hba
   have hga:¬ga=w1.heap.size:=by have:=yK ba;omega
   have hAa:∀ad,Aa=some ad→¬ad.block=w1.heap.size:=fun ad e=>by obtain ⟨cs,h⟩:=hty ad e;have:=yK h;omega
   have HT3:zA (∀ad,Aa=some ad→∃cs,W2.heap[ad.block]? =some (.cells cs 43 (0,0))):=⟨fun ad e=>let ⟨cs,h⟩:=hty ad e;⟨cs,zZ h hba⟩⟩;have HALL:=zA.mk hall;have HB2:=zA.mk (zF HB1.out hba);have HBA:=zA.mk hba;have hs2:w1.heap.size < W2.heap.size:=yK z8
   have hlr:∀j,(zU.Row all ps j).length≤1000000:=fun j=>by
    show (all.getD (ps.getD j 0).toNat []).length≤1000000
    rw [List.getD_eq_getElem?_getD];cases h:all[(ps.getD j 0).toNat]? with
    | none=>simp
    | some r=>exact HCD.out.2.2 r (List.mem_of_getElem? h)
   clear b0 b1 b2 b3 bn ba hall hty hW2 hba;refine (wpIn_wide (n:=9)).1 ?_
   refine wpIn_rangeFunc_ownF rfl (by decide) (gf:=34) (lb:= #[.pointer (some ⟨gb,0,none⟩), .pointer (some ⟨gn,0,none⟩), .pointer (some ⟨ga,0,none⟩)]) rfl trivial (enters_of Tryz.func34 (by kernel_rfl) rfl)
    (zU.seq k a0_0 a0_1 A2 c2 l0_2 A3 c3 l0_3 a1 all Aa ca ps gb gn ga 8 w1 W2 HBA.out (by decide) (fun b=>b=w1.heap.size) (fun b hb=>by rw [hb];exact hs2) hAa hga d0 d1 d2 d3 dn da HT3.out (Kd.C_below HR2.out HB2.out) HC2.out (Kd.C_below HR3.out HB2.out) HC3.out HALL.out HP.out (Nat.le_trans HCD.out.1 (by decide)) HCD.out.2.1)
    zU.KpC.trans (fun W l o o' _ h1 h2 _=>zU.KpC.b W l o o' h1 h2) (Below.refl _ _) (fun _=>rfl)
    (fun (pre:List (zU.X all ps w1)) W=>(∃v,W.heap[w1.heap.size]? =some (.cells #[v] 43 (0,0))∧Kd.string.R 9 W (w1.heap.size) (fun k=>k≠w1.heap.size) v (pre.flatMap fun x=>zU.Row all ps x.1.1))∧Below w1.heap.size w1 W)
    (fun _ _ _=>False)
    (fun s A B row h hg hr=>⟨let ⟨v,h1,h2⟩:=h.1;⟨v,yX.boxKept h1 hg (fun r e=>(hr r e).2),yX.kept h2 hg (fun r e=>(hr r e).2)⟩,ownFrom_below (Nat.le_refl _) (Nat.le_of_lt hs2) s A B row h.2 hg hr⟩)
    (fun _ _ _ _ _ h _ _=>h)
    ⟨⟨_,z8,Kd.R_nil _ _ _ _ _⟩,HBA.out⟩ ?a1 ?assign ?body ?done ?stop
   case assign=>
    intro l x W K hK
    gi_wp2
    exact hK
   case body=>
    rintro l pre x W ⟨⟨v,hg,hR⟩,hB⟩ hlen;obtain ⟨vx,hvx⟩:∃v,v=Value.slice x.1.2.1 (zU.Row all ps x.1.1).length x.1.2.2:=⟨_,rfl⟩
    have hle:w1.heap.size≤W.heap.size:=by have:=yK hg;omega
    have HCX:=zA.mk (Kd.C_below x.2.2.1 hB);have HVX:=zA.mk hvx;have HR:=zA.mk hR;have HG:=zA.mk hg;have HBW:=zA.mk hB
    have hfl:(pre.flatMap fun x=>zU.Row all ps x.1.1).length≤pre.length * 1000000:=by
     clear hlen hR HR
     induction pre with
     | nil=>simp
     | cons y ys ih=>rw [List.flatMap_cons,List.length_append,List.length_cons,Nat.succ_mul];have:=hlr y.1.1;omega
    have hsz:((pre.flatMap fun x=>zU.Row all ps x.1.1).length + (zU.Row all ps x.1.1).length) * 16≤140737488355328:=by
     have h1:=hlr x.1.1;have h2:=HCD.out.1;have h3:pre.length * 1000000≤1000000 * 1000000:=Nat.mul_le_mul_right _ (by omega)
     omega
    have HSZ:=zA.mk hsz;rw [←hvx];have s8:=zN hg 0;clear hvx hg hR hB hfl hsz
    gi_wp2_with (gi_at_builtin;refine yX.append_rows (w0:=w1) (w1.heap.size) rfl _ _ 43 9 (.string ⟨#[]⟩) 16 rfl Tryz.underlying43 YM rfl (by decide) v _ _ _ _ _ (fun k=>k≠w1.heap.size) rfl HVX.out HR.out HCX.out (fun k hk=>by have:=yK HG.out;omega) HBW.out hle HSZ.out ?_;intro v1 w5 hR5 hB5 hg5;have HR5:=zA.mk hR5;have HB5:=zA.mk hB5;have HG5:=zA.mk hg5;have hNE:some (w1.heap.size)≠v.ownBlock:=fun e=>HR.out.1 (w1.heap.size) e.symm rfl;have z5:=(hg5.block (w1.heap.size) (yK HG.out) hNE).trans HG.out;have Z5:=zA.mk z5;have s5:=zN z5 0;have f5:=zB z5 0;obtain ⟨A5,c5,hv1⟩:=Kd.R_slice hR5;generalize hn5:List.length _=n5 at hv1;subst hv1;clear hR5 hB5 hg5 z5 hn5)
    have hty:=Kd.R_typed HR.out;have KO:=(KeepsOthers.of_grownBy HG5.out (fun j o ej hj=>by obtain ⟨cs,h⟩:=hty j ej;rw [h] at hj;cases hj;rfl)).trans (KeepsOthers.setCell w5 ⟨w1.heap.size,0,none⟩ (.slice A5 n5 c5));refine ⟨KO,⟨KO.1,fun i cs t hx ht hi=>(Below.heap_setCell _ _ _ i hx).trans ((HG5.out.block i (yK hi) (fun e=>by obtain ⟨c2,h⟩:=hty i e.symm;rw [h] at hi;cases hi;exact ht rfl)).trans hi)⟩,⟨_,Boxed.set _ Z5.out,?_⟩,zJ HB5.out (Nat.le_refl _)⟩;rw [List.flatMap_append,List.flatMap_cons,List.flatMap_nil,List.append_nil]
    exact Kd.R_far HR5.out (p:=⟨w1.heap.size,0,none⟩) (fun k hk=>hk) _
   case done=>
    rintro D xs W hD hS ⟨⟨v,hg,hR⟩,hB⟩ hK;have s8:=zN hg 0;rw [yX.flat_all all ps xs hS] at hR;obtain ⟨A8,c8,rfl⟩:=Kd.R_slice hR;obtain ⟨-,hlc,hC⟩:=Kd.R_reads' hR;have HLC:=zA.mk hlc;have HC:=zA.mk hC;have HK:=zA.mk hK;have HBW:=zA.mk hB;clear hg hR hB hK hlc hC
    go_wp2_with fail
    refine (ye.calls k A8 c8 _ rr W HC.out HLC.out HH.out).mono ?_;rintro e w5 ⟨v0,rfl,hR5,hb5⟩;have hK':w5.heap[D]? =some (.deferred (some [])):=(hb5.block _ (yK HK.out)).trans HK.out;have HR5:=zA.mk hR5;have HB5:=zA.mk hb5;have HK5:=zA.mk hK';obtain ⟨A5,c5,rfl⟩:=Kd.R_slice hR5;clear hR5 hb5 hK'
    go_wp2
    have hw:=zF HB1.out HBW.out;refine ⟨by simp, .inl ⟨D,_,rfl,run_takeDeferred HK5.out,?_⟩⟩;refine ⟨.tuple #[.slice A5 rr.length c5, .int .i64 0],by simp [results,Tryz.f7,go_sem],_,rfl,yX.kept (Kd.R_lower HR5.out hw.size) (grownBy_putObj' _ D (.deferred none)) (fun r e=>by cases e;exact ⟨_,HK5.out,rfl⟩),(zF hw HB5.out).trans (belowK_b (w:=W2) HB2.out.size _ D _ _ hD HK5.out rfl rfl)⟩
   case stop=>
    rintro D c pre W _ _ h _
    exact h.elim
  ·rw [if_neg hcd] at ha;cases ha
end
mutual
def zI.j0:Nat→Bool→Int→Int→List Int→List (S42)→Option (Int)
 | 0,_,_,_,_,_=>none
 | k + 1,x39,ww,wk,wl,vK=>if x39=true then (some 8) else (zI.l0 k 0 ww wk wl vK)
def zI.l0:Nat→Int→Int→Int→List Int→List (S42)→Option (Int)
 | 0,_,_,_,_,_=>none
 | k + 1,x3,ww,wk,wl,vK=>if x3 < (vK.length:Int) then (if 0≤x3 then (if (((zH vK x3).f1).length:Int) > 500 then (some 8) else (zI.l0 k (wrap64 (x3 + 1)) ww wk wl vK)) else (none)) else (if wk < 1 then (zI.j2 k true ww wk wl vK) else (zI.j2 k (decide (wk > 4)) ww wk wl vK))
def zI.j2:Nat→Bool→Int→Int→List Int→List (S42)→Option (Int)
 | 0,_,_,_,_,_=>none
 | k + 1,x62,ww,wk,wl,vK=>if x62=true then (some 11) else (zI.l1 k 0 ww wk wl vK)
def zI.l1:Nat→Int→Int→Int→List Int→List (S42)→Option (Int)
 | 0,_,_,_,_,_=>none
 | k + 1,x4,ww,wk,wl,vK=>if x4 < (vK.length:Int) then (if 0≤x4 then (if ((zH vK x4).f0) < 0 then (zI.j4 k x4 true ww wk wl vK ((zH vK x4).f0) ((zH vK x4).f1)) else (zI.j4 k x4 (decide (((zH vK x4).f0)≥(wl.length:Int))) ww wk wl vK ((zH vK x4).f0) ((zH vK x4).f1))) else (none)) else (some 0)
def zI.j4:Nat→Int→Bool→Int→Int→List Int→List (S42)→Int→List (S70)→Option (Int)
 | 0,_,_,_,_,_,_,_,_=>none
 | k + 1,x4,x85,ww,wk,wl,vK,x328000,x328001=>if x85=true then (some 4) else (zI.l2 k x4 0 ww wk wl vK x328000 x328001)
def zI.l2:Nat→Int→Int→Int→Int→List Int→List (S42)→Int→List (S70)→Option (Int)
 | 0,_,_,_,_,_,_,_,_=>none
 | k + 1,x4,x6,ww,wk,wl,vK,x328000,x328001=>if x6 < (x328001.length:Int) then (if 0≤x6 then (if (zg x328001 x6).f0=true then (if ((zg x328001 x6).f1) < 1 then (some 4) else (if ((zg x328001 x6).f1) > ww then (some 4) else (zI.l2 k x4 (wrap64 (x6 + 1)) ww wk wl vK x328000 x328001))) else (if ((zg x328001 x6).f1) < 0 then (some 4) else (if ((zg x328001 x6).f1)≥(wl.length:Int) then (some 4) else (zI.l2 k x4 (wrap64 (x6 + 1)) ww wk wl vK x328000 x328001)))) else (none)) else (zI.l1 k (wrap64 (x4 + 1)) ww wk wl vK)
end
def zI.f (k:Nat) (a0_0:Int) (a0_1:Int) (l0_2:List Int) (l0_3:List (S42)):Option (Int):=if a0_0 < 1 then (zI.j0 k true a0_0 a0_1 l0_2 l0_3) else (if a0_0 > 60 then (zI.j0 k true a0_0 a0_1 l0_2 l0_3) else (if (l0_2.length:Int) < 1 then (zI.j0 k true a0_0 a0_1 l0_2 l0_3) else (if (l0_2.length:Int) > 500 then (zI.j0 k true a0_0 a0_1 l0_2 l0_3) else (if (l0_3.length:Int) < 1 then (zI.j0 k true a0_0 a0_1 l0_2 l0_3) else (zI.j0 k (decide ((l0_3.length:Int) > 2000)) a0_0 a0_1 l0_2 l0_3)))))
theorem zI.mono_l:∀k,(∀y0 y1 y2 y3 y4,LeO (zI.j0 k y0 y1 y2 y3 y4) (zI.j0 (k + 1) y0 y1 y2 y3 y4))∧(∀y0 y1 y2 y3 y4,LeO (zI.l0 k y0 y1 y2 y3 y4) (zI.l0 (k + 1) y0 y1 y2 y3 y4))∧(∀y0 y1 y2 y3 y4,LeO (zI.j2 k y0 y1 y2 y3 y4) (zI.j2 (k + 1) y0 y1 y2 y3 y4))∧(∀y0 y1 y2 y3 y4,LeO (zI.l1 k y0 y1 y2 y3 y4) (zI.l1 (k + 1) y0 y1 y2 y3 y4))∧(∀y0 y1 y2 y3 y4 y5 y6 y7,LeO (zI.j4 k y0 y1 y2 y3 y4 y5 y6 y7) (zI.j4 (k + 1) y0 y1 y2 y3 y4 y5 y6 y7))∧(∀y0 y1 y2 y3 y4 y5 y6 y7,LeO (zI.l2 k y0 y1 y2 y3 y4 y5 y6 y7) (zI.l2 (k + 1) y0 y1 y2 y3 y4 y5 y6 y7))
 | 0=>⟨fun _ _ _ _ _ r h=>by simp [zI.j0] at h,fun _ _ _ _ _ r h=>by simp [zI.l0] at h,fun _ _ _ _ _ r h=>by simp [zI.j2] at h,fun _ _ _ _ _ r h=>by simp [zI.l1] at h,fun _ _ _ _ _ _ _ _ r h=>by simp [zI.j4] at h,fun _ _ _ _ _ _ _ _ r h=>by simp [zI.l2] at h⟩
 | k + 1=>by
  obtain ⟨ih0,ih1,ih2,ih3,ih4,ih5⟩:=zI.mono_l k;refine ⟨?_,?_,?_,?_,?_,?_⟩
  ·intro y0 y1 y2 y3 y4
   unfold zI.j0
   repeat' first
   | with_reducible first|exact ih0 _ _ _ _ _|exact ih1 _ _ _ _ _|exact ih2 _ _ _ _ _|exact ih3 _ _ _ _ _|exact ih4 _ _ _ _ _ _ _ _|exact ih5 _ _ _ _ _ _ _ _|exact LeO.refl _|exact LeO.none _|refine LeO.ite ?_ ?_|refine LeO.bind ?_ (fun _=> ?_)
  ·intro y0 y1 y2 y3 y4
   unfold zI.l0
   repeat' first
   | with_reducible first|exact ih0 _ _ _ _ _|exact ih1 _ _ _ _ _|exact ih2 _ _ _ _ _|exact ih3 _ _ _ _ _|exact ih4 _ _ _ _ _ _ _ _|exact ih5 _ _ _ _ _ _ _ _|exact LeO.refl _|exact LeO.none _|refine LeO.ite ?_ ?_|refine LeO.bind ?_ (fun _=> ?_)
  ·intro y0 y1 y2 y3 y4
   unfold zI.j2
   repeat' first
   | with_reducible first|exact ih0 _ _ _ _ _|exact ih1 _ _ _ _ _|exact ih2 _ _ _ _ _|exact ih3 _ _ _ _ _|exact ih4 _ _ _ _ _ _ _ _|exact ih5 _ _ _ _ _ _ _ _|exact LeO.refl _|exact LeO.none _|refine LeO.ite ?_ ?_|refine LeO.bind ?_ (fun _=> ?_)
  ·intro y0 y1 y2 y3 y4
   unfold zI.l1
   repeat' first
   | with_reducible first|exact ih0 _ _ _ _ _|exact ih1 _ _ _ _ _|exact ih2 _ _ _ _ _|exact ih3 _ _ _ _ _|exact ih4 _ _ _ _ _ _ _ _|exact ih5 _ _ _ _ _ _ _ _|exact LeO.refl _|exact LeO.none _|refine LeO.ite ?_ ?_|refine LeO.bind ?_ (fun _=> ?_)
  ·intro y0 y1 y2 y3 y4 y5 y6 y7
   unfold zI.j4
   repeat' first
   | with_reducible first|exact ih0 _ _ _ _ _|exact ih1 _ _ _ _ _|exact ih2 _ _ _ _ _|exact ih3 _ _ _ _ _|exact ih4 _ _ _ _ _ _ _ _|exact ih5 _ _ _ _ _ _ _ _|exact LeO.refl _|exact LeO.none _|refine LeO.ite ?_ ?_|refine LeO.bind ?_ (fun _=> ?_)
  ·intro y0 y1 y2 y3 y4 y5 y6 y7
   unfold zI.l2
   repeat' first
   | with_reducible first|exact ih0 _ _ _ _ _|exact ih1 _ _ _ _ _|exact ih2 _ _ _ _ _|exact ih3 _ _ _ _ _|exact ih4 _ _ _ _ _ _ _ _|exact ih5 _ _ _ _ _ _ _ _|exact LeO.refl _|exact LeO.none _|refine LeO.ite ?_ ?_|refine LeO.bind ?_ (fun _=> ?_)
theorem zI.mono:∀a0 a1 a2 a3 k,LeO (zI.f k a0 a1 a2 a3) (zI.f (k + 1) a0 a1 a2 a3):=by
 intro a0 a1 a2 a3 k;obtain ⟨ih0,ih1,ih2,ih3,ih4,ih5⟩:=zI.mono_l k
 unfold zI.f
 repeat' first
   | with_reducible first|exact ih0 _ _ _ _ _|exact ih1 _ _ _ _ _|exact ih2 _ _ _ _ _|exact ih3 _ _ _ _ _|exact ih4 _ _ _ _ _ _ _ _|exact ih5 _ _ _ _ _ _ _ _|exact LeO.refl _|exact LeO.none _|refine LeO.ite ?_ ?_|refine LeO.bind ?_ (fun _=> ?_)
set_option maxHeartbeats 8000000 in
set_option maxRecDepth 100000 in
theorem zI.calls (k:Nat) (a0_0:Int) (a0_1:Int) (vg:Option Addr) (vh:Nat) (l0_2:List Int) (vl:Option Addr) (vi:Nat) (l0_3:List (S42)) (r:Int) (w:World) (hr0_2:Kd.C (Kd.int .i64) w vg l0_2.length l0_2) (hc0_2:l0_2.length≤vh) (hr0_3:Kd.C k42 w vl l0_3.length l0_3) (hc0_3:l0_3.length≤vi) (h:zI.f k a0_0 a0_1 l0_2 l0_3=some r) :
  Calls Tryz.prog 40 #[.agg #[.int .i64 a0_0, .int .i64 a0_1, .slice vg l0_2.length vh, .slice vl l0_3.length vi]] w fun e w'=>e= .returned (.int .i64 r)∧Below w.heap.size w w':=by
 have hu25:=Tryz.underlying25;have hu42:=Tryz.underlying42;have hu70:=Tryz.underlying70;have vI:=zA.mk hr0_2;have vJ:=zA.mk hc0_2;clear hr0_2 hc0_2;have vp:=zA.mk hr0_3;have vL:=zA.mk hc0_3;clear hr0_3 hc0_3;have HB:=zA.mk (Below.refl w.heap.size w);have H:(if a0_0 < 1 then (zI.j0 k true a0_0 a0_1 l0_2 l0_3) else (if a0_0 > 60 then (zI.j0 k true a0_0 a0_1 l0_2 l0_3) else (if (l0_2.length:Int) < 1 then (zI.j0 k true a0_0 a0_1 l0_2 l0_3) else (if (l0_2.length:Int) > 500 then (zI.j0 k true a0_0 a0_1 l0_2 l0_3) else (if (l0_3.length:Int) < 1 then (zI.j0 k true a0_0 a0_1 l0_2 l0_3) else (zI.j0 k (decide ((l0_3.length:Int) > 2000)) a0_0 a0_1 l0_2 l0_3))))))=some r:=h;clear h;have HC2:=zA.mk H;clear H
 go_enter Tryz.func40,Tryz.ntmps40
 go_upto_region 1 with (first|((with_reducible refine zw (N:=1) rfl ?_);(try (refine yg (by rfl) ?_;dsimp only));refine yM (by rfl) (N:=1) (by rfl) (cs:= #[.int .i64 a0_0, .int .i64 a0_1, .slice vg l0_2.length vh, .slice vl l0_3.length vi]) (t:=25) Qm ?_;intro vP hg w3 hbox hb;have n0_:=zA.mk (zF Qc hb);have n1_:=zA.mk (hbox);have n2_:=zA.mk ((by rw [hg];exact (zD Qc):w.heap.size≤vP));have n3_:=zA.mk ((by rw [hg];exact (zD Qc):w.heap.size≤vP));clear HB;have HB:=n0_;have va:=n1_;have GW324:=n2_;have vE:=n3_;clear n0_ n1_ n2_ n3_ hb hbox hg))
 (try simp only [Act.put,List.setIfInBounds_toArray,List.set_cons_zero,List.set_cons_succ])
 go_cut [39] (fun v39 wc=>∃(kq:Nat) (x39_1:Bool),v39= .bool x39_1∧zA (zI.j0 kq x39_1 a0_0 a0_1 l0_2 l0_3=some r)∧zA (kq≤k)∧zA (wc.heap[vP]? =some (.cells #[.int .i64 a0_0, .int .i64 a0_1,(.slice vg l0_2.length vh),(.slice vl l0_3.length vi)] 25 (0,0)))∧zA (Below w.heap.size w wc))
 case first=>
  have H:=HC2.out;clear HC2
  by_cases c4:a0_0 < 1
  ·rw [if_pos c4] at H
   have c4b0:=decide_eq_true c4;clear c4
   (first|rw [c4b0]|(simp only [yl,yq];rw [c4b0])|skip)
   have H':=zA.mk H;clear H;have hcz5_0:=Qn va 0 rfl;have hcz5_1:=Qn va 1 rfl;have hcz5_2:=Qn va 2 rfl;have hcz5_3:=Qn va 3 rfl;have hfz5_0:=zB va.out 0;have hfz5_1:=zB va.out 1;have hfz5_2:=zB va.out 2;have hfz5_3:=zB va.out 3
   go_wp2
   go_meet
   case rel=>exact ⟨_,(true),Zk,H',⟨by first|omega|exact Nat.le_refl _⟩,⟨Qi va⟩,⟨by repeat (first|(with_reducible first|exact HB.out|apply zE|apply zC|apply zG|refine zJ ?_ vE.out)|exact HB.out)⟩⟩
  ·rw [if_neg c4] at H
   have c4b0:=decide_eq_false c4;clear c4
   (first|rw [c4b0]|(simp only [yl,yq];rw [c4b0])|skip)
   by_cases c6:a0_0 > 60
   ·rw [if_pos c6] at H
    have c6b0:=decide_eq_true c6;clear c6;have H':=zA.mk H;clear H;have Vi:=Qn va 0 rfl;have Vj:=Qn va 1 rfl;have Vz:=Qn va 2 rfl;have VA:=Qn va 3 rfl;have Vk:=zB va.out 0;have Vl:=zB va.out 1;have VB:=zB va.out 2;have VC:=zB va.out 3
    go_wp2
    go_meet
    case rel=>exact ⟨_,(true),Zk,H',⟨by first|omega|exact Nat.le_refl _⟩,⟨Qi va⟩,⟨by repeat (first|(with_reducible first|exact HB.out|apply zE|apply zC|apply zG|refine zJ ?_ vE.out)|exact HB.out)⟩⟩
   ·rw [if_neg c6] at H
    have c6b0:=decide_eq_false c6;clear c6
    by_cases c8:(l0_2.length:Int) < 1
    ·rw [if_pos c8] at H
     have c8b0:=decide_eq_true c8;have c8b1:decide (l0_2.length < 1)=true:=decide_eq_true (by omega);clear c8;have H':=zA.mk H;clear H;have wT:=Qn va 0 rfl;have wU:=Qn va 1 rfl;have Ve:=Qn va 2 rfl;have Vf:=Qn va 3 rfl;have wV:=zB va.out 0;have wW:=zB va.out 1;have Vg:=zB va.out 2;have Vh:=zB va.out 3
     go_wp2
     go_meet
     case rel=>exact ⟨_,(true),Zk,H',⟨by first|omega|exact Nat.le_refl _⟩,⟨Qi va⟩,⟨by repeat (first|(with_reducible first|exact HB.out|apply zE|apply zC|apply zG|refine zJ ?_ vE.out)|exact HB.out)⟩⟩
    ·rw [if_neg c8] at H
     have c8b0:=decide_eq_false c8;have c8b1:decide (l0_2.length < 1)=false:=decide_eq_false (by omega);clear c8
     by_cases c10:(l0_2.length:Int) > 500
     ·rw [if_pos c10] at H
      have c10b0:=decide_eq_true c10;have c10b1:decide (500 < l0_2.length)=true:=decide_eq_true (by omega);clear c10;have H':=zA.mk H;clear H;have ws:=Qn va 0 rfl;have wt:=Qn va 1 rfl;have wQ:=Qn va 2 rfl;have wR:=Qn va 3 rfl;have wu:=zB va.out 0;have wv:=zB va.out 1;have Vq:=zB va.out 2;have Vr:=zB va.out 3
      go_wp2
      go_meet
      case rel=>exact ⟨_,(true),Zk,H',⟨by first|omega|exact Nat.le_refl _⟩,⟨Qi va⟩,⟨by repeat (first|(with_reducible first|exact HB.out|apply zE|apply zC|apply zG|refine zJ ?_ vE.out)|exact HB.out)⟩⟩
     ·rw [if_neg c10] at H
      have c10b0:=decide_eq_false c10;have c10b1:decide (500 < l0_2.length)=false:=decide_eq_false (by omega);clear c10
      by_cases c12:(l0_3.length:Int) < 1
      ·rw [if_pos c12] at H
       have c12b0:=decide_eq_true c12;have c12b1:decide (l0_3.length < 1)=true:=decide_eq_true (by omega);clear c12;have H':=zA.mk H;clear H;have hcz13_0:=Qn va 0 rfl;have hcz13_1:=Qn va 1 rfl;have hcz13_2:=Qn va 2 rfl;have hcz13_3:=Qn va 3 rfl;have hfz13_0:=zB va.out 0;have hfz13_1:=zB va.out 1;have hfz13_2:=zB va.out 2;have hfz13_3:=zB va.out 3
       go_wp2
       go_meet
       case rel=>exact ⟨_,(true),Zk,H',⟨by first|omega|exact Nat.le_refl _⟩,⟨Qi va⟩,⟨by repeat (first|(with_reducible first|exact HB.out|apply zE|apply zC|apply zG|refine zJ ?_ vE.out)|exact HB.out)⟩⟩
      ·rw [if_neg c12] at H
       have c12b0:=decide_eq_false c12;have c12b1:decide (l0_3.length < 1)=false:=decide_eq_false (by omega);clear c12;have H':=zA.mk H;clear H;have hcz14_0:=Qn va 0 rfl;have hcz14_1:=Qn va 1 rfl;have hcz14_2:=Qn va 2 rfl;have hcz14_3:=Qn va 3 rfl;have hfz14_0:=zB va.out 0;have hfz14_1:=zB va.out 1;have hfz14_2:=zB va.out 2;have hfz14_3:=zB va.out 3
       go_wp2
       go_meet
       case rel=>exact ⟨_,(decide ((l0_3.length:Int) > 2000)),Zk,H',⟨by first|omega|exact Nat.le_refl _⟩,⟨Qi va⟩,⟨by repeat (first|(with_reducible first|exact HB.out|apply zE|apply zC|apply zG|refine zJ ?_ vE.out)|exact HB.out)⟩⟩
 case rest=>
  clear HC2;(try clear c1);(try clear p2);(try clear c4);(try clear c4b0);(try clear c6);(try clear c6b0);(try clear c8);(try clear c8b0);(try clear c8b1);(try clear c10);(try clear c10b0);(try clear c10b1);(try clear c12);(try clear c12b0);(try clear c12b1);(try clear ws);(try clear wt);(try clear wQ);(try clear wR);(try clear hcz13_0);(try clear hcz13_1);(try clear hcz13_2);(try clear hcz13_3);(try clear hcz14_0);(try clear hcz14_1);(try clear hcz14_2);(try clear hcz14_3);(try clear hcz5_0);(try clear hcz5_1);(try clear hcz5_2);(try clear hcz5_3);(try clear Vi);(try clear Vj);(try clear Vz);(try clear VA);(try clear wT);(try clear wU);(try clear Ve);(try clear Vf);(try clear wu);(try clear wv);(try clear Vq);(try clear Vr);(try clear hfz13_0);(try clear hfz13_1);(try clear hfz13_2);(try clear hfz13_3);(try clear hfz14_0);(try clear hfz14_1);(try clear hfz14_2);(try clear hfz14_3);(try clear hfz5_0);(try clear hfz5_1);(try clear hfz5_2);(try clear hfz5_3);(try clear Vk);(try clear Vl);(try clear VB);(try clear VC);(try clear wV);(try clear wW);(try clear Vg);(try clear Vh);obtain ⟨kq,x39_1,rfl,HA,HJ1,va,HB⟩:=hcut;cases kq with
  | zero=>exact absurd HA.out (by simp [zI.j0])
  | succ kj1=>
   have H:=HA.out;clear HA;simp only [zI.j0] at H
   by_cases c15:x39_1=true
   ·subst c15
    have H1:(some 8)=some r:=by rw [if_pos rfl] at H;exact H
    clear H;have H:=H1;clear H1;obtain rfl:=Option.some.inj H
    go_wp2
    go_ret
    exact ⟨by first|rfl|(simp [zR,zS] <;> rfl)|(simp [*,zR,zS] <;> rfl),by repeat (first|(with_reducible first|exact HB.out|apply zE|apply zC|apply zG|refine zJ ?_ vE.out)|exact HB.out)⟩
   ·replace c15:=Bool.eq_false_iff.mpr c15
    subst c15
    have H1:(zI.l0 kj1 0 a0_0 a0_1 l0_2 l0_3)=some r:=by rw [if_neg (show ¬(false=true) by decide)] at H;exact H
    clear H;have H:=H1;clear H1;have H':=zA.mk H;clear H
    go_wp2
    go_loopg [3] kj1 (fun kq v3 w'=>∃(x3_2:Int),v3= .int .i64 x3_2∧zA (zI.l0 kq x3_2 a0_0 a0_1 l0_2 l0_3=some r)∧zA (kq≤kj1)∧zA (w'.heap[vP]? =some (.cells #[.int .i64 a0_0, .int .i64 a0_1,(.slice vg l0_2.length vh),(.slice vl l0_3.length vi)] 25 (0,0)))∧zA (Below w.heap.size w w'))
    case atStart=>exact ⟨(0),Zk,H',⟨Nat.le_refl _⟩,⟨Qi va⟩,⟨by repeat (first|(with_reducible first|exact HB.out|apply zE|apply zC|apply zG|refine zJ ?_ vE.out)|exact HB.out)⟩⟩
    case round=>
     clear H';(try clear c1);(try clear p2);(try clear c4);(try clear c4b0);(try clear c6);(try clear c6b0);(try clear c8);(try clear c8b0);(try clear c8b1);(try clear c10);(try clear c10b0);(try clear c10b1);(try clear c12);(try clear c12b0);(try clear c12b1);(try clear c15);(try clear ws);(try clear wt);(try clear wQ);(try clear wR);(try clear hcz13_0);(try clear hcz13_1);(try clear hcz13_2);(try clear hcz13_3);(try clear hcz14_0);(try clear hcz14_1);(try clear hcz14_2);(try clear hcz14_3);(try clear hcz5_0);(try clear hcz5_1);(try clear hcz5_2);(try clear hcz5_3);(try clear Vi);(try clear Vj);(try clear Vz);(try clear VA);(try clear wT);(try clear wU);(try clear Ve);(try clear Vf);(try clear wu);(try clear wv);(try clear Vq);(try clear Vr);(try clear hfz13_0);(try clear hfz13_1);(try clear hfz13_2);(try clear hfz13_3);(try clear hfz14_0);(try clear hfz14_1);(try clear hfz14_2);(try clear hfz14_3);(try clear hfz5_0);(try clear hfz5_1);(try clear hfz5_2);(try clear hfz5_3);(try clear Vk);(try clear Vl);(try clear VB);(try clear VC);(try clear wV);(try clear wW);(try clear Vg);(try clear Vh);(try clear p2);obtain ⟨x3_2,rfl,HA,HK2,va,HB⟩:=hrel;cases gk with
     | zero=>exact absurd HA.out (by simp [zI.l0])
     | succ k2=>
      have H:=HA.out;clear HA;simp only [zI.l0] at H
      by_cases c16:x3_2 < (l0_3.length:Int)
      ·rw [if_pos c16] at H
       have c16b0:=decide_eq_true c16;clear c16
       by_cases c17:0≤x3_2
       ·rw [if_pos c17] at H
        have c17b0:=decide_eq_true c17;clear c17
        by_cases c18:(((zH l0_3 x3_2).f1).length:Int) > 500
        ·rw [if_pos c18] at H
         have c18b0:=decide_eq_true c18;have c18b1:decide (500 < ((zH l0_3 x3_2).f1).length)=true:=decide_eq_true (by omega);clear c18;obtain rfl:=Option.some.inj H;have hcz19_0:=Qn va 0 rfl;have hcz19_1:=Qn va 1 rfl;have hcz19_2:=Qn va 2 rfl;have hcz19_3:=Qn va 3 rfl;have hfz19_0:=zB va.out 0;have hfz19_1:=zB va.out 1;have hfz19_2:=zB va.out 2;have hfz19_3:=zB va.out 3;have p325:0≤(x3_2:Int):=Qa;have q325:x3_2 < (l0_3.length:Int):=Qa;obtain ⟨ad325,A325_1,c325_1,e325,hx325_0,hx325_1,hl325_1,hi325_1⟩:=ZE vp.out x3_2 p325 q325;cases e325;replace hx325_0:=Qp HB hx325_0;replace hx325_1:=Qp HB hx325_1;have HR325_1:=zA.mk hi325_1;have HC325_1:=zA.mk hl325_1;clear hi325_1 hl325_1;replace p325:=eq_true p325;replace q325:=eq_true q325
         go_wp2
         go_ret
         exact ⟨by first|rfl|(simp [zR,zS] <;> rfl)|(simp [*,zR,zS] <;> rfl),by repeat (first|(with_reducible first|exact HB.out|apply zE|apply zC|apply zG|refine zJ ?_ vE.out)|exact HB.out)⟩
        ·rw [if_neg c18] at H
         have c18b0:=decide_eq_false c18;have c18b1:decide (500 < ((zH l0_3 x3_2).f1).length)=false:=decide_eq_false (by omega);clear c18;have H':=zA.mk H;clear H;have hcz20_0:=Qn va 0 rfl;have hcz20_1:=Qn va 1 rfl;have hcz20_2:=Qn va 2 rfl;have hcz20_3:=Qn va 3 rfl;have hfz20_0:=zB va.out 0;have hfz20_1:=zB va.out 1;have hfz20_2:=zB va.out 2;have hfz20_3:=zB va.out 3;have p325:0≤(x3_2:Int):=Qa;have q325:x3_2 < (l0_3.length:Int):=Qa;obtain ⟨ad325,A325_1,c325_1,e325,hx325_0,hx325_1,hl325_1,hi325_1⟩:=ZE vp.out x3_2 p325 q325;cases e325;replace hx325_0:=Qp HB hx325_0;replace hx325_1:=Qp HB hx325_1;have HR325_1:=zA.mk hi325_1;have HC325_1:=zA.mk hl325_1;clear hi325_1 hl325_1;replace p325:=eq_true p325;replace q325:=eq_true q325
         go_wp2
         go_roundg k2
         case measure=>have:=HJ1.out;have:=HK2.out;omega
         case rel=>exact ⟨(wrap64 (x3_2 + 1)),Zk,H',⟨by have:=HJ1.out;have:=HK2.out;omega⟩,⟨Qi va⟩,⟨by repeat (first|(with_reducible first|exact HB.out|apply zE|apply zC|apply zG|refine zJ ?_ vE.out)|exact HB.out)⟩⟩
       ·rw [if_neg c17] at H
        exact absurd H (by simp)
      ·rw [if_neg c16] at H
       have c16b0:=decide_eq_false c16;clear c16;have HC21:=zA.mk H;clear H;have hcz22_0:=Qn va 0 rfl;have hcz22_1:=Qn va 1 rfl;have hcz22_2:=Qn va 2 rfl;have hcz22_3:=Qn va 3 rfl;have hfz22_0:=zB va.out 0;have hfz22_1:=zB va.out 1;have hfz22_2:=zB va.out 2;have hfz22_3:=zB va.out 3
       go_upto_region 8 with (fail)
       go_cut [62] (fun v62 wc=>∃(kq:Nat) (x62_20:Bool),v62= .bool x62_20∧zA (zI.j2 kq x62_20 a0_0 a0_1 l0_2 l0_3=some r)∧zA (kq≤k2)∧zA (wc.heap[vP]? =some (.cells #[.int .i64 a0_0, .int .i64 a0_1,(.slice vg l0_2.length vh),(.slice vl l0_3.length vi)] 25 (0,0)))∧zA (Below w.heap.size w wc))
       case first=>
        have H:=HC21.out;clear HC21
        by_cases c23:a0_1 < 1
        ·rw [if_pos c23] at H
         have c23b0:=decide_eq_true c23;clear c23
         (first|rw [c23b0]|(simp only [yl,yq];rw [c23b0])|skip)
         have H':=zA.mk H;clear H;have hcz24_0:=Qn va 0 rfl;have hcz24_1:=Qn va 1 rfl;have hcz24_2:=Qn va 2 rfl;have hcz24_3:=Qn va 3 rfl;have hfz24_0:=zB va.out 0;have hfz24_1:=zB va.out 1;have hfz24_2:=zB va.out 2;have hfz24_3:=zB va.out 3
         go_wp2
         go_meet
         case rel=>exact ⟨_,(true),Zk,H',⟨by have:=HJ1.out;have:=HK2.out;first|omega|exact Nat.le_refl _⟩,⟨Qi va⟩,⟨by repeat (first|(with_reducible first|exact HB.out|apply zE|apply zC|apply zG|refine zJ ?_ vE.out)|exact HB.out)⟩⟩
        ·rw [if_neg c23] at H
         have c23b0:=decide_eq_false c23;clear c23
         (first|rw [c23b0]|(simp only [yl,yq];rw [c23b0])|skip)
         have H':=zA.mk H;clear H;have hcz25_0:=Qn va 0 rfl;have hcz25_1:=Qn va 1 rfl;have hcz25_2:=Qn va 2 rfl;have hcz25_3:=Qn va 3 rfl;have hfz25_0:=zB va.out 0;have hfz25_1:=zB va.out 1;have hfz25_2:=zB va.out 2;have hfz25_3:=zB va.out 3
         go_wp2
         go_meet
         case rel=>exact ⟨_,(decide (a0_1 > 4)),Zk,H',⟨by have:=HJ1.out;have:=HK2.out;first|omega|exact Nat.le_refl _⟩,⟨Qi va⟩,⟨by repeat (first|(with_reducible first|exact HB.out|apply zE|apply zC|apply zG|refine zJ ?_ vE.out)|exact HB.out)⟩⟩
       case rest=>
        clear HC21;(try clear c1);(try clear c2);(try clear p2);(try clear c3);(try clear p3);(try clear q3);(try clear hx3);(try clear c4);(try clear c4b0);(try clear c6);(try clear c6b0);(try clear p6);(try clear c8);(try clear c8b0);(try clear c8b1);(try clear c10);(try clear c10b0);(try clear c10b1);(try clear c12);(try clear c12b0);(try clear c12b1);(try clear c15);(try clear c16);(try clear c16b0);(try clear c17);(try clear c17b0);(try clear c18);(try clear c18b0);(try clear c18b1);(try clear c23);(try clear c23b0);(try clear ws);(try clear wt);(try clear wQ);(try clear wR);(try clear hcz13_0);(try clear hcz13_1);(try clear hcz13_2);(try clear hcz13_3);(try clear hcz14_0);(try clear hcz14_1);(try clear hcz14_2);(try clear hcz14_3);(try clear hcz19_0);(try clear hcz19_1);(try clear hcz19_2);(try clear hcz19_3);(try clear hcz20_0);(try clear hcz20_1);(try clear hcz20_2);(try clear hcz20_3);(try clear hcz22_0);(try clear hcz22_1);(try clear hcz22_2);(try clear hcz22_3);(try clear hcz24_0);(try clear hcz24_1);(try clear hcz24_2);(try clear hcz24_3);(try clear hcz25_0);(try clear hcz25_1);(try clear hcz25_2);(try clear hcz25_3);(try clear hcz5_0);(try clear hcz5_1);(try clear hcz5_2);(try clear hcz5_3);(try clear Vi);(try clear Vj);(try clear Vz);(try clear VA);(try clear wT);(try clear wU);(try clear Ve);(try clear Vf);(try clear wu);(try clear wv);(try clear Vq);(try clear Vr);(try clear hfz13_0);(try clear hfz13_1);(try clear hfz13_2);(try clear hfz13_3);(try clear hfz14_0);(try clear hfz14_1);(try clear hfz14_2);(try clear hfz14_3);(try clear hfz19_0);(try clear hfz19_1);(try clear hfz19_2);(try clear hfz19_3);(try clear hfz20_0);(try clear hfz20_1);(try clear hfz20_2);(try clear hfz20_3);(try clear hfz22_0);(try clear hfz22_1);(try clear hfz22_2);(try clear hfz22_3);(try clear hfz24_0);(try clear hfz24_1);(try clear hfz24_2);(try clear hfz24_3);(try clear hfz25_0);(try clear hfz25_1);(try clear hfz25_2);(try clear hfz25_3);(try clear hfz5_0);(try clear hfz5_1);(try clear hfz5_2);(try clear hfz5_3);(try clear Vk);(try clear Vl);(try clear VB);(try clear VC);(try clear wV);(try clear wW);(try clear Vg);(try clear Vh);(try clear hx325_0);(try clear hx325_1);(try clear p2);(try clear p325);(try clear q325);obtain ⟨kq,x62_20,rfl,HA,HJ20,va,HB⟩:=hcut;cases kq with
        | zero=>exact absurd HA.out (by simp [zI.j2])
        | succ kj20=>
         have H:=HA.out;clear HA;simp only [zI.j2] at H
         by_cases c26:x62_20=true
         ·subst c26
          have H1:(some 11)=some r:=by rw [if_pos rfl] at H;exact H
          clear H;have H:=H1;clear H1;obtain rfl:=Option.some.inj H
          go_wp2
          go_ret
          exact ⟨by first|rfl|(simp [zR,zS] <;> rfl)|(simp [*,zR,zS] <;> rfl),by repeat (first|(with_reducible first|exact HB.out|apply zE|apply zC|apply zG|refine zJ ?_ vE.out)|exact HB.out)⟩
         ·replace c26:=Bool.eq_false_iff.mpr c26
          subst c26
          have H1:(zI.l1 kj20 0 a0_0 a0_1 l0_2 l0_3)=some r:=by rw [if_neg (show ¬(false=true) by decide)] at H;exact H
          clear H;have H:=H1;clear H1;have H':=zA.mk H;clear H
          go_wp2
          go_loopg [4] kj20 (fun kq v4 w'=>∃(x4_4:Int),v4= .int .i64 x4_4∧zA (zI.l1 kq x4_4 a0_0 a0_1 l0_2 l0_3=some r)∧zA (kq≤kj20)∧zA (w'.heap[vP]? =some (.cells #[.int .i64 a0_0, .int .i64 a0_1,(.slice vg l0_2.length vh),(.slice vl l0_3.length vi)] 25 (0,0)))∧zA (Below w.heap.size w w'))
          case atStart=>exact ⟨(0),Zk,H',⟨Nat.le_refl _⟩,⟨Qi va⟩,⟨by repeat (first|(with_reducible first|exact HB.out|apply zE|apply zC|apply zG|refine zJ ?_ vE.out)|exact HB.out)⟩⟩
          case round=>
           clear H';(try clear c1);(try clear c2);(try clear p2);(try clear c3);(try clear p3);(try clear q3);(try clear hx3);(try clear c4);(try clear c4b0);(try clear c6);(try clear c6b0);(try clear p6);(try clear c8);(try clear c8b0);(try clear c8b1);(try clear c10);(try clear c10b0);(try clear c10b1);(try clear c12);(try clear c12b0);(try clear c12b1);(try clear c15);(try clear c16);(try clear c16b0);(try clear c17);(try clear c17b0);(try clear c18);(try clear c18b0);(try clear c18b1);(try clear c23);(try clear c23b0);(try clear c26);(try clear ws);(try clear wt);(try clear wQ);(try clear wR);(try clear hcz13_0);(try clear hcz13_1);(try clear hcz13_2);(try clear hcz13_3);(try clear hcz14_0);(try clear hcz14_1);(try clear hcz14_2);(try clear hcz14_3);(try clear hcz19_0);(try clear hcz19_1);(try clear hcz19_2);(try clear hcz19_3);(try clear hcz20_0);(try clear hcz20_1);(try clear hcz20_2);(try clear hcz20_3);(try clear hcz22_0);(try clear hcz22_1);(try clear hcz22_2);(try clear hcz22_3);(try clear hcz24_0);(try clear hcz24_1);(try clear hcz24_2);(try clear hcz24_3);(try clear hcz25_0);(try clear hcz25_1);(try clear hcz25_2);(try clear hcz25_3);(try clear hcz5_0);(try clear hcz5_1);(try clear hcz5_2);(try clear hcz5_3);(try clear Vi);(try clear Vj);(try clear Vz);(try clear VA);(try clear wT);(try clear wU);(try clear Ve);(try clear Vf);(try clear wu);(try clear wv);(try clear Vq);(try clear Vr);(try clear hfz13_0);(try clear hfz13_1);(try clear hfz13_2);(try clear hfz13_3);(try clear hfz14_0);(try clear hfz14_1);(try clear hfz14_2);(try clear hfz14_3);(try clear hfz19_0);(try clear hfz19_1);(try clear hfz19_2);(try clear hfz19_3);(try clear hfz20_0);(try clear hfz20_1);(try clear hfz20_2);(try clear hfz20_3);(try clear hfz22_0);(try clear hfz22_1);(try clear hfz22_2);(try clear hfz22_3);(try clear hfz24_0);(try clear hfz24_1);(try clear hfz24_2);(try clear hfz24_3);(try clear hfz25_0);(try clear hfz25_1);(try clear hfz25_2);(try clear hfz25_3);(try clear hfz5_0);(try clear hfz5_1);(try clear hfz5_2);(try clear hfz5_3);(try clear Vk);(try clear Vl);(try clear VB);(try clear VC);(try clear wV);(try clear wW);(try clear Vg);(try clear Vh);(try clear hx325_0);(try clear hx325_1);(try clear p2);(try clear p3);(try clear p325);(try clear p6);(try clear q3);(try clear q325);obtain ⟨x4_4,rfl,HA,HK4,va,HB⟩:=hrel;cases gk with
           | zero=>exact absurd HA.out (by simp [zI.l1])
           | succ k4=>
            have H:=HA.out;clear HA;simp only [zI.l1] at H
            by_cases c27:x4_4 < (l0_3.length:Int)
            ·rw [if_pos c27] at H
             have c27b0:=decide_eq_true c27;clear c27
             by_cases c28:0≤x4_4
             ·rw [if_pos c28] at H
              have c28b0:=decide_eq_true c28;clear c28;have HC29:=zA.mk H;clear H;have hcz30_0:=Qn va 0 rfl;have hcz30_1:=Qn va 1 rfl;have hcz30_2:=Qn va 2 rfl;have hcz30_3:=Qn va 3 rfl;have hfz30_0:=zB va.out 0;have hfz30_1:=zB va.out 1;have hfz30_2:=zB va.out 2;have hfz30_3:=zB va.out 3;have p326:0≤(x4_4:Int):=Qa;have q326:x4_4 < (l0_3.length:Int):=Qa;obtain ⟨ad326,A326_1,c326_1,e326,hx326_0,hx326_1,hl326_1,hi326_1⟩:=ZE vp.out x4_4 p326 q326;cases e326;replace hx326_0:=Qp HB hx326_0;replace hx326_1:=Qp HB hx326_1;have HR326_1:=zA.mk hi326_1;have HC326_1:=zA.mk hl326_1;clear hi326_1 hl326_1;replace p326:=eq_true p326;replace q326:=eq_true q326
              go_upto_region 14 with (first|((with_reducible refine zw (N:=5) rfl ?_);(try (refine yg (by rfl) ?_;dsimp only));refine yM (by rfl) (N:=5) (by rfl) (cs:= #[.int .i64 0, .slice none 0 0]) (t:=42) Qm ?_;intro wi hg w31 hbox hb;have n0_:=zA.mk (zZ (g:=vP) (Qi va) hb);have n1_:=zA.mk (zF (Qd vE) hb);have n2_:=zA.mk (hbox);have n3_:=zA.mk ((by rw [hg];exact (zD (Qd vE)):w.heap.size≤wi));have n4_:=zA.mk ((by rw [hg];exact (zD (Qd vE)):w.heap.size≤wi));have n5_:=zA.mk ((by rw [hg];exact Nat.ne_of_lt (yK (g:=vP) (Qi va)):vP≠wi));have n6_:=zA.mk ((by rw [hg];exact Nat.ne_of_gt (yK (g:=vP) (Qi va)):wi≠vP));clear va HB;have va:=n0_;have HB:=n1_;have vq:=n2_;have GW327:=n3_;have wx:=n4_;have NB324_327:=n5_;have NB327_324:=n6_;clear n0_ n1_ n2_ n3_ n4_ n5_ n6_ hb hbox hg;have hnb32:=NB327_324.out;have hnc32:=NB324_327.out;have hcz33_0:=Qn vq 0 rfl;have hcz33_1:=Qn vq 1 rfl;have hfz33_0:=zB vq.out 0;have hfz33_1:=zB vq.out 1))
              (try simp only [Act.put,List.setIfInBounds_toArray,List.set_cons_zero,List.set_cons_succ])
              go_cut [85] (fun v85 wc=>∃(kq:Nat) (x85_28:Bool),v85= .bool x85_28∧zA (zI.j4 kq x4_4 x85_28 a0_0 a0_1 l0_2 l0_3 ((zH l0_3 x4_4).f0) ((zH l0_3 x4_4).f1)=some r)∧zA (kq≤k4)∧zA (wc.heap[vP]? =some (.cells #[.int .i64 a0_0, .int .i64 a0_1,(.slice vg l0_2.length vh),(.slice (some ad326) l0_3.length vi)] 25 (0,0)))∧zA (wc.heap[wi]? =some (.cells #[.int .i64 ((zH l0_3 x4_4).f0),(.slice A326_1 ((zH l0_3 x4_4).f1).length c326_1)] 42 (0,0)))∧zA (Below w.heap.size w wc))
              case first=>
               have H:=HC29.out;clear HC29
               by_cases c34:((zH l0_3 x4_4).f0) < 0
               ·rw [if_pos c34] at H
                have c34b0:=decide_eq_true c34;clear c34
                (first|rw [c34b0]|(simp only [yl,yq];rw [c34b0])|skip)
                have H':=zA.mk H;clear H;have hnb35:=NB327_324.out;have hnc35:=NB324_327.out;have hcz36_0:=Qn vq 0 rfl;have hcz36_1:=Qn vq 1 rfl;have hfz36_0:=zB vq.out 0;have hfz36_1:=zB vq.out 1
                go_wp2
                go_meet
                case rel=>exact ⟨_,(true),Zk,H',⟨by have:=HJ1.out;have:=HK2.out;have:=HJ20.out;have:=HK4.out;first|omega|exact Nat.le_refl _⟩,⟨by (with_reducible repeat (first|refine zO ?_ _|refine zP ?_|refine zL ?_ _));refine yQ ?_ NB324_327.out _;(with_reducible repeat (first|refine zO ?_ _|refine zP ?_|refine zL ?_ _));refine yQ ?_ NB324_327.out _;(with_reducible repeat (first|refine zO ?_ _|refine zP ?_|refine zL ?_ _));exact va.out⟩,⟨by (with_reducible repeat (first|refine zO ?_ _|refine zP ?_|refine zL ?_ _));refine yd (cs:= #[.int .i64 ((zH l0_3 x4_4).f0), .slice none 0 0]) ?_ 1 _ rfl;(with_reducible repeat (first|refine zO ?_ _|refine zP ?_|refine zL ?_ _));refine yd (cs:= #[.int .i64 0, .slice none 0 0]) ?_ 0 _ rfl;(with_reducible repeat (first|refine zO ?_ _|refine zP ?_|refine zL ?_ _));exact vq.out⟩,⟨by repeat (first|(with_reducible first|exact HB.out|apply zE|apply zC|apply zG|refine zJ ?_ vE.out|refine zJ ?_ wx.out)|exact HB.out)⟩⟩
               ·rw [if_neg c34] at H
                have c34b0:=decide_eq_false c34;clear c34
                (first|rw [c34b0]|(simp only [yl,yq];rw [c34b0])|skip)
                have H':=zA.mk H;clear H;have hnb37:=NB327_324.out;have hnc37:=NB324_327.out;have hcz38_0:=Qn vq 0 rfl;have hcz38_1:=Qn vq 1 rfl;have hfz38_0:=zB vq.out 0;have hfz38_1:=zB vq.out 1;have hcz39_0:=Qn va 0 rfl;have hcz39_1:=Qn va 1 rfl;have hcz39_2:=Qn va 2 rfl;have hcz39_3:=Qn va 3 rfl;have hfz39_0:=zB va.out 0;have hfz39_1:=zB va.out 1;have hfz39_2:=zB va.out 2;have hfz39_3:=zB va.out 3
                go_wp2
                go_meet
                case rel=>exact ⟨_,(decide (((zH l0_3 x4_4).f0)≥(l0_2.length:Int))),Zk,H',⟨by have:=HJ1.out;have:=HK2.out;have:=HJ20.out;have:=HK4.out;first|omega|exact Nat.le_refl _⟩,⟨by (with_reducible repeat (first|refine zO ?_ _|refine zP ?_|refine zL ?_ _));refine yQ ?_ NB324_327.out _;(with_reducible repeat (first|refine zO ?_ _|refine zP ?_|refine zL ?_ _));refine yQ ?_ NB324_327.out _;(with_reducible repeat (first|refine zO ?_ _|refine zP ?_|refine zL ?_ _));exact va.out⟩,⟨by (with_reducible repeat (first|refine zO ?_ _|refine zP ?_|refine zL ?_ _));refine yd (cs:= #[.int .i64 ((zH l0_3 x4_4).f0), .slice none 0 0]) ?_ 1 _ rfl;(with_reducible repeat (first|refine zO ?_ _|refine zP ?_|refine zL ?_ _));refine yd (cs:= #[.int .i64 0, .slice none 0 0]) ?_ 0 _ rfl;(with_reducible repeat (first|refine zO ?_ _|refine zP ?_|refine zL ?_ _));exact vq.out⟩,⟨by repeat (first|(with_reducible first|exact HB.out|apply zE|apply zC|apply zG|refine zJ ?_ vE.out|refine zJ ?_ wx.out)|exact HB.out)⟩⟩
              case rest=>
               clear HC29;(try clear c1);(try clear c2);(try clear p2);(try clear c3);(try clear p3);(try clear q3);(try clear hx3);(try clear c4);(try clear c4b0);(try clear c6);(try clear c6b0);(try clear p6);(try clear c8);(try clear c8b0);(try clear c8b1);(try clear c10);(try clear c10b0);(try clear c10b1);(try clear c12);(try clear c12b0);(try clear c12b1);(try clear c15);(try clear c16);(try clear c16b0);(try clear c17);(try clear c17b0);(try clear c18);(try clear c18b0);(try clear c18b1);(try clear c23);(try clear c23b0);(try clear c26);(try clear c27);(try clear c27b0);(try clear c28);(try clear c28b0);(try clear c32);(try clear p32);(try clear q32);(try clear hx32);(try clear c34);(try clear c34b0);(try clear c35);(try clear c37);(try clear ws);(try clear wt);(try clear wQ);(try clear wR);(try clear hcz13_0);(try clear hcz13_1);(try clear hcz13_2);(try clear hcz13_3);(try clear hcz14_0);(try clear hcz14_1);(try clear hcz14_2);(try clear hcz14_3);(try clear hcz19_0);(try clear hcz19_1);(try clear hcz19_2);(try clear hcz19_3);(try clear hcz20_0);(try clear hcz20_1);(try clear hcz20_2);(try clear hcz20_3);(try clear hcz22_0);(try clear hcz22_1);(try clear hcz22_2);(try clear hcz22_3);(try clear hcz24_0);(try clear hcz24_1);(try clear hcz24_2);(try clear hcz24_3);(try clear hcz25_0);(try clear hcz25_1);(try clear hcz25_2);(try clear hcz25_3);(try clear hcz30_0);(try clear hcz30_1);(try clear hcz30_2);(try clear hcz30_3);(try clear hcz33_0);(try clear hcz33_1);(try clear hcz36_0);(try clear hcz36_1);(try clear hcz38_0);(try clear hcz38_1);(try clear hcz39_0);(try clear hcz39_1);(try clear hcz39_2);(try clear hcz39_3);(try clear hcz5_0);(try clear hcz5_1);(try clear hcz5_2);(try clear hcz5_3);(try clear Vi);(try clear Vj);(try clear Vz);(try clear VA);(try clear wT);(try clear wU);(try clear Ve);(try clear Vf);(try clear wu);(try clear wv);(try clear Vq);(try clear Vr);(try clear hfz13_0);(try clear hfz13_1);(try clear hfz13_2);(try clear hfz13_3);(try clear hfz14_0);(try clear hfz14_1);(try clear hfz14_2);(try clear hfz14_3);(try clear hfz19_0);(try clear hfz19_1);(try clear hfz19_2);(try clear hfz19_3);(try clear hfz20_0);(try clear hfz20_1);(try clear hfz20_2);(try clear hfz20_3);(try clear hfz22_0);(try clear hfz22_1);(try clear hfz22_2);(try clear hfz22_3);(try clear hfz24_0);(try clear hfz24_1);(try clear hfz24_2);(try clear hfz24_3);(try clear hfz25_0);(try clear hfz25_1);(try clear hfz25_2);(try clear hfz25_3);(try clear hfz30_0);(try clear hfz30_1);(try clear hfz30_2);(try clear hfz30_3);(try clear hfz33_0);(try clear hfz33_1);(try clear hfz36_0);(try clear hfz36_1);(try clear hfz38_0);(try clear hfz38_1);(try clear hfz39_0);(try clear hfz39_1);(try clear hfz39_2);(try clear hfz39_3);(try clear hfz5_0);(try clear hfz5_1);(try clear hfz5_2);(try clear hfz5_3);(try clear Vk);(try clear Vl);(try clear VB);(try clear VC);(try clear wV);(try clear wW);(try clear Vg);(try clear Vh);(try clear hx325_0);(try clear hx325_1);(try clear hx326_0);(try clear hx326_1);(try clear p2);(try clear p3);(try clear p325);(try clear p326);(try clear p6);(try clear q3);(try clear q325);(try clear q326);obtain ⟨kq,x85_28,rfl,HA,HJ28,va,vq,HB⟩:=hcut;cases kq with
               | zero=>exact absurd HA.out (by simp [zI.j4])
               | succ kj28=>
                have H:=HA.out;clear HA;simp only [zI.j4] at H
                by_cases c40:x85_28=true
                ·subst c40
                 have H1:(some 4)=some r:=by rw [if_pos rfl] at H;exact H
                 clear H;have H:=H1;clear H1;obtain rfl:=Option.some.inj H
                 go_wp2
                 go_ret
                 exact ⟨by first|rfl|(simp [zR,zS] <;> rfl)|(simp [*,zR,zS] <;> rfl),by repeat (first|(with_reducible first|exact HB.out|apply zE|apply zC|apply zG|refine zJ ?_ vE.out|refine zJ ?_ wx.out)|exact HB.out)⟩
                ·replace c40:=Bool.eq_false_iff.mpr c40
                 subst c40
                 have H1:(zI.l2 kj28 x4_4 0 a0_0 a0_1 l0_2 l0_3 ((zH l0_3 x4_4).f0) ((zH l0_3 x4_4).f1))=some r:=by rw [if_neg (show ¬(false=true) by decide)] at H;exact H
                 clear H;have H:=H1;clear H1;have H':=zA.mk H;clear H
                 go_wp2
                 go_loopg [6] kj28 (fun kq v6 w'=>∃(x6_6:Int),v6= .int .i64 x6_6∧zA (zI.l2 kq x4_4 x6_6 a0_0 a0_1 l0_2 l0_3 ((zH l0_3 x4_4).f0) ((zH l0_3 x4_4).f1)=some r)∧zA (kq≤kj28)∧zA (w'.heap[vP]? =some (.cells #[.int .i64 a0_0, .int .i64 a0_1,(.slice vg l0_2.length vh),(.slice (some ad326) l0_3.length vi)] 25 (0,0)))∧zA (w'.heap[wi]? =some (.cells #[.int .i64 ((zH l0_3 x4_4).f0),(.slice A326_1 ((zH l0_3 x4_4).f1).length c326_1)] 42 (0,0)))∧zA (Below w.heap.size w w'))
                 case atStart=>exact ⟨(0),Zk,H',⟨Nat.le_refl _⟩,⟨Qi va⟩,⟨Qi vq⟩,⟨by repeat (first|(with_reducible first|exact HB.out|apply zE|apply zC|apply zG|refine zJ ?_ vE.out|refine zJ ?_ wx.out)|exact HB.out)⟩⟩
                 case round=>
                  clear H';(try clear c1);(try clear c2);(try clear p2);(try clear c3);(try clear p3);(try clear q3);(try clear hx3);(try clear c4);(try clear c4b0);(try clear c6);(try clear c6b0);(try clear p6);(try clear c8);(try clear c8b0);(try clear c8b1);(try clear c10);(try clear c10b0);(try clear c10b1);(try clear c12);(try clear c12b0);(try clear c12b1);(try clear c15);(try clear c16);(try clear c16b0);(try clear c17);(try clear c17b0);(try clear c18);(try clear c18b0);(try clear c18b1);(try clear c23);(try clear c23b0);(try clear c26);(try clear c27);(try clear c27b0);(try clear c28);(try clear c28b0);(try clear c32);(try clear p32);(try clear q32);(try clear hx32);(try clear c34);(try clear c34b0);(try clear c35);(try clear c37);(try clear c40);(try clear ws);(try clear wt);(try clear wQ);(try clear wR);(try clear hcz13_0);(try clear hcz13_1);(try clear hcz13_2);(try clear hcz13_3);(try clear hcz14_0);(try clear hcz14_1);(try clear hcz14_2);(try clear hcz14_3);(try clear hcz19_0);(try clear hcz19_1);(try clear hcz19_2);(try clear hcz19_3);(try clear hcz20_0);(try clear hcz20_1);(try clear hcz20_2);(try clear hcz20_3);(try clear hcz22_0);(try clear hcz22_1);(try clear hcz22_2);(try clear hcz22_3);(try clear hcz24_0);(try clear hcz24_1);(try clear hcz24_2);(try clear hcz24_3);(try clear hcz25_0);(try clear hcz25_1);(try clear hcz25_2);(try clear hcz25_3);(try clear hcz30_0);(try clear hcz30_1);(try clear hcz30_2);(try clear hcz30_3);(try clear hcz33_0);(try clear hcz33_1);(try clear hcz36_0);(try clear hcz36_1);(try clear hcz38_0);(try clear hcz38_1);(try clear hcz39_0);(try clear hcz39_1);(try clear hcz39_2);(try clear hcz39_3);(try clear hcz5_0);(try clear hcz5_1);(try clear hcz5_2);(try clear hcz5_3);(try clear Vi);(try clear Vj);(try clear Vz);(try clear VA);(try clear wT);(try clear wU);(try clear Ve);(try clear Vf);(try clear wu);(try clear wv);(try clear Vq);(try clear Vr);(try clear hfz13_0);(try clear hfz13_1);(try clear hfz13_2);(try clear hfz13_3);(try clear hfz14_0);(try clear hfz14_1);(try clear hfz14_2);(try clear hfz14_3);(try clear hfz19_0);(try clear hfz19_1);(try clear hfz19_2);(try clear hfz19_3);(try clear hfz20_0);(try clear hfz20_1);(try clear hfz20_2);(try clear hfz20_3);(try clear hfz22_0);(try clear hfz22_1);(try clear hfz22_2);(try clear hfz22_3);(try clear hfz24_0);(try clear hfz24_1);(try clear hfz24_2);(try clear hfz24_3);(try clear hfz25_0);(try clear hfz25_1);(try clear hfz25_2);(try clear hfz25_3);(try clear hfz30_0);(try clear hfz30_1);(try clear hfz30_2);(try clear hfz30_3);(try clear hfz33_0);(try clear hfz33_1);(try clear hfz36_0);(try clear hfz36_1);(try clear hfz38_0);(try clear hfz38_1);(try clear hfz39_0);(try clear hfz39_1);(try clear hfz39_2);(try clear hfz39_3);(try clear hfz5_0);(try clear hfz5_1);(try clear hfz5_2);(try clear hfz5_3);(try clear Vk);(try clear Vl);(try clear VB);(try clear VC);(try clear wV);(try clear wW);(try clear Vg);(try clear Vh);(try clear hx325_0);(try clear hx325_1);(try clear hx326_0);(try clear hx326_1);(try clear p2);(try clear p3);(try clear p32);(try clear p325);(try clear p326);(try clear p6);(try clear q3);(try clear q32);(try clear q325);(try clear q326);obtain ⟨x6_6,rfl,HA,HK6,va,vq,HB⟩:=hrel;cases gk with
                  | zero=>exact absurd HA.out (by simp [zI.l2])
                  | succ k6=>
                   have H:=HA.out;clear HA;simp only [zI.l2] at H
                   by_cases c41:x6_6 < (((zH l0_3 x4_4).f1).length:Int)
                   ·rw [if_pos c41] at H
                    have c41b0:=decide_eq_true c41;clear c41
                    by_cases c42:0≤x6_6
                    ·rw [if_pos c42] at H
                     have c42b0:=decide_eq_true c42;clear c42;obtain ⟨bq43,hbq43⟩:∃b_:Bool,b_=((zg ((zH l0_3 x4_4).f1) x6_6).f0):=⟨_,rfl⟩
                     replace H:(if bq43=true then (if ((zg ((zH l0_3 x4_4).f1) x6_6).f1) < 1 then (some 4) else (if ((zg ((zH l0_3 x4_4).f1) x6_6).f1) > a0_0 then (some 4) else (zI.l2 k6 x4_4 (wrap64 (x6_6 + 1)) a0_0 a0_1 l0_2 l0_3 ((zH l0_3 x4_4).f0) ((zH l0_3 x4_4).f1)))) else (if ((zg ((zH l0_3 x4_4).f1) x6_6).f1) < 0 then (some 4) else (if ((zg ((zH l0_3 x4_4).f1) x6_6).f1)≥(l0_2.length:Int) then (some 4) else (zI.l2 k6 x4_4 (wrap64 (x6_6 + 1)) a0_0 a0_1 l0_2 l0_3 ((zH l0_3 x4_4).f0) ((zH l0_3 x4_4).f1)))))=some r:=by rw [←hbq43] at H;exact H
                     have Nbq43:=zA.mk hbq43;clear hbq43
                     by_cases c44:bq43=true
                     ·subst c44
                      have H1:(if ((zg ((zH l0_3 x4_4).f1) x6_6).f1) < 1 then (some 4) else (if ((zg ((zH l0_3 x4_4).f1) x6_6).f1) > a0_0 then (some 4) else (zI.l2 k6 x4_4 (wrap64 (x6_6 + 1)) a0_0 a0_1 l0_2 l0_3 ((zH l0_3 x4_4).f0) ((zH l0_3 x4_4).f1))))=some r:=by rw [if_pos rfl] at H;exact H
                      clear H;have H:=H1;clear H1
                      by_cases c45:((zg ((zH l0_3 x4_4).f1) x6_6).f1) < 1
                      ·rw [if_pos c45] at H
                       have c45b0:=decide_eq_true c45;clear c45;obtain rfl:=Option.some.inj H;have hnb46:=NB327_324.out;have hnc46:=NB324_327.out;have hcz47_0:=Qn vq 0 rfl;have hcz47_1:=Qn vq 1 rfl;have hfz47_0:=zB vq.out 0;have hfz47_1:=zB vq.out 1;have p328:0≤(x6_6:Int):=Qa;have q328:x6_6 < (((zH l0_3 x4_4).f1).length:Int):=Qa;obtain ⟨ad328,e328,hx328_0,hx328_1⟩:=ZQ HR326_1.out x6_6 p328 q328
                       (try rw [←Nbq43.out] at hx328_0)
                       cases e328;replace hx328_0:=Qp HB hx328_0;replace hx328_1:=Qp HB hx328_1;replace p328:=eq_true p328;replace q328:=eq_true q328
                       go_wp2_with (first|((with_reducible refine zw (N:=7) rfl ?_);(try (refine yg (by rfl) ?_;dsimp only));refine yM (by rfl) (N:=7) (by rfl) (cs:= #[.bool false, .int .i64 0]) (t:=70) Qm ?_;intro vQ hg w48 hbox hb;have n2_:=zA.mk (zF (Qe vE wx) hb);have n3_:=zA.mk (hbox);have n4_:=zA.mk ((by rw [hg];exact (zD (Qe vE wx)):w.heap.size≤vQ));have n5_:=zA.mk ((by rw [hg];exact (zD (Qe vE wx)):w.heap.size≤vQ));have n6_:=zA.mk ((by rw [hg];exact Nat.ne_of_lt (yK (g:=vP) (Qi va)):vP≠vQ));have n7_:=zA.mk ((by rw [hg];exact Nat.ne_of_gt (yK (g:=vP) (Qi va)):vQ≠vP));have n8_:=zA.mk ((by rw [hg];exact Nat.ne_of_lt (yK (g:=wi) (Qi vq)):wi≠vQ));have n9_:=zA.mk ((by rw [hg];exact Nat.ne_of_gt (yK (g:=wi) (Qi vq)):vQ≠wi));clear HB;have HB:=n2_;have wy:=n3_;have GW329:=n4_;have GE329:=n5_;have NB324_329:=n6_;have NB329_324:=n7_;have NB327_329:=n8_;have NB329_327:=n9_;clear n2_ n3_ n4_ n5_ n6_ n7_ n8_ n9_ hb hbox hg;have hnb49:=NB329_324.out;have hnc49:=NB324_329.out;have hnb50:=NB329_327.out;have hnc50:=NB327_329.out;have hcz51_0:=Qn wy 0 rfl;have hcz51_1:=Qn wy 1 rfl;have hfz51_0:=zB wy.out 0;have hfz51_1:=zB wy.out 1))
                       go_ret
                       exact ⟨by first|rfl|(simp [zR,zS] <;> rfl)|(simp [*,zR,zS] <;> rfl),by repeat (first|(with_reducible first|exact HB.out|apply zE|apply zC|apply zG|refine zJ ?_ vE.out|refine zJ ?_ wx.out|refine zJ ?_ GE329.out)|exact HB.out)⟩
                      ·rw [if_neg c45] at H
                       have c45b0:=decide_eq_false c45;clear c45
                       by_cases c52:((zg ((zH l0_3 x4_4).f1) x6_6).f1) > a0_0
                       ·rw [if_pos c52] at H
                        have c52b0:=decide_eq_true c52;clear c52;obtain rfl:=Option.some.inj H;have hnb53:=NB327_324.out;have hnc53:=NB324_327.out;have hcz54_0:=Qn vq 0 rfl;have hcz54_1:=Qn vq 1 rfl;have hfz54_0:=zB vq.out 0;have hfz54_1:=zB vq.out 1;have p328:0≤(x6_6:Int):=Qa;have q328:x6_6 < (((zH l0_3 x4_4).f1).length:Int):=Qa;obtain ⟨ad328,e328,hx328_0,hx328_1⟩:=ZQ HR326_1.out x6_6 p328 q328
                        (try rw [←Nbq43.out] at hx328_0)
                        cases e328;replace hx328_0:=Qp HB hx328_0;replace hx328_1:=Qp HB hx328_1;replace p328:=eq_true p328;replace q328:=eq_true q328
                        go_wp2_with (first|((with_reducible refine zw (N:=7) rfl ?_);(try (refine yg (by rfl) ?_;dsimp only));refine yM (by rfl) (N:=7) (by rfl) (cs:= #[.bool false, .int .i64 0]) (t:=70) Qm ?_;intro vQ hg w55 hbox hb;have n0_:=zA.mk (zZ (g:=vP) (Qi va) hb);have n2_:=zA.mk (zF (Qe vE wx) hb);have n3_:=zA.mk (hbox);have n4_:=zA.mk ((by rw [hg];exact (zD (Qe vE wx)):w.heap.size≤vQ));have n5_:=zA.mk ((by rw [hg];exact (zD (Qe vE wx)):w.heap.size≤vQ));have n6_:=zA.mk ((by rw [hg];exact Nat.ne_of_lt (yK (g:=vP) (Qi va)):vP≠vQ));have n7_:=zA.mk ((by rw [hg];exact Nat.ne_of_gt (yK (g:=vP) (Qi va)):vQ≠vP));have n8_:=zA.mk ((by rw [hg];exact Nat.ne_of_lt (yK (g:=wi) (Qi vq)):wi≠vQ));have n9_:=zA.mk ((by rw [hg];exact Nat.ne_of_gt (yK (g:=wi) (Qi vq)):vQ≠wi));clear va HB;have va:=n0_;have HB:=n2_;have wy:=n3_;have GW329:=n4_;have GE329:=n5_;have NB324_329:=n6_;have NB329_324:=n7_;have NB327_329:=n8_;have NB329_327:=n9_;clear n0_ n2_ n3_ n4_ n5_ n6_ n7_ n8_ n9_ hb hbox hg;have hnb56:=NB329_324.out;have hnc56:=NB324_329.out;have hnb57:=NB329_327.out;have hnc57:=NB327_329.out;have hcz58_0:=Qn wy 0 rfl;have hcz58_1:=Qn wy 1 rfl;have hfz58_0:=zB wy.out 0;have hfz58_1:=zB wy.out 1;have hcz59_0:=Qn va 0 rfl;have hcz59_1:=Qn va 1 rfl;have hcz59_2:=Qn va 2 rfl;have hcz59_3:=Qn va 3 rfl;have hfz59_0:=zB va.out 0;have hfz59_1:=zB va.out 1;have hfz59_2:=zB va.out 2;have hfz59_3:=zB va.out 3))
                        go_ret
                        exact ⟨by first|rfl|(simp [zR,zS] <;> rfl)|(simp [*,zR,zS] <;> rfl),by repeat (first|(with_reducible first|exact HB.out|apply zE|apply zC|apply zG|refine zJ ?_ vE.out|refine zJ ?_ wx.out|refine zJ ?_ GE329.out)|exact HB.out)⟩
                       ·rw [if_neg c52] at H
                        have c52b0:=decide_eq_false c52;clear c52;have H':=zA.mk H;clear H;have hnb60:=NB327_324.out;have hnc60:=NB324_327.out;have hcz61_0:=Qn vq 0 rfl;have hcz61_1:=Qn vq 1 rfl;have hfz61_0:=zB vq.out 0;have hfz61_1:=zB vq.out 1;have p328:0≤(x6_6:Int):=Qa;have q328:x6_6 < (((zH l0_3 x4_4).f1).length:Int):=Qa;obtain ⟨ad328,e328,hx328_0,hx328_1⟩:=ZQ HR326_1.out x6_6 p328 q328
                        (try rw [←Nbq43.out] at hx328_0)
                        cases e328;replace hx328_0:=Qp HB hx328_0;replace hx328_1:=Qp HB hx328_1;replace p328:=eq_true p328;replace q328:=eq_true q328
                        go_wp2_with (first|((with_reducible refine zw (N:=7) rfl ?_);(try (refine yg (by rfl) ?_;dsimp only));refine yM (by rfl) (N:=7) (by rfl) (cs:= #[.bool false, .int .i64 0]) (t:=70) Qm ?_;intro vQ hg w62 hbox hb;have n0_:=zA.mk (zZ (g:=vP) (Qi va) hb);have n1_:=zA.mk (zZ (g:=wi) (Qi vq) hb);have n2_:=zA.mk (zF (Qe vE wx) hb);have n3_:=zA.mk (hbox);have n4_:=zA.mk ((by rw [hg];exact (zD (Qe vE wx)):w.heap.size≤vQ));have n5_:=zA.mk ((by rw [hg];exact (zD (Qe vE wx)):w.heap.size≤vQ));have n6_:=zA.mk ((by rw [hg];exact Nat.ne_of_lt (yK (g:=vP) (Qi va)):vP≠vQ));have n7_:=zA.mk ((by rw [hg];exact Nat.ne_of_gt (yK (g:=vP) (Qi va)):vQ≠vP));have n8_:=zA.mk ((by rw [hg];exact Nat.ne_of_lt (yK (g:=wi) (Qi vq)):wi≠vQ));have n9_:=zA.mk ((by rw [hg];exact Nat.ne_of_gt (yK (g:=wi) (Qi vq)):vQ≠wi));clear va vq HB;have va:=n0_;have vq:=n1_;have HB:=n2_;have wy:=n3_;have GW329:=n4_;have GE329:=n5_;have NB324_329:=n6_;have NB329_324:=n7_;have NB327_329:=n8_;have NB329_327:=n9_;clear n0_ n1_ n2_ n3_ n4_ n5_ n6_ n7_ n8_ n9_ hb hbox hg;have hnb63:=NB329_324.out;have hnc63:=NB324_329.out;have hnb64:=NB329_327.out;have hnc64:=NB327_329.out;have hcz65_0:=Qn wy 0 rfl;have hcz65_1:=Qn wy 1 rfl;have hfz65_0:=zB wy.out 0;have hfz65_1:=zB wy.out 1;have hcz66_0:=Qn va 0 rfl;have hcz66_1:=Qn va 1 rfl;have hcz66_2:=Qn va 2 rfl;have hcz66_3:=Qn va 3 rfl;have hfz66_0:=zB va.out 0;have hfz66_1:=zB va.out 1;have hfz66_2:=zB va.out 2;have hfz66_3:=zB va.out 3))
                        go_roundg k6
                        case measure=>have:=HJ1.out;have:=HK2.out;have:=HJ20.out;have:=HK4.out;have:=HJ28.out;have:=HK6.out;omega
                        case rel=>exact ⟨(wrap64 (x6_6 + 1)),Zk,H',⟨by have:=HJ1.out;have:=HK2.out;have:=HJ20.out;have:=HK4.out;have:=HJ28.out;have:=HK6.out;omega⟩,⟨by (with_reducible repeat (first|refine zO ?_ _|refine zP ?_|refine zL ?_ _));refine yQ ?_ NB324_329.out _;(with_reducible repeat (first|refine zO ?_ _|refine zP ?_|refine zL ?_ _));refine yQ ?_ NB324_329.out _;(with_reducible repeat (first|refine zO ?_ _|refine zP ?_|refine zL ?_ _));exact va.out⟩,⟨by (with_reducible repeat (first|refine zO ?_ _|refine zP ?_|refine zL ?_ _));refine yQ ?_ NB327_329.out _;(with_reducible repeat (first|refine zO ?_ _|refine zP ?_|refine zL ?_ _));refine yQ ?_ NB327_329.out _;(with_reducible repeat (first|refine zO ?_ _|refine zP ?_|refine zL ?_ _));exact vq.out⟩,⟨by repeat (first|(with_reducible first|exact HB.out|apply zE|apply zC|apply zG|refine zJ ?_ vE.out|refine zJ ?_ wx.out|refine zJ ?_ GE329.out)|exact HB.out)⟩⟩
                     ·replace c44:=Bool.eq_false_iff.mpr c44
                      subst c44
                      have H1:(if ((zg ((zH l0_3 x4_4).f1) x6_6).f1) < 0 then (some 4) else (if ((zg ((zH l0_3 x4_4).f1) x6_6).f1)≥(l0_2.length:Int) then (some 4) else (zI.l2 k6 x4_4 (wrap64 (x6_6 + 1)) a0_0 a0_1 l0_2 l0_3 ((zH l0_3 x4_4).f0) ((zH l0_3 x4_4).f1))))=some r:=by rw [if_neg (show ¬(false=true) by decide)] at H;exact H
                      clear H;have H:=H1;clear H1
                      by_cases c67:((zg ((zH l0_3 x4_4).f1) x6_6).f1) < 0
                      ·rw [if_pos c67] at H
                       have c67b0:=decide_eq_true c67;clear c67;obtain rfl:=Option.some.inj H;have hnb68:=NB327_324.out;have hnc68:=NB324_327.out;have hcz69_0:=Qn vq 0 rfl;have hcz69_1:=Qn vq 1 rfl;have hfz69_0:=zB vq.out 0;have hfz69_1:=zB vq.out 1;have p328:0≤(x6_6:Int):=Qa;have q328:x6_6 < (((zH l0_3 x4_4).f1).length:Int):=Qa;obtain ⟨ad328,e328,hx328_0,hx328_1⟩:=ZQ HR326_1.out x6_6 p328 q328
                       (try rw [←Nbq43.out] at hx328_0)
                       cases e328;replace hx328_0:=Qp HB hx328_0;replace hx328_1:=Qp HB hx328_1;replace p328:=eq_true p328;replace q328:=eq_true q328
                       go_wp2_with (first|((with_reducible refine zw (N:=7) rfl ?_);(try (refine yg (by rfl) ?_;dsimp only));refine yM (by rfl) (N:=7) (by rfl) (cs:= #[.bool false, .int .i64 0]) (t:=70) Qm ?_;intro vQ hg w70 hbox hb;have n2_:=zA.mk (zF (Qe vE wx) hb);have n3_:=zA.mk (hbox);have n4_:=zA.mk ((by rw [hg];exact (zD (Qe vE wx)):w.heap.size≤vQ));have n5_:=zA.mk ((by rw [hg];exact (zD (Qe vE wx)):w.heap.size≤vQ));have n6_:=zA.mk ((by rw [hg];exact Nat.ne_of_lt (yK (g:=vP) (Qi va)):vP≠vQ));have n7_:=zA.mk ((by rw [hg];exact Nat.ne_of_gt (yK (g:=vP) (Qi va)):vQ≠vP));have n8_:=zA.mk ((by rw [hg];exact Nat.ne_of_lt (yK (g:=wi) (Qi vq)):wi≠vQ));have n9_:=zA.mk ((by rw [hg];exact Nat.ne_of_gt (yK (g:=wi) (Qi vq)):vQ≠wi));clear HB;have HB:=n2_;have wy:=n3_;have GW329:=n4_;have GE329:=n5_;have NB324_329:=n6_;have NB329_324:=n7_;have NB327_329:=n8_;have NB329_327:=n9_;clear n2_ n3_ n4_ n5_ n6_ n7_ n8_ n9_ hb hbox hg;have hnb71:=NB329_324.out;have hnc71:=NB324_329.out;have hnb72:=NB329_327.out;have hnc72:=NB327_329.out;have hcz73_0:=Qn wy 0 rfl;have hcz73_1:=Qn wy 1 rfl;have hfz73_0:=zB wy.out 0;have hfz73_1:=zB wy.out 1))
                       go_ret
                       exact ⟨by first|rfl|(simp [zR,zS] <;> rfl)|(simp [*,zR,zS] <;> rfl),by repeat (first|(with_reducible first|exact HB.out|apply zE|apply zC|apply zG|refine zJ ?_ vE.out|refine zJ ?_ wx.out|refine zJ ?_ GE329.out)|exact HB.out)⟩
                      ·rw [if_neg c67] at H
                       have c67b0:=decide_eq_false c67;clear c67
                       by_cases c74:((zg ((zH l0_3 x4_4).f1) x6_6).f1)≥(l0_2.length:Int)
                       ·rw [if_pos c74] at H
                        have c74b0:=decide_eq_true c74;clear c74;obtain rfl:=Option.some.inj H;have hnb75:=NB327_324.out;have hnc75:=NB324_327.out;have hcz76_0:=Qn vq 0 rfl;have hcz76_1:=Qn vq 1 rfl;have hfz76_0:=zB vq.out 0;have hfz76_1:=zB vq.out 1;have p328:0≤(x6_6:Int):=Qa;have q328:x6_6 < (((zH l0_3 x4_4).f1).length:Int):=Qa;obtain ⟨ad328,e328,hx328_0,hx328_1⟩:=ZQ HR326_1.out x6_6 p328 q328
                        (try rw [←Nbq43.out] at hx328_0)
                        cases e328;replace hx328_0:=Qp HB hx328_0;replace hx328_1:=Qp HB hx328_1;replace p328:=eq_true p328;replace q328:=eq_true q328
                        go_wp2_with (first|((with_reducible refine zw (N:=7) rfl ?_);(try (refine yg (by rfl) ?_;dsimp only));refine yM (by rfl) (N:=7) (by rfl) (cs:= #[.bool false, .int .i64 0]) (t:=70) Qm ?_;intro vQ hg w77 hbox hb;have n0_:=zA.mk (zZ (g:=vP) (Qi va) hb);have n2_:=zA.mk (zF (Qe vE wx) hb);have n3_:=zA.mk (hbox);have n4_:=zA.mk ((by rw [hg];exact (zD (Qe vE wx)):w.heap.size≤vQ));have n5_:=zA.mk ((by rw [hg];exact (zD (Qe vE wx)):w.heap.size≤vQ));have n6_:=zA.mk ((by rw [hg];exact Nat.ne_of_lt (yK (g:=vP) (Qi va)):vP≠vQ));have n7_:=zA.mk ((by rw [hg];exact Nat.ne_of_gt (yK (g:=vP) (Qi va)):vQ≠vP));have n8_:=zA.mk ((by rw [hg];exact Nat.ne_of_lt (yK (g:=wi) (Qi vq)):wi≠vQ));have n9_:=zA.mk ((by rw [hg];exact Nat.ne_of_gt (yK (g:=wi) (Qi vq)):vQ≠wi));clear va HB;have va:=n0_;have HB:=n2_;have wy:=n3_;have GW329:=n4_;have GE329:=n5_;have NB324_329:=n6_;have NB329_324:=n7_;have NB327_329:=n8_;have NB329_327:=n9_;clear n0_ n2_ n3_ n4_ n5_ n6_ n7_ n8_ n9_ hb hbox hg;have hnb78:=NB329_324.out;have hnc78:=NB324_329.out;have hnb79:=NB329_327.out;have hnc79:=NB327_329.out;have hcz80_0:=Qn wy 0 rfl;have hcz80_1:=Qn wy 1 rfl;have hfz80_0:=zB wy.out 0;have hfz80_1:=zB wy.out 1;have hcz81_0:=Qn va 0 rfl;have hcz81_1:=Qn va 1 rfl;have hcz81_2:=Qn va 2 rfl;have hcz81_3:=Qn va 3 rfl;have hfz81_0:=zB va.out 0;have hfz81_1:=zB va.out 1;have hfz81_2:=zB va.out 2;have hfz81_3:=zB va.out 3))
                        go_ret
                        exact ⟨by first|rfl|(simp [zR,zS] <;> rfl)|(simp [*,zR,zS] <;> rfl),by repeat (first|(with_reducible first|exact HB.out|apply zE|apply zC|apply zG|refine zJ ?_ vE.out|refine zJ ?_ wx.out|refine zJ ?_ GE329.out)|exact HB.out)⟩
                       ·rw [if_neg c74] at H
                        have c74b0:=decide_eq_false c74;clear c74;have H':=zA.mk H;clear H;have hnb82:=NB327_324.out;have hnc82:=NB324_327.out;have hcz83_0:=Qn vq 0 rfl;have hcz83_1:=Qn vq 1 rfl;have hfz83_0:=zB vq.out 0;have hfz83_1:=zB vq.out 1;have p328:0≤(x6_6:Int):=Qa;have q328:x6_6 < (((zH l0_3 x4_4).f1).length:Int):=Qa;obtain ⟨ad328,e328,hx328_0,hx328_1⟩:=ZQ HR326_1.out x6_6 p328 q328
                        (try rw [←Nbq43.out] at hx328_0)
                        cases e328;replace hx328_0:=Qp HB hx328_0;replace hx328_1:=Qp HB hx328_1;replace p328:=eq_true p328;replace q328:=eq_true q328
                        go_wp2_with (first|((with_reducible refine zw (N:=7) rfl ?_);(try (refine yg (by rfl) ?_;dsimp only));refine yM (by rfl) (N:=7) (by rfl) (cs:= #[.bool false, .int .i64 0]) (t:=70) Qm ?_;intro vQ hg w84 hbox hb;have n0_:=zA.mk (zZ (g:=vP) (Qi va) hb);have n1_:=zA.mk (zZ (g:=wi) (Qi vq) hb);have n2_:=zA.mk (zF (Qe vE wx) hb);have n3_:=zA.mk (hbox);have n4_:=zA.mk ((by rw [hg];exact (zD (Qe vE wx)):w.heap.size≤vQ));have n5_:=zA.mk ((by rw [hg];exact (zD (Qe vE wx)):w.heap.size≤vQ));have n6_:=zA.mk ((by rw [hg];exact Nat.ne_of_lt (yK (g:=vP) (Qi va)):vP≠vQ));have n7_:=zA.mk ((by rw [hg];exact Nat.ne_of_gt (yK (g:=vP) (Qi va)):vQ≠vP));have n8_:=zA.mk ((by rw [hg];exact Nat.ne_of_lt (yK (g:=wi) (Qi vq)):wi≠vQ));have n9_:=zA.mk ((by rw [hg];exact Nat.ne_of_gt (yK (g:=wi) (Qi vq)):vQ≠wi));clear va vq HB;have va:=n0_;have vq:=n1_;have HB:=n2_;have wy:=n3_;have GW329:=n4_;have GE329:=n5_;have NB324_329:=n6_;have NB329_324:=n7_;have NB327_329:=n8_;have NB329_327:=n9_;clear n0_ n1_ n2_ n3_ n4_ n5_ n6_ n7_ n8_ n9_ hb hbox hg;have hnb85:=NB329_324.out;have hnc85:=NB324_329.out;have hnb86:=NB329_327.out;have hnc86:=NB327_329.out;have hcz87_0:=Qn wy 0 rfl;have hcz87_1:=Qn wy 1 rfl;have hfz87_0:=zB wy.out 0;have hfz87_1:=zB wy.out 1;have hcz88_0:=Qn va 0 rfl;have hcz88_1:=Qn va 1 rfl;have hcz88_2:=Qn va 2 rfl;have hcz88_3:=Qn va 3 rfl;have hfz88_0:=zB va.out 0;have hfz88_1:=zB va.out 1;have hfz88_2:=zB va.out 2;have hfz88_3:=zB va.out 3))
                        go_roundg k6
                        case measure=>have:=HJ1.out;have:=HK2.out;have:=HJ20.out;have:=HK4.out;have:=HJ28.out;have:=HK6.out;omega
                        case rel=>exact ⟨(wrap64 (x6_6 + 1)),Zk,H',⟨by have:=HJ1.out;have:=HK2.out;have:=HJ20.out;have:=HK4.out;have:=HJ28.out;have:=HK6.out;omega⟩,⟨by (with_reducible repeat (first|refine zO ?_ _|refine zP ?_|refine zL ?_ _));refine yQ ?_ NB324_329.out _;(with_reducible repeat (first|refine zO ?_ _|refine zP ?_|refine zL ?_ _));refine yQ ?_ NB324_329.out _;(with_reducible repeat (first|refine zO ?_ _|refine zP ?_|refine zL ?_ _));exact va.out⟩,⟨by (with_reducible repeat (first|refine zO ?_ _|refine zP ?_|refine zL ?_ _));refine yQ ?_ NB327_329.out _;(with_reducible repeat (first|refine zO ?_ _|refine zP ?_|refine zL ?_ _));refine yQ ?_ NB327_329.out _;(with_reducible repeat (first|refine zO ?_ _|refine zP ?_|refine zL ?_ _));exact vq.out⟩,⟨by repeat (first|(with_reducible first|exact HB.out|apply zE|apply zC|apply zG|refine zJ ?_ vE.out|refine zJ ?_ wx.out|refine zJ ?_ GE329.out)|exact HB.out)⟩⟩
                    ·rw [if_neg c42] at H
                     exact absurd H (by simp)
                   ·rw [if_neg c41] at H
                    have c41b0:=decide_eq_false c41;clear c41;have H':=zA.mk H;clear H;have hnb89:=NB327_324.out;have hnc89:=NB324_327.out;have hcz90_0:=Qn vq 0 rfl;have hcz90_1:=Qn vq 1 rfl;have hfz90_0:=zB vq.out 0;have hfz90_1:=zB vq.out 1
                    go_wp2
                    go_roundg k6
                    case measure=>have:=HJ1.out;have:=HK2.out;have:=HJ20.out;have:=HK4.out;have:=HJ28.out;have:=HK6.out;omega
                    case rel=>exact ⟨(wrap64 (x4_4 + 1)),Zk,H',⟨by have:=HJ1.out;have:=HK2.out;have:=HJ20.out;have:=HK4.out;have:=HJ28.out;have:=HK6.out;omega⟩,⟨Qi va⟩,⟨by repeat (first|(with_reducible first|exact HB.out|apply zE|apply zC|apply zG|refine zJ ?_ vE.out|refine zJ ?_ wx.out)|exact HB.out)⟩⟩
             ·rw [if_neg c28] at H
              exact absurd H (by simp)
            ·rw [if_neg c27] at H
             have c27b0:=decide_eq_false c27;clear c27;obtain rfl:=Option.some.inj H;have hcz91_0:=Qn va 0 rfl;have hcz91_1:=Qn va 1 rfl;have hcz91_2:=Qn va 2 rfl;have hcz91_3:=Qn va 3 rfl;have hfz91_0:=zB va.out 0;have hfz91_1:=zB va.out 1;have hfz91_2:=zB va.out 2;have hfz91_3:=zB va.out 3
             go_wp2
             go_ret
             exact ⟨by first|rfl|(simp [zR,zS] <;> rfl)|(simp [*,zR,zS] <;> rfl),by repeat (first|(with_reducible first|exact HB.out|apply zE|apply zC|apply zG|refine zJ ?_ vE.out)|exact HB.out)⟩
end Go.Proofs.YtpfeebmfihgelaaGreat.HGuessPicks
