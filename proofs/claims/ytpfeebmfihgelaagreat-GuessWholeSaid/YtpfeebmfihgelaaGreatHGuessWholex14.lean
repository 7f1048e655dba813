-- Written by plus.py for this claim.
import Derived.Test.YtpfeebmfihgelaaGreatSGuessWholeVZip
import Derived.Test.YtpfeebmfihgelaaGreatHGuessWholex0
import Derived.Test.YtpfeebmfihgelaaGreatHGuessWholex1
import Derived.Test.YtpfeebmfihgelaaGreatHGuessWholex11
import Derived.Test.YtpfeebmfihgelaaGreatHGuessWholex12
import Derived.Test.YtpfeebmfihgelaaGreatHGuessWholex13
namespace Go.Proofs.YtpfeebmfihgelaaGreat.HGuessWhole
open Go.RowKit Go.Proofs.YtpfeebmfihgelaaGreatW.PrintWords Go.Proofs.YtpfeebmfihgelaaGreatW.PrintLast Go.Proofs.YtpfeebmfihgelaaGreatW.PrintMore
attribute [local go_sem] ym yn ZG ZH yd ye yo yp   -- for this text's walks alone
set_option linter.unusedVariables false
set_option maxHeartbeats 8000000
set_option maxRecDepth 100000
set_option linter.unusedSimpArgs false
def yG.flat (all:List (List ByteArray)) (ps:List Int):List ByteArray:=ps.flatMap fun p=>ze all p
def yG.f (k:Nat) (a0_0 a0_1:Int) (l0_2:List Int) (va:List S42) (a1:Int):Option (List Int × Int):=
 (yB.f k a0_0 a0_1 l0_2 va).bind fun g=>if g.2=0 then (if a1 < 0∨(l0_2.length:Int)≤a1 then some ([],3) else (yL.f k a0_0 a0_1 l0_2 va a1).bind fun ps=>if ps.length≤1000000∧(∀p ∈ ps,0≤p∧p < (g.1.length:Int))∧(∀r ∈ g.1,r.length≤1000000) then (yM.f k (yG.flat g.1 ps)).bind fun r=>some (r,0) else none) else some ([],g.2)
theorem yG.mono:∀a b c d e k,LeO (yG.f k a b c d e) (yG.f (k + 1) a b c d e):=by
 intro a b c d e k
 unfold yG.f
 refine LeO.bind (yB.mono _ _ _ _ _) (fun g=>LeO.ite ?_ (LeO.refl _));refine LeO.ite (LeO.refl _) (LeO.bind (yL.mono _ _ _ _ _ _) (fun ps=>LeO.ite (LeO.bind (yM.mono _ _) (fun hs=>LeO.refl _)) (LeO.refl _)))
theorem yG.kept {α:Type} {d:Kd α} {t:Nat} {W W':World} {row:Option Nat} {base:Nat} {ok:Nat→Prop} {v:Value} {xs:List α} (h:d.R t W base ok v xs) (hg:W.grownBy W' row) (hrow:∀r,row=some r→∃o:Obj,W.heap[r]? =some o∧o.isCells=false):d.R t W' base ok v xs:=
 Kd.R_mono (Kd.R_grown (Kd.R_bound h) hg fun k hk e=>by
  obtain ⟨o,ho,hc⟩:=hrow k e.symm;obtain ⟨q,-,cells,h2⟩:=hk.2.2.2
  rw [h2] at ho;cases ho;cases hc) (fun _ hk=>hk.1)
theorem yG.boxKept {W W':World} {row:Option Nat} {g:Nat} {cs:Array Value} {t:TypeId} (h:W.heap[g]? =some (.cells cs t (0,0))) (hg:W.grownBy W' row) (hrow:∀r,row=some r→∃o:Obj,W.heap[r]? =some o∧o.isCells=false):W'.heap[g]? =some (.cells cs t (0,0)):=
 (Go.grownBy_keeps_cells hg hrow h rfl).trans h
theorem yG.range_get (ps:List Int):(List.range ps.length).map (fun j=>ps.getD j 0)=ps:=by
 refine List.ext_getElem? fun i=> ?_
 rw [List.getElem?_map]
 rcases Nat.lt_or_ge i ps.length with h|h
 ·rw [List.getElem?_range h,List.getElem?_eq_getElem h,Option.map_some,List.getD_eq_getElem?_getD,List.getElem?_eq_getElem h];rfl
 ·rw [List.getElem?_eq_none (by simpa using h),List.getElem?_eq_none h];rfl
theorem yG.flat_all {w0:World} (all:List (List ByteArray)) (ps:List Int) (xs:List (zR.X all ps w0)) (h:xs.map (·.1.1)=List.range ps.length):(xs.flatMap fun x=>zR.Row all ps x.1.1)=yG.flat all ps:=by
 have e:(xs.flatMap fun x=>zR.Row all ps x.1.1)=(xs.map (·.1.1)).flatMap fun j=>zR.Row all ps j:=by rw [List.flatMap_map]
 rw [e,h]
 have e2:((List.range ps.length).flatMap fun j=>zR.Row all ps j)=((List.range ps.length).map fun j=>ps.getD j 0).flatMap fun p=>ze all p:=by rw [List.flatMap_map]
 rw [e2,yG.range_get]
 rfl
theorem yG.append_rows {F:Fence} {n:Nat} {P:Program} {ops:Array Oper} {rest:List Oper} {o:Oper} {a:Act} {Q:Exit→Act→World→Prop} {w0 W:World} (base:Nat) (hgd:o.guard=none) (s x:Operand) (t e:TypeId) (z:Value) (bytes:Nat)
  (ho:o.op= .call { callee:= .builtin .append,args:= #[s,x],argTypes:= #[t,t] })
  (ht:P.underlying t=some (.slice e)) (hinfo:(P.info? e).map (fun i=>(i.zero,i.size,i.bytes))=some (some z,1,bytes)) (hz:z.cells.size=1) (hb0:0 < bytes)
  (v:Value) (xs ys:List ByteArray) (A:Option Addr) (m c:Nat) (ok:Nat→Prop) (hs:a.eval s=v) (hx:a.eval x= .slice A m c)
  (HO:Kd.string.R e W base ok v xs) (HR:Kd.string.C W A m ys) (hfresh:∀k,W.heap.size≤k→ok k)
  (HB:Below base w0 W) (hbase:base≤W.heap.size) (hl:(xs.length + m) * bytes≤140737488355328)
  (h:∀v1 w1,Kd.string.R e w1 base ok v1 (xs ++ ys)→Below base w0 w1→W.grownBy w1 v.ownBlock→wpListIn F n P ops Q rest (a.put o.dst v1) w1) :
  wpListIn F n P ops Q (o :: rest) a W:=by
 have key:=Kd.R_append_rows (P:=P) (ops:=ops) (rest:= []) (o:=o) (a:=a) (Q:=fun ex a' w'=>ex= .normal∧∃v1,a'=a.put o.dst v1∧Kd.string.R e w' base ok v1 (xs ++ ys)∧Below base w0 w'∧W.grownBy w' v.ownBlock) Kd.string base hgd s x t e z bytes ho ht hinfo hz (by decide) hb0 v xs ys A m c ok (fun _=>False) hs hx HO HR (fun _ _ hk=>hk) (fun _ hk=>hk.elim) hfresh HB hbase hl (fun v1 w1 h1 h2 h3 _=>⟨rfl,v1,rfl,h1,h2,h3⟩)
 unfold wpList at key
 rw [if_pos (by simp [Region.wanted,hgd])] at key
 refine wpListIn_plain hgd fun K hK=> ?_
 unfold Oper.wpIn
 refine ⟨by simp [Oper.about,ho,resolve,Target.leads,Sem.run_pure],?_⟩;rw [Oper.semAt_plain F _ _ (by rw [ho];intro c hc;cases hc)]
 rcases key with key|⟨-,a1,w1,hk,-⟩
 ·unfold Oper.wp at key
  have he:(execOp a.eval o).run P W=((Builtin.append_ #[t,t] o.type #[v, .slice A m c]).run P W).andThen fun x w'=> .ok (.value x) w':=by
   unfold execOp
   simp only [ho,resolve,invoke,builtin,Sem.run_bind,Sem.run_pure,Result.andThen_ok,List.map_toArray,List.map_cons,List.map_nil,hs,hx]
  rw [he] at key⊢;cases hb:(Builtin.append_ #[t,t] o.type #[v, .slice A m c]).run P W with
  | ok v1 w1=>
   rw [hb] at key;obtain ⟨-,v2,e2,h1,h2,h3⟩:=key
   show K (a.put o.dst v1) w1
   rw [e2]
   exact hK _ _ (h v2 w1 h1 h2 h3)
  | halt hh w1=>
   rw [hb] at key;cases hh with
   | panic p=>exact absurd key.1 (by simp)
   | _=>exact key.elim
 ·cases hk
section
attribute [local go_sem] Oper.semAt_some
theorem yG.calls (k:Nat) (a0_0 a0_1:Int) (A2:Option Addr) (c2:Nat) (l0_2:List Int) (A3:Option Addr) (c3:Nat) (va:List S42) (a1:Int) (r1:List Int) (r2:Int) (w:World)
  (hr2:Kd.C (Kd.int .i64) w A2 l0_2.length l0_2) (hc2:l0_2.length≤c2) (hr3:Kd.C k42 w A3 va.length va) (hc3:va.length≤c3) (h:yG.f k a0_0 a0_1 l0_2 va a1=some (r1,r2)) :
  Calls Tryz.prog 7 #[.agg #[.int .i64 a0_0, .int .i64 a0_1, .slice A2 l0_2.length c2, .slice A3 va.length c3], .int .i64 a1] w fun e w'=>∃v0_:Value,e= .returned (.tuple #[v0_, .int .i64 r2])∧Kd.R (Kd.int .i64) 3 w' w.heap.size (fun _=>True) v0_ r1∧Below w.heap.size w w':=by
 obtain ⟨⟨all,e0⟩,hg,ha⟩:=ZzB h;have HG:=zA.mk hg;have HA:=zA.mk ha;have HR2:=zA.mk hr2;have HC2:=zA.mk hc2;have HR3:=zA.mk hr3;have HC3:=zA.mk hc3;have hu:=Tryz.underlying25;clear h hg ha hr2 hc2 hr3 hc3;refine (callsIn_wide (n:=9)).1 (callsIn_of_wp_marks Tryz.func7 rfl trivial ?_ rfl);refine wpIn_wide.2 ?_;simp only [Tryz.ntmps7,List.size_toArray,List.length_cons,List.length_nil,Nat.reduceAdd,Nat.reduceSub,Array.replicate_succ,Array.replicate_zero,List.push_toArray,List.append_toArray,List.nil_append,List.cons_append]
 go_wp2_with fail
 have hb0:Below w.heap.size w (w.alloc (.cells #[.int .i64 a0_0, .int .i64 a0_1, .slice A2 l0_2.length c2, .slice A3 va.length c3] 25)):=zG (Below.refl _ _) _;refine (zR.asked k a0_0 a0_1 A2 c2 l0_2 A3 c3 va a1 all e0 _ (Kd.C_below HR2.out hb0) HC2.out (Kd.C_below HR3.out hb0) HC3.out HG.out).mono ?_;rintro e w1 ⟨hb1,A1,A2',A3'⟩;have HB1:=zA.mk (zD hb0 hb1);clear hb0 hb1
 have hkind:(∃q:Int,q≠0∧e= .returned (.tuple #[.nilFunc, .int .i64 q])∧r1= []∧r2=q)∨(e0=0∧¬(a1 < 0∨(l0_2.length:Int)≤a1)):=by
  have ha:=HA.out
  by_cases h0:e0=0
  ·by_cases hn:a1 < 0∨(l0_2.length:Int)≤a1
   ·rw [if_pos h0,if_pos hn] at ha
    obtain ⟨h1,h2⟩:=Prod.mk.inj (Option.some.inj ha)
    exact .inl ⟨3,by decide,A2' h0 hn,h1.symm,h2.symm⟩
   ·exact .inr ⟨h0,hn⟩
  ·rw [if_neg h0] at ha
   obtain ⟨h1,h2⟩:=Prod.mk.inj (Option.some.inj ha)
   exact .inl ⟨e0,h0,A1 h0,h1.symm,h2.symm⟩
 rcases hkind with ⟨q,h0,rfl,rfl,rfl⟩|⟨h0,hn⟩
 ·have c1:(r2 != 0)=true:=bne_iff_ne.mpr h0
  clear h0 A1 A2' A3' HA HG
  go_wp2
  refine ⟨.tuple #[.slice none 0 0, .int .i64 r2],by simp [results,Tryz.f7,go_sem],_,rfl,Kd.R_nil _ _ _ _ _,HB1.out⟩
 ·subst h0
  obtain ⟨gb,gn,ga,Aa,ca,rfl,b0,b1,b2,b3,bn,ba,hty,hall⟩:=A3' rfl hn;have ha:=HA.out;rw [if_pos rfl,if_neg hn] at ha;obtain ⟨ps,hP,ha⟩:=ZzB ha
  by_cases hcd:ps.length≤1000000∧(∀p ∈ ps,0≤p∧p < (all.length:Int))∧(∀r ∈ all,r.length≤1000000)
  ·rw [if_pos hcd] at ha
   obtain ⟨rr,hhs,ha⟩:=ZzB ha;obtain ⟨rfl,rfl⟩:=Prod.mk.inj (Option.some.inj ha);have HH:=zA.mk hhs;have HP:=zA.mk hP;have HCD:=zA.mk hcd;clear ha hhs hP hn A1 A2' A3' HA HG hcd
   go_wp2_with fail
   refine Plus.hide_world fun W2 hW2=> ?_
   have hba:Below w1.heap.size w1 W2:=by rw [←hW2.out];exact zG (Below.refl _ _) _
   have z8:W2.heap[w1.heap.size]? =some (.cells #[.slice none 0 0] 43 (0,0)):=by rw [←hW2.out];exact yQ _ _
   have d0:=(hba.cell (ZzA _ _ b0)).trans b0;have d1:=(hba.cell (ZzA _ _ b1)).trans b1;have d2:=(hba.cell (ZzA _ _ b2)).trans b2;have d3:=(hba.cell (ZzA _ _ b3)).trans b3;have dn:=(hba.cell (ZzA _ _ bn)).trans bn;have da:=zY ba hba
   have hga:¬ga=w1.heap.size:=by have:=yA ba;omega
   have hAa:∀ad,Aa=some ad→¬ad.block=w1.heap.size:=fun ad e=>by obtain ⟨cs,h⟩:=hty ad e;have:=yA h;omega
   have HT3:zA (∀ad,Aa=some ad→∃cs,W2.heap[ad.block]? =some (.cells cs 43 (0,0))):=⟨fun ad e=>let ⟨cs,h⟩:=hty ad e;⟨cs,zY h hba⟩⟩;have HALL:=zA.mk hall;have HB2:=zA.mk (zD HB1.out hba);have HBA:=zA.mk hba;have hs2:w1.heap.size < W2.heap.size:=yA z8
   have hlr:∀j,(zR.Row all ps j).length≤1000000:=fun j=>by
    show (all.getD (ps.getD j 0).toNat []).length≤1000000
    rw [List.getD_eq_getElem?_getD];cases h:all[(ps.getD j 0).toNat]? with
    | none=>simp
    | some r=>exact HCD.out.2.2 r (List.mem_of_getElem? h)
   clear b0 b1 b2 b3 bn ba hall hty hW2 hba;refine (wpIn_wide (n:=9)).1 ?_
   refine wpIn_rangeFunc_ownF rfl (by decide) (gf:=34) (lb:= #[.pointer (some ⟨gb,0,none⟩), .pointer (some ⟨gn,0,none⟩), .pointer (some ⟨ga,0,none⟩)]) rfl trivial (enters_of Tryz.func34 (by kernel_rfl) rfl)
    (zR.seq k a0_0 a0_1 A2 c2 l0_2 A3 c3 va a1 all Aa ca ps gb gn ga 8 w1 W2 HBA.out (by decide) (fun b=>b=w1.heap.size) (fun b hb=>by rw [hb];exact hs2) hAa hga d0 d1 d2 d3 dn da HT3.out (Kd.C_below HR2.out HB2.out) HC2.out (Kd.C_below HR3.out HB2.out) HC3.out HALL.out HP.out (Nat.le_trans HCD.out.1 (by decide)) HCD.out.2.1)
    zR.KpC.trans (fun W l o o' _ h1 h2 _=>zR.KpC.b W l o o' h1 h2) (Below.refl _ _) (fun _=>rfl)
    (fun (pre:List (zR.X all ps w1)) W=>(∃v,W.heap[w1.heap.size]? =some (.cells #[v] 43 (0,0))∧Kd.string.R 9 W (w1.heap.size) (fun k=>k≠w1.heap.size) v (pre.flatMap fun x=>zR.Row all ps x.1.1))∧Below w1.heap.size w1 W)
    (fun _ _ _=>False)
    (fun s A B row h hg hr=>⟨let ⟨v,h1,h2⟩:=h.1;⟨v,yG.boxKept h1 hg (fun r e=>(hr r e).2),yG.kept h2 hg (fun r e=>(hr r e).2)⟩,ownFrom_below (Nat.le_refl _) (Nat.le_of_lt hs2) s A B row h.2 hg hr⟩)
    (fun _ _ _ _ _ h _ _=>h)
    ⟨⟨_,z8,Kd.R_nil _ _ _ _ _⟩,HBA.out⟩ ?a1 ?assign ?body ?done ?stop
   case assign=>
    intro l x W K hK
    gi_wp2
    exact hK
   case body=>
    rintro l pre x W ⟨⟨v,hg,hR⟩,hB⟩ hlen;obtain ⟨vx,hvx⟩:∃v,v=Value.slice x.1.2.1 (zR.Row all ps x.1.1).length x.1.2.2:=⟨_,rfl⟩
    have hle:w1.heap.size≤W.heap.size:=by have:=yA hg;omega
    have HCX:=zA.mk (Kd.C_below x.2.2.1 hB);have HVX:=zA.mk hvx;have HR:=zA.mk hR;have HG:=zA.mk hg;have HBW:=zA.mk hB
    have hfl:(pre.flatMap fun x=>zR.Row all ps x.1.1).length≤pre.length * 1000000:=by
     clear hlen hR HR
     induction pre with
     | nil=>simp
     | cons y ys ih=>rw [List.flatMap_cons,List.length_append,List.length_cons,Nat.succ_mul];have:=hlr y.1.1;omega
    have hsz:((pre.flatMap fun x=>zR.Row all ps x.1.1).length + (zR.Row all ps x.1.1).length) * 16≤140737488355328:=by
     have h1:=hlr x.1.1;have h2:=HCD.out.1;have h3:pre.length * 1000000≤1000000 * 1000000:=Nat.mul_le_mul_right _ (by omega)
     omega
    have HSZ:=zA.mk hsz;rw [←hvx];have s8:=zO hg 0;clear hvx hg hR hB hfl hsz
    gi_wp2_with (gi_at_builtin;refine yG.append_rows (w0:=w1) (w1.heap.size) rfl _ _ 43 9 (.string ⟨#[]⟩) 16 rfl Tryz.underlying43 qt rfl (by decide) v _ _ _ _ _ (fun k=>k≠w1.heap.size) rfl HVX.out HR.out HCX.out (fun k hk=>by have:=yA HG.out;omega) HBW.out hle HSZ.out ?_;intro v1 w5 hR5 hB5 hg5;have HR5:=zA.mk hR5;have HB5:=zA.mk hB5;have HG5:=zA.mk hg5;have hNE:some (w1.heap.size)≠v.ownBlock:=fun e=>HR.out.1 (w1.heap.size) e.symm rfl;have z5:=(hg5.block (w1.heap.size) (yA HG.out) hNE).trans HG.out;have Z5:=zA.mk z5;have s5:=zO z5 0;have f5:=zB z5 0;obtain ⟨A5,c5,hv1⟩:=Kd.R_slice hR5;generalize hn5:List.length _=n5 at hv1;subst hv1;clear hR5 hB5 hg5 z5 hn5)
    have hty:=Kd.R_typed HR.out;have KO:=(KeepsOthers.of_grownBy HG5.out (fun j o ej hj=>by obtain ⟨cs,h⟩:=hty j ej;rw [h] at hj;cases hj;rfl)).trans (KeepsOthers.setCell w5 ⟨w1.heap.size,0,none⟩ (.slice A5 n5 c5));refine ⟨KO,⟨KO.1,fun i cs t hx ht hi=>(Below.heap_setCell _ _ _ i hx).trans ((HG5.out.block i (yA hi) (fun e=>by obtain ⟨c2,h⟩:=hty i e.symm;rw [h] at hi;cases hi;exact ht rfl)).trans hi)⟩,⟨_,Boxed.set _ Z5.out,?_⟩,zK HB5.out (Nat.le_refl _)⟩;rw [List.flatMap_append,List.flatMap_cons,List.flatMap_nil,List.append_nil]
    exact Kd.R_far HR5.out (p:=⟨w1.heap.size,0,none⟩) (fun k hk=>hk) _
   case done=>
    rintro D xs W hD hS ⟨⟨v,hg,hR⟩,hB⟩ hK;have s8:=zO hg 0;rw [yG.flat_all all ps xs hS] at hR;obtain ⟨A8,c8,rfl⟩:=Kd.R_slice hR;obtain ⟨-,hlc,hC⟩:=Kd.R_reads' hR;have HLC:=zA.mk hlc;have HC:=zA.mk hC;have HK:=zA.mk hK;have HBW:=zA.mk hB;clear hg hR hB hK hlc hC
    go_wp2_with fail
    refine (yM.calls k A8 c8 _ rr W HC.out HLC.out HH.out).mono ?_;rintro e w5 ⟨v0,rfl,hR5,hb5⟩;have hK':w5.heap[D]? =some (.deferred (some [])):=(hb5.block _ (yA HK.out)).trans HK.out;have HR5:=zA.mk hR5;have HB5:=zA.mk hb5;have HK5:=zA.mk hK';obtain ⟨A5,c5,rfl⟩:=Kd.R_slice hR5;clear hR5 hb5 hK'
    go_wp2
    have hw:=zD HB1.out HBW.out;refine ⟨by simp, .inl ⟨D,_,rfl,run_takeDeferred HK5.out,?_⟩⟩;refine ⟨.tuple #[.slice A5 rr.length c5, .int .i64 0],by simp [results,Tryz.f7,go_sem],_,rfl,yG.kept (Kd.R_lower HR5.out hw.size) (grownBy_putObj' _ D (.deferred none)) (fun r e=>by cases e;exact ⟨_,HK5.out,rfl⟩),(zD hw HB5.out).trans (belowK_b (w:=W2) HB2.out.size _ D _ _ hD HK5.out rfl rfl)⟩
   case stop=>
    rintro D c pre W _ _ h _
    exact h.elim
  ·rw [if_neg hcd] at ha;cases ha
end
def zz.f:Option (Int × Int × List Int × (List (S42))):=some (1,1,(([(-1)]:List Int)),(([(⟨0,(([(⟨true,1⟩:S70)]:List (S70)))⟩:S42),(⟨0,([]:List (S70))⟩:S42)]:List (S42))))
theorem zz.calls (r1:Int) (r2:Int) (r3:List Int) (r4:List (S42)) (w:World) (h:zz.f=some (r1,r2,r3,r4)) :
  Calls Tryz.prog 24 #[] w fun e w'=>∃v2_ v3_:Value,e= .returned (.agg #[.int .i64 r1, .int .i64 r2,v2_,v3_])∧Kd.R (Kd.int .i64) 3 w' w.heap.size (fun k_=>(w.heap.size≤k_)) v2_ r3∧Kd.N k42 42 w' w.heap.size (fun k_=>(w.heap.size≤k_)∧some k_≠(v2_:Value).ownBlock) v3_ r4∧Below w.heap.size w w':=by
 have hu25:=Tryz.underlying25;have hu70:=Tryz.underlying70;have hu42:=Tryz.underlying42;have HB:=zA.mk (Below.refl w.heap.size w);have H:(some (1,1,(([(-1)]:List Int)),(([(⟨0,(([(⟨true,1⟩:S70)]:List (S70)))⟩:S42),(⟨0,([]:List (S70))⟩:S42)]:List (S42)))))=some (r1,r2,r3,r4):=h;clear h;obtain ⟨y325,hy325⟩:∃y_:List Int,y_=(([(-1)]:List Int)):=⟨_,rfl⟩;replace H:(some (1,1,y325,(([(⟨0,(([(⟨true,1⟩:S70)]:List (S70)))⟩:S42),(⟨0,([]:List (S70))⟩:S42)]:List (S42)))))=some (r1,r2,r3,r4):=Qb hy325 H;have Ny325:=zA.mk hy325;clear hy325;obtain ⟨y328,hy328⟩:∃y_:List (S70),y_=(([(⟨true,1⟩:S70)]:List (S70))):=⟨_,rfl⟩;replace H:(some (1,1,y325,(([(⟨0,y328⟩:S42),(⟨0,([]:List (S70))⟩:S42)]:List (S42)))))=some (r1,r2,r3,r4):=Qb hy328 H;have Ny328:=zA.mk hy328;clear hy328;obtain ⟨y331,hy331⟩:∃y_:List (S42),y_=(([(⟨0,y328⟩:S42),(⟨0,([]:List (S70))⟩:S42)]:List (S42))):=⟨_,rfl⟩;replace H:(some (1,1,y325,y331))=some (r1,r2,r3,r4):=Qb hy331 H;have Ny331:=zA.mk hy331;clear hy331;simp only [Option.some.injEq,Prod.mk.injEq] at H;obtain ⟨rfl,rfl,rfl,rfl⟩:=H
 go_enter Tryz.func24,Tryz.ntmps24
 go_wp2_with (first|((with_reducible refine zx (N:=0) rfl ?_);refine yF (by rfl) (N:=0) (by rfl) (cs:= #[.int .i64 0, .int .i64 0, .slice none 0 0, .slice none 0 0]) (t:=25) Qm ?_;intro wv hg w1 hbox hb;have n0_:=zA.mk (zD Qc hb);have n1_:=zA.mk (hbox);have n2_:=zA.mk ((by rw [hg];exact (zE Qc):w.heap.size≤wv));have n3_:=zA.mk ((by rw [hg];exact (zE Qc):w.heap.size≤wv));clear HB;have HB:=n0_;have wo:=n1_;have GW324:=n2_;have GE324:=n3_;clear n0_ n1_ n2_ n3_ hb hbox hg)|((with_reducible refine zx (N:=1) rfl ?_);refine Kd.R_lit (Kd.int .i64) _ 3 (by rfl) (N:=1) (by rfl) (xs:=([(-1)]:List Int)) (inner:= [.int .i64 (-1)]) (ok:=fun _=>True) (okp:=fun _=>True) Qm ?hp (fun _ hk=>hk) trivial (Below.refl _ _) (Nat.le_refl _) (by simp) ?_;(case hp=>exact (Reps.one (show Kd.M (Kd.int .i64) _ _ _ (-1) [.int .i64 (-1)] from rfl) (Reps.none _ _)));intro v326 w2 ho3 hb hg_ hnew_;clear hg_ hnew_;(first|rw [←Ny325.out] at ho3|(simp only [Int.reduceToNat] at ho3;rw [←Ny325.out] at ho3));have n0_:=zA.mk (Kd.R_lower (Kd.R_newM (M:=fun k_=>(w.heap.size≤k_)) ho3 (zE (Qd GE324)) (fun k_ h_=>h_)) (zE (Qd GE324)));have n1_:=zA.mk (zY (g:=wv) (Qi wo) hb);have n2_:=zA.mk (zD (Qd GE324) hb);clear wo HB;have HO327:=n0_;have wo:=n1_;have HB:=n2_;clear n0_ n1_ n2_ hb ho3)|((with_reducible refine zx (N:=3) rfl ?_);refine Kd.R_lit k70 _ 70 (by rfl) (N:=3) (by rfl) (xs:=([(⟨true,1⟩:S70)]:List (S70))) (inner:= [.bool true, .int .i64 1]) (ok:=fun _=>True) (okp:=fun _=>True) Qm ?hp (fun _ hk=>hk) trivial (Below.refl _ _) (Nat.le_refl _) (by simp) ?_;(case hp=>exact (Reps.c2 (show Kd.M k70 _ _ _ (⟨true,1⟩:S70) [.bool true, .int .i64 1] from (k70_mkM _ _ _ (⟨true,1⟩:S70))) (Reps.none _ _)));intro v329 w4 ho5 hb hg_ hnew_;clear hg_ hnew_;(first|rw [←Ny328.out] at ho5|(simp only [Int.reduceToNat] at ho5;rw [←Ny328.out] at ho5));have n0_:=zA.mk (Kd.R_below (Qh HO327) hb);have n1_:=zA.mk (Kd.R_lower (Kd.R_newM (M:=fun k_=>(w.heap.size≤k_)) ho5 (zE (Qd GE324)) (fun k_ h_=>h_)) (zE (Qd GE324)));have n2_:=zA.mk (zY (g:=wv) (Qi wo) hb);have n3_:=zA.mk (zD (Qd GE324) hb);clear HO327 wo HB;have HO327:=n0_;have HO330:=n1_;have wo:=n2_;have HB:=n3_;clear n0_ n1_ n2_ n3_ hb ho5;obtain ⟨Ao6,co6,eo6⟩:=Kd.R_slice HO330.out;subst eo6)|((with_reducible refine zx (N:=6) rfl ?_);refine Kd.N_lit k42 _ 42 ?hg (N':=6) ?hd (xs:=([(⟨0,y328⟩:S42),(⟨0,([]:List (S70))⟩:S42)]:List (S42))) (inner:= [.int .i64 0, .slice Ao6 y328.length co6, .int .i64 0, .slice none 0 0]) (ok:=(fun k_=>(w.heap.size≤k_)∧some k_≠(v326:Value).ownBlock∧k_≠wv)) (okp:=(fun k_=>(w.heap.size≤k_)∧some k_≠(v326:Value).ownBlock∧k_≠wv)) ?hr ?hp (fun _ hk=>hk) ((show ∀k_,w4.heap.size≤k_→(fun k_=>(w.heap.size≤k_)∧some k_≠(v326:Value).ownBlock∧k_≠wv) k_ from fun k_ hk=>⟨(Nat.le_trans (zE (Qd GE324)) hk),Kd.fresh' (Kd.R_lt (Qh HO327)) k_ hk,Kd.freshB (g:=wv) (Qi wo) k_ hk⟩) _ (Nat.le_refl _)) (Below.refl _ _) (Nat.le_refl _) (by simp) ?_;(case hd=>rfl);(case hg=>rfl);(case hr=>exact Qm);(case hp=>exact (Reps.c2 (show Kd.FK k42 _ _ (⟨0,y328⟩:S42) [.int .i64 0, .slice Ao6 y328.length co6] from (k42_mkF _ _ (⟨0,y328⟩:S42) (Kd.R_reads' (Kd.R_mono (ok':=(fun k_=>(w.heap.size≤k_)∧some k_≠(v326:Value).ownBlock∧k_≠wv)) (Kd.R_types (Kd.R_apart' (HO330.out) (Kd.R_typed HO327.out) (by decide)) wo.out (by decide)) (fun k_ hk=>⟨hk.1.1.1,⟨hk.1.2,hk.2⟩⟩))).2.1 (Kd.R_F (Kd.R_mono (ok':=(fun k_=>(w.heap.size≤k_)∧some k_≠(v326:Value).ownBlock∧k_≠wv)) (Kd.R_types (Kd.R_apart' (HO330.out) (Kd.R_typed HO327.out) (by decide)) wo.out (by decide)) (fun k_ hk=>⟨hk.1.1.1,⟨hk.1.2,hk.2⟩⟩))))) (Reps.c2 (show Kd.FK k42 _ _ (⟨0,([]:List (S70))⟩:S42) [.int .i64 0, .slice none 0 0] from (k42_mkF _ _ (⟨0,([]:List (S70))⟩:S42) (Nat.le_refl _) (Kd.F_nil _ _ _))) (Reps.none _ _))));intro v332 w7 ho8 hb hg_ hnew_;clear hg_ hnew_;(first|rw [←Ny331.out] at ho8|(simp only [Int.reduceToNat] at ho8;rw [←Ny331.out] at ho8));have n0_:=zA.mk (Kd.R_below (Qh HO327) hb);have n1_:=zA.mk (Kd.N_lower ho8 (zE (Qd GE324)));have n2_:=zA.mk (zY (g:=wv) (Qi wo) hb);have n3_:=zA.mk (zD (Qd GE324) hb);clear HO327 wo HB HO330;have HO327:=n0_;have HO333:=n1_;have wo:=n2_;have HB:=n3_;clear n0_ n1_ n2_ n3_ hb ho8;obtain ⟨Ao9,co9,eo9⟩:=Kd.N_slice HO333.out;subst eo9;obtain ⟨Ao10,co10,eo10⟩:=Kd.R_slice HO327.out;subst eo10;have hcz11_0:=Qn wo 0 rfl;have hcz11_1:=Qn wo 1 rfl;have hcz11_2:=Qn wo 2 rfl;have hcz11_3:=Qn wo 3 rfl;have hfz11_0:=zB wo.out 0;have hfz11_1:=zB wo.out 1;have hfz11_2:=zB wo.out 2;have hfz11_3:=zB wo.out 3))
 refine bodyPost_ret (results_cell_row rfl _ _ wv 25 #[.int .i64 1, .int .i64 1, .slice Ao10 y325.length co10, .slice Ao9 y331.length co9] (0,0) _ rfl (by (with_reducible repeat (first|refine zM ?_ _|refine zN ?_|refine zL ?_ _));refine yO (cs:= #[.int .i64 1, .int .i64 1, .slice Ao10 y325.length co10, .slice none 0 0]) ?_ 3 _ rfl;(with_reducible repeat (first|refine zM ?_ _|refine zN ?_|refine zL ?_ _));refine yO (cs:= #[.int .i64 1, .int .i64 1, .slice none 0 0, .slice none 0 0]) ?_ 2 _ rfl;(with_reducible repeat (first|refine zM ?_ _|refine zN ?_|refine zL ?_ _));refine yO (cs:= #[.int .i64 1, .int .i64 0, .slice none 0 0, .slice none 0 0]) ?_ 1 _ rfl;(with_reducible repeat (first|refine zM ?_ _|refine zN ?_|refine zL ?_ _));refine yO (cs:= #[.int .i64 0, .int .i64 0, .slice none 0 0, .slice none 0 0]) ?_ 0 _ rfl;(with_reducible repeat (first|refine zM ?_ _|refine zN ?_|refine zL ?_ _));exact wo.out) Tryz.underlying25 rfl (by kernel_rfl)) rfl ?_
 exact ⟨_,_,by first|rfl|(simp [zb,zc] <;> rfl)|(simp [*,zb,zc] <;> rfl),by (with_reducible repeat (first|apply Kd.R_alloc|apply Kd.R_drewN|apply Kd.R_drew));exact Kd.R_mono (Kd.R_far (p:=⟨wv,3,none⟩) (Kd.R_far (p:=⟨wv,2,none⟩) (Kd.R_far (p:=⟨wv,1,none⟩) (Kd.R_far (p:=⟨wv,0,none⟩) (Kd.R_types HO327.out wo.out (by decide)) (fun _ hk=>hk.2) (.int .i64 1)) (fun _ hk=>hk.2) (.int .i64 1)) (fun _ hk=>hk.2) (.slice Ao10 y325.length co10)) (fun _ hk=>hk.2) (.slice Ao9 y331.length co9)) (fun _ hk=>hk.1.1),by (with_reducible repeat (first|apply Kd.N_alloc|apply Kd.N_drewN|apply Kd.N_drew));exact Kd.N_mono (Kd.N_far (p:=⟨wv,3,none⟩) (Kd.N_far (p:=⟨wv,2,none⟩) (Kd.N_far (p:=⟨wv,1,none⟩) (Kd.N_far (p:=⟨wv,0,none⟩) (Kd.N_mono HO333.out (fun k_ hk=>(⟨hk,hk.2.2⟩:_∧k_≠wv))) (fun _ hk=>hk.2) (.int .i64 1)) (fun _ hk=>hk.2) (.int .i64 1)) (fun _ hk=>hk.2) (.slice Ao10 y325.length co10)) (fun _ hk=>hk.2) (.slice Ao9 y331.length co9)) (fun _ hk=>⟨hk.1.1,hk.1.2.1⟩),by repeat (first|(with_reducible first|exact HB.out|apply zG|apply zC|apply zI|refine zK ?_ GE324.out)|exact HB.out)⟩
def zU.l0:Nat→List ByteArray→List ByteArray→Int→Option (Bool)
 | 0,_,_,_=>none
 | k + 1,x0,x1,x5=>if x5 < (x0.length:Int) then (if 0≤x5 then (if x5 < (x1.length:Int) then (if (rdOf ByteArray.empty x0 x5).toList=(rdOf ByteArray.empty x1 x5).toList then (zU.l0 k x0 x1 (wrap64 (x5 + 1))) else (some false)) else (none)) else (none)) else (some true)
def zU.f (k:Nat) (l0:List ByteArray) (l1:List ByteArray):Option (Bool):=if (l0.length:Int)=(l1.length:Int) then (zU.l0 k l0 l1 0) else (some false)
theorem zU.mono_l:∀k,(∀y0 y1 y2,LeO (zU.l0 k y0 y1 y2) (zU.l0 (k + 1) y0 y1 y2))
 | 0=>fun _ _ _ r h=>by simp [zU.l0] at h
 | k + 1=>by
  have ih0:=zU.mono_l k
  ·intro y0 y1 y2
   unfold zU.l0
   repeat' first
   | with_reducible first|exact ih0 _ _ _|exact LeO.refl _|exact LeO.none _|refine LeO.ite ?_ ?_|refine LeO.bind ?_ (fun _=> ?_)
theorem zU.mono:∀a0 a1 k,LeO (zU.f k a0 a1) (zU.f (k + 1) a0 a1):=by
 intro a0 a1 k;have ih0:=zU.mono_l k
 unfold zU.f
 repeat' first
   | with_reducible first|exact ih0 _ _ _|exact LeO.refl _|exact LeO.none _|refine LeO.ite ?_ ?_|refine LeO.bind ?_ (fun _=> ?_)
theorem zU.calls (k:Nat) (A0:Option Addr) (c0:Nat) (l0:List ByteArray) (A1:Option Addr) (c1:Nat) (l1:List ByteArray) (r:Bool) (w:World) (hr0:Kd.C Kd.string w A0 l0.length l0) (hc0:l0.length≤c0) (hr1:Kd.C Kd.string w A1 l1.length l1) (hc1:l1.length≤c1) (h:zU.f k l0 l1=some r) :
  Calls Tryz.prog 25 #[.slice A0 l0.length c0, .slice A1 l1.length c1] w fun e w'=>e= .returned (.bool r)∧zv w w':=by
 have HR0:=zA.mk hr0;have HC0:=zA.mk hc0;clear hr0 hc0;have HR1:=zA.mk hr1;have HC1:=zA.mk hc1;clear hr1 hc1;have H:(if (l0.length:Int)=(l1.length:Int) then (zU.l0 k l0 l1 0) else (some false))=some r:=h;clear h
 by_cases c3:(l0.length:Int)=(l1.length:Int)
 ·rw [if_pos c3] at H
  have c3b0:((l0.length:Int) == (l1.length:Int))=true:=beq_iff_eq.mpr c3;have c3b1:((l0.length:Int) != (l1.length:Int))=false:=bne_eq_false_iff_eq.mpr c3
  have c3b2:(l0.length == l1.length)=true:=by first|simpa using c3|(simp at c3⊢;omega)
  clear c3;have H':=zA.mk H;clear H
  go_enter Tryz.func25,Tryz.ntmps25
  go_wp2
  repeat (go_quiet (fail);try go_wp2)
  go_loopg [5] k (fun kq v5 w'=>∃(x5_1:Int),v5= .int .i64 x5_1∧zA (zU.l0 kq l0 l1 x5_1=some r)∧zA (kq≤k)∧zv w w')
  case atStart=>exact ⟨(0),Q6,H',⟨Nat.le_refl _⟩,by repeat (first|exact zv.refl _|apply zv.step)⟩
  case round=>
   clear H';(try clear c1);(try clear c2);(try clear p2);(try clear c3);(try clear c3b0);(try clear c3b1);(try clear c3b2);obtain ⟨x5_1,rfl,HA,HK1,⟨m1,rfl⟩⟩:=hrel;cases gk with
   | zero=>exact absurd HA.out (by simp [zU.l0])
   | succ k1=>
    have H:=HA.out;clear HA;simp only [zU.l0] at H
    by_cases c4:x5_1 < (l0.length:Int)
    ·rw [if_pos c4] at H
     have c4b0:=decide_eq_true c4;clear c4
     by_cases c5:0≤x5_1
     ·rw [if_pos c5] at H
      have c5b0:=decide_eq_true c5;clear c5
      by_cases c6:x5_1 < (l1.length:Int)
      ·rw [if_pos c6] at H
       have c6b0:=decide_eq_true c6;clear c6
       by_cases c7:(rdOf ByteArray.empty l0 x5_1).toList=(rdOf ByteArray.empty l1 x5_1).toList
       ·rw [if_pos c7] at H
        have c7b0:((rdOf ByteArray.empty l0 x5_1).toList == (rdOf ByteArray.empty l1 x5_1).toList)=true:=beq_iff_eq.mpr c7;have c7b1:((rdOf ByteArray.empty l0 x5_1).toList != (rdOf ByteArray.empty l1 x5_1).toList)=false:=bne_eq_false_iff_eq.mpr c7;clear c7;have H':=zA.mk H;clear H;have p334:0≤(x5_1:Int):=Qa;have q334:x5_1 < (l0.length:Int):=Qa;obtain ⟨ad334,e334,hx334_0⟩:=Kd.at_string HR0.out x5_1 p334 q334;cases e334;replace p334:=eq_true p334;replace q334:=eq_true q334;have p335:0≤(x5_1:Int):=Qa;have q335:x5_1 < (l1.length:Int):=Qa;obtain ⟨ad335,e335,hx335_0⟩:=Kd.at_string HR1.out x5_1 p335 q335;cases e335;replace p335:=eq_true p335;replace q335:=eq_true q335
        go_wp2
        repeat (go_quiet (fail);try go_wp2)
        go_roundg k1
        case measure=>have:=HK1.out;omega
        case rel=>exact ⟨(wrap64 (x5_1 + 1)),Q6,H',⟨by have:=HK1.out;omega⟩,by repeat (first|exact zv.refl _|apply zv.step)⟩
       ·rw [if_neg c7] at H
        have c7b0:((rdOf ByteArray.empty l0 x5_1).toList == (rdOf ByteArray.empty l1 x5_1).toList)=false:=beq_eq_false_iff_ne.mpr c7;have c7b1:((rdOf ByteArray.empty l0 x5_1).toList != (rdOf ByteArray.empty l1 x5_1).toList)=true:=bne_iff_ne.mpr c7;obtain rfl:=Option.some.inj H;have p334:0≤(x5_1:Int):=Qa;have q334:x5_1 < (l0.length:Int):=Qa;obtain ⟨ad334,e334,hx334_0⟩:=Kd.at_string HR0.out x5_1 p334 q334;cases e334;replace p334:=eq_true p334;replace q334:=eq_true q334;have p335:0≤(x5_1:Int):=Qa;have q335:x5_1 < (l1.length:Int):=Qa;obtain ⟨ad335,e335,hx335_0⟩:=Kd.at_string HR1.out x5_1 p335 q335;cases e335;replace p335:=eq_true p335;replace q335:=eq_true q335
        go_wp2
        repeat (go_quiet (fail);try go_wp2)
        go_ret
        exact ⟨by first|rfl|(simp;done)|(simp [*];done),by repeat (first|exact zv.refl _|apply zv.step)⟩
      ·rw [if_neg c6] at H
       exact absurd H (by simp)
     ·rw [if_neg c5] at H
      exact absurd H (by simp)
    ·rw [if_neg c4] at H
     have c4b0:=decide_eq_false c4;clear c4;obtain rfl:=Option.some.inj H
     go_wp2
     repeat (go_quiet (fail);try go_wp2)
     go_ret
     exact ⟨by first|rfl|(simp;done)|(simp [*];done),by repeat (first|exact zv.refl _|apply zv.step)⟩
 ·rw [if_neg c3] at H
  have c3b0:((l0.length:Int) == (l1.length:Int))=false:=beq_eq_false_iff_ne.mpr c3;have c3b1:((l0.length:Int) != (l1.length:Int))=true:=bne_iff_ne.mpr c3
  have c3b2:(l0.length == l1.length)=false:=by first|simpa using c3|(simp at c3⊢;omega)
  obtain rfl:=Option.some.inj H
  go_enter Tryz.func25,Tryz.ntmps25
  go_wp2
  repeat (go_quiet (fail);try go_wp2)
  go_ret
  exact ⟨by first|rfl|(simp;done)|(simp [*];done),by repeat (first|exact zv.refl _|apply zv.step)⟩
def yN.f (k:Nat):Option (Bool):=(zz.f).bind fun bt336=>((yB.f k bt336.1 bt336.2.1 bt336.2.2.1 bt336.2.2.2).bind fun bt344=>((zz.f).bind fun bt348=>((zR.f k bt348.1 bt348.2.1 bt348.2.2.1 bt348.2.2.2 0 (⟨#[0]⟩:ByteArray)).bind fun bt356=>(if bt344.2=0 then (if bt356.2=0 then (if (bt344.1.length:Int)=2 then (if 0 < (bt344.1.length:Int) then ((zU.f k (ze bt344.1 0) (([(⟨#[1]⟩:ByteArray)]:List ByteArray))).bind fun t362=>(if t362=true then (if 1 < (bt344.1.length:Int) then ((zU.f k (ze bt344.1 1) (([(⟨#[0]⟩:ByteArray)]:List ByteArray))).bind fun t367=>(if t367=true then (some (bt356.1 == 1)) else (some false))) else (none)) else (some false))) else (none)) else (some false)) else (some false)) else (some false)))))
theorem yN.mono:∀k,LeO (yN.f k) (yN.f (k + 1)):=by
 intro k
 unfold yN.f
 repeat' first
   | with_reducible first|exact zU.mono _ _ _|exact yB.mono _ _ _ _ _|exact zR.mono _ _ _ _ _ _ _|exact LeO.refl _|exact LeO.none _|refine LeO.ite ?_ ?_|refine LeO.bind ?_ (fun _=> ?_)
theorem yN.calls (k:Nat) (r:Bool) (w:World) (h:yN.f k=some r) :
  Calls Tryz.prog 9 #[] w fun e w'=>e= .returned (.bool r)∧Below w.heap.size w w':=by
 have HB:=zA.mk (Below.refl w.heap.size w);have H:((zz.f).bind fun bt336=>((yB.f k bt336.1 bt336.2.1 bt336.2.2.1 bt336.2.2.2).bind fun bt344=>((zz.f).bind fun bt348=>((zR.f k bt348.1 bt348.2.1 bt348.2.2.1 bt348.2.2.2 0 (⟨#[0]⟩:ByteArray)).bind fun bt356=>(if bt344.2=0 then (if bt356.2=0 then (if (bt344.1.length:Int)=2 then (if 0 < (bt344.1.length:Int) then ((zU.f k (ze bt344.1 0) (([(⟨#[1]⟩:ByteArray)]:List ByteArray))).bind fun t362=>(if t362=true then (if 1 < (bt344.1.length:Int) then ((zU.f k (ze bt344.1 1) (([(⟨#[0]⟩:ByteArray)]:List ByteArray))).bind fun t367=>(if t367=true then (some (bt356.1 == 1)) else (some false))) else (none)) else (some false))) else (none)) else (some false)) else (some false)) else (some false))))))=some r:=h;clear h;replace H:=ZzB H;obtain ⟨⟨t336,t337,ww,wx⟩,A10,H⟩:=H;replace H:((yB.f k t336 t337 ww wx).bind fun bt344=>((zz.f).bind fun bt348=>((zR.f k bt348.1 bt348.2.1 bt348.2.2.1 bt348.2.2.2 0 (⟨#[0]⟩:ByteArray)).bind fun bt356=>(if bt344.2=0 then (if bt356.2=0 then (if (bt344.1.length:Int)=2 then (if 0 < (bt344.1.length:Int) then ((zU.f k (ze bt344.1 0) (([(⟨#[1]⟩:ByteArray)]:List ByteArray))).bind fun t362=>(if t362=true then (if 1 < (bt344.1.length:Int) then ((zU.f k (ze bt344.1 1) (([(⟨#[0]⟩:ByteArray)]:List ByteArray))).bind fun t367=>(if t367=true then (some (bt356.1 == 1)) else (some false))) else (none)) else (some false))) else (none)) else (some false)) else (some false)) else (some false)))))=some r:=H;have A1:=zA.mk A10;clear A10;replace H:=ZzB H;obtain ⟨⟨vH,t347⟩,A20,H⟩:=H;replace H:((zz.f).bind fun bt348=>((zR.f k bt348.1 bt348.2.1 bt348.2.2.1 bt348.2.2.2 0 (⟨#[0]⟩:ByteArray)).bind fun bt356=>(if t347=0 then (if bt356.2=0 then (if (vH.length:Int)=2 then (if 0 < (vH.length:Int) then ((zU.f k (ze vH 0) (([(⟨#[1]⟩:ByteArray)]:List ByteArray))).bind fun t362=>(if t362=true then (if 1 < (vH.length:Int) then ((zU.f k (ze vH 1) (([(⟨#[0]⟩:ByteArray)]:List ByteArray))).bind fun t367=>(if t367=true then (some (bt356.1 == 1)) else (some false))) else (none)) else (some false))) else (none)) else (some false)) else (some false)) else (some false))))=some r:=H;have A2:=zA.mk A20;clear A20;replace H:=ZzB H;obtain ⟨⟨t348,t349,t350,t353⟩,A30,H⟩:=H;replace H:((zR.f k t348 t349 t350 t353 0 (⟨#[0]⟩:ByteArray)).bind fun bt356=>(if t347=0 then (if bt356.2=0 then (if (vH.length:Int)=2 then (if 0 < (vH.length:Int) then ((zU.f k (ze vH 0) (([(⟨#[1]⟩:ByteArray)]:List ByteArray))).bind fun t362=>(if t362=true then (if 1 < (vH.length:Int) then ((zU.f k (ze vH 1) (([(⟨#[0]⟩:ByteArray)]:List ByteArray))).bind fun t367=>(if t367=true then (some (bt356.1 == 1)) else (some false))) else (none)) else (some false))) else (none)) else (some false)) else (some false)) else (some false)))=some r:=H;have A3:=zA.mk A30;clear A30;replace H:=ZzB H;obtain ⟨⟨t356,t357⟩,A40,H⟩:=H;replace H:(if t347=0 then (if t357=0 then (if (vH.length:Int)=2 then (if 0 < (vH.length:Int) then ((zU.f k (ze vH 0) (([(⟨#[1]⟩:ByteArray)]:List ByteArray))).bind fun t362=>(if t362=true then (if 1 < (vH.length:Int) then ((zU.f k (ze vH 1) (([(⟨#[0]⟩:ByteArray)]:List ByteArray))).bind fun t367=>(if t367=true then (some (t356 == 1)) else (some false))) else (none)) else (some false))) else (none)) else (some false)) else (some false)) else (some false))=some r:=H;have A4:=zA.mk A40;clear A40
 by_cases c5:t347=0
 ·rw [if_pos c5] at H
  have c5b0:(t347 == 0)=true:=beq_iff_eq.mpr c5;have c5b1:(t347 != 0)=false:=bne_eq_false_iff_eq.mpr c5;clear c5
  by_cases c6:t357=0
  ·rw [if_pos c6] at H
   have c6b0:(t357 == 0)=true:=beq_iff_eq.mpr c6;have c6b1:(t357 != 0)=false:=bne_eq_false_iff_eq.mpr c6;clear c6
   by_cases c7:(vH.length:Int)=2
   ·rw [if_pos c7] at H
    have c7b0:((vH.length:Int) == 2)=true:=beq_iff_eq.mpr c7;have c7b1:((vH.length:Int) != 2)=false:=bne_eq_false_iff_eq.mpr c7;clear c7
    by_cases c8:0 < (vH.length:Int)
    ·rw [if_pos c8] at H
     have c8b0:=decide_eq_true c8;have c8b1:decide (0 < vH.length)=true:=decide_eq_true (by omega);clear c8;obtain ⟨y359,hy359⟩:∃y_:List ByteArray,y_=(([(⟨#[1]⟩:ByteArray)]:List ByteArray)):=⟨_,rfl⟩;replace H:((zU.f k (ze vH 0) y359).bind fun t362=>(if t362=true then (if 1 < (vH.length:Int) then ((zU.f k (ze vH 1) (([(⟨#[0]⟩:ByteArray)]:List ByteArray))).bind fun t367=>(if t367=true then (some (t356 == 1)) else (some false))) else (none)) else (some false)))=some r:=Qb hy359 H;have Ny359:=zA.mk hy359;clear hy359;replace H:=ZzB H;obtain ⟨t362,A90,H⟩:=H;replace H:(if t362=true then (if 1 < (vH.length:Int) then ((zU.f k (ze vH 1) (([(⟨#[0]⟩:ByteArray)]:List ByteArray))).bind fun t367=>(if t367=true then (some (t356 == 1)) else (some false))) else (none)) else (some false))=some r:=H;have A9:=zA.mk A90;clear A90
     by_cases c10:t362=true
     ·subst c10
      have H1:(if 1 < (vH.length:Int) then ((zU.f k (ze vH 1) (([(⟨#[0]⟩:ByteArray)]:List ByteArray))).bind fun t367=>(if t367=true then (some (t356 == 1)) else (some false))) else (none))=some r:=by rw [if_pos rfl] at H;exact H
      clear H;have H:=H1;clear H1
      by_cases c11:1 < (vH.length:Int)
      ·rw [if_pos c11] at H
       have c11b0:=decide_eq_true c11;have c11b1:decide (1 < vH.length)=true:=decide_eq_true (by omega);clear c11;obtain ⟨y364,hy364⟩:∃y_:List ByteArray,y_=(([(⟨#[0]⟩:ByteArray)]:List ByteArray)):=⟨_,rfl⟩;replace H:((zU.f k (ze vH 1) y364).bind fun t367=>(if t367=true then (some (t356 == 1)) else (some false)))=some r:=Qb hy364 H;have Ny364:=zA.mk hy364;clear hy364;replace H:=ZzB H;obtain ⟨t367,A120,H⟩:=H;replace H:(if t367=true then (some (t356 == 1)) else (some false))=some r:=H;have A12:=zA.mk A120;clear A120
       by_cases c13:t367=true
       ·subst c13
        have H1:(some (t356 == 1))=some r:=by rw [if_pos rfl] at H;exact H
        clear H;have H:=H1;clear H1;obtain rfl:=Option.some.inj H
        go_enter Tryz.func9,Tryz.ntmps9
        go_wp2_with (first|((with_reducible refine zm (f:=24) rfl ?_);refine yJ (some 6) rfl rfl Tryz.func24 (by kernel_rfl) rfl #[] rfl QZ ?_;(with_reducible refine (zz.calls t336 t337 ww wx _ A1.out).mono ?_);rintro e w14 ⟨v339,v342,rfl,ho0,ho1,hb⟩;refine ⟨_,rfl,?_⟩;have n0_:=zA.mk (Kd.R_lower (Kd.R_mono (ok':=fun k_=>True) ho0 (fun _ hk_=>trivial)) (zE Qc));have n1_:=zA.mk (Kd.N_lower (Kd.N_mono (ok':=fun k_=>some k_≠(v339:Value).ownBlock) ho1 (fun k_ hk_=>hk_.2)) (zE Qc));have n2_:=zA.mk (zD Qc hb);clear HB;have vs:=n0_;have vm:=n1_;have HB:=n2_;clear n0_ n1_ n2_;(try clear hb ho0);(try clear ho1);obtain ⟨Ao15,co15,eo15⟩:=Kd.R_slice vs.out;subst eo15;obtain ⟨Ao16,co16,eo16⟩:=Kd.N_slice vm.out;subst eo16)|((with_reducible refine zm (f:=13) rfl ?_);refine yJ (some 7) rfl rfl Tryz.func13 (by kernel_rfl) rfl #[.agg #[.int .i64 t336, .int .i64 t337, .slice Ao15 ww.length co15, .slice Ao16 wx.length co16]] rfl QZ ?_;(with_reducible refine (yB.calls k t336 t337 _ _ ww _ _ wx vH t347 _ ?side1 ?side2 ?side3 ?side4 A2.out).mono ?_);(case side1=>exact Qo ((Kd.R_reads' vs.out).2.2));(case side2=>exact (Kd.R_reads' vs.out).2.1);(case side3=>exact Qo ((Kd.N_reads' vm.out).2.2));(case side4=>exact (Kd.N_reads' vm.out).2.1);rintro e w17 ⟨v345,rfl,ho0,hb⟩;refine ⟨_,rfl,?_⟩;have n0_:=zA.mk (Kd.R_below (Qh vs) hb);(first|have n1_:=zA.mk (Kd.N_elder' (Qk vm) (Kd.N_base ho0) hb)|have n1_:=zA.mk (Kd.N_elder' (Qk vm) (Kd.S_base ho0) hb));have n2_:=zA.mk (Kd.N_lower (Kd.N_mono (ok':=fun k_=>some k_≠(.slice Ao15 ww.length co15:Value).ownBlock∧some k_≠(.slice Ao16 wx.length co16:Value).ownBlock) ho0 (fun k_ hk_=>⟨(Kd.fresh' (Kd.R_lt (Qh vs)) k_ hk_),(Kd.fresh' (Kd.N_lt (Qk vm)) k_ hk_)⟩)) (zE Qc));have n3_:=zA.mk (zD Qc hb);clear vs vm HB;have vs:=n0_;have vm:=n1_;have HO346:=n2_;have HB:=n3_;clear n0_ n1_ n2_ n3_;(try clear hb ho0))|((with_reducible refine zm (f:=24) rfl ?_);refine yJ (some 11) rfl rfl Tryz.func24 (by kernel_rfl) rfl #[] rfl QZ ?_;(with_reducible refine (zz.calls t348 t349 t350 t353 _ A3.out).mono ?_);rintro e w18 ⟨v351,v354,rfl,ho0,ho1,hb⟩;refine ⟨_,rfl,?_⟩;(first|have n2_:=zA.mk (Kd.N_mono (Kd.N_told (Kd.N_told (Kd.N_old (Qk HO346) hb) (Kd.R_base ho0)) (Kd.N_base ho1)) (fun _ h_=>h_.1))|have n2_:=zA.mk (Kd.N_mono (Kd.N_told (Kd.N_told (Kd.N_old (Qk HO346) hb) (Kd.R_base ho0)) (Kd.S_base ho1)) (fun _ h_=>h_.1)));have n3_:=zA.mk (Kd.R_lower (ZB (Kd.R_mono (ok':=fun k_=>True) ho0 (fun _ hk_=>trivial))) (zE Qc));have n4_:=zA.mk (Kd.N_lower (Kd.N_mono (ok':=fun k_=>some k_≠(v351:Value).ownBlock∧some k_≠(.slice Ao15 ww.length co15:Value).ownBlock∧some k_≠(.slice Ao16 wx.length co16:Value).ownBlock∧some k_≠(v345:Value).ownBlock) ho1 (fun k_ hk_=>⟨hk_.2,(Kd.fresh' (Kd.R_lt (Qh vs)) k_ hk_.1),(Kd.fresh' (Kd.N_lt (Qk vm)) k_ hk_.1),(Kd.fresh' (Kd.N_lt (Qk HO346)) k_ hk_.1)⟩)) (zE Qc));have n5_:=zA.mk (zD Qc hb);clear HO346 HB;have HO346:=n2_;have wk:=n3_;have wl:=n4_;have HB:=n5_;clear n2_ n3_ n4_ n5_;(try clear hb ho0);(try clear ho1);obtain ⟨Ao19,co19,eo19⟩:=Kd.R_slice wk.out;subst eo19;obtain ⟨Ao20,co20,eo20⟩:=Kd.N_slice wl.out;subst eo20)|((with_reducible refine zm (f:=6) rfl ?_);refine yJ (some 12) rfl rfl Tryz.func6 (by kernel_rfl) rfl #[.agg #[.int .i64 t348, .int .i64 t349, .slice Ao19 t350.length co19, .slice Ao20 t353.length co20], .int .i64 0, .string (⟨#[0]⟩:ByteArray)] rfl QZ ?_;(with_reducible refine (zR.calls k t348 t349 _ _ t350 _ _ t353 0 (⟨#[0]⟩:ByteArray) t356 t357 _ ?side1 ?side2 ?side3 ?side4 A4.out).mono ?_);(case side1=>exact Qo ((Kd.R_reads' wk.out).2.2));(case side2=>exact (Kd.R_reads' wk.out).2.1);(case side3=>exact Qo ((Kd.N_reads' wl.out).2.2));(case side4=>exact (Kd.N_reads' wl.out).2.1);rintro e w21 ⟨rfl,hb⟩;refine ⟨_,rfl,?_⟩;have n2_:=zA.mk (Kd.N_below (Qk HO346) hb);have n5_:=zA.mk (zD Qc hb);clear HO346 HB;have HO346:=n2_;have HB:=n5_;clear n2_ n5_;(try clear hb);(try clear hb2);(try clear hk);(try clear hi);obtain ⟨Ao22,co22,eo22⟩:=Kd.N_slice HO346.out;subst eo22;have p358:0≤(0:Int):=(by omega);have q358:0 < (vH.length:Int):=Qa;obtain ⟨ad358,A358_0,c358_0,e358,hx358_0,hl358_0,hi358_0⟩:=Zc (Kd.N_reads' HO346.out).2.2 0 p358 q358;cases e358;obtain ⟨ce358,hce358,hMe358,hcc358⟩:=Kd.N_get HO346.out [] 0 p358 Q3;obtain ⟨ua358_0,uc358_0,rfl,ul358_0,ge358_0⟩:=Kd.FK_slice_open hMe358;have hv358_0:=hcc358 0 _ rfl;rw [Nat.add_zero,show ((Kd.slice 9 Kd.string)).sz=1 from rfl,Nat.mul_one] at hv358_0;replace hv358_0:=Option.some.inj (hv358_0.symm.trans hx358_0);injection hv358_0 with hva_ hvn_ hvc_;rw [hva_] at ge358_0;rw [hvc_] at ul358_0;have HL358_0:=zA.mk (show Kd.V Kd.string 9 _ w.heap.size _ _ (ze vH 0) from Kd.V_mk ul358_0 ge358_0);clear hva_ hvn_ hvc_ ge358_0 ul358_0 hcc358 hce358;have qi358:(0 < vH.length)=True:=eq_true (by omega);(try rw [show ((0:Int)).toNat=0 from rfl] at hx358_0);(try rw [Addr.add_zero'] at hx358_0);have HR358_0:=zA.mk hi358_0;have HC358_0:=zA.mk hl358_0;clear hi358_0 hl358_0;replace p358:=eq_true p358;replace q358:=eq_true q358)|((with_reducible refine zx (N:=30) rfl ?_);(try (refine yT (by rfl) ?_;dsimp only));refine Kd.R_lit Kd.string _ 9 (by rfl) (N:=30) (by rfl) (xs:=([(⟨#[1]⟩:ByteArray)]:List ByteArray)) (inner:= [.string (⟨#[1]⟩:ByteArray)]) (ok:=fun _=>True) (okp:=fun _=>True) Qm ?hp (fun _ hk=>hk) trivial (Below.refl _ _) (Nat.le_refl _) (by simp) ?_;(case hp=>exact (Reps.one (show Kd.M Kd.string _ _ _ (⟨#[1]⟩:ByteArray) [.string (⟨#[1]⟩:ByteArray)] from rfl) (Reps.none _ _)));intro v360 w23 ho24 hb hg_ hnew_;clear hg_ hnew_;(first|rw [←Ny359.out] at ho24|(simp only [Int.reduceToNat] at ho24;rw [←Ny359.out] at ho24));have n2_:=zA.mk (Kd.N_elder' (Qk HO346) (Kd.R_base ho24) hb);have n5_:=zA.mk (Kd.V_elder' (Ql HL358_0) (Kd.R_base ho24) hb);have n6_:=zA.mk (Kd.R_lower ho24 (zE Qc));have n7_:=zA.mk (Kd.C_below QL hb);have n8_:=zA.mk (zD Qc hb);clear HO346 HL358_0 HR358_0 HB;have HO346:=n2_;have HL358_0:=n5_;have HO361:=n6_;have HR358_0:=n7_;have HB:=n8_;clear n2_ n5_ n6_ n7_ n8_ hb ho24;obtain ⟨Ao25,co25,eo25⟩:=Kd.R_slice HO361.out;subst eo25)|(go_at_call 25;(with_reducible refine (zU.calls k _ _ (ze vH 0) _ _ y359 true _ ?side1 ?side2 ?side3 ?side4 A9.out).mono ?_);(case side1=>exact Qo QL);(case side2=>exact HC358_0.out);(case side3=>exact Qo ((Kd.R_reads' HO361.out).2.2));(case side4=>exact (Kd.R_reads' HO361.out).2.1);rintro e w' ⟨rfl,⟨nd,rfl⟩⟩;clear A9;have p363:0≤(1:Int):=(by omega);have q363:1 < (vH.length:Int):=Qa;obtain ⟨ad363,A363_0,c363_0,e363,hx363_0,hl363_0,hi363_0⟩:=Zc (Kd.N_reads' HO346.out).2.2 1 p363 q363;obtain rfl:ad358=ad363:=(by injection e363);obtain ⟨ce363,hce363,hMe363,hcc363⟩:=Kd.N_get HO346.out [] 1 p363 (by first|exact q363|exact Qa|(have e_:=(Kd.N_reads' HO346.out).1;omega));obtain ⟨ua363_0,uc363_0,rfl,ul363_0,ge363_0⟩:=Kd.FK_slice_open hMe363;have hv363_0:=hcc363 0 _ rfl;rw [Nat.add_zero,show ((Kd.slice 9 Kd.string)).sz=1 from rfl,Nat.mul_one] at hv363_0;replace hv363_0:=Option.some.inj (hv363_0.symm.trans hx363_0);injection hv363_0 with hva_ hvn_ hvc_;rw [hva_] at ge363_0;rw [hvc_] at ul363_0;have HL363_0:=zA.mk (show Kd.V Kd.string 9 _ w.heap.size _ _ (ze vH 1) from Kd.V_mk ul363_0 ge363_0);clear hva_ hvn_ hvc_ ge363_0 ul363_0 hcc363 hce363;(try simp only [show (1:Int).toNat=1 from rfl,Nat.reduceMul,Nat.reduceEqDiff,Go.Addr.add,↓reduceIte] at hx363_0);have qi363:(1 < vH.length)=True:=eq_true (by omega);(try rw [show ((1:Int)).toNat=1 from rfl] at hx363_0);have HR363_0:=zA.mk hi363_0;have HC363_0:=zA.mk hl363_0;clear hi363_0 hl363_0;replace p363:=eq_true p363;replace q363:=eq_true q363)|((with_reducible refine zx (N:=37) rfl ?_);(try (refine yT (by rfl) ?_;dsimp only));refine Kd.R_lit Kd.string _ 9 (by rfl) (N:=37) (by rfl) (xs:=([(⟨#[0]⟩:ByteArray)]:List ByteArray)) (inner:= [.string (⟨#[0]⟩:ByteArray)]) (ok:=fun _=>True) (okp:=fun _=>True) Qm ?hp (fun _ hk=>hk) trivial (Below.refl _ _) (Nat.le_refl _) (by simp) ?_;(case hp=>exact (Reps.one (show Kd.M Kd.string _ _ _ (⟨#[0]⟩:ByteArray) [.string (⟨#[0]⟩:ByteArray)] from rfl) (Reps.none _ _)));intro v365 w26 ho27 hb hg_ hnew_;clear hg_ hnew_;(first|rw [←Ny364.out] at ho27|(simp only [Int.reduceToNat] at ho27;rw [←Ny364.out] at ho27));have n5_:=zA.mk (Kd.V_elder' (Ql HL358_0) (Kd.R_base ho27) hb);have n7_:=zA.mk (Kd.V_elder' (Ql HL363_0) (Kd.R_base ho27) hb);have n8_:=zA.mk (Kd.R_lower (ZB ho27) (zE Qc));have n10_:=zA.mk (Kd.C_below QM hb);have n11_:=zA.mk (zD Qc hb);clear HL358_0 HL363_0 HR363_0 HB;have HL358_0:=n5_;have HL363_0:=n7_;have HO366:=n8_;have HR363_0:=n10_;have HB:=n11_;clear n5_ n7_ n8_ n10_ n11_ hb ho27;obtain ⟨Ao28,co28,eo28⟩:=Kd.R_slice HO366.out;subst eo28)|(go_at_call 25;(with_reducible refine (zU.calls k _ _ (ze vH 1) _ _ y364 true _ ?side1 ?side2 ?side3 ?side4 A12.out).mono ?_);(case side1=>exact Qo QM);(case side2=>exact HC363_0.out);(case side3=>exact Qo ((Kd.R_reads' HO366.out).2.2));(case side4=>exact (Kd.R_reads' HO366.out).2.1);rintro e w' ⟨rfl,⟨nd,rfl⟩⟩;clear A12))
        go_ret
        exact ⟨by first|rfl|(simp [zb,zc] <;> rfl)|(simp [*,zb,zc] <;> rfl),by repeat (first|(with_reducible first|exact HB.out|apply zG|apply zC|apply zI)|exact HB.out)⟩
       ·replace c13:=Bool.eq_false_iff.mpr c13
        subst c13
        have H1:(some false)=some r:=by rw [if_neg (show ¬(false=true) by decide)] at H;exact H
        clear H;have H:=H1;clear H1;obtain rfl:=Option.some.inj H
        go_enter Tryz.func9,Tryz.ntmps9
        go_wp2_with (first|((with_reducible refine zm (f:=24) rfl ?_);refine yJ (some 6) rfl rfl Tryz.func24 (by kernel_rfl) rfl #[] rfl QZ ?_;(with_reducible refine (zz.calls t336 t337 ww wx _ A1.out).mono ?_);rintro e w29 ⟨v339,v342,rfl,ho0,ho1,hb⟩;refine ⟨_,rfl,?_⟩;have n0_:=zA.mk (Kd.R_lower (Kd.R_mono (ok':=fun k_=>True) ho0 (fun _ hk_=>trivial)) (zE Qc));have n1_:=zA.mk (Kd.N_lower (Kd.N_mono (ok':=fun k_=>some k_≠(v339:Value).ownBlock) ho1 (fun k_ hk_=>hk_.2)) (zE Qc));have n2_:=zA.mk (zD Qc hb);clear HB;have vs:=n0_;have vm:=n1_;have HB:=n2_;clear n0_ n1_ n2_;(try clear hb ho0);(try clear ho1);obtain ⟨Ao30,co30,eo30⟩:=Kd.R_slice vs.out;subst eo30;obtain ⟨Ao31,co31,eo31⟩:=Kd.N_slice vm.out;subst eo31)|((with_reducible refine zm (f:=13) rfl ?_);refine yJ (some 7) rfl rfl Tryz.func13 (by kernel_rfl) rfl #[.agg #[.int .i64 t336, .int .i64 t337, .slice Ao30 ww.length co30, .slice Ao31 wx.length co31]] rfl QZ ?_;(with_reducible refine (yB.calls k t336 t337 _ _ ww _ _ wx vH t347 _ ?side1 ?side2 ?side3 ?side4 A2.out).mono ?_);(case side1=>exact Qo ((Kd.R_reads' vs.out).2.2));(case side2=>exact (Kd.R_reads' vs.out).2.1);(case side3=>exact Qo ((Kd.N_reads' vm.out).2.2));(case side4=>exact (Kd.N_reads' vm.out).2.1);rintro e w32 ⟨v345,rfl,ho0,hb⟩;refine ⟨_,rfl,?_⟩;have n0_:=zA.mk (Kd.R_below (Qh vs) hb);(first|have n1_:=zA.mk (Kd.N_elder' (Qk vm) (Kd.N_base ho0) hb)|have n1_:=zA.mk (Kd.N_elder' (Qk vm) (Kd.S_base ho0) hb));have n2_:=zA.mk (Kd.N_lower (Kd.N_mono (ok':=fun k_=>some k_≠(.slice Ao30 ww.length co30:Value).ownBlock∧some k_≠(.slice Ao31 wx.length co31:Value).ownBlock) ho0 (fun k_ hk_=>⟨(Kd.fresh' (Kd.R_lt (Qh vs)) k_ hk_),(Kd.fresh' (Kd.N_lt (Qk vm)) k_ hk_)⟩)) (zE Qc));have n3_:=zA.mk (zD Qc hb);clear vs vm HB;have vs:=n0_;have vm:=n1_;have HO346:=n2_;have HB:=n3_;clear n0_ n1_ n2_ n3_;(try clear hb ho0))|((with_reducible refine zm (f:=24) rfl ?_);refine yJ (some 11) rfl rfl Tryz.func24 (by kernel_rfl) rfl #[] rfl QZ ?_;(with_reducible refine (zz.calls t348 t349 t350 t353 _ A3.out).mono ?_);rintro e w33 ⟨v351,v354,rfl,ho0,ho1,hb⟩;refine ⟨_,rfl,?_⟩;(first|have n2_:=zA.mk (Kd.N_mono (Kd.N_told (Kd.N_told (Kd.N_old (Qk HO346) hb) (Kd.R_base ho0)) (Kd.N_base ho1)) (fun _ h_=>h_.1))|have n2_:=zA.mk (Kd.N_mono (Kd.N_told (Kd.N_told (Kd.N_old (Qk HO346) hb) (Kd.R_base ho0)) (Kd.S_base ho1)) (fun _ h_=>h_.1)));have n3_:=zA.mk (Kd.R_lower (ZB (Kd.R_mono (ok':=fun k_=>True) ho0 (fun _ hk_=>trivial))) (zE Qc));have n4_:=zA.mk (Kd.N_lower (Kd.N_mono (ok':=fun k_=>some k_≠(v351:Value).ownBlock∧some k_≠(.slice Ao30 ww.length co30:Value).ownBlock∧some k_≠(.slice Ao31 wx.length co31:Value).ownBlock∧some k_≠(v345:Value).ownBlock) ho1 (fun k_ hk_=>⟨hk_.2,(Kd.fresh' (Kd.R_lt (Qh vs)) k_ hk_.1),(Kd.fresh' (Kd.N_lt (Qk vm)) k_ hk_.1),(Kd.fresh' (Kd.N_lt (Qk HO346)) k_ hk_.1)⟩)) (zE Qc));have n5_:=zA.mk (zD Qc hb);clear HO346 HB;have HO346:=n2_;have wk:=n3_;have wl:=n4_;have HB:=n5_;clear n2_ n3_ n4_ n5_;(try clear hb ho0);(try clear ho1);obtain ⟨Ao34,co34,eo34⟩:=Kd.R_slice wk.out;subst eo34;obtain ⟨Ao35,co35,eo35⟩:=Kd.N_slice wl.out;subst eo35)|((with_reducible refine zm (f:=6) rfl ?_);refine yJ (some 12) rfl rfl Tryz.func6 (by kernel_rfl) rfl #[.agg #[.int .i64 t348, .int .i64 t349, .slice Ao34 t350.length co34, .slice Ao35 t353.length co35], .int .i64 0, .string (⟨#[0]⟩:ByteArray)] rfl QZ ?_;(with_reducible refine (zR.calls k t348 t349 _ _ t350 _ _ t353 0 (⟨#[0]⟩:ByteArray) t356 t357 _ ?side1 ?side2 ?side3 ?side4 A4.out).mono ?_);(case side1=>exact Qo ((Kd.R_reads' wk.out).2.2));(case side2=>exact (Kd.R_reads' wk.out).2.1);(case side3=>exact Qo ((Kd.N_reads' wl.out).2.2));(case side4=>exact (Kd.N_reads' wl.out).2.1);rintro e w36 ⟨rfl,hb⟩;refine ⟨_,rfl,?_⟩;have n2_:=zA.mk (Kd.N_below (Qk HO346) hb);have n5_:=zA.mk (zD Qc hb);clear HO346 HB;have HO346:=n2_;have HB:=n5_;clear n2_ n5_;(try clear hb);(try clear hb2);(try clear hk);(try clear hi);obtain ⟨Ao37,co37,eo37⟩:=Kd.N_slice HO346.out;subst eo37;have p358:0≤(0:Int):=(by omega);have q358:0 < (vH.length:Int):=Qa;obtain ⟨ad358,A358_0,c358_0,e358,hx358_0,hl358_0,hi358_0⟩:=Zc (Kd.N_reads' HO346.out).2.2 0 p358 q358;cases e358;obtain ⟨ce358,hce358,hMe358,hcc358⟩:=Kd.N_get HO346.out [] 0 p358 Q3;obtain ⟨ua358_0,uc358_0,rfl,ul358_0,ge358_0⟩:=Kd.FK_slice_open hMe358;have hv358_0:=hcc358 0 _ rfl;rw [Nat.add_zero,show ((Kd.slice 9 Kd.string)).sz=1 from rfl,Nat.mul_one] at hv358_0;replace hv358_0:=Option.some.inj (hv358_0.symm.trans hx358_0);injection hv358_0 with hva_ hvn_ hvc_;rw [hva_] at ge358_0;rw [hvc_] at ul358_0;have HL358_0:=zA.mk (show Kd.V Kd.string 9 _ w.heap.size _ _ (ze vH 0) from Kd.V_mk ul358_0 ge358_0);clear hva_ hvn_ hvc_ ge358_0 ul358_0 hcc358 hce358;have qi358:(0 < vH.length)=True:=eq_true (by omega);(try rw [show ((0:Int)).toNat=0 from rfl] at hx358_0);(try rw [Addr.add_zero'] at hx358_0);have HR358_0:=zA.mk hi358_0;have HC358_0:=zA.mk hl358_0;clear hi358_0 hl358_0;replace p358:=eq_true p358;replace q358:=eq_true q358)|((with_reducible refine zx (N:=30) rfl ?_);(try (refine yT (by rfl) ?_;dsimp only));refine Kd.R_lit Kd.string _ 9 (by rfl) (N:=30) (by rfl) (xs:=([(⟨#[1]⟩:ByteArray)]:List ByteArray)) (inner:= [.string (⟨#[1]⟩:ByteArray)]) (ok:=fun _=>True) (okp:=fun _=>True) Qm ?hp (fun _ hk=>hk) trivial (Below.refl _ _) (Nat.le_refl _) (by simp) ?_;(case hp=>exact (Reps.one (show Kd.M Kd.string _ _ _ (⟨#[1]⟩:ByteArray) [.string (⟨#[1]⟩:ByteArray)] from rfl) (Reps.none _ _)));intro v360 w38 ho39 hb hg_ hnew_;clear hg_ hnew_;(first|rw [←Ny359.out] at ho39|(simp only [Int.reduceToNat] at ho39;rw [←Ny359.out] at ho39));have n2_:=zA.mk (Kd.N_elder' (Qk HO346) (Kd.R_base ho39) hb);have n5_:=zA.mk (Kd.V_elder' (Ql HL358_0) (Kd.R_base ho39) hb);have n6_:=zA.mk (Kd.R_lower ho39 (zE Qc));have n7_:=zA.mk (Kd.C_below QL hb);have n8_:=zA.mk (zD Qc hb);clear HO346 HL358_0 HR358_0 HB;have HO346:=n2_;have HL358_0:=n5_;have HO361:=n6_;have HR358_0:=n7_;have HB:=n8_;clear n2_ n5_ n6_ n7_ n8_ hb ho39;obtain ⟨Ao40,co40,eo40⟩:=Kd.R_slice HO361.out;subst eo40)|(go_at_call 25;(with_reducible refine (zU.calls k _ _ (ze vH 0) _ _ y359 true _ ?side1 ?side2 ?side3 ?side4 A9.out).mono ?_);(case side1=>exact Qo QL);(case side2=>exact HC358_0.out);(case side3=>exact Qo ((Kd.R_reads' HO361.out).2.2));(case side4=>exact (Kd.R_reads' HO361.out).2.1);rintro e w' ⟨rfl,⟨nd,rfl⟩⟩;clear A9;have p363:0≤(1:Int):=(by omega);have q363:1 < (vH.length:Int):=Qa;obtain ⟨ad363,A363_0,c363_0,e363,hx363_0,hl363_0,hi363_0⟩:=Zc (Kd.N_reads' HO346.out).2.2 1 p363 q363;obtain rfl:ad358=ad363:=(by injection e363);obtain ⟨ce363,hce363,hMe363,hcc363⟩:=Kd.N_get HO346.out [] 1 p363 (by first|exact q363|exact Qa|(have e_:=(Kd.N_reads' HO346.out).1;omega));obtain ⟨ua363_0,uc363_0,rfl,ul363_0,ge363_0⟩:=Kd.FK_slice_open hMe363;have hv363_0:=hcc363 0 _ rfl;rw [Nat.add_zero,show ((Kd.slice 9 Kd.string)).sz=1 from rfl,Nat.mul_one] at hv363_0;replace hv363_0:=Option.some.inj (hv363_0.symm.trans hx363_0);injection hv363_0 with hva_ hvn_ hvc_;rw [hva_] at ge363_0;rw [hvc_] at ul363_0;have HL363_0:=zA.mk (show Kd.V Kd.string 9 _ w.heap.size _ _ (ze vH 1) from Kd.V_mk ul363_0 ge363_0);clear hva_ hvn_ hvc_ ge363_0 ul363_0 hcc363 hce363;(try simp only [show (1:Int).toNat=1 from rfl,Nat.reduceMul,Nat.reduceEqDiff,Go.Addr.add,↓reduceIte] at hx363_0);have qi363:(1 < vH.length)=True:=eq_true (by omega);(try rw [show ((1:Int)).toNat=1 from rfl] at hx363_0);have HR363_0:=zA.mk hi363_0;have HC363_0:=zA.mk hl363_0;clear hi363_0 hl363_0;replace p363:=eq_true p363;replace q363:=eq_true q363)|((with_reducible refine zx (N:=37) rfl ?_);(try (refine yT (by rfl) ?_;dsimp only));refine Kd.R_lit Kd.string _ 9 (by rfl) (N:=37) (by rfl) (xs:=([(⟨#[0]⟩:ByteArray)]:List ByteArray)) (inner:= [.string (⟨#[0]⟩:ByteArray)]) (ok:=fun _=>True) (okp:=fun _=>True) Qm ?hp (fun _ hk=>hk) trivial (Below.refl _ _) (Nat.le_refl _) (by simp) ?_;(case hp=>exact (Reps.one (show Kd.M Kd.string _ _ _ (⟨#[0]⟩:ByteArray) [.string (⟨#[0]⟩:ByteArray)] from rfl) (Reps.none _ _)));intro v365 w41 ho42 hb hg_ hnew_;clear hg_ hnew_;(first|rw [←Ny364.out] at ho42|(simp only [Int.reduceToNat] at ho42;rw [←Ny364.out] at ho42));have n5_:=zA.mk (Kd.V_elder' (Ql HL358_0) (Kd.R_base ho42) hb);have n7_:=zA.mk (Kd.V_elder' (Ql HL363_0) (Kd.R_base ho42) hb);have n8_:=zA.mk (Kd.R_lower (ZB ho42) (zE Qc));have n10_:=zA.mk (Kd.C_below QM hb);have n11_:=zA.mk (zD Qc hb);clear HL358_0 HL363_0 HR363_0 HB;have HL358_0:=n5_;have HL363_0:=n7_;have HO366:=n8_;have HR363_0:=n10_;have HB:=n11_;clear n5_ n7_ n8_ n10_ n11_ hb ho42;obtain ⟨Ao43,co43,eo43⟩:=Kd.R_slice HO366.out;subst eo43)|(go_at_call 25;(with_reducible refine (zU.calls k _ _ (ze vH 1) _ _ y364 false _ ?side1 ?side2 ?side3 ?side4 A12.out).mono ?_);(case side1=>exact Qo QM);(case side2=>exact HC363_0.out);(case side3=>exact Qo ((Kd.R_reads' HO366.out).2.2));(case side4=>exact (Kd.R_reads' HO366.out).2.1);rintro e w' ⟨rfl,⟨nd,rfl⟩⟩;clear A12))
        go_ret
        exact ⟨by first|rfl|(simp [zb,zc] <;> rfl)|(simp [*,zb,zc] <;> rfl),by repeat (first|(with_reducible first|exact HB.out|apply zG|apply zC|apply zI)|exact HB.out)⟩
      ·rw [if_neg c11] at H
       exact absurd H (by simp)
     ·replace c10:=Bool.eq_false_iff.mpr c10
      subst c10
      have H1:(some false)=some r:=by rw [if_neg (show ¬(false=true) by decide)] at H;exact H
      clear H;have H:=H1;clear H1;obtain rfl:=Option.some.inj H
      go_enter Tryz.func9,Tryz.ntmps9
      go_wp2_with (first|((with_reducible refine zm (f:=24) rfl ?_);refine yJ (some 6) rfl rfl Tryz.func24 (by kernel_rfl) rfl #[] rfl QZ ?_;(with_reducible refine (zz.calls t336 t337 ww wx _ A1.out).mono ?_);rintro e w44 ⟨v339,v342,rfl,ho0,ho1,hb⟩;refine ⟨_,rfl,?_⟩;have n0_:=zA.mk (Kd.R_lower (Kd.R_mono (ok':=fun k_=>True) ho0 (fun _ hk_=>trivial)) (zE Qc));have n1_:=zA.mk (Kd.N_lower (Kd.N_mono (ok':=fun k_=>some k_≠(v339:Value).ownBlock) ho1 (fun k_ hk_=>hk_.2)) (zE Qc));have n2_:=zA.mk (zD Qc hb);clear HB;have vs:=n0_;have vm:=n1_;have HB:=n2_;clear n0_ n1_ n2_;(try clear hb ho0);(try clear ho1);obtain ⟨Ao45,co45,eo45⟩:=Kd.R_slice vs.out;subst eo45;obtain ⟨Ao46,co46,eo46⟩:=Kd.N_slice vm.out;subst eo46)|((with_reducible refine zm (f:=13) rfl ?_);refine yJ (some 7) rfl rfl Tryz.func13 (by kernel_rfl) rfl #[.agg #[.int .i64 t336, .int .i64 t337, .slice Ao45 ww.length co45, .slice Ao46 wx.length co46]] rfl QZ ?_;(with_reducible refine (yB.calls k t336 t337 _ _ ww _ _ wx vH t347 _ ?side1 ?side2 ?side3 ?side4 A2.out).mono ?_);(case side1=>exact Qo ((Kd.R_reads' vs.out).2.2));(case side2=>exact (Kd.R_reads' vs.out).2.1);(case side3=>exact Qo ((Kd.N_reads' vm.out).2.2));(case side4=>exact (Kd.N_reads' vm.out).2.1);rintro e w47 ⟨v345,rfl,ho0,hb⟩;refine ⟨_,rfl,?_⟩;have n0_:=zA.mk (Kd.R_below (Qh vs) hb);(first|have n1_:=zA.mk (Kd.N_elder' (Qk vm) (Kd.N_base ho0) hb)|have n1_:=zA.mk (Kd.N_elder' (Qk vm) (Kd.S_base ho0) hb));have n2_:=zA.mk (Kd.N_lower (Kd.N_mono (ok':=fun k_=>some k_≠(.slice Ao45 ww.length co45:Value).ownBlock∧some k_≠(.slice Ao46 wx.length co46:Value).ownBlock) ho0 (fun k_ hk_=>⟨(Kd.fresh' (Kd.R_lt (Qh vs)) k_ hk_),(Kd.fresh' (Kd.N_lt (Qk vm)) k_ hk_)⟩)) (zE Qc));have n3_:=zA.mk (zD Qc hb);clear vs vm HB;have vs:=n0_;have vm:=n1_;have HO346:=n2_;have HB:=n3_;clear n0_ n1_ n2_ n3_;(try clear hb ho0))|((with_reducible refine zm (f:=24) rfl ?_);refine yJ (some 11) rfl rfl Tryz.func24 (by kernel_rfl) rfl #[] rfl QZ ?_;(with_reducible refine (zz.calls t348 t349 t350 t353 _ A3.out).mono ?_);rintro e w48 ⟨v351,v354,rfl,ho0,ho1,hb⟩;refine ⟨_,rfl,?_⟩;(first|have n2_:=zA.mk (Kd.N_mono (Kd.N_told (Kd.N_told (Kd.N_old (Qk HO346) hb) (Kd.R_base ho0)) (Kd.N_base ho1)) (fun _ h_=>h_.1))|have n2_:=zA.mk (Kd.N_mono (Kd.N_told (Kd.N_told (Kd.N_old (Qk HO346) hb) (Kd.R_base ho0)) (Kd.S_base ho1)) (fun _ h_=>h_.1)));have n3_:=zA.mk (Kd.R_lower (ZB (Kd.R_mono (ok':=fun k_=>True) ho0 (fun _ hk_=>trivial))) (zE Qc));have n4_:=zA.mk (Kd.N_lower (Kd.N_mono (ok':=fun k_=>some k_≠(v351:Value).ownBlock∧some k_≠(.slice Ao45 ww.length co45:Value).ownBlock∧some k_≠(.slice Ao46 wx.length co46:Value).ownBlock∧some k_≠(v345:Value).ownBlock) ho1 (fun k_ hk_=>⟨hk_.2,(Kd.fresh' (Kd.R_lt (Qh vs)) k_ hk_.1),(Kd.fresh' (Kd.N_lt (Qk vm)) k_ hk_.1),(Kd.fresh' (Kd.N_lt (Qk HO346)) k_ hk_.1)⟩)) (zE Qc));have n5_:=zA.mk (zD Qc hb);clear HO346 HB;have HO346:=n2_;have wk:=n3_;have wl:=n4_;have HB:=n5_;clear n2_ n3_ n4_ n5_;(try clear hb ho0);(try clear ho1);obtain ⟨Ao49,co49,eo49⟩:=Kd.R_slice wk.out;subst eo49;obtain ⟨Ao50,co50,eo50⟩:=Kd.N_slice wl.out;subst eo50)|((with_reducible refine zm (f:=6) rfl ?_);refine yJ (some 12) rfl rfl Tryz.func6 (by kernel_rfl) rfl #[.agg #[.int .i64 t348, .int .i64 t349, .slice Ao49 t350.length co49, .slice Ao50 t353.length co50], .int .i64 0, .string (⟨#[0]⟩:ByteArray)] rfl QZ ?_;(with_reducible refine (zR.calls k t348 t349 _ _ t350 _ _ t353 0 (⟨#[0]⟩:ByteArray) t356 t357 _ ?side1 ?side2 ?side3 ?side4 A4.out).mono ?_);(case side1=>exact Qo ((Kd.R_reads' wk.out).2.2));(case side2=>exact (Kd.R_reads' wk.out).2.1);(case side3=>exact Qo ((Kd.N_reads' wl.out).2.2));(case side4=>exact (Kd.N_reads' wl.out).2.1);rintro e w51 ⟨rfl,hb⟩;refine ⟨_,rfl,?_⟩;have n2_:=zA.mk (Kd.N_below (Qk HO346) hb);have n5_:=zA.mk (zD Qc hb);clear HO346 HB;have HO346:=n2_;have HB:=n5_;clear n2_ n5_;(try clear hb);(try clear hb2);(try clear hk);(try clear hi);obtain ⟨Ao52,co52,eo52⟩:=Kd.N_slice HO346.out;subst eo52;have p358:0≤(0:Int):=(by omega);have q358:0 < (vH.length:Int):=Qa;obtain ⟨ad358,A358_0,c358_0,e358,hx358_0,hl358_0,hi358_0⟩:=Zc (Kd.N_reads' HO346.out).2.2 0 p358 q358;cases e358;obtain ⟨ce358,hce358,hMe358,hcc358⟩:=Kd.N_get HO346.out [] 0 p358 Q3;obtain ⟨ua358_0,uc358_0,rfl,ul358_0,ge358_0⟩:=Kd.FK_slice_open hMe358;have hv358_0:=hcc358 0 _ rfl;rw [Nat.add_zero,show ((Kd.slice 9 Kd.string)).sz=1 from rfl,Nat.mul_one] at hv358_0;replace hv358_0:=Option.some.inj (hv358_0.symm.trans hx358_0);injection hv358_0 with hva_ hvn_ hvc_;rw [hva_] at ge358_0;rw [hvc_] at ul358_0;have HL358_0:=zA.mk (show Kd.V Kd.string 9 _ w.heap.size _ _ (ze vH 0) from Kd.V_mk ul358_0 ge358_0);clear hva_ hvn_ hvc_ ge358_0 ul358_0 hcc358 hce358;have qi358:(0 < vH.length)=True:=eq_true (by omega);(try rw [show ((0:Int)).toNat=0 from rfl] at hx358_0);(try rw [Addr.add_zero'] at hx358_0);have HR358_0:=zA.mk hi358_0;have HC358_0:=zA.mk hl358_0;clear hi358_0 hl358_0;replace p358:=eq_true p358;replace q358:=eq_true q358)|((with_reducible refine zx (N:=30) rfl ?_);(try (refine yT (by rfl) ?_;dsimp only));refine Kd.R_lit Kd.string _ 9 (by rfl) (N:=30) (by rfl) (xs:=([(⟨#[1]⟩:ByteArray)]:List ByteArray)) (inner:= [.string (⟨#[1]⟩:ByteArray)]) (ok:=fun _=>True) (okp:=fun _=>True) Qm ?hp (fun _ hk=>hk) trivial (Below.refl _ _) (Nat.le_refl _) (by simp) ?_;(case hp=>exact (Reps.one (show Kd.M Kd.string _ _ _ (⟨#[1]⟩:ByteArray) [.string (⟨#[1]⟩:ByteArray)] from rfl) (Reps.none _ _)));intro v360 w53 ho54 hb hg_ hnew_;clear hg_ hnew_;(first|rw [←Ny359.out] at ho54|(simp only [Int.reduceToNat] at ho54;rw [←Ny359.out] at ho54));have n5_:=zA.mk (Kd.V_elder' (Ql HL358_0) (Kd.R_base ho54) hb);have n6_:=zA.mk (Kd.R_lower ho54 (zE Qc));have n7_:=zA.mk (Kd.C_below QL hb);have n8_:=zA.mk (zD Qc hb);clear HL358_0 HR358_0 HB;have HL358_0:=n5_;have HO361:=n6_;have HR358_0:=n7_;have HB:=n8_;clear n5_ n6_ n7_ n8_ hb ho54;obtain ⟨Ao55,co55,eo55⟩:=Kd.R_slice HO361.out;subst eo55)|(go_at_call 25;(with_reducible refine (zU.calls k _ _ (ze vH 0) _ _ y359 false _ ?side1 ?side2 ?side3 ?side4 A9.out).mono ?_);(case side1=>exact Qo QL);(case side2=>exact HC358_0.out);(case side3=>exact Qo ((Kd.R_reads' HO361.out).2.2));(case side4=>exact (Kd.R_reads' HO361.out).2.1);rintro e w' ⟨rfl,⟨nd,rfl⟩⟩))
      go_ret
      exact ⟨by first|rfl|(simp [zb,zc] <;> rfl)|(simp [*,zb,zc] <;> rfl),by repeat (first|(with_reducible first|exact HB.out|apply zG|apply zC|apply zI)|exact HB.out)⟩
    ·rw [if_neg c8] at H
     exact absurd H (by simp)
   ·rw [if_neg c7] at H
    have c7b0:((vH.length:Int) == 2)=false:=beq_eq_false_iff_ne.mpr c7;have c7b1:((vH.length:Int) != 2)=true:=bne_iff_ne.mpr c7;obtain rfl:=Option.some.inj H
    go_enter Tryz.func9,Tryz.ntmps9
    go_wp2_with (first|((with_reducible refine zm (f:=24) rfl ?_);refine yJ (some 6) rfl rfl Tryz.func24 (by kernel_rfl) rfl #[] rfl QZ ?_;(with_reducible refine (zz.calls t336 t337 ww wx _ A1.out).mono ?_);rintro e w56 ⟨v339,v342,rfl,ho0,ho1,hb⟩;refine ⟨_,rfl,?_⟩;have n0_:=zA.mk (Kd.R_lower (Kd.R_mono (ok':=fun k_=>True) ho0 (fun _ hk_=>trivial)) (zE Qc));have n1_:=zA.mk (Kd.N_lower (Kd.N_mono (ok':=fun k_=>some k_≠(v339:Value).ownBlock) ho1 (fun k_ hk_=>hk_.2)) (zE Qc));have n2_:=zA.mk (zD Qc hb);clear HB;have vs:=n0_;have vm:=n1_;have HB:=n2_;clear n0_ n1_ n2_;(try clear hb ho0);(try clear ho1);obtain ⟨Ao57,co57,eo57⟩:=Kd.R_slice vs.out;subst eo57;obtain ⟨Ao58,co58,eo58⟩:=Kd.N_slice vm.out;subst eo58)|((with_reducible refine zm (f:=13) rfl ?_);refine yJ (some 7) rfl rfl Tryz.func13 (by kernel_rfl) rfl #[.agg #[.int .i64 t336, .int .i64 t337, .slice Ao57 ww.length co57, .slice Ao58 wx.length co58]] rfl QZ ?_;(with_reducible refine (yB.calls k t336 t337 _ _ ww _ _ wx vH t347 _ ?side1 ?side2 ?side3 ?side4 A2.out).mono ?_);(case side1=>exact Qo ((Kd.R_reads' vs.out).2.2));(case side2=>exact (Kd.R_reads' vs.out).2.1);(case side3=>exact Qo ((Kd.N_reads' vm.out).2.2));(case side4=>exact (Kd.N_reads' vm.out).2.1);rintro e w59 ⟨v345,rfl,ho0,hb⟩;refine ⟨_,rfl,?_⟩;have n0_:=zA.mk (Kd.R_below (Qh vs) hb);(first|have n1_:=zA.mk (Kd.N_elder' (Qk vm) (Kd.N_base ho0) hb)|have n1_:=zA.mk (Kd.N_elder' (Qk vm) (Kd.S_base ho0) hb));have n2_:=zA.mk (Kd.N_lower (Kd.N_mono (ok':=fun k_=>some k_≠(.slice Ao57 ww.length co57:Value).ownBlock∧some k_≠(.slice Ao58 wx.length co58:Value).ownBlock) ho0 (fun k_ hk_=>⟨(Kd.fresh' (Kd.R_lt (Qh vs)) k_ hk_),(Kd.fresh' (Kd.N_lt (Qk vm)) k_ hk_)⟩)) (zE Qc));have n3_:=zA.mk (zD Qc hb);clear vs vm HB;have vs:=n0_;have vm:=n1_;have HO346:=n2_;have HB:=n3_;clear n0_ n1_ n2_ n3_;(try clear hb ho0))|((with_reducible refine zm (f:=24) rfl ?_);refine yJ (some 11) rfl rfl Tryz.func24 (by kernel_rfl) rfl #[] rfl QZ ?_;(with_reducible refine (zz.calls t348 t349 t350 t353 _ A3.out).mono ?_);rintro e w60 ⟨v351,v354,rfl,ho0,ho1,hb⟩;refine ⟨_,rfl,?_⟩;(first|have n2_:=zA.mk (Kd.N_mono (Kd.N_told (Kd.N_told (Kd.N_old (Qk HO346) hb) (Kd.R_base ho0)) (Kd.N_base ho1)) (fun _ h_=>h_.1))|have n2_:=zA.mk (Kd.N_mono (Kd.N_told (Kd.N_told (Kd.N_old (Qk HO346) hb) (Kd.R_base ho0)) (Kd.S_base ho1)) (fun _ h_=>h_.1)));have n3_:=zA.mk (Kd.R_lower (ZB (Kd.R_mono (ok':=fun k_=>True) ho0 (fun _ hk_=>trivial))) (zE Qc));have n4_:=zA.mk (Kd.N_lower (Kd.N_mono (ok':=fun k_=>some k_≠(v351:Value).ownBlock∧some k_≠(.slice Ao57 ww.length co57:Value).ownBlock∧some k_≠(.slice Ao58 wx.length co58:Value).ownBlock∧some k_≠(v345:Value).ownBlock) ho1 (fun k_ hk_=>⟨hk_.2,(Kd.fresh' (Kd.R_lt (Qh vs)) k_ hk_.1),(Kd.fresh' (Kd.N_lt (Qk vm)) k_ hk_.1),(Kd.fresh' (Kd.N_lt (Qk HO346)) k_ hk_.1)⟩)) (zE Qc));have n5_:=zA.mk (zD Qc hb);clear HO346 HB;have HO346:=n2_;have wk:=n3_;have wl:=n4_;have HB:=n5_;clear n2_ n3_ n4_ n5_;(try clear hb ho0);(try clear ho1);obtain ⟨Ao61,co61,eo61⟩:=Kd.R_slice wk.out;subst eo61;obtain ⟨Ao62,co62,eo62⟩:=Kd.N_slice wl.out;subst eo62)|((with_reducible refine zm (f:=6) rfl ?_);refine yJ (some 12) rfl rfl Tryz.func6 (by kernel_rfl) rfl #[.agg #[.int .i64 t348, .int .i64 t349, .slice Ao61 t350.length co61, .slice Ao62 t353.length co62], .int .i64 0, .string (⟨#[0]⟩:ByteArray)] rfl QZ ?_;(with_reducible refine (zR.calls k t348 t349 _ _ t350 _ _ t353 0 (⟨#[0]⟩:ByteArray) t356 t357 _ ?side1 ?side2 ?side3 ?side4 A4.out).mono ?_);(case side1=>exact Qo ((Kd.R_reads' wk.out).2.2));(case side2=>exact (Kd.R_reads' wk.out).2.1);(case side3=>exact Qo ((Kd.N_reads' wl.out).2.2));(case side4=>exact (Kd.N_reads' wl.out).2.1);rintro e w63 ⟨rfl,hb⟩;refine ⟨_,rfl,?_⟩;have n2_:=zA.mk (Kd.N_below (Qk HO346) hb);have n5_:=zA.mk (zD Qc hb);clear HO346 HB;have HO346:=n2_;have HB:=n5_;clear n2_ n5_;(try clear hb);(try clear hb2);(try clear hk);(try clear hi);obtain ⟨Ao64,co64,eo64⟩:=Kd.N_slice HO346.out;subst eo64))
    go_ret
    exact ⟨by first|rfl|(simp [zb,zc] <;> rfl)|(simp [*,zb,zc] <;> rfl),by repeat (first|(with_reducible first|exact HB.out|apply zG|apply zC|apply zI)|exact HB.out)⟩
  ·rw [if_neg c6] at H
   have c6b0:(t357 == 0)=false:=beq_eq_false_iff_ne.mpr c6;have c6b1:(t357 != 0)=true:=bne_iff_ne.mpr c6;obtain rfl:=Option.some.inj H
   go_enter Tryz.func9,Tryz.ntmps9
   go_wp2_with (first|((with_reducible refine zm (f:=24) rfl ?_);refine yJ (some 6) rfl rfl Tryz.func24 (by kernel_rfl) rfl #[] rfl QZ ?_;(with_reducible refine (zz.calls t336 t337 ww wx _ A1.out).mono ?_);rintro e w65 ⟨v339,v342,rfl,ho0,ho1,hb⟩;refine ⟨_,rfl,?_⟩;have n0_:=zA.mk (Kd.R_lower (Kd.R_mono (ok':=fun k_=>True) ho0 (fun _ hk_=>trivial)) (zE Qc));have n1_:=zA.mk (Kd.N_lower (Kd.N_mono (ok':=fun k_=>some k_≠(v339:Value).ownBlock) ho1 (fun k_ hk_=>hk_.2)) (zE Qc));have n2_:=zA.mk (zD Qc hb);clear HB;have vs:=n0_;have vm:=n1_;have HB:=n2_;clear n0_ n1_ n2_;(try clear hb ho0);(try clear ho1);obtain ⟨Ao66,co66,eo66⟩:=Kd.R_slice vs.out;subst eo66;obtain ⟨Ao67,co67,eo67⟩:=Kd.N_slice vm.out;subst eo67)|((with_reducible refine zm (f:=13) rfl ?_);refine yJ (some 7) rfl rfl Tryz.func13 (by kernel_rfl) rfl #[.agg #[.int .i64 t336, .int .i64 t337, .slice Ao66 ww.length co66, .slice Ao67 wx.length co67]] rfl QZ ?_;(with_reducible refine (yB.calls k t336 t337 _ _ ww _ _ wx vH t347 _ ?side1 ?side2 ?side3 ?side4 A2.out).mono ?_);(case side1=>exact Qo ((Kd.R_reads' vs.out).2.2));(case side2=>exact (Kd.R_reads' vs.out).2.1);(case side3=>exact Qo ((Kd.N_reads' vm.out).2.2));(case side4=>exact (Kd.N_reads' vm.out).2.1);rintro e w68 ⟨v345,rfl,ho0,hb⟩;refine ⟨_,rfl,?_⟩;have n0_:=zA.mk (Kd.R_below (Qh vs) hb);(first|have n1_:=zA.mk (Kd.N_elder' (Qk vm) (Kd.N_base ho0) hb)|have n1_:=zA.mk (Kd.N_elder' (Qk vm) (Kd.S_base ho0) hb));have n2_:=zA.mk (Kd.N_lower (Kd.N_mono (ok':=fun k_=>some k_≠(.slice Ao66 ww.length co66:Value).ownBlock∧some k_≠(.slice Ao67 wx.length co67:Value).ownBlock) ho0 (fun k_ hk_=>⟨(Kd.fresh' (Kd.R_lt (Qh vs)) k_ hk_),(Kd.fresh' (Kd.N_lt (Qk vm)) k_ hk_)⟩)) (zE Qc));have n3_:=zA.mk (zD Qc hb);clear vs vm HB;have vs:=n0_;have vm:=n1_;have HO346:=n2_;have HB:=n3_;clear n0_ n1_ n2_ n3_;(try clear hb ho0))|((with_reducible refine zm (f:=24) rfl ?_);refine yJ (some 11) rfl rfl Tryz.func24 (by kernel_rfl) rfl #[] rfl QZ ?_;(with_reducible refine (zz.calls t348 t349 t350 t353 _ A3.out).mono ?_);rintro e w69 ⟨v351,v354,rfl,ho0,ho1,hb⟩;refine ⟨_,rfl,?_⟩;have n3_:=zA.mk (Kd.R_lower (ZB (Kd.R_mono (ok':=fun k_=>True) ho0 (fun _ hk_=>trivial))) (zE Qc));have n4_:=zA.mk (Kd.N_lower (Kd.N_mono (ok':=fun k_=>some k_≠(v351:Value).ownBlock∧some k_≠(.slice Ao66 ww.length co66:Value).ownBlock∧some k_≠(.slice Ao67 wx.length co67:Value).ownBlock∧some k_≠(v345:Value).ownBlock) ho1 (fun k_ hk_=>⟨hk_.2,(Kd.fresh' (Kd.R_lt (Qh vs)) k_ hk_.1),(Kd.fresh' (Kd.N_lt (Qk vm)) k_ hk_.1),(Kd.fresh' (Kd.N_lt (Qk HO346)) k_ hk_.1)⟩)) (zE Qc));have n5_:=zA.mk (zD Qc hb);clear HB;have wk:=n3_;have wl:=n4_;have HB:=n5_;clear n3_ n4_ n5_;(try clear hb ho0);(try clear ho1);obtain ⟨Ao70,co70,eo70⟩:=Kd.R_slice wk.out;subst eo70;obtain ⟨Ao71,co71,eo71⟩:=Kd.N_slice wl.out;subst eo71)|((with_reducible refine zm (f:=6) rfl ?_);refine yJ (some 12) rfl rfl Tryz.func6 (by kernel_rfl) rfl #[.agg #[.int .i64 t348, .int .i64 t349, .slice Ao70 t350.length co70, .slice Ao71 t353.length co71], .int .i64 0, .string (⟨#[0]⟩:ByteArray)] rfl QZ ?_;(with_reducible refine (zR.calls k t348 t349 _ _ t350 _ _ t353 0 (⟨#[0]⟩:ByteArray) t356 t357 _ ?side1 ?side2 ?side3 ?side4 A4.out).mono ?_);(case side1=>exact Qo ((Kd.R_reads' wk.out).2.2));(case side2=>exact (Kd.R_reads' wk.out).2.1);(case side3=>exact Qo ((Kd.N_reads' wl.out).2.2));(case side4=>exact (Kd.N_reads' wl.out).2.1);rintro e w72 ⟨rfl,hb⟩;refine ⟨_,rfl,?_⟩;have n5_:=zA.mk (zD Qc hb);clear HB;have HB:=n5_;clear n5_;(try clear hb);(try clear hb2);(try clear hk);(try clear hi)))
   go_ret
   exact ⟨by first|rfl|(simp [zb,zc] <;> rfl)|(simp [*,zb,zc] <;> rfl),by repeat (first|(with_reducible first|exact HB.out|apply zG|apply zC|apply zI)|exact HB.out)⟩
 ·rw [if_neg c5] at H
  have c5b0:(t347 == 0)=false:=beq_eq_false_iff_ne.mpr c5;have c5b1:(t347 != 0)=true:=bne_iff_ne.mpr c5;obtain rfl:=Option.some.inj H
  go_enter Tryz.func9,Tryz.ntmps9
  go_wp2_with (first|((with_reducible refine zm (f:=24) rfl ?_);refine yJ (some 6) rfl rfl Tryz.func24 (by kernel_rfl) rfl #[] rfl QZ ?_;(with_reducible refine (zz.calls t336 t337 ww wx _ A1.out).mono ?_);rintro e w73 ⟨v339,v342,rfl,ho0,ho1,hb⟩;refine ⟨_,rfl,?_⟩;have n0_:=zA.mk (Kd.R_lower (Kd.R_mono (ok':=fun k_=>True) ho0 (fun _ hk_=>trivial)) (zE Qc));have n1_:=zA.mk (Kd.N_lower (Kd.N_mono (ok':=fun k_=>some k_≠(v339:Value).ownBlock) ho1 (fun k_ hk_=>hk_.2)) (zE Qc));have n2_:=zA.mk (zD Qc hb);clear HB;have vs:=n0_;have vm:=n1_;have HB:=n2_;clear n0_ n1_ n2_;(try clear hb ho0);(try clear ho1);obtain ⟨Ao74,co74,eo74⟩:=Kd.R_slice vs.out;subst eo74;obtain ⟨Ao75,co75,eo75⟩:=Kd.N_slice vm.out;subst eo75)|((with_reducible refine zm (f:=13) rfl ?_);refine yJ (some 7) rfl rfl Tryz.func13 (by kernel_rfl) rfl #[.agg #[.int .i64 t336, .int .i64 t337, .slice Ao74 ww.length co74, .slice Ao75 wx.length co75]] rfl QZ ?_;(with_reducible refine (yB.calls k t336 t337 _ _ ww _ _ wx vH t347 _ ?side1 ?side2 ?side3 ?side4 A2.out).mono ?_);(case side1=>exact Qo ((Kd.R_reads' vs.out).2.2));(case side2=>exact (Kd.R_reads' vs.out).2.1);(case side3=>exact Qo ((Kd.N_reads' vm.out).2.2));(case side4=>exact (Kd.N_reads' vm.out).2.1);rintro e w76 ⟨v345,rfl,ho0,hb⟩;refine ⟨_,rfl,?_⟩;have n0_:=zA.mk (Kd.R_below (Qh vs) hb);(first|have n1_:=zA.mk (Kd.N_elder' (Qk vm) (Kd.N_base ho0) hb)|have n1_:=zA.mk (Kd.N_elder' (Qk vm) (Kd.S_base ho0) hb));have n2_:=zA.mk (Kd.N_lower (Kd.N_mono (ok':=fun k_=>some k_≠(.slice Ao74 ww.length co74:Value).ownBlock∧some k_≠(.slice Ao75 wx.length co75:Value).ownBlock) ho0 (fun k_ hk_=>⟨(Kd.fresh' (Kd.R_lt (Qh vs)) k_ hk_),(Kd.fresh' (Kd.N_lt (Qk vm)) k_ hk_)⟩)) (zE Qc));have n3_:=zA.mk (zD Qc hb);clear vs vm HB;have vs:=n0_;have vm:=n1_;have HO346:=n2_;have HB:=n3_;clear n0_ n1_ n2_ n3_;(try clear hb ho0))|((with_reducible refine zm (f:=24) rfl ?_);refine yJ (some 11) rfl rfl Tryz.func24 (by kernel_rfl) rfl #[] rfl QZ ?_;(with_reducible refine (zz.calls t348 t349 t350 t353 _ A3.out).mono ?_);rintro e w77 ⟨v351,v354,rfl,ho0,ho1,hb⟩;refine ⟨_,rfl,?_⟩;have n3_:=zA.mk (Kd.R_lower (ZB (Kd.R_mono (ok':=fun k_=>True) ho0 (fun _ hk_=>trivial))) (zE Qc));have n4_:=zA.mk (Kd.N_lower (Kd.N_mono (ok':=fun k_=>some k_≠(v351:Value).ownBlock∧some k_≠(.slice Ao74 ww.length co74:Value).ownBlock∧some k_≠(.slice Ao75 wx.length co75:Value).ownBlock∧some k_≠(v345:Value).ownBlock) ho1 (fun k_ hk_=>⟨hk_.2,(Kd.fresh' (Kd.R_lt (Qh vs)) k_ hk_.1),(Kd.fresh' (Kd.N_lt (Qk vm)) k_ hk_.1),(Kd.fresh' (Kd.N_lt (Qk HO346)) k_ hk_.1)⟩)) (zE Qc));have n5_:=zA.mk (zD Qc hb);clear HB;have wk:=n3_;have wl:=n4_;have HB:=n5_;clear n3_ n4_ n5_;(try clear hb ho0);(try clear ho1);obtain ⟨Ao78,co78,eo78⟩:=Kd.R_slice wk.out;subst eo78;obtain ⟨Ao79,co79,eo79⟩:=Kd.N_slice wl.out;subst eo79)|((with_reducible refine zm (f:=6) rfl ?_);refine yJ (some 12) rfl rfl Tryz.func6 (by kernel_rfl) rfl #[.agg #[.int .i64 t348, .int .i64 t349, .slice Ao78 t350.length co78, .slice Ao79 t353.length co79], .int .i64 0, .string (⟨#[0]⟩:ByteArray)] rfl QZ ?_;(with_reducible refine (zR.calls k t348 t349 _ _ t350 _ _ t353 0 (⟨#[0]⟩:ByteArray) t356 t357 _ ?side1 ?side2 ?side3 ?side4 A4.out).mono ?_);(case side1=>exact Qo ((Kd.R_reads' wk.out).2.2));(case side2=>exact (Kd.R_reads' wk.out).2.1);(case side3=>exact Qo ((Kd.N_reads' wl.out).2.2));(case side4=>exact (Kd.N_reads' wl.out).2.1);rintro e w80 ⟨rfl,hb⟩;refine ⟨_,rfl,?_⟩;have n5_:=zA.mk (zD Qc hb);clear HB;have HB:=n5_;clear n5_;(try clear hb);(try clear hb2);(try clear hk);(try clear hi)))
  go_ret
  exact ⟨by first|rfl|(simp [zb,zc] <;> rfl)|(simp [*,zb,zc] <;> rfl),by repeat (first|(with_reducible first|exact HB.out|apply zG|apply zC|apply zI)|exact HB.out)⟩
mutual
def zZ.j0:Nat→ByteArray→Bool→Option (Bool)
 | 0,_,_=>none
 | k + 1,x0,x17=>if x17=true then (some false) else (zZ.l0 k x0 0)
def zZ.l0:Nat→ByteArray→Int→Option (Bool)
 | 0,_,_=>none
 | k + 1,x0,x5=>if x5 < (x0.size:Int) then (if 0≤x5 then (if (bt x0 x5) > 60 then (some false) else (if x5 > 0 then (if 0≤(wrap64 (x5 - 1)) then (if (wrap64 (x5 - 1)) < (x0.size:Int) then (if (bt x0 (wrap64 (x5 - 1)))=0 then (if (bt x0 x5)=0 then (zZ.l0 k x0 (wrap64 (x5 + 1))) else (some false)) else (zZ.l0 k x0 (wrap64 (x5 + 1)))) else (none)) else (none)) else (zZ.l0 k x0 (wrap64 (x5 + 1))))) else (none)) else (some true)
end
def zZ.f (k:Nat) (a0:ByteArray) (a1:Int):Option (Bool):=if a1 < 1 then (zZ.j0 k a0 true) else (if a1 > 4 then (zZ.j0 k a0 true) else (zZ.j0 k a0 (decide ((a0.size:Int) > a1))))
theorem zZ.mono_l:∀k,(∀y0 y1,LeO (zZ.j0 k y0 y1) (zZ.j0 (k + 1) y0 y1))∧(∀y0 y1,LeO (zZ.l0 k y0 y1) (zZ.l0 (k + 1) y0 y1))
 | 0=>⟨fun _ _ r h=>by simp [zZ.j0] at h,fun _ _ r h=>by simp [zZ.l0] at h⟩
 | k + 1=>by
  obtain ⟨ih0,ih1⟩:=zZ.mono_l k;refine ⟨?_,?_⟩
  ·intro y0 y1
   unfold zZ.j0
   repeat' first
   | with_reducible first|exact ih0 _ _|exact ih1 _ _|exact LeO.refl _|exact LeO.none _|refine LeO.ite ?_ ?_|refine LeO.bind ?_ (fun _=> ?_)
  ·intro y0 y1
   unfold zZ.l0
   repeat' first
   | with_reducible first|exact ih0 _ _|exact ih1 _ _|exact LeO.refl _|exact LeO.none _|refine LeO.ite ?_ ?_|refine LeO.bind ?_ (fun _=> ?_)
theorem zZ.mono:∀a0 a1 k,LeO (zZ.f k a0 a1) (zZ.f (k + 1) a0 a1):=by
 intro a0 a1 k;obtain ⟨ih0,ih1⟩:=zZ.mono_l k
 unfold zZ.f
 repeat' first
   | with_reducible first|exact ih0 _ _|exact ih1 _ _|exact LeO.refl _|exact LeO.none _|refine LeO.ite ?_ ?_|refine LeO.bind ?_ (fun _=> ?_)
theorem zZ.calls (k:Nat) (a0:ByteArray) (a1:Int) (r:Bool) (w:World) (h:zZ.f k a0 a1=some r) :
  Calls Tryz.prog 14 #[.string a0, .int .i64 a1] w fun e w'=>e= .returned (.bool r)∧zv w w':=by
 have H:(if a1 < 1 then (zZ.j0 k a0 true) else (if a1 > 4 then (zZ.j0 k a0 true) else (zZ.j0 k a0 (decide ((a0.size:Int) > a1)))))=some r:=h;clear h;have HC3:=zA.mk H;clear H
 go_enter Tryz.func14,Tryz.ntmps14
 go_upto_region 1 with (fail)
 go_cut [17] (fun v17 wc=>∃(kq:Nat) (x17_2:Bool),v17= .bool x17_2∧zA (zZ.j0 kq a0 x17_2=some r)∧zA (kq≤k)∧zv w wc)
 case first=>
  have H:=HC3.out;clear HC3
  by_cases c4:a1 < 1
  ·rw [if_pos c4] at H
   have c4b0:=decide_eq_true c4;clear c4
   (first|rw [c4b0]|(simp only [yz,ZQ];rw [c4b0])|skip)
   have H':=zA.mk H;clear H
   go_wp2
   go_meet
   case rel=>exact ⟨_,(true),Q6,H',⟨by first|omega|exact Nat.le_refl _⟩,by repeat (first|exact zv.refl _|apply zv.step)⟩
  ·rw [if_neg c4] at H
   have c4b0:=decide_eq_false c4;clear c4
   (first|rw [c4b0]|(simp only [yz,ZQ];rw [c4b0])|skip)
   by_cases c5:a1 > 4
   ·rw [if_pos c5] at H
    have c5b0:=decide_eq_true c5;clear c5;have H':=zA.mk H;clear H
    go_wp2
    go_meet
    case rel=>exact ⟨_,(true),Q6,H',⟨by first|omega|exact Nat.le_refl _⟩,by repeat (first|exact zv.refl _|apply zv.step)⟩
   ·rw [if_neg c5] at H
    have c5b0:=decide_eq_false c5;clear c5;have H':=zA.mk H;clear H
    go_wp2
    go_meet
    case rel=>exact ⟨_,(decide ((a0.size:Int) > a1)),Q6,H',⟨by first|omega|exact Nat.le_refl _⟩,by repeat (first|exact zv.refl _|apply zv.step)⟩
 case rest=>
  clear HC3;(try clear c1);(try clear p2);(try clear c4);(try clear c4b0);(try clear c5);(try clear c5b0);obtain ⟨kq,x17_2,rfl,HA,HJ2,⟨mc2,rfl⟩⟩:=hcut;cases kq with
  | zero=>exact absurd HA.out (by simp [zZ.j0])
  | succ kj2=>
   have H:=HA.out;clear HA;simp only [zZ.j0] at H
   by_cases c6:x17_2=true
   ·subst c6
    have H1:(some false)=some r:=by rw [if_pos rfl] at H;exact H
    clear H;have H:=H1;clear H1;obtain rfl:=Option.some.inj H
    go_wp2
    go_ret
    exact ⟨by first|rfl|(simp;done)|(simp [*];done),by repeat (first|exact zv.refl _|apply zv.step)⟩
   ·replace c6:=Bool.eq_false_iff.mpr c6
    subst c6
    have H1:(zZ.l0 kj2 a0 0)=some r:=by rw [if_neg (show ¬(false=true) by decide)] at H;exact H
    clear H;have H:=H1;clear H1;have H':=zA.mk H;clear H
    go_wp2
    go_loopg [5] kj2 (fun kq v5 w'=>∃(x5_2:Int),v5= .int .i64 x5_2∧zA (zZ.l0 kq a0 x5_2=some r)∧zA (kq≤kj2)∧zv w w')
    case atStart=>exact ⟨(0),Q6,H',⟨Nat.le_refl _⟩,by repeat (first|exact zv.refl _|apply zv.step)⟩
    case round=>
     clear H';(try clear c1);(try clear c2);(try clear p2);(try clear c4);(try clear c4b0);(try clear c5);(try clear c5b0);(try clear c6);(try clear p2);obtain ⟨x5_2,rfl,HA,HK2,⟨m2,rfl⟩⟩:=hrel;cases gk with
     | zero=>exact absurd HA.out (by simp [zZ.l0])
     | succ k2=>
      have H:=HA.out;clear HA;simp only [zZ.l0] at H
      by_cases c7:x5_2 < (a0.size:Int)
      ·rw [if_pos c7] at H
       have c7b0:=decide_eq_true c7;clear c7
       by_cases c8:0≤x5_2
       ·rw [if_pos c8] at H
        have c8b0:=decide_eq_true c8;clear c8
        by_cases c10:(bt a0 x5_2) > 60
        ·rw [if_pos c10] at H
         have c10b0:=decide_eq_true c10;clear c10;obtain rfl:=Option.some.inj H;have p9:0≤(x5_2:Int):=Qa;have q9:x5_2 < (a0.size:Int):=Qa;have hx9:=YH a0 x5_2;replace p9:=eq_true p9;replace q9:=eq_true q9
         go_wp2
         go_ret
         exact ⟨by first|rfl|(simp;done)|(simp [*];done),by repeat (first|exact zv.refl _|apply zv.step)⟩
        ·rw [if_neg c10] at H
         have c10b0:=decide_eq_false c10;clear c10
         by_cases c11:x5_2 > 0
         ·rw [if_pos c11] at H
          have c11b0:=decide_eq_true c11;clear c11;obtain ⟨ji12,hji12⟩:∃j_:Int,(wrap64 (x5_2 - 1))=j_:=⟨_,rfl⟩
          replace H:(if 0≤(ji12) then (if (ji12) < (a0.size:Int) then (if (bt a0 (ji12))=0 then (if (bt a0 x5_2)=0 then (zZ.l0 k2 a0 (wrap64 (x5_2 + 1))) else (some false)) else (zZ.l0 k2 a0 (wrap64 (x5_2 + 1)))) else (none)) else (none))=some r:=by first|(rw [hji12] at H;exact H)|(simp only [hji12] at H⊢;exact H)
          have hji12w:(IntKind.i64.wrap (x5_2 - 1))=ji12:=(yz _).trans hji12
          by_cases c13:0≤(ji12)
          ·rw [if_pos c13] at H
           have c13b0:=decide_eq_true c13;clear c13
           by_cases c14:(ji12) < (a0.size:Int)
           ·rw [if_pos c14] at H
            have c14b0:=decide_eq_true c14;clear c14
            by_cases c16:(bt a0 (ji12))=0
            ·rw [if_pos c16] at H
             have c16b0:((bt a0 (ji12)) == 0)=true:=beq_iff_eq.mpr c16;have c16b1:((bt a0 (ji12)) != 0)=false:=bne_eq_false_iff_eq.mpr c16;clear c16
             by_cases c18:(bt a0 x5_2)=0
             ·rw [if_pos c18] at H
              have c18b0:((bt a0 x5_2) == 0)=true:=beq_iff_eq.mpr c18;have c18b1:((bt a0 x5_2) != 0)=false:=bne_eq_false_iff_eq.mpr c18;clear c18;have H':=zA.mk H;clear H;have p9:0≤(x5_2:Int):=Qa;have q9:x5_2 < (a0.size:Int):=Qa;have hx9:=YH a0 x5_2;replace p9:=eq_true p9;replace q9:=eq_true q9;have p15:0≤((ji12):Int):=Qa;have q15:(ji12) < (a0.size:Int):=Qa;have hx15:=YH a0 (ji12);replace p15:=eq_true p15;replace q15:=eq_true q15;have p17:0≤(x5_2:Int):=Qa;have q17:x5_2 < (a0.size:Int):=Qa;have hx17:=YH a0 x5_2;replace p17:=eq_true p17;replace q17:=eq_true q17
              go_wp2
              go_roundg k2
              case measure=>have:=HJ2.out;have:=HK2.out;omega
              case rel=>exact ⟨(wrap64 (x5_2 + 1)),Q6,H',⟨by have:=HJ2.out;have:=HK2.out;omega⟩,by repeat (first|exact zv.refl _|apply zv.step)⟩
             ·rw [if_neg c18] at H
              have c18b0:((bt a0 x5_2) == 0)=false:=beq_eq_false_iff_ne.mpr c18;have c18b1:((bt a0 x5_2) != 0)=true:=bne_iff_ne.mpr c18;obtain rfl:=Option.some.inj H;have p9:0≤(x5_2:Int):=Qa;have q9:x5_2 < (a0.size:Int):=Qa;have hx9:=YH a0 x5_2;replace p9:=eq_true p9;replace q9:=eq_true q9;have p15:0≤((ji12):Int):=Qa;have q15:(ji12) < (a0.size:Int):=Qa;have hx15:=YH a0 (ji12);replace p15:=eq_true p15;replace q15:=eq_true q15;have p17:0≤(x5_2:Int):=Qa;have q17:x5_2 < (a0.size:Int):=Qa;have hx17:=YH a0 x5_2;replace p17:=eq_true p17;replace q17:=eq_true q17
              go_wp2
              go_ret
              exact ⟨by first|rfl|(simp;done)|(simp only [←hji12] <;> (first|rfl|simp))|(simp [*];done),by repeat (first|exact zv.refl _|apply zv.step)⟩
            ·rw [if_neg c16] at H
             have c16b0:((bt a0 (ji12)) == 0)=false:=beq_eq_false_iff_ne.mpr c16;have c16b1:((bt a0 (ji12)) != 0)=true:=bne_iff_ne.mpr c16;have H':=zA.mk H;clear H;have p9:0≤(x5_2:Int):=Qa;have q9:x5_2 < (a0.size:Int):=Qa;have hx9:=YH a0 x5_2;replace p9:=eq_true p9;replace q9:=eq_true q9;have p15:0≤((ji12):Int):=Qa;have q15:(ji12) < (a0.size:Int):=Qa;have hx15:=YH a0 (ji12);replace p15:=eq_true p15;replace q15:=eq_true q15
             go_wp2
             go_roundg k2
             case measure=>have:=HJ2.out;have:=HK2.out;omega
             case rel=>exact ⟨(wrap64 (x5_2 + 1)),Q6,H',⟨by have:=HJ2.out;have:=HK2.out;omega⟩,by repeat (first|exact zv.refl _|apply zv.step)⟩
           ·rw [if_neg c14] at H
            exact absurd H (by simp)
          ·rw [if_neg c13] at H
           exact absurd H (by simp)
         ·rw [if_neg c11] at H
          have c11b0:=decide_eq_false c11;clear c11;have H':=zA.mk H;clear H;have p9:0≤(x5_2:Int):=Qa;have q9:x5_2 < (a0.size:Int):=Qa;have hx9:=YH a0 x5_2;replace p9:=eq_true p9;replace q9:=eq_true q9
          go_wp2
          go_roundg k2
          case measure=>have:=HJ2.out;have:=HK2.out;omega
          case rel=>exact ⟨(wrap64 (x5_2 + 1)),Q6,H',⟨by have:=HJ2.out;have:=HK2.out;omega⟩,by repeat (first|exact zv.refl _|apply zv.step)⟩
       ·rw [if_neg c8] at H
        exact absurd H (by simp)
      ·rw [if_neg c7] at H
       have c7b0:=decide_eq_false c7;clear c7;obtain rfl:=Option.some.inj H
       go_wp2
       go_ret
       exact ⟨by first|rfl|(simp;done)|(simp [*];done),by repeat (first|exact zv.refl _|apply zv.step)⟩
end Go.Proofs.YtpfeebmfihgelaaGreat.HGuessWhole
