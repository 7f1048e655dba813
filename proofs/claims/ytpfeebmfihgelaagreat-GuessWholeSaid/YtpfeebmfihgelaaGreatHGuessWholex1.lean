-- Written by plus.py for this claim.
import Derived.Test.YtpfeebmfihgelaaGreatSGuessWholeVZip
import Derived.Test.YtpfeebmfihgelaaGreatHGuessWholex0
namespace Go.Proofs.YtpfeebmfihgelaaGreat.HGuessWhole
open Go.RowKit Go.Proofs.YtpfeebmfihgelaaGreatW.PrintWords Go.Proofs.YtpfeebmfihgelaaGreatW.PrintLast Go.Proofs.YtpfeebmfihgelaaGreatW.PrintMore
attribute [local go_sem] ym yn ZG ZH yd ye yo yp   -- for this text's walks alone
set_option linter.unusedVariables false
set_option linter.unusedSimpArgs false
theorem ZB {α:Type} {d:Kd α} {e:Nat} {w:World} {base:Nat} {ok:Nat→Prop} {v:Value} {xs:List α} (h:d.R e w base ok v xs):d.R e w base (fun k=>ok k∧True) v xs:=Kd.R_mono h (fun _ hk=>⟨hk,trivial⟩)
theorem qr {α β:Type} {d:Kd α} {d':Kd β} {w W:World} {g n m:Nat} {ad p:Addr} {xs:List α} {ys:List β} {A1:Option Addr} {c1:Nat} (h:∀W_,zk w W_ g none→d.C W_ (some ad) n xs) (hn:0 < n) (hs:0 < d.sz) (hk:zk w W g none) (hp:p.block=ad.block)
  (hc:W.cell? p=some (.slice A1 m c1)) (hat:∀W_,d.C W_ (some ad) n xs→∃A2 c2,W_.cell? p=some (.slice A2 m c2)∧d'.C W_ A2 m ys):∀W_,zk W W_ g none→d'.C W_ A1 m ys:=by
 intro W_ hk';obtain ⟨A2,c2,h2,h3⟩:=hat W_ (h W_ (hk.trans hk' (.inl rfl)));have e:W_.heap[p.block]? =W.heap[p.block]? :=hk'.2 p.block (by rw [hp];exact Nat.lt_of_lt_of_le (Kd.foot_lt h hn hs) hk.1) (by rw [hp];exact Kd.foot_ne h hn hs) (by simp)
 have e2:W_.cell? p=W.cell? p:=by unfold World.cell?;rw [e]
 rw [e2,hc] at h2;cases h2
 exact h3
def yY.f (l0:List Int):Option (List Int):=(some (([]:List Int):List Int)).bind fun y101=>(if y101.length + l0.length < 17592186044416 then (some (y101 ++ l0)) else (none))
set_option maxHeartbeats 8000000 in
set_option maxRecDepth 100000 in
theorem yY.calls (A0:Option Addr) (c0:Nat) (l0:List Int) (r:List Int) (w:World) (hr0:Kd.C (Kd.int .i64) w A0 l0.length l0) (hc0:l0.length≤c0) (h:yY.f l0=some r) :
  Calls Tryz.prog 33 #[.slice A0 l0.length c0] w fun e w'=>∃v0_:Value,e= .returned (v0_)∧Kd.R (Kd.int .i64) 3 w' w.heap.size (fun _=>True) v0_ r∧Below w.heap.size w w':=by
 have HR0:=zA.mk hr0;have HC0:=zA.mk hc0;clear hr0 hc0;have HB:=zA.mk (Below.refl w.heap.size w);have H:((some (([]:List Int):List Int)).bind fun y101=>(if y101.length + l0.length < 17592186044416 then (some (y101 ++ l0)) else (none)))=some r:=h;clear h;obtain ⟨y101,hy101⟩:∃y_:List Int,y_=(([]:List Int)):=⟨_,rfl⟩;replace H:(if y101.length + l0.length < 17592186044416 then (some (y101 ++ l0)) else (none))=some r:=Qb hy101 H;have Ny101:=zA.mk hy101;clear hy101
 by_cases c2:y101.length + l0.length < 17592186044416
 ·rw [if_pos c2] at H
  have LMc2:=zA.mk c2;clear c2;obtain ⟨y104,hy104⟩:∃y_:List Int,y_=(y101 ++ l0):=⟨_,rfl⟩;replace H:(some y104)=some r:=Qb hy104 H;have Ny104:=zA.mk hy104;clear hy104;obtain rfl:=Option.some.inj H
  go_enter Tryz.func33,Tryz.ntmps33
  go_wp2_with (first|((with_reducible refine zx (N:=3) rfl ?_);refine Kd.R_lit (Kd.int .i64) _ 3 (by rfl) (N:=3) (by rfl) (xs:=([]:List Int)) (inner:= []) (ok:=fun _=>True) (okp:=fun _=>True) Qm ?hp (fun _ hk=>hk) trivial (Below.refl _ _) (Nat.le_refl _) (by simp) ?_;(case hp=>exact (Reps.none _ _));intro v102 w3 ho4 hb hg_ hnew_;clear hg_ hnew_;(first|rw [←Ny101.out] at ho4|(simp only [Int.reduceToNat] at ho4;rw [←Ny101.out] at ho4));have n0_:=zA.mk (Kd.R_lower ho4 (zE Qc));have n1_:=zA.mk (zD Qc hb);clear HB;have HO103:=n0_;have HB:=n1_;clear n0_ n1_ hb ho4)|((with_reducible refine ZZ (b:= .append) (xs:= #[.tmp 3, .tmp 4]) rfl ?_);at_builtin;refine Kd.R_append_rows (Kd.int .i64) (w0:=w) w.heap.size rfl (.tmp 3) (.tmp 4) 22 3 (.int .i64 0) 8 rfl Tryz.underlying22 info3 rfl (by decide) (by omega) v102 y101 l0 _ _ _ (fun _=>True) (fun _=>False) rfl rfl ?aO ?aR (fun _ _ h=>h) (fun _ h=>h.elim) ?aF ?aB ?aS ?aL ?_;(case aR=>exact Qo (Kd.C_below HR0.out HB.out));(case aB=>exact Qc);(case aF=>exact (fun _ _=>trivial));(case aO=>exact (Qh HO103));(case aS=>exact (zE Qc));(case aL=>have:=LMc2.out;omega);intro v105 w5 ho hb hg hat;rw [←Ny104.out] at ho;have n0_:=zA.mk (hb);have n1_:=zA.mk (ho);clear HB HO103;have HB:=n0_;have HO106:=n1_;clear n0_ n1_ ho hb hg hat))
  go_ret
  exact ⟨_,by first|rfl|(simp [zb,zc] <;> rfl)|(simp [*,zb,zc] <;> rfl),by (with_reducible repeat (first|apply Kd.R_alloc|apply Kd.R_drewN|apply Kd.R_drew));exact HO106.out,by repeat (first|(with_reducible first|exact HB.out|apply zG|apply zC|apply zI)|exact HB.out)⟩
 ·rw [if_neg c2] at H
  exact absurd H (by simp)
end Go.Proofs.YtpfeebmfihgelaaGreat.HGuessWhole
