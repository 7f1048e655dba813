/- For all plain rules (cut to eight nonterminals, fourteen productions of four symbols, as the statement has it), all nonterminals and all texts: which production has a guess, and with which tokens guesses begin, is as the document says, or refused. No other condition. -/
-- Written by pure.py for this claim.
import Derived.Test.YtpfeebmfihgelaaGreatHGuessPicksx
import Derived.Test.YtpfeebmfihgelaaGreatSGuessPicksVPure
import Derived.Sort.Walk0
namespace Go.Proofs.YtpfeebmfihgelaaGreat.Pure
open Go.RowKit Go.Plus Go.Proofs.YtpfeebmfihgelaaGreat.HGuessPicks Go.Proofs.YtpfeebmfihgelaaGreatW.PrintWords Go.Proofs.YtpfeebmfihgelaaGreatW.PrintLast Go.Proofs.YtpfeebmfihgelaaGreatW.PrintMore
set_option linter.unusedVariables false
set_option linter.unusedSimpArgs false
abbrev Sym:=S70
abbrev Prod':=S42
theorem rdS {l:List Sym} {i:Nat} (h:i < l.length):zg l (i:Int)=l[i]:=by
 unfold zg
 simp [List.getD_eq_getElem?_getD,h]
theorem rdP {l:List Prod'} {i:Nat} (h:i < l.length):zH l (i:Int)=l[i]:=by
 unfold zH
 simp [List.getD_eq_getElem?_getD,h]
def yt (toks:Int) (n:Nat) (s:Sym):Bool:=if s.f0=true then !(decide (1≤s.f1) && decide (s.f1≤toks)) else !(decide (0≤s.f1) && decide (s.f1 < (n:Int)))
def yf (toks:Int) (n:Nat) (p:Prod'):Bool:= !(decide (0≤p.f0) && decide (p.f0 < (n:Int))) || p.f1.any (yt toks n)
def mayE (toks look:Int) (n:Nat) (L:List Prod'):Int:=
 if toks < 1∨60 < toks∨n < 1∨500 < n∨L.length < 1∨2000 < L.length∨(L.any fun p=>decide (500 < p.f1.length))=true then 8 else if look < 1∨4 < look then 11 else if L.any (yf toks n)=true then 4 else 0
theorem sym_some (toks look:Int) (of:List Int) (L:List Prod') (b:Bool) (n:Int):qE.f toks look of L b n=some (!yt toks of.length ⟨b,n⟩):=by
 unfold qE.f yb.f yt
 cases b
 ·by_cases h:n≥0
  ·simp [h]
  ·simp [h]
 ·by_cases h:n≥1
  ·simp [h]
  ·simp [h]
theorem drop_any {α:Type} {l:List α} {i:Nat} (h:i < l.length) (f:α→Bool):(l.drop i).any f=(f l[i] || (l.drop (i + 1)).any f):=by
 rw [List.drop_eq_getElem_cons h,List.any_cons]
theorem idxSym (toks look:Int) (of:List Int) (L:List Prod') (l:List Sym) (hl:l.length≤1000000000):∀(d i:Nat),i + d=l.length→∃z:Int,decide (z≥0)=(l.drop i).any (yt toks of.length)∧Ev (fun k=>zV.l0 k l l.length i toks look of L) (z,toks,look):=by
 intro d
 induction d with
 | zero=>
  intro i hi
  exact ⟨-1,by rw [List.drop_of_length_le (by omega)];rfl,Ev.step (fun k=>by rw [zV.l0,if_neg (by omega)]) (Ev.now _)⟩
 | succ d ih=>
  intro i hi
  have hlt:i < l.length:=by omega
  have hw:wrap64 ((i:Int) + 1)=((i + 1:Nat):Int):=by rw [ya (by omega)];rfl
  have e:YQ.f l[i].f0 l[i].f1 toks look of L=some (yt toks of.length l[i],toks,look):=by
   unfold YQ.f
   rw [sym_some,Option.bind_some,Bool.not_not]
  rw [drop_any hlt]
  cases hb:yt toks of.length l[i]
  ·obtain ⟨z,h0,hz⟩:=ih (i + 1) (by omega)
   refine ⟨z,by rw [h0];rfl,Ev.step (fun k=>by rw [zV.l0,if_pos (by clear hw;omega),if_pos (by clear hw;omega),if_pos (by clear hw;omega),rdS hlt,e,Option.bind_some,hw]) (Ev.ite_neg (by rw [hb];simp) hz)⟩
  ·refine ⟨i,by simp,Ev.step (fun k=>by rw [zV.l0,if_pos (by clear hw;omega),if_pos (by clear hw;omega),if_pos (by clear hw;omega),rdS hlt,e,Option.bind_some]) (Ev.ite_pos hb (Ev.now _))⟩
theorem prod_ev (toks look:Int) (of:List Int) (L:List Prod') (n:Int) (r:List Sym) (hr:r.length≤1000000000):Ev (fun k=>YF.f k toks look of L n r) (!yf toks of.length ⟨n,r⟩):=by
 unfold YF.f yf
 by_cases h1:n≥0
 ·refine Ev.ite_pos h1 ?_
  by_cases h2:n < (of.length:Int)
  ·refine Ev.ite_pos h2 ?_
   obtain ⟨z,h0,hz⟩:=idxSym toks look of L r hr r.length 0 (by omega)
   rw [List.drop_zero] at h0
   unfold yO.f zV.f
   refine Ev.bind (Ev.bind hz (Ev.now _)) (Ev.some ?_)
   rw [h0]
   simp [h1,h2]
  ·refine Ev.ite_neg h2 (Ev.some ?_)
   simp [h2]
 ·refine Ev.ite_neg h1 (Ev.some ?_)
  have:¬0≤n:=h1
  simp [this]
theorem idxProd (toks look:Int) (of:List Int) (L l:List Prod') (hl:l.length≤1000000000) (hr:∀p ∈ l,p.f1.length≤1000000000):∀(d i:Nat),i + d=l.length→∃z:Int,decide (z≥0)=(l.drop i).any (yf toks of.length)∧Ev (fun k=>zW.l0 k l l.length i toks look of L) (z,toks,look):=by
 intro d
 induction d with
 | zero=>
  intro i hi
  exact ⟨-1,by rw [List.drop_of_length_le (by omega)];rfl,Ev.step (fun k=>by rw [zW.l0,if_neg (by omega)]) (Ev.now _)⟩
 | succ d ih=>
  intro i hi
  have hlt:i < l.length:=by omega
  have hw:wrap64 ((i:Int) + 1)=((i + 1:Nat):Int):=by rw [ya (by omega)];rfl
  have e:Ev (fun k=>Zn.f k l[i].f0 l[i].f1 toks look of L) (yf toks of.length l[i],toks,look):=by
   unfold Zn.f
   exact Ev.bind (prod_ev toks look of L l[i].f0 l[i].f1 (hr _ (List.getElem_mem _))) (Ev.some (by rw [Bool.not_not]))
  rw [drop_any hlt]
  cases hb:yf toks of.length l[i]
  ·rw [hb] at e
   obtain ⟨z,h0,hz⟩:=ih (i + 1) (by omega)
   refine ⟨z,by rw [h0];rfl,Ev.step (fun k=>by rw [zW.l0,if_pos (by clear hw;omega),if_pos (by clear hw;omega),if_pos (by clear hw;omega),rdP hlt,hw]) (Ev.bind e (Ev.ite_neg (show ¬((false,toks,look):Bool × Int × Int).1=true from Bool.false_ne_true) hz))⟩
  ·rw [hb] at e
   refine ⟨i,by simp,Ev.step (fun k=>by rw [zW.l0,if_pos (by clear hw;omega),if_pos (by clear hw;omega),if_pos (by clear hw;omega),rdP hlt]) (Ev.bind e (Ev.ite_pos rfl (Ev.now _)))⟩
theorem idxLong (l:List Prod') (hl:l.length≤1000000000):∀(d i:Nat),i + d=l.length→∃z:Int,decide (z≥0)=(l.drop i).any (fun p=>decide (500 < p.f1.length))∧Ev (fun k=>zX.l0 k l l.length i) z:=by
 intro d
 induction d with
 | zero=>
  intro i hi
  exact ⟨-1,by rw [List.drop_of_length_le (by omega)];rfl,Ev.step (fun k=>by rw [zX.l0,if_neg (by omega)]) (Ev.now _)⟩
 | succ d ih=>
  intro i hi
  have hlt:i < l.length:=by omega
  have hw:wrap64 ((i:Int) + 1)=((i + 1:Nat):Int):=by rw [ya (by omega)];rfl
  have e:Yn.f l[i].f0 l[i].f1=some (decide (500 < l[i].f1.length)):=by
   unfold Yn.f
   refine congrArg some (decide_eq_decide.2 ?_)
   omega
  rw [drop_any hlt]
  cases hb:decide (500 < l[i].f1.length)
  ·obtain ⟨z,h0,hz⟩:=ih (i + 1) (by omega)
   refine ⟨z,by rw [h0];rfl,Ev.step (fun k=>by rw [zX.l0,if_pos (by clear hw;omega),if_pos (by clear hw;omega),if_pos (by clear hw;omega),rdP hlt,e,Option.bind_some,hw]) (Ev.ite_neg (by rw [hb];simp) hz)⟩
  ·refine ⟨i,by simp,Ev.step (fun k=>by rw [zX.l0,if_pos (by clear hw;omega),if_pos (by clear hw;omega),if_pos (by clear hw;omega),rdP hlt,e,Option.bind_some]) (Ev.ite_pos hb (Ev.now _))⟩
theorem qF (a b:Int):yb.f a b=some (decide (1≤a∧a≤b)):=by
 unfold yb.f
 by_cases h:a≥1
 ·rw [if_pos h];simp [show 1≤a from h]
 ·rw [if_neg h];simp [show ¬1≤a from h]
theorem may_j0 (toks look:Int) (of:List Int) (L:List Prod') (hl:L.length≤1000000000) (hr:∀p ∈ L,p.f1.length≤1000000000) (b:Bool):Ev (fun k=>yZ.j0 k b toks look of L) (if b=true then 8 else if look < 1∨4 < look then 11 else if L.any (yf toks of.length)=true then 4 else 0):=by
 refine Ev.step (fun k=>by rw [yZ.j0]) ?_
 cases b
 ·refine Ev.ite_neg (by simp) (Ev.bind0 (qF _ _) ?_)
  rw [if_neg (by simp)]
  by_cases h:1≤look∧look≤4
  ·rw [if_neg (by omega)]
   refine Ev.ite_pos (decide_eq_true h) ?_
   obtain ⟨z,h0,hz⟩:=idxProd toks look of L L hl hr L.length 0 (by omega)
   rw [List.drop_zero] at h0
   unfold yB.f zW.f
   refine Ev.bind (Ev.bind hz (Ev.now _)) ?_
   rw [←h0]
   refine Ev.congr (f:=fun k=>some (if decide (z≥0)=true then (4:Int) else 0)) (fun k=> ?_) (Ev.now _)
   by_cases hz0:z≥0
   ·simp [hz0]
   ·simp [hz0]
  ·rw [if_pos (by omega)]
   exact Ev.ite_neg (by simpa using h) (Ev.now _)
 ·rw [if_pos rfl];exact Ev.ite_pos rfl (Ev.now _)
theorem may_ev (toks look:Int) (of:List Int) (L:List Prod') (hl:L.length≤1000000000) (hr:∀p ∈ L,p.f1.length≤1000000000):Ev (fun k=>yZ.f k toks look of L) (mayE toks look of.length L):=by
 unfold yZ.f mayE
 have ht:=may_j0 toks look of L hl hr true
 rw [if_pos rfl] at ht
 refine Ev.bind0 (qF _ _) ?_
 by_cases h1:1≤toks∧toks≤60
 ·refine Ev.ite_pos (decide_eq_true h1) (Ev.bind0 (qF _ _) ?_)
  by_cases h2:1≤(of.length:Int)∧(of.length:Int)≤500
  ·refine Ev.ite_pos (decide_eq_true h2) (Ev.bind0 (qF _ _) ?_)
   by_cases h3:1≤(L.length:Int)∧(L.length:Int)≤2000
   ·refine Ev.ite_pos (decide_eq_true h3) ?_
    obtain ⟨z,h0,hz⟩:=idxLong L hl L.length 0 (by omega)
    rw [List.drop_zero] at h0
    unfold zu.f zX.f
    refine Ev.bind (Ev.bind hz (Ev.now _)) ?_
    have hj:=may_j0 toks look of L hl hr (decide (z≥0))
    rw [h0] at hj⊢
    by_cases h4:(L.any fun p=>decide (500 < p.f1.length))=true
    ·rw [if_pos h4] at hj
     rw [if_pos (by simp only [h4,or_true])]
     exact hj
    ·rw [if_neg h4] at hj
     rw [if_neg (by rintro (h|h|h|h|h|h|h) <;> first|omega|exact h4 h)]
     exact hj
   ·rw [if_pos (by omega)]
    exact Ev.ite_neg (by simpa using h3) ht
  ·rw [if_pos (by omega)]
   exact Ev.ite_neg (by simpa using h2) ht
 ·rw [if_pos (by omega)]
  exact Ev.ite_neg (by simpa using h1) ht
theorem rmay_l0 (toks look:Int) (of:List Int) (L:List Prod') (hl:L.length≤1000000000) (r:Int) (hno:(L.any fun p=>decide (500 < p.f1.length))=false→Ev (fun k=>if look < 1 then zI.j2 k true toks look of L else zI.j2 k (decide (look > 4)) toks look of L) r):∀(d i:Nat),i + d=L.length→((L.take i).any fun p=>decide (500 < p.f1.length))=false→
  Ev (fun k=>zI.l0 k i toks look of L) (if (L.any fun p=>decide (500 < p.f1.length))=true then 8 else r):=by
 intro d
 induction d with
 | zero=>
  intro i hi hb
  rw [List.take_of_length_le (by omega)] at hb
  rw [hb,if_neg (by simp)]
  exact Ev.step (fun k=>by rw [zI.l0,if_neg (by omega)]) (hno hb)
 | succ d ih=>
  intro i hi hb
  have hlt:i < L.length:=by omega
  have hw:wrap64 ((i:Int) + 1)=((i + 1:Nat):Int):=by rw [ya (by omega)];rfl
  refine Ev.step (fun k=>by rw [zI.l0,if_pos (by clear hw;omega),if_pos (by clear hw;omega),rdP hlt,hw]) ?_
  by_cases h:(L[i].f1.length:Int) > 500
  ·rw [if_pos (List.any_eq_true.2 ⟨L[i],List.getElem_mem _,decide_eq_true (by omega)⟩)]
   exact Ev.ite_pos h (Ev.now _)
  ·refine Ev.ite_neg h (ih (i + 1) (by clear hw;omega) ?_)
   rw [List.take_succ_eq_append_getElem hlt,List.any_append,hb]
   simp;omega
theorem rmay_l2 (toks look:Int) (of:List Int) (L:List Prod') (p0:Int) (q:List Sym) (hq:q.length≤1000000000) (x4:Nat) (r:Int) (hno:q.any (yt toks of.length)=false→Ev (fun k=>zI.l1 k (wrap64 ((x4:Int) + 1)) toks look of L) r):∀(d i:Nat),i + d=q.length→(q.take i).any (yt toks of.length)=false→
  Ev (fun k=>zI.l2 k x4 i toks look of L p0 q) (if q.any (yt toks of.length)=true then 4 else r):=by
 intro d
 induction d with
 | zero=>
  intro i hi hb
  rw [List.take_of_length_le (by omega)] at hb
  rw [hb,if_neg (by simp)]
  exact Ev.step (fun k=>by rw [zI.l2,if_neg (by omega)]) (hno hb)
 | succ d ih=>
  intro i hi hb
  have hlt:i < q.length:=by omega
  have hw:wrap64 ((i:Int) + 1)=((i + 1:Nat):Int):=by rw [ya (by omega)];rfl
  refine Ev.step (fun k=>by rw [zI.l2,if_pos (by clear hw;omega),if_pos (by clear hw;omega),rdS hlt,hw]) ?_
  have bad:yt toks of.length q[i]=true→(if q.any (yt toks of.length)=true then 4 else r)=4:=fun h=>if_pos (List.any_eq_true.2 ⟨q[i],List.getElem_mem _,h⟩)
  have good:yt toks of.length q[i]=false→Ev (fun k=>zI.l2 k x4 ((i + 1:Nat):Int) toks look of L p0 q) (if q.any (yt toks of.length)=true then 4 else r):=fun h=>ih (i + 1) (by clear hw;omega) (by
   rw [List.take_succ_eq_append_getElem hlt,List.any_append,hb];simp [h])
  unfold yt at bad good
  by_cases h0:q[i].f0=true
  ·rw [if_pos h0] at bad good
   refine Ev.ite_pos h0 ?_
   by_cases h1:q[i].f1 < 1
   ·rw [show (if q.any (yt toks of.length)=true then (4:Int) else r)=4 from bad (by first|(simp;omega)|(simp;intro h;omega))]
    exact Ev.ite_pos h1 (Ev.now _)
   ·refine Ev.ite_neg h1 ?_
    by_cases h2:q[i].f1 > toks
    ·rw [show (if q.any (yt toks of.length)=true then (4:Int) else r)=4 from bad (by first|(simp;omega)|(simp;intro h;omega))]
     exact Ev.ite_pos h2 (Ev.now _)
    ·exact Ev.ite_neg h2 (Ev.congr (fun k=>by try simp only [h0];try simp) (good (by simp;omega)))
  ·rw [if_neg h0] at bad good
   refine Ev.ite_neg h0 ?_
   by_cases h1:q[i].f1 < 0
   ·rw [show (if q.any (yt toks of.length)=true then (4:Int) else r)=4 from bad (by first|(simp;omega)|(simp;intro h;omega))]
    exact Ev.congr (fun k=>by rw [if_pos h1]) (Ev.now _)
   ·by_cases h2:q[i].f1≥(of.length:Int)
    ·rw [show (if q.any (yt toks of.length)=true then (4:Int) else r)=4 from bad (by first|(simp;omega)|(simp;intro h;omega))]
     exact Ev.congr (fun k=>by rw [if_neg h1,if_pos h2]) (Ev.now _)
    ·exact Ev.congr (fun k=>by rw [if_neg h1,if_neg h2]) (good (by simp;omega))
theorem rmay_l1 (toks look:Int) (of:List Int) (L:List Prod') (hl:L.length≤1000000000) (hr:∀p ∈ L,p.f1.length≤1000000000):∀(d i:Nat),i + d=L.length→(L.take i).any (yf toks of.length)=false→
  Ev (fun k=>zI.l1 k i toks look of L) (if L.any (yf toks of.length)=true then 4 else 0):=by
 intro d
 induction d with
 | zero=>
  intro i hi hb
  rw [List.take_of_length_le (by omega)] at hb
  rw [hb,if_neg (by simp)]
  exact Ev.step (fun k=>by rw [zI.l1,if_neg (by omega)]) (Ev.now _)
 | succ d ih=>
  intro i hi hb
  have hlt:i < L.length:=by omega
  have hw:wrap64 ((i:Int) + 1)=((i + 1:Nat):Int):=by rw [ya (by omega)];rfl
  have bad:yf toks of.length L[i]=true→(if L.any (yf toks of.length)=true then (4:Int) else 0)=4:=fun h=>if_pos (List.any_eq_true.2 ⟨L[i],List.getElem_mem _,h⟩)
  have good:yf toks of.length L[i]=false→Ev (fun k=>zI.l1 k (wrap64 ((i:Int) + 1)) toks look of L) (if L.any (yf toks of.length)=true then 4 else 0):=fun h=>by
   rw [hw]
   exact ih (i + 1) (by clear hw;omega) (by rw [List.take_succ_eq_append_getElem hlt,List.any_append,hb];simp [h])
  refine Ev.step (fun k=>by rw [zI.l1,if_pos (by clear hw;omega),if_pos (by clear hw;omega),rdP hlt]) ?_
  have jt:Ev (fun k=>zI.j4 k i true toks look of L L[i].f0 L[i].f1) 4:=Ev.step (fun k=>by rw [zI.j4,if_pos rfl]) (Ev.now _)
  by_cases h1:L[i].f0 < 0
  ·rw [bad (by unfold yf;simp [show ¬0≤L[i].f0 by omega])]
   exact Ev.ite_pos h1 jt
  ·refine Ev.ite_neg h1 ?_
   by_cases h2:L[i].f0≥(of.length:Int)
   ·rw [bad (by unfold yf;simp [show ¬L[i].f0 < (of.length:Int) by omega]),decide_eq_true h2]
    exact jt
   ·rw [decide_eq_false h2]
    refine Ev.step (fun k=>by rw [zI.j4,if_neg (by simp)]) ?_
    have hpb:yf toks of.length L[i]=L[i].f1.any (yt toks of.length):=by
     unfold yf
     simp [show 0≤L[i].f0 by omega,show L[i].f0 < (of.length:Int) by omega]
    have h:=rmay_l2 toks look of L L[i].f0 L[i].f1 (hr _ (List.getElem_mem _)) i (if L.any (yf toks of.length)=true then 4 else 0) (fun hf=>good (by rw [hpb];exact hf)) L[i].f1.length 0 (by omega) rfl
    by_cases h3:L[i].f1.any (yt toks of.length)=true
    ·rw [if_pos h3] at h
     rw [bad (by rw [hpb];exact h3)]
     exact h
    ·rw [if_neg h3] at h
     exact h
theorem rmay_ev (toks look:Int) (of:List Int) (L:List Prod') (hl:L.length≤1000000000) (hr:∀p ∈ L,p.f1.length≤1000000000):Ev (fun k=>zI.f k toks look of L) (mayE toks look of.length L):=by
 have jt:Ev (fun k=>zI.j0 k true toks look of L) 8:=Ev.step (fun k=>by rw [zI.j0,if_pos rfl]) (Ev.now _)
 have j2:Ev (fun k=>if look < 1 then zI.j2 k true toks look of L else zI.j2 k (decide (look > 4)) toks look of L) (if look < 1∨4 < look then 11 else if L.any (yf toks of.length)=true then 4 else 0):=by
  have t2:Ev (fun k=>zI.j2 k true toks look of L) 11:=Ev.step (fun k=>by rw [zI.j2,if_pos rfl]) (Ev.now _)
  by_cases h1:look < 1
  ·rw [if_pos (.inl h1)]
   exact Ev.ite_pos h1 t2
  ·refine Ev.ite_neg h1 ?_
   by_cases h2:look > 4
   ·rw [if_pos (.inr h2),decide_eq_true h2]
    exact t2
   ·rw [if_neg (by omega),decide_eq_false h2]
    exact Ev.step (fun k=>by rw [zI.j2,if_neg (by simp)];rfl) (rmay_l1 toks look of L hl hr L.length 0 (by omega) rfl)
 have jf:Ev (fun k=>zI.j0 k false toks look of L) (if (L.any fun p=>decide (500 < p.f1.length))=true then 8 else if look < 1∨4 < look then 11 else if L.any (yf toks of.length)=true then 4 else 0):=
  Ev.step (fun k=>by rw [zI.j0,if_neg (by simp)];rfl) (rmay_l0 toks look of L hl _ (fun _=>j2) L.length 0 (by omega) rfl)
 unfold zI.f mayE
 by_cases h1:toks < 1
 ·rw [if_pos (by omega)];exact Ev.ite_pos h1 jt
 by_cases h2:toks > 60
 ·rw [if_pos (by omega)];exact Ev.ite_neg h1 (Ev.ite_pos h2 jt)
 by_cases h3:(of.length:Int) < 1
 ·rw [if_pos (by omega)];exact Ev.ite_neg h1 (Ev.ite_neg h2 (Ev.ite_pos h3 jt))
 by_cases h4:(of.length:Int) > 500
 ·rw [if_pos (by omega)];exact Ev.ite_neg h1 (Ev.ite_neg h2 (Ev.ite_neg h3 (Ev.ite_pos h4 jt)))
 by_cases h5:(L.length:Int) < 1
 ·rw [if_pos (by omega)];exact Ev.ite_neg h1 (Ev.ite_neg h2 (Ev.ite_neg h3 (Ev.ite_neg h4 (Ev.ite_pos h5 jt))))
 refine Ev.ite_neg h1 (Ev.ite_neg h2 (Ev.ite_neg h3 (Ev.ite_neg h4 (Ev.ite_neg h5 ?_))))
 by_cases h6:(L.length:Int) > 2000
 ·rw [if_pos (by omega),decide_eq_true h6];exact jt
 ·rw [decide_eq_false h6]
  by_cases h7:(L.any fun p=>decide (500 < p.f1.length))=true
  ·rw [if_pos h7] at jf
   rw [if_pos (by simp only [h7,or_true])]
   exact jf
  ·rw [if_neg h7] at jf
   rw [if_neg (by rintro (h|h|h|h|h|h|h) <;> first|omega|exact h7 h)]
   exact jf
instance riseDec (l:List Txt):Decidable (Zx l):=inferInstanceAs (Decidable (l.Pairwise (· < ·)))
abbrev yP:=zb.keys
abbrev txts:=zb.texts
theorem keys_txts (l:List Txt):yP (txts l)=l:=by
 unfold yP txts zb.keys zb.texts
 rw [List.map_map]
 conv=>rhs;rw [←List.map_id l]
 exact List.map_congr_left fun x _=>by simp
theorem qX (l:List ByteArray):txts (yP l)=l:=by
 unfold yP txts zb.keys zb.texts
 rw [List.map_map]
 conv=>rhs;rw [←List.map_id l]
 exact List.map_congr_left fun x _=>by
  apply ByteArray.ext
  simp
theorem keys_append (a b:List ByteArray):yP (a ++ b)=yP a ++ yP b:=List.map_append
theorem ZC (a:List ByteArray):(yP a).length=a.length:=List.length_map ..
theorem txts_length (a:List Txt):(txts a).length=a.length:=List.length_map ..
def setT (l:List ByteArray):List ByteArray:=txts (tset (yP l))
theorem Ya (l:List ByteArray):(setT l).length≤l.length:=by
 unfold setT
 rw [txts_length]
 have:=Ym (yP l)
 rw [ZC] at this
 exact this
theorem YH (l:List ByteArray):yP (setT l)=tset (yP l):=keys_txts _
theorem set_some (l:List ByteArray) (h:l.length≤1000000000000):zb.f l=some (setT l):=by
 unfold zb.f
 rw [if_pos (by omega)]
 rfl
theorem join_some (a b:List ByteArray) (ha:a.length≤100000000000) (hb:b.length≤100000000000):ZH.f a b=some (setT (a ++ b)):=by
 unfold ZH.f
 rw [if_pos (by omega),set_some _ (by rw [List.length_append];omega)]
theorem Zw {l:List ByteArray} {i:Nat} (h:i < l.length):rdOf ByteArray.empty l (i:Int)=l[i]:=by
 unfold rdOf
 simp [List.getD_eq_getElem?_getD,h]
theorem key_at {l:List ByteArray} {i:Nat} (h:i < l.length):l[i].toList=(yP l)[i]'(by rw [ZC];exact h):=by
 unfold yP zb.keys
 rw [List.getElem_map,Lib.toList_data]
theorem is_l0 (l:List ByteArray) (hl:l.length≤1000000000000):∀(d i:Nat),1≤i→i + d=max l.length 1→(∀j (_:1≤j) (_:j < i) (h:j < (yP l).length),(yP l)[j - 1]'(by omega) < (yP l)[j])→Ev (fun k=>yw.l0 k l i) (decide (Zx (yP l))):=by
 have hk:=ZC l
 intro d
 induction d with
 | zero=>
  intro i h1 hi hb
  have hr:Zx (yP l):=by
   refine List.pairwise_iff_getElem.2 fun p q hp hq hpq=> ?_
   have step:∀n,∀(hn:p + 1 + n < (yP l).length),(yP l)[p] < (yP l)[p + 1 + n]:=by
    intro n
    induction n with
    | zero=>
     intro hn
     have:=hb (p + 1) (by omega) (by omega) (by omega)
     simpa using this
    | succ n ih=>
     intro hn
     have h2:=hb (p + 1 + (n + 1)) (by omega) (by omega) hn
     exact qG (ih (by omega)) (by simpa using h2)
   have:=step (q - p - 1) (by omega)
   simpa [show p + 1 + (q - p - 1)=q by omega] using this
  rw [decide_eq_true hr]
  exact Ev.step (fun k=>by rw [yw.l0,if_neg (by omega)]) (Ev.now _)
 | succ d ih=>
  intro i h1 hi hb
  by_cases hlt:i < l.length
  ·have hw:wrap64 ((i:Int) - 1)=((i - 1:Nat):Int):=by rw [ya (by omega)];omega
   have hw2:wrap64 ((i:Int) + 1)=((i + 1:Nat):Int):=by rw [ya (by omega)];rfl
   have hl1:i - 1 < l.length:=by omega
   have e:(Op.bytesLess ((rdOf ByteArray.empty l ((i - 1:Nat):Int)).toList) ((rdOf ByteArray.empty l (i:Int)).toList)=true)↔(yP l)[i - 1]'(by omega) < (yP l)[i]'(by omega):=by
    rw [Zw hl1,Zw hlt,Go.Proofs.bytesLess_eq,decide_eq_true_iff,key_at hl1,key_at hlt]
   refine Ev.step (fun k=>by rw [yw.l0,if_pos (by omega),hw,if_pos (by omega),if_pos (by omega),if_pos (by omega)]) ?_
   by_cases hc:(yP l)[i - 1]'(by omega) < (yP l)[i]'(by omega)
   ·refine Ev.ite_pos (e.2 hc) ?_
    rw [hw2]
    refine ih (i + 1) (by omega) (by omega) (fun j a b c=> ?_)
    by_cases ej:j=i
    ·subst ej;exact hc
    ·exact hb j a (by omega) c
   ·refine Ev.ite_neg (fun h=>hc (e.1 h)) ?_
    rw [show decide (Zx (yP l))=false from decide_eq_false (fun hr=>hc (List.pairwise_iff_getElem.1 hr _ _ (by omega) (by omega) (by omega)))]
    exact Ev.now _
  ·rw [show decide (Zx (yP l))=true from decide_eq_true (by
    have:(yP l).length≤1:=by omega
    match yP l,this with
    | [],_=>exact List.Pairwise.nil
    | [x],_=>exact List.pairwise_singleton _ _
    | _ :: _ :: _,h=>simp at h)]
   exact Ev.step (fun k=>by rw [yw.l0,if_neg (by omega)]) (Ev.now _)
theorem is_ev (l:List ByteArray) (hl:l.length≤1000000000000):Ev (fun k=>yw.f k l) (decide (Zx (yP l))):=by
 unfold yw.f
 exact is_l0 l hl (max l.length 1 - 1) 1 (Nat.le_refl _) (by omega) (fun j a b _=>by omega)
theorem mid_eq (lo hi n:Nat) (h:hi≤n) (hn:n≤1000000000000) (hl:lo≤hi):wrap64 ((IntKind.u64.wrap (wrap64 ((lo:Int) + (hi:Int)))) / 2)=(((lo + hi) / 2:Nat):Int):=by
 have h1:wrap64 ((lo:Int) + (hi:Int))=((lo + hi:Nat):Int):=by rw [ya (by omega)];rfl
 have h2:IntKind.u64.wrap ((lo + hi:Nat):Int)=((lo + hi:Nat):Int):=by
  show ((lo + hi:Nat):Int) % 18446744073709551616=_
  clear h1
  omega
 rw [h1,h2]
 clear h1 h2
 rw [ya (by omega)]
 omega
theorem less_some (a b:ByteArray):ZT.f a b=some (decide (a.data.toList < b.data.toList)):=by
 unfold ZT.f yj.f
 simp only [bne_self_eq_false,Option.bind_some]
 rw [if_neg (by simp),Go.Proofs.bytesLess_eq,Lib.toList_data,Lib.toList_data]
theorem keysOf_at {l:List ByteArray} {i:Nat} (h:i < l.length):(yP l)[i]'(by rw [ZC];exact h)=l[i].data.toList:=by
 unfold yP zb.keys
 rw [List.getElem_map]
theorem bin_l0 (l:List ByteArray) (t:ByteArray) (hr:Zx (yP l)) (hl:l.length≤1000000000000):∀(d lo hi:Nat),hi - lo=d→lo≤lower (yP l) t.data.toList→lower (yP l) t.data.toList≤hi→hi≤l.length→
  Ev (fun k=>zM.l0 k l t l.length lo hi) ((lower (yP l) t.data.toList:Int),decide (t.data.toList ∈ yP l)):=by
 have hk:=ZC l
 intro d
 induction d using Nat.strongRecOn with
 | _ d ih=>
  intro lo hi hd h1 h2 h3
  by_cases hlt:lo < hi
  ·have hm:=mid_eq lo hi l.length h3 hl (Nat.le_of_lt hlt)
   obtain ⟨m,hme⟩:∃m,m=(lo + hi) / 2:=⟨_,rfl⟩
   have hm1:lo≤m∧m < hi:=by omega
   rw [←hme] at hm
   have hw:wrap64 ((m:Int) + 1)=((m + 1:Nat):Int):=by clear hm;rw [ya (by omega)];rfl
   have q1:(lo:Int) < (hi:Int):=by clear hm hw;omega
   have q2:(0:Int)≤(m:Int):=Int.natCast_nonneg m
   have q3:m < l.length:=by clear hm hw;omega
   have q4:(m:Int) < (l.length:Int):=Int.ofNat_lt.2 q3
   have e1:∀k,zM.l0 (k + 1) l t l.length lo hi=(if decide (l[m].data.toList < t.data.toList)=true then zM.l0 k l t l.length ((m + 1:Nat):Int) hi else zM.l0 k l t l.length lo m):=by
    intro k
    rw [zM.l0]
    simp only [hm,hw]
    rw [if_pos q1,if_pos q2,if_pos q4,Zw q3,less_some,Option.bind_some]
   refine Ev.step e1 ?_
   have hi':=YI hr t.data.toList m (by clear hm hw;omega)
   rw [keysOf_at (by clear hm hw;omega)] at hi'
   by_cases hc:l[m].data.toList < t.data.toList
   ·refine Ev.ite_pos (by simpa using hc) ?_
    exact ih (hi - (m + 1)) (by clear hm hw;omega) (m + 1) hi rfl (by have:=hi'.1 hc;clear hm hw;omega) h2 h3
   ·refine Ev.ite_neg (by simpa using hc) ?_
    exact ih (m - lo) (by clear hm hw;omega) lo m rfl h1 (by have:¬m < lower (yP l) t.data.toList:=fun h=>hc (hi'.2 h);clear hm hw;omega) (by clear hm hw;omega)
  ·have e:lo=lower (yP l) t.data.toList:=by omega
   subst e
   have hmem:t.data.toList ∈ yP l↔(yP l)[lower (yP l) t.data.toList]? =some t.data.toList:=by
    constructor
    ·intro hm
     obtain ⟨j,hj,hje⟩:=List.getElem_of_mem hm
     have a1:¬j < lower (yP l) t.data.toList:=fun h=>by
      have:=(YI hr _ j hj).2 h
      rw [hje] at this;exact YN _ this
     have a2:¬lower (yP l) t.data.toList < j:=fun h=>by
      have h4:=List.pairwise_iff_getElem.1 hr _ _ (by omega) hj h
      rw [hje] at h4
      have:=(YI hr _ _ (by omega)).1 h4
      omega
     have:j=lower (yP l) t.data.toList:=by omega
     rw [←this,List.getElem?_eq_getElem hj,hje]
    ·exact fun h=>List.mem_of_getElem? h
   by_cases hend:lower (yP l) t.data.toList < l.length
   ·refine Ev.step (fun k=>by rw [zM.l0,if_neg (by omega),if_pos (by omega),if_pos (by omega),if_pos (by omega),Zw hend]) ?_
    have hg:(yP l)[lower (yP l) t.data.toList]? =some (l[lower (yP l) t.data.toList].data.toList):=by
     rw [List.getElem?_eq_getElem (by omega),keysOf_at hend]
    by_cases hc:l[lower (yP l) t.data.toList].toList=t.toList
    ·refine Ev.ite_pos hc ?_
     rw [Lib.toList_data,Lib.toList_data] at hc
     rw [decide_eq_true (hmem.2 (by rw [hg,hc]))]
     exact Ev.now _
    ·refine Ev.ite_neg hc ?_
     rw [Lib.toList_data,Lib.toList_data] at hc
     rw [decide_eq_false (fun h=>hc (by have:=hmem.1 h;rw [hg] at this;exact Option.some.inj this))]
     refine Ev.bind0 (a:=false) (by unfold yn.f;simp) (Ev.ite_neg (by simp) (Ev.now _))
   ·rw [decide_eq_false (fun h=>by have:=hmem.1 h;rw [List.getElem?_eq_none (by omega)] at this;cases this)]
    exact Ev.step (fun k=>by rw [zM.l0,if_neg (by omega),if_neg (by omega)]) (Ev.now _)
theorem bin_ev (l:List ByteArray) (t:ByteArray) (hr:Zx (yP l)) (hl:l.length≤1000000000000):Ev (fun k=>zM.f k l t) ((lower (yP l) t.data.toList:Int),decide (t.data.toList ∈ yP l)):=by
 unfold zM.f
 have h:=qp (yP l) t.data.toList
 rw [ZC] at h
 exact bin_l0 l t hr hl _ 0 l.length rfl (Nat.zero_le _) h (Nat.le_refl _)
theorem Yi (a b:ByteArray):(a ++ b).data.toList=a.data.toList ++ b.data.toList:=by simp
def tc (K:Nat) (x y:ByteArray):ByteArray:=⟨((x.data.toList ++ y.data.toList).take K).toArray⟩
theorem Yo {a b:ByteArray} (h:a.data.toList=b.data.toList):a=b:=by
 apply ByteArray.ext
 apply Array.toList_inj.1 h
theorem tcat_some (x y:ByteArray) (k:Int) (hx:x.size≤1000000000000) (hy:y.size≤1000000000000) (hk: -9223372036854775808≤k∧k≤9223372036854775807):Yl.f x y k=some (tc (mx k 0).toNat x y):=by
 have hsx:=YV x
 have hsy:=YV y
 unfold Yl.f
 by_cases h:(x.size:Int)≥k
 ·have hm:0≤mx k 0∧mx k 0≤x.size:=by unfold mx;split <;> omega
  rw [if_pos h,if_pos hm.1,if_pos hm.2]
  congr 1
  apply Yo
  rw [Yj]
  unfold tc
  simp only [List.drop_zero]
  rw [List.take_append_of_le_length (by omega)]
 ·have hm:mx k 0=k:=by unfold mx;split <;> omega
  by_cases hb:k≤9223372036854775807 - 0∧0≤k - x.size∧k - (x.size:Int)≤9223372036854775807
  ·have hw:wrap64 (k - (x.size:Int))=k - (x.size:Int):=ya (by omega)
   have hn:0≤mn (k - (x.size:Int)) (y.size:Int)∧mn (k - (x.size:Int)) (y.size:Int)≤y.size:=by unfold mn;split <;> omega
   rw [if_neg h,hw,if_pos hn.1,if_pos hn.2,if_pos (by rw [ByteArray.size_extract];clear hw;omega)]
   congr 1
   apply Yo
   rw [Yi,Yj]
   unfold tc
   simp only [List.drop_zero]
   rw [hm,List.take_append]
   rw [List.take_of_length_le (show x.data.toList.length≤k.toNat by clear hw;omega)]
   congr 1
   have e:(mn (k - (x.size:Int)) (y.size:Int)).toNat=min (k.toNat - x.data.toList.length) y.data.toList.length:=by
    rw [hsx,hsy]
    unfold mn
    clear hw
    split <;> omega
   rw [e,List.take_eq_take_iff]
   omega
  ·exact absurd ⟨by omega,by omega,by omega⟩ hb
def YT (K:Nat) (b:List ByteArray) (x:ByteArray):List ByteArray:=if K≤x.size∧0 < b.length then [x.extract 0 K] else b.map (tc K x)
theorem rowOf_length (K:Nat) (b:List ByteArray) (x:ByteArray):(YT K b x).length≤b.length:=by
 unfold YT
 split
 ·rename_i h;exact h.2
 ·simp
section
variable (b : List ByteArray) (k : Int) (hk : -9223372036854775808 ≤ k ∧ k ≤ 9223372036854775807) (hb : b.length ≤ 1000000) (hbs : ∀ y ∈ b, y.size ≤ 1000000000000)
include hk hb hbs
theorem cat_l1 (x:ByteArray) (hx:x.size≤1000000000000) (A:List ByteArray) (i:Int) (r:List ByteArray):∀(d j:Nat) (acc:List ByteArray),j + d=b.length→acc.length + d≤1000000000000→
  Ev (fun n=>zy.l0 n b k (acc ++ (b.drop j).map (tc (mx k 0).toNat x)) A A.length (wrap64 (i + 1))) r→Ev (fun n=>zy.l1 n b k acc x A A.length i b b.length j) r:=by
 intro d
 induction d with
 | zero=>
  intro j acc hj _ h
  rw [List.drop_of_length_le (by omega),List.map_nil,List.append_nil] at h
  exact Ev.step (fun n=>by rw [zy.l1,if_neg (by omega)]) h
 | succ d ih=>
  intro j acc hj ha h
  have hlt:j < b.length:=by omega
  have hw:wrap64 ((j:Int) + 1)=((j + 1:Nat):Int):=by rw [ya (by omega)];rfl
  refine Ev.step (fun n=>by rw [zy.l1,if_pos (by clear hw;omega),if_pos (by clear hw;omega),if_pos (by clear hw;omega),Zw hlt,hw]) ?_
  refine Ev.bind0 (tcat_some x b[j] k hx (hbs _ (List.getElem_mem _)) hk) (Ev.ite_pos (by clear hw;omega) ?_)
  refine ih (j + 1) _ (by omega) (by simp;omega) ?_
  rw [List.drop_eq_getElem_cons hlt,List.map_cons] at h
  simpa using h
theorem cat_l0 (a:List ByteArray) (hal:a.length≤100000) (has:∀x ∈ a,x.size≤1000000000000):∀(d i:Nat) (acc:List ByteArray),i + d=a.length→acc.length + d * b.length≤100000000000→
  Ev (fun n=>zy.l0 n b k acc a a.length i) (setT (acc ++ (a.drop i).flatMap (YT (mx k 0).toNat b))):=by
 intro d
 induction d with
 | zero=>
  intro i acc hi ha
  rw [List.drop_of_length_le (by omega),List.flatMap_nil,List.append_nil]
  exact Ev.step (fun n=>by rw [zy.l0,if_neg (by omega)]) (Ev.bind0 (set_some acc (by omega)) (Ev.now _))
 | succ d ih=>
  intro i acc hi ha
  have hlt:i < a.length:=by omega
  have hw:wrap64 ((i:Int) + 1)=((i + 1:Nat):Int):=by rw [ya (by omega)];rfl
  have hsz:=has _ (List.getElem_mem hlt)
  have hmx:0≤mx k 0:=by unfold mx;split <;> omega
  have hlen:=rowOf_length (mx k 0).toNat b a[i]
  have hmul:(d + 1) * b.length=d * b.length + b.length:=Nat.succ_mul _ _
  rw [List.drop_eq_getElem_cons hlt,List.flatMap_cons,←List.append_assoc]
  have ih':=ih (i + 1) (acc ++ YT (mx k 0).toNat b a[i]) (by omega) (by rw [List.length_append];omega)
  refine Ev.step (fun n=>by rw [zy.l0,if_pos (by clear hw;omega),if_pos (by clear hw;omega),if_pos (by clear hw;omega),Zw hlt]) ?_
  have hj1t:∀(hc1:mx k 0≤(a[i].size:Int)) (hc2:0 < b.length),Ev (fun n=>zy.j1 n b k acc a[i] a a.length i true) (setT (acc ++ YT (mx k 0).toNat b a[i] ++ (a.drop (i + 1)).flatMap (YT (mx k 0).toNat b))):=by
   intro hc1 hc2
   refine Ev.step (fun n=>by rw [zy.j1,if_pos rfl,if_pos hmx,if_pos hc1,if_pos (by clear hw;omega),hw]) ?_
   have e:YT (mx k 0).toNat b a[i]= [a[i].extract 0 (mx k 0).toNat]:=by unfold YT;rw [if_pos ⟨by clear hw;omega,hc2⟩]
   rw [e] at ih'⊢
   exact ih'
  have hj1f:¬((mx k 0).toNat≤a[i].size∧0 < b.length)→Ev (fun n=>zy.j1 n b k acc a[i] a a.length i false) (setT (acc ++ YT (mx k 0).toNat b a[i] ++ (a.drop (i + 1)).flatMap (YT (mx k 0).toNat b))):=by
   intro hc
   refine Ev.step (fun n=>by rw [zy.j1,if_neg (by simp)]) ?_
   have e:YT (mx k 0).toNat b a[i]=b.map (tc (mx k 0).toNat a[i]):=by unfold YT;rw [if_neg hc]
   refine cat_l1 b k hk hb hbs a[i] hsz a i _ b.length 0 acc (by omega) (by clear hw;omega) ?_
   rw [List.drop_zero,hw,←e]
   exact ih'
  by_cases hc1:(a[i].size:Int)≥mx k 0
  ·refine Ev.ite_pos hc1 ?_
   by_cases hc2:0 < b.length
   ·rw [show decide ((b.length:Int) > 0)=true from decide_eq_true (by clear hw;omega)]
    exact hj1t hc1 hc2
   ·rw [show decide ((b.length:Int) > 0)=false from decide_eq_false (by clear hw;omega)]
    exact hj1f (fun h=>hc2 h.2)
  ·refine Ev.ite_neg hc1 (hj1f (fun h=>hc1 (by have:=h.1;clear hw;omega)))
theorem cat_ev (a:List ByteArray) (hal:a.length≤100000) (has:∀x ∈ a,x.size≤1000000000000):Ev (fun n=>zy.f n a b k) (setT (a.flatMap (YT (mx k 0).toNat b))):=by
 unfold zy.f
 have h:=cat_l0 b k hk hb hbs a hal has a.length 0 [] (by omega) (by
  have:a.length * b.length≤100000 * 1000000:=Nat.mul_le_mul hal hb
  simp;omega)
 simpa using h
end
theorem mem_row (K:Nat) (a b:List ByteArray) (t:Txt):t ∈ yP (a.flatMap (YT K b))↔∃x ∈ a,∃y ∈ b,t=(x.data.toList ++ y.data.toList).take K:=by
 unfold yP zb.keys
 simp only [List.mem_map,List.mem_flatMap]
 constructor
 ·rintro ⟨z,⟨x,hx,hz⟩,rfl⟩
  refine ⟨x,hx,?_⟩
  unfold YT at hz
  split at hz
  ·rename_i hc
   obtain ⟨y,hy⟩:=List.exists_mem_of_length_pos hc.2
   refine ⟨y,hy,?_⟩
   rw [List.mem_singleton.1 hz,Yj]
   simp only [List.drop_zero]
   rw [List.take_append_of_le_length (by have:=YV x;omega)]
  ·obtain ⟨y,hy,rfl⟩:=List.mem_map.1 hz
   exact ⟨y,hy,rfl⟩
 ·rintro ⟨x,hx,y,hy,rfl⟩
  unfold YT
  by_cases hc:K≤x.size∧0 < b.length
  ·refine ⟨x.extract 0 K,⟨x,hx,by rw [if_pos hc];simp⟩,?_⟩
   rw [Yj]
   simp only [List.drop_zero]
   rw [List.take_append_of_le_length (by have:=YV x;omega)]
  ·exact ⟨tc K x y,⟨x,hx,by rw [if_neg hc];exact List.mem_map.2 ⟨y,hy,rfl⟩⟩,rfl⟩
theorem Yb {l:List ByteArray} {x:ByteArray} :x.data.toList ∈ yP l↔x ∈ l:=by
 unfold yP zb.keys
 rw [List.mem_map]
 constructor
 ·rintro ⟨y,hy,e⟩
  rw [←Yo e];exact hy
 ·exact fun h=>⟨x,h,rfl⟩
theorem qC {l:List ByteArray} {x:ByteArray} :x ∈ setT l↔x ∈ l:=by
 rw [←Yb,YH,(ym _).2,Yb]
theorem setT_congr {a b:List ByteArray} (h:∀x,x ∈ a↔x ∈ b):setT a=setT b:=by
 unfold setT
 rw [tset_congr (a:=yP a) (b:=yP b) fun t=> ?_]
 unfold yP zb.keys
 simp only [List.mem_map,h]
theorem rmid_eq (lo hi n:Nat) (h:hi≤n) (hn:n≤1000000000000):wrap64 (Int.tdiv (wrap64 ((lo:Int) + (hi:Int))) 2)=(((lo + hi) / 2:Nat):Int)∨¬lo≤hi:=by
 by_cases hl:lo≤hi
 ·left
  have h1:wrap64 ((lo:Int) + (hi:Int))=((lo + hi:Nat):Int):=by rw [ya (by omega)];rfl
  have h2:Int.tdiv ((lo + hi:Nat):Int) 2=(((lo + hi) / 2:Nat):Int):=by
   rw [Int.tdiv_eq_ediv_of_nonneg (by omega)];rfl
  rw [h1,h2]
  clear h1 h2
  rw [ya (by omega)]
 ·exact .inr hl
def putB (l:List ByteArray) (t:ByteArray):List ByteArray:=txts (putT (yP l) t.data.toList)
theorem qH {l:List ByteArray} {i:Nat} (h:i < l.length):(yP l)[i]'(by rw [ZC];exact h)=l[i].data.toList:=by
 unfold yP zb.keys
 rw [List.getElem_map]
theorem qY (a b:ByteArray):Op.bytesLess a.toList b.toList=true↔a.data.toList < b.data.toList:=by
 rw [Go.Proofs.bytesLess_eq,Lib.toList_data,Lib.toList_data,decide_eq_true_iff]
theorem put_l0 (l:List ByteArray) (t:ByteArray) (hr:Zx (yP l)) (hl:l.length≤1000000000000):∀(d lo hi:Nat),hi - lo=d→lo≤lower (yP l) t.data.toList→lower (yP l) t.data.toList≤hi→hi≤l.length→
  Ev (fun k=>zh.l0 k l t lo hi) (putB l t):=by
 have hk:=ZC l
 intro d
 induction d using Nat.strongRecOn with
 | _ d ih=>
  intro lo hi hd h1 h2 h3
  by_cases hlt:lo < hi
  ·have hm:wrap64 (Int.tdiv (wrap64 ((lo:Int) + (hi:Int))) 2)=(((lo + hi) / 2:Nat):Int):=(rmid_eq lo hi l.length h3 hl).resolve_right (fun h=>h (Nat.le_of_lt hlt))
   obtain ⟨m,hme⟩:∃m,m=(lo + hi) / 2:=⟨_,rfl⟩
   have hm1:lo≤m∧m < hi:=by clear hm;omega
   rw [←hme] at hm
   have hw:wrap64 ((m:Int) + 1)=((m + 1:Nat):Int):=by clear hm;rw [ya (by omega)];rfl
   have q1:(lo:Int) < (hi:Int):=by clear hm hw;omega
   have q2:(0:Int)≤(m:Int):=Int.natCast_nonneg m
   have q3:m < l.length:=by clear hm hw;omega
   have q4:(m:Int) < (l.length:Int):=Int.ofNat_lt.2 q3
   refine Ev.step (fun k=>by rw [zh.l0,if_pos q1,hm,hw,if_pos q2,if_pos q4,Zw q3]) ?_
   have hi':=YI hr t.data.toList m (by clear hm hw;omega)
   rw [qH q3] at hi'
   by_cases hc:l[m].data.toList < t.data.toList
   ·refine Ev.ite_pos ((qY _ _).2 hc) ?_
    exact ih (hi - (m + 1)) (by clear hm hw;omega) (m + 1) hi rfl (by have:=hi'.1 hc;clear hm hw;omega) h2 h3
   ·refine Ev.ite_neg (fun h=>hc ((qY _ _).1 h)) ?_
    exact ih (m - lo) (by clear hm hw;omega) lo m rfl h1 (by have:¬m < lower (yP l) t.data.toList:=fun h=>hc (hi'.2 h);clear hm hw;omega) (by clear hm hw;omega)
  ·have e:lo=lower (yP l) t.data.toList:=by omega
   have hlo:lo≤l.length:=by omega
   have hput:¬(yP l)[lo]? =some t.data.toList→putB l t=l.take lo ++ [t] ++ l.drop lo:=fun h=>by
    unfold putB putT
    rw [←e,if_neg h]
    unfold txts yP zb.keys zb.texts
    simp [List.map_take,List.map_drop,Function.comp_def]
   have hsame:(yP l)[lo]? =some t.data.toList→putB l t=l:=fun h=>by
    unfold putB putT
    rw [←e,if_pos h,qX]
   have z0:((lo:Nat):Int).toNat=lo:=Int.toNat_natCast lo
   have s1:(([]:List ByteArray)).length + (l.take lo).length < 8796093022208:=by simp;omega
   have s2:(([]:List ByteArray) ++ l.take lo).length + [t].length < 8796093022208:=by simp;omega
   have s3:(([]:List ByteArray) ++ l.take lo ++ [t]).length + (l.drop lo).length < 8796093022208:=by simp;omega
   clear h1 h2
   by_cases hend:lo < l.length
   ·have hg:(yP l)[lo]? =some (l[lo].data.toList):=by
     rw [List.getElem?_eq_getElem (by omega),qH hend]
    by_cases hc:l[lo].toList=t.toList
    ·have hc':=hc
     rw [Lib.toList_data,Lib.toList_data] at hc'
     rw [hsame (by rw [hg,hc'])]
     exact Ev.step (fun k=>by rw [zh.l0,if_neg (by omega),if_pos (by omega),if_pos (by omega),Zw hend,if_pos hc]) (Ev.now _)
    ·have hc':=hc
     rw [Lib.toList_data,Lib.toList_data] at hc'
     rw [hput (fun h=>hc' (by rw [hg] at h;exact Option.some.inj h))]
     refine Ev.step (fun k=>by rw [zh.l0,if_neg (by omega),if_pos (by omega),if_pos (by omega),Zw hend,if_neg hc]) (Ev.const ?_)
     simp only [Option.bind_some,z0]
     rw [if_pos (by omega),if_pos s1,if_pos s2,if_pos s3,List.nil_append]
   ·rw [hput (fun h=>by rw [List.getElem?_eq_none (by omega)] at h;cases h)]
    refine Ev.step (fun k=>by rw [zh.l0,if_neg (by omega),if_neg (by omega)]) (Ev.const ?_)
    simp only [Option.bind_some,z0]
    rw [if_pos (by omega),if_pos (by omega),if_pos s1,if_pos s2,if_pos s3,List.nil_append]
theorem put_ev (l:List ByteArray) (t:ByteArray) (hr:Zx (yP l)) (hl:l.length≤1000000000000):Ev (fun k=>zh.f k l t) (putB l t):=by
 unfold zh.f
 have h:=qp (yP l) t.data.toList
 rw [ZC] at h
 exact put_l0 l t hr hl _ 0 l.length rfl (Nat.zero_le _) h (Nat.le_refl _)
theorem putB_setT (L:List ByteArray) (t:ByteArray):putB (setT L) t=setT (L ++ [t]):=by
 unfold putB
 rw [YH]
 unfold setT
 rw [keys_append]
 exact congrArg txts (putAll_tset (yP L) [t.data.toList])
theorem rcat_some (x y:ByteArray) (k:Int) (hx:x.size≤1000000000000) (hy:y.size≤1000000000000):ZZ.f x y k=some (tc (mx k 0).toNat x y):=by
 unfold ZZ.f
 have hs:(x ++ y).size=x.size + y.size:=ByteArray.size_append
 have hm:0≤mx (mn ((x ++ y).size:Int) k) 0∧mx (mn ((x ++ y).size:Int) k) 0≤((x ++ y).size:Int):=by
  unfold mx mn;split <;> split <;> omega
 rw [if_pos (by omega),if_pos hm.1,if_pos hm.2]
 refine congrArg some (Yo ?_)
 have he:(((x ++ y).extract 0 (mx (mn ((x ++ y).size:Int) k) 0).toNat).data.toList)=(x.data.toList ++ y.data.toList).take (mx (mn ((x ++ y).size:Int) k) 0).toNat:=by
  rw [ByteArray.data_extract,Array.toList_extract,Yi]
  simp [List.extract]
 rw [he]
 unfold tc
 have hl:(x.data.toList ++ y.data.toList).length=(x ++ y).size:=by
  rw [←Yi];simp
 by_cases h:k < ((x ++ y).size:Int)
 ·have:mn ((x ++ y).size:Int) k=k:=by unfold mn;rw [if_pos h]
  rw [this]
 ·have e1:mn ((x ++ y).size:Int) k=((x ++ y).size:Int):=by unfold mn;rw [if_neg h]
  have e2:mx k 0=k:=by unfold mx;rw [if_neg (by omega)]
  have e3:mx ((x ++ y).size:Int) 0=((x ++ y).size:Int):=by unfold mx;rw [if_neg (by omega)]
  rw [e1,e2,e3,List.take_of_length_le (by omega),List.take_of_length_le (by omega)]
theorem rcat_l1 (a b:List ByteArray) (k:Int) (hal:a.length≤100000) (hbl:b.length≤100000) (has:∀x ∈ a,x.size≤1000000000000) (hbs:∀y ∈ b,y.size≤1000000000000) (i:Nat) (hi:i < a.length) (r:List ByteArray) :
  ∀(d j:Nat) (L:List ByteArray),j + d=b.length→L.length + d≤100000000000→Ev (fun n=>zQ.l0 n a b k (setT (L ++ (b.drop j).map (tc (mx k 0).toNat a[i]))) ((i + 1:Nat):Int)) r→
   Ev (fun n=>zQ.l1 n a b k (setT L) i j) r:=by
 intro d
 induction d with
 | zero=>
  intro j L hj hL h
  have hw:wrap64 ((i:Int) + 1)=((i + 1:Nat):Int):=by rw [ya (by omega)];rfl
  rw [List.drop_of_length_le (by clear hw;omega),List.map_nil,List.append_nil] at h
  exact Ev.step (fun n=>by rw [zQ.l1,if_neg (by clear hw;omega),hw]) h
 | succ d ih=>
  intro j L hj hL h
  have hlt:j < b.length:=by omega
  have hw:wrap64 ((j:Int) + 1)=((j + 1:Nat):Int):=by rw [ya (by omega)];rfl
  have hsl:=Ya L
  refine Ev.step (fun n=>by rw [zQ.l1,if_pos (by clear hw;omega),if_pos (by clear hw;omega),if_pos (by clear hw;omega),if_pos (by clear hw;omega),Zw hi,Zw hlt,rcat_some a[i] b[j] k (has _ (List.getElem_mem _)) (hbs _ (List.getElem_mem _)),Option.bind_some,hw]) ?_
  have hp:=put_ev (setT L) (tc (mx k 0).toNat a[i] b[j]) (by rw [YH];exact (ym _).1) (by clear hw;omega)
  rw [putB_setT] at hp
  refine Ev.bind hp (ih (j + 1) _ (by clear hw;omega) (by rw [List.length_append,List.length_singleton];clear hw;omega) ?_)
  rw [List.append_assoc,List.singleton_append]
  rw [List.drop_eq_getElem_cons hlt,List.map_cons] at h
  exact h
theorem rcat_l0 (a b:List ByteArray) (k:Int) (hal:a.length≤100000) (hbl:b.length≤100000) (has:∀x ∈ a,x.size≤1000000000000) (hbs:∀y ∈ b,y.size≤1000000000000) :
  ∀(d i:Nat) (L:List ByteArray),i + d=a.length→L.length + d * b.length≤10000000000→Ev (fun n=>zQ.l0 n a b k (setT L) i) (setT (L ++ (a.drop i).flatMap fun x=>b.map (tc (mx k 0).toNat x))):=by
 intro d
 induction d with
 | zero=>
  intro i L hi hL
  rw [List.drop_of_length_le (by omega),List.flatMap_nil,List.append_nil]
  exact Ev.step (fun n=>by rw [zQ.l0,if_neg (by omega)]) (Ev.now _)
 | succ d ih=>
  intro i L hi hL
  have hlt:i < a.length:=by omega
  rw [Nat.succ_mul] at hL
  refine Ev.step (fun n=>by rw [zQ.l0,if_pos (by omega)]) ?_
  refine rcat_l1 a b k hal hbl has hbs i hlt _ b.length 0 L (by omega) (by omega) ?_
  have h:=ih (i + 1) (L ++ b.map (tc (mx k 0).toNat a[i])) (by omega) (by rw [List.length_append,List.length_map];omega)
  rw [List.append_assoc] at h
  rw [List.drop_eq_getElem_cons hlt,List.flatMap_cons,List.drop_zero]
  exact h
theorem rcat_ev (a b:List ByteArray) (k:Int) (hal:a.length≤10000) (hbl:b.length≤10000) (has:∀x ∈ a,x.size≤1000000000000) (hbs:∀y ∈ b,y.size≤1000000000000) :
  Ev (fun n=>zQ.f n a b k) (setT (a.flatMap fun x=>b.map (tc (mx k 0).toNat x))):=by
 unfold zQ.f
 have h:=rcat_l0 a b k (by omega) (by omega) has hbs a.length 0 [] (by omega) (by
  have:=Nat.mul_le_mul hal hbl
  rw [List.length_nil];omega)
 rw [show setT []= [] from by unfold setT;rw [show yP []= [] from rfl,YY qB];rfl,List.drop_zero,List.nil_append] at h
 exact h
instance memDec (x:ByteArray) (l:List ByteArray):Decidable (x ∈ l):=decidable_of_iff (∃y ∈ l,y=x) ⟨fun ⟨_,h,e⟩=>e▸h,fun h=>⟨x,h,rfl⟩⟩
theorem putB_setT' (L:List ByteArray) (t:ByteArray):putB (setT L) t=setT (L ++ [t]):=by
 unfold putB
 rw [YH]
 unfold setT
 rw [keys_append]
 exact congrArg txts (putAll_tset (yP L) [t.data.toList])
theorem rd_int {l:List Int} {i:Nat} (h:i < l.length):rd l (i:Int)=l[i]:=by
 unfold rd
 simp [List.getD_eq_getElem?_getD,h]
theorem key_inj {a b:ByteArray} :a.toList=b.toList↔a=b:=by
 rw [Lib.toList_data,Lib.toList_data]
 exact ⟨Yo,fun h=>h▸rfl⟩
theorem same_dec (a b:List ByteArray) (hl:a.length≤1000000000000):Ev (fun k=>ze.f k a b) (decide (a=b)):=by
 unfold ze.f
 by_cases hab:a.length=b.length
 ·refine Ev.ite_pos (by omega) ?_
  have:∀(d i:Nat),i + d=a.length→Ev (fun k=>ze.l0 k a b i) (decide (a.drop i=b.drop i)):=by
   intro d
   induction d with
   | zero=>
    intro i hi
    rw [List.drop_of_length_le (by omega),List.drop_of_length_le (by omega)]
    exact Ev.step (fun k=>by rw [ze.l0,if_neg (by omega)];rfl) (Ev.now _)
   | succ d ih=>
    intro i hi
    have h1:i < a.length:=by omega
    have h2:i < b.length:=by omega
    have hw:wrap64 ((i:Int) + 1)=((i + 1:Nat):Int):=by rw [ya (by omega)];rfl
    refine Ev.step (fun k=>by rw [ze.l0,if_pos (by clear hw;omega),if_pos (by clear hw;omega),if_pos (by clear hw;omega),Zw h1,Zw h2,hw]) ?_
    rw [List.drop_eq_getElem_cons h1,List.drop_eq_getElem_cons h2]
    by_cases e:a[i]=b[i]
    ·refine Ev.ite_pos (key_inj.2 e) ?_
     rw [show decide (a[i] :: a.drop (i + 1)=b[i] :: b.drop (i + 1))=decide (a.drop (i + 1)=b.drop (i + 1)) from decide_eq_decide.2 (by rw [List.cons.injEq];exact ⟨fun h=>h.2,fun h=>⟨e,h⟩⟩)]
     exact ih (i + 1) (by clear hw;omega)
    ·refine Ev.ite_neg (fun h=>e (key_inj.1 h)) ?_
     rw [decide_eq_false (by rw [List.cons.injEq];exact fun h=>e h.1)]
     exact Ev.now _
  have h:=this a.length 0 (by omega)
  rw [List.drop_zero,List.drop_zero] at h
  exact h
 ·rw [decide_eq_false (fun h=>hab (by rw [h]))]
  exact Ev.ite_neg (by omega) (Ev.now _)
theorem setT_nil:setT []= []:=by unfold setT;rw [show yP []= [] from rfl,YY qB];rfl
theorem rmake_ev (l:List ByteArray) (hl:l.length≤100000000):Ev (fun k=>yI.f k l) (setT l):=by
 have:∀(d i:Nat),i + d=l.length→Ev (fun k=>yI.l0 k l (setT (l.take i)) i) (setT l):=by
  intro d
  induction d with
  | zero=>
   intro i hi
   rw [List.take_of_length_le (by omega)]
   exact Ev.step (fun k=>by rw [yI.l0,if_neg (by omega)]) (Ev.now _)
  | succ d ih=>
   intro i hi
   have h1:i < l.length:=by omega
   have hw:wrap64 ((i:Int) + 1)=((i + 1:Nat):Int):=by rw [ya (by omega)];rfl
   refine Ev.step (fun k=>by rw [yI.l0,if_pos (by clear hw;omega),if_pos (by clear hw;omega),Zw h1,hw]) ?_
   have hp:=put_ev (setT (l.take i)) l[i] (by rw [YH];exact (ym _).1) (by have:=Ya (l.take i);rw [List.length_take] at this;clear hw;omega)
   rw [putB_setT',←List.take_succ_eq_append_getElem h1] at hp
   exact Ev.bind hp (ih (i + 1) (by clear hw;omega))
 have h:=this l.length 0 (by omega)
 rw [List.take_zero,setT_nil] at h
 exact h
theorem rjoin_ev (a b:List ByteArray) (ha:a.length≤10000000) (hb:b.length≤10000000):Ev (fun k=>zo.f k a b) (setT (a ++ b)):=by
 have:∀(d i:Nat),i + d=b.length→Ev (fun k=>zo.l0 k b (setT (a ++ b.take i)) i) (setT (a ++ b)):=by
  intro d
  induction d with
  | zero=>
   intro i hi
   rw [List.take_of_length_le (by omega)]
   exact Ev.step (fun k=>by rw [zo.l0,if_neg (by omega)]) (Ev.now _)
  | succ d ih=>
   intro i hi
   have h1:i < b.length:=by omega
   have hw:wrap64 ((i:Int) + 1)=((i + 1:Nat):Int):=by rw [ya (by omega)];rfl
   refine Ev.step (fun k=>by rw [zo.l0,if_pos (by clear hw;omega),if_pos (by clear hw;omega),Zw h1,hw]) ?_
   have hp:=put_ev (setT (a ++ b.take i)) b[i] (by rw [YH];exact (ym _).1) (by have:=Ya (a ++ b.take i);rw [List.length_append,List.length_take] at this;clear hw;omega)
   rw [putB_setT',List.append_assoc,←List.take_succ_eq_append_getElem h1] at hp
   exact Ev.bind hp (ih (i + 1) (by clear hw;omega))
 unfold zo.f
 have h:=this b.length 0 (by omega)
 rw [List.take_zero,List.append_nil] at h
 exact Ev.bind (rmake_ev a (by omega)) h
theorem index_dec (t:ByteArray) (l:List ByteArray) (hl:l.length≤1000000000000):∀(d i:Nat),i + d=l.length→∃z:Int,(0≤z↔t ∈ l.drop i)∧Ev (fun k=>zq.l0 k l t l.length i) z:=by
 intro d
 induction d with
 | zero=>
  intro i hi
  exact ⟨-1,by rw [List.drop_of_length_le (by omega)];simp,Ev.step (fun k=>by rw [zq.l0,if_neg (by omega)]) (Ev.now _)⟩
 | succ d ih=>
  intro i hi
  have hlt:i < l.length:=by omega
  have hw:wrap64 ((i:Int) + 1)=((i + 1:Nat):Int):=by rw [ya (by omega)];rfl
  by_cases e:t=l[i]
  ·exact ⟨i,by rw [List.drop_eq_getElem_cons hlt,←e];simp,Ev.step (fun k=>by rw [zq.l0,if_pos (by clear hw;omega),if_pos (by clear hw;omega),if_pos (by clear hw;omega),Zw hlt,if_pos (key_inj.2 e)]) (Ev.now _)⟩
  ·obtain ⟨z,h0,hz⟩:=ih (i + 1) (by clear hw;omega)
   exact ⟨z,by rw [h0,List.drop_eq_getElem_cons hlt,List.mem_cons];exact ⟨.inr,fun h=>h.resolve_left e⟩,Ev.step (fun k=>by rw [zq.l0,if_pos (by clear hw;omega),if_pos (by clear hw;omega),if_pos (by clear hw;omega),Zw hlt,if_neg (fun h=>e (key_inj.1 h)),hw]) hz⟩
theorem has_dec (l:List ByteArray) (t:ByteArray) (hl:l.length≤1000000):Ev (fun k=>Zu.f k l t) (decide (t ∈ l)):=by
 unfold Zu.f
 refine Ev.bind (is_ev l (by omega)) ?_
 by_cases hr:Zx (yP l)
 ·refine Ev.ite_pos (by simpa using hr) (Ev.bind (bin_ev l t hr (by omega)) (Ev.some ?_))
  exact decide_eq_decide.2 Yb
 ·refine Ev.ite_neg (by simpa using hr) ?_
  obtain ⟨z,h0,hz⟩:=index_dec t l (by omega) l.length 0 (by omega)
  unfold yT.f zq.f
  refine Ev.bind (Ev.bind hz (Ev.now _)) (Ev.some ?_)
  rw [List.drop_zero] at h0
  exact decide_eq_decide.2 h0
theorem same_ints (l:List Int) (hl:l.length≤1000000000000):Ev (fun k=>yD.f k l l) true:=by
 have:∀(d i:Nat),i + d=l.length→Ev (fun k=>yD.l0 k l l i) true:=by
  intro d
  induction d with
  | zero=>intro i hi;exact Ev.step (fun k=>by rw [yD.l0,if_neg (by omega)]) (Ev.now _)
  | succ d ih=>
   intro i hi
   have hw:wrap64 ((i:Int) + 1)=((i + 1:Nat):Int):=by rw [ya (by omega)];rfl
   exact Ev.step (fun k=>by rw [yD.l0,if_pos (by clear hw;omega),if_pos (by clear hw;omega),if_pos (by clear hw;omega),if_pos rfl,hw]) (ih (i + 1) (by clear hw;omega))
 unfold yD.f
 exact Ev.ite_pos rfl (this l.length 0 (by omega))
theorem has_int (l:List Int) (n:Int) (hl:l.length≤1000000000000):Ev (fun k=>yG.f k l n) (decide (n ∈ l)):=by
 have:∀(d i:Nat),i + d=l.length→Ev (fun k=>yG.l0 k l n i) (decide (n ∈ l.drop i)):=by
  intro d
  induction d with
  | zero=>intro i hi;rw [List.drop_of_length_le (by omega),decide_eq_false (by simp)];exact Ev.step (fun k=>by rw [yG.l0,if_neg (by omega)]) (Ev.now _)
  | succ d ih=>
   intro i hi
   have hlt:i < l.length:=by omega
   have hw:wrap64 ((i:Int) + 1)=((i + 1:Nat):Int):=by rw [ya (by omega)];rfl
   refine Ev.step (fun k=>by rw [yG.l0,if_pos (by clear hw;omega),if_pos (by clear hw;omega),rd_int hlt,hw]) ?_
   rw [List.drop_eq_getElem_cons hlt]
   by_cases e:l[i]=n
   ·rw [decide_eq_true (by simp [e])]
    exact Ev.ite_pos e (Ev.now _)
   ·rw [show decide (n ∈ l[i] :: l.drop (i + 1))=decide (n ∈ l.drop (i + 1)) from decide_eq_decide.2 (by rw [List.mem_cons];exact ⟨fun h=>h.resolve_left (fun h=>e h.symm), .inr⟩)]
    exact Ev.ite_neg e (ih (i + 1) (by clear hw;omega))
 unfold yG.f
 exact this l.length 0 (by omega)
def hds (l:List ByteArray):List Int:=l.filterMap fun t=>if t.size=0 then none else some (bt t 0)
theorem hds_cons (t:ByteArray) (l:List ByteArray):hds (t :: l)=if t.size=0 then hds l else bt t 0 :: hds l:=by
 unfold hds
 rw [List.filterMap_cons]
 by_cases h:t.size=0
 ·simp [h]
 ·simp [h]
theorem toList_nil {t:ByteArray} :t.toList= []↔t.size=0:=by
 rw [Lib.toList_data,←YV]
 exact List.length_eq_zero_iff.symm
theorem heads_l0 (l:List ByteArray) (hl:l.length≤1000000):∀(d i:Nat) (acc:List Int),i + d=l.length→acc.length≤i→Ev (fun k=>ye.l0 k acc l l.length i) (yF.iset (acc ++ hds (l.drop i))):=by
 intro d
 induction d with
 | zero=>
  intro i acc hi ha
  rw [List.drop_of_length_le (by omega),show hds []= [] from rfl,List.append_nil]
  refine Ev.step (fun k=>by rw [ye.l0,if_neg (by omega)]) (Ev.bind0 (a:=yF.iset acc) ?_ (Ev.now _))
  unfold yF.f
  rw [if_pos (by omega)]
 | succ d ih=>
  intro i acc hi ha
  have hlt:i < l.length:=by omega
  have hw:wrap64 ((i:Int) + 1)=((i + 1:Nat):Int):=by rw [ya (by omega)];rfl
  have hb:=bt_lt l[i] 0
  have hwb:wrap64 (bt l[i] 0)=bt l[i] 0:=ya (by clear hw;omega)
  refine Ev.step (fun k=>by rw [ye.l0,if_pos (by clear hw hwb;omega),if_pos (by clear hw hwb;omega),if_pos (by clear hw hwb;omega),Zw hlt,hw,hwb]) ?_
  rw [List.drop_eq_getElem_cons hlt,hds_cons]
  by_cases h0:l[i].size=0
  ·rw [if_pos h0]
   exact Ev.ite_pos (toList_nil.2 h0) (ih (i + 1) acc (by clear hw hwb;omega) (by clear hw hwb;omega))
  ·rw [if_neg h0]
   have:=ih (i + 1) (acc ++ [bt l[i] 0]) (by clear hw hwb;omega) (by rw [List.length_append,List.length_singleton];clear hw hwb;omega)
   rw [List.append_assoc,List.singleton_append] at this
   exact Ev.ite_neg (fun h=>h0 (toList_nil.1 h)) (Ev.ite_pos (by clear hw hwb;omega) (Ev.ite_pos (by clear hw hwb;omega) this))
theorem heads_ev (l:List ByteArray) (hl:l.length≤1000000):Ev (fun k=>ye.f k l) (yF.iset (hds l)):=by
 have:=heads_l0 l hl l.length 0 [] (by omega) (by simp)
 rw [List.drop_zero,List.nil_append] at this
 exact this
def upTo (n:Nat) (h:List Int):List Int:=((List.range n).map Int.ofNat).filter fun x=>decide (x ∈ h)
theorem upTo_succ (n:Nat) (h:List Int):upTo (n + 1) h=upTo n h ++ if (n:Int) ∈ h then [(n:Int)] else []:=by
 unfold upTo
 rw [List.range_succ,List.map_append,List.filter_append]
 congr 1
 by_cases e:(n:Int) ∈ h
 ·simp [e]
 ·simp [e]
theorem upTo_length (n:Nat) (h:List Int):(upTo n h).length≤n:=by
 unfold upTo
 refine Nat.le_trans (List.length_filter_le _ _) ?_
 simp
theorem upTo_lt {n:Nat} {h:List Int} :∀x ∈ upTo n h,x < (n:Int):=by
 intro x hx
 unfold upTo at hx
 rw [List.mem_filter,List.mem_map] at hx
 obtain ⟨⟨m,hm,rfl⟩,_⟩:=hx
 rw [List.mem_range] at hm
 show (m:Int) < n
 omega
theorem upTo_rises (n:Nat) (h:List Int):(upTo n h).Pairwise (· < ·):=by
 unfold upTo
 refine List.Pairwise.filter _ (List.pairwise_map.2 ?_)
 exact List.pairwise_lt_range.imp fun {a b} hab=>by show (a:Int) < (b:Int);omega
theorem rheads_l1 (l:List ByteArray) (hl:l.length≤1000000) (n:Nat) (hn:n < 256) (r:List Int):∀(d i:Nat) (acc:List Int),i + d=l.length→acc.length + d≤100000000→Ev (fun k=>zi.l0 k l (acc ++ if (n:Int) ∈ hds (l.drop i)∧(n:Int) ∉ acc then [(n:Int)] else []) ((n + 1:Nat):Int)) r→
  Ev (fun k=>zi.l1 k l acc n i) r:=by
 intro d
 induction d with
 | zero=>
  intro i acc hi ha h
  have hw:wrap64 ((n:Int) + 1)=((n + 1:Nat):Int):=by rw [ya (by omega)];rfl
  rw [List.drop_of_length_le (by clear hw;omega),if_neg (by rintro ⟨h,_⟩;exact absurd h (by simp [hds])),List.append_nil] at h
  exact Ev.step (fun k=>by rw [zi.l1,if_neg (by clear hw;omega),hw]) h
 | succ d ih=>
  intro i acc hi ha h
  have hlt:i < l.length:=by omega
  have hw:wrap64 ((i:Int) + 1)=((i + 1:Nat):Int):=by rw [ya (by omega)];rfl
  have hb:=bt_lt l[i] 0
  have hwb:wrap64 (bt l[i] 0)=bt l[i] 0:=ya (by clear hw;omega)
  refine Ev.step (fun k=>by rw [zi.l1,if_pos (by clear hw hwb;omega),if_pos (by clear hw hwb;omega),Zw hlt,hw,hwb]) ?_
  rw [List.drop_eq_getElem_cons hlt,hds_cons] at h
  by_cases h0:l[i].size=0
  ·rw [if_pos h0] at h
   exact Ev.ite_neg (by clear hw hwb;omega) (ih (i + 1) acc (by clear hw hwb;omega) (by clear hw hwb;omega) h)
  ·rw [if_neg h0] at h
   refine Ev.ite_pos (by clear hw hwb;omega) (Ev.ite_pos (by clear hw hwb;omega) ?_)
   by_cases e:bt l[i] 0=(n:Int)
   ·refine Ev.ite_pos e (Ev.bind (has_int acc n (by clear hw hwb;omega)) ?_)
    by_cases hm:(n:Int) ∈ acc
    ·refine Ev.ite_pos (decide_eq_true hm) (ih (i + 1) acc (by clear hw hwb;omega) (by clear hw hwb;omega) ?_)
     rw [if_neg (fun h=>h.2 hm)] at h⊢
     exact h
    ·refine Ev.ite_neg (by simp [hm]) (Ev.ite_pos (by clear hw hwb;omega) ?_)
     rw [if_pos ⟨by rw [e];exact List.mem_cons_self ..,hm⟩] at h
     refine ih (i + 1) (acc ++ [(n:Int)]) (by clear hw hwb;omega) (by rw [List.length_append,List.length_singleton];clear hw hwb;omega) ?_
     rw [if_neg (fun h=>h.2 (by simp)),List.append_nil]
     exact h
   ·refine Ev.ite_neg e (ih (i + 1) acc (by clear hw hwb;omega) (by clear hw hwb;omega) ?_)
    simp only [show ((n:Int) ∈ bt l[i] 0 :: hds (l.drop (i + 1))∧(n:Int) ∉ acc)=((n:Int) ∈ hds (l.drop (i + 1))∧(n:Int) ∉ acc) from by
     rw [List.mem_cons]
     exact propext ⟨fun h=>⟨h.1.resolve_left (fun h=>e h.symm),h.2⟩,fun h=>⟨.inr h.1,h.2⟩⟩] at h
    exact h
theorem rheads_l0 (l:List ByteArray) (hl:l.length≤1000000):∀(d n:Nat),n + d=256→Ev (fun k=>zi.l0 k l (upTo n (hds l)) n) (upTo 256 (hds l)):=by
 intro d
 induction d with
 | zero=>
  intro n hn
  obtain rfl:n=256:=by omega
  exact Ev.step (fun k=>by rw [zi.l0,if_neg (by omega)]) (Ev.now _)
 | succ d ih=>
  intro n hn
  have hlen:=upTo_length n (hds l)
  refine Ev.step (fun k=>by rw [zi.l0,if_pos (by omega)];rfl) (rheads_l1 l hl n (by omega) _ l.length 0 (upTo n (hds l)) (by omega) (by omega) ?_)
  have h:=ih (n + 1) (by omega)
  rw [upTo_succ] at h
  rw [List.drop_zero]
  have hno:(n:Int) ∉ upTo n (hds l):=fun hm=>by have:=upTo_lt _ hm;omega
  by_cases e:(n:Int) ∈ hds l
  ·rw [if_pos e] at h
   rw [if_pos ⟨e,hno⟩]
   exact h
  ·rw [if_neg e] at h
   rw [if_neg (fun h=>e h.1)]
   exact h
theorem rheads_ev (l:List ByteArray) (hl:l.length≤1000000):Ev (fun k=>zi.f k l) (upTo 256 (hds l)):=rheads_l0 l hl 256 0 (by omega)
theorem heads_same (l:List ByteArray):yF.iset (hds l)=upTo 256 (hds l):=by
 refine rises_ext (s:=fun x y:Int=>x < y) (fun x=>by omega) (fun x y z=>Int.lt_trans) _ _ (yF.iset_rises _).1 (upTo_rises _ _) fun x=> ?_
 rw [(yF.iset_rises _).2]
 unfold upTo
 rw [List.mem_filter,List.mem_map,decide_eq_true_iff]
 constructor
 ·intro h
  refine ⟨?_,h⟩
  unfold hds at h
  rw [List.mem_filterMap] at h
  obtain ⟨t,_,ht⟩:=h
  split at ht
  ·cases ht
  ·have:=bt_lt t 0
   rw [←Option.some.inj ht]
   exact ⟨(bt t 0).toNat,by rw [List.mem_range];omega,by show ((bt t 0).toNat:Int)=_;omega⟩
 ·exact fun h=>h.2
abbrev Sets:=List (List ByteArray)
def setP (l:List ByteArray):List ByteArray:=txts (YP [] (yP l))
theorem Zv (l:List ByteArray):setP l=setT l:=congrArg txts (putAll_nil _)
abbrev CatF:=List ByteArray→List ByteArray→List ByteArray
def rowG (C:CatF) (M:Nat) (sets:Sets):List Sym→List ByteArray→List ByteArray × Bool
 | [],out=>(out,true)
 | s :: l,out=>if M < (C out (if s.f0=true then [strOfNums [s.f1 % 256]] else zk sets s.f1)).length then ([],false) else rowG C M sets l (C out (if s.f0=true then [strOfNums [s.f1 % 256]] else zk sets s.f1))
def ZO (C:CatF) (M:Nat):List Prod'→Sets→Bool→Sets × Bool × Bool
 | [],sets,more=>(sets,more,true)
 | p :: ps,sets,more=>if (rowG C M sets p.f1 [(⟨#[]⟩:ByteArray)]).2=false then (sets,false,false) else if M < (setP (zk sets p.f0 ++ (rowG C M sets p.f1 [(⟨#[]⟩:ByteArray)]).1)).length then (sets,false,false) else ZO C M ps (sets.set p.f0.toNat (setP (zk sets p.f0 ++ (rowG C M sets p.f1 [(⟨#[]⟩:ByteArray)]).1))) (more || decide ((zk sets p.f0).length < (setP (zk sets p.f0 ++ (rowG C M sets p.f1 [(⟨#[]⟩:ByteArray)]).1)).length))
def Yh (C:CatF) (M:Nat) (ps:List Prod'):Nat→Sets→Option Sets
 | 0,_=>none
 | m + 1,sets=>if (ZO C M ps sets false).2.2=false then none else if (ZO C M ps sets false).2.1=false then some (ZO C M ps sets false).1 else Yh C M ps m (ZO C M ps sets false).1
def YO (M:Nat) (a:List ByteArray):Prop:=a.length≤M∧∀x ∈ a,x.size≤4
def yk (M:Nat) (sets:Sets):Prop:=∀a ∈ sets,YO M a∧setT a=a
theorem Zr {sets:Sets} {i:Int} (h:0≤i∧i < sets.length):zk sets i ∈ sets:=by
 unfold zk
 rw [List.getD_eq_getElem?_getD,List.getElem?_eq_getElem (by omega)]
 exact List.getElem_mem _
theorem strOfNums_size (n:Int):(strOfNums [n]).size=1:=rfl
theorem tok_good {M:Nat} (hM:1≤M) (n:Int):YO M [strOfNums [n]]:=⟨by simpa using hM,fun x hx=>by rw [List.mem_singleton.1 hx,strOfNums_size];omega⟩
theorem ZX {M:Nat} (hM:1≤M):YO M [(⟨#[]⟩:ByteArray)]:=⟨by simpa using hM,fun x hx=>by rw [List.mem_singleton.1 hx];decide⟩
theorem qq {M:Nat} (hM:1≤M) {toks:Int} {sets:Sets} (hS:yk M sets) {s:Sym} (hs:yt toks sets.length s=false):YO M (if s.f0=true then [strOfNums [s.f1 % 256]] else zk sets s.f1)∧(s.f0=false→0≤s.f1∧s.f1 < sets.length):=by
 unfold yt at hs
 cases h:s.f0
 ·rw [h] at hs
  have h2:0≤s.f1∧s.f1 < sets.length:=by simpa using hs
  exact ⟨(hS _ (Zr h2)).1,fun _=>h2⟩
 ·exact ⟨tok_good hM _,fun h=>by cases h⟩
theorem YW {C:CatF} {M:Nat} (hC:∀a b,∀x ∈ C a b,x.size≤4) (sets:Sets):∀(l:List Sym) (out:List ByteArray),YO M out→YO M (rowG C M sets l out).1:=by
 intro l
 induction l with
 | nil=>intro out h;exact h
 | cons s l ih=>
  intro out h
  unfold rowG
  by_cases h6:M < (C out (if s.f0=true then [strOfNums [s.f1 % 256]] else zk sets s.f1)).length
  ·rw [if_pos h6];exact ⟨Nat.zero_le _,fun x hx=>nomatch hx⟩
  ·rw [if_neg h6];exact ih _ ⟨Nat.not_lt.1 h6,hC _ _⟩
theorem qZ (l:List ByteArray):setT (setT l)=setT l:=setT_congr fun x=>qC
theorem setT_inj {a b:List ByteArray} (ha:setT a=a) (hb:setT b=b) (hs:∀x ∈ a,x ∈ b) (hl:b.length≤a.length):a=b:=by
 have hra:Zx (yP a):=by rw [←ha,YH];exact (ym _).1
 have hrb:Zx (yP b):=by rw [←hb,YH];exact (ym _).1
 have hk:yP a=yP b:=by
  refine qN hra hrb fun x=>⟨fun hx=> ?_,fun hx=> ?_⟩
  ·obtain ⟨y,hy,rfl⟩:=List.mem_map.1 hx
   exact Yb.2 (hs y hy)
  ·refine Classical.byContradiction fun hn=> ?_
   have h:(x :: yP a).length≤(yP b).length:=short_of_subset _ _ (List.pairwise_cons.2 ⟨fun y hy e=>hn (e▸hy),hra.imp fun h=>(qk _ _).1 h |>.2⟩) (fun y hy=>by
    rcases List.mem_cons.1 hy with e|h
    ·exact e▸hx
    ·obtain ⟨z,hz,rfl⟩:=List.mem_map.1 h
     exact Yb.2 (hs z hz))
   rw [List.length_cons,ZC,ZC] at h
   omega
 rw [←qX a,hk,qX]
def YU (sets:Sets):Nat:=(sets.map List.length).sum
theorem qr {M:Nat} :∀ {sets:Sets},yk M sets→YU sets≤M * sets.length:=by
 intro sets
 induction sets with
 | nil=>intro _;exact Nat.le_refl _
 | cons a sets ih=>
  intro h
  have h1:=(h a List.mem_cons_self).1.1
  have h2:=ih fun x hx=>h x (List.mem_cons_of_mem _ hx)
  unfold YU at h2⊢
  rw [List.map_cons,List.sum_cons,List.length_cons,Nat.mul_succ]
  omega
theorem total_set:∀(sets:Sets) (i:Nat) (h:i < sets.length) (j:List ByteArray),YU (sets.set i j) + (sets[i]).length=YU sets + j.length:=by
 intro sets
 induction sets with
 | nil=>intro i h;simp at h
 | cons a sets ih=>
  intro i h j
  cases i with
  | zero=>
   unfold YU
   simp only [List.set_cons_zero,List.map_cons,List.sum_cons,List.getElem_cons_zero]
   omega
  | succ i=>
   have:=ih i (by simpa using h) j
   unfold YU at this⊢
   simp only [List.set_cons_succ,List.map_cons,List.sum_cons,List.getElem_cons_succ]
   omega
theorem rd_at {sets:Sets} {i:Int} (h:0≤i∧i < sets.length):zk sets i=sets[i.toNat]'(by omega):=by
 unfold zk
 rw [List.getD_eq_getElem?_getD,List.getElem?_eq_getElem (by omega)]
 rfl
theorem YX {M:Nat} {sets:Sets} (hS:yk M sets) (i:Nat) {j:List ByteArray} (hj:YO M j) (hf:setT j=j):yk M (sets.set i j):=by
 intro a ha
 rcases List.mem_or_eq_of_mem_set ha with h|h
 ·exact hS a h
 ·exact h▸⟨hj,hf⟩
theorem Yc {toks:Int} {n:Nat} {p:Prod'} (h:yf toks n p=false):(0≤p.f0∧p.f0 < n)∧p.f1.any (yt toks n)=false:=by
 unfold yf at h
 rw [Bool.or_eq_false_iff] at h
 exact ⟨by simpa using h.1,h.2⟩
theorem join_good {M:Nat} {sets:Sets} {i:Int} (hS:yk M sets) (h:0≤i∧i < sets.length) {x:List ByteArray} (hx:YO M x) (hl:(setP (zk sets i ++ x)).length≤M):YO M (setP (zk sets i ++ x))∧setT (setP (zk sets i ++ x))=setP (zk sets i ++ x):=by
 refine ⟨⟨hl,fun y hy=> ?_⟩,by rw [Zv,qZ]⟩
 rw [Zv,qC,List.mem_append] at hy
 rcases hy with hy|hy
 ·exact (hS _ (Zr h)).1.2 y hy
 ·exact hx.2 y hy
theorem Yp {M:Nat} {sets:Sets} {i:Int} (hS:yk M sets) (h:0≤i∧i < sets.length) (x:List ByteArray):(zk sets i).length≤(setP (zk sets i ++ x)).length∧((setP (zk sets i ++ x)).length≤(zk sets i).length→zk sets i=setP (zk sets i ++ x)):=by
 have hf:=(hS _ (Zr h)).2
 have hsub:∀y ∈ zk sets i,y ∈ setP (zk sets i ++ x):=fun y hy=>by
  rw [Zv,qC];exact List.mem_append_left _ hy
 refine ⟨?_,fun hl=>setT_inj hf (by rw [Zv,qZ]) hsub hl⟩
 have hr:Zx (yP (zk sets i)):=by rw [←hf,YH];exact (ym _).1
 have hh:=rises_short hr (b:=yP (setP (zk sets i ++ x))) fun y hy=>by
  obtain ⟨z,hz,rfl⟩:=List.mem_map.1 hy
  exact Yb.2 (hsub z hz)
 rwa [ZC,ZC] at hh
theorem qO {C:CatF} {M:Nat} (hC:∀a b,∀x ∈ C a b,x.size≤4) (hM:1≤M) {toks:Int} {n:Nat} :∀(ps:List Prod') (sets:Sets) (more:Bool),yk M sets→sets.length=n→ps.any (yf toks n)=false→
  yk M (ZO C M ps sets more).1∧(ZO C M ps sets more).1.length=n∧YU sets≤YU (ZO C M ps sets more).1∧(more=false→(ZO C M ps sets more).2.1=true→YU sets < YU (ZO C M ps sets more).1):=by
 intro ps
 induction ps with
 | nil=>intro sets more hS hn _;exact ⟨hS,hn,Nat.le_refl _,fun h1 h2=>by rw [show (ZO C M [] sets more).2.1=more from rfl,h1] at h2;cases h2⟩
 | cons p ps ih=>
  intro sets more hS hn hb
  rw [List.any_cons,Bool.or_eq_false_iff] at hb
  obtain ⟨hp,hr⟩:=Yc hb.1
  rw [←hn] at hp
  unfold ZO
  have hx:=YW hC sets p.f1 _ (ZX hM)
  generalize (rowG C M sets p.f1 [(⟨#[]⟩:ByteArray)])=x at hx⊢
  by_cases h1:x.2=false
  ·rw [if_pos h1];exact ⟨hS,hn,Nat.le_refl _,fun _ h2=>by cases h2⟩
  rw [if_neg h1]
  by_cases h2:M < (setP (zk sets p.f0 ++ x.1)).length
  ·rw [if_pos h2];exact ⟨hS,hn,Nat.le_refl _,fun _ h2=>by cases h2⟩
  rw [if_neg h2]
  obtain ⟨hj,hf⟩:=join_good hS hp hx (Nat.not_lt.1 h2)
  obtain ⟨hg,-⟩:=Yp hS hp x.1
  have ht:=total_set sets p.f0.toNat (by omega) (setP (zk sets p.f0 ++ x.1))
  rw [←rd_at hp] at ht
  obtain ⟨i1,i2,i3,i4⟩:=ih (sets.set p.f0.toNat (setP (zk sets p.f0 ++ x.1))) (more || decide ((zk sets p.f0).length < (setP (zk sets p.f0 ++ x.1)).length)) (YX hS _ hj hf) (by rw [List.length_set];exact hn) hb.2
  refine ⟨i1,i2,by omega,fun hm hm2=> ?_⟩
  by_cases h3:(zk sets p.f0).length < (setP (zk sets p.f0 ++ x.1)).length
  ·omega
  ·have:=i4 (by rw [hm,decide_eq_false h3];rfl) hm2
   omega
set_option linter.unusedSectionVars false
section
variable {C : CatF} {M : Nat} (hC : ∀ a b, ∀ x ∈ C a b, x.size ≤ 4) (hM : 1 ≤ M) (cat : Nat → List ByteArray → List ByteArray → Option (List ByteArray)) (hcat : ∀ a b, YO M a → YO M b → Ev (fun k => cat k a b) (C a b)) (hM2 : M ≤ 1000000) (toks : Int) (of : List Int)
include hC hM hcat hM2
theorem row_ev {sets:Sets} (hS:yk M sets):∀(l:List Sym) (out:List ByteArray),YO M out→l.any (yt toks sets.length)=false→
  Ev (fun k=>zc.row (cat k) sets (M:Int) l out) (rowG C M sets l out):=by
 intro l
 induction l with
 | nil=>intro out _ _;exact Ev.now _
 | cons s l ih=>
  intro out ho hb
  rw [List.any_cons,Bool.or_eq_false_iff] at hb
  obtain ⟨hg,hn⟩:=qq hM hS hb.1
  have hc:=hcat _ _ ho hg
  unfold rowG
  refine Ev.congr (fun k=>by rw [zc.row]) (Ev.bind0 (a:=if s.f0=true then [strOfNums [s.f1 % 256]] else zk sets s.f1) ?_ (Ev.bind hc ?_))
  ·cases h:s.f0
   ·rw [if_neg Bool.false_ne_true,if_neg Bool.false_ne_true,if_pos (hn h)]
   ·rw [if_pos rfl,if_pos rfl];rfl
  ·by_cases h:M < (C out (if s.f0=true then [strOfNums [s.f1 % 256]] else zk sets s.f1)).length
   ·rw [if_pos h];exact Ev.ite_pos (by omega) (Ev.now _)
   ·rw [if_neg h];exact Ev.ite_neg (by omega) (ih _ ⟨by omega,hC _ _⟩ hb.2)
theorem round_ev:∀(ps:List Prod') (sets:Sets) (more:Bool),yk M sets→sets.length=of.length→ps.any (yf toks of.length)=false→(∀p ∈ ps,p.f1.length≤1000000)→
  Ev (fun k=>zc.round (cat k) (M:Int) ps sets more) (ZO C M ps sets more):=by
 intro ps
 induction ps with
 | nil=>intro sets more _ _ _ _;exact Ev.now _
 | cons p ps ih=>
  intro sets more hS hn hb hl
  rw [List.any_cons,Bool.or_eq_false_iff] at hb
  obtain ⟨hp,hr⟩:=Yc hb.1
  rw [←hn] at hp hr
  unfold ZO
  have hx:=YW hC sets p.f1 _ (ZX hM)
  have hrow:=row_ev hC hM cat hcat hM2 toks hS p.f1 _ (ZX hM) hr
  generalize (rowG C M sets p.f1 [(⟨#[]⟩:ByteArray)])=x at hx hrow⊢
  refine Ev.congr (fun k=>by rw [zc.round]) (Ev.ite_pos (hl p List.mem_cons_self) (Ev.bind hrow ?_))
  by_cases h1:x.2=false
  ·rw [if_pos h1];exact Ev.ite_pos h1 (Ev.now _)
  rw [if_neg h1]
  have hm:=(hS _ (Zr hp)).1.1
  refine Ev.ite_neg h1 (Ev.ite_pos hp (Ev.bind0 (join_some _ _ (by omega) (by have:=hx.1;omega)) ?_))
  rw [←Zv]
  by_cases h2:M < (setP (zk sets p.f0 ++ x.1)).length
  ·rw [if_pos h2];exact Ev.ite_pos (by omega) (Ev.now _)
  rw [if_neg h2]
  obtain ⟨hj,hf⟩:=join_good hS hp hx (Nat.not_lt.1 h2)
  have hi:=ih (sets.set p.f0.toNat (setP (zk sets p.f0 ++ x.1))) (more || decide ((zk sets p.f0).length < (setP (zk sets p.f0 ++ x.1)).length)) (YX hS _ hj hf) (by rw [List.length_set];exact hn) hb.2 (fun q hq=>hl q (List.mem_cons_of_mem _ hq))
  refine Ev.ite_neg (by omega) ?_
  rw [show decide ((((setP (zk sets p.f0 ++ x.1)).length:Nat):Int) > ((zk sets p.f0).length:Int))=decide ((zk sets p.f0).length < (setP (zk sets p.f0 ++ x.1)).length) from decide_eq_decide.2 (by omega)]
  exact hi
theorem loop_ev (L:List Prod') (hb:L.any (yf toks of.length)=false) (hl:∀p ∈ L,p.f1.length≤1000000):∀(m:Nat) (sets:Sets),yk M sets→sets.length=of.length→M * of.length - YU sets < m→
  (∃N,∀k,N≤k→∀q,N≤q→zc.loop (cat k) (M:Int) L q sets=some (Yh C M L m sets))∧
  ∀s,Yh C M L m sets=some s→yk M s∧s.length=of.length:=by
 intro m
 induction m with
 | zero=>intro sets _ _ h;omega
 | succ m ih=>
  intro sets hS hn hm
  obtain ⟨g1,g2,g3,g4⟩:=qO hC hM L sets false hS hn hb
  obtain ⟨N,hN⟩:=round_ev hC hM cat hcat hM2 toks of L sets false hS hn hb hl
  replace hN:∀k,N≤k→zc.round (cat k) (M:Int) L sets false=some (ZO C M L sets false):=hN
  unfold Yh
  generalize ZO C M L sets false=x at g1 g2 g3 g4 hN⊢
  by_cases h1:x.2.2=false
  ·rw [if_pos h1]
   refine ⟨⟨N + 1,fun k hk q hq=> ?_⟩,fun s h=>by cases h⟩
   obtain ⟨q,rfl⟩:∃q',q=q' + 1:=⟨q - 1,by omega⟩
   rw [zc.loop,hN k (by omega),Option.bind_some,if_pos h1]
  rw [if_neg h1]
  by_cases h2:x.2.1=false
  ·rw [if_pos h2]
   refine ⟨⟨N + 1,fun k hk q hq=> ?_⟩,fun s h=>by cases h;exact ⟨g1,g2⟩⟩
   obtain ⟨q,rfl⟩:∃q',q=q' + 1:=⟨q - 1,by omega⟩
   rw [zc.loop,hN k (by omega),Option.bind_some,if_neg h1,if_pos h2]
  rw [if_neg h2]
  have g5:=g4 rfl (by simpa using h2)
  have g6:=qr g1
  rw [g2] at g6
  obtain ⟨⟨M',hM'⟩,i3⟩:=ih x.1 g1 g2 (by omega)
  refine ⟨⟨N + M' + 1,fun k hk q hq=> ?_⟩,i3⟩
  obtain ⟨q,rfl⟩:∃q',q=q' + 1:=⟨q - 1,by omega⟩
  rw [zc.loop,hN k (by omega),Option.bind_some,if_neg h1,if_neg h2]
  exact hM' k (by omega) q (by omega)
end
theorem YC {toks look:Int} {n:Nat} {L:List Prod'} (h:mayE toks look n L=0):(1≤n∧n≤500)∧(1≤L.length∧L.length≤2000)∧(1≤look∧look≤4)∧L.any (yf toks n)=false:=by
 unfold mayE at h
 by_cases h1:toks < 1∨60 < toks∨n < 1∨500 < n∨L.length < 1∨2000 < L.length∨(L.any fun p=>decide (500 < p.f1.length))=true
 ·rw [if_pos h1] at h;cases h
 rw [if_neg h1] at h
 by_cases h2:look < 1∨4 < look
 ·rw [if_pos h2] at h;cases h
 rw [if_neg h2] at h
 by_cases h3:L.any (yf toks n)=true
 ·rw [if_pos h3] at h;cases h
 exact ⟨by omega,by omega,by omega,by simpa using h3⟩
def cutP (m:Nat) (p:Prod'):Prod':=⟨p.f0,p.f1.take m⟩
theorem gfew_l0 (t l:Int) (of:List Int):∀(L:List Prod') (hL:L.length≤1000000000) (d i:Nat),i + d=L.length→
  Ev (fun k=>zt.l0 k i t l of L) (t,l,of,L.take i ++ (L.drop i).map (cutP 4)):=by
 intro L hL d
 induction d generalizing L with
 | zero=>
  intro i hi
  rw [List.drop_of_length_le (by omega),List.take_of_length_le (by omega),List.map_nil,List.append_nil]
  exact Ev.step (fun k=>by rw [zt.l0,if_neg (by omega)]) (Ev.now _)
 | succ d ih=>
  intro i hi
  have hlt:i < L.length:=by omega
  have hw:wrap64 ((i:Int) + 1)=((i + 1:Nat):Int):=by rw [ya (by omega)];rfl
  have hm:0≤mn (L[i].f1.length:Int) 4∧mn (L[i].f1.length:Int) 4≤L[i].f1.length∧L[i].f1.take (mn (L[i].f1.length:Int) 4).toNat=L[i].f1.take 4:=by
   unfold mn
   split
   ·exact ⟨by clear hw;omega,by clear hw;omega,rfl⟩
   ·refine ⟨by clear hw;omega,by clear hw;omega,?_⟩
    rw [Int.toNat_natCast,List.take_length,List.take_of_length_le (by clear hw;omega)]
  have h:=ih (L.set i (cutP 4 L[i])) (by rw [List.length_set];exact hL) (i + 1) (by rw [List.length_set];clear hw;omega)
  have e:(L.set i (cutP 4 L[i])).take (i + 1) ++ ((L.set i (cutP 4 L[i])).drop (i + 1)).map (cutP 4)=L.take i ++ (L.drop i).map (cutP 4):=by
   rw [List.drop_set_of_lt (by omega),List.take_succ_eq_append_getElem (by rw [List.length_set];exact hlt),List.getElem_set_self,List.take_set_of_le (Nat.le_refl _),List.append_assoc,List.drop_eq_getElem_cons hlt]
   rfl
  rw [e] at h
  refine Ev.step (fun k=>by rw [zt.l0,if_pos (by clear hw;omega),if_pos (by clear hw;omega),rdP hlt,if_pos hm.1,if_pos hm.2.1,hm.2.2,hw];rfl) h
theorem Few_l0 (t l t' l':Int) (of of':List Int) (L:List Prod') (m:Nat) (hm:m≤1000):∀(d i:Nat),m - i=d→i≤m→
  Ev (fun k=>zl.l0 k m i t l of L t' l' of' ((L.take i).map (cutP 8))) (t',l',of',(L.take m).map (cutP 8)):=by
 intro d
 induction d with
 | zero=>
  intro i hi hi2
  rw [show i=m by omega]
  by_cases hlt:m < L.length
  ·exact Ev.step (fun k=>by rw [zl.l0,if_pos (by omega),if_neg (by omega)]) (Ev.now _)
  ·exact Ev.step (fun k=>by rw [zl.l0,if_neg (by omega)]) (Ev.now _)
 | succ d ih=>
  intro i hi hi2
  by_cases hlt:i < L.length
  ·have hw:wrap64 ((i:Int) + 1)=((i + 1:Nat):Int):=by rw [ya (by omega)];rfl
   have hm:0≤mn (L[i].f1.length:Int) 8∧mn (L[i].f1.length:Int) 8≤L[i].f1.length∧L[i].f1.take (mn (L[i].f1.length:Int) 8).toNat=L[i].f1.take 8:=by
    unfold mn
    split
    ·exact ⟨by clear hw;omega,by clear hw;omega,rfl⟩
    ·refine ⟨by clear hw;omega,by clear hw;omega,?_⟩
     rw [Int.toNat_natCast,List.take_length,List.take_of_length_le (by clear hw;omega)]
   have h:=ih (i + 1) (by clear hw;omega) (by clear hw;omega)
   rw [List.take_succ_eq_append_getElem hlt,List.map_append] at h
   refine Ev.step (fun k=>by rw [zl.l0,if_pos (by clear hw;omega),if_pos (by clear hw;omega),if_pos (by clear hw;omega),rdP hlt,Option.bind_some,if_pos hm.1,if_pos hm.2.1,hm.2.2,Option.bind_some,if_pos (by simp;clear hw;omega),if_pos (by simp;clear hw;omega),hw];rfl) h
  ·rw [List.take_of_length_le (by omega),List.take_of_length_le (by omega)]
   exact Ev.step (fun k=>by rw [zl.l0,if_neg (by omega)]) (Ev.now _)
def fewL (L:List Prod'):List Prod':=(L.take 14).map (cutP 4)
theorem take_mn {α:Type} (l:List α) (n:Nat):(0≤mn (l.length:Int) n∧mn (l.length:Int) n≤l.length)∧l.take (mn (l.length:Int) n).toNat=l.take n:=by
 unfold mn
 split
 ·exact ⟨⟨by omega,by omega⟩,rfl⟩
 ·refine ⟨⟨by omega,by omega⟩,?_⟩
  rw [Int.toNat_natCast,List.take_length,List.take_of_length_le (by omega)]
theorem gfew_ev (t l:Int) (of:List Int) (L:List Prod'):Ev (fun k=>zt.f k t l of L) (t,l,of.take 8,fewL L):=by
 have h1:=Few_l0 t l t l of (of.take 8) L 14 (by omega) 14 0 rfl (by omega)
 have h2:=gfew_l0 t l (of.take 8) ((L.take 14).map (cutP 8)) (by simp;omega) _ 0 (Nat.zero_add _)
 rw [List.take_zero,List.drop_zero,List.nil_append,List.map_map] at h2
 rw [show cutP 4 ∘ cutP 8=cutP 4 from funext fun p=>by unfold cutP;simp [List.take_take]] at h2
 obtain ⟨hm,he⟩:=take_mn of 8
 unfold zt.f zl.f ZF.f
 refine Ev.bind (Ev.ite_pos hm.1 (Ev.ite_pos hm.2 (Ev.bind0 (a:=of.take 8) ?_ h1))) h2
 erw [he]
 rw [Option.bind_some,if_pos (by simp;omega)]
 rfl
theorem fewL_few (L:List Prod'):fewL (fewL L)=fewL L:=by
 unfold fewL
 rw [List.take_of_length_le (by simp;omega),List.map_map,show cutP 4 ∘ cutP 4=cutP 4 from funext fun p=>by unfold cutP;simp [List.take_take]]
theorem fewL_le (L:List Prod'):(fewL L).length≤14∧∀p ∈ fewL L,p.f1.length≤4:=by
 unfold fewL
 refine ⟨by simp;omega,fun p hp=> ?_⟩
 obtain ⟨q,-,rfl⟩:=List.mem_map.1 hp
 unfold cutP
 simp;omega
def catA (K:Nat) (a b:List ByteArray):List ByteArray:=setP (a.flatMap fun x=>b.map (tc K x))
theorem tc_le (K:Nat) (x y:ByteArray):(tc K x y).size≤K:=by
 rw [←YV]
 unfold tc
 simp only [List.toList_toArray,List.length_take]
 omega
theorem mem_catA {K:Nat} {a b:List ByteArray} {z:ByteArray} :z ∈ catA K a b↔∃x ∈ a,∃y ∈ b,tc K x y=z:=by
 unfold catA
 rw [Zv,qC,List.mem_flatMap]
 constructor
 ·rintro ⟨x,hx,h⟩
  obtain ⟨y,hy,h⟩:=List.mem_map.1 h
  exact ⟨x,hx,y,hy,h⟩
 ·rintro ⟨x,hx,y,hy,h⟩
  exact ⟨x,hx,List.mem_map.2 ⟨y,hy,h⟩⟩
theorem Zo {K:Nat} (hK:K≤4) (a b:List ByteArray):∀x ∈ catA K a b,x.size≤4:=by
 intro x hx
 obtain ⟨y,hy,z,hz,rfl⟩:=mem_catA.1 hx
 exact Nat.le_trans (tc_le _ _ _) hK
theorem K_le {look:Int} (hlook:1≤look∧look≤4):(mx look 0).toNat≤4:=by unfold mx;split <;> omega
theorem qt {look:Int} (hlook:1≤look∧look≤4) (a b:List ByteArray) (ha:YO 600 a) (hb:YO 600 b):Ev (fun k=>zy.f k a b look) (catA (mx look 0).toNat a b):=by
 have h:=cat_ev b look (by omega) (by have:=hb.1;omega) (fun y hy=>by have:=hb.2 y hy;omega) a (by have:=ha.1;omega) (fun x hx=>by have:=ha.2 x hx;omega)
 unfold catA
 rw [Zv,setT_congr (b:=a.flatMap (YT (mx look 0).toNat b)) fun z=> ?_]
 ·exact h
 ·rw [←Yb (l:=a.flatMap (YT _ b)),mem_row]
  simp only [List.mem_flatMap,List.mem_map]
  constructor
  ·rintro ⟨x,hx,y,hy,rfl⟩;exact ⟨x,hx,y,hy,rfl⟩
  ·rintro ⟨x,hx,y,hy,h⟩;exact ⟨x,hx,y,hy,(Yo h).symm⟩
def ofA (toks look:Int) (n:Nat) (L:List Prod'):Sets × Int:=
 if mayE toks look n L=0 then (match Yh (catA (mx look 0).toNat) 600 L (600 * n + 1) (List.replicate n []) with|none=>([],15)|some s=>(s,0)) else ([],mayE toks look n L)
theorem Yk (M n:Nat):yk M (List.replicate n []):=by
 intro a ha
 rw [(List.mem_replicate.1 ha).2]
 exact ⟨⟨Nat.zero_le _,fun x hx=>nomatch hx⟩,setT_nil⟩
theorem of_loop (toks:Int) {look:Int} (h3:1≤look∧look≤4) (of:List Int) (L:List Prod') (h4:L.any (yf toks of.length)=false) (hl:∀p ∈ L,p.f1.length≤1000000) :
  (∃N,∀k,N≤k→∀q,N≤q→zc.loop (fun a b=>zy.f k a b look) 600 L q (List.replicate of.length [])=some (Yh (catA (mx look 0).toNat) 600 L (600 * of.length + 1) (List.replicate of.length [])))∧
  ∀s,Yh (catA (mx look 0).toNat) 600 L (600 * of.length + 1) (List.replicate of.length [])=some s→yk 600 s∧s.length=of.length:=
 loop_ev (C:=catA (mx look 0).toNat) (M:=600) (Zo (K_le h3)) (by omega) (fun k a b=>zy.f k a b look) (fun a b=>qt h3 a b) (by omega) toks of L h4 hl (600 * of.length + 1) (List.replicate of.length []) (Yk _ _) (List.length_replicate ..) (by omega)
theorem of_ev (toks look:Int) (of:List Int) (L:List Prod') (hl:∀p ∈ L,p.f1.length≤1000000) (hL:L.length≤1000000):Ev (fun k=>zc.f k toks look of L) (ofA toks look of.length L):=by
 unfold zc.f zc.grow ofA
 refine Ev.bind (may_ev toks look of L (by omega) (fun p hp=>by have:=hl p hp;omega)) ?_
 by_cases h0:mayE toks look of.length L=0
 ·obtain ⟨h1,h2,h3,h4⟩:=YC h0
  rw [if_pos h0]
  obtain ⟨⟨N,hN⟩,-⟩:=of_loop toks h3 of L h4 hl
  refine Ev.ite_pos h0 (Ev.ite_pos ⟨by omega,by omega,by omega⟩ (Ev.bind (a:=Yh (catA (mx look 0).toNat) 600 L (600 * of.length + 1) (List.replicate of.length [])) ⟨N,fun k hk=>hN k hk k hk⟩ ?_))
  cases Yh (catA (mx look 0).toNat) 600 L (600 * of.length + 1) (List.replicate of.length []) with
  | none=>exact Ev.now _
  | some s=>exact Ev.now _
 ·rw [if_neg h0]
  exact Ev.ite_neg h0 (Ev.now _)
theorem rcatG_ev {look:Int} (hlook:1≤look∧look≤4) {a b:List ByteArray} (ha:YO 600 a) (hb:YO 600 b):Ev (fun k=>zQ.f k a b look) (catA (mx look 0).toNat a b):=by
 unfold catA
 rw [Zv]
 exact rcat_ev a b look (by have:=ha.1;omega) (by have:=hb.1;omega) (fun x hx=>by have:=ha.2 x hx;omega) (fun y hy=>by have:=hb.2 y hy;omega)
section
variable (toks look : Int) (of : List Int) (hlook : 1 ≤ look ∧ look ≤ 4)
include hlook
theorem rrow_ev {sets:Sets} (hS:yk 600 sets) (l:List Sym) (hl:l.length≤1000000000) (hb:l.any (yt toks sets.length)=false):∀(d i:Nat) (out:List ByteArray),i + d=l.length→YO 600 out→
  Ev (fun k=>zf.l0 k l look sets 600 out i) (rowG (catA (mx look 0).toNat) 600 sets (l.drop i) out):=by
 intro d
 induction d with
 | zero=>
  intro i out hi _
  rw [List.drop_of_length_le (by omega)]
  exact Ev.step (fun k=>by rw [zf.l0,if_neg (by omega)];rfl) (Ev.now _)
 | succ d ih=>
  intro i out hi ho
  have hlt:i < l.length:=by omega
  have hw:wrap64 ((i:Int) + 1)=((i + 1:Nat):Int):=by rw [ya (by omega)];rfl
  have hbs:yt toks sets.length l[i]=false:=by
   cases hh:yt toks sets.length l[i]
   ·rfl
   ·rw [List.any_eq_true.2 ⟨l[i],List.getElem_mem _,hh⟩] at hb;cases hb
  obtain ⟨hg,hn⟩:=qq (M:=600) (by omega) hS hbs
  have hc:=rcatG_ev hlook ho hg
  rw [List.drop_eq_getElem_cons hlt]
  unfold rowG
  refine Ev.step (fun k=>by rw [zf.l0,if_pos (by clear hw;omega),if_pos (by clear hw;omega),rdS hlt,hw]) ?_
  have done:Ev (fun k=>(zQ.f k out (if l[i].f0=true then [strOfNums [l[i].f1 % 256]] else zk sets l[i].f1) look).bind fun t=>if (t.length:Int) > 600 then some (([]:List ByteArray),false) else zf.l0 k l look sets 600 t ((i + 1:Nat):Int)) (if 600 < (catA (mx look 0).toNat out (if l[i].f0=true then [strOfNums [l[i].f1 % 256]] else zk sets l[i].f1)).length then ([],false) else rowG (catA (mx look 0).toNat) 600 sets (l.drop (i + 1)) (catA (mx look 0).toNat out (if l[i].f0=true then [strOfNums [l[i].f1 % 256]] else zk sets l[i].f1))):=by
   refine Ev.bind hc ?_
   by_cases h:600 < (catA (mx look 0).toNat out (if l[i].f0=true then [strOfNums [l[i].f1 % 256]] else zk sets l[i].f1)).length
   ·rw [if_pos h];exact Ev.ite_pos (by clear hw;omega) (Ev.now _)
   ·rw [if_neg h];exact Ev.ite_neg (by clear hw;omega) (ih _ _ (by clear hw;omega) ⟨by clear hw;omega,Zo (K_le hlook) _ _⟩)
  cases h:l[i].f0
  ·simp only [h] at done⊢
   simp only [if_neg Bool.false_ne_true] at done⊢
   obtain ⟨h1,h2⟩:=hn h
   exact Ev.ite_pos h1 (Ev.ite_pos h2 done)
  ·simp only [h] at done⊢
   simp only [if_true] at done⊢
   exact done
theorem rround_ev (L:List Prod') (hL:L.length≤1000000000) (hb:L.any (yf toks of.length)=false) (hl:∀p ∈ L,p.f1.length≤1000000) (r:Sets × Bool):∀(d i:Nat) (sets:Sets) (more:Bool),i + d=L.length→yk 600 sets→sets.length=of.length→
  ((ZO (catA (mx look 0).toNat) 600 (L.drop i) sets more).2.2=true→Ev (fun k=>zT.l1 k look 600 (ZO (catA (mx look 0).toNat) 600 (L.drop i) sets more).1 (ZO (catA (mx look 0).toNat) 600 (L.drop i) sets more).2.1 toks look of L) r)→
  Ev (fun k=>zT.l2 k look 600 sets more i toks look of L) (if (ZO (catA (mx look 0).toNat) 600 (L.drop i) sets more).2.2=true then r else ([],false)):=by
 intro d
 induction d with
 | zero=>
  intro i sets more hi _ _ hc
  rw [List.drop_of_length_le (by omega)] at hc⊢
  exact Ev.step (fun k=>by rw [zT.l2,if_neg (by omega)];rfl) (hc rfl)
 | succ d ih=>
  intro i sets more hi hS hn hc
  have hlt:i < L.length:=by omega
  have hw:wrap64 ((i:Int) + 1)=((i + 1:Nat):Int):=by rw [ya (by omega)];rfl
  have hbp:yf toks of.length L[i]=false:=by
   cases hh:yf toks of.length L[i]
   ·rfl
   ·rw [List.any_eq_true.2 ⟨L[i],List.getElem_mem _,hh⟩] at hb;cases hb
  obtain ⟨hp,hr⟩:=Yc hbp
  rw [←hn] at hp hr
  have hll:=hl _ (List.getElem_mem hlt)
  rw [List.drop_eq_getElem_cons hlt] at hc⊢
  unfold ZO at hc⊢
  have hx:=YW (M:=600) (Zo (K_le hlook)) sets L[i].f1 _ (ZX (M:=600) (by omega))
  have hrow:=rrow_ev toks look hlook hS L[i].f1 (by clear hw;omega) hr L[i].f1.length 0 _ (by clear hw;omega) (ZX (M:=600) (by omega))
  rw [List.drop_zero] at hrow
  generalize (rowG (catA (mx look 0).toNat) 600 sets L[i].f1 [(⟨#[]⟩:ByteArray)])=x at hx hrow hc⊢
  refine Ev.step (fun k=>by rw [zT.l2,if_pos (by clear hw;omega),if_pos (by clear hw;omega),rdP hlt,hw]) (Ev.bind (by unfold zf.f;exact hrow) ?_)
  by_cases h1:x.2=false
  ·rw [if_pos h1] at hc⊢;exact Ev.ite_neg (by rw [h1];simp) (Ev.now _)
  rw [if_neg h1] at hc⊢
  have hm:=(hS _ (Zr hp)).1.1
  refine Ev.ite_pos (by simpa using h1) (Ev.ite_pos hp.1 (Ev.ite_pos hp.2 (Ev.bind (by
   have hj:=rjoin_ev (zk sets L[i].f0) x.1 (by clear hw;omega) (by have:=hx.1;clear hw;omega)
   rw [←Zv] at hj
   exact hj) ?_)))
  by_cases h2:600 < (setP (zk sets L[i].f0 ++ x.1)).length
  ·rw [if_pos h2] at hc⊢;exact Ev.ite_pos (by clear hw;omega) (Ev.now _)
  rw [if_neg h2] at hc⊢
  obtain ⟨hj,hf⟩:=join_good hS hp hx (Nat.not_lt.1 h2)
  obtain ⟨-,hg⟩:=Yp hS hp x.1
  refine Ev.ite_neg (by clear hw;omega) ?_
  have hi:=ih (i + 1) (sets.set L[i].f0.toNat (setP (zk sets L[i].f0 ++ x.1))) (more || decide ((zk sets L[i].f0).length < (setP (zk sets L[i].f0 ++ x.1)).length)) (by clear hw;omega) (YX hS _ hj hf) (by rw [List.length_set];exact hn) hc
  by_cases h3:(zk sets L[i].f0).length < (setP (zk sets L[i].f0 ++ x.1)).length
  ·refine Ev.ite_pos (by clear hw;omega) ?_
   rw [decide_eq_true h3,Bool.or_true] at hi⊢
   exact hi
  ·refine Ev.ite_neg (by clear hw;omega) ?_
   have he:=hg (Nat.not_lt.1 h3)
   rw [decide_eq_false h3,Bool.or_false] at hi⊢
   have hse:sets.set L[i].f0.toNat (setP (zk sets L[i].f0 ++ x.1))=sets:=by
    rw [←he,rd_at hp]
    exact List.set_getElem_self _
   rw [hse] at hi⊢
   exact hi
theorem rloop_ev (L:List Prod') (hL:L.length≤1000000000) (hb:L.any (yf toks of.length)=false) (hl:∀p ∈ L,p.f1.length≤1000000):∀(m:Nat) (sets:Sets),yk 600 sets→sets.length=of.length→600 * of.length - YU sets < m→
  Ev (fun k=>zT.l1 k look 600 sets true toks look of L) (match Yh (catA (mx look 0).toNat) 600 L m sets with|none=>([],false)|some s=>(s,true)):=by
 intro m
 induction m with
 | zero=>intro sets _ _ h;omega
 | succ m ih=>
  intro sets hS hn hm
  obtain ⟨g1,g2,g3,g4⟩:=qO (M:=600) (Zo (K_le hlook)) (by omega) L sets false hS hn hb
  have hrr:=fun r=>rround_ev toks look of hlook L hL hb hl r L.length 0 sets false (by omega) hS hn
  simp only [List.drop_zero] at hrr
  have hl1:∀r,Ev (fun k=>zT.l2 k look 600 sets false (0:Nat) toks look of L) r→Ev (fun k=>zT.l1 k look 600 sets true toks look of L) r:=fun r h=>Ev.step (fun k=>by rw [zT.l1,if_pos rfl];rfl) h
  unfold Yh
  generalize ZO (catA (mx look 0).toNat) 600 L sets false=x at g1 g2 g3 g4 hrr⊢
  by_cases h1:x.2.2=false
  ·rw [if_pos h1]
   have:=hrr ([],true) (fun h=>by rw [h1] at h;cases h)
   rw [if_neg (by rw [h1];simp)] at this
   exact hl1 _ this
  rw [if_neg h1]
  by_cases h2:x.2.1=false
  ·rw [if_pos h2]
   have:=hrr (x.1,true) (fun h=>by rw [h2];exact Ev.step (fun k=>by rw [zT.l1,if_neg (by simp)]) (Ev.now _))
   rw [if_pos (by simpa using h1)] at this
   exact hl1 _ this
  rw [if_neg h2]
  have g5:=g4 rfl (by simpa using h2)
  have g6:=qr g1
  rw [g2] at g6
  have i2:=ih x.1 g1 g2 (by omega)
  have:=hrr _ (fun _=>by rw [show x.2.1=true by simpa using h2];exact i2)
  rw [if_pos (by simpa using h1)] at this
  exact hl1 _ this
end
theorem rgrown_l0 (toks look:Int) (of:List Int) (hof:of.length≤1000000) (L:List Prod') (r:Sets × Bool) (h:Ev (fun k=>zT.l1 k look 600 (List.replicate of.length []) true toks look of L) r):∀(d i:Nat),i + d=of.length→Ev (fun k=>zT.l0 k look 600 (List.replicate i []) i toks look of L) r:=by
 intro d
 induction d with
 | zero=>
  intro i hi
  rw [show i=of.length by omega]
  exact Ev.step (fun k=>by rw [zT.l0,if_neg (by omega)]) h
 | succ d ih=>
  intro i hi
  have hw:wrap64 ((i:Int) + 1)=((i + 1:Nat):Int):=by rw [ya (by omega)];rfl
  have hi2:=ih (i + 1) (by clear hw;omega)
  rw [List.replicate_succ'] at hi2
  exact Ev.step (fun k=>by rw [zT.l0,if_pos (by clear hw;omega),if_pos (by rw [List.length_replicate];clear hw;omega),hw]) hi2
theorem rof_ev (toks look:Int) (of:List Int) (L:List Prod') (hl:∀p ∈ L,p.f1.length≤1000000) (hL:L.length≤1000000):Ev (fun k=>yV.f k toks look of L) (ofA toks look of.length L):=by
 unfold yV.f ofA
 refine Ev.bind (rmay_ev toks look of L (by omega) (fun p hp=>by have:=hl p hp;omega)) ?_
 by_cases h0:mayE toks look of.length L=0
 ·obtain ⟨h1,h2,h3,h4⟩:=YC h0
  rw [if_pos h0]
  have hN:=rloop_ev toks look of h3 L (by omega) h4 hl (600 * of.length + 1) (List.replicate of.length []) (Yk _ _) (List.length_replicate ..) (by omega)
  have hg:=rgrown_l0 toks look of (by omega) L _ hN of.length 0 (by omega)
  unfold zT.f
  refine Ev.ite_pos h0 (Ev.bind hg ?_)
  cases Yh (catA (mx look 0).toNat) 600 L (600 * of.length + 1) (List.replicate of.length []) with
  | none=>exact Ev.now _
  | some s=>exact Ev.now _
 ·rw [if_neg h0]
  exact Ev.ite_neg h0 (Ev.now _)
theorem roundG_more {C:CatF} {M:Nat} :∀(ps:List Prod') (sets:Sets),(ZO C M ps sets true).2.2=true→(ZO C M ps sets true).2.1=true:=by
 intro ps
 induction ps with
 | nil=>intro sets _;rfl
 | cons p ps ih=>
  intro sets h
  unfold ZO at h⊢
  generalize (rowG C M sets p.f1 [(⟨#[]⟩:ByteArray)])=x at h⊢
  by_cases h1:x.2=false
  ·rw [if_pos h1] at h;cases h
  rw [if_neg h1] at h⊢
  by_cases h2:M < (setP (zk sets p.f0 ++ x.1)).length
  ·rw [if_pos h2] at h;cases h
  rw [if_neg h2] at h⊢
  rw [Bool.true_or] at h⊢
  exact ih _ h
def Fix (C:CatF) (M:Nat) (L:List Prod') (S:Sets):Prop:=∀p ∈ L,(rowG C M S p.f1 [(⟨#[]⟩:ByteArray)]).2=true∧∀x ∈ (rowG C M S p.f1 [(⟨#[]⟩:ByteArray)]).1,x ∈ zk S p.f0
theorem roundG_fix {C:CatF} {M:Nat} {toks:Int} {n:Nat} :∀(ps:List Prod') (S:Sets),yk M S→S.length=n→ps.any (yf toks n)=false→(ZO C M ps S false).2.2=true→(ZO C M ps S false).2.1=false→(ZO C M ps S false).1=S∧Fix C M ps S:=by
 intro ps
 induction ps with
 | nil=>intro S _ _ _ _ _;exact ⟨rfl,fun p hp=>nomatch hp⟩
 | cons p ps ih=>
  intro S hS hn hb h3 h4
  rw [List.any_cons,Bool.or_eq_false_iff] at hb
  obtain ⟨hp,-⟩:=Yc hb.1
  rw [←hn] at hp
  unfold ZO at h3 h4⊢
  have e:rowG C M S p.f1 [(⟨#[]⟩:ByteArray)]=rowG C M S p.f1 [(⟨#[]⟩:ByteArray)]:=rfl
  generalize hx:(rowG C M S p.f1 [(⟨#[]⟩:ByteArray)])=x at h3 h4⊢
  by_cases h1:x.2=false
  ·rw [if_pos h1] at h3;cases h3
  rw [if_neg h1] at h3 h4⊢
  by_cases h2:M < (setP (zk S p.f0 ++ x.1)).length
  ·rw [if_pos h2] at h3;cases h3
  rw [if_neg h2] at h3 h4⊢
  obtain ⟨-,hg⟩:=Yp hS hp x.1
  by_cases c:(zk S p.f0).length < (setP (zk S p.f0 ++ x.1)).length
  ·rw [decide_eq_true c,Bool.or_true] at h3 h4
   rw [roundG_more _ _ h3] at h4;cases h4
  ·have he:=hg (Nat.not_lt.1 c)
   have hse:S.set p.f0.toNat (setP (zk S p.f0 ++ x.1))=S:=by
    rw [←he,rd_at hp]
    exact List.set_getElem_self _
   rw [decide_eq_false c,Bool.or_false,hse] at h3 h4⊢
   obtain ⟨i1,i2⟩:=ih S hS hn hb.2 h3 h4
   refine ⟨i1,fun q hq=> ?_⟩
   rcases List.mem_cons.1 hq with rfl|hq
   ·rw [hx]
    refine ⟨by simpa using h1,fun z hz=> ?_⟩
    rw [he,Zv,qC]
    exact List.mem_append_right _ hz
   ·exact i2 q hq
theorem loopG_fix {C:CatF} {M:Nat} (hC:∀a b,∀x ∈ C a b,x.size≤4) (hM:1≤M) {toks:Int} {n:Nat} {L:List Prod'} (hb:L.any (yf toks n)=false):∀(m:Nat) (S s:Sets),yk M S→S.length=n→Yh C M L m S=some s→Fix C M L s∧yk M s∧s.length=n:=by
 intro m
 induction m with
 | zero=>intro S s _ _ h;cases h
 | succ m ih=>
  intro S s hS hn h
  obtain ⟨g1,g2,-,-⟩:=qO hC hM L S false hS hn hb
  have hf:=roundG_fix (C:=C) L S hS hn hb
  unfold Yh at h
  generalize ZO C M L S false=x at h g1 g2 hf
  by_cases h1:x.2.2=false
  ·rw [if_pos h1] at h;cases h
  rw [if_neg h1] at h
  by_cases h2:x.2.1=false
  ·rw [if_pos h2] at h
   obtain ⟨e,hF⟩:=hf (by simpa using h1) h2
   obtain rfl:=Option.some.inj h
   rw [e]
   exact ⟨hF,hS,hn⟩
  ·rw [if_neg h2] at h
   exact ih _ _ g1 g2 h
theorem flat_len {α β:Type} (l:List α) (f:α→List β) (m:Nat) (h:∀x,(f x).length≤m):(l.flatMap f).length≤m * l.length:=by
 induction l with
 | nil=>simp
 | cons x l ih=>
  have:=h x
  rw [List.flatMap_cons,List.length_append,List.length_cons,Nat.mul_succ]
  omega
abbrev Lk:=S80
def YR (K:Nat) (F:Sets) (left:Int):List Sym→Option (List Lk)
 | []=>some []
 | s :: l=>if s.f0=true then YR K F left l else if (rowG (catA K) 600 F l [(⟨#[]⟩:ByteArray)]).2=true then (YR K F left l).map fun a=>⟨s.f1,left,(rowG (catA K) 600 F l [(⟨#[]⟩:ByteArray)]).1⟩ :: a else none
def YL (K:Nat) (F:Sets):List Prod'→Option (List Lk)
 | []=>some []
 | p :: ps=>(YR K F p.f0 p.f1).bind fun a=>(YL K F ps).map fun b=>a ++ b
def GoodL (n:Nat) (x:Lk):Prop:=(0≤x.f0∧x.f0 < (n:Int))∧(0≤x.f1∧x.f1 < (n:Int))∧YO 600 x.f2
theorem qP {K:Nat} (hK:K≤4) {F:Sets} {toks:Int} {n:Nat} {left:Int} (hleft:0≤left∧left < (n:Int)):∀(l:List Sym),l.any (yt toks n)=false→∀a,YR K F left l=some a→(∀x ∈ a,GoodL n x)∧a.length≤l.length:=by
 intro l
 induction l with
 | nil=>intro _ a h;obtain rfl:=Option.some.inj h;exact ⟨fun x hx=>(nomatch hx),Nat.le_refl _⟩
 | cons s l ih=>
  intro hb a h
  rw [List.any_cons,Bool.or_eq_false_iff] at hb
  unfold YR at h
  by_cases h0:s.f0=true
  ·rw [if_pos h0] at h
   obtain ⟨i1,i2⟩:=ih hb.2 a h
   exact ⟨i1,by simp;omega⟩
  ·rw [if_neg h0] at h
   by_cases h1:(rowG (catA K) 600 F l [(⟨#[]⟩:ByteArray)]).2=true
   ·rw [if_pos h1] at h
    obtain ⟨b,hb2,rfl⟩:=Option.map_eq_some_iff.1 h
    obtain ⟨i1,i2⟩:=ih hb.2 b hb2
    refine ⟨fun x hx=> ?_,by simp;omega⟩
    rcases List.mem_cons.1 hx with rfl|hx
    ·have hs:=hb.1
     unfold yt at hs
     rw [if_neg h0] at hs
     exact ⟨by simpa using hs,hleft,YW (M:=600) (Zo hK) F l _ (ZX (M:=600) (by omega))⟩
    ·exact i1 x hx
   ·rw [if_neg h1] at h;cases h
theorem qQ {K:Nat} (hK:K≤4) {F:Sets} {toks:Int} {n B:Nat} :∀(L:List Prod'),L.any (yf toks n)=false→(∀p ∈ L,p.f1.length≤B)→∀xs,YL K F L=some xs→(∀x ∈ xs,GoodL n x)∧xs.length≤B * L.length:=by
 intro L
 induction L with
 | nil=>intro _ _ xs h;obtain rfl:=Option.some.inj h;exact ⟨fun x hx=>(nomatch hx),Nat.zero_le _⟩
 | cons p ps ih=>
  intro hb hl xs h
  rw [List.any_cons,Bool.or_eq_false_iff] at hb
  obtain ⟨a,ha,h⟩:=Option.bind_eq_some_iff.1 h
  obtain ⟨b,hb2,rfl⟩:=Option.map_eq_some_iff.1 h
  obtain ⟨hp,hr⟩:=Yc hb.1
  obtain ⟨i1,i2⟩:=qP hK hp p.f1 hr a ha
  obtain ⟨j1,j2⟩:=ih hb.2 (fun q hq=>hl q (List.mem_cons_of_mem _ hq)) b hb2
  have:=hl p List.mem_cons_self
  refine ⟨fun x hx=> ?_,by rw [List.length_append,List.length_cons,Nat.mul_succ];omega⟩
  rcases List.mem_append.1 hx with hx|hx
  ·exact i1 x hx
  ·exact j1 x hx
theorem any_drop {l:List Sym} {f:Sym→Bool} (h:l.any f=false) (i:Nat):(l.drop i).any f=false:=by
 cases hh:(l.drop i).any f
 ·rfl
 ·obtain ⟨x,hx,hf⟩:=List.any_eq_true.1 hh
  rw [List.any_eq_true.2 ⟨x,List.mem_of_mem_drop hx,hf⟩] at h;cases h
section
variable (toks look : Int) (hlook : 1 ≤ look ∧ look ≤ 4)
include hlook
theorem rower_ev {F:Sets} (hS:yk 600 F) (l:List Sym) (hl:l.length≤1000000000) (hb:l.any (yt toks F.length)=false):∀(d i:Nat) (out:List ByteArray),i + d=l.length→YO 600 out→
  Ev (fun k=>zv.l0 k out l l.length i look F) (rowG (catA (mx look 0).toNat) 600 F (l.drop i) out):=by
 intro d
 induction d with
 | zero=>
  intro i out hi _
  rw [List.drop_of_length_le (by omega)]
  exact Ev.step (fun k=>by rw [zv.l0,if_neg (by omega)];rfl) (Ev.now _)
 | succ d ih=>
  intro i out hi ho
  have hlt:i < l.length:=by omega
  have hw:wrap64 ((i:Int) + 1)=((i + 1:Nat):Int):=by rw [ya (by omega)];rfl
  have hbs:yt toks F.length l[i]=false:=by
   cases hh:yt toks F.length l[i]
   ·rfl
   ·rw [List.any_eq_true.2 ⟨l[i],List.getElem_mem _,hh⟩] at hb;cases hb
  obtain ⟨hg,hn⟩:=qq (M:=600) (by omega) hS hbs
  have hc:=qt hlook out _ ho hg
  rw [List.drop_eq_getElem_cons hlt]
  unfold rowG
  refine Ev.step (fun k=>by rw [zv.l0,if_pos (by clear hw;omega),if_pos (by clear hw;omega),if_pos (by clear hw;omega),rdS hlt,hw]) ?_
  have done:∀t,t=catA (mx look 0).toNat out (if l[i].f0=true then [strOfNums [l[i].f1 % 256]] else zk F l[i].f1)→Ev (fun k=>if (t.length:Int) > 600 then some (([]:List ByteArray),false) else zv.l0 k t l l.length ((i + 1:Nat):Int) look F) (if 600 < t.length then ([],false) else rowG (catA (mx look 0).toNat) 600 F (l.drop (i + 1)) t):=by
   intro t ht
   by_cases h:600 < t.length
   ·rw [if_pos h];exact Ev.ite_pos (by clear hw;omega) (Ev.now _)
   ·rw [if_neg h];exact Ev.ite_neg (by clear hw;omega) (ih _ _ (by clear hw;omega) ⟨by clear hw;omega,by rw [ht];exact Zo (K_le hlook) _ _⟩)
  cases h:l[i].f0
  ·simp only [h] at done hc⊢
   simp only [if_neg Bool.false_ne_true] at done hc⊢
   obtain ⟨h1,h2⟩:=hn h
   exact Ev.ite_pos h1 (Ev.ite_pos h2 (Ev.bind hc (done _ rfl)))
  ·simp only [h] at done hc⊢
   simp only [if_true] at done hc⊢
   exact Ev.bind hc (done _ rfl)
theorem links_l1 {F:Sets} (hS:yk 600 F) (L:List Prod') (i left:Int) (r:List Sym) (hr:r.length≤1000000) (hb:r.any (yt toks F.length)=false) (res:List Lk × Int):∀(d j:Nat) (acc:List Lk),j + d=r.length→acc.length + d≤1000000000000→
  (YR (mx look 0).toNat F left (r.drop j)=none→res=([],15))→(∀a,YR (mx look 0).toNat F left (r.drop j)=some a→Ev (fun k=>zz.l0 k (acc ++ a) L L.length (wrap64 (i + 1)) look F) res)→
  Ev (fun k=>zz.l1 k acc L L.length i r r.length j look F left r) res:=by
 intro d
 induction d with
 | zero=>
  intro j acc hj _ _ h2
  rw [List.drop_of_length_le (by omega)] at h2
  have:=h2 [] rfl
  rw [List.append_nil] at this
  exact Ev.step (fun k=>by rw [zz.l1,if_neg (by omega)]) this
 | succ d ih=>
  intro j acc hj ha h1 h2
  have hlt:j < r.length:=by omega
  have hw:wrap64 ((j:Int) + 1)=((j + 1:Nat):Int):=by rw [ya (by omega)];rfl
  rw [List.drop_eq_getElem_cons hlt] at h1 h2
  unfold YR at h1 h2
  refine Ev.step (fun k=>by rw [zz.l1,if_pos (by clear hw;omega),if_pos (by clear hw;omega),if_pos (by clear hw;omega),rdS hlt,hw]) ?_
  by_cases h0:r[j].f0=true
  ·rw [if_pos h0] at h1 h2
   exact Ev.ite_pos h0 (ih (j + 1) acc (by clear hw;omega) (by clear hw;omega) h1 h2)
  ·rw [if_neg h0] at h1 h2
   have hrow:=rower_ev toks look hlook hS (r.drop (j + 1)) (by rw [List.length_drop];clear hw;omega) (any_drop hb (j + 1)) (r.drop (j + 1)).length 0 _ (by clear hw;omega) (ZX (M:=600) (by omega))
   rw [List.drop_zero] at hrow
   have ht:(((j + 1:Nat):Int)).toNat=j + 1:=rfl
   refine Ev.ite_neg h0 (Ev.ite_pos (by clear hw;omega) (Ev.ite_pos (by clear hw;omega) (Ev.bind (by unfold zv.f;rw [ht];exact hrow) ?_)))
   generalize (rowG (catA (mx look 0).toNat) 600 F (r.drop (j + 1)) [(⟨#[]⟩:ByteArray)])=x at h1 h2⊢
   by_cases hx:x.2=true
   ·rw [if_pos hx] at h1 h2
    refine Ev.ite_pos hx (Ev.ite_pos (by clear hw;omega) (ih (j + 1) _ (by clear hw;omega) (by rw [List.length_append];simp;clear hw;omega) (fun h=>h1 (by rw [h];rfl)) (fun a ha2=> ?_)))
    have:=h2 _ (by rw [ha2];rfl)
    rw [List.append_assoc]
    exact this
   ·rw [if_neg hx] at h1
    rw [h1 rfl]
    exact Ev.ite_neg hx (Ev.now _)
theorem links_l0 {F:Sets} (hS:yk 600 F) (L:List Prod') (hL:L.length≤1000000) (hb:L.any (yf toks F.length)=false) (hl:∀p ∈ L,p.f1.length≤1000000) (res:List Lk × Int):∀(d i:Nat) (acc:List Lk),i + d=L.length→acc.length≤1000000 * i→
  (YL (mx look 0).toNat F (L.drop i)=none→res=([],15))→(∀a,YL (mx look 0).toNat F (L.drop i)=some a→res=(acc ++ a,0))→
  Ev (fun k=>zz.l0 k acc L L.length i look F) res:=by
 intro d
 induction d with
 | zero=>
  intro i acc hi _ _ h2
  rw [List.drop_of_length_le (by omega)] at h2
  have:=h2 [] rfl
  rw [List.append_nil] at this
  rw [this]
  exact Ev.step (fun k=>by rw [zz.l0,if_neg (by omega)]) (Ev.now _)
 | succ d ih=>
  intro i acc hi ha h1 h2
  have hlt:i < L.length:=by omega
  have hw:wrap64 ((i:Int) + 1)=((i + 1:Nat):Int):=by rw [ya (by omega)];rfl
  have hbp:yf toks F.length L[i]=false:=by
   cases hh:yf toks F.length L[i]
   ·rfl
   ·rw [List.any_eq_true.2 ⟨L[i],List.getElem_mem _,hh⟩] at hb;cases hb
  obtain ⟨hp,hr⟩:=Yc hbp
  have hll:=hl _ (List.getElem_mem hlt)
  rw [List.drop_eq_getElem_cons hlt] at h1 h2
  unfold YL at h1 h2
  refine Ev.step (fun k=>by rw [zz.l0,if_pos (by clear hw;omega),if_pos (by clear hw;omega),if_pos (by clear hw;omega),rdP hlt]) ?_
  refine links_l1 toks look hlook hS L i L[i].f0 L[i].f1 hll hr res L[i].f1.length 0 acc (by clear hw;omega) (by clear hw;omega) (fun h=>h1 ?_) (fun a ha2=> ?_)
  ·rw [List.drop_zero] at h;rw [h];rfl
  ·rw [List.drop_zero] at ha2
   rw [hw]
   have hal:=(qP (K_le hlook) hp L[i].f1 hr a ha2).2
   refine ih (i + 1) (acc ++ a) (by clear hw;omega) (by rw [List.length_append];clear hw;omega) (fun h=>h1 ?_) (fun b hb2=> ?_)
   ·rw [ha2,Option.bind_some,h];rfl
   ·rw [h2 (a ++ b) (by rw [ha2,Option.bind_some,hb2];rfl),List.append_assoc]
end
def yi (K:Nat):List Lk→Sets→Bool→Sets × Bool × Bool
 | [],sets,more=>(sets,more,true)
 | x :: xs,sets,more=>if 600 < (setP (zk sets x.f0 ++ catA K x.f2 (zk sets x.f1))).length then (sets,false,false) else yi K xs (sets.set x.f0.toNat (setP (zk sets x.f0 ++ catA K x.f2 (zk sets x.f1)))) (more || decide ((zk sets x.f0).length < (setP (zk sets x.f0 ++ catA K x.f2 (zk sets x.f1))).length))
def Yy (K:Nat) (xs:List Lk):Nat→Sets→Option Sets
 | 0,_=>none
 | m + 1,sets=>if (yi K xs sets false).2.2=false then none else if (yi K xs sets false).2.1=false then some (yi K xs sets false).1 else Yy K xs m (yi K xs sets false).1
theorem qR {K:Nat} :∀(a b:List Lk) (sets:Sets) (more:Bool),((yi K a sets more).2.2=true→yi K (a ++ b) sets more=yi K b (yi K a sets more).1 (yi K a sets more).2.1)∧((yi K a sets more).2.2=false→(yi K (a ++ b) sets more).2.2=false):=by
 intro a
 induction a with
 | nil=>intro b sets more;exact ⟨fun _=>rfl,fun h=>(by cases h)⟩
 | cons x a ih=>
  intro b sets more
  rw [List.cons_append]
  simp only [yi]
  generalize setP (zk sets x.f0 ++ catA K x.f2 (zk sets x.f1))=j
  by_cases h:600 < j.length
  ·rw [if_pos h,if_pos h];exact ⟨fun h=>(by cases h),fun _=>rfl⟩
  ·rw [if_neg h,if_neg h];exact ih b _ _
theorem catL_good {K:Nat} (hK:K≤4) {sets:Sets} {n:Nat} (hS:yk 600 sets) (hn:sets.length=n) {x:Lk} (hx:GoodL n x) (hl:(setP (zk sets x.f0 ++ catA K x.f2 (zk sets x.f1))).length≤600) :
  YO 600 (setP (zk sets x.f0 ++ catA K x.f2 (zk sets x.f1)))∧setT (setP (zk sets x.f0 ++ catA K x.f2 (zk sets x.f1)))=setP (zk sets x.f0 ++ catA K x.f2 (zk sets x.f1)):=by
 refine ⟨⟨hl,fun y hy=> ?_⟩,by rw [Zv,qZ]⟩
 rw [Zv,qC,List.mem_append] at hy
 rcases hy with hy|hy
 ·exact (hS _ (Zr (by rw [hn];exact hx.1))).1.2 y hy
 ·exact Zo hK _ _ y hy
theorem qI {K:Nat} (hK:K≤4) {n:Nat} :∀(xs:List Lk) (sets:Sets) (more:Bool),(∀x ∈ xs,GoodL n x)→yk 600 sets→sets.length=n→
  yk 600 (yi K xs sets more).1∧(yi K xs sets more).1.length=n∧YU sets≤YU (yi K xs sets more).1∧(more=false→(yi K xs sets more).2.1=true→YU sets < YU (yi K xs sets more).1):=by
 intro xs
 induction xs with
 | nil=>intro sets more _ hS hn;exact ⟨hS,hn,Nat.le_refl _,fun h1 h2=>by rw [show (yi K [] sets more).2.1=more from rfl,h1] at h2;cases h2⟩
 | cons x xs ih=>
  intro sets more hx hS hn
  have hx0:=hx x List.mem_cons_self
  have hp:0≤x.f0∧x.f0 < (sets.length:Int):=by rw [hn];exact hx0.1
  have hj:=catL_good hK hS hn hx0
  obtain ⟨hg,-⟩:=Yp hS hp (catA K x.f2 (zk sets x.f1))
  unfold yi
  generalize setP (zk sets x.f0 ++ catA K x.f2 (zk sets x.f1))=j at hj hg⊢
  by_cases h:600 < j.length
  ·rw [if_pos h];exact ⟨hS,hn,Nat.le_refl _,fun _ h2=>by cases h2⟩
  rw [if_neg h]
  obtain ⟨hj1,hj2⟩:=hj (by omega)
  have ht:=total_set sets x.f0.toNat (by omega) j
  rw [←rd_at hp] at ht
  obtain ⟨i1,i2,i3,i4⟩:=ih (sets.set x.f0.toNat j) (more || decide ((zk sets x.f0).length < j.length)) (fun y hy=>hx y (List.mem_cons_of_mem _ hy)) (YX hS _ hj1 hj2) (by rw [List.length_set];exact hn)
  refine ⟨i1,i2,by omega,fun hm hm2=> ?_⟩
  by_cases h3:(zk sets x.f0).length < j.length
  ·omega
  ·have:=i4 (by rw [hm,decide_eq_false h3];rfl) hm2
   omega
section
variable (toks look : Int) (of : List Int) (hlook : 1 ≤ look ∧ look ≤ 4)
include hlook
theorem fround_ev:∀(xs:List Lk) (sets:Sets) (more:Bool),(∀x ∈ xs,GoodL of.length x)→yk 600 sets→sets.length=of.length→
  Ev (fun k=>yN.round k look xs sets more) (if (yi (mx look 0).toNat xs sets more).2.2=true then yi (mx look 0).toNat xs sets more else ([],false,false)):=by
 intro xs
 induction xs with
 | nil=>intro sets more _ _ _;exact Ev.now _
 | cons x xs ih=>
  intro sets more hx hS hn
  have hx0:=hx x List.mem_cons_self
  have hp:0≤x.f0∧x.f0 < (sets.length:Int):=by rw [hn];exact hx0.1
  have hp1:0≤x.f1∧x.f1 < (sets.length:Int):=by rw [hn];exact hx0.2.1
  have hj:=catL_good (K_le hlook) hS hn hx0
  have hc:=qt hlook x.f2 (zk sets x.f1) hx0.2.2 (hS _ (Zr hp1)).1
  have hjs:∀c:List ByteArray,c.length≤360000→ZH.f (zk sets x.f0) c=some (setP (zk sets x.f0 ++ c)):=fun c hcl=>by
   rw [Zv];exact join_some _ _ (by have:=(hS _ (Zr hp)).1.1;omega) (by omega)
  have hcl:(catA (mx look 0).toNat x.f2 (zk sets x.f1)).length≤360000:=by
   have h1:=hx0.2.2.1
   have h2:=(hS _ (Zr hp1)).1.1
   unfold catA
   rw [Zv]
   refine Nat.le_trans (Ya _) (Nat.le_trans (flat_len _ _ 600 (fun y=>by rw [List.length_map];exact h2)) ?_)
   exact Nat.le_trans (Nat.mul_le_mul_left 600 h1) (by omega)
  unfold yi
  refine Ev.congr (fun k=>by rw [yN.round]) (Ev.ite_pos (And.intro hp hp1) (Ev.bind hc (Ev.bind0 (hjs _ hcl) ?_)))
  generalize setP (zk sets x.f0 ++ catA (mx look 0).toNat x.f2 (zk sets x.f1))=j at hj⊢
  by_cases h:600 < j.length
  ·simp only [if_pos h]
   exact Ev.ite_neg (by omega) (Ev.now _)
  ·simp only [if_neg h]
   obtain ⟨hj1,hj2⟩:=hj (by omega)
   exact Ev.ite_pos (by omega) (ih _ _ (fun y hy=>hx y (List.mem_cons_of_mem _ hy)) (YX hS _ hj1 hj2) (by rw [List.length_set];exact hn))
theorem floop_ev (xs:List Lk) (hx:∀x ∈ xs,GoodL of.length x):∀(m:Nat) (sets:Sets),yk 600 sets→sets.length=of.length→600 * of.length - YU sets < m→
  (∃N,∀k,N≤k→∀q,N≤q→yN.loop k look xs q sets=some (Yy (mx look 0).toNat xs m sets))∧∀s,Yy (mx look 0).toNat xs m sets=some s→yk 600 s∧s.length=of.length:=by
 intro m
 induction m with
 | zero=>intro sets _ _ h;omega
 | succ m ih=>
  intro sets hS hn hm
  obtain ⟨g1,g2,g3,g4⟩:=qI (K_le hlook) xs sets false hx hS hn
  obtain ⟨N,hN⟩:=fround_ev look of hlook xs sets false hx hS hn
  replace hN:∀k,N≤k→yN.round k look xs sets false=some (if (yi (mx look 0).toNat xs sets false).2.2=true then yi (mx look 0).toNat xs sets false else ([],false,false)):=hN
  unfold Yy
  generalize yi (mx look 0).toNat xs sets false=x at g1 g2 g3 g4 hN⊢
  by_cases h1:x.2.2=false
  ·rw [if_pos h1]
   refine ⟨⟨N + 1,fun k hk q hq=> ?_⟩,fun s h=>by cases h⟩
   obtain ⟨q,rfl⟩:∃q',q=q' + 1:=⟨q - 1,by omega⟩
   rw [yN.loop,hN k (by omega),Option.bind_some,if_neg (show ¬x.2.2=true by rw [h1];simp),if_pos rfl]
  rw [if_neg h1]
  have h1':x.2.2=true:=by simpa using h1
  by_cases h2:x.2.1=false
  ·rw [if_pos h2]
   refine ⟨⟨N + 1,fun k hk q hq=> ?_⟩,fun s h=>by cases h;exact ⟨g1,g2⟩⟩
   obtain ⟨q,rfl⟩:∃q',q=q' + 1:=⟨q - 1,by omega⟩
   rw [yN.loop,hN k (by omega),Option.bind_some,if_pos h1',if_neg h1,if_pos h2]
  rw [if_neg h2]
  have g5:=g4 rfl (by simpa using h2)
  have g6:=qr g1
  rw [g2] at g6
  obtain ⟨⟨M',hM'⟩,i3⟩:=ih x.1 g1 g2 (by omega)
  refine ⟨⟨N + M' + 1,fun k hk q hq=> ?_⟩,i3⟩
  obtain ⟨q,rfl⟩:∃q',q=q' + 1:=⟨q - 1,by omega⟩
  rw [yN.loop,hN k (by omega),Option.bind_some,if_pos h1',if_neg h1,if_neg h2]
  exact hM' k (by omega) q (by omega)
end
def qu (n:Nat):ByteArray:=⟨(List.replicate n (0:UInt8)).toArray⟩
theorem zeroT_size (n:Nat):(qu n).size=n:=by
 rw [←YV];unfold qu;simp
theorem repeat_zero:∀n,Lib.repeatL [(0:UInt8)] n=List.replicate n 0
 | 0=>rfl
 | n + 1=>by rw [Lib.repeatL,repeat_zero n,List.replicate_succ];rfl
theorem repeat_some (look:Int) (hlook:1≤look∧look≤4):strings_Repeat.f (⟨#[0]⟩:ByteArray) look=some (qu look.toNat):=by
 unfold strings_Repeat.f
 rw [if_pos ⟨by omega,by omega,by decide⟩]
 unfold qu
 rw [show ((⟨#[0]⟩:ByteArray).data.toList)= [0] from rfl,repeat_zero]
def qD (look:Int) (n:Nat):Sets:=(List.replicate n []).set 0 [qu look.toNat]
theorem setT_one (x:ByteArray):setT [x]= [x]:=by
 unfold setT
 rw [show yP [x]= [x.data.toList] from rfl,YY (List.pairwise_singleton _ _),show [x.data.toList]=yP [x] from rfl,qX]
theorem ql {look:Int} (hlook:1≤look∧look≤4) (n:Nat):yk 600 (qD look n)∧(qD look n).length=n:=by
 refine ⟨YX (Yk 600 n) 0 ⟨by simp,fun x hx=> ?_⟩ (setT_one _),by unfold qD;rw [List.length_set,List.length_replicate]⟩
 rw [List.mem_singleton.1 hx,zeroT_size];omega
def Zs (toks look:Int) (n:Nat) (L:List Prod'):Sets × Int:=
 if (ofA toks look n L).2=0 then (match YL (mx look 0).toNat (ofA toks look n L).1 L with|none=>([],15)|some xs=>match Yy (mx look 0).toNat xs (600 * n + 1) (qD look n) with|none=>([],15)|some s=>(s,0)) else ([],(ofA toks look n L).2)
theorem Yd {toks look:Int} {of:List Int} {L:List Prod'} (hl:∀p ∈ L,p.f1.length≤1000000) (h:(ofA toks look of.length L).2=0):mayE toks look of.length L=0∧yk 600 (ofA toks look of.length L).1∧(ofA toks look of.length L).1.length=of.length:=by
 unfold ofA at h⊢
 by_cases h0:mayE toks look of.length L=0
 ·obtain ⟨h1,h2,h3,h4⟩:=YC h0
  rw [if_pos h0] at h⊢
  obtain ⟨-,hG⟩:=of_loop toks h3 of L h4 hl
  refine ⟨h0,?_⟩
  cases hh:Yh (catA (mx look 0).toNat) 600 L (600 * of.length + 1) (List.replicate of.length []) with
  | none=>rw [hh] at h;cases h
  | some s=>exact hG s hh
 ·rw [if_neg h0] at h
  exact absurd h h0
theorem links_ev (toks look:Int) (of:List Int) (L:List Prod') (hl:∀p ∈ L,p.f1.length≤1000000) (hL:L.length≤1000000) :
  Ev (fun k=>zz.f k toks look of L) (if (ofA toks look of.length L).2=0 then (match YL (mx look 0).toNat (ofA toks look of.length L).1 L with|none=>([],15)|some xs=>(xs,0)) else ([],(ofA toks look of.length L).2)):=by
 have ho:=of_ev toks look of L hl hL
 have hz:=Yd (toks:=toks) (look:=look) (of:=of) hl
 unfold zz.f
 refine Ev.bind ho ?_
 generalize ofA toks look of.length L=X at hz⊢
 by_cases h0:X.2=0
 ·obtain ⟨hm,hS,hn⟩:=hz h0
  obtain ⟨h1,h2,h3,h4⟩:=YC hm
  rw [←hn] at h4
  rw [if_pos h0]
  refine Ev.ite_pos h0 (links_l0 toks look h3 hS L (by omega) h4 hl _ L.length 0 [] (by omega) (by simp) (fun h=> ?_) (fun a h=> ?_))
  ·rw [List.drop_zero] at h;rw [h]
  ·rw [List.drop_zero] at h;rw [h];rfl
 ·rw [if_neg h0]
  exact Ev.ite_neg h0 (Ev.now _)
theorem follow_ev (toks look:Int) (of:List Int) (L:List Prod') (hl4:∀p ∈ L,p.f1.length≤400000) (hL:L.length≤1000000):Ev (fun k=>yN.f k toks look of L) (Zs toks look of.length L):=by
 have hl:∀p ∈ L,p.f1.length≤1000000:=fun p hp=>Nat.le_trans (hl4 p hp) (by omega)
 have hk:=links_ev toks look of L hl hL
 have hz:=Yd (toks:=toks) (look:=look) (of:=of) hl
 unfold yN.f Zs
 generalize ofA toks look of.length L=X at hz hk⊢
 by_cases h0:X.2=0
 ·obtain ⟨hm,hS,hn⟩:=hz h0
  obtain ⟨h1,h2,h3,h4⟩:=YC hm
  rw [if_pos h0] at hk⊢
  refine Ev.bind hk ?_
  cases hh:YL (mx look 0).toNat X.1 L with
  | none=>exact Ev.ite_neg (by simp) (Ev.now _)
  | some xs=>
   dsimp only
   obtain ⟨g1,g2⟩:=qQ (K_le h3) L (n:=of.length) h4 hl4 xs hh
   obtain ⟨i1,i2⟩:=ql h3 of.length
   obtain ⟨⟨N,hN⟩,-⟩:=floop_ev look of h3 xs g1 (600 * of.length + 1) (qD look of.length) i1 i2 (by omega)
   have hlp:Ev (fun k=>yN.loop k look xs k (qD look of.length)) (Yy (mx look 0).toNat xs (600 * of.length + 1) (qD look of.length)):=⟨N,fun k hk=>hN k hk k hk⟩
   refine Ev.ite_pos rfl (Ev.ite_pos ⟨by omega,by omega,?_⟩ (Ev.bind0 (repeat_some look h3) (Ev.bind hlp ?_)))
   ·show xs.length≤1000000000
    omega
   ·cases Yy (mx look 0).toNat xs (600 * of.length + 1) (qD look of.length) with
    | none=>exact Ev.now _
    | some s=>exact Ev.now _
 ·rw [if_neg h0] at hk⊢
  exact Ev.bind hk (Ev.ite_neg h0 (Ev.now _))
section
variable (toks look : Int) (of : List Int) (hlook : 1 ≤ look ∧ look ≤ 4) (L : List Prod') (hL : L.length ≤ 1000000) (hb : L.any (yf toks of.length) = false) (hl : ∀ p ∈ L, p.f1.length ≤ 1000000) {F : Sets} (hF : yk 600 F) (hFn : F.length = of.length)
include hlook hL hb hl hF hFn
theorem rf_l4 (i left:Int) (hleft:0≤left∧left < (of.length:Int)) (r:List Sym) (hr:r.length≤1000000) (hrb:r.any (yt toks of.length)=false) (res:Sets × Int):∀(d j:Nat) (sets:Sets) (more:Bool),j + d=r.length→yk 600 sets→sets.length=of.length→
  (YR (mx look 0).toNat F left (r.drop j)=none→res=([],15))→
  (∀a,YR (mx look 0).toNat F left (r.drop j)=some a→((yi (mx look 0).toNat a sets more).2.2=false→res=([],15))∧((yi (mx look 0).toNat a sets more).2.2=true→Ev (fun k=>zK.l3 k F (yi (mx look 0).toNat a sets more).1 (yi (mx look 0).toNat a sets more).2.1 (wrap64 (i + 1)) toks look of L) res))→
  Ev (fun k=>zK.l4 k F sets more i j toks look of L left r) res:=by
 intro d
 induction d with
 | zero=>
  intro j sets more hj _ _ _ h2
  rw [List.drop_of_length_le (by omega)] at h2
  exact Ev.step (fun k=>by rw [zK.l4,if_neg (by omega)];rfl) ((h2 [] rfl).2 rfl)
 | succ d ih=>
  intro j sets more hj hS hn h1 h2
  have hlt:j < r.length:=by omega
  have hw:wrap64 ((j:Int) + 1)=((j + 1:Nat):Int):=by rw [ya (by omega)];rfl
  rw [List.drop_eq_getElem_cons hlt] at h1 h2
  unfold YR at h1 h2
  have hbs:yt toks of.length r[j]=false:=by
   cases hh:yt toks of.length r[j]
   ·rfl
   ·rw [List.any_eq_true.2 ⟨r[j],List.getElem_mem _,hh⟩] at hrb;cases hrb
  refine Ev.step (fun k=>by rw [zK.l4,if_pos (by clear hw;omega),if_pos (by clear hw;omega),rdS hlt,hw]) ?_
  by_cases h0:r[j].f0=true
  ·rw [if_pos h0] at h1 h2
   exact Ev.ite_pos h0 (ih (j + 1) sets more (by clear hw;omega) hS hn h1 h2)
  ·rw [if_neg h0] at h1 h2
   have hdb:=any_drop hrb (j + 1)
   rw [←hFn] at hdb
   have hrow:=rrow_ev toks look hlook hF (r.drop (j + 1)) (by rw [List.length_drop];clear hw;omega) hdb (r.drop (j + 1)).length 0 _ (by clear hw;omega) (ZX (M:=600) (by omega))
   rw [List.drop_zero] at hrow
   have ht:(((j + 1:Nat):Int)).toNat=j + 1:=rfl
   have hxg:=YW (M:=600) (Zo (K_le hlook)) F (r.drop (j + 1)) _ (ZX (M:=600) (by omega))
   refine Ev.ite_neg h0 (Ev.ite_pos (by clear hw;omega) (Ev.ite_pos (by clear hw;omega) (Ev.bind (by unfold zf.f;rw [ht];exact hrow) ?_)))
   generalize (rowG (catA (mx look 0).toNat) 600 F (r.drop (j + 1)) [(⟨#[]⟩:ByteArray)])=x at h1 h2 hxg⊢
   by_cases hx:x.2=true
   ·rw [if_pos hx] at h1 h2
    have hp:0≤r[j].f1∧r[j].f1 < (sets.length:Int):=by
     unfold yt at hbs
     rw [if_neg h0] at hbs
     rw [hn];simpa using hbs
    have hp1:0≤left∧left < (sets.length:Int):=by rw [hn];exact hleft
    have hg:GoodL of.length (⟨r[j].f1,left,x.1⟩:Lk):=⟨by rw [←hn];exact hp,hleft,hxg⟩
    have hc:=rcatG_ev hlook hxg (hS _ (Zr hp1)).1
    have hcl:(catA (mx look 0).toNat x.1 (zk sets left)).length≤360000:=by
     have h1:=hxg.1
     have h2:=(hS _ (Zr hp1)).1.1
     unfold catA
     rw [Zv]
     refine Nat.le_trans (Ya _) (Nat.le_trans (flat_len _ _ 600 (fun y=>by rw [List.length_map];exact h2)) ?_)
     exact Nat.le_trans (Nat.mul_le_mul_left 600 h1) (by omega)
    have hj:=rjoin_ev (zk sets r[j].f1) (catA (mx look 0).toNat x.1 (zk sets left)) (by have:=(hS _ (Zr hp)).1.1;clear hw;omega) (by clear hw;omega)
    rw [←Zv] at hj
    have hjg:=catL_good (K_le hlook) hS hn hg
    obtain ⟨hgr,hge⟩:=Yp hS hp (catA (mx look 0).toNat x.1 (zk sets left))
    refine Ev.ite_pos hx (Ev.ite_pos hp.1 (Ev.ite_pos hp.2 (Ev.ite_pos hp1.1 (Ev.ite_pos hp1.2 (Ev.bind hc (Ev.bind hj ?_))))))
    have k1:∀a,YR (mx look 0).toNat F left (r.drop (j + 1))=some a→yi (mx look 0).toNat ((⟨r[j].f1,left,x.1⟩:Lk) :: a) sets more=if 600 < (setP (zk sets r[j].f1 ++ catA (mx look 0).toNat x.1 (zk sets left))).length then (sets,false,false) else yi (mx look 0).toNat a (sets.set r[j].f1.toNat (setP (zk sets r[j].f1 ++ catA (mx look 0).toNat x.1 (zk sets left)))) (more || decide ((zk sets r[j].f1).length < (setP (zk sets r[j].f1 ++ catA (mx look 0).toNat x.1 (zk sets left))).length)):=fun a _=>by rw [yi]
    replace h2:∀a,YR (mx look 0).toNat F left (r.drop (j + 1))=some a→_:=fun a ha=>h2 _ (by rw [ha];rfl)
    generalize setP (zk sets r[j].f1 ++ catA (mx look 0).toNat x.1 (zk sets left))=z at hjg hgr hge k1⊢
    by_cases hz:600 < z.length
    ·have hres:res=([],15):=by
      cases hh:YR (mx look 0).toNat F left (r.drop (j + 1)) with
      | none=>exact h1 (by rw [hh];rfl)
      | some a=>
       have:=(h2 a hh).1
       rw [k1 a hh,if_pos hz] at this
       exact this rfl
     rw [hres]
     exact Ev.ite_pos (by clear hw;omega) (Ev.now _)
    ·obtain ⟨hj1,hj2⟩:=hjg (by clear hw;omega)
     refine Ev.ite_neg (by clear hw;omega) ?_
     have step:=ih (j + 1) (sets.set r[j].f1.toNat z) (more || decide ((zk sets r[j].f1).length < z.length)) (by clear hw;omega) (YX hS _ hj1 hj2) (by rw [List.length_set];exact hn) (fun h=>h1 (by rw [h];rfl)) (fun a ha=>by
      have:=h2 a ha
      rw [k1 a ha,if_neg hz] at this
      exact this)
     by_cases h3:(zk sets r[j].f1).length < z.length
     ·rw [decide_eq_true h3,Bool.or_true] at step
      exact Ev.ite_pos (by clear hw;omega) step
     ·rw [decide_eq_false h3,Bool.or_false] at step
      have he:=hge (Nat.not_lt.1 h3)
      have hse:sets.set r[j].f1.toNat z=sets:=by
       rw [←he,rd_at hp]
       exact List.set_getElem_self _
      rw [hse] at step
      exact Ev.ite_neg (by clear hw;omega) step
   ·rw [if_neg hx] at h1
    rw [h1 rfl]
    exact Ev.ite_neg hx (Ev.now _)
theorem rf_l3 (res:Sets × Int):∀(d i:Nat) (sets:Sets) (more:Bool),i + d=L.length→yk 600 sets→sets.length=of.length→
  (YL (mx look 0).toNat F (L.drop i)=none→res=([],15))→
  (∀a,YL (mx look 0).toNat F (L.drop i)=some a→((yi (mx look 0).toNat a sets more).2.2=false→res=([],15))∧((yi (mx look 0).toNat a sets more).2.2=true→Ev (fun k=>zK.l2 k F (yi (mx look 0).toNat a sets more).1 (yi (mx look 0).toNat a sets more).2.1 toks look of L) res))→
  Ev (fun k=>zK.l3 k F sets more i toks look of L) res:=by
 intro d
 induction d with
 | zero=>
  intro i sets more hi _ _ _ h2
  rw [List.drop_of_length_le (by omega)] at h2
  exact Ev.step (fun k=>by rw [zK.l3,if_neg (by omega)];rfl) ((h2 [] rfl).2 rfl)
 | succ d ih=>
  intro i sets more hi hS hn h1 h2
  have hlt:i < L.length:=by omega
  have hw:wrap64 ((i:Int) + 1)=((i + 1:Nat):Int):=by rw [ya (by omega)];rfl
  have hbp:yf toks of.length L[i]=false:=by
   cases hh:yf toks of.length L[i]
   ·rfl
   ·rw [List.any_eq_true.2 ⟨L[i],List.getElem_mem _,hh⟩] at hb;cases hb
  obtain ⟨hp,hr⟩:=Yc hbp
  have hll:=hl _ (List.getElem_mem hlt)
  rw [List.drop_eq_getElem_cons hlt] at h1 h2
  unfold YL at h1 h2
  refine Ev.step (fun k=>by rw [zK.l3,if_pos (by clear hw;omega),if_pos (by clear hw;omega),rdP hlt]) ?_
  refine rf_l4 toks look of hlook L hL hb hl hF hFn i L[i].f0 hp L[i].f1 hll hr res L[i].f1.length 0 sets more (by clear hw;omega) hS hn (fun h=>h1 ?_) (fun a ha=> ?_)
  ·rw [List.drop_zero] at h;rw [h];rfl
  ·rw [List.drop_zero] at ha
   have hag:=(qP (K_le hlook) hp L[i].f1 hr a ha).1
   obtain ⟨g1,g2,-,-⟩:=qI (K_le hlook) a sets more hag hS hn
   rw [ha,Option.bind_some] at h1
   replace h2:∀b,YL (mx look 0).toNat F (L.drop (i + 1))=some b→_:=fun b hb2=>h2 (a ++ b) (by rw [ha,Option.bind_some,hb2];rfl)
   refine ⟨fun hf=> ?_,fun ht=> ?_⟩
   ·cases hh:YL (mx look 0).toNat F (L.drop (i + 1)) with
    | none=>exact h1 (by rw [hh];rfl)
    | some b=>exact (h2 b hh).1 ((qR a b sets more).2 hf)
   ·rw [hw]
    refine ih (i + 1) _ _ (by clear hw;omega) g1 g2 (fun h=>h1 (by rw [h];rfl)) (fun b hb2=> ?_)
    have:=h2 b hb2
    rw [(qR a b sets more).1 ht] at this
    exact this
theorem rf_l2 (xs:List Lk) (hx:∀x ∈ xs,GoodL of.length x) (hxs:YL (mx look 0).toNat F L=some xs):∀(m:Nat) (sets:Sets),yk 600 sets→sets.length=of.length→600 * of.length - YU sets < m→
  Ev (fun k=>zK.l2 k F sets true toks look of L) (match Yy (mx look 0).toNat xs m sets with|none=>([],15)|some s=>(s,0)):=by
 intro m
 induction m with
 | zero=>intro sets _ _ h;omega
 | succ m ih=>
  intro sets hS hn hm
  obtain ⟨g1,g2,g3,g4⟩:=qI (K_le hlook) xs sets false hx hS hn
  have h3:=fun res=>rf_l3 toks look of hlook L hL hb hl hF hFn res L.length 0 sets false (by omega) hS hn
  simp only [List.drop_zero] at h3
  rw [hxs] at h3
  have h3':∀res,((yi (mx look 0).toNat xs sets false).2.2=false→res=([],15))→((yi (mx look 0).toNat xs sets false).2.2=true→Ev (fun k=>zK.l2 k F (yi (mx look 0).toNat xs sets false).1 (yi (mx look 0).toNat xs sets false).2.1 toks look of L) res)→Ev (fun k=>zK.l2 k F sets true toks look of L) res:=fun res a b=>
   Ev.step (fun k=>by rw [zK.l2,if_pos rfl];rfl) (h3 res (fun h=>by cases h) (fun c hc=>by obtain rfl:=Option.some.inj hc;exact ⟨a,b⟩))
  unfold Yy
  generalize yi (mx look 0).toNat xs sets false=x at g1 g2 g3 g4 h3'⊢
  by_cases h1:x.2.2=false
  ·rw [if_pos h1]
   exact h3' _ (fun _=>rfl) (fun h=>by rw [h1] at h;cases h)
  rw [if_neg h1]
  by_cases h2:x.2.1=false
  ·rw [if_pos h2]
   exact h3' _ (fun h=>absurd h h1) (fun _=>by rw [h2];exact Ev.step (fun k=>by rw [zK.l2,if_neg (by simp)]) (Ev.now _))
  rw [if_neg h2]
  have g5:=g4 rfl (by simpa using h2)
  have g6:=qr g1
  rw [g2] at g6
  have i2:=ih x.1 g1 g2 (by omega)
  exact h3' _ (fun h=>absurd h h1) (fun _=>by rw [show x.2.1=true by simpa using h2];exact i2)
theorem rf_none (hxs:YL (mx look 0).toNat F L=none) (sets:Sets) (hS:yk 600 sets) (hn:sets.length=of.length):Ev (fun k=>zK.l2 k F sets true toks look of L) ([],15):=by
 refine Ev.step (fun k=>by rw [zK.l2,if_pos rfl];rfl) (rf_l3 toks look of hlook L hL hb hl hF hFn ([],15) L.length 0 sets false (by omega) hS hn (fun _=>rfl) (fun a ha=> ?_))
 rw [List.drop_zero,hxs] at ha;cases ha
end
theorem zeroT_succ (n:Nat):qu n ++ (⟨#[0]⟩:ByteArray)=qu (n + 1):=by
 apply Yo
 rw [Yi]
 unfold qu
 simp only [List.toList_toArray]
 rw [List.replicate_succ']
theorem rf_l1 (toks look:Int) (hlook:1≤look∧look≤4) (of:List Int) (hof:1≤of.length) (L:List Prod') (F:Sets) (res:Sets × Int) (h:Ev (fun k=>zK.l2 k F (qD look of.length) true toks look of L) res):∀(d i:Nat),(i:Int) + d=look→Ev (fun k=>zK.l1 k F (List.replicate of.length []) (qu i) i toks look of L) res:=by
 intro d
 induction d with
 | zero=>
  intro i hi
  refine Ev.step (fun k=>by rw [zK.l1,if_neg (by omega),if_pos (by rw [List.length_replicate];omega)]) ?_
  have e:i=look.toNat:=by omega
  rw [e]
  exact h
 | succ d ih=>
  intro i hi
  have hw:wrap64 ((i:Int) + 1)=((i + 1:Nat):Int):=by rw [ya (by omega)];rfl
  have h2:=ih (i + 1) (by clear hw;omega)
  rw [←zeroT_succ] at h2
  exact Ev.step (fun k=>by rw [zK.l1,if_pos (by clear hw;omega),if_pos (by rw [zeroT_size];clear hw;omega),hw]) h2
theorem rf_l0 (toks look:Int) (hlook:1≤look∧look≤4) (of:List Int) (hof:1≤of.length∧of.length≤1000000) (L:List Prod') (F:Sets) (res:Sets × Int) (h:Ev (fun k=>zK.l2 k F (qD look of.length) true toks look of L) res):∀(d i:Nat),i + d=of.length→Ev (fun k=>zK.l0 k F (List.replicate i []) i toks look of L) res:=by
 intro d
 induction d with
 | zero=>
  intro i hi
  rw [show i=of.length by omega]
  have h1:=rf_l1 toks look hlook of hof.1 L F res h look.toNat 0 (by omega)
  exact Ev.step (fun k=>by rw [zK.l0,if_neg (by omega)];rfl) h1
 | succ d ih=>
  intro i hi
  have hw:wrap64 ((i:Int) + 1)=((i + 1:Nat):Int):=by rw [ya (by omega)];rfl
  have hi2:=ih (i + 1) (by clear hw;omega)
  rw [List.replicate_succ'] at hi2
  exact Ev.step (fun k=>by rw [zK.l0,if_pos (by clear hw;omega),if_pos (by rw [List.length_replicate];clear hw;omega),hw]) hi2
theorem rfollow_ev (toks look:Int) (of:List Int) (L:List Prod') (hl:∀p ∈ L,p.f1.length≤1000000) (hL:L.length≤1000000):Ev (fun k=>zK.f k toks look of L) (Zs toks look of.length L):=by
 have ho:=rof_ev toks look of L hl hL
 have hz:=Yd (toks:=toks) (look:=look) (of:=of) hl
 unfold zK.f Zs
 refine Ev.bind ho ?_
 generalize ofA toks look of.length L=X at hz⊢
 by_cases h0:X.2=0
 ·obtain ⟨hm,hS,hn⟩:=hz h0
  obtain ⟨h1,h2,h3,h4⟩:=YC hm
  obtain ⟨i1,i2⟩:=ql h3 of.length
  rw [if_pos h0]
  refine Ev.ite_pos h0 ?_
  cases hh:YL (mx look 0).toNat X.1 L with
  | none=>exact rf_l0 toks look h3 of (by omega) L X.1 _ (rf_none toks look of h3 L (by omega) h4 hl hS hn hh _ i1 i2) of.length 0 (by omega)
  | some xs=>
   obtain ⟨g1,-⟩:=qQ (K_le h3) L (n:=of.length) h4 hl xs hh
   exact rf_l0 toks look h3 of (by omega) L X.1 _ (rf_l2 toks look of h3 L (by omega) h4 hl hS hn xs g1 hh (600 * of.length + 1) (qD look of.length) i1 i2 (by omega)) of.length 0 (by omega)
 ·rw [if_neg h0]
  exact Ev.ite_neg h0 (Ev.now _)
theorem qv (toks look:Int) (of:List Int) (L:List Prod') (hl:∀p ∈ L,p.f1.length≤1000000):((Zs toks look of.length L).2=0→mayE toks look of.length L=0∧yk 600 (Zs toks look of.length L).1∧(Zs toks look of.length L).1.length=of.length)∧((Zs toks look of.length L).2≠0→(Zs toks look of.length L).1= []):=by
 have hz:=Yd (toks:=toks) (look:=look) (of:=of) hl
 unfold Zs
 generalize ofA toks look of.length L=X at hz⊢
 by_cases h0:X.2=0
 ·obtain ⟨hm,hS,hn⟩:=hz h0
  obtain ⟨h1,h2,h3,h4⟩:=YC hm
  obtain ⟨i1,i2⟩:=ql h3 of.length
  rw [if_pos h0]
  cases hh:YL (mx look 0).toNat X.1 L with
  | none=>exact ⟨fun h=>(by cases h),fun _=>rfl⟩
  | some xs=>
   obtain ⟨g1,-⟩:=qQ (K_le h3) L (n:=of.length) h4 hl xs hh
   obtain ⟨-,hG⟩:=floop_ev look of h3 xs g1 (600 * of.length + 1) (qD look of.length) i1 i2 (by omega)
   dsimp only
   cases hs:Yy (mx look 0).toNat xs (600 * of.length + 1) (qD look of.length) with
   | none=>exact ⟨fun h=>(by cases h),fun _=>rfl⟩
   | some s=>exact ⟨fun _=>⟨hm,hG s hs⟩,fun h=>absurd rfl h⟩
 ·rw [if_neg h0]
  exact ⟨fun h=>absurd h h0,fun _=>rfl⟩
theorem rin_l0 (l:List ByteArray) (t:ByteArray) (hr:Zx (yP l)) (hl:l.length≤1000000000000):∀(d lo hi:Nat),hi - lo=d→lo≤lower (yP l) t.data.toList→lower (yP l) t.data.toList≤hi→hi≤l.length→
  Ev (fun k=>yJ.l0 k l t lo hi) (decide (t ∈ l)):=by
 have hk:=ZC l
 intro d
 induction d using Nat.strongRecOn with
 | _ d ih=>
  intro lo hi hd h1 h2 h3
  by_cases hlt:lo < hi
  ·have hm:wrap64 (Int.tdiv (wrap64 ((lo:Int) + (hi:Int))) 2)=(((lo + hi) / 2:Nat):Int):=(rmid_eq lo hi l.length h3 hl).resolve_right (fun h=>h (Nat.le_of_lt hlt))
   obtain ⟨m,hme⟩:∃m,m=(lo + hi) / 2:=⟨_,rfl⟩
   have hm1:lo≤m∧m < hi:=by clear hm;omega
   rw [←hme] at hm
   have hw:wrap64 ((m:Int) + 1)=((m + 1:Nat):Int):=by clear hm;rw [ya (by omega)];rfl
   have q1:(lo:Int) < (hi:Int):=by clear hm hw;omega
   have q2:(0:Int)≤(m:Int):=Int.natCast_nonneg m
   have q3:m < l.length:=by clear hm hw;omega
   have q4:(m:Int) < (l.length:Int):=Int.ofNat_lt.2 q3
   refine Ev.step (fun k=>by rw [yJ.l0,if_pos q1,hm,hw,if_pos q2,if_pos q4,Zw q3]) ?_
   have hi':=YI hr t.data.toList m (by clear hm hw;omega)
   rw [qH q3] at hi'
   by_cases hc:l[m].data.toList < t.data.toList
   ·refine Ev.ite_pos ((qY _ _).2 hc) ?_
    exact ih (hi - (m + 1)) (by clear hm hw;omega) (m + 1) hi rfl (by have:=hi'.1 hc;clear hm hw;omega) h2 h3
   ·refine Ev.ite_neg (fun h=>hc ((qY _ _).1 h)) ?_
    exact ih (m - lo) (by clear hm hw;omega) lo m rfl h1 (by have:¬m < lower (yP l) t.data.toList:=fun h=>hc (hi'.2 h);clear hm hw;omega) (by clear hm hw;omega)
  ·have e:lo=lower (yP l) t.data.toList:=by omega
   have hmem:t ∈ l↔(yP l)[lo]? =some t.data.toList:=by
    rw [←Yb]
    constructor
    ·intro hm
     obtain ⟨j,hj,hje⟩:=List.getElem_of_mem hm
     have a1:¬j < lower (yP l) t.data.toList:=fun h=>by
      have:=(YI hr _ j hj).2 h
      rw [hje] at this;exact YN _ this
     have a2:¬lower (yP l) t.data.toList < j:=fun h=>by
      have h4:=List.pairwise_iff_getElem.1 hr _ _ (by omega) hj h
      rw [hje] at h4
      have:=(YI hr _ _ (by omega)).1 h4
      omega
     have:j=lo:=by omega
     rw [←this,List.getElem?_eq_getElem hj,hje]
    ·exact fun h=>List.mem_of_getElem? h
   by_cases hend:lo < l.length
   ·have hg:(yP l)[lo]? =some (l[lo].data.toList):=by
     rw [List.getElem?_eq_getElem (by omega),qH hend]
    have e2:decide (t ∈ l)=(l[lo].toList == t.toList):=by
     rw [Bool.eq_iff_iff,decide_eq_true_iff,beq_iff_eq,hmem,hg,Lib.toList_data,Lib.toList_data]
     exact ⟨fun h=>Option.some.inj h,fun h=>by rw [h]⟩
    rw [e2]
    exact Ev.step (fun k=>by rw [yJ.l0,if_neg (by omega),if_pos (by omega),if_pos (by omega),Zw hend]) (Ev.now _)
   ·rw [decide_eq_false (fun h=>by have:=hmem.1 h;rw [List.getElem?_eq_none (by omega)] at this;cases this)]
    exact Ev.step (fun k=>by rw [yJ.l0,if_neg (by omega),if_neg (by omega)]) (Ev.now _)
theorem rin_ev (l:List ByteArray) (t:ByteArray) (hs:setT l=l) (hl:l.length≤1000000000000):Ev (fun k=>yJ.f k l t) (decide (t ∈ l)):=by
 have hr:Zx (yP l):=by rw [←hs,YH];exact (ym _).1
 unfold yJ.f
 have h:=qp (yP l) t.data.toList
 rw [ZC] at h
 exact rin_l0 l t hr hl _ 0 l.length rfl (Nat.zero_le _) h (Nat.le_refl _)
theorem rd_natS {X:Sets} {i:Nat} (h:i < X.length):zk X (i:Int)=X[i]:=rd_at ⟨by omega,by omega⟩
def gRow (K:Nat) (F:Sets) (p:Prod'):List ByteArray:=(rowG (catA K) 600 F p.f1 [(⟨#[]⟩:ByteArray)]).1
def gCat (K:Nat) (F B:Sets) (p:Prod'):List ByteArray:=catA K (gRow K F p) (zk B p.f0)
def gAll (K:Nat) (F B:Sets):List Prod'→Option Sets
 | []=>some []
 | p :: ps=>if 600 < (gCat K F B p).length then none else (gAll K F B ps).map fun g=>gCat K F B p :: g
def outG (X:Sets):Option Sets→Sets × Int
 | none=>([],15)
 | some g=>(X ++ g,0)
theorem outG_cons (X:Sets) (c:List ByteArray) (o:Option Sets):outG X (o.map fun g=>c :: g)=outG (X ++ [c]) o:=by
 cases o with
 | none=>rfl
 | some g=>show (X ++ c :: g,(0:Int))=(X ++ [c] ++ g,0);rw [List.append_assoc];rfl
def YD (toks look:Int) (n:Nat) (L:List Prod'):Sets × Int:=
 if (ofA toks look n L).2=0 then (if (Zs toks look n L).2=0 then outG [] (gAll (mx look 0).toNat (ofA toks look n L).1 (Zs toks look n L).1 L) else ([],(Zs toks look n L).2)) else ([],(ofA toks look n L).2)
theorem set_take {X:Sets} {i:Nat} (h:i < X.length) (t:List ByteArray):(X.set i t).take (i + 1)=X.take i ++ [t]:=by
 rw [List.take_succ_eq_append_getElem (by rw [List.length_set];exact h),List.take_set_of_le (Nat.le_refl _),List.getElem_set_self]
theorem prod_of {toks:Int} {n:Nat} {L:List Prod'} (hb:L.any (yf toks n)=false) {i:Nat} (hi:i < L.length):(0≤L[i].f0∧L[i].f0 < (n:Int))∧L[i].f1.any (yt toks n)=false:=by
 refine Yc ?_
 cases hh:yf toks n L[i]
 ·rfl
 ·rw [List.any_eq_true.2 ⟨L[i],List.getElem_mem _,hh⟩] at hb;cases hb
section
variable (toks look : Int) (hlook : 1 ≤ look ∧ look ≤ 4) (of : List Int)
include hlook
theorem rows_l1 {F:Sets} (hS:yk 600 F) (L:List Prod') (hL:L.length≤1000000) (i:Nat) (hi:i < L.length) (hr:L[i].f1.length≤1000000) (hb:L[i].f1.any (yt toks F.length)=false) (X:Sets) (hX:X.length=L.length) (res:Sets):∀(d j:Nat) (out:List ByteArray),j + d=L[i].f1.length→YO 600 out→
  (rowG (catA (mx look 0).toNat) 600 F (L[i].f1.drop j) out).2=true→Ev (fun k=>yC.l0 k F (X.set i (rowG (catA (mx look 0).toNat) 600 F (L[i].f1.drop j) out).1) L L.length ((i + 1:Nat):Int) toks look of L) res→
  Ev (fun k=>yC.l1 k F (X.set i out) i L L.length i L[i].f1 L[i].f1.length j toks look of L) res:=by
 intro d
 induction d with
 | zero=>
  intro j out hj _ _ h
  have hw1:wrap64 ((i:Int) + 1)=((i + 1:Nat):Int):=by rw [ya (by omega)];rfl
  rw [List.drop_of_length_le (by clear hw1;omega)] at h
  exact Ev.step (fun k=>by rw [yC.l1,if_neg (by clear hw1;omega),hw1];rfl) h
 | succ d ih=>
  intro j out hj ho hok h
  have hlt:j < L[i].f1.length:=by omega
  have hw:wrap64 ((j:Int) + 1)=((j + 1:Nat):Int):=by rw [ya (by omega)];rfl
  have hbs:yt toks F.length L[i].f1[j]=false:=by
   cases hh:yt toks F.length L[i].f1[j]
   ·rfl
   ·rw [List.any_eq_true.2 ⟨L[i].f1[j],List.getElem_mem _,hh⟩] at hb;cases hb
  obtain ⟨hg,hn⟩:=qq (M:=600) (by clear hw;omega) hS hbs
  have hc:=qt hlook out _ ho hg
  rw [List.drop_eq_getElem_cons hlt] at hok h
  unfold rowG at hok h
  have hsz:=Zo (K_le hlook) out (if L[i].f1[j].f0=true then [strOfNums [L[i].f1[j].f1 % 256]] else zk F L[i].f1[j].f1)
  generalize hC:catA (mx look 0).toNat out (if L[i].f1[j].f0=true then [strOfNums [L[i].f1[j].f1 % 256]] else zk F L[i].f1[j].f1)=C at hok h hc hsz
  by_cases h6:600 < C.length
  ·rw [if_pos h6] at hok;cases hok
  rw [if_neg h6] at hok h
  have hgo:=ih (j + 1) C (by clear hw;omega) ⟨by clear hw;omega,hsz⟩ hok h
  have hset:(X.set i out).set ((i:Nat):Int).toNat C=X.set i C:=by rw [Int.toNat_natCast,List.set_set]
  have hrd:zk (X.set i out) (i:Int)=out:=by rw [rd_natS (by rw [List.length_set];clear hw;omega)];exact List.getElem_set_self ..
  have hlx:(i:Int) < ((X.set i out).length:Int):=by rw [List.length_set];clear hw;omega
  refine Ev.step (fun k=>by rw [yC.l1,if_pos (by clear hw;omega),if_pos (by clear hw;omega),if_pos (by clear hw;omega),rdS hlt,hw,hrd]) ?_
  cases h0:L[i].f1[j].f0
  ·simp only [h0] at hc
   simp only [if_neg Bool.false_ne_true] at hc
   obtain ⟨h1,h2⟩:=hn h0
   refine Ev.ite_neg (by simp) (Ev.ite_pos h1 (Ev.ite_pos h2 (Ev.ite_pos (by clear hw;omega) (Ev.ite_pos hlx (Ev.bind hc ?_)))))
   rw [hset];exact hgo
  ·simp only [h0] at hc
   simp only [if_true] at hc
   refine Ev.ite_pos rfl (Ev.ite_pos (by clear hw;omega) (Ev.ite_pos hlx (Ev.bind hc ?_)))
   rw [hset];exact hgo
theorem rows_l0 {F:Sets} (hS:yk 600 F) (L:List Prod') (hL:L.length≤1000000) (hb:L.any (yf toks F.length)=false) (hl:∀p ∈ L,p.f1.length≤1000000) (hF:Fix (catA (mx look 0).toNat) 600 L F):∀(d i:Nat) (X:Sets),i + d=L.length→X.length=L.length→
  Ev (fun k=>yC.l0 k F X L L.length i toks look of L) (X.take i ++ (L.drop i).map (gRow (mx look 0).toNat F)):=by
 intro d
 induction d with
 | zero=>
  intro i X hi hX
  rw [List.drop_of_length_le (by omega),List.map_nil,List.append_nil,List.take_of_length_le (by omega)]
  exact Ev.step (fun k=>by rw [yC.l0,if_neg (by omega)]) (Ev.now _)
 | succ d ih=>
  intro i X hi hX
  have hlt:i < L.length:=by omega
  obtain ⟨-,hr⟩:=prod_of hb hlt
  have hfx:=(hF L[i] (List.getElem_mem hlt)).1
  have h:=ih (i + 1) (X.set i (gRow (mx look 0).toNat F L[i])) (by omega) (by rw [List.length_set];exact hX)
  rw [set_take (by omega)] at h
  rw [List.drop_eq_getElem_cons hlt,List.map_cons]
  have h1:=rows_l1 toks look hlook of hS L hL i hlt (hl _ (List.getElem_mem hlt)) hr X hX _ L[i].f1.length 0 [(⟨#[]⟩:ByteArray)] (by omega) (ZX (M:=600) (by omega)) (by rw [List.drop_zero];exact hfx) (by rw [List.drop_zero];exact h)
  refine Ev.step (fun k=>by rw [yC.l0,if_pos (by omega),if_pos (by omega),if_pos (by omega),if_pos (by omega),rdP hlt]) ?_
  rw [Int.toNat_natCast,show X.take i ++ gRow (mx look 0).toNat F L[i] :: (L.drop (i + 1)).map (gRow (mx look 0).toNat F)=X.take i ++ [gRow (mx look 0).toNat F L[i]] ++ (L.drop (i + 1)).map (gRow (mx look 0).toNat F) from by simp]
  exact h1
theorem rguess_l0 {F B:Sets} (hS:yk 600 F) (hB:yk 600 B) (hBl:B.length=F.length) (L:List Prod') (hL:L.length≤1000000) (hb:L.any (yf toks F.length)=false) (hl:∀p ∈ L,p.f1.length≤1000000):∀(d i:Nat) (acc:Sets),i + d=L.length→acc.length=i→
  Ev (fun k=>zm.l0 k F B acc i toks look of L) (outG acc (gAll (mx look 0).toNat F B (L.drop i))):=by
 intro d
 induction d with
 | zero=>
  intro i acc hi ha
  rw [List.drop_of_length_le (by omega)]
  show Ev _ ((acc ++ [],0):Sets × Int)
  rw [List.append_nil]
  exact Ev.step (fun k=>by rw [zm.l0,if_neg (by omega)]) (Ev.now _)
 | succ d ih=>
  intro i acc hi ha
  have hlt:i < L.length:=by omega
  have hw:wrap64 ((i:Int) + 1)=((i + 1:Nat):Int):=by rw [ya (by omega)];rfl
  obtain ⟨hp,hr⟩:=prod_of hb hlt
  have hll:=hl _ (List.getElem_mem hlt)
  have hp2:0≤L[i].f0∧L[i].f0 < (B.length:Int):=by rw [hBl];exact hp
  have hrow:=rrow_ev toks look hlook hS L[i].f1 (by clear hw;omega) hr L[i].f1.length 0 _ (by clear hw;omega) (ZX (M:=600) (by clear hw;omega))
  rw [List.drop_zero] at hrow
  have hrow':Ev (fun k=>zf.f k L[i].f1 look F 600) (rowG (catA (mx look 0).toNat) 600 F L[i].f1 [(⟨#[]⟩:ByteArray)]):=by unfold zf.f;exact hrow
  have hc:=rcatG_ev hlook (a:=gRow (mx look 0).toNat F L[i]) (YW (M:=600) (Zo (K_le hlook)) F L[i].f1 _ (ZX (M:=600) (by clear hw;omega))) (hB _ (Zr hp2)).1
  have h:=ih (i + 1) (acc ++ [gCat (mx look 0).toNat F B L[i]]) (by clear hw;omega) (by rw [List.length_append];simp;exact ha)
  rw [List.drop_eq_getElem_cons hlt]
  unfold gAll
  refine Ev.step (fun k=>by rw [zm.l0,if_pos (by clear hw;omega),if_pos (by clear hw;omega),rdP hlt,hw]) (Ev.bind hrow' (Ev.ite_pos hp2.1 (Ev.ite_pos hp2.2 (Ev.bind hc ?_))))
  by_cases h6:600 < (gCat (mx look 0).toNat F B L[i]).length
  ·rw [if_pos h6]
   exact Ev.ite_pos (by clear hw;show (((gCat (mx look 0).toNat F B L[i]).length:Nat):Int) > 600;omega) (Ev.now _)
  ·rw [if_neg h6]
   refine Ev.ite_neg (by clear hw;show ¬(((gCat (mx look 0).toNat F B L[i]).length:Nat):Int) > 600;omega) (Ev.ite_pos (by clear hw;omega) ?_)
   rw [outG_cons];exact h
theorem guess_l0 {F B:Sets} (hS:yk 600 F) (hB:yk 600 B) (hBl:B.length=F.length) (L:List Prod') (hL:L.length≤1000000) (hb:L.any (yf toks F.length)=false):∀(d i:Nat) (X:Sets),i + d=L.length→X.length=L.length→X.drop i=(L.drop i).map (gRow (mx look 0).toNat F)→
  Ev (fun k=>yW.l0 k B 0 X L L.length i toks look of L) (outG (X.take i) (gAll (mx look 0).toNat F B (L.drop i))):=by
 intro d
 induction d with
 | zero=>
  intro i X hi hX _
  rw [List.drop_of_length_le (by omega)]
  show Ev _ ((X.take i ++ [],0):Sets × Int)
  rw [List.append_nil,List.take_of_length_le (by omega)]
  exact Ev.step (fun k=>by rw [yW.l0,if_neg (by omega)]) (Ev.now _)
 | succ d ih=>
  intro i X hi hX hd
  have hlt:i < L.length:=by omega
  have hw:wrap64 ((i:Int) + 1)=((i + 1:Nat):Int):=by rw [ya (by omega)];rfl
  obtain ⟨hp,hr⟩:=prod_of hb hlt
  have hp2:0≤L[i].f0∧L[i].f0 < (B.length:Int):=by rw [hBl];exact hp
  have hxi:X[i]'(by clear hw;omega)=gRow (mx look 0).toNat F L[i]:=by
   have e:=congrArg List.head? hd
   rw [List.drop_eq_getElem_cons (by clear hw;omega),List.drop_eq_getElem_cons hlt,List.map_cons,List.head?_cons,List.head?_cons] at e
   exact Option.some.inj e
  have hc:=qt hlook (gRow (mx look 0).toNat F L[i]) (zk B L[i].f0) (YW (M:=600) (Zo (K_le hlook)) F _ _ (ZX (M:=600) (by clear hw;omega))) (hB _ (Zr hp2)).1
  have h:=ih (i + 1) (X.set i (gCat (mx look 0).toNat F B L[i])) (by clear hw;omega) (by rw [List.length_set];exact hX) (by
   rw [List.drop_set_of_lt (by clear hw;omega)]
   have e:=congrArg List.tail hd
   rw [List.drop_eq_getElem_cons (by clear hw;omega),List.drop_eq_getElem_cons hlt,List.map_cons,List.tail_cons,List.tail_cons] at e
   exact e)
  rw [set_take (by clear hw;omega)] at h
  rw [List.drop_eq_getElem_cons hlt]
  unfold gAll
  refine Ev.step (fun k=>by rw [yW.l0,if_pos (by clear hw;omega),if_pos (by clear hw;omega),if_pos (by clear hw;omega),if_pos (by clear hw;omega),rdP hlt,if_pos hp2.1,if_pos hp2.2,rd_natS (by clear hw;omega),hxi,hw,Int.toNat_natCast]) (Ev.bind hc ?_)
  by_cases h6:600 < (gCat (mx look 0).toNat F B L[i]).length
  ·rw [if_pos h6]
   exact Ev.ite_pos (by clear hw;show (((gCat (mx look 0).toNat F B L[i]).length:Nat):Int) > 600;omega) (Ev.now _)
  ·rw [if_neg h6]
   refine Ev.ite_neg (by clear hw;show ¬(((gCat (mx look 0).toNat F B L[i]).length:Nat):Int) > 600;omega) ?_
   rw [outG_cons];exact h
end
theorem of_fix {toks look:Int} {of:List Int} {L:List Prod'} (hl:∀p ∈ L,p.f1.length≤1000000) (h:(ofA toks look of.length L).2=0):Fix (catA (mx look 0).toNat) 600 L (ofA toks look of.length L).1:=by
 have hz:=Yd (toks:=toks) (look:=look) (of:=of) hl h
 obtain ⟨h1,h2,h3,h4⟩:=YC hz.1
 unfold ofA at h⊢
 rw [if_pos hz.1] at h⊢
 cases hh:Yh (catA (mx look 0).toNat) 600 L (600 * of.length + 1) (List.replicate of.length []) with
 | none=>rw [hh] at h;cases h
 | some s=>exact (loopG_fix (Zo (K_le h3)) (by omega) h4 _ _ _ (Yk 600 of.length) (List.length_replicate ..) hh).1
theorem guess_ev (toks look:Int) (of:List Int) (L:List Prod') (hl4:∀p ∈ L,p.f1.length≤400000) (hL:L.length≤1000000):Ev (fun k=>yW.f k toks look of L) (YD toks look of.length L):=by
 have hl:∀p ∈ L,p.f1.length≤1000000:=fun p hp=>Nat.le_trans (hl4 p hp) (by omega)
 have o1:=of_ev toks look of L hl hL
 have o2:=follow_ev toks look of L hl4 hL
 have hz:=Yd (toks:=toks) (look:=look) (of:=of) hl
 have hfx:=of_fix (toks:=toks) (look:=look) (of:=of) hl
 obtain ⟨hg,-⟩:=qv toks look of L hl
 have he:(ofA toks look of.length L).2≠0→Zs toks look of.length L=([],(ofA toks look of.length L).2):=fun h=>by unfold Zs;rw [if_neg h]
 unfold yW.f YD
 generalize ofA toks look of.length L=X at hz o1 he hfx⊢
 generalize Zs toks look of.length L=Y at hg o2 he⊢
 by_cases h0:X.2=0
 ·obtain ⟨hm,hS,hn⟩:=hz h0
  obtain ⟨h1,h2,h3,h4⟩:=YC hm
  rw [if_pos h0]
  by_cases h5:Y.2=0
  ·obtain ⟨-,hB,hBn⟩:=hg h5
   rw [if_pos h5]
   rw [←hn] at h4
   have r1:=rows_l0 toks look h3 of hS L hL h4 hl (hfx h0) L.length 0 (List.replicate L.length []) (by omega) (List.length_replicate ..)
   rw [List.take_zero,List.nil_append,List.drop_zero] at r1
   have r2:=guess_l0 toks look h3 of hS hB (by rw [hn,hBn]) L hL h4 L.length 0 (L.map (gRow (mx look 0).toNat X.1)) (by omega) (List.length_map ..) (by rw [List.drop_zero,List.drop_zero])
   rw [List.drop_zero] at r2
   refine Ev.bind o2 (Ev.ite_pos h5 (Ev.bind o1 (Ev.ite_pos h0 (Ev.bind (by
    unfold yC.f
    exact Ev.ite_pos (by omega) (Ev.ite_pos (by omega) (by rw [Int.toNat_natCast];exact r1))) ?_))))
   rw [h0]
   exact r2
  ·rw [if_neg h5]
   exact Ev.bind o2 (Ev.ite_neg h5 (Ev.now _))
 ·rw [if_neg h0,←he h0]
  refine Ev.bind o2 (Ev.ite_neg (by rw [he h0];exact h0) ?_)
  rw [he h0];exact Ev.now _
theorem rguess_ev (toks look:Int) (of:List Int) (L:List Prod') (hl:∀p ∈ L,p.f1.length≤1000000) (hL:L.length≤1000000):Ev (fun k=>zm.f k toks look of L) (YD toks look of.length L):=by
 have o1:=rof_ev toks look of L hl hL
 have o2:=rfollow_ev toks look of L hl hL
 have hz:=Yd (toks:=toks) (look:=look) (of:=of) hl
 obtain ⟨hg,-⟩:=qv toks look of L hl
 unfold zm.f YD
 generalize ofA toks look of.length L=X at hz o1⊢
 generalize Zs toks look of.length L=Y at hg o2⊢
 refine Ev.bind o1 ?_
 by_cases h0:X.2=0
 ·obtain ⟨hm,hS,hn⟩:=hz h0
  obtain ⟨h1,h2,h3,h4⟩:=YC hm
  rw [if_pos h0]
  refine Ev.ite_pos h0 (Ev.bind o2 ?_)
  by_cases h5:Y.2=0
  ·obtain ⟨-,hB,hBn⟩:=hg h5
   rw [if_pos h5]
   rw [←hn] at h4
   have r2:=rguess_l0 toks look h3 of hS hB (by rw [hn,hBn]) L hL h4 hl L.length 0 [] (by omega) rfl
   rw [List.drop_zero] at r2
   exact Ev.ite_pos h5 r2
  ·rw [if_neg h5]
   exact Ev.ite_neg h5 (Ev.now _)
 ·rw [if_neg h0]
  exact Ev.ite_neg h0 (Ev.now _)
theorem gAll_good {K:Nat} (hK:K≤4) {F B:Sets} :∀(L:List Prod') (g:Sets),gAll K F B L=some g→yk 600 g∧g.length=L.length:=by
 intro L
 induction L with
 | nil=>intro g h;obtain rfl:=Option.some.inj h;exact ⟨fun a ha=>(nomatch ha),rfl⟩
 | cons p ps ih=>
  intro g h
  unfold gAll at h
  by_cases h6:600 < (gCat K F B p).length
  ·rw [if_pos h6] at h;cases h
  rw [if_neg h6] at h
  obtain ⟨g2,hg2,rfl⟩:=Option.map_eq_some_iff.1 h
  obtain ⟨i1,i2⟩:=ih g2 hg2
  refine ⟨fun a ha=> ?_,by rw [List.length_cons,i2,List.length_cons]⟩
  rcases List.mem_cons.1 ha with rfl|ha
  ·refine ⟨⟨by omega,fun x hx=>Zo hK _ _ x hx⟩,?_⟩
   unfold gCat catA
   rw [Zv,qZ]
  ·exact i1 a ha
theorem qS (toks look:Int) (of:List Int) (L:List Prod') (hl:∀p ∈ L,p.f1.length≤1000000):((YD toks look of.length L).2=0→mayE toks look of.length L=0∧yk 600 (YD toks look of.length L).1∧(YD toks look of.length L).1.length=L.length)∧((YD toks look of.length L).2≠0→(YD toks look of.length L).1= []):=by
 have hz:=Yd (toks:=toks) (look:=look) (of:=of) hl
 unfold YD
 generalize ofA toks look of.length L=X at hz⊢
 generalize Zs toks look of.length L=Y
 by_cases h0:X.2=0
 ·obtain ⟨hm,hS,hn⟩:=hz h0
  obtain ⟨h1,h2,h3,h4⟩:=YC hm
  rw [if_pos h0]
  by_cases h5:Y.2=0
  ·rw [if_pos h5]
   cases hg:gAll (mx look 0).toNat X.1 Y.1 L with
   | none=>exact ⟨fun h=>(by cases h),fun _=>rfl⟩
   | some g=>
    obtain ⟨g1,g2⟩:=gAll_good (K_le h3) L g hg
    exact ⟨fun _=>⟨hm,g1,g2⟩,fun h=>absurd rfl h⟩
  ·rw [if_neg h5];exact ⟨fun h=>absurd h h5,fun _=>rfl⟩
 ·rw [if_neg h0];exact ⟨fun h=>absurd h h0,fun _=>rfl⟩
def Zt (n:Int):List Prod'→Nat→List Int
 | [],_=> []
 | p :: ps,i=>if p.f0=n then (i:Int) :: Zt n ps (i + 1) else Zt n ps (i + 1)
theorem prodsA_in (n:Int):∀(L:List Prod') (i:Nat),(∀x ∈ Zt n L i,(i:Int)≤x∧x < ((i + L.length:Nat):Int))∧(Zt n L i).length≤L.length:=by
 intro L
 induction L with
 | nil=>intro i;exact ⟨fun x hx=>(nomatch hx),Nat.le_refl _⟩
 | cons p ps ih=>
  intro i
  obtain ⟨i1,i2⟩:=ih (i + 1)
  unfold Zt
  split
  ·refine ⟨fun x hx=> ?_,by simp;exact i2⟩
   rcases List.mem_cons.1 hx with rfl|hx
   ·simp;omega
   ·have:=i1 x hx;simp;omega
  ·exact ⟨fun x hx=>by have:=i1 x hx;simp;omega,by simp;omega⟩
theorem prods_l0 (n:Int) (L:List Prod') (hL:L.length≤1000000):∀(d i:Nat) (acc:List Int),i + d=L.length→acc.length≤i→Ev (fun k=>yc.l0 k n acc L L.length i) (acc ++ Zt n (L.drop i) i):=by
 intro d
 induction d with
 | zero=>
  intro i acc hi _
  rw [List.drop_of_length_le (by omega),show Zt n [] i= [] from rfl,List.append_nil]
  exact Ev.step (fun k=>by rw [yc.l0,if_neg (by omega)]) (Ev.now _)
 | succ d ih=>
  intro i acc hi ha
  have hlt:i < L.length:=by omega
  have hw:wrap64 ((i:Int) + 1)=((i + 1:Nat):Int):=by rw [ya (by omega)];rfl
  rw [List.drop_eq_getElem_cons hlt]
  unfold Zt
  refine Ev.step (fun k=>by rw [yc.l0,if_pos (by clear hw;omega),if_pos (by clear hw;omega),if_pos (by clear hw;omega),rdP hlt,hw]) ?_
  by_cases c:L[i].f0=n
  ·rw [if_pos c]
   have h:=ih (i + 1) (acc ++ [(i:Int)]) (by clear hw;omega) (by rw [List.length_append];simp;clear hw;omega)
   rw [List.append_assoc] at h
   exact Ev.ite_pos c (Ev.ite_pos (by clear hw;omega) h)
  ·rw [if_neg c]
   exact Ev.ite_neg c (ih (i + 1) acc (by clear hw;omega) (by clear hw;omega))
theorem prods_ev (toks look:Int) (of:List Int) (L:List Prod') (n:Int) (hl:∀p ∈ L,p.f1.length≤1000000) (hL:L.length≤1000000) (hm0:mayE toks look of.length L=0):Ev (fun k=>yc.f k toks look of L n) (Zt n L 0):=by
 have hm:=may_ev toks look of L (by omega) (fun p hp=>by have:=hl p hp;omega)
 rw [hm0] at hm
 have h:=prods_l0 n L hL L.length 0 [] (by omega) (Nat.le_refl _)
 rw [List.drop_zero,List.nil_append] at h
 unfold yc.f
 exact Ev.bind hm (Ev.ite_pos rfl h)
def pickA (g:Sets) (t:ByteArray) (ps:List Int):Int:=zU.first (ps.map fun p=>decide (t ∈ zk g p)) 0
theorem hass_ev (g:Sets) (hg:yk 600 g) (t:ByteArray):∀ps:List Int,(∀p ∈ ps,0≤p∧p < (g.length:Int))→Ev (fun k=>zU.hass k g t ps) (ps.map fun p=>decide (t ∈ zk g p)):=by
 intro ps
 induction ps with
 | nil=>intro _;exact Ev.now _
 | cons p ps ih=>
  intro h
  have h1:=has_dec (zk g p) t (by have:=(hg _ (Zr (h p List.mem_cons_self))).1.1;omega)
  refine Ev.congr (fun k=>by rw [zU.hass]) (Ev.bind h1 ?_)
  exact Ev.bind (f:=fun _ bs=>some (decide (t ∈ zk g p) :: bs)) (ih fun q hq=>h q (List.mem_cons_of_mem _ hq)) (Ev.now _)
def pickR (toks look:Int) (n:Nat) (L:List Prod') (m:Int) (t:ByteArray):Int × Int:=
 if (YD toks look n L).2=0 then (if m < 0∨(n:Int)≤m then (0,3) else (pickA (YD toks look n L).1 t (Zt m L 0),0)) else (0,(YD toks look n L).2)
theorem pick_ev (toks look:Int) (of:List Int) (L:List Prod') (m:Int) (t:ByteArray) (hl4:∀p ∈ L,p.f1.length≤400000) (hL:L.length≤1000000):Ev (fun k=>zU.f k toks look of L m t) (pickR toks look of.length L m t):=by
 have hl:∀p ∈ L,p.f1.length≤1000000:=fun p hp=>Nat.le_trans (hl4 p hp) (by omega)
 have o1:=guess_ev toks look of L hl4 hL
 obtain ⟨hg,-⟩:=qS toks look of L hl
 unfold zU.f pickR
 generalize YD toks look of.length L=X at o1 hg⊢
 refine Ev.bind o1 ?_
 by_cases h0:X.2=0
 ·obtain ⟨hm,hS,hn⟩:=hg h0
  rw [if_pos h0]
  refine Ev.ite_pos h0 ?_
  by_cases h1:m < 0∨(of.length:Int)≤m
  ·rw [if_pos h1];exact Ev.ite_pos h1 (Ev.now _)
  ·rw [if_neg h1]
   obtain ⟨p1,p2⟩:=prodsA_in m L 0
   have hin:∀p ∈ Zt m L 0,0≤p∧p < (X.1.length:Int):=fun p hp=>by have:=p1 p hp;rw [hn];omega
   exact Ev.ite_neg h1 (Ev.bind (prods_ev toks look of L m hl hL hm) (Ev.ite_pos ⟨by omega,hin⟩ (Ev.bind (hass_ev X.1 hS t _ hin) (Ev.now _))))
 ·rw [if_neg h0];exact Ev.ite_neg h0 (Ev.now _)
def Yu:List Prod':= [⟨0,[⟨true,1⟩]⟩,⟨0,[]⟩]
theorem qw:YD 1 1 1 Yu=([[⟨#[1]⟩],[⟨#[0]⟩]],0):=by kernel_rfl
theorem sample_pick:pickR 1 1 1 Yu 0 ⟨#[0]⟩=(1,0):=by
 unfold pickR
 rw [qw]
 kernel_rfl
theorem qT:Ev (fun k=>yY.f k) true:=by
 unfold yY.f yR.f
 have hl:∀p ∈ Yu,p.f1.length≤400000:=fun p hp=>by
  unfold Yu at hp
  rcases List.mem_cons.1 hp with rfl|hp
  ·simp
  ·rw [List.mem_singleton.1 hp];simp
 have h:=guess_ev 1 1 [-1] Yu hl (by unfold Yu;simp)
 have hp:=pick_ev 1 1 [-1] Yu 0 ⟨#[0]⟩ hl (by unfold Yu;simp)
 rw [show ([-1]:List Int).length=1 from rfl] at h hp
 rw [qw] at h
 rw [sample_pick] at hp
 have h1:=same_dec [⟨#[1]⟩] [⟨#[1]⟩] (by simp)
 have h2:=same_dec [⟨#[0]⟩] [⟨#[0]⟩] (by simp)
 rw [decide_eq_true rfl] at h1 h2
 refine Ev.bind0 rfl (Ev.bind h (Ev.bind0 rfl (Ev.bind hp ?_)))
 exact Ev.ite_pos rfl (Ev.ite_pos rfl (Ev.ite_pos rfl (Ev.ite_pos (by decide) (Ev.bind h1 (Ev.ite_pos rfl (Ev.ite_pos (by decide) (Ev.bind h2 (Ev.ite_pos rfl (Ev.now _)))))))))
theorem gflat_len (g:Sets) (hg:yk 600 g):∀ps:List Int,(∀p ∈ ps,0≤p∧p < (g.length:Int))→(yX.flat g ps).length≤600 * ps.length:=by
 intro ps
 induction ps with
 | nil=>intro _;exact Nat.zero_le _
 | cons p ps ih=>
  intro h
  have h1:=(hg _ (Zr (h p List.mem_cons_self))).1.1
  have h2:=ih fun q hq=>h q (List.mem_cons_of_mem _ hq)
  unfold yX.flat at h2⊢
  rw [List.flatMap_cons,List.length_append,List.length_cons,Nat.mul_succ]
  omega
def headsR (toks look:Int) (n:Nat) (L:List Prod') (m:Int):List Int × Int:=
 if (YD toks look n L).2=0 then (if m < 0∨(n:Int)≤m then ([],3) else (yF.iset (hds (yX.flat (YD toks look n L).1 (Zt m L 0))),0)) else ([],(YD toks look n L).2)
theorem gheads_ev (toks look:Int) (of:List Int) (L:List Prod') (m:Int) (hl4:∀p ∈ L,p.f1.length≤400000) (hL:L.length≤1000):Ev (fun k=>yX.f k toks look of L m) (headsR toks look of.length L m):=by
 have hl:∀p ∈ L,p.f1.length≤1000000:=fun p hp=>Nat.le_trans (hl4 p hp) (by omega)
 have o1:=guess_ev toks look of L hl4 (by omega)
 obtain ⟨hg,-⟩:=qS toks look of L hl
 unfold yX.f headsR
 generalize YD toks look of.length L=X at o1 hg⊢
 refine Ev.bind o1 ?_
 by_cases h0:X.2=0
 ·obtain ⟨hm,hS,hn⟩:=hg h0
  rw [if_pos h0]
  refine Ev.ite_pos h0 ?_
  by_cases h1:m < 0∨(of.length:Int)≤m
  ·rw [if_pos h1];exact Ev.ite_pos h1 (Ev.now _)
  ·rw [if_neg h1]
   obtain ⟨p1,p2⟩:=prodsA_in m L 0
   have hin:∀p ∈ Zt m L 0,0≤p∧p < (X.1.length:Int):=fun p hp=>by have:=p1 p hp;rw [hn];omega
   have hf:=gflat_len X.1 hS _ hin
   exact Ev.ite_neg h1 (Ev.bind (prods_ev toks look of L m hl (by omega) hm) (Ev.ite_pos ⟨by omega,hin,fun r hr=>by have:=(hS r hr).1.1;omega⟩ (Ev.bind (heads_ev _ (by omega)) (Ev.now _))))
 ·rw [if_neg h0];exact Ev.ite_neg h0 (Ev.now _)
theorem rprods_ev (toks look:Int) (of:List Int) (n:Int) (L:List Prod') (hL:L.length≤1000000):∀(d i:Nat) (acc:List Int),i + d=L.length→acc.length≤i→Ev (fun k=>zx.l0 k n acc i toks look of L) (acc ++ Zt n (L.drop i) i):=by
 intro d
 induction d with
 | zero=>
  intro i acc hi _
  rw [List.drop_of_length_le (by omega),show Zt n [] i= [] from rfl,List.append_nil]
  exact Ev.step (fun k=>by rw [zx.l0,if_neg (by omega)]) (Ev.now _)
 | succ d ih=>
  intro i acc hi ha
  have hlt:i < L.length:=by omega
  have hw:wrap64 ((i:Int) + 1)=((i + 1:Nat):Int):=by rw [ya (by omega)];rfl
  rw [List.drop_eq_getElem_cons hlt]
  unfold Zt
  refine Ev.step (fun k=>by rw [zx.l0,if_pos (by clear hw;omega),if_pos (by clear hw;omega),rdP hlt,hw]) ?_
  by_cases c:L[i].f0=n
  ·rw [if_pos c]
   have h:=ih (i + 1) (acc ++ [(i:Int)]) (by clear hw;omega) (by rw [List.length_append];simp;clear hw;omega)
   rw [List.append_assoc] at h
   exact Ev.ite_pos c (Ev.ite_pos (by clear hw;omega) h)
  ·rw [if_neg c]
   exact Ev.ite_neg c (ih (i + 1) acc (by clear hw;omega) (by clear hw;omega))
theorem rpick_l0 (g:Sets) (hg:yk 600 g) (t:ByteArray) (ps:List Int) (hps:ps.length≤1000000) (hin:∀p ∈ ps,0≤p∧p < (g.length:Int)):∀(d i:Nat),i + d=ps.length→Ev (fun k=>yH.l0 k g t ps i) (zU.first ((ps.drop i).map fun p=>decide (t ∈ zk g p)) i):=by
 intro d
 induction d with
 | zero=>
  intro i hi
  rw [List.drop_of_length_le (by omega)]
  exact Ev.step (fun k=>by rw [yH.l0,if_neg (by omega)];rfl) (Ev.now _)
 | succ d ih=>
  intro i hi
  have hlt:i < ps.length:=by omega
  have hw:wrap64 ((i:Int) + 1)=((i + 1:Nat):Int):=by rw [ya (by omega)];rfl
  obtain ⟨q0,q1⟩:=hin _ (List.getElem_mem hlt)
  have hs:=hg _ (Zr ⟨q0,q1⟩)
  have hr:=rin_ev (zk g ps[i]) t hs.2 (by have:=hs.1.1;clear hw;omega)
  rw [List.drop_eq_getElem_cons hlt,List.map_cons]
  unfold zU.first
  refine Ev.step (fun k=>by rw [yH.l0,if_pos (by clear hw;omega),if_pos (by clear hw;omega),rd_int hlt,if_pos q0,if_pos q1,hw]) (Ev.bind hr ?_)
  by_cases c:t ∈ zk g ps[i]
  ·rw [decide_eq_true c]
   exact Ev.ite_pos rfl (Ev.some (if_pos rfl).symm)
  ·rw [decide_eq_false c]
   have h:=ih (i + 1) (by clear hw;omega)
   rw [if_neg Bool.false_ne_true]
   exact Ev.ite_neg (by simp) h
theorem rheads16_l0 (g:Sets) (hg:yk 600 g) (ps:List Int) (hps:ps.length≤1000) (hin:∀p ∈ ps,0≤p∧p < (g.length:Int)):∀(d i:Nat) (acc:List ByteArray),i + d=ps.length→acc.length≤600 * i→Ev (fun k=>yE.l0 k g ps acc i) (upTo 256 (hds (acc ++ yX.flat g (ps.drop i)))):=by
 intro d
 induction d with
 | zero=>
  intro i acc hi ha
  have hh:=rheads_ev acc (by omega)
  rw [List.drop_of_length_le (by omega),show yX.flat g []= [] from rfl,List.append_nil]
  exact Ev.step (fun k=>by rw [yE.l0,if_neg (by omega)]) (Ev.bind hh (Ev.now _))
 | succ d ih=>
  intro i acc hi ha
  have hlt:i < ps.length:=by omega
  have hw:wrap64 ((i:Int) + 1)=((i + 1:Nat):Int):=by rw [ya (by omega)];rfl
  obtain ⟨q0,q1⟩:=hin _ (List.getElem_mem hlt)
  have hs:=(hg _ (Zr ⟨q0,q1⟩)).1.1
  have h:=ih (i + 1) (acc ++ zk g ps[i]) (by clear hw;omega) (by rw [List.length_append];clear hw;omega)
  rw [List.drop_eq_getElem_cons hlt,show yX.flat g (ps[i] :: ps.drop (i + 1))=zk g ps[i] ++ yX.flat g (ps.drop (i + 1)) from List.flatMap_cons ..,←List.append_assoc]
  exact Ev.step (fun k=>by rw [yE.l0,if_pos (by clear hw;omega),if_pos (by clear hw;omega),rd_int hlt,if_pos q0,if_pos q1,if_pos (by clear hw;omega),hw]) h
theorem GuessPicks:zY.Pure:=by
 intro toks look of L m t hW hm ht
 refine Ev.rounds (g:=fun k=>zY.f k toks look of L m t) ?_
 unfold zY.f
 clear hW hm ht
 have f1:=gfew_ev toks look of L
 have f2:=gfew_ev toks look (of.take 8) (fewL L)
 rw [fewL_few,List.take_take,Nat.min_self] at f2
 have hl5:∀p ∈ fewL L,p.f1.length≤400000:=fun p hp=>by have:=(fewL_le L).2 p hp;omega
 have hl:∀p ∈ fewL L,p.f1.length≤1000000:=fun p hp=>by have:=(fewL_le L).2 p hp;omega
 have h14:=(fewL_le L).1
 have o1:=pick_ev toks look (of.take 8) (fewL L) m t hl5 (by omega)
 have o2:=gheads_ev toks look (of.take 8) (fewL L) m hl5 (by omega)
 have o3:=rguess_ev toks look (of.take 8) (fewL L) hl (by omega)
 have hpr:=rprods_ev toks look (of.take 8) m (fewL L) (by omega) (fewL L).length 0 [] (by omega) (Nat.le_refl _)
 rw [List.drop_zero,List.nil_append] at hpr
 obtain ⟨p1,p2⟩:=prodsA_in m (fewL L) 0
 obtain ⟨g1,g2⟩:=qS toks look (of.take 8) (fewL L) hl
 unfold pickR at o1
 unfold headsR at o2
 generalize YD toks look (of.take 8).length (fewL L)=X at o1 o2 o3 g1 g2
 refine Ev.bind f1 (Ev.bind f2 (Ev.bind o1 (Ev.bind f2 (Ev.bind o2 (Ev.bind o3 ?_)))))
 by_cases h0:X.2=0
 ·obtain ⟨-,hS,hn⟩:=g1 h0
  simp only [if_pos h0]
  have bad:(m < 0∨((of.take 8).length:Int)≤m)→Ev (fun k=>zY.j0 k m t 0 3 [] 3 X.1 true toks look (of.take 8) (fewL L)) true:=fun _=>
   Ev.step (fun k=>by rw [zY.j0,if_pos rfl,if_pos rfl,if_pos rfl,if_pos rfl,if_pos (by simp)]) (Ev.bind (f:=fun _ t=>some t) qT (Ev.now _))
  by_cases c1:m < 0
  ·simp only [if_pos (show m < 0∨((of.take 8).length:Int)≤m from .inl c1)]
   exact Ev.ite_pos c1 (bad (.inl c1))
  refine Ev.ite_neg c1 ?_
  by_cases c2:((of.take 8).length:Int)≤m
  ·simp only [if_pos (show m < 0∨((of.take 8).length:Int)≤m from .inr c2)]
   rw [show decide (m≥((of.take 8).length:Int))=true from decide_eq_true c2]
   exact bad (.inr c2)
  have hno:¬(m < 0∨((of.take 8).length:Int)≤m):=fun h=>h.elim c1 c2
  simp only [if_neg hno]
  rw [show decide (m≥((of.take 8).length:Int))=false from decide_eq_false c2]
  have hin:∀p ∈ Zt m (fewL L) 0,0≤p∧p < (X.1.length:Int):=fun p hp=>by have:=p1 p hp;rw [hn];omega
  have r1:=rpick_l0 X.1 hS t _ (by omega) hin (Zt m (fewL L) 0).length 0 (by omega)
  have r2:=rheads16_l0 X.1 hS _ (by omega) hin (Zt m (fewL L) 0).length 0 [] (by omega) (Nat.le_refl _)
  rw [List.drop_zero] at r1 r2
  rw [List.nil_append,←heads_same] at r2
  have hlen:(yF.iset (hds (yX.flat X.1 (Zt m (fewL L) 0)))).length≤1000000000000:=by
   rw [heads_same]
   exact Nat.le_trans (upTo_length _ _) (by omega)
  have hp2:Ev (fun k=>yH.f k toks look (of.take 8) (fewL L) X.1 m t) (pickA X.1 t (Zt m (fewL L) 0)):=by
   unfold yH.f zx.f;exact Ev.bind hpr r1
  have hh2:Ev (fun k=>yE.f k toks look (of.take 8) (fewL L) X.1 m) (yF.iset (hds (yX.flat X.1 (Zt m (fewL L) 0)))):=by
   unfold yE.f zx.f;exact Ev.bind hpr r2
  exact Ev.step (fun k=>by rw [zY.j0,if_neg (by simp)]) (Ev.ite_pos rfl (Ev.ite_pos rfl (Ev.bind hp2 (Ev.ite_pos rfl (Ev.bind hh2 (Ev.bind (same_ints _ hlen) (Ev.ite_pos rfl (Ev.bind qT (Ev.now _)))))))))
 ·simp only [if_neg h0]
  exact Ev.ite_pos (by simp) (Ev.ite_pos (by simp) (Ev.ite_pos (by simp) (Ev.ite_pos (by simp) (Ev.bind qT (Ev.now _)))))
end Go.Proofs.YtpfeebmfihgelaaGreat.Pure
