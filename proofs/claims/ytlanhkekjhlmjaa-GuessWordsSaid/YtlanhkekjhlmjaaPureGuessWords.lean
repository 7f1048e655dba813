/- For all plain rules (cut to eight nonterminals, fourteen productions of four symbols, as the statement has it) of which all nonterminals end: of each word of nonterminal 0 of at most three tokens the first Look tokens (the end's behind them) are among the guesses of a production of 0, or the guesses are refused. No other condition. -/
-- Written by pure.py for this claim.
import Derived.Test.YtlanhkekjhlmjaaHGuessWordsx
import Derived.Test.YtlanhkekjhlmjaaSGuessWordsVPure
import Derived.Sort.Walk0
namespace Go.Proofs.Ytlanhkekjhlmjaa.Pure
open Go.RowKit Go.Plus Go.Proofs.Ytlanhkekjhlmjaa.HGuessWords Go.Proofs.YtlanhkekjhlmjaaW.PrintWords Go.Proofs.YtlanhkekjhlmjaaW.PrintLast Go.Proofs.YtlanhkekjhlmjaaW.PrintMore
set_option linter.unusedVariables false
set_option linter.unusedSimpArgs false
abbrev Sym:=S51
abbrev Prod':=S45
theorem rdS {l:List Sym} {i:Nat} (h:i < l.length):zi l (i:Int)=l[i]:=by
 unfold zi
 simp [List.getD_eq_getElem?_getD,h]
theorem rdP {l:List Prod'} {i:Nat} (h:i < l.length):zD l (i:Int)=l[i]:=by
 unfold zD
 simp [List.getD_eq_getElem?_getD,h]
def yg (toks:Int) (n:Nat) (s:Sym):Bool:=if s.f0=true then !(decide (1≤s.f1) && decide (s.f1≤toks)) else !(decide (0≤s.f1) && decide (s.f1 < (n:Int)))
def yX (toks:Int) (n:Nat) (p:Prod'):Bool:= !(decide (0≤p.f0) && decide (p.f0 < (n:Int))) || p.f1.any (yg toks n)
def mayE (toks look:Int) (n:Nat) (L:List Prod'):Int:=
 if toks < 1∨60 < toks∨n < 1∨500 < n∨L.length < 1∨2000 < L.length∨(L.any fun p=>decide (500 < p.f1.length))=true then 8 else if look < 1∨4 < look then 11 else if L.any (yX toks n)=true then 4 else 0
theorem sym_some (toks look:Int) (of:List Int) (L:List Prod') (b:Bool) (n:Int):Yk.f toks look of L b n=some (!yg toks of.length ⟨b,n⟩):=by
 unfold Yk.f yW.f yg
 cases b
 ·by_cases h:n≥0
  ·simp [h]
  ·simp [h]
 ·by_cases h:n≥1
  ·simp [h]
  ·simp [h]
theorem drop_any {α:Type} {l:List α} {i:Nat} (h:i < l.length) (f:α→Bool):(l.drop i).any f=(f l[i] || (l.drop (i + 1)).any f):=by
 rw [List.drop_eq_getElem_cons h,List.any_cons]
theorem idxSym (toks look:Int) (of:List Int) (L:List Prod') (l:List Sym) (hl:l.length≤1000000000):∀(d i:Nat),i + d=l.length→∃z:Int,decide (z≥0)=(l.drop i).any (yg toks of.length)∧Ev (fun k=>zU.l0 k l l.length i toks look of L) (z,toks,look):=by
 intro d
 induction d with
 | zero=>
  intro i hi
  exact ⟨-1,by rw [List.drop_of_length_le (by omega)];rfl,Ev.step (fun k=>by rw [zU.l0,if_neg (by omega)]) (Ev.now _)⟩
 | succ d ih=>
  intro i hi
  have hlt:i < l.length:=by omega
  have hw:wrap64 ((i:Int) + 1)=((i + 1:Nat):Int):=by rw [ya (by omega)];rfl
  have e:Zs.f l[i].f0 l[i].f1 toks look of L=some (yg toks of.length l[i],toks,look):=by
   unfold Zs.f
   rw [sym_some,Option.bind_some,Bool.not_not]
  rw [drop_any hlt]
  cases hb:yg toks of.length l[i]
  ·obtain ⟨z,h0,hz⟩:=ih (i + 1) (by omega)
   refine ⟨z,by rw [h0];rfl,Ev.step (fun k=>by rw [zU.l0,if_pos (by clear hw;omega),if_pos (by clear hw;omega),if_pos (by clear hw;omega),rdS hlt,e,Option.bind_some,hw]) (Ev.ite_neg (by rw [hb];simp) hz)⟩
  ·refine ⟨i,by simp,Ev.step (fun k=>by rw [zU.l0,if_pos (by clear hw;omega),if_pos (by clear hw;omega),if_pos (by clear hw;omega),rdS hlt,e,Option.bind_some]) (Ev.ite_pos hb (Ev.now _))⟩
theorem prod_ev (toks look:Int) (of:List Int) (L:List Prod') (n:Int) (r:List Sym) (hr:r.length≤1000000000):Ev (fun k=>Zc.f k toks look of L n r) (!yX toks of.length ⟨n,r⟩):=by
 unfold Zc.f yX
 by_cases h1:n≥0
 ·refine Ev.ite_pos h1 ?_
  by_cases h2:n < (of.length:Int)
  ·refine Ev.ite_pos h2 ?_
   obtain ⟨z,h0,hz⟩:=idxSym toks look of L r hr r.length 0 (by omega)
   rw [List.drop_zero] at h0
   unfold yE.f zU.f
   refine Ev.bind (Ev.bind hz (Ev.now _)) (Ev.some ?_)
   rw [h0]
   simp [h1,h2]
  ·refine Ev.ite_neg h2 (Ev.some ?_)
   simp [h2]
 ·refine Ev.ite_neg h1 (Ev.some ?_)
  have:¬0≤n:=h1
  simp [this]
theorem idxProd (toks look:Int) (of:List Int) (L l:List Prod') (hl:l.length≤1000000000) (hr:∀p ∈ l,p.f1.length≤1000000000):∀(d i:Nat),i + d=l.length→∃z:Int,decide (z≥0)=(l.drop i).any (yX toks of.length)∧Ev (fun k=>zV.l0 k l l.length i toks look of L) (z,toks,look):=by
 intro d
 induction d with
 | zero=>
  intro i hi
  exact ⟨-1,by rw [List.drop_of_length_le (by omega)];rfl,Ev.step (fun k=>by rw [zV.l0,if_neg (by omega)]) (Ev.now _)⟩
 | succ d ih=>
  intro i hi
  have hlt:i < l.length:=by omega
  have hw:wrap64 ((i:Int) + 1)=((i + 1:Nat):Int):=by rw [ya (by omega)];rfl
  have e:Ev (fun k=>ZL.f k l[i].f0 l[i].f1 toks look of L) (yX toks of.length l[i],toks,look):=by
   unfold ZL.f
   exact Ev.bind (prod_ev toks look of L l[i].f0 l[i].f1 (hr _ (List.getElem_mem _))) (Ev.some (by rw [Bool.not_not]))
  rw [drop_any hlt]
  cases hb:yX toks of.length l[i]
  ·rw [hb] at e
   obtain ⟨z,h0,hz⟩:=ih (i + 1) (by omega)
   refine ⟨z,by rw [h0];rfl,Ev.step (fun k=>by rw [zV.l0,if_pos (by clear hw;omega),if_pos (by clear hw;omega),if_pos (by clear hw;omega),rdP hlt,hw]) (Ev.bind e (Ev.ite_neg (show ¬((false,toks,look):Bool × Int × Int).1=true from Bool.false_ne_true) hz))⟩
  ·rw [hb] at e
   refine ⟨i,by simp,Ev.step (fun k=>by rw [zV.l0,if_pos (by clear hw;omega),if_pos (by clear hw;omega),if_pos (by clear hw;omega),rdP hlt]) (Ev.bind e (Ev.ite_pos rfl (Ev.now _)))⟩
theorem idxLong (l:List Prod') (hl:l.length≤1000000000):∀(d i:Nat),i + d=l.length→∃z:Int,decide (z≥0)=(l.drop i).any (fun p=>decide (500 < p.f1.length))∧Ev (fun k=>zW.l0 k l l.length i) z:=by
 intro d
 induction d with
 | zero=>
  intro i hi
  exact ⟨-1,by rw [List.drop_of_length_le (by omega)];rfl,Ev.step (fun k=>by rw [zW.l0,if_neg (by omega)]) (Ev.now _)⟩
 | succ d ih=>
  intro i hi
  have hlt:i < l.length:=by omega
  have hw:wrap64 ((i:Int) + 1)=((i + 1:Nat):Int):=by rw [ya (by omega)];rfl
  have e:YS.f l[i].f0 l[i].f1=some (decide (500 < l[i].f1.length)):=by
   unfold YS.f
   refine congrArg some (decide_eq_decide.2 ?_)
   omega
  rw [drop_any hlt]
  cases hb:decide (500 < l[i].f1.length)
  ·obtain ⟨z,h0,hz⟩:=ih (i + 1) (by omega)
   refine ⟨z,by rw [h0];rfl,Ev.step (fun k=>by rw [zW.l0,if_pos (by clear hw;omega),if_pos (by clear hw;omega),if_pos (by clear hw;omega),rdP hlt,e,Option.bind_some,hw]) (Ev.ite_neg (by rw [hb];simp) hz)⟩
  ·refine ⟨i,by simp,Ev.step (fun k=>by rw [zW.l0,if_pos (by clear hw;omega),if_pos (by clear hw;omega),if_pos (by clear hw;omega),rdP hlt,e,Option.bind_some]) (Ev.ite_pos hb (Ev.now _))⟩
theorem Yl (a b:Int):yW.f a b=some (decide (1≤a∧a≤b)):=by
 unfold yW.f
 by_cases h:a≥1
 ·rw [if_pos h];simp [show 1≤a from h]
 ·rw [if_neg h];simp [show ¬1≤a from h]
theorem may_j0 (toks look:Int) (of:List Int) (L:List Prod') (hl:L.length≤1000000000) (hr:∀p ∈ L,p.f1.length≤1000000000) (b:Bool):Ev (fun k=>yS.j0 k b toks look of L) (if b=true then 8 else if look < 1∨4 < look then 11 else if L.any (yX toks of.length)=true then 4 else 0):=by
 refine Ev.step (fun k=>by rw [yS.j0]) ?_
 cases b
 ·refine Ev.ite_neg (by simp) (Ev.bind0 (Yl _ _) ?_)
  rw [if_neg (by simp)]
  by_cases h:1≤look∧look≤4
  ·rw [if_neg (by omega)]
   refine Ev.ite_pos (decide_eq_true h) ?_
   obtain ⟨z,h0,hz⟩:=idxProd toks look of L L hl hr L.length 0 (by omega)
   rw [List.drop_zero] at h0
   unfold zu.f zV.f
   refine Ev.bind (Ev.bind hz (Ev.now _)) ?_
   rw [←h0]
   refine Ev.congr (f:=fun k=>some (if decide (z≥0)=true then (4:Int) else 0)) (fun k=> ?_) (Ev.now _)
   by_cases hz0:z≥0
   ·simp [hz0]
   ·simp [hz0]
  ·rw [if_pos (by omega)]
   exact Ev.ite_neg (by simpa using h) (Ev.now _)
 ·rw [if_pos rfl];exact Ev.ite_pos rfl (Ev.now _)
theorem may_ev (toks look:Int) (of:List Int) (L:List Prod') (hl:L.length≤1000000000) (hr:∀p ∈ L,p.f1.length≤1000000000):Ev (fun k=>yS.f k toks look of L) (mayE toks look of.length L):=by
 unfold yS.f mayE
 have ht:=may_j0 toks look of L hl hr true
 rw [if_pos rfl] at ht
 refine Ev.bind0 (Yl _ _) ?_
 by_cases h1:1≤toks∧toks≤60
 ·refine Ev.ite_pos (decide_eq_true h1) (Ev.bind0 (Yl _ _) ?_)
  by_cases h2:1≤(of.length:Int)∧(of.length:Int)≤500
  ·refine Ev.ite_pos (decide_eq_true h2) (Ev.bind0 (Yl _ _) ?_)
   by_cases h3:1≤(L.length:Int)∧(L.length:Int)≤2000
   ·refine Ev.ite_pos (decide_eq_true h3) ?_
    obtain ⟨z,h0,hz⟩:=idxLong L hl L.length 0 (by omega)
    rw [List.drop_zero] at h0
    unfold zl.f zW.f
    refine Ev.bind (Ev.bind hz (Ev.now _)) ?_
    have hj:=may_j0 toks look of L hl hr (decide (z≥0))
    rw [h0] at hj⊢
    by_cases h4:(L.any fun p=>decide (500 < p.f1.length))=true
    ·rw [if_pos h4] at hj
     rw [if_pos (by simp only [h4,or_true])]
     exact hj
    ·rw [if_neg h4] at hj
     rw [if_neg (by rintro (h|h|h|h|h|h|h) <;> first|omega|exact h4 h)]
     exact hj
   ·rw [if_pos (by omega)]
    exact Ev.ite_neg (by simpa using h3) ht
  ·rw [if_pos (by omega)]
   exact Ev.ite_neg (by simpa using h2) ht
 ·rw [if_pos (by omega)]
  exact Ev.ite_neg (by simpa using h1) ht
theorem rmay_l0 (toks look:Int) (of:List Int) (L:List Prod') (hl:L.length≤1000000000) (r:Int) (hno:(L.any fun p=>decide (500 < p.f1.length))=false→Ev (fun k=>if look < 1 then zI.j2 k true toks look of L else zI.j2 k (decide (look > 4)) toks look of L) r):∀(d i:Nat),i + d=L.length→((L.take i).any fun p=>decide (500 < p.f1.length))=false→
  Ev (fun k=>zI.l0 k i toks look of L) (if (L.any fun p=>decide (500 < p.f1.length))=true then 8 else r):=by
 intro d
 induction d with
 | zero=>
  intro i hi hb
  rw [List.take_of_length_le (by omega)] at hb
  rw [hb,if_neg (by simp)]
  exact Ev.step (fun k=>by rw [zI.l0,if_neg (by omega)]) (hno hb)
 | succ d ih=>
  intro i hi hb
  have hlt:i < L.length:=by omega
  have hw:wrap64 ((i:Int) + 1)=((i + 1:Nat):Int):=by rw [ya (by omega)];rfl
  refine Ev.step (fun k=>by rw [zI.l0,if_pos (by clear hw;omega),if_pos (by clear hw;omega),rdP hlt,hw]) ?_
  by_cases h:(L[i].f1.length:Int) > 500
  ·rw [if_pos (List.any_eq_true.2 ⟨L[i],List.getElem_mem _,decide_eq_true (by omega)⟩)]
   exact Ev.ite_pos h (Ev.now _)
  ·refine Ev.ite_neg h (ih (i + 1) (by clear hw;omega) ?_)
   rw [List.take_succ_eq_append_getElem hlt,List.any_append,hb]
   simp;omega
theorem rmay_l2 (toks look:Int) (of:List Int) (L:List Prod') (p0:Int) (q:List Sym) (hq:q.length≤1000000000) (x4:Nat) (r:Int) (hno:q.any (yg toks of.length)=false→Ev (fun k=>zI.l1 k (wrap64 ((x4:Int) + 1)) toks look of L) r):∀(d i:Nat),i + d=q.length→(q.take i).any (yg toks of.length)=false→
  Ev (fun k=>zI.l2 k x4 i toks look of L p0 q) (if q.any (yg toks of.length)=true then 4 else r):=by
 intro d
 induction d with
 | zero=>
  intro i hi hb
  rw [List.take_of_length_le (by omega)] at hb
  rw [hb,if_neg (by simp)]
  exact Ev.step (fun k=>by rw [zI.l2,if_neg (by omega)]) (hno hb)
 | succ d ih=>
  intro i hi hb
  have hlt:i < q.length:=by omega
  have hw:wrap64 ((i:Int) + 1)=((i + 1:Nat):Int):=by rw [ya (by omega)];rfl
  refine Ev.step (fun k=>by rw [zI.l2,if_pos (by clear hw;omega),if_pos (by clear hw;omega),rdS hlt,hw]) ?_
  have bad:yg toks of.length q[i]=true→(if q.any (yg toks of.length)=true then 4 else r)=4:=fun h=>if_pos (List.any_eq_true.2 ⟨q[i],List.getElem_mem _,h⟩)
  have good:yg toks of.length q[i]=false→Ev (fun k=>zI.l2 k x4 ((i + 1:Nat):Int) toks look of L p0 q) (if q.any (yg toks of.length)=true then 4 else r):=fun h=>ih (i + 1) (by clear hw;omega) (by
   rw [List.take_succ_eq_append_getElem hlt,List.any_append,hb];simp [h])
  unfold yg at bad good
  by_cases h0:q[i].f0=true
  ·rw [if_pos h0] at bad good
   refine Ev.ite_pos h0 ?_
   by_cases h1:q[i].f1 < 1
   ·rw [show (if q.any (yg toks of.length)=true then (4:Int) else r)=4 from bad (by first|(simp;omega)|(simp;intro h;omega))]
    exact Ev.ite_pos h1 (Ev.now _)
   ·refine Ev.ite_neg h1 ?_
    by_cases h2:q[i].f1 > toks
    ·rw [show (if q.any (yg toks of.length)=true then (4:Int) else r)=4 from bad (by first|(simp;omega)|(simp;intro h;omega))]
     exact Ev.ite_pos h2 (Ev.now _)
    ·exact Ev.ite_neg h2 (Ev.congr (fun k=>by try simp only [h0];try simp) (good (by simp;omega)))
  ·rw [if_neg h0] at bad good
   refine Ev.ite_neg h0 ?_
   by_cases h1:q[i].f1 < 0
   ·rw [show (if q.any (yg toks of.length)=true then (4:Int) else r)=4 from bad (by first|(simp;omega)|(simp;intro h;omega))]
    exact Ev.congr (fun k=>by rw [if_pos h1]) (Ev.now _)
   ·by_cases h2:q[i].f1≥(of.length:Int)
    ·rw [show (if q.any (yg toks of.length)=true then (4:Int) else r)=4 from bad (by first|(simp;omega)|(simp;intro h;omega))]
     exact Ev.congr (fun k=>by rw [if_neg h1,if_pos h2]) (Ev.now _)
    ·exact Ev.congr (fun k=>by rw [if_neg h1,if_neg h2]) (good (by simp;omega))
theorem rmay_l1 (toks look:Int) (of:List Int) (L:List Prod') (hl:L.length≤1000000000) (hr:∀p ∈ L,p.f1.length≤1000000000):∀(d i:Nat),i + d=L.length→(L.take i).any (yX toks of.length)=false→
  Ev (fun k=>zI.l1 k i toks look of L) (if L.any (yX toks of.length)=true then 4 else 0):=by
 intro d
 induction d with
 | zero=>
  intro i hi hb
  rw [List.take_of_length_le (by omega)] at hb
  rw [hb,if_neg (by simp)]
  exact Ev.step (fun k=>by rw [zI.l1,if_neg (by omega)]) (Ev.now _)
 | succ d ih=>
  intro i hi hb
  have hlt:i < L.length:=by omega
  have hw:wrap64 ((i:Int) + 1)=((i + 1:Nat):Int):=by rw [ya (by omega)];rfl
  have bad:yX toks of.length L[i]=true→(if L.any (yX toks of.length)=true then (4:Int) else 0)=4:=fun h=>if_pos (List.any_eq_true.2 ⟨L[i],List.getElem_mem _,h⟩)
  have good:yX toks of.length L[i]=false→Ev (fun k=>zI.l1 k (wrap64 ((i:Int) + 1)) toks look of L) (if L.any (yX toks of.length)=true then 4 else 0):=fun h=>by
   rw [hw]
   exact ih (i + 1) (by clear hw;omega) (by rw [List.take_succ_eq_append_getElem hlt,List.any_append,hb];simp [h])
  refine Ev.step (fun k=>by rw [zI.l1,if_pos (by clear hw;omega),if_pos (by clear hw;omega),rdP hlt]) ?_
  have jt:Ev (fun k=>zI.j4 k i true toks look of L L[i].f0 L[i].f1) 4:=Ev.step (fun k=>by rw [zI.j4,if_pos rfl]) (Ev.now _)
  by_cases h1:L[i].f0 < 0
  ·rw [bad (by unfold yX;simp [show ¬0≤L[i].f0 by omega])]
   exact Ev.ite_pos h1 jt
  ·refine Ev.ite_neg h1 ?_
   by_cases h2:L[i].f0≥(of.length:Int)
   ·rw [bad (by unfold yX;simp [show ¬L[i].f0 < (of.length:Int) by omega]),decide_eq_true h2]
    exact jt
   ·rw [decide_eq_false h2]
    refine Ev.step (fun k=>by rw [zI.j4,if_neg (by simp)]) ?_
    have hpb:yX toks of.length L[i]=L[i].f1.any (yg toks of.length):=by
     unfold yX
     simp [show 0≤L[i].f0 by omega,show L[i].f0 < (of.length:Int) by omega]
    have h:=rmay_l2 toks look of L L[i].f0 L[i].f1 (hr _ (List.getElem_mem _)) i (if L.any (yX toks of.length)=true then 4 else 0) (fun hf=>good (by rw [hpb];exact hf)) L[i].f1.length 0 (by omega) rfl
    by_cases h3:L[i].f1.any (yg toks of.length)=true
    ·rw [if_pos h3] at h
     rw [bad (by rw [hpb];exact h3)]
     exact h
    ·rw [if_neg h3] at h
     exact h
theorem rmay_ev (toks look:Int) (of:List Int) (L:List Prod') (hl:L.length≤1000000000) (hr:∀p ∈ L,p.f1.length≤1000000000):Ev (fun k=>zI.f k toks look of L) (mayE toks look of.length L):=by
 have jt:Ev (fun k=>zI.j0 k true toks look of L) 8:=Ev.step (fun k=>by rw [zI.j0,if_pos rfl]) (Ev.now _)
 have j2:Ev (fun k=>if look < 1 then zI.j2 k true toks look of L else zI.j2 k (decide (look > 4)) toks look of L) (if look < 1∨4 < look then 11 else if L.any (yX toks of.length)=true then 4 else 0):=by
  have t2:Ev (fun k=>zI.j2 k true toks look of L) 11:=Ev.step (fun k=>by rw [zI.j2,if_pos rfl]) (Ev.now _)
  by_cases h1:look < 1
  ·rw [if_pos (.inl h1)]
   exact Ev.ite_pos h1 t2
  ·refine Ev.ite_neg h1 ?_
   by_cases h2:look > 4
   ·rw [if_pos (.inr h2),decide_eq_true h2]
    exact t2
   ·rw [if_neg (by omega),decide_eq_false h2]
    exact Ev.step (fun k=>by rw [zI.j2,if_neg (by simp)];rfl) (rmay_l1 toks look of L hl hr L.length 0 (by omega) rfl)
 have jf:Ev (fun k=>zI.j0 k false toks look of L) (if (L.any fun p=>decide (500 < p.f1.length))=true then 8 else if look < 1∨4 < look then 11 else if L.any (yX toks of.length)=true then 4 else 0):=
  Ev.step (fun k=>by rw [zI.j0,if_neg (by simp)];rfl) (rmay_l0 toks look of L hl _ (fun _=>j2) L.length 0 (by omega) rfl)
 unfold zI.f mayE
 by_cases h1:toks < 1
 ·rw [if_pos (by omega)];exact Ev.ite_pos h1 jt
 by_cases h2:toks > 60
 ·rw [if_pos (by omega)];exact Ev.ite_neg h1 (Ev.ite_pos h2 jt)
 by_cases h3:(of.length:Int) < 1
 ·rw [if_pos (by omega)];exact Ev.ite_neg h1 (Ev.ite_neg h2 (Ev.ite_pos h3 jt))
 by_cases h4:(of.length:Int) > 500
 ·rw [if_pos (by omega)];exact Ev.ite_neg h1 (Ev.ite_neg h2 (Ev.ite_neg h3 (Ev.ite_pos h4 jt)))
 by_cases h5:(L.length:Int) < 1
 ·rw [if_pos (by omega)];exact Ev.ite_neg h1 (Ev.ite_neg h2 (Ev.ite_neg h3 (Ev.ite_neg h4 (Ev.ite_pos h5 jt))))
 refine Ev.ite_neg h1 (Ev.ite_neg h2 (Ev.ite_neg h3 (Ev.ite_neg h4 (Ev.ite_neg h5 ?_))))
 by_cases h6:(L.length:Int) > 2000
 ·rw [if_pos (by omega),decide_eq_true h6];exact jt
 ·rw [decide_eq_false h6]
  by_cases h7:(L.any fun p=>decide (500 < p.f1.length))=true
  ·rw [if_pos h7] at jf
   rw [if_pos (by simp only [h7,or_true])]
   exact jf
  ·rw [if_neg h7] at jf
   rw [if_neg (by rintro (h|h|h|h|h|h|h) <;> first|omega|exact h7 h)]
   exact jf
instance riseDec (l:List Txt):Decidable (Zd l):=inferInstanceAs (Decidable (l.Pairwise (· < ·)))
abbrev yP:=zZ.keys
abbrev txts:=zZ.texts
theorem keys_txts (l:List Txt):yP (txts l)=l:=by
 unfold yP txts zZ.keys zZ.texts
 rw [List.map_map]
 conv=>rhs;rw [←List.map_id l]
 exact List.map_congr_left fun x _=>by simp
theorem qD (l:List ByteArray):txts (yP l)=l:=by
 unfold yP txts zZ.keys zZ.texts
 rw [List.map_map]
 conv=>rhs;rw [←List.map_id l]
 exact List.map_congr_left fun x _=>by
  apply ByteArray.ext
  simp
theorem keys_append (a b:List ByteArray):yP (a ++ b)=yP a ++ yP b:=List.map_append
theorem yz (a:List ByteArray):(yP a).length=a.length:=List.length_map ..
theorem txts_length (a:List Txt):(txts a).length=a.length:=List.length_map ..
def setT (l:List ByteArray):List ByteArray:=txts (tset (yP l))
theorem YZ (l:List ByteArray):(setT l).length≤l.length:=by
 unfold setT
 rw [txts_length]
 have:=YT (yP l)
 rw [yz] at this
 exact this
theorem Zw (l:List ByteArray):yP (setT l)=tset (yP l):=keys_txts _
theorem set_some (l:List ByteArray) (h:l.length≤1000000000000):zZ.f l=some (setT l):=by
 unfold zZ.f
 rw [if_pos (by omega)]
 rfl
theorem join_some (a b:List ByteArray) (ha:a.length≤100000000000) (hb:b.length≤100000000000):yp.f a b=some (setT (a ++ b)):=by
 unfold yp.f
 rw [if_pos (by omega),set_some _ (by rw [List.length_append];omega)]
theorem Zi {l:List ByteArray} {i:Nat} (h:i < l.length):rdOf ByteArray.empty l (i:Int)=l[i]:=by
 unfold rdOf
 simp [List.getD_eq_getElem?_getD,h]
theorem key_at {l:List ByteArray} {i:Nat} (h:i < l.length):l[i].toList=(yP l)[i]'(by rw [yz];exact h):=by
 unfold yP zZ.keys
 rw [List.getElem_map,Lib.toList_data]
theorem is_l0 (l:List ByteArray) (hl:l.length≤1000000000000):∀(d i:Nat),1≤i→i + d=max l.length 1→(∀j (_:1≤j) (_:j < i) (h:j < (yP l).length),(yP l)[j - 1]'(by omega) < (yP l)[j])→Ev (fun k=>yh.l0 k l i) (decide (Zd (yP l))):=by
 have hk:=yz l
 intro d
 induction d with
 | zero=>
  intro i h1 hi hb
  have hr:Zd (yP l):=by
   refine List.pairwise_iff_getElem.2 fun p q hp hq hpq=> ?_
   have step:∀n,∀(hn:p + 1 + n < (yP l).length),(yP l)[p] < (yP l)[p + 1 + n]:=by
    intro n
    induction n with
    | zero=>
     intro hn
     have:=hb (p + 1) (by omega) (by omega) (by omega)
     simpa using this
    | succ n ih=>
     intro hn
     have h2:=hb (p + 1 + (n + 1)) (by omega) (by omega) hn
     exact Ym (ih (by omega)) (by simpa using h2)
   have:=step (q - p - 1) (by omega)
   simpa [show p + 1 + (q - p - 1)=q by omega] using this
  rw [decide_eq_true hr]
  exact Ev.step (fun k=>by rw [yh.l0,if_neg (by omega)]) (Ev.now _)
 | succ d ih=>
  intro i h1 hi hb
  by_cases hlt:i < l.length
  ·have hw:wrap64 ((i:Int) - 1)=((i - 1:Nat):Int):=by rw [ya (by omega)];omega
   have hw2:wrap64 ((i:Int) + 1)=((i + 1:Nat):Int):=by rw [ya (by omega)];rfl
   have hl1:i - 1 < l.length:=by omega
   have e:(Op.bytesLess ((rdOf ByteArray.empty l ((i - 1:Nat):Int)).toList) ((rdOf ByteArray.empty l (i:Int)).toList)=true)↔(yP l)[i - 1]'(by omega) < (yP l)[i]'(by omega):=by
    rw [Zi hl1,Zi hlt,Go.Proofs.bytesLess_eq,decide_eq_true_iff,key_at hl1,key_at hlt]
   refine Ev.step (fun k=>by rw [yh.l0,if_pos (by omega),hw,if_pos (by omega),if_pos (by omega),if_pos (by omega)]) ?_
   by_cases hc:(yP l)[i - 1]'(by omega) < (yP l)[i]'(by omega)
   ·refine Ev.ite_pos (e.2 hc) ?_
    rw [hw2]
    refine ih (i + 1) (by omega) (by omega) (fun j a b c=> ?_)
    by_cases ej:j=i
    ·subst ej;exact hc
    ·exact hb j a (by omega) c
   ·refine Ev.ite_neg (fun h=>hc (e.1 h)) ?_
    rw [show decide (Zd (yP l))=false from decide_eq_false (fun hr=>hc (List.pairwise_iff_getElem.1 hr _ _ (by omega) (by omega) (by omega)))]
    exact Ev.now _
  ·rw [show decide (Zd (yP l))=true from decide_eq_true (by
    have:(yP l).length≤1:=by omega
    match yP l,this with
    | [],_=>exact List.Pairwise.nil
    | [x],_=>exact List.pairwise_singleton _ _
    | _ :: _ :: _,h=>simp at h)]
   exact Ev.step (fun k=>by rw [yh.l0,if_neg (by omega)]) (Ev.now _)
theorem is_ev (l:List ByteArray) (hl:l.length≤1000000000000):Ev (fun k=>yh.f k l) (decide (Zd (yP l))):=by
 unfold yh.f
 exact is_l0 l hl (max l.length 1 - 1) 1 (Nat.le_refl _) (by omega) (fun j a b _=>by omega)
theorem mid_eq (lo hi n:Nat) (h:hi≤n) (hn:n≤1000000000000) (hl:lo≤hi):wrap64 ((IntKind.u64.wrap (wrap64 ((lo:Int) + (hi:Int)))) / 2)=(((lo + hi) / 2:Nat):Int):=by
 have h1:wrap64 ((lo:Int) + (hi:Int))=((lo + hi:Nat):Int):=by rw [ya (by omega)];rfl
 have h2:IntKind.u64.wrap ((lo + hi:Nat):Int)=((lo + hi:Nat):Int):=by
  show ((lo + hi:Nat):Int) % 18446744073709551616=_
  clear h1
  omega
 rw [h1,h2]
 clear h1 h2
 rw [ya (by omega)]
 omega
theorem less_some (a b:ByteArray):ZE.f a b=some (decide (a.data.toList < b.data.toList)):=by
 unfold ZE.f yZ.f
 simp only [bne_self_eq_false,Option.bind_some]
 rw [if_neg (by simp),Go.Proofs.bytesLess_eq,Lib.toList_data,Lib.toList_data]
theorem keysOf_at {l:List ByteArray} {i:Nat} (h:i < l.length):(yP l)[i]'(by rw [yz];exact h)=l[i].data.toList:=by
 unfold yP zZ.keys
 rw [List.getElem_map]
theorem bin_l0 (l:List ByteArray) (t:ByteArray) (hr:Zd (yP l)) (hl:l.length≤1000000000000):∀(d lo hi:Nat),hi - lo=d→lo≤lower (yP l) t.data.toList→lower (yP l) t.data.toList≤hi→hi≤l.length→
  Ev (fun k=>zN.l0 k l t l.length lo hi) ((lower (yP l) t.data.toList:Int),decide (t.data.toList ∈ yP l)):=by
 have hk:=yz l
 intro d
 induction d using Nat.strongRecOn with
 | _ d ih=>
  intro lo hi hd h1 h2 h3
  by_cases hlt:lo < hi
  ·have hm:=mid_eq lo hi l.length h3 hl (Nat.le_of_lt hlt)
   obtain ⟨m,hme⟩:∃m,m=(lo + hi) / 2:=⟨_,rfl⟩
   have hm1:lo≤m∧m < hi:=by omega
   rw [←hme] at hm
   have hw:wrap64 ((m:Int) + 1)=((m + 1:Nat):Int):=by clear hm;rw [ya (by omega)];rfl
   have q1:(lo:Int) < (hi:Int):=by clear hm hw;omega
   have q2:(0:Int)≤(m:Int):=Int.natCast_nonneg m
   have q3:m < l.length:=by clear hm hw;omega
   have q4:(m:Int) < (l.length:Int):=Int.ofNat_lt.2 q3
   have e1:∀k,zN.l0 (k + 1) l t l.length lo hi=(if decide (l[m].data.toList < t.data.toList)=true then zN.l0 k l t l.length ((m + 1:Nat):Int) hi else zN.l0 k l t l.length lo m):=by
    intro k
    rw [zN.l0]
    simp only [hm,hw]
    rw [if_pos q1,if_pos q2,if_pos q4,Zi q3,less_some,Option.bind_some]
   refine Ev.step e1 ?_
   have hi':=YD hr t.data.toList m (by clear hm hw;omega)
   rw [keysOf_at (by clear hm hw;omega)] at hi'
   by_cases hc:l[m].data.toList < t.data.toList
   ·refine Ev.ite_pos (by simpa using hc) ?_
    exact ih (hi - (m + 1)) (by clear hm hw;omega) (m + 1) hi rfl (by have:=hi'.1 hc;clear hm hw;omega) h2 h3
   ·refine Ev.ite_neg (by simpa using hc) ?_
    exact ih (m - lo) (by clear hm hw;omega) lo m rfl h1 (by have:¬m < lower (yP l) t.data.toList:=fun h=>hc (hi'.2 h);clear hm hw;omega) (by clear hm hw;omega)
  ·have e:lo=lower (yP l) t.data.toList:=by omega
   subst e
   have hmem:t.data.toList ∈ yP l↔(yP l)[lower (yP l) t.data.toList]? =some t.data.toList:=by
    constructor
    ·intro hm
     obtain ⟨j,hj,hje⟩:=List.getElem_of_mem hm
     have a1:¬j < lower (yP l) t.data.toList:=fun h=>by
      have:=(YD hr _ j hj).2 h
      rw [hje] at this;exact YF _ this
     have a2:¬lower (yP l) t.data.toList < j:=fun h=>by
      have h4:=List.pairwise_iff_getElem.1 hr _ _ (by omega) hj h
      rw [hje] at h4
      have:=(YD hr _ _ (by omega)).1 h4
      omega
     have:j=lower (yP l) t.data.toList:=by omega
     rw [←this,List.getElem?_eq_getElem hj,hje]
    ·exact fun h=>List.mem_of_getElem? h
   by_cases hend:lower (yP l) t.data.toList < l.length
   ·refine Ev.step (fun k=>by rw [zN.l0,if_neg (by omega),if_pos (by omega),if_pos (by omega),if_pos (by omega),Zi hend]) ?_
    have hg:(yP l)[lower (yP l) t.data.toList]? =some (l[lower (yP l) t.data.toList].data.toList):=by
     rw [List.getElem?_eq_getElem (by omega),keysOf_at hend]
    by_cases hc:l[lower (yP l) t.data.toList].toList=t.toList
    ·refine Ev.ite_pos hc ?_
     rw [Lib.toList_data,Lib.toList_data] at hc
     rw [decide_eq_true (hmem.2 (by rw [hg,hc]))]
     exact Ev.now _
    ·refine Ev.ite_neg hc ?_
     rw [Lib.toList_data,Lib.toList_data] at hc
     rw [decide_eq_false (fun h=>hc (by have:=hmem.1 h;rw [hg] at this;exact Option.some.inj this))]
     refine Ev.bind0 (a:=false) (by unfold yc.f;simp) (Ev.ite_neg (by simp) (Ev.now _))
   ·rw [decide_eq_false (fun h=>by have:=hmem.1 h;rw [List.getElem?_eq_none (by omega)] at this;cases this)]
    exact Ev.step (fun k=>by rw [zN.l0,if_neg (by omega),if_neg (by omega)]) (Ev.now _)
theorem bin_ev (l:List ByteArray) (t:ByteArray) (hr:Zd (yP l)) (hl:l.length≤1000000000000):Ev (fun k=>zN.f k l t) ((lower (yP l) t.data.toList:Int),decide (t.data.toList ∈ yP l)):=by
 unfold zN.f
 have h:=lower_le (yP l) t.data.toList
 rw [yz] at h
 exact bin_l0 l t hr hl _ 0 l.length rfl (Nat.zero_le _) h (Nat.le_refl _)
theorem qX (a b:ByteArray):(a ++ b).data.toList=a.data.toList ++ b.data.toList:=by simp
def tc (K:Nat) (x y:ByteArray):ByteArray:=⟨((x.data.toList ++ y.data.toList).take K).toArray⟩
theorem YH {a b:ByteArray} (h:a.data.toList=b.data.toList):a=b:=by
 apply ByteArray.ext
 apply Array.toList_inj.1 h
theorem tcat_some (x y:ByteArray) (k:Int) (hx:x.size≤1000000000000) (hy:y.size≤1000000000000) (hk: -9223372036854775808≤k∧k≤9223372036854775807):YP.f x y k=some (tc (mx k 0).toNat x y):=by
 have hsx:=YE x
 have hsy:=YE y
 unfold YP.f
 by_cases h:(x.size:Int)≥k
 ·have hm:0≤mx k 0∧mx k 0≤x.size:=by unfold mx;split <;> omega
  rw [if_pos h,if_pos hm.1,if_pos hm.2]
  congr 1
  apply YH
  rw [Zz]
  unfold tc
  simp only [List.drop_zero]
  rw [List.take_append_of_le_length (by omega)]
 ·have hm:mx k 0=k:=by unfold mx;split <;> omega
  by_cases hb:k≤9223372036854775807 - 0∧0≤k - x.size∧k - (x.size:Int)≤9223372036854775807
  ·have hw:wrap64 (k - (x.size:Int))=k - (x.size:Int):=ya (by omega)
   have hn:0≤mn (k - (x.size:Int)) (y.size:Int)∧mn (k - (x.size:Int)) (y.size:Int)≤y.size:=by unfold mn;split <;> omega
   rw [if_neg h,hw,if_pos hn.1,if_pos hn.2,if_pos (by rw [ByteArray.size_extract];clear hw;omega)]
   congr 1
   apply YH
   rw [qX,Zz]
   unfold tc
   simp only [List.drop_zero]
   rw [hm,List.take_append]
   rw [List.take_of_length_le (show x.data.toList.length≤k.toNat by clear hw;omega)]
   congr 1
   have e:(mn (k - (x.size:Int)) (y.size:Int)).toNat=min (k.toNat - x.data.toList.length) y.data.toList.length:=by
    rw [hsx,hsy]
    unfold mn
    clear hw
    split <;> omega
   rw [e,List.take_eq_take_iff]
   omega
  ·exact absurd ⟨by omega,by omega,by omega⟩ hb
def YC (K:Nat) (b:List ByteArray) (x:ByteArray):List ByteArray:=if K≤x.size∧0 < b.length then [x.extract 0 K] else b.map (tc K x)
theorem rowOf_length (K:Nat) (b:List ByteArray) (x:ByteArray):(YC K b x).length≤b.length:=by
 unfold YC
 split
 ·rename_i h;exact h.2
 ·simp
section
variable (b : List ByteArray) (k : Int) (hk : -9223372036854775808 ≤ k ∧ k ≤ 9223372036854775807) (hb : b.length ≤ 1000000) (hbs : ∀ y ∈ b, y.size ≤ 1000000000000)
include hk hb hbs
theorem cat_l1 (x:ByteArray) (hx:x.size≤1000000000000) (A:List ByteArray) (i:Int) (r:List ByteArray):∀(d j:Nat) (acc:List ByteArray),j + d=b.length→acc.length + d≤1000000000000→
  Ev (fun n=>zq.l0 n b k (acc ++ (b.drop j).map (tc (mx k 0).toNat x)) A A.length (wrap64 (i + 1))) r→Ev (fun n=>zq.l1 n b k acc x A A.length i b b.length j) r:=by
 intro d
 induction d with
 | zero=>
  intro j acc hj _ h
  rw [List.drop_of_length_le (by omega),List.map_nil,List.append_nil] at h
  exact Ev.step (fun n=>by rw [zq.l1,if_neg (by omega)]) h
 | succ d ih=>
  intro j acc hj ha h
  have hlt:j < b.length:=by omega
  have hw:wrap64 ((j:Int) + 1)=((j + 1:Nat):Int):=by rw [ya (by omega)];rfl
  refine Ev.step (fun n=>by rw [zq.l1,if_pos (by clear hw;omega),if_pos (by clear hw;omega),if_pos (by clear hw;omega),Zi hlt,hw]) ?_
  refine Ev.bind0 (tcat_some x b[j] k hx (hbs _ (List.getElem_mem _)) hk) (Ev.ite_pos (by clear hw;omega) ?_)
  refine ih (j + 1) _ (by omega) (by simp;omega) ?_
  rw [List.drop_eq_getElem_cons hlt,List.map_cons] at h
  simpa using h
theorem cat_l0 (a:List ByteArray) (hal:a.length≤100000) (has:∀x ∈ a,x.size≤1000000000000):∀(d i:Nat) (acc:List ByteArray),i + d=a.length→acc.length + d * b.length≤100000000000→
  Ev (fun n=>zq.l0 n b k acc a a.length i) (setT (acc ++ (a.drop i).flatMap (YC (mx k 0).toNat b))):=by
 intro d
 induction d with
 | zero=>
  intro i acc hi ha
  rw [List.drop_of_length_le (by omega),List.flatMap_nil,List.append_nil]
  exact Ev.step (fun n=>by rw [zq.l0,if_neg (by omega)]) (Ev.bind0 (set_some acc (by omega)) (Ev.now _))
 | succ d ih=>
  intro i acc hi ha
  have hlt:i < a.length:=by omega
  have hw:wrap64 ((i:Int) + 1)=((i + 1:Nat):Int):=by rw [ya (by omega)];rfl
  have hsz:=has _ (List.getElem_mem hlt)
  have hmx:0≤mx k 0:=by unfold mx;split <;> omega
  have hlen:=rowOf_length (mx k 0).toNat b a[i]
  have hmul:(d + 1) * b.length=d * b.length + b.length:=Nat.succ_mul _ _
  rw [List.drop_eq_getElem_cons hlt,List.flatMap_cons,←List.append_assoc]
  have ih':=ih (i + 1) (acc ++ YC (mx k 0).toNat b a[i]) (by omega) (by rw [List.length_append];omega)
  refine Ev.step (fun n=>by rw [zq.l0,if_pos (by clear hw;omega),if_pos (by clear hw;omega),if_pos (by clear hw;omega),Zi hlt]) ?_
  have hj1t:∀(hc1:mx k 0≤(a[i].size:Int)) (hc2:0 < b.length),Ev (fun n=>zq.j1 n b k acc a[i] a a.length i true) (setT (acc ++ YC (mx k 0).toNat b a[i] ++ (a.drop (i + 1)).flatMap (YC (mx k 0).toNat b))):=by
   intro hc1 hc2
   refine Ev.step (fun n=>by rw [zq.j1,if_pos rfl,if_pos hmx,if_pos hc1,if_pos (by clear hw;omega),hw]) ?_
   have e:YC (mx k 0).toNat b a[i]= [a[i].extract 0 (mx k 0).toNat]:=by unfold YC;rw [if_pos ⟨by clear hw;omega,hc2⟩]
   rw [e] at ih'⊢
   exact ih'
  have hj1f:¬((mx k 0).toNat≤a[i].size∧0 < b.length)→Ev (fun n=>zq.j1 n b k acc a[i] a a.length i false) (setT (acc ++ YC (mx k 0).toNat b a[i] ++ (a.drop (i + 1)).flatMap (YC (mx k 0).toNat b))):=by
   intro hc
   refine Ev.step (fun n=>by rw [zq.j1,if_neg (by simp)]) ?_
   have e:YC (mx k 0).toNat b a[i]=b.map (tc (mx k 0).toNat a[i]):=by unfold YC;rw [if_neg hc]
   refine cat_l1 b k hk hb hbs a[i] hsz a i _ b.length 0 acc (by omega) (by clear hw;omega) ?_
   rw [List.drop_zero,hw,←e]
   exact ih'
  by_cases hc1:(a[i].size:Int)≥mx k 0
  ·refine Ev.ite_pos hc1 ?_
   by_cases hc2:0 < b.length
   ·rw [show decide ((b.length:Int) > 0)=true from decide_eq_true (by clear hw;omega)]
    exact hj1t hc1 hc2
   ·rw [show decide ((b.length:Int) > 0)=false from decide_eq_false (by clear hw;omega)]
    exact hj1f (fun h=>hc2 h.2)
  ·refine Ev.ite_neg hc1 (hj1f (fun h=>hc1 (by have:=h.1;clear hw;omega)))
theorem cat_ev (a:List ByteArray) (hal:a.length≤100000) (has:∀x ∈ a,x.size≤1000000000000):Ev (fun n=>zq.f n a b k) (setT (a.flatMap (YC (mx k 0).toNat b))):=by
 unfold zq.f
 have h:=cat_l0 b k hk hb hbs a hal has a.length 0 [] (by omega) (by
  have:a.length * b.length≤100000 * 1000000:=Nat.mul_le_mul hal hb
  simp;omega)
 simpa using h
end
theorem mem_row (K:Nat) (a b:List ByteArray) (t:Txt):t ∈ yP (a.flatMap (YC K b))↔∃x ∈ a,∃y ∈ b,t=(x.data.toList ++ y.data.toList).take K:=by
 unfold yP zZ.keys
 simp only [List.mem_map,List.mem_flatMap]
 constructor
 ·rintro ⟨z,⟨x,hx,hz⟩,rfl⟩
  refine ⟨x,hx,?_⟩
  unfold YC at hz
  split at hz
  ·rename_i hc
   obtain ⟨y,hy⟩:=List.exists_mem_of_length_pos hc.2
   refine ⟨y,hy,?_⟩
   rw [List.mem_singleton.1 hz,Zz]
   simp only [List.drop_zero]
   rw [List.take_append_of_le_length (by have:=YE x;omega)]
  ·obtain ⟨y,hy,rfl⟩:=List.mem_map.1 hz
   exact ⟨y,hy,rfl⟩
 ·rintro ⟨x,hx,y,hy,rfl⟩
  unfold YC
  by_cases hc:K≤x.size∧0 < b.length
  ·refine ⟨x.extract 0 K,⟨x,hx,by rw [if_pos hc];simp⟩,?_⟩
   rw [Zz]
   simp only [List.drop_zero]
   rw [List.take_append_of_le_length (by have:=YE x;omega)]
  ·exact ⟨tc K x y,⟨x,hx,by rw [if_neg hc];exact List.mem_map.2 ⟨y,hy,rfl⟩⟩,rfl⟩
theorem YU {l:List ByteArray} {x:ByteArray} :x.data.toList ∈ yP l↔x ∈ l:=by
 unfold yP zZ.keys
 rw [List.mem_map]
 constructor
 ·rintro ⟨y,hy,e⟩
  rw [←YH e];exact hy
 ·exact fun h=>⟨x,h,rfl⟩
theorem YA {l:List ByteArray} {x:ByteArray} :x ∈ setT l↔x ∈ l:=by
 rw [←YU,Zw,(yd _).2,YU]
theorem setT_congr {a b:List ByteArray} (h:∀x,x ∈ a↔x ∈ b):setT a=setT b:=by
 unfold setT
 rw [tset_congr (a:=yP a) (b:=yP b) fun t=> ?_]
 unfold yP zZ.keys
 simp only [List.mem_map,h]
theorem rmid_eq (lo hi n:Nat) (h:hi≤n) (hn:n≤1000000000000):wrap64 (Int.tdiv (wrap64 ((lo:Int) + (hi:Int))) 2)=(((lo + hi) / 2:Nat):Int)∨¬lo≤hi:=by
 by_cases hl:lo≤hi
 ·left
  have h1:wrap64 ((lo:Int) + (hi:Int))=((lo + hi:Nat):Int):=by rw [ya (by omega)];rfl
  have h2:Int.tdiv ((lo + hi:Nat):Int) 2=(((lo + hi) / 2:Nat):Int):=by
   rw [Int.tdiv_eq_ediv_of_nonneg (by omega)];rfl
  rw [h1,h2]
  clear h1 h2
  rw [ya (by omega)]
 ·exact .inr hl
def putB (l:List ByteArray) (t:ByteArray):List ByteArray:=txts (putT (yP l) t.data.toList)
theorem keysOf_at' {l:List ByteArray} {i:Nat} (h:i < l.length):(yP l)[i]'(by rw [yz];exact h)=l[i].data.toList:=by
 unfold yP zZ.keys
 rw [List.getElem_map]
theorem less_iff' (a b:ByteArray):Op.bytesLess a.toList b.toList=true↔a.data.toList < b.data.toList:=by
 rw [Go.Proofs.bytesLess_eq,Lib.toList_data,Lib.toList_data,decide_eq_true_iff]
theorem put_l0 (l:List ByteArray) (t:ByteArray) (hr:Zd (yP l)) (hl:l.length≤1000000000000):∀(d lo hi:Nat),hi - lo=d→lo≤lower (yP l) t.data.toList→lower (yP l) t.data.toList≤hi→hi≤l.length→
  Ev (fun k=>zX.l0 k l t lo hi) (putB l t):=by
 have hk:=yz l
 intro d
 induction d using Nat.strongRecOn with
 | _ d ih=>
  intro lo hi hd h1 h2 h3
  by_cases hlt:lo < hi
  ·have hm:wrap64 (Int.tdiv (wrap64 ((lo:Int) + (hi:Int))) 2)=(((lo + hi) / 2:Nat):Int):=(rmid_eq lo hi l.length h3 hl).resolve_right (fun h=>h (Nat.le_of_lt hlt))
   obtain ⟨m,hme⟩:∃m,m=(lo + hi) / 2:=⟨_,rfl⟩
   have hm1:lo≤m∧m < hi:=by clear hm;omega
   rw [←hme] at hm
   have hw:wrap64 ((m:Int) + 1)=((m + 1:Nat):Int):=by clear hm;rw [ya (by omega)];rfl
   have q1:(lo:Int) < (hi:Int):=by clear hm hw;omega
   have q2:(0:Int)≤(m:Int):=Int.natCast_nonneg m
   have q3:m < l.length:=by clear hm hw;omega
   have q4:(m:Int) < (l.length:Int):=Int.ofNat_lt.2 q3
   refine Ev.step (fun k=>by rw [zX.l0,if_pos q1,hm,hw,if_pos q2,if_pos q4,Zi q3]) ?_
   have hi':=YD hr t.data.toList m (by clear hm hw;omega)
   rw [keysOf_at' q3] at hi'
   by_cases hc:l[m].data.toList < t.data.toList
   ·refine Ev.ite_pos ((less_iff' _ _).2 hc) ?_
    exact ih (hi - (m + 1)) (by clear hm hw;omega) (m + 1) hi rfl (by have:=hi'.1 hc;clear hm hw;omega) h2 h3
   ·refine Ev.ite_neg (fun h=>hc ((less_iff' _ _).1 h)) ?_
    exact ih (m - lo) (by clear hm hw;omega) lo m rfl h1 (by have:¬m < lower (yP l) t.data.toList:=fun h=>hc (hi'.2 h);clear hm hw;omega) (by clear hm hw;omega)
  ·have e:lo=lower (yP l) t.data.toList:=by omega
   have hlo:lo≤l.length:=by omega
   have hput:¬(yP l)[lo]? =some t.data.toList→putB l t=l.take lo ++ [t] ++ l.drop lo:=fun h=>by
    unfold putB putT
    rw [←e,if_neg h]
    unfold txts yP zZ.keys zZ.texts
    simp [List.map_take,List.map_drop,Function.comp_def]
   have hsame:(yP l)[lo]? =some t.data.toList→putB l t=l:=fun h=>by
    unfold putB putT
    rw [←e,if_pos h,qD]
   have z0:((lo:Nat):Int).toNat=lo:=Int.toNat_natCast lo
   have s1:(([]:List ByteArray)).length + (l.take lo).length < 8796093022208:=by simp;omega
   have s2:(([]:List ByteArray) ++ l.take lo).length + [t].length < 8796093022208:=by simp;omega
   have s3:(([]:List ByteArray) ++ l.take lo ++ [t]).length + (l.drop lo).length < 8796093022208:=by simp;omega
   clear h1 h2
   by_cases hend:lo < l.length
   ·have hg:(yP l)[lo]? =some (l[lo].data.toList):=by
     rw [List.getElem?_eq_getElem (by omega),keysOf_at' hend]
    by_cases hc:l[lo].toList=t.toList
    ·have hc':=hc
     rw [Lib.toList_data,Lib.toList_data] at hc'
     rw [hsame (by rw [hg,hc'])]
     exact Ev.step (fun k=>by rw [zX.l0,if_neg (by omega),if_pos (by omega),if_pos (by omega),Zi hend,if_pos hc]) (Ev.now _)
    ·have hc':=hc
     rw [Lib.toList_data,Lib.toList_data] at hc'
     rw [hput (fun h=>hc' (by rw [hg] at h;exact Option.some.inj h))]
     refine Ev.step (fun k=>by rw [zX.l0,if_neg (by omega),if_pos (by omega),if_pos (by omega),Zi hend,if_neg hc]) (Ev.const ?_)
     simp only [Option.bind_some,z0]
     rw [if_pos (by omega),if_pos s1,if_pos s2,if_pos s3,List.nil_append]
   ·rw [hput (fun h=>by rw [List.getElem?_eq_none (by omega)] at h;cases h)]
    refine Ev.step (fun k=>by rw [zX.l0,if_neg (by omega),if_neg (by omega)]) (Ev.const ?_)
    simp only [Option.bind_some,z0]
    rw [if_pos (by omega),if_pos (by omega),if_pos s1,if_pos s2,if_pos s3,List.nil_append]
theorem put_ev (l:List ByteArray) (t:ByteArray) (hr:Zd (yP l)) (hl:l.length≤1000000000000):Ev (fun k=>zX.f k l t) (putB l t):=by
 unfold zX.f
 have h:=lower_le (yP l) t.data.toList
 rw [yz] at h
 exact put_l0 l t hr hl _ 0 l.length rfl (Nat.zero_le _) h (Nat.le_refl _)
instance memDec (x:ByteArray) (l:List ByteArray):Decidable (x ∈ l):=decidable_of_iff (∃y ∈ l,y=x) ⟨fun ⟨_,h,e⟩=>e▸h,fun h=>⟨x,h,rfl⟩⟩
theorem qR (L:List ByteArray) (t:ByteArray):putB (setT L) t=setT (L ++ [t]):=by
 unfold putB
 rw [Zw]
 unfold setT
 rw [keys_append]
 exact congrArg txts (putAll_tset (yP L) [t.data.toList])
theorem key_inj {a b:ByteArray} :a.toList=b.toList↔a=b:=by
 rw [Lib.toList_data,Lib.toList_data]
 exact ⟨YH,fun h=>h▸rfl⟩
theorem same_dec (a b:List ByteArray) (hl:a.length≤1000000000000):Ev (fun k=>zb.f k a b) (decide (a=b)):=by
 unfold zb.f
 by_cases hab:a.length=b.length
 ·refine Ev.ite_pos (by omega) ?_
  have:∀(d i:Nat),i + d=a.length→Ev (fun k=>zb.l0 k a b i) (decide (a.drop i=b.drop i)):=by
   intro d
   induction d with
   | zero=>
    intro i hi
    rw [List.drop_of_length_le (by omega),List.drop_of_length_le (by omega)]
    exact Ev.step (fun k=>by rw [zb.l0,if_neg (by omega)];rfl) (Ev.now _)
   | succ d ih=>
    intro i hi
    have h1:i < a.length:=by omega
    have h2:i < b.length:=by omega
    have hw:wrap64 ((i:Int) + 1)=((i + 1:Nat):Int):=by rw [ya (by omega)];rfl
    refine Ev.step (fun k=>by rw [zb.l0,if_pos (by clear hw;omega),if_pos (by clear hw;omega),if_pos (by clear hw;omega),Zi h1,Zi h2,hw]) ?_
    rw [List.drop_eq_getElem_cons h1,List.drop_eq_getElem_cons h2]
    by_cases e:a[i]=b[i]
    ·refine Ev.ite_pos (key_inj.2 e) ?_
     rw [show decide (a[i] :: a.drop (i + 1)=b[i] :: b.drop (i + 1))=decide (a.drop (i + 1)=b.drop (i + 1)) from decide_eq_decide.2 (by rw [List.cons.injEq];exact ⟨fun h=>h.2,fun h=>⟨e,h⟩⟩)]
     exact ih (i + 1) (by clear hw;omega)
    ·refine Ev.ite_neg (fun h=>e (key_inj.1 h)) ?_
     rw [decide_eq_false (by rw [List.cons.injEq];exact fun h=>e h.1)]
     exact Ev.now _
  have h:=this a.length 0 (by omega)
  rw [List.drop_zero,List.drop_zero] at h
  exact h
 ·rw [decide_eq_false (fun h=>hab (by rw [h]))]
  exact Ev.ite_neg (by omega) (Ev.now _)
theorem setT_nil:setT []= []:=by unfold setT;rw [show yP []= [] from rfl,Yf qC];rfl
theorem rmake_ev (l:List ByteArray) (hl:l.length≤100000000):Ev (fun k=>yC.f k l) (setT l):=by
 have:∀(d i:Nat),i + d=l.length→Ev (fun k=>yC.l0 k l (setT (l.take i)) i) (setT l):=by
  intro d
  induction d with
  | zero=>
   intro i hi
   rw [List.take_of_length_le (by omega)]
   exact Ev.step (fun k=>by rw [yC.l0,if_neg (by omega)]) (Ev.now _)
  | succ d ih=>
   intro i hi
   have h1:i < l.length:=by omega
   have hw:wrap64 ((i:Int) + 1)=((i + 1:Nat):Int):=by rw [ya (by omega)];rfl
   refine Ev.step (fun k=>by rw [yC.l0,if_pos (by clear hw;omega),if_pos (by clear hw;omega),Zi h1,hw]) ?_
   have hp:=put_ev (setT (l.take i)) l[i] (by rw [Zw];exact (yd _).1) (by have:=YZ (l.take i);rw [List.length_take] at this;clear hw;omega)
   rw [qR,←List.take_succ_eq_append_getElem h1] at hp
   exact Ev.bind hp (ih (i + 1) (by clear hw;omega))
 have h:=this l.length 0 (by omega)
 rw [List.take_zero,setT_nil] at h
 exact h
theorem rjoin_ev (a b:List ByteArray) (ha:a.length≤10000000) (hb:b.length≤10000000):Ev (fun k=>zt.f k a b) (setT (a ++ b)):=by
 have:∀(d i:Nat),i + d=b.length→Ev (fun k=>zt.l0 k b (setT (a ++ b.take i)) i) (setT (a ++ b)):=by
  intro d
  induction d with
  | zero=>
   intro i hi
   rw [List.take_of_length_le (by omega)]
   exact Ev.step (fun k=>by rw [zt.l0,if_neg (by omega)]) (Ev.now _)
  | succ d ih=>
   intro i hi
   have h1:i < b.length:=by omega
   have hw:wrap64 ((i:Int) + 1)=((i + 1:Nat):Int):=by rw [ya (by omega)];rfl
   refine Ev.step (fun k=>by rw [zt.l0,if_pos (by clear hw;omega),if_pos (by clear hw;omega),Zi h1,hw]) ?_
   have hp:=put_ev (setT (a ++ b.take i)) b[i] (by rw [Zw];exact (yd _).1) (by have:=YZ (a ++ b.take i);rw [List.length_append,List.length_take] at this;clear hw;omega)
   rw [qR,List.append_assoc,←List.take_succ_eq_append_getElem h1] at hp
   exact Ev.bind hp (ih (i + 1) (by clear hw;omega))
 unfold zt.f
 have h:=this b.length 0 (by omega)
 rw [List.take_zero,List.append_nil] at h
 exact Ev.bind (rmake_ev a (by omega)) h
theorem index_dec (t:ByteArray) (l:List ByteArray) (hl:l.length≤1000000000000):∀(d i:Nat),i + d=l.length→∃z:Int,(0≤z↔t ∈ l.drop i)∧Ev (fun k=>zm.l0 k l t l.length i) z:=by
 intro d
 induction d with
 | zero=>
  intro i hi
  exact ⟨-1,by rw [List.drop_of_length_le (by omega)];simp,Ev.step (fun k=>by rw [zm.l0,if_neg (by omega)]) (Ev.now _)⟩
 | succ d ih=>
  intro i hi
  have hlt:i < l.length:=by omega
  have hw:wrap64 ((i:Int) + 1)=((i + 1:Nat):Int):=by rw [ya (by omega)];rfl
  by_cases e:t=l[i]
  ·exact ⟨i,by rw [List.drop_eq_getElem_cons hlt,←e];simp,Ev.step (fun k=>by rw [zm.l0,if_pos (by clear hw;omega),if_pos (by clear hw;omega),if_pos (by clear hw;omega),Zi hlt,if_pos (key_inj.2 e)]) (Ev.now _)⟩
  ·obtain ⟨z,h0,hz⟩:=ih (i + 1) (by clear hw;omega)
   exact ⟨z,by rw [h0,List.drop_eq_getElem_cons hlt,List.mem_cons];exact ⟨.inr,fun h=>h.resolve_left e⟩,Ev.step (fun k=>by rw [zm.l0,if_pos (by clear hw;omega),if_pos (by clear hw;omega),if_pos (by clear hw;omega),Zi hlt,if_neg (fun h=>e (key_inj.1 h)),hw]) hz⟩
theorem has_dec (l:List ByteArray) (t:ByteArray) (hl:l.length≤1000000):Ev (fun k=>ZS.f k l t) (decide (t ∈ l)):=by
 unfold ZS.f
 refine Ev.bind (is_ev l (by omega)) ?_
 by_cases hr:Zd (yP l)
 ·refine Ev.ite_pos (by simpa using hr) (Ev.bind (bin_ev l t hr (by omega)) (Ev.some ?_))
  exact decide_eq_decide.2 YU
 ·refine Ev.ite_neg (by simpa using hr) ?_
  obtain ⟨z,h0,hz⟩:=index_dec t l (by omega) l.length 0 (by omega)
  unfold yI.f zm.f
  refine Ev.bind (Ev.bind hz (Ev.now _)) (Ev.some ?_)
  rw [List.drop_zero] at h0
  exact decide_eq_decide.2 h0
abbrev Sets:=List (List ByteArray)
def setP (l:List ByteArray):List ByteArray:=txts (Zt [] (yP l))
theorem ZU (l:List ByteArray):setP l=setT l:=congrArg txts (putAll_nil _)
abbrev CatF:=List ByteArray→List ByteArray→List ByteArray
def rowG (C:CatF) (M:Nat) (sets:Sets):List Sym→List ByteArray→List ByteArray × Bool
 | [],out=>(out,true)
 | s :: l,out=>if M < (C out (if s.f0=true then [strOfNums [s.f1 % 256]] else zh sets s.f1)).length then ([],false) else rowG C M sets l (C out (if s.f0=true then [strOfNums [s.f1 % 256]] else zh sets s.f1))
def yn (C:CatF) (M:Nat):List Prod'→Sets→Bool→Sets × Bool × Bool
 | [],sets,more=>(sets,more,true)
 | p :: ps,sets,more=>if (rowG C M sets p.f1 [(⟨#[]⟩:ByteArray)]).2=false then (sets,false,false) else if M < (setP (zh sets p.f0 ++ (rowG C M sets p.f1 [(⟨#[]⟩:ByteArray)]).1)).length then (sets,false,false) else yn C M ps (sets.set p.f0.toNat (setP (zh sets p.f0 ++ (rowG C M sets p.f1 [(⟨#[]⟩:ByteArray)]).1))) (more || decide ((zh sets p.f0).length < (setP (zh sets p.f0 ++ (rowG C M sets p.f1 [(⟨#[]⟩:ByteArray)]).1)).length))
def Zn (C:CatF) (M:Nat) (ps:List Prod'):Nat→Sets→Option Sets
 | 0,_=>none
 | m + 1,sets=>if (yn C M ps sets false).2.2=false then none else if (yn C M ps sets false).2.1=false then some (yn C M ps sets false).1 else Zn C M ps m (yn C M ps sets false).1
def Zo (M:Nat) (a:List ByteArray):Prop:=a.length≤M∧∀x ∈ a,x.size≤4
def yf (M:Nat) (sets:Sets):Prop:=∀a ∈ sets,Zo M a∧setT a=a
theorem Zq {sets:Sets} {i:Int} (h:0≤i∧i < sets.length):zh sets i ∈ sets:=by
 unfold zh
 rw [List.getD_eq_getElem?_getD,List.getElem?_eq_getElem (by omega)]
 exact List.getElem_mem _
theorem Yu (n:Int):(strOfNums [n]).size=1:=rfl
theorem tok_good {M:Nat} (hM:1≤M) (n:Int):Zo M [strOfNums [n]]:=⟨by simpa using hM,fun x hx=>by rw [List.mem_singleton.1 hx,Yu];omega⟩
theorem ZT {M:Nat} (hM:1≤M):Zo M [(⟨#[]⟩:ByteArray)]:=⟨by simpa using hM,fun x hx=>by rw [List.mem_singleton.1 hx];decide⟩
theorem qY {M:Nat} (hM:1≤M) {toks:Int} {sets:Sets} (hS:yf M sets) {s:Sym} (hs:yg toks sets.length s=false):Zo M (if s.f0=true then [strOfNums [s.f1 % 256]] else zh sets s.f1)∧(s.f0=false→0≤s.f1∧s.f1 < sets.length):=by
 unfold yg at hs
 cases h:s.f0
 ·rw [h] at hs
  have h2:0≤s.f1∧s.f1 < sets.length:=by simpa using hs
  exact ⟨(hS _ (Zq h2)).1,fun _=>h2⟩
 ·exact ⟨tok_good hM _,fun h=>by cases h⟩
theorem YQ {C:CatF} {M:Nat} (hC:∀a b,∀x ∈ C a b,x.size≤4) (sets:Sets):∀(l:List Sym) (out:List ByteArray),Zo M out→Zo M (rowG C M sets l out).1:=by
 intro l
 induction l with
 | nil=>intro out h;exact h
 | cons s l ih=>
  intro out h
  unfold rowG
  by_cases h6:M < (C out (if s.f0=true then [strOfNums [s.f1 % 256]] else zh sets s.f1)).length
  ·rw [if_pos h6];exact ⟨Nat.zero_le _,fun x hx=>nomatch hx⟩
  ·rw [if_neg h6];exact ih _ ⟨Nat.not_lt.1 h6,hC _ _⟩
theorem qE (l:List ByteArray):setT (setT l)=setT l:=setT_congr fun x=>YA
theorem setT_inj {a b:List ByteArray} (ha:setT a=a) (hb:setT b=b) (hs:∀x ∈ a,x ∈ b) (hl:b.length≤a.length):a=b:=by
 have hra:Zd (yP a):=by rw [←ha,Zw];exact (yd _).1
 have hrb:Zd (yP b):=by rw [←hb,Zw];exact (yd _).1
 have hk:yP a=yP b:=by
  refine Yv hra hrb fun x=>⟨fun hx=> ?_,fun hx=> ?_⟩
  ·obtain ⟨y,hy,rfl⟩:=List.mem_map.1 hx
   exact YU.2 (hs y hy)
  ·refine Classical.byContradiction fun hn=> ?_
   have h:(x :: yP a).length≤(yP b).length:=YL _ _ (List.pairwise_cons.2 ⟨fun y hy e=>hn (e▸hy),hra.imp fun h=>(qS _ _).1 h |>.2⟩) (fun y hy=>by
    rcases List.mem_cons.1 hy with e|h
    ·exact e▸hx
    ·obtain ⟨z,hz,rfl⟩:=List.mem_map.1 h
     exact YU.2 (hs z hz))
   rw [List.length_cons,yz,yz] at h
   omega
 rw [←qD a,hk,qD]
def YI (sets:Sets):Nat:=(sets.map List.length).sum
theorem total_le {M:Nat} :∀ {sets:Sets},yf M sets→YI sets≤M * sets.length:=by
 intro sets
 induction sets with
 | nil=>intro _;exact Nat.le_refl _
 | cons a sets ih=>
  intro h
  have h1:=(h a List.mem_cons_self).1.1
  have h2:=ih fun x hx=>h x (List.mem_cons_of_mem _ hx)
  unfold YI at h2⊢
  rw [List.map_cons,List.sum_cons,List.length_cons,Nat.mul_succ]
  omega
theorem total_set:∀(sets:Sets) (i:Nat) (h:i < sets.length) (j:List ByteArray),YI (sets.set i j) + (sets[i]).length=YI sets + j.length:=by
 intro sets
 induction sets with
 | nil=>intro i h;simp at h
 | cons a sets ih=>
  intro i h j
  cases i with
  | zero=>
   unfold YI
   simp only [List.set_cons_zero,List.map_cons,List.sum_cons,List.getElem_cons_zero]
   omega
  | succ i=>
   have:=ih i (by simpa using h) j
   unfold YI at this⊢
   simp only [List.set_cons_succ,List.map_cons,List.sum_cons,List.getElem_cons_succ]
   omega
theorem rd_at {sets:Sets} {i:Int} (h:0≤i∧i < sets.length):zh sets i=sets[i.toNat]'(by omega):=by
 unfold zh
 rw [List.getD_eq_getElem?_getD,List.getElem?_eq_getElem (by omega)]
 rfl
theorem Zx {M:Nat} {sets:Sets} (hS:yf M sets) (i:Nat) {j:List ByteArray} (hj:Zo M j) (hf:setT j=j):yf M (sets.set i j):=by
 intro a ha
 rcases List.mem_or_eq_of_mem_set ha with h|h
 ·exact hS a h
 ·exact h▸⟨hj,hf⟩
theorem Zp {toks:Int} {n:Nat} {p:Prod'} (h:yX toks n p=false):(0≤p.f0∧p.f0 < n)∧p.f1.any (yg toks n)=false:=by
 unfold yX at h
 rw [Bool.or_eq_false_iff] at h
 exact ⟨by simpa using h.1,h.2⟩
theorem qF {M:Nat} {sets:Sets} {i:Int} (hS:yf M sets) (h:0≤i∧i < sets.length) {x:List ByteArray} (hx:Zo M x) (hl:(setP (zh sets i ++ x)).length≤M):Zo M (setP (zh sets i ++ x))∧setT (setP (zh sets i ++ x))=setP (zh sets i ++ x):=by
 refine ⟨⟨hl,fun y hy=> ?_⟩,by rw [ZU,qE]⟩
 rw [ZU,YA,List.mem_append] at hy
 rcases hy with hy|hy
 ·exact (hS _ (Zq h)).1.2 y hy
 ·exact hx.2 y hy
theorem Yn {M:Nat} {sets:Sets} {i:Int} (hS:yf M sets) (h:0≤i∧i < sets.length) (x:List ByteArray):(zh sets i).length≤(setP (zh sets i ++ x)).length∧((setP (zh sets i ++ x)).length≤(zh sets i).length→zh sets i=setP (zh sets i ++ x)):=by
 have hf:=(hS _ (Zq h)).2
 have hsub:∀y ∈ zh sets i,y ∈ setP (zh sets i ++ x):=fun y hy=>by
  rw [ZU,YA];exact List.mem_append_left _ hy
 refine ⟨?_,fun hl=>setT_inj hf (by rw [ZU,qE]) hsub hl⟩
 have hr:Zd (yP (zh sets i)):=by rw [←hf,Zw];exact (yd _).1
 have hh:=qr hr (b:=yP (setP (zh sets i ++ x))) fun y hy=>by
  obtain ⟨z,hz,rfl⟩:=List.mem_map.1 hy
  exact YU.2 (hsub z hz)
 rwa [yz,yz] at hh
theorem Ya {C:CatF} {M:Nat} (hC:∀a b,∀x ∈ C a b,x.size≤4) (hM:1≤M) {toks:Int} {n:Nat} :∀(ps:List Prod') (sets:Sets) (more:Bool),yf M sets→sets.length=n→ps.any (yX toks n)=false→
  yf M (yn C M ps sets more).1∧(yn C M ps sets more).1.length=n∧YI sets≤YI (yn C M ps sets more).1∧(more=false→(yn C M ps sets more).2.1=true→YI sets < YI (yn C M ps sets more).1):=by
 intro ps
 induction ps with
 | nil=>intro sets more hS hn _;exact ⟨hS,hn,Nat.le_refl _,fun h1 h2=>by rw [show (yn C M [] sets more).2.1=more from rfl,h1] at h2;cases h2⟩
 | cons p ps ih=>
  intro sets more hS hn hb
  rw [List.any_cons,Bool.or_eq_false_iff] at hb
  obtain ⟨hp,hr⟩:=Zp hb.1
  rw [←hn] at hp
  unfold yn
  have hx:=YQ hC sets p.f1 _ (ZT hM)
  generalize (rowG C M sets p.f1 [(⟨#[]⟩:ByteArray)])=x at hx⊢
  by_cases h1:x.2=false
  ·rw [if_pos h1];exact ⟨hS,hn,Nat.le_refl _,fun _ h2=>by cases h2⟩
  rw [if_neg h1]
  by_cases h2:M < (setP (zh sets p.f0 ++ x.1)).length
  ·rw [if_pos h2];exact ⟨hS,hn,Nat.le_refl _,fun _ h2=>by cases h2⟩
  rw [if_neg h2]
  obtain ⟨hj,hf⟩:=qF hS hp hx (Nat.not_lt.1 h2)
  obtain ⟨hg,-⟩:=Yn hS hp x.1
  have ht:=total_set sets p.f0.toNat (by omega) (setP (zh sets p.f0 ++ x.1))
  rw [←rd_at hp] at ht
  obtain ⟨i1,i2,i3,i4⟩:=ih (sets.set p.f0.toNat (setP (zh sets p.f0 ++ x.1))) (more || decide ((zh sets p.f0).length < (setP (zh sets p.f0 ++ x.1)).length)) (Zx hS _ hj hf) (by rw [List.length_set];exact hn) hb.2
  refine ⟨i1,i2,by omega,fun hm hm2=> ?_⟩
  by_cases h3:(zh sets p.f0).length < (setP (zh sets p.f0 ++ x.1)).length
  ·omega
  ·have:=i4 (by rw [hm,decide_eq_false h3];rfl) hm2
   omega
set_option linter.unusedSectionVars false
section
variable {C : CatF} {M : Nat} (hC : ∀ a b, ∀ x ∈ C a b, x.size ≤ 4) (hM : 1 ≤ M) (cat : Nat → List ByteArray → List ByteArray → Option (List ByteArray)) (hcat : ∀ a b, Zo M a → Zo M b → Ev (fun k => cat k a b) (C a b)) (hM2 : M ≤ 1000000) (toks : Int) (of : List Int)
include hC hM hcat hM2
theorem row_ev {sets:Sets} (hS:yf M sets):∀(l:List Sym) (out:List ByteArray),Zo M out→l.any (yg toks sets.length)=false→
  Ev (fun k=>zd.row (cat k) sets (M:Int) l out) (rowG C M sets l out):=by
 intro l
 induction l with
 | nil=>intro out _ _;exact Ev.now _
 | cons s l ih=>
  intro out ho hb
  rw [List.any_cons,Bool.or_eq_false_iff] at hb
  obtain ⟨hg,hn⟩:=qY hM hS hb.1
  have hc:=hcat _ _ ho hg
  unfold rowG
  refine Ev.congr (fun k=>by rw [zd.row]) (Ev.bind0 (a:=if s.f0=true then [strOfNums [s.f1 % 256]] else zh sets s.f1) ?_ (Ev.bind hc ?_))
  ·cases h:s.f0
   ·rw [if_neg Bool.false_ne_true,if_neg Bool.false_ne_true,if_pos (hn h)]
   ·rw [if_pos rfl,if_pos rfl];rfl
  ·by_cases h:M < (C out (if s.f0=true then [strOfNums [s.f1 % 256]] else zh sets s.f1)).length
   ·rw [if_pos h];exact Ev.ite_pos (by omega) (Ev.now _)
   ·rw [if_neg h];exact Ev.ite_neg (by omega) (ih _ ⟨by omega,hC _ _⟩ hb.2)
theorem round_ev:∀(ps:List Prod') (sets:Sets) (more:Bool),yf M sets→sets.length=of.length→ps.any (yX toks of.length)=false→(∀p ∈ ps,p.f1.length≤1000000)→
  Ev (fun k=>zd.round (cat k) (M:Int) ps sets more) (yn C M ps sets more):=by
 intro ps
 induction ps with
 | nil=>intro sets more _ _ _ _;exact Ev.now _
 | cons p ps ih=>
  intro sets more hS hn hb hl
  rw [List.any_cons,Bool.or_eq_false_iff] at hb
  obtain ⟨hp,hr⟩:=Zp hb.1
  rw [←hn] at hp hr
  unfold yn
  have hx:=YQ hC sets p.f1 _ (ZT hM)
  have hrow:=row_ev hC hM cat hcat hM2 toks hS p.f1 _ (ZT hM) hr
  generalize (rowG C M sets p.f1 [(⟨#[]⟩:ByteArray)])=x at hx hrow⊢
  refine Ev.congr (fun k=>by rw [zd.round]) (Ev.ite_pos (hl p List.mem_cons_self) (Ev.bind hrow ?_))
  by_cases h1:x.2=false
  ·rw [if_pos h1];exact Ev.ite_pos h1 (Ev.now _)
  rw [if_neg h1]
  have hm:=(hS _ (Zq hp)).1.1
  refine Ev.ite_neg h1 (Ev.ite_pos hp (Ev.bind0 (join_some _ _ (by omega) (by have:=hx.1;omega)) ?_))
  rw [←ZU]
  by_cases h2:M < (setP (zh sets p.f0 ++ x.1)).length
  ·rw [if_pos h2];exact Ev.ite_pos (by omega) (Ev.now _)
  rw [if_neg h2]
  obtain ⟨hj,hf⟩:=qF hS hp hx (Nat.not_lt.1 h2)
  have hi:=ih (sets.set p.f0.toNat (setP (zh sets p.f0 ++ x.1))) (more || decide ((zh sets p.f0).length < (setP (zh sets p.f0 ++ x.1)).length)) (Zx hS _ hj hf) (by rw [List.length_set];exact hn) hb.2 (fun q hq=>hl q (List.mem_cons_of_mem _ hq))
  refine Ev.ite_neg (by omega) ?_
  rw [show decide ((((setP (zh sets p.f0 ++ x.1)).length:Nat):Int) > ((zh sets p.f0).length:Int))=decide ((zh sets p.f0).length < (setP (zh sets p.f0 ++ x.1)).length) from decide_eq_decide.2 (by omega)]
  exact hi
theorem loop_ev (L:List Prod') (hb:L.any (yX toks of.length)=false) (hl:∀p ∈ L,p.f1.length≤1000000):∀(m:Nat) (sets:Sets),yf M sets→sets.length=of.length→M * of.length - YI sets < m→
  (∃N,∀k,N≤k→∀q,N≤q→zd.loop (cat k) (M:Int) L q sets=some (Zn C M L m sets))∧
  ∀s,Zn C M L m sets=some s→yf M s∧s.length=of.length:=by
 intro m
 induction m with
 | zero=>intro sets _ _ h;omega
 | succ m ih=>
  intro sets hS hn hm
  obtain ⟨g1,g2,g3,g4⟩:=Ya hC hM L sets false hS hn hb
  obtain ⟨N,hN⟩:=round_ev hC hM cat hcat hM2 toks of L sets false hS hn hb hl
  replace hN:∀k,N≤k→zd.round (cat k) (M:Int) L sets false=some (yn C M L sets false):=hN
  unfold Zn
  generalize yn C M L sets false=x at g1 g2 g3 g4 hN⊢
  by_cases h1:x.2.2=false
  ·rw [if_pos h1]
   refine ⟨⟨N + 1,fun k hk q hq=> ?_⟩,fun s h=>by cases h⟩
   obtain ⟨q,rfl⟩:∃q',q=q' + 1:=⟨q - 1,by omega⟩
   rw [zd.loop,hN k (by omega),Option.bind_some,if_pos h1]
  rw [if_neg h1]
  by_cases h2:x.2.1=false
  ·rw [if_pos h2]
   refine ⟨⟨N + 1,fun k hk q hq=> ?_⟩,fun s h=>by cases h;exact ⟨g1,g2⟩⟩
   obtain ⟨q,rfl⟩:∃q',q=q' + 1:=⟨q - 1,by omega⟩
   rw [zd.loop,hN k (by omega),Option.bind_some,if_neg h1,if_pos h2]
  rw [if_neg h2]
  have g5:=g4 rfl (by simpa using h2)
  have g6:=total_le g1
  rw [g2] at g6
  obtain ⟨⟨M',hM'⟩,i3⟩:=ih x.1 g1 g2 (by omega)
  refine ⟨⟨N + M' + 1,fun k hk q hq=> ?_⟩,i3⟩
  obtain ⟨q,rfl⟩:∃q',q=q' + 1:=⟨q - 1,by omega⟩
  rw [zd.loop,hN k (by omega),Option.bind_some,if_neg h1,if_neg h2]
  exact hM' k (by omega) q (by omega)
end
theorem ZP {toks look:Int} {n:Nat} {L:List Prod'} (h:mayE toks look n L=0):(1≤n∧n≤500)∧(1≤L.length∧L.length≤2000)∧(1≤look∧look≤4)∧L.any (yX toks n)=false:=by
 unfold mayE at h
 by_cases h1:toks < 1∨60 < toks∨n < 1∨500 < n∨L.length < 1∨2000 < L.length∨(L.any fun p=>decide (500 < p.f1.length))=true
 ·rw [if_pos h1] at h;cases h
 rw [if_neg h1] at h
 by_cases h2:look < 1∨4 < look
 ·rw [if_pos h2] at h;cases h
 rw [if_neg h2] at h
 by_cases h3:L.any (yX toks n)=true
 ·rw [if_pos h3] at h;cases h
 exact ⟨by omega,by omega,by omega,by simpa using h3⟩
def cutP (m:Nat) (p:Prod'):Prod':=⟨p.f0,p.f1.take m⟩
theorem gfew_l0 (t l:Int) (of:List Int):∀(L:List Prod') (hL:L.length≤1000000000) (d i:Nat),i + d=L.length→
  Ev (fun k=>zj.l0 k i t l of L) (t,l,of,L.take i ++ (L.drop i).map (cutP 4)):=by
 intro L hL d
 induction d generalizing L with
 | zero=>
  intro i hi
  rw [List.drop_of_length_le (by omega),List.take_of_length_le (by omega),List.map_nil,List.append_nil]
  exact Ev.step (fun k=>by rw [zj.l0,if_neg (by omega)]) (Ev.now _)
 | succ d ih=>
  intro i hi
  have hlt:i < L.length:=by omega
  have hw:wrap64 ((i:Int) + 1)=((i + 1:Nat):Int):=by rw [ya (by omega)];rfl
  have hm:0≤mn (L[i].f1.length:Int) 4∧mn (L[i].f1.length:Int) 4≤L[i].f1.length∧L[i].f1.take (mn (L[i].f1.length:Int) 4).toNat=L[i].f1.take 4:=by
   unfold mn
   split
   ·exact ⟨by clear hw;omega,by clear hw;omega,rfl⟩
   ·refine ⟨by clear hw;omega,by clear hw;omega,?_⟩
    rw [Int.toNat_natCast,List.take_length,List.take_of_length_le (by clear hw;omega)]
  have h:=ih (L.set i (cutP 4 L[i])) (by rw [List.length_set];exact hL) (i + 1) (by rw [List.length_set];clear hw;omega)
  have e:(L.set i (cutP 4 L[i])).take (i + 1) ++ ((L.set i (cutP 4 L[i])).drop (i + 1)).map (cutP 4)=L.take i ++ (L.drop i).map (cutP 4):=by
   rw [List.drop_set_of_lt (by omega),List.take_succ_eq_append_getElem (by rw [List.length_set];exact hlt),List.getElem_set_self,List.take_set_of_le (Nat.le_refl _),List.append_assoc,List.drop_eq_getElem_cons hlt]
   rfl
  rw [e] at h
  refine Ev.step (fun k=>by rw [zj.l0,if_pos (by clear hw;omega),if_pos (by clear hw;omega),rdP hlt,if_pos hm.1,if_pos hm.2.1,hm.2.2,hw];rfl) h
theorem Few_l0 (t l t' l':Int) (of of':List Int) (L:List Prod') (m:Nat) (hm:m≤1000):∀(d i:Nat),m - i=d→i≤m→
  Ev (fun k=>zg.l0 k m i t l of L t' l' of' ((L.take i).map (cutP 8))) (t',l',of',(L.take m).map (cutP 8)):=by
 intro d
 induction d with
 | zero=>
  intro i hi hi2
  rw [show i=m by omega]
  by_cases hlt:m < L.length
  ·exact Ev.step (fun k=>by rw [zg.l0,if_pos (by omega),if_neg (by omega)]) (Ev.now _)
  ·exact Ev.step (fun k=>by rw [zg.l0,if_neg (by omega)]) (Ev.now _)
 | succ d ih=>
  intro i hi hi2
  by_cases hlt:i < L.length
  ·have hw:wrap64 ((i:Int) + 1)=((i + 1:Nat):Int):=by rw [ya (by omega)];rfl
   have hm:0≤mn (L[i].f1.length:Int) 8∧mn (L[i].f1.length:Int) 8≤L[i].f1.length∧L[i].f1.take (mn (L[i].f1.length:Int) 8).toNat=L[i].f1.take 8:=by
    unfold mn
    split
    ·exact ⟨by clear hw;omega,by clear hw;omega,rfl⟩
    ·refine ⟨by clear hw;omega,by clear hw;omega,?_⟩
     rw [Int.toNat_natCast,List.take_length,List.take_of_length_le (by clear hw;omega)]
   have h:=ih (i + 1) (by clear hw;omega) (by clear hw;omega)
   rw [List.take_succ_eq_append_getElem hlt,List.map_append] at h
   refine Ev.step (fun k=>by rw [zg.l0,if_pos (by clear hw;omega),if_pos (by clear hw;omega),if_pos (by clear hw;omega),rdP hlt,Option.bind_some,if_pos hm.1,if_pos hm.2.1,hm.2.2,Option.bind_some,if_pos (by simp;clear hw;omega),if_pos (by simp;clear hw;omega),hw];rfl) h
  ·rw [List.take_of_length_le (by omega),List.take_of_length_le (by omega)]
   exact Ev.step (fun k=>by rw [zg.l0,if_neg (by omega)]) (Ev.now _)
def fewL (L:List Prod'):List Prod':=(L.take 14).map (cutP 4)
theorem take_mn {α:Type} (l:List α) (n:Nat):(0≤mn (l.length:Int) n∧mn (l.length:Int) n≤l.length)∧l.take (mn (l.length:Int) n).toNat=l.take n:=by
 unfold mn
 split
 ·exact ⟨⟨by omega,by omega⟩,rfl⟩
 ·refine ⟨⟨by omega,by omega⟩,?_⟩
  rw [Int.toNat_natCast,List.take_length,List.take_of_length_le (by omega)]
theorem gfew_ev (t l:Int) (of:List Int) (L:List Prod'):Ev (fun k=>zj.f k t l of L) (t,l,of.take 8,fewL L):=by
 have h1:=Few_l0 t l t l of (of.take 8) L 14 (by omega) 14 0 rfl (by omega)
 have h2:=gfew_l0 t l (of.take 8) ((L.take 14).map (cutP 8)) (by simp;omega) _ 0 (Nat.zero_add _)
 rw [List.take_zero,List.drop_zero,List.nil_append,List.map_map] at h2
 rw [show cutP 4 ∘ cutP 8=cutP 4 from funext fun p=>by unfold cutP;simp [List.take_take]] at h2
 obtain ⟨hm,he⟩:=take_mn of 8
 unfold zj.f zg.f yo.f
 refine Ev.bind (Ev.ite_pos hm.1 (Ev.ite_pos hm.2 (Ev.bind0 (a:=of.take 8) ?_ h1))) h2
 erw [he]
 rw [Option.bind_some,if_pos (by simp;omega)]
 rfl
theorem fewL_le (L:List Prod'):(fewL L).length≤14∧∀p ∈ fewL L,p.f1.length≤4:=by
 unfold fewL
 refine ⟨by simp;omega,fun p hp=> ?_⟩
 obtain ⟨q,-,rfl⟩:=List.mem_map.1 hp
 unfold cutP
 simp;omega
def catA (K:Nat) (a b:List ByteArray):List ByteArray:=setP (a.flatMap fun x=>b.map (tc K x))
theorem tc_le (K:Nat) (x y:ByteArray):(tc K x y).size≤K:=by
 rw [←YE]
 unfold tc
 simp only [List.toList_toArray,List.length_take]
 omega
theorem mem_catA {K:Nat} {a b:List ByteArray} {z:ByteArray} :z ∈ catA K a b↔∃x ∈ a,∃y ∈ b,tc K x y=z:=by
 unfold catA
 rw [ZU,YA,List.mem_flatMap]
 constructor
 ·rintro ⟨x,hx,h⟩
  obtain ⟨y,hy,h⟩:=List.mem_map.1 h
  exact ⟨x,hx,y,hy,h⟩
 ·rintro ⟨x,hx,y,hy,h⟩
  exact ⟨x,hx,List.mem_map.2 ⟨y,hy,h⟩⟩
theorem Zy {K:Nat} (hK:K≤4) (a b:List ByteArray):∀x ∈ catA K a b,x.size≤4:=by
 intro x hx
 obtain ⟨y,hy,z,hz,rfl⟩:=mem_catA.1 hx
 exact Nat.le_trans (tc_le _ _ _) hK
theorem K_le {look:Int} (hlook:1≤look∧look≤4):(mx look 0).toNat≤4:=by unfold mx;split <;> omega
theorem qZ {look:Int} (hlook:1≤look∧look≤4) (a b:List ByteArray) (ha:Zo 600 a) (hb:Zo 600 b):Ev (fun k=>zq.f k a b look) (catA (mx look 0).toNat a b):=by
 have h:=cat_ev b look (by omega) (by have:=hb.1;omega) (fun y hy=>by have:=hb.2 y hy;omega) a (by have:=ha.1;omega) (fun x hx=>by have:=ha.2 x hx;omega)
 unfold catA
 rw [ZU,setT_congr (b:=a.flatMap (YC (mx look 0).toNat b)) fun z=> ?_]
 ·exact h
 ·rw [←YU (l:=a.flatMap (YC _ b)),mem_row]
  simp only [List.mem_flatMap,List.mem_map]
  constructor
  ·rintro ⟨x,hx,y,hy,rfl⟩;exact ⟨x,hx,y,hy,rfl⟩
  ·rintro ⟨x,hx,y,hy,h⟩;exact ⟨x,hx,y,hy,(YH h).symm⟩
def ofA (toks look:Int) (n:Nat) (L:List Prod'):Sets × Int:=
 if mayE toks look n L=0 then (match Zn (catA (mx look 0).toNat) 600 L (600 * n + 1) (List.replicate n []) with|none=>([],15)|some s=>(s,0)) else ([],mayE toks look n L)
theorem Zm (M n:Nat):yf M (List.replicate n []):=by
 intro a ha
 rw [(List.mem_replicate.1 ha).2]
 exact ⟨⟨Nat.zero_le _,fun x hx=>nomatch hx⟩,setT_nil⟩
theorem of_loop (toks:Int) {look:Int} (h3:1≤look∧look≤4) (of:List Int) (L:List Prod') (h4:L.any (yX toks of.length)=false) (hl:∀p ∈ L,p.f1.length≤1000000) :
  (∃N,∀k,N≤k→∀q,N≤q→zd.loop (fun a b=>zq.f k a b look) 600 L q (List.replicate of.length [])=some (Zn (catA (mx look 0).toNat) 600 L (600 * of.length + 1) (List.replicate of.length [])))∧
  ∀s,Zn (catA (mx look 0).toNat) 600 L (600 * of.length + 1) (List.replicate of.length [])=some s→yf 600 s∧s.length=of.length:=
 loop_ev (C:=catA (mx look 0).toNat) (M:=600) (Zy (K_le h3)) (by omega) (fun k a b=>zq.f k a b look) (fun a b=>qZ h3 a b) (by omega) toks of L h4 hl (600 * of.length + 1) (List.replicate of.length []) (Zm _ _) (List.length_replicate ..) (by omega)
theorem of_ev (toks look:Int) (of:List Int) (L:List Prod') (hl:∀p ∈ L,p.f1.length≤1000000) (hL:L.length≤1000000):Ev (fun k=>zd.f k toks look of L) (ofA toks look of.length L):=by
 unfold zd.f zd.grow ofA
 refine Ev.bind (may_ev toks look of L (by omega) (fun p hp=>by have:=hl p hp;omega)) ?_
 by_cases h0:mayE toks look of.length L=0
 ·obtain ⟨h1,h2,h3,h4⟩:=ZP h0
  rw [if_pos h0]
  obtain ⟨⟨N,hN⟩,-⟩:=of_loop toks h3 of L h4 hl
  refine Ev.ite_pos h0 (Ev.ite_pos ⟨by omega,by omega,by omega⟩ (Ev.bind (a:=Zn (catA (mx look 0).toNat) 600 L (600 * of.length + 1) (List.replicate of.length [])) ⟨N,fun k hk=>hN k hk k hk⟩ ?_))
  cases Zn (catA (mx look 0).toNat) 600 L (600 * of.length + 1) (List.replicate of.length []) with
  | none=>exact Ev.now _
  | some s=>exact Ev.now _
 ·rw [if_neg h0]
  exact Ev.ite_neg h0 (Ev.now _)
def wadd (kk:Int) (x:ByteArray) (b:List ByteArray):List ByteArray:=(b.filter fun y=>decide (((x.size + y.size:Nat):Int)≤kk)).map fun y=>x ++ y
def catW (kk:Int) (a b:List ByteArray):List ByteArray:=setT (a.flatMap fun x=>wadd kk x b)
theorem wadd_len (kk:Int) (x:ByteArray) (b:List ByteArray):(wadd kk x b).length≤b.length:=by
 unfold wadd
 rw [List.length_map]
 exact List.length_filter_le _ _
theorem mem_wadd {kk:Int} {x z:ByteArray} {b:List ByteArray} :z ∈ wadd kk x b↔∃y ∈ b,((x.size + y.size:Nat):Int)≤kk∧x ++ y=z:=by
 unfold wadd
 simp only [List.mem_map,List.mem_filter,decide_eq_true_eq]
 constructor
 ·rintro ⟨y,⟨h1,h2⟩,h3⟩;exact ⟨y,h1,h2,h3⟩
 ·rintro ⟨y,h1,h2,h3⟩;exact ⟨y,⟨h1,h2⟩,h3⟩
theorem mem_catW {kk:Int} {a b:List ByteArray} {z:ByteArray} :z ∈ catW kk a b↔∃x ∈ a,∃y ∈ b,((x.size + y.size:Nat):Int)≤kk∧x ++ y=z:=by
 unfold catW
 rw [YA,List.mem_flatMap]
 constructor
 ·rintro ⟨x,hx,h⟩;exact ⟨x,hx,mem_wadd.1 h⟩
 ·rintro ⟨x,hx,h⟩;exact ⟨x,hx,mem_wadd.2 h⟩
theorem Yj {kk:Int} (hk:kk≤4) (a b:List ByteArray):∀x ∈ catW kk a b,x.size≤4:=by
 intro z hz
 obtain ⟨x,hx,y,hy,h,rfl⟩:=mem_catW.1 hz
 rw [ByteArray.size_append]
 omega
theorem wadd_cons (kk:Int) (x y:ByteArray) (b:List ByteArray):wadd kk x (y :: b)=(if ((x.size + y.size:Nat):Int)≤kk then [x ++ y] else []) ++ wadd kk x b:=by
 unfold wadd
 rw [List.filter_cons]
 by_cases h:((x.size + y.size:Nat):Int)≤kk
 ·rw [if_pos h,if_pos (by simpa using h)];rfl
 ·rw [if_neg h,if_neg (by simpa using h)];rfl
theorem kk_le (a2:Int):mn (mx a2 0) 4≤4:=by unfold mn;split <;> omega
theorem rb_l2 (l:List Sym) (kk:Int) (sets:Sets) (out:List ByteArray) (i:Int) (x:List ByteArray) (hx:x.length≤10000) (hxs:∀y ∈ x,y.size≤4) (p:Nat) (hp:p < out.length) (hos:∀y ∈ out,y.size≤4) (r:List ByteArray × Bool):∀(d c:Nat) (acc:List ByteArray),c + d=x.length→acc.length + d≤1000000000→
  Ev (fun k=>zL.l1 k l kk sets out i x (setT (acc ++ wadd kk out[p] (x.drop c))) (wrap64 ((p:Int) + 1))) r→Ev (fun k=>zL.l2 k l kk sets out i x (setT acc) p c) r:=by
 intro d
 induction d with
 | zero=>
  intro c acc hi _ h
  rw [List.drop_of_length_le (by omega),show wadd kk out[p] []= [] from rfl,List.append_nil] at h
  exact Ev.step (fun k=>by rw [zL.l2,if_neg (by omega)]) h
 | succ d ih=>
  intro c acc hi hl h
  have hlt:c < x.length:=by omega
  have hy:=hxs _ (List.getElem_mem hlt)
  have ho:=hos _ (List.getElem_mem hp)
  have hw:wrap64 ((c:Int) + 1)=((c + 1:Nat):Int):=by rw [ya (by omega)];rfl
  have hw2:wrap64 ((out[p].size:Int) + (x[c].size:Int))=((out[p].size + x[c].size:Nat):Int):=by rw [ya (by omega)];rfl
  rw [List.drop_eq_getElem_cons hlt,wadd_cons] at h
  refine Ev.step (fun k=>by rw [zL.l2,if_pos (by clear hw hw2;omega),if_pos (by clear hw hw2;omega),if_pos (by clear hw hw2;omega),if_pos (by clear hw hw2;omega),Zi hlt,Zi hp,hw,hw2]) ?_
  by_cases hc:((out[p].size + x[c].size:Nat):Int)≤kk
  ·rw [if_pos hc,←List.append_assoc] at h
   have hput:=put_ev (setT acc) (out[p] ++ x[c]) (by rw [Zw];exact (yd _).1) (Nat.le_trans (YZ acc) (by clear hw hw2;omega))
   rw [qR] at hput
   exact Ev.ite_pos hc (Ev.ite_pos (by clear hw hw2;omega) (Ev.bind hput (ih (c + 1) _ (by clear hw hw2;omega) (by rw [List.length_append];simp;clear hw hw2;omega) h)))
  ·rw [if_neg hc,List.nil_append] at h
   exact Ev.ite_neg hc (ih (c + 1) _ (by clear hw hw2;omega) (by clear hw hw2;omega) h)
theorem rb_l1 (l:List Sym) (kk:Int) (sets:Sets) (out:List ByteArray) (i:Int) (x:List ByteArray) (hx:x.length≤10000) (hxs:∀y ∈ x,y.size≤4) (hol:out.length≤10000) (hos:∀y ∈ out,y.size≤4) (r:List ByteArray × Bool):∀(d p:Nat) (acc:List ByteArray),p + d=out.length→acc.length≤p * 10000→
  Ev (fun k=>if ((setT (acc ++ (out.drop p).flatMap fun y=>wadd kk y x)).length:Int) > 10000 then some ([],false) else zL.l0 k l kk sets (setT (acc ++ (out.drop p).flatMap fun y=>wadd kk y x)) (wrap64 (i + 1))) r→Ev (fun k=>zL.l1 k l kk sets out i x (setT acc) p) r:=by
 intro d
 induction d with
 | zero=>
  intro p acc hp _ h
  rw [List.drop_of_length_le (by omega),List.flatMap_nil,List.append_nil] at h
  exact Ev.step (fun k=>by rw [zL.l1,if_neg (by omega)]) h
 | succ d ih=>
  intro p acc hp hl h
  have hlt:p < out.length:=by omega
  have hw:wrap64 ((p:Int) + 1)=((p + 1:Nat):Int):=by rw [ya (by omega)];rfl
  have hwl:=wadd_len kk out[p] x
  rw [List.drop_eq_getElem_cons hlt,List.flatMap_cons,←List.append_assoc] at h
  have h2:=ih (p + 1) (acc ++ wadd kk out[p] x) (by clear hw;omega) (by rw [List.length_append];clear hw;omega) h
  refine Ev.step (fun k=>by rw [zL.l1,if_pos (by clear hw;omega)];rfl) (rb_l2 l kk sets out i x hx hxs p hlt hos r x.length 0 acc (by clear hw;omega) (by clear hw;omega) ?_)
  rw [List.drop_zero,hw]
  exact h2
theorem rb_l0 (toks:Int) (l:List Sym) (hl:l.length≤1000000000) (kk:Int) (hk:kk≤4) {sets:Sets} (hS:yf 10000 sets) (hb:l.any (yg toks sets.length)=false):∀(d i:Nat) (out:List ByteArray),i + d=l.length→Zo 10000 out→
  Ev (fun k=>zL.l0 k l kk sets out i) (rowG (catW kk) 10000 sets (l.drop i) out):=by
 intro d
 induction d with
 | zero=>
  intro i out hi _
  rw [List.drop_of_length_le (by omega)]
  exact Ev.step (fun k=>by rw [zL.l0,if_neg (by omega)];rfl) (Ev.now _)
 | succ d ih=>
  intro i out hi ho
  have hlt:i < l.length:=by omega
  have hw:wrap64 ((i:Int) + 1)=((i + 1:Nat):Int):=by rw [ya (by omega)];rfl
  have hbs:yg toks sets.length l[i]=false:=by
   cases hh:yg toks sets.length l[i]
   ·rfl
   ·rw [List.any_eq_true.2 ⟨l[i],List.getElem_mem _,hh⟩] at hb;cases hb
  obtain ⟨hg,hn⟩:=qY (M:=10000) (by omega) hS hbs
  rw [List.drop_eq_getElem_cons hlt]
  unfold rowG
  refine Ev.step (fun k=>by rw [zL.l0,if_pos (by clear hw;omega),if_pos (by clear hw;omega),rdS hlt]) ?_
  have done:∀x:List ByteArray,Zo 10000 x→Ev (fun k=>zL.l1 k l kk sets out i x (([]:List ByteArray)) 0) (if 10000 < (catW kk out x).length then ([],false) else rowG (catW kk) 10000 sets (l.drop (i + 1)) (catW kk out x)):=by
   intro x hx
   have h1:=rb_l1 l kk sets out i x hx.1 hx.2 ho.1 ho.2 (if 10000 < (catW kk out x).length then ([],false) else rowG (catW kk) 10000 sets (l.drop (i + 1)) (catW kk out x)) out.length 0 [] (by clear hw;omega) (by simp)
   rw [List.drop_zero,List.nil_append,setT_nil,hw] at h1
   refine h1 ?_
   have e:setT (out.flatMap fun y=>wadd kk y x)=catW kk out x:=rfl
   rw [e]
   by_cases h:10000 < (catW kk out x).length
   ·rw [if_pos h];exact Ev.ite_pos (by clear hw;omega) (Ev.now _)
   ·rw [if_neg h];exact Ev.ite_neg (by clear hw;omega) (ih _ _ (by clear hw;omega) ⟨by clear hw;omega,Yj hk _ _⟩)
  cases h:l[i].f0
  ·simp only [h] at hg⊢
   simp only [if_neg Bool.false_ne_true] at hg⊢
   obtain ⟨h1,h2⟩:=hn h
   exact Ev.ite_pos h1 (Ev.ite_pos h2 (done _ hg))
  ·simp only [h] at hg⊢
   simp only [if_true] at hg⊢
   exact done _ hg
section
variable (toks look : Int) (of : List Int) (n kk : Int) (hk : kk ≤ 4)
include hk
theorem wround_ev (L:List Prod') (hL:L.length≤1000000000) (hb:L.any (yX toks of.length)=false) (hl:∀p ∈ L,p.f1.length≤1000000) (r:List ByteArray × Bool):∀(d i:Nat) (sets:Sets) (more:Bool),i + d=L.length→yf 10000 sets→sets.length=of.length→
  ((yn (catW kk) 10000 (L.drop i) sets more).2.2=true→Ev (fun k=>zP.l1 k n kk (yn (catW kk) 10000 (L.drop i) sets more).1 (yn (catW kk) 10000 (L.drop i) sets more).2.1 toks look of L) r)→
  Ev (fun k=>zP.l2 k n kk sets more i toks look of L) (if (yn (catW kk) 10000 (L.drop i) sets more).2.2=true then r else ([],false)):=by
 intro d
 induction d with
 | zero=>
  intro i sets more hi _ _ hc
  rw [List.drop_of_length_le (by omega)] at hc⊢
  exact Ev.step (fun k=>by rw [zP.l2,if_neg (by omega)];rfl) (hc rfl)
 | succ d ih=>
  intro i sets more hi hS hn hc
  have hlt:i < L.length:=by omega
  have hw:wrap64 ((i:Int) + 1)=((i + 1:Nat):Int):=by rw [ya (by omega)];rfl
  have hbp:yX toks of.length L[i]=false:=by
   cases hh:yX toks of.length L[i]
   ·rfl
   ·rw [List.any_eq_true.2 ⟨L[i],List.getElem_mem _,hh⟩] at hb;cases hb
  obtain ⟨hp,hr⟩:=Zp hbp
  rw [←hn] at hp hr
  have hll:=hl _ (List.getElem_mem hlt)
  rw [List.drop_eq_getElem_cons hlt] at hc⊢
  unfold yn at hc⊢
  have hx:=YQ (M:=10000) (Yj hk) sets L[i].f1 _ (ZT (by omega))
  have hrow:=rb_l0 toks L[i].f1 (by clear hw;omega) kk hk hS hr L[i].f1.length 0 _ (by clear hw;omega) (ZT (by omega))
  rw [List.drop_zero] at hrow
  generalize (rowG (catW kk) 10000 sets L[i].f1 [(⟨#[]⟩:ByteArray)])=x at hx hrow hc⊢
  refine Ev.step (fun k=>by rw [zP.l2,if_pos (by clear hw;omega),if_pos (by clear hw;omega),rdP hlt,hw]) (Ev.bind (by unfold zL.f;exact hrow) ?_)
  by_cases h1:x.2=false
  ·rw [if_pos h1] at hc⊢;exact Ev.ite_neg (by rw [h1];simp) (Ev.now _)
  rw [if_neg h1] at hc⊢
  have hm:=(hS _ (Zq hp)).1.1
  have hj:=rjoin_ev (zh sets L[i].f0) x.1 (by clear hw;omega) (by have:=hx.1;clear hw;omega)
  rw [←ZU] at hj
  refine Ev.ite_pos (by simpa using h1) (Ev.ite_pos hp.1 (Ev.ite_pos hp.2 (Ev.bind hj ?_)))
  by_cases h2:10000 < (setP (zh sets L[i].f0 ++ x.1)).length
  ·rw [if_pos h2];exact Ev.ite_pos (by clear hw;omega) (Ev.now _)
  rw [if_neg h2] at hc⊢
  obtain ⟨hj,hf⟩:=qF hS hp hx (Nat.not_lt.1 h2)
  obtain ⟨-,hg⟩:=Yn hS hp x.1
  refine Ev.ite_neg (by clear hw;omega) ?_
  have hi:=ih (i + 1) (sets.set L[i].f0.toNat (setP (zh sets L[i].f0 ++ x.1))) (more || decide ((zh sets L[i].f0).length < (setP (zh sets L[i].f0 ++ x.1)).length)) (by clear hw;omega) (Zx hS _ hj hf) (by rw [List.length_set];exact hn) hc
  by_cases h3:(zh sets L[i].f0).length < (setP (zh sets L[i].f0 ++ x.1)).length
  ·refine Ev.ite_pos (by clear hw;omega) ?_
   rw [decide_eq_true h3,Bool.or_true] at hi⊢
   exact hi
  ·refine Ev.ite_neg (by clear hw;omega) ?_
   have he:=hg (Nat.not_lt.1 h3)
   rw [decide_eq_false h3,Bool.or_false] at hi⊢
   have hse:sets.set L[i].f0.toNat (setP (zh sets L[i].f0 ++ x.1))=sets:=by
    rw [←he,rd_at hp]
    exact List.set_getElem_self _
   rw [hse] at hi⊢
   exact hi
theorem wloop_ev (hn0:0≤n) (hn1:n < of.length) (L:List Prod') (hL:L.length≤1000000000) (hb:L.any (yX toks of.length)=false) (hl:∀p ∈ L,p.f1.length≤1000000):∀(m:Nat) (sets:Sets),yf 10000 sets→sets.length=of.length→10000 * of.length - YI sets < m→
  Ev (fun k=>zP.l1 k n kk sets true toks look of L) (match Zn (catW kk) 10000 L m sets with|none=>([],false)|some s=>(zh s n,true)):=by
 intro m
 induction m with
 | zero=>intro sets _ _ h;omega
 | succ m ih=>
  intro sets hS hn hm
  obtain ⟨g1,g2,g3,g4⟩:=Ya (M:=10000) (Yj hk) (by omega) L sets false hS hn hb
  have hrr:=fun r=>wround_ev toks look of n kk hk L hL hb hl r L.length 0 sets false (by omega) hS hn
  simp only [List.drop_zero] at hrr
  have hl1:∀r,Ev (fun k=>zP.l2 k n kk sets false (0:Nat) toks look of L) r→Ev (fun k=>zP.l1 k n kk sets true toks look of L) r:=fun r h=>Ev.step (fun k=>by rw [zP.l1,if_pos rfl];rfl) h
  unfold Zn
  generalize yn (catW kk) 10000 L sets false=x at g1 g2 g3 g4 hrr⊢
  by_cases h1:x.2.2=false
  ·rw [if_pos h1]
   have:=hrr ([],true) (fun h=>by rw [h1] at h;cases h)
   rw [if_neg (by rw [h1];simp)] at this
   exact hl1 _ this
  rw [if_neg h1]
  by_cases h2:x.2.1=false
  ·rw [if_pos h2]
   have:=hrr (zh x.1 n,true) (fun h=>by rw [h2];exact Ev.step (fun k=>by rw [zP.l1,if_neg (by simp),if_pos hn0,if_pos (by rw [g2];exact hn1)]) (Ev.now _))
   rw [if_pos (by simpa using h1)] at this
   exact hl1 _ this
  rw [if_neg h2]
  have g5:=g4 rfl (by simpa using h2)
  have g6:=total_le g1
  rw [g2] at g6
  have i2:=ih x.1 g1 g2 (by omega)
  have:=hrr _ (fun _=>by rw [show x.2.1=true by simpa using h2];exact i2)
  rw [if_pos (by simpa using h1)] at this
  exact hl1 _ this
end
theorem rwords_l0 (toks look:Int) (of:List Int) (hof:of.length≤1000000) (L:List Prod') (n kk:Int) (r:List ByteArray × Bool) (h:Ev (fun k=>zP.l1 k n kk (List.replicate of.length []) true toks look of L) r):∀(d i:Nat),i + d=of.length→Ev (fun k=>zP.l0 k n kk (List.replicate i []) i toks look of L) r:=by
 intro d
 induction d with
 | zero=>
  intro i hi
  rw [show i=of.length by omega]
  exact Ev.step (fun k=>by rw [zP.l0,if_neg (by omega)]) h
 | succ d ih=>
  intro i hi
  have hw:wrap64 ((i:Int) + 1)=((i + 1:Nat):Int):=by rw [ya (by omega)];rfl
  have hi2:=ih (i + 1) (by clear hw;omega)
  rw [List.replicate_succ'] at hi2
  exact Ev.step (fun k=>by rw [zP.l0,if_pos (by clear hw;omega),if_pos (by rw [List.length_replicate];clear hw;omega),hw]) hi2
theorem rwords_ev (toks look:Int) (of:List Int) (L:List Prod') (n a2:Int) (hn0:0≤n) (hn1:n < of.length) (h0:mayE toks look of.length L=0) (hl:∀p ∈ L,p.f1.length≤1000000) :
  Ev (fun k=>zP.f k toks look of L n a2) (match Zn (catW (mn (mx a2 0) 4)) 10000 L (10000 * of.length + 1) (List.replicate of.length []) with|none=>([],false)|some s=>(zh s n,true)):=by
 obtain ⟨h1,h2,h3,h4⟩:=ZP h0
 exact rwords_l0 toks look of (by omega) L n _ _ (wloop_ev toks look of n _ (kk_le a2) hn0 hn1 L (by omega) h4 hl _ _ (Zm _ _) (List.length_replicate ..) (by omega)) of.length 0 (by omega)
def Sim (G:ByteArray→Prop) (g:ByteArray→ByteArray) (a b:List ByteArray):Prop:=∀x ∈ a,G x→g x ∈ b
theorem sim_nil (G:ByteArray→Prop) (g:ByteArray→ByteArray) (b:List ByteArray):Sim G g [] b:=fun x hx=>nomatch hx
def symS (sets:Sets) (s:Sym):List ByteArray:=if s.f0=true then [strOfNums [s.f1 % 256]] else zh sets s.f1
theorem row_sim {C C':CatF} {M M':Nat} {sets sets':Sets} {G:ByteArray→Prop} {g:ByteArray→ByteArray} (hC:∀a a' x x',Sim G g a a'→Sim G g x x'→Sim G g (C a x) (C' a' x')) :
  ∀(l:List Sym) (out out':List ByteArray),(∀s ∈ l,Sim G g (symS sets s) (symS sets' s))→Sim G g out out'→(rowG C' M' sets' l out').2=true→Sim G g (rowG C M sets l out).1 (rowG C' M' sets' l out').1:=by
 intro l
 induction l with
 | nil=>intro out out' _ h _;exact h
 | cons s l ih=>
  intro out out' hs h h2
  have hx:=hs s List.mem_cons_self
  unfold symS at hx
  unfold rowG at h2⊢
  have h3:=hC _ _ _ _ h hx
  generalize (C out (if s.f0=true then [strOfNums [s.f1 % 256]] else zh sets s.f1))=a at h3⊢
  generalize (C' out' (if s.f0=true then [strOfNums [s.f1 % 256]] else zh sets' s.f1))=b at h2 h3⊢
  by_cases c2:M' < b.length
  ·rw [if_pos c2] at h2;cases h2
  rw [if_neg c2] at h2⊢
  by_cases c1:M < a.length
  ·rw [if_pos c1];exact sim_nil _ _ _
  rw [if_neg c1]
  exact ih _ _ (fun s hs'=>hs s (List.mem_cons_of_mem _ hs')) h3 h2
theorem roundG_more {C:CatF} {M:Nat} :∀(ps:List Prod') (sets:Sets),(yn C M ps sets true).2.2=true→(yn C M ps sets true).2.1=true:=by
 intro ps
 induction ps with
 | nil=>intro sets _;rfl
 | cons p ps ih=>
  intro sets h
  unfold yn at h⊢
  generalize (rowG C M sets p.f1 [(⟨#[]⟩:ByteArray)])=x at h⊢
  by_cases h1:x.2=false
  ·rw [if_pos h1] at h;cases h
  rw [if_neg h1] at h⊢
  by_cases h2:M < (setP (zh sets p.f0 ++ x.1)).length
  ·rw [if_pos h2] at h;cases h
  rw [if_neg h2] at h⊢
  rw [Bool.true_or] at h⊢
  exact ih _ h
def Fix (C:CatF) (M:Nat) (L:List Prod') (S:Sets):Prop:=∀p ∈ L,(rowG C M S p.f1 [(⟨#[]⟩:ByteArray)]).2=true∧∀x ∈ (rowG C M S p.f1 [(⟨#[]⟩:ByteArray)]).1,x ∈ zh S p.f0
theorem roundG_fix {C:CatF} {M:Nat} {toks:Int} {n:Nat} :∀(ps:List Prod') (S:Sets),yf M S→S.length=n→ps.any (yX toks n)=false→(yn C M ps S false).2.2=true→(yn C M ps S false).2.1=false→(yn C M ps S false).1=S∧Fix C M ps S:=by
 intro ps
 induction ps with
 | nil=>intro S _ _ _ _ _;exact ⟨rfl,fun p hp=>nomatch hp⟩
 | cons p ps ih=>
  intro S hS hn hb h3 h4
  rw [List.any_cons,Bool.or_eq_false_iff] at hb
  obtain ⟨hp,-⟩:=Zp hb.1
  rw [←hn] at hp
  unfold yn at h3 h4⊢
  have e:rowG C M S p.f1 [(⟨#[]⟩:ByteArray)]=rowG C M S p.f1 [(⟨#[]⟩:ByteArray)]:=rfl
  generalize hx:(rowG C M S p.f1 [(⟨#[]⟩:ByteArray)])=x at h3 h4⊢
  by_cases h1:x.2=false
  ·rw [if_pos h1] at h3;cases h3
  rw [if_neg h1] at h3 h4⊢
  by_cases h2:M < (setP (zh S p.f0 ++ x.1)).length
  ·rw [if_pos h2] at h3;cases h3
  rw [if_neg h2] at h3 h4⊢
  obtain ⟨-,hg⟩:=Yn hS hp x.1
  by_cases c:(zh S p.f0).length < (setP (zh S p.f0 ++ x.1)).length
  ·rw [decide_eq_true c,Bool.or_true] at h3 h4
   rw [roundG_more _ _ h3] at h4;cases h4
  ·have he:=hg (Nat.not_lt.1 c)
   have hse:S.set p.f0.toNat (setP (zh S p.f0 ++ x.1))=S:=by
    rw [←he,rd_at hp]
    exact List.set_getElem_self _
   rw [decide_eq_false c,Bool.or_false,hse] at h3 h4⊢
   obtain ⟨i1,i2⟩:=ih S hS hn hb.2 h3 h4
   refine ⟨i1,fun q hq=> ?_⟩
   rcases List.mem_cons.1 hq with rfl|hq
   ·rw [hx]
    refine ⟨by simpa using h1,fun z hz=> ?_⟩
    rw [he,ZU,YA]
    exact List.mem_append_right _ hz
   ·exact i2 q hq
theorem loopG_fix {C:CatF} {M:Nat} (hC:∀a b,∀x ∈ C a b,x.size≤4) (hM:1≤M) {toks:Int} {n:Nat} {L:List Prod'} (hb:L.any (yX toks n)=false):∀(m:Nat) (S s:Sets),yf M S→S.length=n→Zn C M L m S=some s→Fix C M L s∧yf M s∧s.length=n:=by
 intro m
 induction m with
 | zero=>intro S s _ _ h;cases h
 | succ m ih=>
  intro S s hS hn h
  obtain ⟨g1,g2,-,-⟩:=Ya hC hM L S false hS hn hb
  have hf:=roundG_fix (C:=C) L S hS hn hb
  unfold Zn at h
  generalize yn C M L S false=x at h g1 g2 hf
  by_cases h1:x.2.2=false
  ·rw [if_pos h1] at h;cases h
  rw [if_neg h1] at h
  by_cases h2:x.2.1=false
  ·rw [if_pos h2] at h
   obtain ⟨e,hF⟩:=hf (by simpa using h1) h2
   obtain rfl:=Option.some.inj h
   rw [e]
   exact ⟨hF,hS,hn⟩
  ·rw [if_neg h2] at h
   exact ih _ _ g1 g2 h
theorem rd_set {S:Sets} {p i:Int} (hp:0≤p∧p < S.length) (hi:0≤i∧i < S.length) (j:List ByteArray):zh (S.set p.toNat j) i=if i=p then j else zh S i:=by
 rw [rd_at (by rw [List.length_set];exact hi),List.getElem_set]
 by_cases h:i=p
 ·rw [if_pos h,if_pos (by rw [h])]
 ·rw [if_neg h,if_neg (by omega),←rd_at hi]
section
variable {C C' : CatF} {M M' : Nat} {G : ByteArray → Prop} {g : ByteArray → ByteArray} (hsim : ∀ a a' x x', Sim G g a a' → Sim G g x x' → Sim G g (C a x) (C' a' x')) (hE : Sim G g [(⟨#[]⟩ : ByteArray)] [(⟨#[]⟩ : ByteArray)]) (hT : ∀ n, Sim G g [strOfNums [n]] [strOfNums [n]])
 (hC:∀a b,∀x ∈ C a b,x.size≤4) (hM:1≤M) {toks:Int} {n:Nat} {S':Sets} (hn':S'.length=n)
include hsim hE hT hC hM hn'
end
theorem rd_empties (n:Nat) (i:Int):zh (List.replicate n []) i= []:=by
 unfold zh
 rw [List.getD_eq_getElem?_getD,List.getElem?_replicate]
 split <;> rfl
def tk (K:Nat) (x:ByteArray):ByteArray:=⟨(x.data.toList.take K).toArray⟩
theorem tk_append (K:Nat) (u v:ByteArray):tk K (u ++ v)=tc K (tk K u) (tk K v):=by
 apply YH
 unfold tk tc
 rw [qX]
 simp only [List.toList_toArray]
 rw [List.take_append,List.take_append,List.take_take,List.take_take,Nat.min_self,List.length_take]
 congr 1
 rw [List.take_eq_take_iff]
 omega
theorem tk_short {K:Nat} {x:ByteArray} (h:x.size≤K):tk K x=x:=by
 apply YH
 unfold tk
 simp only [List.toList_toArray]
 exact List.take_of_length_le (by rw [YE];exact h)
theorem sim_cut (K:Nat) (kk:Int) (a a' x x':List ByteArray) (h:Sim (fun _=>True) (tk K) a a') (h2:Sim (fun _=>True) (tk K) x x'):Sim (fun _=>True) (tk K) (catW kk a x) (catA K a' x'):=by
 intro z hz _
 obtain ⟨u,hu,v,hv,-,rfl⟩:=mem_catW.1 hz
 exact mem_catA.2 ⟨_,h u hu trivial,_,h2 v hv trivial,(tk_append K u v).symm⟩
theorem flat_len {α β:Type} (l:List α) (f:α→List β) (m:Nat) (h:∀x,(f x).length≤m):(l.flatMap f).length≤m * l.length:=by
 induction l with
 | nil=>simp
 | cons x l ih=>
  have:=h x
  rw [List.flatMap_cons,List.length_append,List.length_cons,Nat.mul_succ]
  omega
abbrev Lk:=S66
def Yw (K:Nat) (F:Sets) (left:Int):List Sym→Option (List Lk)
 | []=>some []
 | s :: l=>if s.f0=true then Yw K F left l else if (rowG (catA K) 600 F l [(⟨#[]⟩:ByteArray)]).2=true then (Yw K F left l).map fun a=>⟨s.f1,left,(rowG (catA K) 600 F l [(⟨#[]⟩:ByteArray)]).1⟩ :: a else none
def YV (K:Nat) (F:Sets):List Prod'→Option (List Lk)
 | []=>some []
 | p :: ps=>(Yw K F p.f0 p.f1).bind fun a=>(YV K F ps).map fun b=>a ++ b
def qt (n:Nat) (x:Lk):Prop:=(0≤x.f0∧x.f0 < (n:Int))∧(0≤x.f1∧x.f1 < (n:Int))∧Zo 600 x.f2
theorem qu {K:Nat} (hK:K≤4) {F:Sets} {toks:Int} {n:Nat} {left:Int} (hleft:0≤left∧left < (n:Int)):∀(l:List Sym),l.any (yg toks n)=false→∀a,Yw K F left l=some a→(∀x ∈ a,qt n x)∧a.length≤l.length:=by
 intro l
 induction l with
 | nil=>intro _ a h;obtain rfl:=Option.some.inj h;exact ⟨fun x hx=>(nomatch hx),Nat.le_refl _⟩
 | cons s l ih=>
  intro hb a h
  rw [List.any_cons,Bool.or_eq_false_iff] at hb
  unfold Yw at h
  by_cases h0:s.f0=true
  ·rw [if_pos h0] at h
   obtain ⟨i1,i2⟩:=ih hb.2 a h
   exact ⟨i1,by simp;omega⟩
  ·rw [if_neg h0] at h
   by_cases h1:(rowG (catA K) 600 F l [(⟨#[]⟩:ByteArray)]).2=true
   ·rw [if_pos h1] at h
    obtain ⟨b,hb2,rfl⟩:=Option.map_eq_some_iff.1 h
    obtain ⟨i1,i2⟩:=ih hb.2 b hb2
    refine ⟨fun x hx=> ?_,by simp;omega⟩
    rcases List.mem_cons.1 hx with rfl|hx
    ·have hs:=hb.1
     unfold yg at hs
     rw [if_neg h0] at hs
     exact ⟨by simpa using hs,hleft,YQ (M:=600) (Zy hK) F l _ (ZT (M:=600) (by omega))⟩
    ·exact i1 x hx
   ·rw [if_neg h1] at h;cases h
theorem Yx {K:Nat} (hK:K≤4) {F:Sets} {toks:Int} {n B:Nat} :∀(L:List Prod'),L.any (yX toks n)=false→(∀p ∈ L,p.f1.length≤B)→∀xs,YV K F L=some xs→(∀x ∈ xs,qt n x)∧xs.length≤B * L.length:=by
 intro L
 induction L with
 | nil=>intro _ _ xs h;obtain rfl:=Option.some.inj h;exact ⟨fun x hx=>(nomatch hx),Nat.zero_le _⟩
 | cons p ps ih=>
  intro hb hl xs h
  rw [List.any_cons,Bool.or_eq_false_iff] at hb
  obtain ⟨a,ha,h⟩:=Option.bind_eq_some_iff.1 h
  obtain ⟨b,hb2,rfl⟩:=Option.map_eq_some_iff.1 h
  obtain ⟨hp,hr⟩:=Zp hb.1
  obtain ⟨i1,i2⟩:=qu hK hp p.f1 hr a ha
  obtain ⟨j1,j2⟩:=ih hb.2 (fun q hq=>hl q (List.mem_cons_of_mem _ hq)) b hb2
  have:=hl p List.mem_cons_self
  refine ⟨fun x hx=> ?_,by rw [List.length_append,List.length_cons,Nat.mul_succ];omega⟩
  rcases List.mem_append.1 hx with hx|hx
  ·exact i1 x hx
  ·exact j1 x hx
theorem any_drop {l:List Sym} {f:Sym→Bool} (h:l.any f=false) (i:Nat):(l.drop i).any f=false:=by
 cases hh:(l.drop i).any f
 ·rfl
 ·obtain ⟨x,hx,hf⟩:=List.any_eq_true.1 hh
  rw [List.any_eq_true.2 ⟨x,List.mem_of_mem_drop hx,hf⟩] at h;cases h
section
variable (toks look : Int) (hlook : 1 ≤ look ∧ look ≤ 4)
include hlook
theorem rower_ev {F:Sets} (hS:yf 600 F) (l:List Sym) (hl:l.length≤1000000000) (hb:l.any (yg toks F.length)=false):∀(d i:Nat) (out:List ByteArray),i + d=l.length→Zo 600 out→
  Ev (fun k=>zo.l0 k out l l.length i look F) (rowG (catA (mx look 0).toNat) 600 F (l.drop i) out):=by
 intro d
 induction d with
 | zero=>
  intro i out hi _
  rw [List.drop_of_length_le (by omega)]
  exact Ev.step (fun k=>by rw [zo.l0,if_neg (by omega)];rfl) (Ev.now _)
 | succ d ih=>
  intro i out hi ho
  have hlt:i < l.length:=by omega
  have hw:wrap64 ((i:Int) + 1)=((i + 1:Nat):Int):=by rw [ya (by omega)];rfl
  have hbs:yg toks F.length l[i]=false:=by
   cases hh:yg toks F.length l[i]
   ·rfl
   ·rw [List.any_eq_true.2 ⟨l[i],List.getElem_mem _,hh⟩] at hb;cases hb
  obtain ⟨hg,hn⟩:=qY (M:=600) (by omega) hS hbs
  have hc:=qZ hlook out _ ho hg
  rw [List.drop_eq_getElem_cons hlt]
  unfold rowG
  refine Ev.step (fun k=>by rw [zo.l0,if_pos (by clear hw;omega),if_pos (by clear hw;omega),if_pos (by clear hw;omega),rdS hlt,hw]) ?_
  have done:∀t,t=catA (mx look 0).toNat out (if l[i].f0=true then [strOfNums [l[i].f1 % 256]] else zh F l[i].f1)→Ev (fun k=>if (t.length:Int) > 600 then some (([]:List ByteArray),false) else zo.l0 k t l l.length ((i + 1:Nat):Int) look F) (if 600 < t.length then ([],false) else rowG (catA (mx look 0).toNat) 600 F (l.drop (i + 1)) t):=by
   intro t ht
   by_cases h:600 < t.length
   ·rw [if_pos h];exact Ev.ite_pos (by clear hw;omega) (Ev.now _)
   ·rw [if_neg h];exact Ev.ite_neg (by clear hw;omega) (ih _ _ (by clear hw;omega) ⟨by clear hw;omega,by rw [ht];exact Zy (K_le hlook) _ _⟩)
  cases h:l[i].f0
  ·simp only [h] at done hc⊢
   simp only [if_neg Bool.false_ne_true] at done hc⊢
   obtain ⟨h1,h2⟩:=hn h
   exact Ev.ite_pos h1 (Ev.ite_pos h2 (Ev.bind hc (done _ rfl)))
  ·simp only [h] at done hc⊢
   simp only [if_true] at done hc⊢
   exact Ev.bind hc (done _ rfl)
theorem links_l1 {F:Sets} (hS:yf 600 F) (L:List Prod') (i left:Int) (r:List Sym) (hr:r.length≤1000000) (hb:r.any (yg toks F.length)=false) (res:List Lk × Int):∀(d j:Nat) (acc:List Lk),j + d=r.length→acc.length + d≤1000000000000→
  (Yw (mx look 0).toNat F left (r.drop j)=none→res=([],15))→(∀a,Yw (mx look 0).toNat F left (r.drop j)=some a→Ev (fun k=>zv.l0 k (acc ++ a) L L.length (wrap64 (i + 1)) look F) res)→
  Ev (fun k=>zv.l1 k acc L L.length i r r.length j look F left r) res:=by
 intro d
 induction d with
 | zero=>
  intro j acc hj _ _ h2
  rw [List.drop_of_length_le (by omega)] at h2
  have:=h2 [] rfl
  rw [List.append_nil] at this
  exact Ev.step (fun k=>by rw [zv.l1,if_neg (by omega)]) this
 | succ d ih=>
  intro j acc hj ha h1 h2
  have hlt:j < r.length:=by omega
  have hw:wrap64 ((j:Int) + 1)=((j + 1:Nat):Int):=by rw [ya (by omega)];rfl
  rw [List.drop_eq_getElem_cons hlt] at h1 h2
  unfold Yw at h1 h2
  refine Ev.step (fun k=>by rw [zv.l1,if_pos (by clear hw;omega),if_pos (by clear hw;omega),if_pos (by clear hw;omega),rdS hlt,hw]) ?_
  by_cases h0:r[j].f0=true
  ·rw [if_pos h0] at h1 h2
   exact Ev.ite_pos h0 (ih (j + 1) acc (by clear hw;omega) (by clear hw;omega) h1 h2)
  ·rw [if_neg h0] at h1 h2
   have hrow:=rower_ev toks look hlook hS (r.drop (j + 1)) (by rw [List.length_drop];clear hw;omega) (any_drop hb (j + 1)) (r.drop (j + 1)).length 0 _ (by clear hw;omega) (ZT (M:=600) (by omega))
   rw [List.drop_zero] at hrow
   have ht:(((j + 1:Nat):Int)).toNat=j + 1:=rfl
   refine Ev.ite_neg h0 (Ev.ite_pos (by clear hw;omega) (Ev.ite_pos (by clear hw;omega) (Ev.bind (by unfold zo.f;rw [ht];exact hrow) ?_)))
   generalize (rowG (catA (mx look 0).toNat) 600 F (r.drop (j + 1)) [(⟨#[]⟩:ByteArray)])=x at h1 h2⊢
   by_cases hx:x.2=true
   ·rw [if_pos hx] at h1 h2
    refine Ev.ite_pos hx (Ev.ite_pos (by clear hw;omega) (ih (j + 1) _ (by clear hw;omega) (by rw [List.length_append];simp;clear hw;omega) (fun h=>h1 (by rw [h];rfl)) (fun a ha2=> ?_)))
    have:=h2 _ (by rw [ha2];rfl)
    rw [List.append_assoc]
    exact this
   ·rw [if_neg hx] at h1
    rw [h1 rfl]
    exact Ev.ite_neg hx (Ev.now _)
theorem links_l0 {F:Sets} (hS:yf 600 F) (L:List Prod') (hL:L.length≤1000000) (hb:L.any (yX toks F.length)=false) (hl:∀p ∈ L,p.f1.length≤1000000) (res:List Lk × Int):∀(d i:Nat) (acc:List Lk),i + d=L.length→acc.length≤1000000 * i→
  (YV (mx look 0).toNat F (L.drop i)=none→res=([],15))→(∀a,YV (mx look 0).toNat F (L.drop i)=some a→res=(acc ++ a,0))→
  Ev (fun k=>zv.l0 k acc L L.length i look F) res:=by
 intro d
 induction d with
 | zero=>
  intro i acc hi _ _ h2
  rw [List.drop_of_length_le (by omega)] at h2
  have:=h2 [] rfl
  rw [List.append_nil] at this
  rw [this]
  exact Ev.step (fun k=>by rw [zv.l0,if_neg (by omega)]) (Ev.now _)
 | succ d ih=>
  intro i acc hi ha h1 h2
  have hlt:i < L.length:=by omega
  have hw:wrap64 ((i:Int) + 1)=((i + 1:Nat):Int):=by rw [ya (by omega)];rfl
  have hbp:yX toks F.length L[i]=false:=by
   cases hh:yX toks F.length L[i]
   ·rfl
   ·rw [List.any_eq_true.2 ⟨L[i],List.getElem_mem _,hh⟩] at hb;cases hb
  obtain ⟨hp,hr⟩:=Zp hbp
  have hll:=hl _ (List.getElem_mem hlt)
  rw [List.drop_eq_getElem_cons hlt] at h1 h2
  unfold YV at h1 h2
  refine Ev.step (fun k=>by rw [zv.l0,if_pos (by clear hw;omega),if_pos (by clear hw;omega),if_pos (by clear hw;omega),rdP hlt]) ?_
  refine links_l1 toks look hlook hS L i L[i].f0 L[i].f1 hll hr res L[i].f1.length 0 acc (by clear hw;omega) (by clear hw;omega) (fun h=>h1 ?_) (fun a ha2=> ?_)
  ·rw [List.drop_zero] at h;rw [h];rfl
  ·rw [List.drop_zero] at ha2
   rw [hw]
   have hal:=(qu (K_le hlook) hp L[i].f1 hr a ha2).2
   refine ih (i + 1) (acc ++ a) (by clear hw;omega) (by rw [List.length_append];clear hw;omega) (fun h=>h1 ?_) (fun b hb2=> ?_)
   ·rw [ha2,Option.bind_some,h];rfl
   ·rw [h2 (a ++ b) (by rw [ha2,Option.bind_some,hb2];rfl),List.append_assoc]
end
def ZO (K:Nat):List Lk→Sets→Bool→Sets × Bool × Bool
 | [],sets,more=>(sets,more,true)
 | x :: xs,sets,more=>if 600 < (setP (zh sets x.f0 ++ catA K x.f2 (zh sets x.f1))).length then (sets,false,false) else ZO K xs (sets.set x.f0.toNat (setP (zh sets x.f0 ++ catA K x.f2 (zh sets x.f1)))) (more || decide ((zh sets x.f0).length < (setP (zh sets x.f0 ++ catA K x.f2 (zh sets x.f1))).length))
def YM (K:Nat) (xs:List Lk):Nat→Sets→Option Sets
 | 0,_=>none
 | m + 1,sets=>if (ZO K xs sets false).2.2=false then none else if (ZO K xs sets false).2.1=false then some (ZO K xs sets false).1 else YM K xs m (ZO K xs sets false).1
theorem qk {K:Nat} (hK:K≤4) {sets:Sets} {n:Nat} (hS:yf 600 sets) (hn:sets.length=n) {x:Lk} (hx:qt n x) (hl:(setP (zh sets x.f0 ++ catA K x.f2 (zh sets x.f1))).length≤600) :
  Zo 600 (setP (zh sets x.f0 ++ catA K x.f2 (zh sets x.f1)))∧setT (setP (zh sets x.f0 ++ catA K x.f2 (zh sets x.f1)))=setP (zh sets x.f0 ++ catA K x.f2 (zh sets x.f1)):=by
 refine ⟨⟨hl,fun y hy=> ?_⟩,by rw [ZU,qE]⟩
 rw [ZU,YA,List.mem_append] at hy
 rcases hy with hy|hy
 ·exact (hS _ (Zq (by rw [hn];exact hx.1))).1.2 y hy
 ·exact Zy hK _ _ y hy
theorem qa {K:Nat} (hK:K≤4) {n:Nat} :∀(xs:List Lk) (sets:Sets) (more:Bool),(∀x ∈ xs,qt n x)→yf 600 sets→sets.length=n→
  yf 600 (ZO K xs sets more).1∧(ZO K xs sets more).1.length=n∧YI sets≤YI (ZO K xs sets more).1∧(more=false→(ZO K xs sets more).2.1=true→YI sets < YI (ZO K xs sets more).1):=by
 intro xs
 induction xs with
 | nil=>intro sets more _ hS hn;exact ⟨hS,hn,Nat.le_refl _,fun h1 h2=>by rw [show (ZO K [] sets more).2.1=more from rfl,h1] at h2;cases h2⟩
 | cons x xs ih=>
  intro sets more hx hS hn
  have hx0:=hx x List.mem_cons_self
  have hp:0≤x.f0∧x.f0 < (sets.length:Int):=by rw [hn];exact hx0.1
  have hj:=qk hK hS hn hx0
  obtain ⟨hg,-⟩:=Yn hS hp (catA K x.f2 (zh sets x.f1))
  unfold ZO
  generalize setP (zh sets x.f0 ++ catA K x.f2 (zh sets x.f1))=j at hj hg⊢
  by_cases h:600 < j.length
  ·rw [if_pos h];exact ⟨hS,hn,Nat.le_refl _,fun _ h2=>by cases h2⟩
  rw [if_neg h]
  obtain ⟨hj1,hj2⟩:=hj (by omega)
  have ht:=total_set sets x.f0.toNat (by omega) j
  rw [←rd_at hp] at ht
  obtain ⟨i1,i2,i3,i4⟩:=ih (sets.set x.f0.toNat j) (more || decide ((zh sets x.f0).length < j.length)) (fun y hy=>hx y (List.mem_cons_of_mem _ hy)) (Zx hS _ hj1 hj2) (by rw [List.length_set];exact hn)
  refine ⟨i1,i2,by omega,fun hm hm2=> ?_⟩
  by_cases h3:(zh sets x.f0).length < j.length
  ·omega
  ·have:=i4 (by rw [hm,decide_eq_false h3];rfl) hm2
   omega
section
variable (toks look : Int) (of : List Int) (hlook : 1 ≤ look ∧ look ≤ 4)
include hlook
theorem fround_ev:∀(xs:List Lk) (sets:Sets) (more:Bool),(∀x ∈ xs,qt of.length x)→yf 600 sets→sets.length=of.length→
  Ev (fun k=>yF.round k look xs sets more) (if (ZO (mx look 0).toNat xs sets more).2.2=true then ZO (mx look 0).toNat xs sets more else ([],false,false)):=by
 intro xs
 induction xs with
 | nil=>intro sets more _ _ _;exact Ev.now _
 | cons x xs ih=>
  intro sets more hx hS hn
  have hx0:=hx x List.mem_cons_self
  have hp:0≤x.f0∧x.f0 < (sets.length:Int):=by rw [hn];exact hx0.1
  have hp1:0≤x.f1∧x.f1 < (sets.length:Int):=by rw [hn];exact hx0.2.1
  have hj:=qk (K_le hlook) hS hn hx0
  have hc:=qZ hlook x.f2 (zh sets x.f1) hx0.2.2 (hS _ (Zq hp1)).1
  have hjs:∀c:List ByteArray,c.length≤360000→yp.f (zh sets x.f0) c=some (setP (zh sets x.f0 ++ c)):=fun c hcl=>by
   rw [ZU];exact join_some _ _ (by have:=(hS _ (Zq hp)).1.1;omega) (by omega)
  have hcl:(catA (mx look 0).toNat x.f2 (zh sets x.f1)).length≤360000:=by
   have h1:=hx0.2.2.1
   have h2:=(hS _ (Zq hp1)).1.1
   unfold catA
   rw [ZU]
   refine Nat.le_trans (YZ _) (Nat.le_trans (flat_len _ _ 600 (fun y=>by rw [List.length_map];exact h2)) ?_)
   exact Nat.le_trans (Nat.mul_le_mul_left 600 h1) (by omega)
  unfold ZO
  refine Ev.congr (fun k=>by rw [yF.round]) (Ev.ite_pos (And.intro hp hp1) (Ev.bind hc (Ev.bind0 (hjs _ hcl) ?_)))
  generalize setP (zh sets x.f0 ++ catA (mx look 0).toNat x.f2 (zh sets x.f1))=j at hj⊢
  by_cases h:600 < j.length
  ·simp only [if_pos h]
   exact Ev.ite_neg (by omega) (Ev.now _)
  ·simp only [if_neg h]
   obtain ⟨hj1,hj2⟩:=hj (by omega)
   exact Ev.ite_pos (by omega) (ih _ _ (fun y hy=>hx y (List.mem_cons_of_mem _ hy)) (Zx hS _ hj1 hj2) (by rw [List.length_set];exact hn))
theorem floop_ev (xs:List Lk) (hx:∀x ∈ xs,qt of.length x):∀(m:Nat) (sets:Sets),yf 600 sets→sets.length=of.length→600 * of.length - YI sets < m→
  (∃N,∀k,N≤k→∀q,N≤q→yF.loop k look xs q sets=some (YM (mx look 0).toNat xs m sets))∧∀s,YM (mx look 0).toNat xs m sets=some s→yf 600 s∧s.length=of.length:=by
 intro m
 induction m with
 | zero=>intro sets _ _ h;omega
 | succ m ih=>
  intro sets hS hn hm
  obtain ⟨g1,g2,g3,g4⟩:=qa (K_le hlook) xs sets false hx hS hn
  obtain ⟨N,hN⟩:=fround_ev look of hlook xs sets false hx hS hn
  replace hN:∀k,N≤k→yF.round k look xs sets false=some (if (ZO (mx look 0).toNat xs sets false).2.2=true then ZO (mx look 0).toNat xs sets false else ([],false,false)):=hN
  unfold YM
  generalize ZO (mx look 0).toNat xs sets false=x at g1 g2 g3 g4 hN⊢
  by_cases h1:x.2.2=false
  ·rw [if_pos h1]
   refine ⟨⟨N + 1,fun k hk q hq=> ?_⟩,fun s h=>by cases h⟩
   obtain ⟨q,rfl⟩:∃q',q=q' + 1:=⟨q - 1,by omega⟩
   rw [yF.loop,hN k (by omega),Option.bind_some,if_neg (show ¬x.2.2=true by rw [h1];simp),if_pos rfl]
  rw [if_neg h1]
  have h1':x.2.2=true:=by simpa using h1
  by_cases h2:x.2.1=false
  ·rw [if_pos h2]
   refine ⟨⟨N + 1,fun k hk q hq=> ?_⟩,fun s h=>by cases h;exact ⟨g1,g2⟩⟩
   obtain ⟨q,rfl⟩:∃q',q=q' + 1:=⟨q - 1,by omega⟩
   rw [yF.loop,hN k (by omega),Option.bind_some,if_pos h1',if_neg h1,if_pos h2]
  rw [if_neg h2]
  have g5:=g4 rfl (by simpa using h2)
  have g6:=total_le g1
  rw [g2] at g6
  obtain ⟨⟨M',hM'⟩,i3⟩:=ih x.1 g1 g2 (by omega)
  refine ⟨⟨N + M' + 1,fun k hk q hq=> ?_⟩,i3⟩
  obtain ⟨q,rfl⟩:∃q',q=q' + 1:=⟨q - 1,by omega⟩
  rw [yF.loop,hN k (by omega),Option.bind_some,if_pos h1',if_neg h1,if_neg h2]
  exact hM' k (by omega) q (by omega)
end
def Yy (n:Nat):ByteArray:=⟨(List.replicate n (0:UInt8)).toArray⟩
theorem zeroT_size (n:Nat):(Yy n).size=n:=by
 rw [←YE];unfold Yy;simp
theorem qv:∀n,Lib.repeatL [(0:UInt8)] n=List.replicate n 0
 | 0=>rfl
 | n + 1=>by rw [Lib.repeatL,qv n,List.replicate_succ];rfl
theorem repeat_some (look:Int) (hlook:1≤look∧look≤4):strings_Repeat.f (⟨#[0]⟩:ByteArray) look=some (Yy look.toNat):=by
 unfold strings_Repeat.f
 rw [if_pos ⟨by omega,by omega,by decide⟩]
 unfold Yy
 rw [show ((⟨#[0]⟩:ByteArray).data.toList)= [0] from rfl,qv]
def Yp (look:Int) (n:Nat):Sets:=(List.replicate n []).set 0 [Yy look.toNat]
theorem setT_one (x:ByteArray):setT [x]= [x]:=by
 unfold setT
 rw [show yP [x]= [x.data.toList] from rfl,Yf (List.pairwise_singleton _ _),show [x.data.toList]=yP [x] from rfl,qD]
theorem qT {look:Int} (hlook:1≤look∧look≤4) (n:Nat):yf 600 (Yp look n)∧(Yp look n).length=n:=by
 refine ⟨Zx (Zm 600 n) 0 ⟨by simp,fun x hx=> ?_⟩ (setT_one _),by unfold Yp;rw [List.length_set,List.length_replicate]⟩
 rw [List.mem_singleton.1 hx,zeroT_size];omega
def ZA (toks look:Int) (n:Nat) (L:List Prod'):Sets × Int:=
 if (ofA toks look n L).2=0 then (match YV (mx look 0).toNat (ofA toks look n L).1 L with|none=>([],15)|some xs=>match YM (mx look 0).toNat xs (600 * n + 1) (Yp look n) with|none=>([],15)|some s=>(s,0)) else ([],(ofA toks look n L).2)
theorem YJ {toks look:Int} {of:List Int} {L:List Prod'} (hl:∀p ∈ L,p.f1.length≤1000000) (h:(ofA toks look of.length L).2=0):mayE toks look of.length L=0∧yf 600 (ofA toks look of.length L).1∧(ofA toks look of.length L).1.length=of.length:=by
 unfold ofA at h⊢
 by_cases h0:mayE toks look of.length L=0
 ·obtain ⟨h1,h2,h3,h4⟩:=ZP h0
  rw [if_pos h0] at h⊢
  obtain ⟨-,hG⟩:=of_loop toks h3 of L h4 hl
  refine ⟨h0,?_⟩
  cases hh:Zn (catA (mx look 0).toNat) 600 L (600 * of.length + 1) (List.replicate of.length []) with
  | none=>rw [hh] at h;cases h
  | some s=>exact hG s hh
 ·rw [if_neg h0] at h
  exact absurd h h0
theorem links_ev (toks look:Int) (of:List Int) (L:List Prod') (hl:∀p ∈ L,p.f1.length≤1000000) (hL:L.length≤1000000) :
  Ev (fun k=>zv.f k toks look of L) (if (ofA toks look of.length L).2=0 then (match YV (mx look 0).toNat (ofA toks look of.length L).1 L with|none=>([],15)|some xs=>(xs,0)) else ([],(ofA toks look of.length L).2)):=by
 have ho:=of_ev toks look of L hl hL
 have hz:=YJ (toks:=toks) (look:=look) (of:=of) hl
 unfold zv.f
 refine Ev.bind ho ?_
 generalize ofA toks look of.length L=X at hz⊢
 by_cases h0:X.2=0
 ·obtain ⟨hm,hS,hn⟩:=hz h0
  obtain ⟨h1,h2,h3,h4⟩:=ZP hm
  rw [←hn] at h4
  rw [if_pos h0]
  refine Ev.ite_pos h0 (links_l0 toks look h3 hS L (by omega) h4 hl _ L.length 0 [] (by omega) (by simp) (fun h=> ?_) (fun a h=> ?_))
  ·rw [List.drop_zero] at h;rw [h]
  ·rw [List.drop_zero] at h;rw [h];rfl
 ·rw [if_neg h0]
  exact Ev.ite_neg h0 (Ev.now _)
theorem follow_ev (toks look:Int) (of:List Int) (L:List Prod') (hl4:∀p ∈ L,p.f1.length≤400000) (hL:L.length≤1000000):Ev (fun k=>yF.f k toks look of L) (ZA toks look of.length L):=by
 have hl:∀p ∈ L,p.f1.length≤1000000:=fun p hp=>Nat.le_trans (hl4 p hp) (by omega)
 have hk:=links_ev toks look of L hl hL
 have hz:=YJ (toks:=toks) (look:=look) (of:=of) hl
 unfold yF.f ZA
 generalize ofA toks look of.length L=X at hz hk⊢
 by_cases h0:X.2=0
 ·obtain ⟨hm,hS,hn⟩:=hz h0
  obtain ⟨h1,h2,h3,h4⟩:=ZP hm
  rw [if_pos h0] at hk⊢
  refine Ev.bind hk ?_
  cases hh:YV (mx look 0).toNat X.1 L with
  | none=>exact Ev.ite_neg (by simp) (Ev.now _)
  | some xs=>
   dsimp only
   obtain ⟨g1,g2⟩:=Yx (K_le h3) L (n:=of.length) h4 hl4 xs hh
   obtain ⟨i1,i2⟩:=qT h3 of.length
   obtain ⟨⟨N,hN⟩,-⟩:=floop_ev look of h3 xs g1 (600 * of.length + 1) (Yp look of.length) i1 i2 (by omega)
   have hlp:Ev (fun k=>yF.loop k look xs k (Yp look of.length)) (YM (mx look 0).toNat xs (600 * of.length + 1) (Yp look of.length)):=⟨N,fun k hk=>hN k hk k hk⟩
   refine Ev.ite_pos rfl (Ev.ite_pos ⟨by omega,by omega,?_⟩ (Ev.bind0 (repeat_some look h3) (Ev.bind hlp ?_)))
   ·show xs.length≤1000000000
    omega
   ·cases YM (mx look 0).toNat xs (600 * of.length + 1) (Yp look of.length) with
    | none=>exact Ev.now _
    | some s=>exact Ev.now _
 ·rw [if_neg h0] at hk⊢
  exact Ev.bind hk (Ev.ite_neg h0 (Ev.now _))
theorem followA_good (toks look:Int) (of:List Int) (L:List Prod') (hl:∀p ∈ L,p.f1.length≤1000000):((ZA toks look of.length L).2=0→mayE toks look of.length L=0∧yf 600 (ZA toks look of.length L).1∧(ZA toks look of.length L).1.length=of.length)∧((ZA toks look of.length L).2≠0→(ZA toks look of.length L).1= []):=by
 have hz:=YJ (toks:=toks) (look:=look) (of:=of) hl
 unfold ZA
 generalize ofA toks look of.length L=X at hz⊢
 by_cases h0:X.2=0
 ·obtain ⟨hm,hS,hn⟩:=hz h0
  obtain ⟨h1,h2,h3,h4⟩:=ZP hm
  obtain ⟨i1,i2⟩:=qT h3 of.length
  rw [if_pos h0]
  cases hh:YV (mx look 0).toNat X.1 L with
  | none=>exact ⟨fun h=>(by cases h),fun _=>rfl⟩
  | some xs=>
   obtain ⟨g1,-⟩:=Yx (K_le h3) L (n:=of.length) h4 hl xs hh
   obtain ⟨-,hG⟩:=floop_ev look of h3 xs g1 (600 * of.length + 1) (Yp look of.length) i1 i2 (by omega)
   dsimp only
   cases hs:YM (mx look 0).toNat xs (600 * of.length + 1) (Yp look of.length) with
   | none=>exact ⟨fun h=>(by cases h),fun _=>rfl⟩
   | some s=>exact ⟨fun _=>⟨hm,hG s hs⟩,fun h=>absurd rfl h⟩
 ·rw [if_neg h0]
  exact ⟨fun h=>absurd h h0,fun _=>rfl⟩
theorem rd_natS {X:Sets} {i:Nat} (h:i < X.length):zh X (i:Int)=X[i]:=rd_at ⟨by omega,by omega⟩
def gRow (K:Nat) (F:Sets) (p:Prod'):List ByteArray:=(rowG (catA K) 600 F p.f1 [(⟨#[]⟩:ByteArray)]).1
def gCat (K:Nat) (F B:Sets) (p:Prod'):List ByteArray:=catA K (gRow K F p) (zh B p.f0)
def gAll (K:Nat) (F B:Sets):List Prod'→Option Sets
 | []=>some []
 | p :: ps=>if 600 < (gCat K F B p).length then none else (gAll K F B ps).map fun g=>gCat K F B p :: g
def outG (X:Sets):Option Sets→Sets × Int
 | none=>([],15)
 | some g=>(X ++ g,0)
theorem outG_cons (X:Sets) (c:List ByteArray) (o:Option Sets):outG X (o.map fun g=>c :: g)=outG (X ++ [c]) o:=by
 cases o with
 | none=>rfl
 | some g=>show (X ++ c :: g,(0:Int))=(X ++ [c] ++ g,0);rw [List.append_assoc];rfl
def Zg (toks look:Int) (n:Nat) (L:List Prod'):Sets × Int:=
 if (ofA toks look n L).2=0 then (if (ZA toks look n L).2=0 then outG [] (gAll (mx look 0).toNat (ofA toks look n L).1 (ZA toks look n L).1 L) else ([],(ZA toks look n L).2)) else ([],(ofA toks look n L).2)
theorem set_take {X:Sets} {i:Nat} (h:i < X.length) (t:List ByteArray):(X.set i t).take (i + 1)=X.take i ++ [t]:=by
 rw [List.take_succ_eq_append_getElem (by rw [List.length_set];exact h),List.take_set_of_le (Nat.le_refl _),List.getElem_set_self]
theorem prod_of {toks:Int} {n:Nat} {L:List Prod'} (hb:L.any (yX toks n)=false) {i:Nat} (hi:i < L.length):(0≤L[i].f0∧L[i].f0 < (n:Int))∧L[i].f1.any (yg toks n)=false:=by
 refine Zp ?_
 cases hh:yX toks n L[i]
 ·rfl
 ·rw [List.any_eq_true.2 ⟨L[i],List.getElem_mem _,hh⟩] at hb;cases hb
section
variable (toks look : Int) (hlook : 1 ≤ look ∧ look ≤ 4) (of : List Int)
include hlook
theorem rows_l1 {F:Sets} (hS:yf 600 F) (L:List Prod') (hL:L.length≤1000000) (i:Nat) (hi:i < L.length) (hr:L[i].f1.length≤1000000) (hb:L[i].f1.any (yg toks F.length)=false) (X:Sets) (hX:X.length=L.length) (res:Sets):∀(d j:Nat) (out:List ByteArray),j + d=L[i].f1.length→Zo 600 out→
  (rowG (catA (mx look 0).toNat) 600 F (L[i].f1.drop j) out).2=true→Ev (fun k=>yA.l0 k F (X.set i (rowG (catA (mx look 0).toNat) 600 F (L[i].f1.drop j) out).1) L L.length ((i + 1:Nat):Int) toks look of L) res→
  Ev (fun k=>yA.l1 k F (X.set i out) i L L.length i L[i].f1 L[i].f1.length j toks look of L) res:=by
 intro d
 induction d with
 | zero=>
  intro j out hj _ _ h
  have hw1:wrap64 ((i:Int) + 1)=((i + 1:Nat):Int):=by rw [ya (by omega)];rfl
  rw [List.drop_of_length_le (by clear hw1;omega)] at h
  exact Ev.step (fun k=>by rw [yA.l1,if_neg (by clear hw1;omega),hw1];rfl) h
 | succ d ih=>
  intro j out hj ho hok h
  have hlt:j < L[i].f1.length:=by omega
  have hw:wrap64 ((j:Int) + 1)=((j + 1:Nat):Int):=by rw [ya (by omega)];rfl
  have hbs:yg toks F.length L[i].f1[j]=false:=by
   cases hh:yg toks F.length L[i].f1[j]
   ·rfl
   ·rw [List.any_eq_true.2 ⟨L[i].f1[j],List.getElem_mem _,hh⟩] at hb;cases hb
  obtain ⟨hg,hn⟩:=qY (M:=600) (by clear hw;omega) hS hbs
  have hc:=qZ hlook out _ ho hg
  rw [List.drop_eq_getElem_cons hlt] at hok h
  unfold rowG at hok h
  have hsz:=Zy (K_le hlook) out (if L[i].f1[j].f0=true then [strOfNums [L[i].f1[j].f1 % 256]] else zh F L[i].f1[j].f1)
  generalize hC:catA (mx look 0).toNat out (if L[i].f1[j].f0=true then [strOfNums [L[i].f1[j].f1 % 256]] else zh F L[i].f1[j].f1)=C at hok h hc hsz
  by_cases h6:600 < C.length
  ·rw [if_pos h6] at hok;cases hok
  rw [if_neg h6] at hok h
  have hgo:=ih (j + 1) C (by clear hw;omega) ⟨by clear hw;omega,hsz⟩ hok h
  have hset:(X.set i out).set ((i:Nat):Int).toNat C=X.set i C:=by rw [Int.toNat_natCast,List.set_set]
  have hrd:zh (X.set i out) (i:Int)=out:=by rw [rd_natS (by rw [List.length_set];clear hw;omega)];exact List.getElem_set_self ..
  have hlx:(i:Int) < ((X.set i out).length:Int):=by rw [List.length_set];clear hw;omega
  refine Ev.step (fun k=>by rw [yA.l1,if_pos (by clear hw;omega),if_pos (by clear hw;omega),if_pos (by clear hw;omega),rdS hlt,hw,hrd]) ?_
  cases h0:L[i].f1[j].f0
  ·simp only [h0] at hc
   simp only [if_neg Bool.false_ne_true] at hc
   obtain ⟨h1,h2⟩:=hn h0
   refine Ev.ite_neg (by simp) (Ev.ite_pos h1 (Ev.ite_pos h2 (Ev.ite_pos (by clear hw;omega) (Ev.ite_pos hlx (Ev.bind hc ?_)))))
   rw [hset];exact hgo
  ·simp only [h0] at hc
   simp only [if_true] at hc
   refine Ev.ite_pos rfl (Ev.ite_pos (by clear hw;omega) (Ev.ite_pos hlx (Ev.bind hc ?_)))
   rw [hset];exact hgo
theorem rows_l0 {F:Sets} (hS:yf 600 F) (L:List Prod') (hL:L.length≤1000000) (hb:L.any (yX toks F.length)=false) (hl:∀p ∈ L,p.f1.length≤1000000) (hF:Fix (catA (mx look 0).toNat) 600 L F):∀(d i:Nat) (X:Sets),i + d=L.length→X.length=L.length→
  Ev (fun k=>yA.l0 k F X L L.length i toks look of L) (X.take i ++ (L.drop i).map (gRow (mx look 0).toNat F)):=by
 intro d
 induction d with
 | zero=>
  intro i X hi hX
  rw [List.drop_of_length_le (by omega),List.map_nil,List.append_nil,List.take_of_length_le (by omega)]
  exact Ev.step (fun k=>by rw [yA.l0,if_neg (by omega)]) (Ev.now _)
 | succ d ih=>
  intro i X hi hX
  have hlt:i < L.length:=by omega
  obtain ⟨-,hr⟩:=prod_of hb hlt
  have hfx:=(hF L[i] (List.getElem_mem hlt)).1
  have h:=ih (i + 1) (X.set i (gRow (mx look 0).toNat F L[i])) (by omega) (by rw [List.length_set];exact hX)
  rw [set_take (by omega)] at h
  rw [List.drop_eq_getElem_cons hlt,List.map_cons]
  have h1:=rows_l1 toks look hlook of hS L hL i hlt (hl _ (List.getElem_mem hlt)) hr X hX _ L[i].f1.length 0 [(⟨#[]⟩:ByteArray)] (by omega) (ZT (M:=600) (by omega)) (by rw [List.drop_zero];exact hfx) (by rw [List.drop_zero];exact h)
  refine Ev.step (fun k=>by rw [yA.l0,if_pos (by omega),if_pos (by omega),if_pos (by omega),if_pos (by omega),rdP hlt]) ?_
  rw [Int.toNat_natCast,show X.take i ++ gRow (mx look 0).toNat F L[i] :: (L.drop (i + 1)).map (gRow (mx look 0).toNat F)=X.take i ++ [gRow (mx look 0).toNat F L[i]] ++ (L.drop (i + 1)).map (gRow (mx look 0).toNat F) from by simp]
  exact h1
theorem guess_l0 {F B:Sets} (hS:yf 600 F) (hB:yf 600 B) (hBl:B.length=F.length) (L:List Prod') (hL:L.length≤1000000) (hb:L.any (yX toks F.length)=false):∀(d i:Nat) (X:Sets),i + d=L.length→X.length=L.length→X.drop i=(L.drop i).map (gRow (mx look 0).toNat F)→
  Ev (fun k=>yR.l0 k B 0 X L L.length i toks look of L) (outG (X.take i) (gAll (mx look 0).toNat F B (L.drop i))):=by
 intro d
 induction d with
 | zero=>
  intro i X hi hX _
  rw [List.drop_of_length_le (by omega)]
  show Ev _ ((X.take i ++ [],0):Sets × Int)
  rw [List.append_nil,List.take_of_length_le (by omega)]
  exact Ev.step (fun k=>by rw [yR.l0,if_neg (by omega)]) (Ev.now _)
 | succ d ih=>
  intro i X hi hX hd
  have hlt:i < L.length:=by omega
  have hw:wrap64 ((i:Int) + 1)=((i + 1:Nat):Int):=by rw [ya (by omega)];rfl
  obtain ⟨hp,hr⟩:=prod_of hb hlt
  have hp2:0≤L[i].f0∧L[i].f0 < (B.length:Int):=by rw [hBl];exact hp
  have hxi:X[i]'(by clear hw;omega)=gRow (mx look 0).toNat F L[i]:=by
   have e:=congrArg List.head? hd
   rw [List.drop_eq_getElem_cons (by clear hw;omega),List.drop_eq_getElem_cons hlt,List.map_cons,List.head?_cons,List.head?_cons] at e
   exact Option.some.inj e
  have hc:=qZ hlook (gRow (mx look 0).toNat F L[i]) (zh B L[i].f0) (YQ (M:=600) (Zy (K_le hlook)) F _ _ (ZT (M:=600) (by clear hw;omega))) (hB _ (Zq hp2)).1
  have h:=ih (i + 1) (X.set i (gCat (mx look 0).toNat F B L[i])) (by clear hw;omega) (by rw [List.length_set];exact hX) (by
   rw [List.drop_set_of_lt (by clear hw;omega)]
   have e:=congrArg List.tail hd
   rw [List.drop_eq_getElem_cons (by clear hw;omega),List.drop_eq_getElem_cons hlt,List.map_cons,List.tail_cons,List.tail_cons] at e
   exact e)
  rw [set_take (by clear hw;omega)] at h
  rw [List.drop_eq_getElem_cons hlt]
  unfold gAll
  refine Ev.step (fun k=>by rw [yR.l0,if_pos (by clear hw;omega),if_pos (by clear hw;omega),if_pos (by clear hw;omega),if_pos (by clear hw;omega),rdP hlt,if_pos hp2.1,if_pos hp2.2,rd_natS (by clear hw;omega),hxi,hw,Int.toNat_natCast]) (Ev.bind hc ?_)
  by_cases h6:600 < (gCat (mx look 0).toNat F B L[i]).length
  ·rw [if_pos h6]
   exact Ev.ite_pos (by clear hw;show (((gCat (mx look 0).toNat F B L[i]).length:Nat):Int) > 600;omega) (Ev.now _)
  ·rw [if_neg h6]
   refine Ev.ite_neg (by clear hw;show ¬(((gCat (mx look 0).toNat F B L[i]).length:Nat):Int) > 600;omega) ?_
   rw [outG_cons];exact h
end
theorem of_fix {toks look:Int} {of:List Int} {L:List Prod'} (hl:∀p ∈ L,p.f1.length≤1000000) (h:(ofA toks look of.length L).2=0):Fix (catA (mx look 0).toNat) 600 L (ofA toks look of.length L).1:=by
 have hz:=YJ (toks:=toks) (look:=look) (of:=of) hl h
 obtain ⟨h1,h2,h3,h4⟩:=ZP hz.1
 unfold ofA at h⊢
 rw [if_pos hz.1] at h⊢
 cases hh:Zn (catA (mx look 0).toNat) 600 L (600 * of.length + 1) (List.replicate of.length []) with
 | none=>rw [hh] at h;cases h
 | some s=>exact (loopG_fix (Zy (K_le h3)) (by omega) h4 _ _ _ (Zm 600 of.length) (List.length_replicate ..) hh).1
theorem guess_ev (toks look:Int) (of:List Int) (L:List Prod') (hl4:∀p ∈ L,p.f1.length≤400000) (hL:L.length≤1000000):Ev (fun k=>yR.f k toks look of L) (Zg toks look of.length L):=by
 have hl:∀p ∈ L,p.f1.length≤1000000:=fun p hp=>Nat.le_trans (hl4 p hp) (by omega)
 have o1:=of_ev toks look of L hl hL
 have o2:=follow_ev toks look of L hl4 hL
 have hz:=YJ (toks:=toks) (look:=look) (of:=of) hl
 have hfx:=of_fix (toks:=toks) (look:=look) (of:=of) hl
 obtain ⟨hg,-⟩:=followA_good toks look of L hl
 have he:(ofA toks look of.length L).2≠0→ZA toks look of.length L=([],(ofA toks look of.length L).2):=fun h=>by unfold ZA;rw [if_neg h]
 unfold yR.f Zg
 generalize ofA toks look of.length L=X at hz o1 he hfx⊢
 generalize ZA toks look of.length L=Y at hg o2 he⊢
 by_cases h0:X.2=0
 ·obtain ⟨hm,hS,hn⟩:=hz h0
  obtain ⟨h1,h2,h3,h4⟩:=ZP hm
  rw [if_pos h0]
  by_cases h5:Y.2=0
  ·obtain ⟨-,hB,hBn⟩:=hg h5
   rw [if_pos h5]
   rw [←hn] at h4
   have r1:=rows_l0 toks look h3 of hS L hL h4 hl (hfx h0) L.length 0 (List.replicate L.length []) (by omega) (List.length_replicate ..)
   rw [List.take_zero,List.nil_append,List.drop_zero] at r1
   have r2:=guess_l0 toks look h3 of hS hB (by rw [hn,hBn]) L hL h4 L.length 0 (L.map (gRow (mx look 0).toNat X.1)) (by omega) (List.length_map ..) (by rw [List.drop_zero,List.drop_zero])
   rw [List.drop_zero] at r2
   refine Ev.bind o2 (Ev.ite_pos h5 (Ev.bind o1 (Ev.ite_pos h0 (Ev.bind (by
    unfold yA.f
    exact Ev.ite_pos (by omega) (Ev.ite_pos (by omega) (by rw [Int.toNat_natCast];exact r1))) ?_))))
   rw [h0]
   exact r2
  ·rw [if_neg h5]
   exact Ev.bind o2 (Ev.ite_neg h5 (Ev.now _))
 ·rw [if_neg h0,←he h0]
  refine Ev.bind o2 (Ev.ite_neg (by rw [he h0];exact h0) ?_)
  rw [he h0];exact Ev.now _
theorem gAll_good {K:Nat} (hK:K≤4) {F B:Sets} :∀(L:List Prod') (g:Sets),gAll K F B L=some g→yf 600 g∧g.length=L.length:=by
 intro L
 induction L with
 | nil=>intro g h;obtain rfl:=Option.some.inj h;exact ⟨fun a ha=>(nomatch ha),rfl⟩
 | cons p ps ih=>
  intro g h
  unfold gAll at h
  by_cases h6:600 < (gCat K F B p).length
  ·rw [if_pos h6] at h;cases h
  rw [if_neg h6] at h
  obtain ⟨g2,hg2,rfl⟩:=Option.map_eq_some_iff.1 h
  obtain ⟨i1,i2⟩:=ih g2 hg2
  refine ⟨fun a ha=> ?_,by rw [List.length_cons,i2,List.length_cons]⟩
  rcases List.mem_cons.1 ha with rfl|ha
  ·refine ⟨⟨by omega,fun x hx=>Zy hK _ _ x hx⟩,?_⟩
   unfold gCat catA
   rw [ZU,qE]
  ·exact i1 a ha
theorem qw (toks look:Int) (of:List Int) (L:List Prod') (hl:∀p ∈ L,p.f1.length≤1000000):((Zg toks look of.length L).2=0→mayE toks look of.length L=0∧yf 600 (Zg toks look of.length L).1∧(Zg toks look of.length L).1.length=L.length)∧((Zg toks look of.length L).2≠0→(Zg toks look of.length L).1= []):=by
 have hz:=YJ (toks:=toks) (look:=look) (of:=of) hl
 unfold Zg
 generalize ofA toks look of.length L=X at hz⊢
 generalize ZA toks look of.length L=Y
 by_cases h0:X.2=0
 ·obtain ⟨hm,hS,hn⟩:=hz h0
  obtain ⟨h1,h2,h3,h4⟩:=ZP hm
  rw [if_pos h0]
  by_cases h5:Y.2=0
  ·rw [if_pos h5]
   cases hg:gAll (mx look 0).toNat X.1 Y.1 L with
   | none=>exact ⟨fun h=>(by cases h),fun _=>rfl⟩
   | some g=>
    obtain ⟨g1,g2⟩:=gAll_good (K_le h3) L g hg
    exact ⟨fun _=>⟨hm,g1,g2⟩,fun h=>absurd rfl h⟩
  ·rw [if_neg h5];exact ⟨fun h=>absurd h h5,fun _=>rfl⟩
 ·rw [if_neg h0];exact ⟨fun h=>absurd h h0,fun _=>rfl⟩
def YB (n:Int):List Prod'→Nat→List Int
 | [],_=> []
 | p :: ps,i=>if p.f0=n then (i:Int) :: YB n ps (i + 1) else YB n ps (i + 1)
theorem prodsA_in (n:Int):∀(L:List Prod') (i:Nat),(∀x ∈ YB n L i,(i:Int)≤x∧x < ((i + L.length:Nat):Int))∧(YB n L i).length≤L.length:=by
 intro L
 induction L with
 | nil=>intro i;exact ⟨fun x hx=>(nomatch hx),Nat.le_refl _⟩
 | cons p ps ih=>
  intro i
  obtain ⟨i1,i2⟩:=ih (i + 1)
  unfold YB
  split
  ·refine ⟨fun x hx=> ?_,by simp;exact i2⟩
   rcases List.mem_cons.1 hx with rfl|hx
   ·simp;omega
   ·have:=i1 x hx;simp;omega
  ·exact ⟨fun x hx=>by have:=i1 x hx;simp;omega,by simp;omega⟩
theorem prods_l0 (n:Int) (L:List Prod') (hL:L.length≤1000000):∀(d i:Nat) (acc:List Int),i + d=L.length→acc.length≤i→Ev (fun k=>yY.l0 k n acc L L.length i) (acc ++ YB n (L.drop i) i):=by
 intro d
 induction d with
 | zero=>
  intro i acc hi _
  rw [List.drop_of_length_le (by omega),show YB n [] i= [] from rfl,List.append_nil]
  exact Ev.step (fun k=>by rw [yY.l0,if_neg (by omega)]) (Ev.now _)
 | succ d ih=>
  intro i acc hi ha
  have hlt:i < L.length:=by omega
  have hw:wrap64 ((i:Int) + 1)=((i + 1:Nat):Int):=by rw [ya (by omega)];rfl
  rw [List.drop_eq_getElem_cons hlt]
  unfold YB
  refine Ev.step (fun k=>by rw [yY.l0,if_pos (by clear hw;omega),if_pos (by clear hw;omega),if_pos (by clear hw;omega),rdP hlt,hw]) ?_
  by_cases c:L[i].f0=n
  ·rw [if_pos c]
   have h:=ih (i + 1) (acc ++ [(i:Int)]) (by clear hw;omega) (by rw [List.length_append];simp;clear hw;omega)
   rw [List.append_assoc] at h
   exact Ev.ite_pos c (Ev.ite_pos (by clear hw;omega) h)
  ·rw [if_neg c]
   exact Ev.ite_neg c (ih (i + 1) acc (by clear hw;omega) (by clear hw;omega))
theorem prods_ev (toks look:Int) (of:List Int) (L:List Prod') (n:Int) (hl:∀p ∈ L,p.f1.length≤1000000) (hL:L.length≤1000000) (hm0:mayE toks look of.length L=0):Ev (fun k=>yY.f k toks look of L n) (YB n L 0):=by
 have hm:=may_ev toks look of L (by omega) (fun p hp=>by have:=hl p hp;omega)
 rw [hm0] at hm
 have h:=prods_l0 n L hL L.length 0 [] (by omega) (Nat.le_refl _)
 rw [List.drop_zero,List.nil_append] at h
 unfold yY.f
 exact Ev.bind hm (Ev.ite_pos rfl h)
def pickA (g:Sets) (t:ByteArray) (ps:List Int):Int:=zY.first (ps.map fun p=>decide (t ∈ zh g p)) 0
theorem hass_ev (g:Sets) (hg:yf 600 g) (t:ByteArray):∀ps:List Int,(∀p ∈ ps,0≤p∧p < (g.length:Int))→Ev (fun k=>zY.hass k g t ps) (ps.map fun p=>decide (t ∈ zh g p)):=by
 intro ps
 induction ps with
 | nil=>intro _;exact Ev.now _
 | cons p ps ih=>
  intro h
  have h1:=has_dec (zh g p) t (by have:=(hg _ (Zq (h p List.mem_cons_self))).1.1;omega)
  refine Ev.congr (fun k=>by rw [zY.hass]) (Ev.bind h1 ?_)
  exact Ev.bind (f:=fun _ bs=>some (decide (t ∈ zh g p) :: bs)) (ih fun q hq=>h q (List.mem_cons_of_mem _ hq)) (Ev.now _)
def pickR (toks look:Int) (n:Nat) (L:List Prod') (m:Int) (t:ByteArray):Int × Int:=
 if (Zg toks look n L).2=0 then (if m < 0∨(n:Int)≤m then (0,3) else (pickA (Zg toks look n L).1 t (YB m L 0),0)) else (0,(Zg toks look n L).2)
theorem pick_ev (toks look:Int) (of:List Int) (L:List Prod') (m:Int) (t:ByteArray) (hl4:∀p ∈ L,p.f1.length≤400000) (hL:L.length≤1000000):Ev (fun k=>zY.f k toks look of L m t) (pickR toks look of.length L m t):=by
 have hl:∀p ∈ L,p.f1.length≤1000000:=fun p hp=>Nat.le_trans (hl4 p hp) (by omega)
 have o1:=guess_ev toks look of L hl4 hL
 obtain ⟨hg,-⟩:=qw toks look of L hl
 unfold zY.f pickR
 generalize Zg toks look of.length L=X at o1 hg⊢
 refine Ev.bind o1 ?_
 by_cases h0:X.2=0
 ·obtain ⟨hm,hS,hn⟩:=hg h0
  rw [if_pos h0]
  refine Ev.ite_pos h0 ?_
  by_cases h1:m < 0∨(of.length:Int)≤m
  ·rw [if_pos h1];exact Ev.ite_pos h1 (Ev.now _)
  ·rw [if_neg h1]
   obtain ⟨p1,p2⟩:=prodsA_in m L 0
   have hin:∀p ∈ YB m L 0,0≤p∧p < (X.1.length:Int):=fun p hp=>by have:=p1 p hp;rw [hn];omega
   exact Ev.ite_neg h1 (Ev.bind (prods_ev toks look of L m hl hL hm) (Ev.ite_pos ⟨by omega,hin⟩ (Ev.bind (hass_ev X.1 hS t _ hin) (Ev.now _))))
 ·rw [if_neg h0];exact Ev.ite_neg h0 (Ev.now _)
def Yb:List Prod':= [⟨0,[⟨true,1⟩]⟩,⟨0,[]⟩]
theorem qb:Zg 1 1 1 Yb=([[⟨#[1]⟩],[⟨#[0]⟩]],0):=by kernel_rfl
theorem sample_pick:pickR 1 1 1 Yb 0 ⟨#[0]⟩=(1,0):=by
 unfold pickR
 rw [qb]
 kernel_rfl
theorem guess_works:Ev (fun k=>yO.f k) true:=by
 unfold yO.f yK.f
 have hl:∀p ∈ Yb,p.f1.length≤400000:=fun p hp=>by
  unfold Yb at hp
  rcases List.mem_cons.1 hp with rfl|hp
  ·simp
  ·rw [List.mem_singleton.1 hp];simp
 have h:=guess_ev 1 1 [-1] Yb hl (by unfold Yb;simp)
 have hp:=pick_ev 1 1 [-1] Yb 0 ⟨#[0]⟩ hl (by unfold Yb;simp)
 rw [show ([-1]:List Int).length=1 from rfl] at h hp
 rw [qb] at h
 rw [sample_pick] at hp
 have h1:=same_dec [⟨#[1]⟩] [⟨#[1]⟩] (by simp)
 have h2:=same_dec [⟨#[0]⟩] [⟨#[0]⟩] (by simp)
 rw [decide_eq_true rfl] at h1 h2
 refine Ev.bind0 rfl (Ev.bind h (Ev.bind0 rfl (Ev.bind hp ?_)))
 exact Ev.ite_pos rfl (Ev.ite_pos rfl (Ev.ite_pos rfl (Ev.ite_pos (by decide) (Ev.bind h1 (Ev.ite_pos rfl (Ev.ite_pos (by decide) (Ev.bind h2 (Ev.ite_pos rfl (Ev.now _)))))))))
section
variable {C C' : CatF} {M M' : Nat} {G : ByteArray → Prop} {g : ByteArray → ByteArray} (hsim : ∀ a a' x x', Sim G g a a' → Sim G g x x' → Sim G g (C a x) (C' a' x')) (hE : Sim G g [(⟨#[]⟩ : ByteArray)] [(⟨#[]⟩ : ByteArray)]) (hT : ∀ n, Sim G g [strOfNums [n]] [strOfNums [n]])
 (hC:∀a b,∀x ∈ C a b,x.size≤4) (hM:1≤M) {toks:Int} {n:Nat} {S':Sets} (hn':S'.length=n) {L:List Prod'} (hF:Fix C' M' L S') (Q:Int→ByteArray→Prop) (hQ:∀p ∈ L,∀y ∈ (rowG C' M' S' p.f1 [(⟨#[]⟩:ByteArray)]).1,Q p.f0 y)
include hsim hE hT hC hM hn' hF hQ
theorem roundG_src:∀(ps:List Prod') (S:Sets) (more:Bool),(∀p ∈ ps,p ∈ L)→yf M S→S.length=n→ps.any (yX toks n)=false→(∀i:Int,0≤i∧i < n→∀x ∈ zh S i,G x→g x ∈ zh S' i∧Q i (g x))→
  ∀i:Int,0≤i∧i < n→∀x ∈ zh (yn C M ps S more).1 i,G x→g x ∈ zh S' i∧Q i (g x):=by
 intro ps
 induction ps with
 | nil=>intro S more _ _ _ _ h;exact h
 | cons p ps ih=>
  intro S more hL hS hn hb h
  rw [List.any_cons,Bool.or_eq_false_iff] at hb
  obtain ⟨hp,hr⟩:=Zp hb.1
  have hp':=hp
  rw [←hn] at hp
  obtain ⟨f1,f2⟩:=hF p (hL p List.mem_cons_self)
  have hQp:=hQ p (hL p List.mem_cons_self)
  have hrow:=row_sim (M:=M) (M':=M') (sets:=S) (sets':=S') hsim p.f1 _ _ (fun s hs=>by
   have hbs:yg toks n s=false:=by
    cases hh:yg toks n s
    ·rfl
    ·rw [List.any_eq_true.2 ⟨s,hs,hh⟩] at hr;cases hr
   unfold symS
   unfold yg at hbs
   cases h0:s.f0
   ·rw [h0] at hbs
    exact fun x hx hG=>(h s.f1 (by simpa using hbs) x hx hG).1
   ·exact hT _) hE f1
  have hx:=YQ hC S p.f1 _ (ZT hM)
  unfold yn
  generalize rowG C M S p.f1 [(⟨#[]⟩:ByteArray)]=x at hrow hx⊢
  by_cases h1:x.2=false
  ·rw [if_pos h1];exact h
  rw [if_neg h1]
  by_cases h2:M < (setP (zh S p.f0 ++ x.1)).length
  ·rw [if_pos h2];exact h
  rw [if_neg h2]
  obtain ⟨hj,hf⟩:=qF hS hp hx (Nat.not_lt.1 h2)
  refine ih _ _ (fun q hq=>hL q (List.mem_cons_of_mem _ hq)) (Zx hS _ hj hf) (by rw [List.length_set];exact hn) hb.2 fun i hi=> ?_
  rw [rd_set hp (by rw [hn];exact hi)]
  by_cases hip:i=p.f0
  ·rw [if_pos hip,hip]
   intro z hz hG
   rw [ZU,YA,List.mem_append] at hz
   rcases hz with hz|hz
   ·exact h _ hp' z hz hG
   ·exact ⟨f2 _ (hrow z hz hG),hQp _ (hrow z hz hG)⟩
  ·rw [if_neg hip];exact h i hi
theorem loopG_src (hb:L.any (yX toks n)=false):∀(m:Nat) (S s:Sets),yf M S→S.length=n→Zn C M L m S=some s→(∀i:Int,0≤i∧i < n→∀x ∈ zh S i,G x→g x ∈ zh S' i∧Q i (g x))→
  ∀i:Int,0≤i∧i < n→∀x ∈ zh s i,G x→g x ∈ zh S' i∧Q i (g x):=by
 intro m
 induction m with
 | zero=>intro S s _ _ h;cases h
 | succ m ih=>
  intro S s hS hn h hs
  obtain ⟨g1,g2,-,-⟩:=Ya hC hM L S false hS hn hb
  have hr:=roundG_src hsim hE hT hC hM hn' hF Q hQ L S false (fun p hp=>hp) hS hn hb hs
  unfold Zn at h
  generalize yn C M L S false=x at h g1 g2 hr
  by_cases h1:x.2.2=false
  ·rw [if_pos h1] at h;cases h
  rw [if_neg h1] at h
  by_cases h2:x.2.1=false
  ·rw [if_pos h2] at h
   obtain rfl:=Option.some.inj h
   exact hr
  ·rw [if_neg h2] at h
   exact ih _ _ g1 g2 h hr
end
theorem fround_keeps {K:Nat} (hK:K≤4) {n:Nat} :∀(xs:List Lk) (sets:Sets) (more:Bool),(∀x ∈ xs,qt n x)→yf 600 sets→sets.length=n→∀i:Int,0≤i∧i < n→∀y ∈ zh sets i,y ∈ zh (ZO K xs sets more).1 i:=by
 intro xs
 induction xs with
 | nil=>intro sets more _ _ _ i _ y hy;exact hy
 | cons x xs ih=>
  intro sets more hx hS hn i hi y hy
  have hx0:=hx x List.mem_cons_self
  have hp:0≤x.f0∧x.f0 < (sets.length:Int):=by rw [hn];exact hx0.1
  have hj:=qk hK hS hn hx0
  have hin:i=x.f0→y ∈ setP (zh sets x.f0 ++ catA K x.f2 (zh sets x.f1)):=fun e=>by
   rw [ZU,YA];exact List.mem_append_left _ (e▸hy)
  unfold ZO
  generalize setP (zh sets x.f0 ++ catA K x.f2 (zh sets x.f1))=j at hj hin⊢
  by_cases h:600 < j.length
  ·rw [if_pos h];exact hy
  rw [if_neg h]
  obtain ⟨hj1,hj2⟩:=hj (by omega)
  refine ih _ _ (fun z hz=>hx z (List.mem_cons_of_mem _ hz)) (Zx hS _ hj1 hj2) (by rw [List.length_set];exact hn) i hi y ?_
  rw [rd_set hp (by rw [hn];exact hi)]
  by_cases e:i=x.f0
  ·rw [if_pos e];exact hin e
  ·rw [if_neg e];exact hy
theorem floop_keeps {K:Nat} (hK:K≤4) {n:Nat} (xs:List Lk) (hx:∀x ∈ xs,qt n x):∀(m:Nat) (sets s:Sets),yf 600 sets→sets.length=n→YM K xs m sets=some s→∀i:Int,0≤i∧i < n→∀y ∈ zh sets i,y ∈ zh s i:=by
 intro m
 induction m with
 | zero=>intro sets s _ _ h;cases h
 | succ m ih=>
  intro sets s hS hn h i hi y hy
  obtain ⟨g1,g2,-,-⟩:=qa hK xs sets false hx hS hn
  have hk:=fround_keeps hK xs sets false hx hS hn i hi y hy
  unfold YM at h
  generalize ZO K xs sets false=x at h g1 g2 hk
  by_cases h1:x.2.2=false
  ·rw [if_pos h1] at h;cases h
  rw [if_neg h1] at h
  by_cases h2:x.2.1=false
  ·rw [if_pos h2] at h
   obtain rfl:=Option.some.inj h
   exact hk
  ·rw [if_neg h2] at h
   exact ih _ _ g1 g2 h i hi y hk
theorem follow_zero (toks look:Int) (of:List Int) (L:List Prod') (hl:∀p ∈ L,p.f1.length≤1000000) (h:(ZA toks look of.length L).2=0):Yy look.toNat ∈ zh (ZA toks look of.length L).1 0:=by
 have hz:=YJ (toks:=toks) (look:=look) (of:=of) hl
 unfold ZA at h⊢
 generalize ofA toks look of.length L=X at hz h⊢
 by_cases h0:X.2=0
 ·obtain ⟨hm,hS,hn⟩:=hz h0
  obtain ⟨h1,h2,h3,h4⟩:=ZP hm
  obtain ⟨i1,i2⟩:=qT h3 of.length
  rw [if_pos h0] at h⊢
  cases hh:YV (mx look 0).toNat X.1 L with
  | none=>rw [hh] at h;cases h
  | some xs=>
   obtain ⟨g1,-⟩:=Yx (K_le h3) L (n:=of.length) h4 hl xs hh
   rw [hh] at h
   dsimp only at h⊢
   cases hs:YM (mx look 0).toNat xs (600 * of.length + 1) (Yp look of.length) with
   | none=>rw [hs] at h;cases h
   | some s=>
    refine floop_keeps (K_le h3) xs g1 _ _ _ i1 i2 hs 0 (by omega) _ ?_
    have e:=rd_set (S:=List.replicate of.length []) (p:=0) (i:=0) (by rw [List.length_replicate];omega) (by rw [List.length_replicate];omega) [Yy look.toNat]
    rw [if_pos rfl] at e
    show Yy look.toNat ∈ zh ((List.replicate of.length []).set ((0:Int)).toNat [Yy look.toNat]) 0
    rw [e]
    exact List.mem_singleton.2 rfl
 ·rw [if_neg h0] at h
  exact absurd h h0
theorem follow_err (toks look:Int) (n:Nat) (L:List Prod') (h0:mayE toks look n L=0):((ofA toks look n L).2=0∨(ofA toks look n L).2=15)∧((ZA toks look n L).2=0∨(ZA toks look n L).2=15):=by
 have h1:(ofA toks look n L).2=0∨(ofA toks look n L).2=15:=by
  unfold ofA
  rw [if_pos h0]
  cases Zn (catA (mx look 0).toNat) 600 L (600 * n + 1) (List.replicate n []) with
  | none=>exact .inr rfl
  | some s=>exact .inl rfl
 refine ⟨h1,?_⟩
 unfold ZA
 rcases h1 with h1|h1
 ·rw [if_pos h1]
  cases YV (mx look 0).toNat (ofA toks look n L).1 L with
  | none=>exact .inr rfl
  | some xs=>
   dsimp only
   cases YM (mx look 0).toNat xs (600 * n + 1) (Yp look n) with
   | none=>exact .inr rfl
   | some s=>exact .inl rfl
 ·rw [if_neg (by rw [h1];decide)];exact .inr h1
theorem guess_err (toks look:Int) (n:Nat) (L:List Prod') (h0:mayE toks look n L=0):(Zg toks look n L).2=0∨(Zg toks look n L).2=15:=by
 obtain ⟨h1,h2⟩:=follow_err toks look n L h0
 unfold Zg
 rcases h1 with h1|h1
 ·rw [if_pos h1]
  rcases h2 with h2|h2
  ·rw [if_pos h2]
   cases gAll (mx look 0).toNat (ofA toks look n L).1 (ZA toks look n L).1 L with
   | none=>exact .inr rfl
   | some g=>exact .inl rfl
  ·rw [if_neg (by rw [h2];decide)];exact .inr h2
 ·rw [if_neg (by rw [h1];decide)];exact .inr h1
theorem gAll_get {K:Nat} {F B:Sets} :∀(L:List Prod') (g:Sets),gAll K F B L=some g→∀(j:Nat) (h:j < L.length),zh g (j:Int)=gCat K F B L[j]:=by
 intro L
 induction L with
 | nil=>intro g _ j h;simp at h
 | cons p ps ih=>
  intro g h j hj
  unfold gAll at h
  by_cases h6:600 < (gCat K F B p).length
  ·rw [if_pos h6] at h;cases h
  rw [if_neg h6] at h
  obtain ⟨g2,hg2,rfl⟩:=Option.map_eq_some_iff.1 h
  cases j with
  | zero=>rfl
  | succ j=>
   have:=ih g2 hg2 j (by simpa using hj)
   unfold zh at this⊢
   simpa using this
theorem prodsA_mem (n:Int):∀(L:List Prod') (i j:Nat) (h:j < L.length),L[j].f0=n→((i + j:Nat):Int) ∈ YB n L i:=by
 intro L
 induction L with
 | nil=>intro i j h;simp at h
 | cons p ps ih=>
  intro i j h hj
  unfold YB
  cases j with
  | zero=>
   have hp:p.f0=n:=hj
   rw [if_pos hp];exact List.mem_cons_self
  | succ j=>
   have h2:=ih (i + 1) j (by simpa using h) hj
   rw [show i + 1 + j=i + (j + 1) by omega] at h2
   split
   ·exact List.mem_cons_of_mem _ h2
   ·exact h2
theorem first_pos:∀(hs:List Bool) (i:Nat),true ∈ hs→0≤zY.first hs i:=by
 intro hs
 induction hs with
 | nil=>intro i h;exact nomatch h
 | cons b bs ih=>
  intro i h
  unfold zY.first
  cases b
  ·rw [if_neg (by simp)]
   exact ih (i + 1) (by simpa using h)
  ·rw [if_pos rfl];omega
theorem pick_pos (g:Sets) (t:ByteArray) (ps:List Int) (p:Int) (hp:p ∈ ps) (ht:t ∈ zh g p):0≤pickA g t ps:=
 first_pos _ _ (List.mem_map.2 ⟨p,hp,decide_eq_true ht⟩)
theorem ahead_eq {look:Int} (h3:1≤look∧look≤4) (w:ByteArray):(w ++ (⟨#[0,0,0,0]⟩:ByteArray)).extract 0 (look:Int).toNat=tc (mx look 0).toNat (tk (mx look 0).toNat w) (Yy look.toNat):=by
 have hK:(mx look 0).toNat=look.toNat:=by unfold mx;split <;> omega
 have hz:tk look.toNat (⟨#[0,0,0,0]⟩:ByteArray)=Yy look.toNat:=by
  have:look=1∨look=2∨look=3∨look=4:=by omega
  rcases this with rfl|rfl|rfl|rfl <;> rfl
 rw [hK,←hz,←tk_append]
 apply YH
 rw [Zz]
 unfold tk
 simp only [List.drop_zero,List.toList_toArray]
theorem word_pick (toks look:Int) (of:List Int) (L:List Prod') (hl:∀p ∈ L,p.f1.length≤1000000) (S:Sets) (hs:Zn (catW 3) 10000 L (10000 * of.length + 1) (List.replicate of.length [])=some S) (h0:(Zg toks look of.length L).2=0) (w:ByteArray) (hw:w ∈ zh S 0) :
  0≤pickA (Zg toks look of.length L).1 ((w ++ (⟨#[0,0,0,0]⟩:ByteArray)).extract 0 (look:Int).toNat) (YB 0 L 0):=by
 obtain ⟨hm0,-,-⟩:=(qw toks look of L hl).1 h0
 obtain ⟨h1,h2,h3,h4⟩:=ZP hm0
 have hz:=YJ (toks:=toks) (look:=look) (of:=of) hl
 have hfx:=of_fix (toks:=toks) (look:=look) (of:=of) hl
 have hfz:=follow_zero toks look of L hl
 unfold Zg at h0⊢
 generalize ofA toks look of.length L=X at hz hfx h0⊢
 generalize ZA toks look of.length L=Y at hfz h0⊢
 by_cases hX:X.2=0
 ·rw [if_pos hX] at h0⊢
  by_cases hY:Y.2=0
  ·rw [if_pos hY] at h0⊢
   obtain ⟨-,hS,hn⟩:=hz hX
   have hK:1≤(mx look 0).toNat:=by unfold mx;split <;> omega
   cases hg:gAll (mx look 0).toNat X.1 Y.1 L with
   | none=>rw [hg] at h0;cases h0
   | some g=>
    have hsrc:=loopG_src (C:=catW 3) (C':=catA (mx look 0).toNat) (M:=10000) (M':=600) (S':=X.1) (n:=of.length) (toks:=toks) (L:=L) (sim_cut (mx look 0).toNat 3) (fun x hx _=>by
     rw [List.mem_singleton.1 hx,tk_short (Nat.zero_le _)];exact List.mem_singleton.2 rfl) (fun m x hx _=>by
     rw [List.mem_singleton.1 hx,tk_short (by rw [Yu];exact hK)];exact List.mem_singleton.2 rfl) (Yj (by omega)) (by omega) hn (hfx hX)
     (fun i y=>∃j,∃h:j < L.length,L[j].f0=i∧y ∈ gRow (mx look 0).toNat X.1 L[j]) (fun p hp y hy=>by
      obtain ⟨j,h,rfl⟩:=List.mem_iff_getElem.1 hp
      exact ⟨j,h,rfl,hy⟩) h4 _ _ _ (Zm 10000 of.length) (List.length_replicate ..) hs (fun i _ x hx=>by rw [rd_empties] at hx;exact nomatch hx) 0 (by omega) w hw trivial
    obtain ⟨-,j,hj,hj0,hrow⟩:=hsrc
    refine pick_pos _ _ _ (j:Int) ?_ ?_
    ·have:=prodsA_mem 0 L 0 j hj hj0
     rwa [Nat.zero_add] at this
    ·show _ ∈ zh ([] ++ g) (j:Int)
     rw [List.nil_append,gAll_get L g hg j hj,ahead_eq h3]
     unfold gCat
     rw [hj0]
     exact mem_catA.2 ⟨_,hrow,_,hfz hY,rfl⟩
  ·rw [if_neg hY] at h0;exact absurd h0 hY
 ·rw [if_neg hX] at h0;exact absurd h0 hX
theorem any_mem {α:Type} {l:List α} {f:α→Bool} (h:l.any f=false) {x:α} (hx:x ∈ l):f x=false:=by
 cases hh:f x
 ·rfl
 ·rw [List.any_eq_true.2 ⟨x,hx,hh⟩] at h;cases h
theorem rdb_at {l:List Bool} {i:Int} (h:0≤i∧i < l.length):rdOf false l i=l[i.toNat]'(by omega):=by
 unfold rdOf
 rw [List.getD_eq_getElem?_getD,List.getElem?_eq_getElem (by omega)]
 rfl
def rowM (tok:Bool) (out:List Bool) (l:List Sym):Bool:=l.all fun s=>if s.f0=true then tok else rdOf false out s.f1
def YO (tok:Bool):List Prod'→List Bool→Bool→List Bool × Bool
 | [],out,more=>(out,more)
 | p :: ps,out,more=>if rdOf false out p.f0=true then YO tok ps out more else if rowM tok out p.f1=true then YO tok ps (out.set p.f0.toNat true) true else YO tok ps out more
def markL (tok:Bool) (L:List Prod'):Nat→List Bool→List Bool
 | 0,out=>out
 | m + 1,out=>if (YO tok L out false).2=true then markL tok L m (YO tok L out false).1 else (YO tok L out false).1
def Yg (l:List Bool):Nat:=l.countP fun b=> !b
theorem falses_set:∀(l:List Bool) (i:Nat) (h:i < l.length),l[i]=false→Yg (l.set i true) + 1=Yg l:=by
 intro l
 induction l with
 | nil=>intro i h;simp at h
 | cons a l ih=>
  intro i h h2
  cases i with
  | zero=>
   simp only [List.getElem_cons_zero] at h2
   subst h2
   unfold Yg
   simp [List.countP_cons]
  | succ i=>
   have:=ih i (by simpa using h) (by simpa using h2)
   unfold Yg at this⊢
   simp only [List.set_cons_succ,List.countP_cons]
   omega
theorem markR_spec (tok:Bool) {toks:Int} {n:Nat} :∀(ps:List Prod') (out:List Bool) (more:Bool),out.length=n→ps.any (yX toks n)=false→(YO tok ps out more).1.length=n∧Yg (YO tok ps out more).1≤Yg out∧(more=false→(YO tok ps out more).2=true→Yg (YO tok ps out more).1 < Yg out):=by
 intro ps
 induction ps with
 | nil=>intro out more hn _;exact ⟨hn,Nat.le_refl _,fun h1 h2=>by rw [show (YO tok [] out more).2=more from rfl,h1] at h2;cases h2⟩
 | cons p ps ih=>
  intro out more hn hb
  rw [List.any_cons,Bool.or_eq_false_iff] at hb
  obtain ⟨hp,-⟩:=Zp hb.1
  unfold YO
  by_cases h1:rdOf false out p.f0=true
  ·rw [if_pos h1];exact ih out more hn hb.2
  rw [if_neg h1]
  by_cases h2:rowM tok out p.f1=true
  ·rw [if_pos h2]
   have hf:=falses_set out p.f0.toNat (by omega) (by rw [←rdb_at (by rw [hn];exact hp)];simpa using h1)
   obtain ⟨i1,i2,-⟩:=ih (out.set p.f0.toNat true) true (by rw [List.length_set];exact hn) hb.2
   exact ⟨i1,by omega,fun _ _=>by omega⟩
  ·rw [if_neg h2];exact ih out more hn hb.2
section
variable (toks look : Int) (of : List Int) (L : List Prod') (hL : L.length ≤ 1000000) (hb : L.any (yX toks of.length) = false) (hl : ∀ p ∈ L, p.f1.length ≤ 1000000)
include hL hb hl
omit hL hb hl in
theorem rowM_ev (tok:Bool) (out:List Bool) (l:List Sym) (hll:l.length≤1000000000) (hlb:l.any (yg toks out.length)=false):∀(d i:Nat),i + d=l.length→Ev (fun k=>zw.l0 k l tok out i) (rowM tok out (l.drop i)):=by
 intro d
 induction d with
 | zero=>
  intro i hi
  rw [List.drop_of_length_le (by omega)]
  exact Ev.step (fun k=>by rw [zw.l0,if_neg (by omega)];rfl) (Ev.now _)
 | succ d ih=>
  intro i hi
  have hlt:i < l.length:=by omega
  have hw:wrap64 ((i:Int) + 1)=((i + 1:Nat):Int):=by rw [ya (by omega)];rfl
  have hbs:=any_mem hlb (List.getElem_mem hlt)
  have hi2:=ih (i + 1) (by clear hw;omega)
  rw [List.drop_eq_getElem_cons hlt]
  refine Ev.step (fun k=>by rw [zw.l0,if_pos (by clear hw;omega),if_pos (by clear hw;omega),rdS hlt,hw]) ?_
  have e:rowM tok out (l[i] :: l.drop (i + 1))=((if l[i].f0=true then tok else rdOf false out l[i].f1) && rowM tok out (l.drop (i + 1))):=by unfold rowM;rw [List.all_cons]
  rw [e]
  by_cases h0:l[i].f0=true
  ·rw [if_pos h0]
   refine Ev.ite_pos h0 ?_
   cases tok
   ·exact Ev.ite_neg (by simp) (Ev.now _)
   ·exact Ev.ite_pos rfl (by rw [Bool.true_and];exact hi2)
  ·rw [if_neg h0]
   have h2:0≤l[i].f1∧l[i].f1 < (out.length:Int):=by
    unfold yg at hbs
    rw [if_neg h0] at hbs
    simpa using hbs
   refine Ev.ite_neg h0 (Ev.ite_pos h2.1 (Ev.ite_pos h2.2 ?_))
   cases hr:rdOf false out l[i].f1
   ·exact Ev.ite_neg (by simp) (Ev.now _)
   ·exact Ev.ite_pos rfl (by rw [Bool.true_and];exact hi2)
theorem markR_ev (tok:Bool) (r:List Bool):∀(d i:Nat) (out:List Bool) (more:Bool),i + d=L.length→out.length=of.length→Ev (fun k=>zf.l0 k tok (YO tok (L.drop i) out more).1 (YO tok (L.drop i) out more).2 toks look of L) r→Ev (fun k=>zf.l1 k tok out more i toks look of L) r:=by
 intro d
 induction d with
 | zero=>
  intro i out more hi _ h
  rw [List.drop_of_length_le (by omega)] at h
  exact Ev.step (fun k=>by rw [zf.l1,if_neg (by omega)];rfl) h
 | succ d ih=>
  intro i out more hi hn h
  have hlt:i < L.length:=by omega
  have hw:wrap64 ((i:Int) + 1)=((i + 1:Nat):Int):=by rw [ya (by omega)];rfl
  obtain ⟨hp,hr⟩:=Zp (any_mem hb (List.getElem_mem hlt))
  rw [←hn] at hp hr
  have hrow:=rowM_ev toks tok out L[i].f1 (by have:=hl _ (List.getElem_mem hlt);clear hw;omega) hr L[i].f1.length 0 (by omega)
  rw [List.drop_zero] at hrow
  rw [List.drop_eq_getElem_cons hlt] at h
  unfold YO at h
  refine Ev.step (fun k=>by rw [zf.l1,if_pos (by clear hw;omega),if_pos (by clear hw;omega),rdP hlt,if_pos hp.1,if_pos hp.2,hw]) ?_
  by_cases h1:rdOf false out L[i].f0=true
  ·rw [if_pos h1] at h
   exact Ev.ite_pos h1 (ih (i + 1) out more (by clear hw;omega) hn h)
  rw [if_neg h1] at h
  refine Ev.ite_neg h1 (Ev.bind (by unfold zw.f;exact hrow) ?_)
  by_cases h2:rowM tok out L[i].f1=true
  ·rw [if_pos h2] at h
   exact Ev.ite_pos h2 (ih (i + 1) _ true (by clear hw;omega) (by rw [List.length_set];exact hn) h)
  ·rw [if_neg h2] at h
   exact Ev.ite_neg h2 (ih (i + 1) out more (by clear hw;omega) hn h)
theorem markL_ev (tok:Bool):∀(m:Nat) (out:List Bool),out.length=of.length→Yg out < m→Ev (fun k=>zf.l0 k tok out true toks look of L) (markL tok L m out):=by
 intro m
 induction m with
 | zero=>intro out _ h;omega
 | succ m ih=>
  intro out hn hm
  obtain ⟨g1,g2,g3⟩:=markR_spec tok L out false hn hb
  have hr:=fun r=>markR_ev toks look of L hL hb hl tok r L.length 0 out false (by omega) hn
  simp only [List.drop_zero] at hr
  unfold markL
  generalize YO tok L out false=x at g1 g2 g3 hr⊢
  refine Ev.step (fun k=>by rw [zf.l0,if_pos rfl];rfl) (hr _ ?_)
  by_cases c:x.2=true
  ·rw [if_pos c,c]
   have:=g3 rfl c
   exact ih _ g1 (by omega)
  ·rw [if_neg c,show x.2=false by simpa using c]
   exact Ev.step (fun k=>by rw [zf.l0,if_neg (by simp)]) (Ev.now _)
theorem mark_ev (tok:Bool) (hof:of.length≤1000000):Ev (fun k=>zf.f k toks look of L tok) (markL tok L (of.length + 1) (List.replicate of.length false)):=by
 unfold zf.f
 refine Ev.ite_pos (by omega) (Ev.ite_pos (by omega) ?_)
 rw [Int.toNat_natCast]
 exact markL_ev toks look of L hL hb hl tok _ _ (List.length_replicate ..) (by unfold Yg;have:=List.countP_le_length (p:=fun b=> !b) (l:=List.replicate of.length false);rw [List.length_replicate] at this;omega)
end
section
variable (toks look : Int) (of : List Int) (L : List Prod') (hl4 : ∀ p ∈ L, p.f1.length ≤ 400000) (hL : L.length ≤ 1000000) (h0 : mayE toks look of.length L = 0)
include hl4 hL h0
theorem gw_l1 (S:Sets) (hs:Zn (catW 3) 10000 L (10000 * of.length + 1) (List.replicate of.length [])=some S) (hg:Zo 10000 (zh S 0)):∀(d i:Nat),i + d=(zh S 0).length→Ev (fun k=>zJ.l1 k (zh S 0) i toks look of L) true:=by
 have hl:∀p ∈ L,p.f1.length≤1000000:=fun p hp=>Nat.le_trans (hl4 p hp) (by omega)
 obtain ⟨h1,h2,h3,h4⟩:=ZP h0
 have hlen:=hg.1
 intro d
 induction d with
 | zero=>
  intro i hi
  exact Ev.step (fun k=>by rw [zJ.l1,if_neg (by omega)]) (Ev.now _)
 | succ d ih=>
  intro i hi
  have hlt:i < (zh S 0).length:=by omega
  have hw:wrap64 ((i:Int) + 1)=((i + 1:Nat):Int):=by rw [ya (by omega)];rfl
  have hsz:=hg.2 _ (List.getElem_mem hlt)
  have hp:=pick_ev toks look of L 0 (((zh S 0)[i] ++ (⟨#[0,0,0,0]⟩:ByteArray)).extract 0 (look:Int).toNat) hl4 hL
  have hpos:=fun h=>word_pick toks look of L hl S hs h _ (List.getElem_mem hlt)
  have herr:=guess_err toks look of.length L h0
  have hi2:=ih (i + 1) (by clear hw;omega)
  have hsum:(((zh S 0)[i] ++ (⟨#[0,0,0,0]⟩:ByteArray)).size:Nat)=(zh S 0)[i].size + 4:=by rw [ByteArray.size_append];rfl
  unfold pickR at hp
  refine Ev.step (fun k=>by rw [zJ.l1,if_pos (by clear hw;omega),if_pos (by clear hw;omega),Zi hlt,if_pos (by clear hw;omega),if_pos (by clear hw;omega),if_pos (by rw [hsum];clear hw;omega),hw]) (Ev.bind hp ?_)
  rcases herr with he|he
  ·rw [if_pos he,if_neg (by omega)]
   have hq:=hpos he
   exact Ev.ite_pos rfl (Ev.ite_neg (by clear hw;omega) hi2)
  ·rw [if_neg (by rw [he];decide),he]
   exact Ev.ite_neg (by decide) (Ev.some rfl)
theorem gw_tail:Ev (fun k=>(zP.f k toks look of L 0 3).bind fun bt=>if bt.2=true then zJ.j1 k bt.1 (decide ((bt.1.length:Int) > 200)) toks look of L else zJ.j1 k bt.1 true toks look of L) true:=by
 have hl:∀p ∈ L,p.f1.length≤1000000:=fun p hp=>Nat.le_trans (hl4 p hp) (by omega)
 obtain ⟨h1,h2,h3,h4⟩:=ZP h0
 have hr:=rwords_ev toks look of L 0 3 (by omega) (by omega) h0 hl
 have hkk:mn (mx 3 0) 4=3:=by decide
 rw [hkk] at hr
 refine Ev.bind hr ?_
 cases hs:Zn (catW 3) 10000 L (10000 * of.length + 1) (List.replicate of.length []) with
 | none=>exact Ev.ite_neg (by simp) (Ev.step (fun k=>by rw [zJ.j1,if_pos rfl]) (Ev.now _))
 | some s=>
  obtain ⟨-,gs,ls⟩:=loopG_fix (C:=catW 3) (Yj (by omega)) (by omega) h4 _ _ _ (Zm 10000 of.length) (List.length_replicate ..) hs
  have hg:=(gs _ (Zq (sets:=s) (i:=0) (by rw [ls];omega))).1
  refine Ev.ite_pos rfl ?_
  by_cases hc:((zh s 0).length:Int) > 200
  ·exact Ev.step (fun k=>by rw [zJ.j1,if_pos (decide_eq_true hc)]) (Ev.now _)
  ·exact Ev.step (fun k=>by rw [zJ.j1,if_neg (by simpa using hc)];rfl) (gw_l1 toks look of L hl4 hL h0 s hs hg (zh s 0).length 0 (by omega))
theorem gw_l0 (E:List Bool) (hE:E.length≤1000000):∀(d i:Nat),i + d=E.length→Ev (fun k=>zJ.l0 k E i toks look of L) true:=by
 intro d
 induction d with
 | zero=>
  intro i hi
  exact Ev.step (fun k=>by rw [zJ.l0,if_neg (by omega)]) (gw_tail toks look of L hl4 hL h0)
 | succ d ih=>
  intro i hi
  have hw:wrap64 ((i:Int) + 1)=((i + 1:Nat):Int):=by rw [ya (by omega)];rfl
  refine Ev.step (fun k=>by rw [zJ.l0,if_pos (by clear hw;omega),if_pos (by clear hw;omega),hw]) ?_
  by_cases c:rdOf false E i=true
  ·exact Ev.ite_pos c (ih (i + 1) (by clear hw;omega))
  ·exact Ev.ite_neg c (Ev.now _)
end
theorem markL_len (tok:Bool) {toks:Int} {n:Nat} {L:List Prod'} (hb:L.any (yX toks n)=false):∀(m:Nat) (out:List Bool),out.length=n→(markL tok L m out).length=n:=by
 intro m
 induction m with
 | zero=>intro out h;exact h
 | succ m ih=>
  intro out h
  have hs:=(markR_spec tok L out false h hb).1
  unfold markL
  split
  ·exact ih _ hs
  ·exact hs
theorem GuessWords:zJ.Pure:=by
 intro toks look of L hW
 refine Ev.rounds (g:=fun k=>zJ.f k toks look of L) ?_
 unfold zJ.f
 clear hW
 have f1:=gfew_ev toks look of L
 have hl5:∀p ∈ fewL L,p.f1.length≤400000:=fun p hp=>by have:=(fewL_le L).2 p hp;omega
 have hl:∀p ∈ fewL L,p.f1.length≤1000000:=fun p hp=>by have:=(fewL_le L).2 p hp;omega
 have h14:=(fewL_le L).1
 have h8:(of.take 8).length≤8:=by rw [List.length_take];omega
 have hm:=rmay_ev toks look (of.take 8) (fewL L) (by omega) (fun p hp=>by have:=hl p hp;omega)
 refine Ev.bind guess_works (Ev.ite_pos rfl (Ev.bind f1 (Ev.bind hm ?_)))
 by_cases h0:mayE toks look (of.take 8).length (fewL L)=0
 ·obtain ⟨h1,h2,h3,h4⟩:=ZP h0
  have hk:=mark_ev toks look (of.take 8) (fewL L) (by omega) h4 hl true (by omega)
  have hends:Ev (fun k=>yN.f k toks look (of.take 8) (fewL L)) (markL true (fewL L) ((of.take 8).length + 1) (List.replicate (of.take 8).length false)):=by unfold yN.f;exact Ev.bind hk (Ev.now _)
  have hlen:=markL_len true h4 ((of.take 8).length + 1) (List.replicate (of.take 8).length false) (List.length_replicate ..)
  exact Ev.ite_pos h0 (Ev.bind hends (gw_l0 toks look (of.take 8) (fewL L) hl5 (by omega) h0 _ (by rw [hlen];omega) _ 0 (Nat.zero_add _)))
 ·exact Ev.ite_neg h0 (Ev.now _)
end Go.Proofs.Ytlanhkekjhlmjaa.Pure
