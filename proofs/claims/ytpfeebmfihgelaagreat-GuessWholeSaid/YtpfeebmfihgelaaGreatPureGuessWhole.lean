/- For all plain rules (cut to eight nonterminals, fourteen productions of four symbols, as the statement has it): all guesses are whole tokens ahead, and each nonterminal's first bytes are those of its productions' guesses. No other condition. -/
-- Written by pure.py for this claim.
import Derived.Test.YtpfeebmfihgelaaGreatHGuessWholex
import Derived.Test.YtpfeebmfihgelaaGreatSGuessWholeVPure
import Derived.Sort.Walk0
namespace Go.Proofs.YtpfeebmfihgelaaGreat.Pure
open Go.RowKit Go.Plus Go.Proofs.YtpfeebmfihgelaaGreat.HGuessWhole Go.Proofs.YtpfeebmfihgelaaGreatW.PrintWords Go.Proofs.YtpfeebmfihgelaaGreatW.PrintLast Go.Proofs.YtpfeebmfihgelaaGreatW.PrintMore
set_option linter.unusedVariables false
set_option linter.unusedSimpArgs false
abbrev Sym:=S70
abbrev Prod':=S42
theorem rdS {l:List Sym} {i:Nat} (h:i < l.length):zl l (i:Int)=l[i]:=by
 unfold zl
 simp [List.getD_eq_getElem?_getD,h]
theorem rdP {l:List Prod'} {i:Nat} (h:i < l.length):zF l (i:Int)=l[i]:=by
 unfold zF
 simp [List.getD_eq_getElem?_getD,h]
def ZA (toks:Int) (n:Nat) (s:Sym):Bool:=if s.f0=true then !(decide (1≤s.f1) && decide (s.f1≤toks)) else !(decide (0≤s.f1) && decide (s.f1 < (n:Int)))
def yV (toks:Int) (n:Nat) (p:Prod'):Bool:= !(decide (0≤p.f0) && decide (p.f0 < (n:Int))) || p.f1.any (ZA toks n)
def mayE (toks look:Int) (n:Nat) (L:List Prod'):Int:=
 if toks < 1∨60 < toks∨n < 1∨500 < n∨L.length < 1∨2000 < L.length∨(L.any fun p=>decide (500 < p.f1.length))=true then 8 else if look < 1∨4 < look then 11 else if L.any (yV toks n)=true then 4 else 0
theorem sym_some (toks look:Int) (of:List Int) (L:List Prod') (b:Bool) (n:Int):YR.f toks look of L b n=some (!ZA toks of.length ⟨b,n⟩):=by
 unfold YR.f yK.f ZA
 cases b
 ·by_cases h:n≥0
  ·simp [h]
  ·simp [h]
 ·by_cases h:n≥1
  ·simp [h]
  ·simp [h]
theorem qy {α:Type} {l:List α} {i:Nat} (h:i < l.length) (f:α→Bool):(l.drop i).any f=(f l[i] || (l.drop (i + 1)).any f):=by
 rw [List.drop_eq_getElem_cons h,List.any_cons]
theorem idxSym (toks look:Int) (of:List Int) (L:List Prod') (l:List Sym) (hl:l.length≤1000000000):∀(d i:Nat),i + d=l.length→∃z:Int,decide (z≥0)=(l.drop i).any (ZA toks of.length)∧Ev (fun k=>zP.l0 k l l.length i toks look of L) (z,toks,look):=by
 intro d
 induction d with
 | zero=>
  intro i hi
  exact ⟨-1,by rw [List.drop_of_length_le (by omega)];rfl,Ev.step (fun k=>by rw [zP.l0,if_neg (by omega)]) (Ev.now _)⟩
 | succ d ih=>
  intro i hi
  have hlt:i < l.length:=by omega
  have hw:wrap64 ((i:Int) + 1)=((i + 1:Nat):Int):=by rw [yW (by omega)];rfl
  have e:Ze.f l[i].f0 l[i].f1 toks look of L=some (ZA toks of.length l[i],toks,look):=by
   unfold Ze.f
   rw [sym_some,Option.bind_some,Bool.not_not]
  rw [qy hlt]
  cases hb:ZA toks of.length l[i]
  ·obtain ⟨z,h0,hz⟩:=ih (i + 1) (by omega)
   refine ⟨z,by rw [h0];rfl,Ev.step (fun k=>by rw [zP.l0,if_pos (by clear hw;omega),if_pos (by clear hw;omega),if_pos (by clear hw;omega),rdS hlt,e,Option.bind_some,hw]) (Ev.ite_neg (by rw [hb];simp) hz)⟩
  ·refine ⟨i,by simp,Ev.step (fun k=>by rw [zP.l0,if_pos (by clear hw;omega),if_pos (by clear hw;omega),if_pos (by clear hw;omega),rdS hlt,e,Option.bind_some]) (Ev.ite_pos hb (Ev.now _))⟩
theorem prod_ev (toks look:Int) (of:List Int) (L:List Prod') (n:Int) (r:List Sym) (hr:r.length≤1000000000):Ev (fun k=>ZT.f k toks look of L n r) (!yV toks of.length ⟨n,r⟩):=by
 unfold ZT.f yV
 by_cases h1:n≥0
 ·refine Ev.ite_pos h1 ?_
  by_cases h2:n < (of.length:Int)
  ·refine Ev.ite_pos h2 ?_
   obtain ⟨z,h0,hz⟩:=idxSym toks look of L r hr r.length 0 (by omega)
   rw [List.drop_zero] at h0
   unfold zy.f zP.f
   refine Ev.bind (Ev.bind hz (Ev.now _)) (Ev.some ?_)
   rw [h0]
   simp [h1,h2]
  ·refine Ev.ite_neg h2 (Ev.some ?_)
   simp [h2]
 ·refine Ev.ite_neg h1 (Ev.some ?_)
  have:¬0≤n:=h1
  simp [this]
theorem idxProd (toks look:Int) (of:List Int) (L l:List Prod') (hl:l.length≤1000000000) (hr:∀p ∈ l,p.f1.length≤1000000000):∀(d i:Nat),i + d=l.length→∃z:Int,decide (z≥0)=(l.drop i).any (yV toks of.length)∧Ev (fun k=>zQ.l0 k l l.length i toks look of L) (z,toks,look):=by
 intro d
 induction d with
 | zero=>
  intro i hi
  exact ⟨-1,by rw [List.drop_of_length_le (by omega)];rfl,Ev.step (fun k=>by rw [zQ.l0,if_neg (by omega)]) (Ev.now _)⟩
 | succ d ih=>
  intro i hi
  have hlt:i < l.length:=by omega
  have hw:wrap64 ((i:Int) + 1)=((i + 1:Nat):Int):=by rw [yW (by omega)];rfl
  have e:Ev (fun k=>yy.f k l[i].f0 l[i].f1 toks look of L) (yV toks of.length l[i],toks,look):=by
   unfold yy.f
   exact Ev.bind (prod_ev toks look of L l[i].f0 l[i].f1 (hr _ (List.getElem_mem _))) (Ev.some (by rw [Bool.not_not]))
  rw [qy hlt]
  cases hb:yV toks of.length l[i]
  ·rw [hb] at e
   obtain ⟨z,h0,hz⟩:=ih (i + 1) (by omega)
   refine ⟨z,by rw [h0];rfl,Ev.step (fun k=>by rw [zQ.l0,if_pos (by clear hw;omega),if_pos (by clear hw;omega),if_pos (by clear hw;omega),rdP hlt,hw]) (Ev.bind e (Ev.ite_neg (show ¬((false,toks,look):Bool × Int × Int).1=true from Bool.false_ne_true) hz))⟩
  ·rw [hb] at e
   refine ⟨i,by simp,Ev.step (fun k=>by rw [zQ.l0,if_pos (by clear hw;omega),if_pos (by clear hw;omega),if_pos (by clear hw;omega),rdP hlt]) (Ev.bind e (Ev.ite_pos rfl (Ev.now _)))⟩
theorem idxLong (l:List Prod') (hl:l.length≤1000000000):∀(d i:Nat),i + d=l.length→∃z:Int,decide (z≥0)=(l.drop i).any (fun p=>decide (500 < p.f1.length))∧Ev (fun k=>zS.l0 k l l.length i) z:=by
 intro d
 induction d with
 | zero=>
  intro i hi
  exact ⟨-1,by rw [List.drop_of_length_le (by omega)];rfl,Ev.step (fun k=>by rw [zS.l0,if_neg (by omega)]) (Ev.now _)⟩
 | succ d ih=>
  intro i hi
  have hlt:i < l.length:=by omega
  have hw:wrap64 ((i:Int) + 1)=((i + 1:Nat):Int):=by rw [yW (by omega)];rfl
  have e:YA.f l[i].f0 l[i].f1=some (decide (500 < l[i].f1.length)):=by
   unfold YA.f
   refine congrArg some (decide_eq_decide.2 ?_)
   omega
  rw [qy hlt]
  cases hb:decide (500 < l[i].f1.length)
  ·obtain ⟨z,h0,hz⟩:=ih (i + 1) (by omega)
   refine ⟨z,by rw [h0];rfl,Ev.step (fun k=>by rw [zS.l0,if_pos (by clear hw;omega),if_pos (by clear hw;omega),if_pos (by clear hw;omega),rdP hlt,e,Option.bind_some,hw]) (Ev.ite_neg (by rw [hb];simp) hz)⟩
  ·refine ⟨i,by simp,Ev.step (fun k=>by rw [zS.l0,if_pos (by clear hw;omega),if_pos (by clear hw;omega),if_pos (by clear hw;omega),rdP hlt,e,Option.bind_some]) (Ev.ite_pos hb (Ev.now _))⟩
theorem YS (a b:Int):yK.f a b=some (decide (1≤a∧a≤b)):=by
 unfold yK.f
 by_cases h:a≥1
 ·rw [if_pos h];simp [show 1≤a from h]
 ·rw [if_neg h];simp [show ¬1≤a from h]
theorem may_j0 (toks look:Int) (of:List Int) (L:List Prod') (hl:L.length≤1000000000) (hr:∀p ∈ L,p.f1.length≤1000000000) (b:Bool):Ev (fun k=>yH.j0 k b toks look of L) (if b=true then 8 else if look < 1∨4 < look then 11 else if L.any (yV toks of.length)=true then 4 else 0):=by
 refine Ev.step (fun k=>by rw [yH.j0]) ?_
 cases b
 ·refine Ev.ite_neg (by simp) (Ev.bind0 (YS _ _) ?_)
  rw [if_neg (by simp)]
  by_cases h:1≤look∧look≤4
  ·rw [if_neg (by omega)]
   refine Ev.ite_pos (decide_eq_true h) ?_
   obtain ⟨z,h0,hz⟩:=idxProd toks look of L L hl hr L.length 0 (by omega)
   rw [List.drop_zero] at h0
   unfold zo.f zQ.f
   refine Ev.bind (Ev.bind hz (Ev.now _)) ?_
   rw [←h0]
   refine Ev.congr (f:=fun k=>some (if decide (z≥0)=true then (4:Int) else 0)) (fun k=> ?_) (Ev.now _)
   by_cases hz0:z≥0
   ·simp [hz0]
   ·simp [hz0]
  ·rw [if_pos (by omega)]
   exact Ev.ite_neg (by simpa using h) (Ev.now _)
 ·rw [if_pos rfl];exact Ev.ite_pos rfl (Ev.now _)
theorem may_ev (toks look:Int) (of:List Int) (L:List Prod') (hl:L.length≤1000000000) (hr:∀p ∈ L,p.f1.length≤1000000000):Ev (fun k=>yH.f k toks look of L) (mayE toks look of.length L):=by
 unfold yH.f mayE
 have ht:=may_j0 toks look of L hl hr true
 rw [if_pos rfl] at ht
 refine Ev.bind0 (YS _ _) ?_
 by_cases h1:1≤toks∧toks≤60
 ·refine Ev.ite_pos (decide_eq_true h1) (Ev.bind0 (YS _ _) ?_)
  by_cases h2:1≤(of.length:Int)∧(of.length:Int)≤500
  ·refine Ev.ite_pos (decide_eq_true h2) (Ev.bind0 (YS _ _) ?_)
   by_cases h3:1≤(L.length:Int)∧(L.length:Int)≤2000
   ·refine Ev.ite_pos (decide_eq_true h3) ?_
    obtain ⟨z,h0,hz⟩:=idxLong L hl L.length 0 (by omega)
    rw [List.drop_zero] at h0
    unfold zf.f zS.f
    refine Ev.bind (Ev.bind hz (Ev.now _)) ?_
    have hj:=may_j0 toks look of L hl hr (decide (z≥0))
    rw [h0] at hj⊢
    by_cases h4:(L.any fun p=>decide (500 < p.f1.length))=true
    ·rw [if_pos h4] at hj
     rw [if_pos (by simp only [h4,or_true])]
     exact hj
    ·rw [if_neg h4] at hj
     rw [if_neg (by rintro (h|h|h|h|h|h|h) <;> first|omega|exact h4 h)]
     exact hj
   ·rw [if_pos (by omega)]
    exact Ev.ite_neg (by simpa using h3) ht
  ·rw [if_pos (by omega)]
   exact Ev.ite_neg (by simpa using h2) ht
 ·rw [if_pos (by omega)]
  exact Ev.ite_neg (by simpa using h1) ht
instance riseDec (l:List Txt):Decidable (ZW l):=inferInstanceAs (Decidable (l.Pairwise (· < ·)))
abbrev yI:=zV.keys
abbrev txts:=zV.texts
theorem keys_txts (l:List Txt):yI (txts l)=l:=by
 unfold yI txts zV.keys zV.texts
 rw [List.map_map]
 conv=>rhs;rw [←List.map_id l]
 exact List.map_congr_left fun x _=>by simp
theorem qT (l:List ByteArray):txts (yI l)=l:=by
 unfold yI txts zV.keys zV.texts
 rw [List.map_map]
 conv=>rhs;rw [←List.map_id l]
 exact List.map_congr_left fun x _=>by
  apply ByteArray.ext
  simp
theorem yw (a:List ByteArray):(yI a).length=a.length:=List.length_map ..
theorem txts_length (a:List Txt):(txts a).length=a.length:=List.length_map ..
def setT (l:List ByteArray):List ByteArray:=txts (tset (yI l))
theorem setT_length (l:List ByteArray):(setT l).length≤l.length:=by
 unfold setT
 rw [txts_length]
 have:=Zz (yI l)
 rw [yw] at this
 exact this
theorem Yl (l:List ByteArray):yI (setT l)=tset (yI l):=keys_txts _
theorem set_some (l:List ByteArray) (h:l.length≤1000000000000):zV.f l=some (setT l):=by
 unfold zV.f
 rw [if_pos (by omega)]
 rfl
theorem join_some (a b:List ByteArray) (ha:a.length≤100000000000) (hb:b.length≤100000000000):yZ.f a b=some (setT (a ++ b)):=by
 unfold yZ.f
 rw [if_pos (by omega),set_some _ (by rw [List.length_append];omega)]
theorem Zr {l:List ByteArray} {i:Nat} (h:i < l.length):rdOf ByteArray.empty l (i:Int)=l[i]:=by
 unfold rdOf
 simp [List.getD_eq_getElem?_getD,h]
theorem key_at {l:List ByteArray} {i:Nat} (h:i < l.length):l[i].toList=(yI l)[i]'(by rw [yw];exact h):=by
 unfold yI zV.keys
 rw [List.getElem_map,Lib.toList_data]
theorem is_l0 (l:List ByteArray) (hl:l.length≤1000000000000):∀(d i:Nat),1≤i→i + d=max l.length 1→(∀j (_:1≤j) (_:j < i) (h:j < (yI l).length),(yI l)[j - 1]'(by omega) < (yI l)[j])→Ev (fun k=>yU.l0 k l i) (decide (ZW (yI l))):=by
 have hk:=yw l
 intro d
 induction d with
 | zero=>
  intro i h1 hi hb
  have hr:ZW (yI l):=by
   refine List.pairwise_iff_getElem.2 fun p q hp hq hpq=> ?_
   have step:∀n,∀(hn:p + 1 + n < (yI l).length),(yI l)[p] < (yI l)[p + 1 + n]:=by
    intro n
    induction n with
    | zero=>
     intro hn
     have:=hb (p + 1) (by omega) (by omega) (by omega)
     simpa using this
    | succ n ih=>
     intro hn
     have h2:=hb (p + 1 + (n + 1)) (by omega) (by omega) hn
     exact YT (ih (by omega)) (by simpa using h2)
   have:=step (q - p - 1) (by omega)
   simpa [show p + 1 + (q - p - 1)=q by omega] using this
  rw [decide_eq_true hr]
  exact Ev.step (fun k=>by rw [yU.l0,if_neg (by omega)]) (Ev.now _)
 | succ d ih=>
  intro i h1 hi hb
  by_cases hlt:i < l.length
  ·have hw:wrap64 ((i:Int) - 1)=((i - 1:Nat):Int):=by rw [yW (by omega)];omega
   have hw2:wrap64 ((i:Int) + 1)=((i + 1:Nat):Int):=by rw [yW (by omega)];rfl
   have hl1:i - 1 < l.length:=by omega
   have e:(Op.bytesLess ((rdOf ByteArray.empty l ((i - 1:Nat):Int)).toList) ((rdOf ByteArray.empty l (i:Int)).toList)=true)↔(yI l)[i - 1]'(by omega) < (yI l)[i]'(by omega):=by
    rw [Zr hl1,Zr hlt,Go.Proofs.bytesLess_eq,decide_eq_true_iff,key_at hl1,key_at hlt]
   refine Ev.step (fun k=>by rw [yU.l0,if_pos (by omega),hw,if_pos (by omega),if_pos (by omega),if_pos (by omega)]) ?_
   by_cases hc:(yI l)[i - 1]'(by omega) < (yI l)[i]'(by omega)
   ·refine Ev.ite_pos (e.2 hc) ?_
    rw [hw2]
    refine ih (i + 1) (by omega) (by omega) (fun j a b c=> ?_)
    by_cases ej:j=i
    ·subst ej;exact hc
    ·exact hb j a (by omega) c
   ·refine Ev.ite_neg (fun h=>hc (e.1 h)) ?_
    rw [show decide (ZW (yI l))=false from decide_eq_false (fun hr=>hc (List.pairwise_iff_getElem.1 hr _ _ (by omega) (by omega) (by omega)))]
    exact Ev.now _
  ·rw [show decide (ZW (yI l))=true from decide_eq_true (by
    have:(yI l).length≤1:=by omega
    match yI l,this with
    | [],_=>exact List.Pairwise.nil
    | [x],_=>exact List.pairwise_singleton _ _
    | _ :: _ :: _,h=>simp at h)]
   exact Ev.step (fun k=>by rw [yU.l0,if_neg (by omega)]) (Ev.now _)
theorem is_ev (l:List ByteArray) (hl:l.length≤1000000000000):Ev (fun k=>yU.f k l) (decide (ZW (yI l))):=by
 unfold yU.f
 exact is_l0 l hl (max l.length 1 - 1) 1 (Nat.le_refl _) (by omega) (fun j a b _=>by omega)
theorem mid_eq (lo hi n:Nat) (h:hi≤n) (hn:n≤1000000000000) (hl:lo≤hi):wrap64 ((IntKind.u64.wrap (wrap64 ((lo:Int) + (hi:Int)))) / 2)=(((lo + hi) / 2:Nat):Int):=by
 have h1:wrap64 ((lo:Int) + (hi:Int))=((lo + hi:Nat):Int):=by rw [yW (by omega)];rfl
 have h2:IntKind.u64.wrap ((lo + hi:Nat):Int)=((lo + hi:Nat):Int):=by
  show ((lo + hi:Nat):Int) % 18446744073709551616=_
  clear h1
  omega
 rw [h1,h2]
 clear h1 h2
 rw [yW (by omega)]
 omega
theorem less_some (a b:ByteArray):yi.f a b=some (decide (a.data.toList < b.data.toList)):=by
 unfold yi.f yP.f
 simp only [bne_self_eq_false,Option.bind_some]
 rw [if_neg (by simp),Go.Proofs.bytesLess_eq,Lib.toList_data,Lib.toList_data]
theorem keysOf_at {l:List ByteArray} {i:Nat} (h:i < l.length):(yI l)[i]'(by rw [yw];exact h)=l[i].data.toList:=by
 unfold yI zV.keys
 rw [List.getElem_map]
theorem bin_l0 (l:List ByteArray) (t:ByteArray) (hr:ZW (yI l)) (hl:l.length≤1000000000000):∀(d lo hi:Nat),hi - lo=d→lo≤lower (yI l) t.data.toList→lower (yI l) t.data.toList≤hi→hi≤l.length→
  Ev (fun k=>zJ.l0 k l t l.length lo hi) ((lower (yI l) t.data.toList:Int),decide (t.data.toList ∈ yI l)):=by
 have hk:=yw l
 intro d
 induction d using Nat.strongRecOn with
 | _ d ih=>
  intro lo hi hd h1 h2 h3
  by_cases hlt:lo < hi
  ·have hm:=mid_eq lo hi l.length h3 hl (Nat.le_of_lt hlt)
   obtain ⟨m,hme⟩:∃m,m=(lo + hi) / 2:=⟨_,rfl⟩
   have hm1:lo≤m∧m < hi:=by omega
   rw [←hme] at hm
   have hw:wrap64 ((m:Int) + 1)=((m + 1:Nat):Int):=by clear hm;rw [yW (by omega)];rfl
   have q1:(lo:Int) < (hi:Int):=by clear hm hw;omega
   have q2:(0:Int)≤(m:Int):=Int.natCast_nonneg m
   have q3:m < l.length:=by clear hm hw;omega
   have q4:(m:Int) < (l.length:Int):=Int.ofNat_lt.2 q3
   have e1:∀k,zJ.l0 (k + 1) l t l.length lo hi=(if decide (l[m].data.toList < t.data.toList)=true then zJ.l0 k l t l.length ((m + 1:Nat):Int) hi else zJ.l0 k l t l.length lo m):=by
    intro k
    rw [zJ.l0]
    simp only [hm,hw]
    rw [if_pos q1,if_pos q2,if_pos q4,Zr q3,less_some,Option.bind_some]
   refine Ev.step e1 ?_
   have hi':=Zy hr t.data.toList m (by clear hm hw;omega)
   rw [keysOf_at (by clear hm hw;omega)] at hi'
   by_cases hc:l[m].data.toList < t.data.toList
   ·refine Ev.ite_pos (by simpa using hc) ?_
    exact ih (hi - (m + 1)) (by clear hm hw;omega) (m + 1) hi rfl (by have:=hi'.1 hc;clear hm hw;omega) h2 h3
   ·refine Ev.ite_neg (by simpa using hc) ?_
    exact ih (m - lo) (by clear hm hw;omega) lo m rfl h1 (by have:¬m < lower (yI l) t.data.toList:=fun h=>hc (hi'.2 h);clear hm hw;omega) (by clear hm hw;omega)
  ·have e:lo=lower (yI l) t.data.toList:=by omega
   subst e
   have hmem:t.data.toList ∈ yI l↔(yI l)[lower (yI l) t.data.toList]? =some t.data.toList:=by
    constructor
    ·intro hm
     obtain ⟨j,hj,hje⟩:=List.getElem_of_mem hm
     have a1:¬j < lower (yI l) t.data.toList:=fun h=>by
      have:=(Zy hr _ j hj).2 h
      rw [hje] at this;exact Zo _ this
     have a2:¬lower (yI l) t.data.toList < j:=fun h=>by
      have h4:=List.pairwise_iff_getElem.1 hr _ _ (by omega) hj h
      rw [hje] at h4
      have:=(Zy hr _ _ (by omega)).1 h4
      omega
     have:j=lower (yI l) t.data.toList:=by omega
     rw [←this,List.getElem?_eq_getElem hj,hje]
    ·exact fun h=>List.mem_of_getElem? h
   by_cases hend:lower (yI l) t.data.toList < l.length
   ·refine Ev.step (fun k=>by rw [zJ.l0,if_neg (by omega),if_pos (by omega),if_pos (by omega),if_pos (by omega),Zr hend]) ?_
    have hg:(yI l)[lower (yI l) t.data.toList]? =some (l[lower (yI l) t.data.toList].data.toList):=by
     rw [List.getElem?_eq_getElem (by omega),keysOf_at hend]
    by_cases hc:l[lower (yI l) t.data.toList].toList=t.toList
    ·refine Ev.ite_pos hc ?_
     rw [Lib.toList_data,Lib.toList_data] at hc
     rw [decide_eq_true (hmem.2 (by rw [hg,hc]))]
     exact Ev.now _
    ·refine Ev.ite_neg hc ?_
     rw [Lib.toList_data,Lib.toList_data] at hc
     rw [decide_eq_false (fun h=>hc (by have:=hmem.1 h;rw [hg] at this;exact Option.some.inj this))]
     refine Ev.bind0 (a:=false) (by unfold yS.f;simp) (Ev.ite_neg (by simp) (Ev.now _))
   ·rw [decide_eq_false (fun h=>by have:=hmem.1 h;rw [List.getElem?_eq_none (by omega)] at this;cases this)]
    exact Ev.step (fun k=>by rw [zJ.l0,if_neg (by omega),if_neg (by omega)]) (Ev.now _)
theorem bin_ev (l:List ByteArray) (t:ByteArray) (hr:ZW (yI l)) (hl:l.length≤1000000000000):Ev (fun k=>zJ.f k l t) ((lower (yI l) t.data.toList:Int),decide (t.data.toList ∈ yI l)):=by
 unfold zJ.f
 have h:=lower_le (yI l) t.data.toList
 rw [yw] at h
 exact bin_l0 l t hr hl _ 0 l.length rfl (Nat.zero_le _) h (Nat.le_refl _)
theorem data_append0 (a b:ByteArray):(a ++ b).data.toList=a.data.toList ++ b.data.toList:=by simp
def tc (K:Nat) (x y:ByteArray):ByteArray:=⟨((x.data.toList ++ y.data.toList).take K).toArray⟩
theorem Ya {a b:ByteArray} (h:a.data.toList=b.data.toList):a=b:=by
 apply ByteArray.ext
 apply Array.toList_inj.1 h
theorem tcat_some (x y:ByteArray) (k:Int) (hx:x.size≤1000000000000) (hy:y.size≤1000000000000) (hk: -9223372036854775808≤k∧k≤9223372036854775807):Zx.f x y k=some (tc (mx k 0).toNat x y):=by
 have hsx:=yk x
 have hsy:=yk y
 unfold Zx.f
 by_cases h:(x.size:Int)≥k
 ·have hm:0≤mx k 0∧mx k 0≤x.size:=by unfold mx;split <;> omega
  rw [if_pos h,if_pos hm.1,if_pos hm.2]
  congr 1
  apply Ya
  rw [Zv]
  unfold tc
  simp only [List.drop_zero]
  rw [List.take_append_of_le_length (by omega)]
 ·have hm:mx k 0=k:=by unfold mx;split <;> omega
  by_cases hb:k≤9223372036854775807 - 0∧0≤k - x.size∧k - (x.size:Int)≤9223372036854775807
  ·have hw:wrap64 (k - (x.size:Int))=k - (x.size:Int):=yW (by omega)
   have hn:0≤mn (k - (x.size:Int)) (y.size:Int)∧mn (k - (x.size:Int)) (y.size:Int)≤y.size:=by unfold mn;split <;> omega
   rw [if_neg h,hw,if_pos hn.1,if_pos hn.2,if_pos (by rw [ByteArray.size_extract];clear hw;omega)]
   congr 1
   apply Ya
   rw [data_append0,Zv]
   unfold tc
   simp only [List.drop_zero]
   rw [hm,List.take_append]
   rw [List.take_of_length_le (show x.data.toList.length≤k.toNat by clear hw;omega)]
   congr 1
   have e:(mn (k - (x.size:Int)) (y.size:Int)).toNat=min (k.toNat - x.data.toList.length) y.data.toList.length:=by
    rw [hsx,hsy]
    unfold mn
    clear hw
    split <;> omega
   rw [e,List.take_eq_take_iff]
   omega
  ·exact absurd ⟨by omega,by omega,by omega⟩ hb
def Zk (K:Nat) (b:List ByteArray) (x:ByteArray):List ByteArray:=if K≤x.size∧0 < b.length then [x.extract 0 K] else b.map (tc K x)
theorem rowOf_length (K:Nat) (b:List ByteArray) (x:ByteArray):(Zk K b x).length≤b.length:=by
 unfold Zk
 split
 ·rename_i h;exact h.2
 ·simp
section
variable (b : List ByteArray) (k : Int) (hk : -9223372036854775808 ≤ k ∧ k ≤ 9223372036854775807) (hb : b.length ≤ 1000000) (hbs : ∀ y ∈ b, y.size ≤ 1000000000000)
include hk hb hbs
theorem cat_l1 (x:ByteArray) (hx:x.size≤1000000000000) (A:List ByteArray) (i:Int) (r:List ByteArray):∀(d j:Nat) (acc:List ByteArray),j + d=b.length→acc.length + d≤1000000000000→
  Ev (fun n=>zi.l0 n b k (acc ++ (b.drop j).map (tc (mx k 0).toNat x)) A A.length (wrap64 (i + 1))) r→Ev (fun n=>zi.l1 n b k acc x A A.length i b b.length j) r:=by
 intro d
 induction d with
 | zero=>
  intro j acc hj _ h
  rw [List.drop_of_length_le (by omega),List.map_nil,List.append_nil] at h
  exact Ev.step (fun n=>by rw [zi.l1,if_neg (by omega)]) h
 | succ d ih=>
  intro j acc hj ha h
  have hlt:j < b.length:=by omega
  have hw:wrap64 ((j:Int) + 1)=((j + 1:Nat):Int):=by rw [yW (by omega)];rfl
  refine Ev.step (fun n=>by rw [zi.l1,if_pos (by clear hw;omega),if_pos (by clear hw;omega),if_pos (by clear hw;omega),Zr hlt,hw]) ?_
  refine Ev.bind0 (tcat_some x b[j] k hx (hbs _ (List.getElem_mem _)) hk) (Ev.ite_pos (by clear hw;omega) ?_)
  refine ih (j + 1) _ (by omega) (by simp;omega) ?_
  rw [List.drop_eq_getElem_cons hlt,List.map_cons] at h
  simpa using h
theorem cat_l0 (a:List ByteArray) (hal:a.length≤100000) (has:∀x ∈ a,x.size≤1000000000000):∀(d i:Nat) (acc:List ByteArray),i + d=a.length→acc.length + d * b.length≤100000000000→
  Ev (fun n=>zi.l0 n b k acc a a.length i) (setT (acc ++ (a.drop i).flatMap (Zk (mx k 0).toNat b))):=by
 intro d
 induction d with
 | zero=>
  intro i acc hi ha
  rw [List.drop_of_length_le (by omega),List.flatMap_nil,List.append_nil]
  exact Ev.step (fun n=>by rw [zi.l0,if_neg (by omega)]) (Ev.bind0 (set_some acc (by omega)) (Ev.now _))
 | succ d ih=>
  intro i acc hi ha
  have hlt:i < a.length:=by omega
  have hw:wrap64 ((i:Int) + 1)=((i + 1:Nat):Int):=by rw [yW (by omega)];rfl
  have hsz:=has _ (List.getElem_mem hlt)
  have hmx:0≤mx k 0:=by unfold mx;split <;> omega
  have hlen:=rowOf_length (mx k 0).toNat b a[i]
  have hmul:(d + 1) * b.length=d * b.length + b.length:=Nat.succ_mul _ _
  rw [List.drop_eq_getElem_cons hlt,List.flatMap_cons,←List.append_assoc]
  have ih':=ih (i + 1) (acc ++ Zk (mx k 0).toNat b a[i]) (by omega) (by rw [List.length_append];omega)
  refine Ev.step (fun n=>by rw [zi.l0,if_pos (by clear hw;omega),if_pos (by clear hw;omega),if_pos (by clear hw;omega),Zr hlt]) ?_
  have hj1t:∀(hc1:mx k 0≤(a[i].size:Int)) (hc2:0 < b.length),Ev (fun n=>zi.j1 n b k acc a[i] a a.length i true) (setT (acc ++ Zk (mx k 0).toNat b a[i] ++ (a.drop (i + 1)).flatMap (Zk (mx k 0).toNat b))):=by
   intro hc1 hc2
   refine Ev.step (fun n=>by rw [zi.j1,if_pos rfl,if_pos hmx,if_pos hc1,if_pos (by clear hw;omega),hw]) ?_
   have e:Zk (mx k 0).toNat b a[i]= [a[i].extract 0 (mx k 0).toNat]:=by unfold Zk;rw [if_pos ⟨by clear hw;omega,hc2⟩]
   rw [e] at ih'⊢
   exact ih'
  have hj1f:¬((mx k 0).toNat≤a[i].size∧0 < b.length)→Ev (fun n=>zi.j1 n b k acc a[i] a a.length i false) (setT (acc ++ Zk (mx k 0).toNat b a[i] ++ (a.drop (i + 1)).flatMap (Zk (mx k 0).toNat b))):=by
   intro hc
   refine Ev.step (fun n=>by rw [zi.j1,if_neg (by simp)]) ?_
   have e:Zk (mx k 0).toNat b a[i]=b.map (tc (mx k 0).toNat a[i]):=by unfold Zk;rw [if_neg hc]
   refine cat_l1 b k hk hb hbs a[i] hsz a i _ b.length 0 acc (by omega) (by clear hw;omega) ?_
   rw [List.drop_zero,hw,←e]
   exact ih'
  by_cases hc1:(a[i].size:Int)≥mx k 0
  ·refine Ev.ite_pos hc1 ?_
   by_cases hc2:0 < b.length
   ·rw [show decide ((b.length:Int) > 0)=true from decide_eq_true (by clear hw;omega)]
    exact hj1t hc1 hc2
   ·rw [show decide ((b.length:Int) > 0)=false from decide_eq_false (by clear hw;omega)]
    exact hj1f (fun h=>hc2 h.2)
  ·refine Ev.ite_neg hc1 (hj1f (fun h=>hc1 (by have:=h.1;clear hw;omega)))
theorem cat_ev (a:List ByteArray) (hal:a.length≤100000) (has:∀x ∈ a,x.size≤1000000000000):Ev (fun n=>zi.f n a b k) (setT (a.flatMap (Zk (mx k 0).toNat b))):=by
 unfold zi.f
 have h:=cat_l0 b k hk hb hbs a hal has a.length 0 [] (by omega) (by
  have:a.length * b.length≤100000 * 1000000:=Nat.mul_le_mul hal hb
  simp;omega)
 simpa using h
end
theorem mem_row (K:Nat) (a b:List ByteArray) (t:Txt):t ∈ yI (a.flatMap (Zk K b))↔∃x ∈ a,∃y ∈ b,t=(x.data.toList ++ y.data.toList).take K:=by
 unfold yI zV.keys
 simp only [List.mem_map,List.mem_flatMap]
 constructor
 ·rintro ⟨z,⟨x,hx,hz⟩,rfl⟩
  refine ⟨x,hx,?_⟩
  unfold Zk at hz
  split at hz
  ·rename_i hc
   obtain ⟨y,hy⟩:=List.exists_mem_of_length_pos hc.2
   refine ⟨y,hy,?_⟩
   rw [List.mem_singleton.1 hz,Zv]
   simp only [List.drop_zero]
   rw [List.take_append_of_le_length (by have:=yk x;omega)]
  ·obtain ⟨y,hy,rfl⟩:=List.mem_map.1 hz
   exact ⟨y,hy,rfl⟩
 ·rintro ⟨x,hx,y,hy,rfl⟩
  unfold Zk
  by_cases hc:K≤x.size∧0 < b.length
  ·refine ⟨x.extract 0 K,⟨x,hx,by rw [if_pos hc];simp⟩,?_⟩
   rw [Zv]
   simp only [List.drop_zero]
   rw [List.take_append_of_le_length (by have:=yk x;omega)]
  ·exact ⟨tc K x y,⟨x,hx,by rw [if_neg hc];exact List.mem_map.2 ⟨y,hy,rfl⟩⟩,rfl⟩
theorem YB {l:List ByteArray} {x:ByteArray} :x.data.toList ∈ yI l↔x ∈ l:=by
 unfold yI zV.keys
 rw [List.mem_map]
 constructor
 ·rintro ⟨y,hy,e⟩
  rw [←Ya e];exact hy
 ·exact fun h=>⟨x,h,rfl⟩
theorem Zd {l:List ByteArray} {x:ByteArray} :x ∈ setT l↔x ∈ l:=by
 rw [←YB,Yl,(yf _).2,YB]
theorem qz {a b:List ByteArray} (h:∀x,x ∈ a↔x ∈ b):setT a=setT b:=by
 unfold setT
 rw [tset_congr (a:=yI a) (b:=yI b) fun t=> ?_]
 unfold yI zV.keys
 simp only [List.mem_map,h]
instance memDec (x:ByteArray) (l:List ByteArray):Decidable (x ∈ l):=decidable_of_iff (∃y ∈ l,y=x) ⟨fun ⟨_,h,e⟩=>e▸h,fun h=>⟨x,h,rfl⟩⟩
theorem rd_int {l:List Int} {i:Nat} (h:i < l.length):rd l (i:Int)=l[i]:=by
 unfold rd
 simp [List.getD_eq_getElem?_getD,h]
theorem qo {a b:ByteArray} :a.toList=b.toList↔a=b:=by
 rw [Lib.toList_data,Lib.toList_data]
 exact ⟨Ya,fun h=>h▸rfl⟩
theorem same_dec (a b:List ByteArray) (hl:a.length≤1000000000000):Ev (fun k=>zU.f k a b) (decide (a=b)):=by
 unfold zU.f
 by_cases hab:a.length=b.length
 ·refine Ev.ite_pos (by omega) ?_
  have:∀(d i:Nat),i + d=a.length→Ev (fun k=>zU.l0 k a b i) (decide (a.drop i=b.drop i)):=by
   intro d
   induction d with
   | zero=>
    intro i hi
    rw [List.drop_of_length_le (by omega),List.drop_of_length_le (by omega)]
    exact Ev.step (fun k=>by rw [zU.l0,if_neg (by omega)];rfl) (Ev.now _)
   | succ d ih=>
    intro i hi
    have h1:i < a.length:=by omega
    have h2:i < b.length:=by omega
    have hw:wrap64 ((i:Int) + 1)=((i + 1:Nat):Int):=by rw [yW (by omega)];rfl
    refine Ev.step (fun k=>by rw [zU.l0,if_pos (by clear hw;omega),if_pos (by clear hw;omega),if_pos (by clear hw;omega),Zr h1,Zr h2,hw]) ?_
    rw [List.drop_eq_getElem_cons h1,List.drop_eq_getElem_cons h2]
    by_cases e:a[i]=b[i]
    ·refine Ev.ite_pos (qo.2 e) ?_
     rw [show decide (a[i] :: a.drop (i + 1)=b[i] :: b.drop (i + 1))=decide (a.drop (i + 1)=b.drop (i + 1)) from decide_eq_decide.2 (by rw [List.cons.injEq];exact ⟨fun h=>h.2,fun h=>⟨e,h⟩⟩)]
     exact ih (i + 1) (by clear hw;omega)
    ·refine Ev.ite_neg (fun h=>e (qo.1 h)) ?_
     rw [decide_eq_false (by rw [List.cons.injEq];exact fun h=>e h.1)]
     exact Ev.now _
  have h:=this a.length 0 (by omega)
  rw [List.drop_zero,List.drop_zero] at h
  exact h
 ·rw [decide_eq_false (fun h=>hab (by rw [h]))]
  exact Ev.ite_neg (by omega) (Ev.now _)
theorem setT_nil:setT []= []:=by unfold setT;rw [show yI []= [] from rfl,YM Yk];rfl
theorem index_dec (t:ByteArray) (l:List ByteArray) (hl:l.length≤1000000000000):∀(d i:Nat),i + d=l.length→∃z:Int,(0≤z↔t ∈ l.drop i)∧Ev (fun k=>zd.l0 k l t l.length i) z:=by
 intro d
 induction d with
 | zero=>
  intro i hi
  exact ⟨-1,by rw [List.drop_of_length_le (by omega)];simp,Ev.step (fun k=>by rw [zd.l0,if_neg (by omega)]) (Ev.now _)⟩
 | succ d ih=>
  intro i hi
  have hlt:i < l.length:=by omega
  have hw:wrap64 ((i:Int) + 1)=((i + 1:Nat):Int):=by rw [yW (by omega)];rfl
  by_cases e:t=l[i]
  ·exact ⟨i,by rw [List.drop_eq_getElem_cons hlt,←e];simp,Ev.step (fun k=>by rw [zd.l0,if_pos (by clear hw;omega),if_pos (by clear hw;omega),if_pos (by clear hw;omega),Zr hlt,if_pos (qo.2 e)]) (Ev.now _)⟩
  ·obtain ⟨z,h0,hz⟩:=ih (i + 1) (by clear hw;omega)
   exact ⟨z,by rw [h0,List.drop_eq_getElem_cons hlt,List.mem_cons];exact ⟨.inr,fun h=>h.resolve_left e⟩,Ev.step (fun k=>by rw [zd.l0,if_pos (by clear hw;omega),if_pos (by clear hw;omega),if_pos (by clear hw;omega),Zr hlt,if_neg (fun h=>e (qo.1 h)),hw]) hz⟩
theorem has_dec (l:List ByteArray) (t:ByteArray) (hl:l.length≤1000000):Ev (fun k=>ZI.f k l t) (decide (t ∈ l)):=by
 unfold ZI.f
 refine Ev.bind (is_ev l (by omega)) ?_
 by_cases hr:ZW (yI l)
 ·refine Ev.ite_pos (by simpa using hr) (Ev.bind (bin_ev l t hr (by omega)) (Ev.some ?_))
  exact decide_eq_decide.2 YB
 ·refine Ev.ite_neg (by simpa using hr) ?_
  obtain ⟨z,h0,hz⟩:=index_dec t l (by omega) l.length 0 (by omega)
  unfold yC.f zd.f
  refine Ev.bind (Ev.bind hz (Ev.now _)) (Ev.some ?_)
  rw [List.drop_zero] at h0
  exact decide_eq_decide.2 h0
theorem has_int (l:List Int) (n:Int) (hl:l.length≤1000000000000):Ev (fun k=>zu.f k l n) (decide (n ∈ l)):=by
 have:∀(d i:Nat),i + d=l.length→Ev (fun k=>zu.l0 k l n i) (decide (n ∈ l.drop i)):=by
  intro d
  induction d with
  | zero=>intro i hi;rw [List.drop_of_length_le (by omega),decide_eq_false (by simp)];exact Ev.step (fun k=>by rw [zu.l0,if_neg (by omega)]) (Ev.now _)
  | succ d ih=>
   intro i hi
   have hlt:i < l.length:=by omega
   have hw:wrap64 ((i:Int) + 1)=((i + 1:Nat):Int):=by rw [yW (by omega)];rfl
   refine Ev.step (fun k=>by rw [zu.l0,if_pos (by clear hw;omega),if_pos (by clear hw;omega),rd_int hlt,hw]) ?_
   rw [List.drop_eq_getElem_cons hlt]
   by_cases e:l[i]=n
   ·rw [decide_eq_true (by simp [e])]
    exact Ev.ite_pos e (Ev.now _)
   ·rw [show decide (n ∈ l[i] :: l.drop (i + 1))=decide (n ∈ l.drop (i + 1)) from decide_eq_decide.2 (by rw [List.mem_cons];exact ⟨fun h=>h.resolve_left (fun h=>e h.symm), .inr⟩)]
    exact Ev.ite_neg e (ih (i + 1) (by clear hw;omega))
 unfold zu.f
 exact this l.length 0 (by omega)
def hds (l:List ByteArray):List Int:=l.filterMap fun t=>if t.size=0 then none else some (bt t 0)
theorem hds_cons (t:ByteArray) (l:List ByteArray):hds (t :: l)=if t.size=0 then hds l else bt t 0 :: hds l:=by
 unfold hds
 rw [List.filterMap_cons]
 by_cases h:t.size=0
 ·simp [h]
 ·simp [h]
theorem toList_nil {t:ByteArray} :t.toList= []↔t.size=0:=by
 rw [Lib.toList_data,←yk]
 exact List.length_eq_zero_iff.symm
theorem heads_l0 (l:List ByteArray) (hl:l.length≤1000000):∀(d i:Nat) (acc:List Int),i + d=l.length→acc.length≤i→Ev (fun k=>yM.l0 k acc l l.length i) (zt.iset (acc ++ hds (l.drop i))):=by
 intro d
 induction d with
 | zero=>
  intro i acc hi ha
  rw [List.drop_of_length_le (by omega),show hds []= [] from rfl,List.append_nil]
  refine Ev.step (fun k=>by rw [yM.l0,if_neg (by omega)]) (Ev.bind0 (a:=zt.iset acc) ?_ (Ev.now _))
  unfold zt.f
  rw [if_pos (by omega)]
 | succ d ih=>
  intro i acc hi ha
  have hlt:i < l.length:=by omega
  have hw:wrap64 ((i:Int) + 1)=((i + 1:Nat):Int):=by rw [yW (by omega)];rfl
  have hb:=bt_lt l[i] 0
  have hwb:wrap64 (bt l[i] 0)=bt l[i] 0:=yW (by clear hw;omega)
  refine Ev.step (fun k=>by rw [yM.l0,if_pos (by clear hw hwb;omega),if_pos (by clear hw hwb;omega),if_pos (by clear hw hwb;omega),Zr hlt,hw,hwb]) ?_
  rw [List.drop_eq_getElem_cons hlt,hds_cons]
  by_cases h0:l[i].size=0
  ·rw [if_pos h0]
   exact Ev.ite_pos (toList_nil.2 h0) (ih (i + 1) acc (by clear hw hwb;omega) (by clear hw hwb;omega))
  ·rw [if_neg h0]
   have:=ih (i + 1) (acc ++ [bt l[i] 0]) (by clear hw hwb;omega) (by rw [List.length_append,List.length_singleton];clear hw hwb;omega)
   rw [List.append_assoc,List.singleton_append] at this
   exact Ev.ite_neg (fun h=>h0 (toList_nil.1 h)) (Ev.ite_pos (by clear hw hwb;omega) (Ev.ite_pos (by clear hw hwb;omega) this))
theorem heads_ev (l:List ByteArray) (hl:l.length≤1000000):Ev (fun k=>yM.f k l) (zt.iset (hds l)):=by
 have:=heads_l0 l hl l.length 0 [] (by omega) (by simp)
 rw [List.drop_zero,List.nil_append] at this
 exact this
def upTo (n:Nat) (h:List Int):List Int:=((List.range n).map Int.ofNat).filter fun x=>decide (x ∈ h)
theorem upTo_length (n:Nat) (h:List Int):(upTo n h).length≤n:=by
 unfold upTo
 refine Nat.le_trans (List.length_filter_le _ _) ?_
 simp
theorem upTo_rises (n:Nat) (h:List Int):(upTo n h).Pairwise (· < ·):=by
 unfold upTo
 refine List.Pairwise.filter _ (List.pairwise_map.2 ?_)
 exact List.pairwise_lt_range.imp fun {a b} hab=>by show (a:Int) < (b:Int);omega
theorem heads_same (l:List ByteArray):zt.iset (hds l)=upTo 256 (hds l):=by
 refine qU (s:=fun x y:Int=>x < y) (fun x=>by omega) (fun x y z=>Int.lt_trans) _ _ (zt.iset_rises _).1 (upTo_rises _ _) fun x=> ?_
 rw [(zt.iset_rises _).2]
 unfold upTo
 rw [List.mem_filter,List.mem_map,decide_eq_true_iff]
 constructor
 ·intro h
  refine ⟨?_,h⟩
  unfold hds at h
  rw [List.mem_filterMap] at h
  obtain ⟨t,_,ht⟩:=h
  split at ht
  ·cases ht
  ·have:=bt_lt t 0
   rw [←Option.some.inj ht]
   exact ⟨(bt t 0).toNat,by rw [List.mem_range];omega,by show ((bt t 0).toNat:Int)=_;omega⟩
 ·exact fun h=>h.2
abbrev Sets:=List (List ByteArray)
def setP (l:List ByteArray):List ByteArray:=txts (Zm [] (yI l))
theorem ZJ (l:List ByteArray):setP l=setT l:=congrArg txts (putAll_nil _)
abbrev CatF:=List ByteArray→List ByteArray→List ByteArray
def rowG (C:CatF) (M:Nat) (sets:Sets):List Sym→List ByteArray→List ByteArray × Bool
 | [],out=>(out,true)
 | s :: l,out=>if M < (C out (if s.f0=true then [strOfNums [s.f1 % 256]] else ze sets s.f1)).length then ([],false) else rowG C M sets l (C out (if s.f0=true then [strOfNums [s.f1 % 256]] else ze sets s.f1))
def yl (C:CatF) (M:Nat):List Prod'→Sets→Bool→Sets × Bool × Bool
 | [],sets,more=>(sets,more,true)
 | p :: ps,sets,more=>if (rowG C M sets p.f1 [(⟨#[]⟩:ByteArray)]).2=false then (sets,false,false) else if M < (setP (ze sets p.f0 ++ (rowG C M sets p.f1 [(⟨#[]⟩:ByteArray)]).1)).length then (sets,false,false) else yl C M ps (sets.set p.f0.toNat (setP (ze sets p.f0 ++ (rowG C M sets p.f1 [(⟨#[]⟩:ByteArray)]).1))) (more || decide ((ze sets p.f0).length < (setP (ze sets p.f0 ++ (rowG C M sets p.f1 [(⟨#[]⟩:ByteArray)]).1)).length))
def Zt (C:CatF) (M:Nat) (ps:List Prod'):Nat→Sets→Option Sets
 | 0,_=>none
 | m + 1,sets=>if (yl C M ps sets false).2.2=false then none else if (yl C M ps sets false).2.1=false then some (yl C M ps sets false).1 else Zt C M ps m (yl C M ps sets false).1
def Zl (M:Nat) (a:List ByteArray):Prop:=a.length≤M∧∀x ∈ a,x.size≤4
def yR (M:Nat) (sets:Sets):Prop:=∀a ∈ sets,Zl M a∧setT a=a
theorem ZC {sets:Sets} {i:Int} (h:0≤i∧i < sets.length):ze sets i ∈ sets:=by
 unfold ze
 rw [List.getD_eq_getElem?_getD,List.getElem?_eq_getElem (by omega)]
 exact List.getElem_mem _
theorem strOfNums_size (n:Int):(strOfNums [n]).size=1:=rfl
theorem tok_good {M:Nat} (hM:1≤M) (n:Int):Zl M [strOfNums [n]]:=⟨by simpa using hM,fun x hx=>by rw [List.mem_singleton.1 hx,strOfNums_size];omega⟩
theorem ZY {M:Nat} (hM:1≤M):Zl M [(⟨#[]⟩:ByteArray)]:=⟨by simpa using hM,fun x hx=>by rw [List.mem_singleton.1 hx];decide⟩
theorem sym_good {M:Nat} (hM:1≤M) {toks:Int} {sets:Sets} (hS:yR M sets) {s:Sym} (hs:ZA toks sets.length s=false):Zl M (if s.f0=true then [strOfNums [s.f1 % 256]] else ze sets s.f1)∧(s.f0=false→0≤s.f1∧s.f1 < sets.length):=by
 unfold ZA at hs
 cases h:s.f0
 ·rw [h] at hs
  have h2:0≤s.f1∧s.f1 < sets.length:=by simpa using hs
  exact ⟨(hS _ (ZC h2)).1,fun _=>h2⟩
 ·exact ⟨tok_good hM _,fun h=>by cases h⟩
theorem YQ {C:CatF} {M:Nat} (hC:∀a b,∀x ∈ C a b,x.size≤4) (sets:Sets):∀(l:List Sym) (out:List ByteArray),Zl M out→Zl M (rowG C M sets l out).1:=by
 intro l
 induction l with
 | nil=>intro out h;exact h
 | cons s l ih=>
  intro out h
  unfold rowG
  by_cases h6:M < (C out (if s.f0=true then [strOfNums [s.f1 % 256]] else ze sets s.f1)).length
  ·rw [if_pos h6];exact ⟨Nat.zero_le _,fun x hx=>nomatch hx⟩
  ·rw [if_neg h6];exact ih _ ⟨Nat.not_lt.1 h6,hC _ _⟩
theorem Ym (l:List ByteArray):setT (setT l)=setT l:=qz fun x=>Zd
theorem setT_inj {a b:List ByteArray} (ha:setT a=a) (hb:setT b=b) (hs:∀x ∈ a,x ∈ b) (hl:b.length≤a.length):a=b:=by
 have hra:ZW (yI a):=by rw [←ha,Yl];exact (yf _).1
 have hrb:ZW (yI b):=by rw [←hb,Yl];exact (yf _).1
 have hk:yI a=yI b:=by
  refine qE hra hrb fun x=>⟨fun hx=> ?_,fun hx=> ?_⟩
  ·obtain ⟨y,hy,rfl⟩:=List.mem_map.1 hx
   exact YB.2 (hs y hy)
  ·refine Classical.byContradiction fun hn=> ?_
   have h:(x :: yI a).length≤(yI b).length:=short_of_subset _ _ (List.pairwise_cons.2 ⟨fun y hy e=>hn (e▸hy),hra.imp fun h=>(Yz _ _).1 h |>.2⟩) (fun y hy=>by
    rcases List.mem_cons.1 hy with e|h
    ·exact e▸hx
    ·obtain ⟨z,hz,rfl⟩:=List.mem_map.1 h
     exact YB.2 (hs z hz))
   rw [List.length_cons,yw,yw] at h
   omega
 rw [←qT a,hk,qT]
def Zu (sets:Sets):Nat:=(sets.map List.length).sum
theorem total_le {M:Nat} :∀ {sets:Sets},yR M sets→Zu sets≤M * sets.length:=by
 intro sets
 induction sets with
 | nil=>intro _;exact Nat.le_refl _
 | cons a sets ih=>
  intro h
  have h1:=(h a List.mem_cons_self).1.1
  have h2:=ih fun x hx=>h x (List.mem_cons_of_mem _ hx)
  unfold Zu at h2⊢
  rw [List.map_cons,List.sum_cons,List.length_cons,Nat.mul_succ]
  omega
theorem total_set:∀(sets:Sets) (i:Nat) (h:i < sets.length) (j:List ByteArray),Zu (sets.set i j) + (sets[i]).length=Zu sets + j.length:=by
 intro sets
 induction sets with
 | nil=>intro i h;simp at h
 | cons a sets ih=>
  intro i h j
  cases i with
  | zero=>
   unfold Zu
   simp only [List.set_cons_zero,List.map_cons,List.sum_cons,List.getElem_cons_zero]
   omega
  | succ i=>
   have:=ih i (by simpa using h) j
   unfold Zu at this⊢
   simp only [List.set_cons_succ,List.map_cons,List.sum_cons,List.getElem_cons_succ]
   omega
theorem rd_at {sets:Sets} {i:Int} (h:0≤i∧i < sets.length):ze sets i=sets[i.toNat]'(by omega):=by
 unfold ze
 rw [List.getD_eq_getElem?_getD,List.getElem?_eq_getElem (by omega)]
 rfl
theorem Zg {M:Nat} {sets:Sets} (hS:yR M sets) (i:Nat) {j:List ByteArray} (hj:Zl M j) (hf:setT j=j):yR M (sets.set i j):=by
 intro a ha
 rcases List.mem_or_eq_of_mem_set ha with h|h
 ·exact hS a h
 ·exact h▸⟨hj,hf⟩
theorem Zi {toks:Int} {n:Nat} {p:Prod'} (h:yV toks n p=false):(0≤p.f0∧p.f0 < n)∧p.f1.any (ZA toks n)=false:=by
 unfold yV at h
 rw [Bool.or_eq_false_iff] at h
 exact ⟨by simpa using h.1,h.2⟩
theorem qV {M:Nat} {sets:Sets} {i:Int} (hS:yR M sets) (h:0≤i∧i < sets.length) {x:List ByteArray} (hx:Zl M x) (hl:(setP (ze sets i ++ x)).length≤M):Zl M (setP (ze sets i ++ x))∧setT (setP (ze sets i ++ x))=setP (ze sets i ++ x):=by
 refine ⟨⟨hl,fun y hy=> ?_⟩,by rw [ZJ,Ym]⟩
 rw [ZJ,Zd,List.mem_append] at hy
 rcases hy with hy|hy
 ·exact (hS _ (ZC h)).1.2 y hy
 ·exact hx.2 y hy
theorem YU {M:Nat} {sets:Sets} {i:Int} (hS:yR M sets) (h:0≤i∧i < sets.length) (x:List ByteArray):(ze sets i).length≤(setP (ze sets i ++ x)).length∧((setP (ze sets i ++ x)).length≤(ze sets i).length→ze sets i=setP (ze sets i ++ x)):=by
 have hf:=(hS _ (ZC h)).2
 have hsub:∀y ∈ ze sets i,y ∈ setP (ze sets i ++ x):=fun y hy=>by
  rw [ZJ,Zd];exact List.mem_append_left _ hy
 refine ⟨?_,fun hl=>setT_inj hf (by rw [ZJ,Ym]) hsub hl⟩
 have hr:ZW (yI (ze sets i)):=by rw [←hf,Yl];exact (yf _).1
 have hh:=qd hr (b:=yI (setP (ze sets i ++ x))) fun y hy=>by
  obtain ⟨z,hz,rfl⟩:=List.mem_map.1 hy
  exact YB.2 (hsub z hz)
 rwa [yw,yw] at hh
theorem Yb {C:CatF} {M:Nat} (hC:∀a b,∀x ∈ C a b,x.size≤4) (hM:1≤M) {toks:Int} {n:Nat} :∀(ps:List Prod') (sets:Sets) (more:Bool),yR M sets→sets.length=n→ps.any (yV toks n)=false→
  yR M (yl C M ps sets more).1∧(yl C M ps sets more).1.length=n∧Zu sets≤Zu (yl C M ps sets more).1∧(more=false→(yl C M ps sets more).2.1=true→Zu sets < Zu (yl C M ps sets more).1):=by
 intro ps
 induction ps with
 | nil=>intro sets more hS hn _;exact ⟨hS,hn,Nat.le_refl _,fun h1 h2=>by rw [show (yl C M [] sets more).2.1=more from rfl,h1] at h2;cases h2⟩
 | cons p ps ih=>
  intro sets more hS hn hb
  rw [List.any_cons,Bool.or_eq_false_iff] at hb
  obtain ⟨hp,hr⟩:=Zi hb.1
  rw [←hn] at hp
  unfold yl
  have hx:=YQ hC sets p.f1 _ (ZY hM)
  generalize (rowG C M sets p.f1 [(⟨#[]⟩:ByteArray)])=x at hx⊢
  by_cases h1:x.2=false
  ·rw [if_pos h1];exact ⟨hS,hn,Nat.le_refl _,fun _ h2=>by cases h2⟩
  rw [if_neg h1]
  by_cases h2:M < (setP (ze sets p.f0 ++ x.1)).length
  ·rw [if_pos h2];exact ⟨hS,hn,Nat.le_refl _,fun _ h2=>by cases h2⟩
  rw [if_neg h2]
  obtain ⟨hj,hf⟩:=qV hS hp hx (Nat.not_lt.1 h2)
  obtain ⟨hg,-⟩:=YU hS hp x.1
  have ht:=total_set sets p.f0.toNat (by omega) (setP (ze sets p.f0 ++ x.1))
  rw [←rd_at hp] at ht
  obtain ⟨i1,i2,i3,i4⟩:=ih (sets.set p.f0.toNat (setP (ze sets p.f0 ++ x.1))) (more || decide ((ze sets p.f0).length < (setP (ze sets p.f0 ++ x.1)).length)) (Zg hS _ hj hf) (by rw [List.length_set];exact hn) hb.2
  refine ⟨i1,i2,by omega,fun hm hm2=> ?_⟩
  by_cases h3:(ze sets p.f0).length < (setP (ze sets p.f0 ++ x.1)).length
  ·omega
  ·have:=i4 (by rw [hm,decide_eq_false h3];rfl) hm2
   omega
set_option linter.unusedSectionVars false
section
variable {C : CatF} {M : Nat} (hC : ∀ a b, ∀ x ∈ C a b, x.size ≤ 4) (hM : 1 ≤ M) (cat : Nat → List ByteArray → List ByteArray → Option (List ByteArray)) (hcat : ∀ a b, Zl M a → Zl M b → Ev (fun k => cat k a b) (C a b)) (hM2 : M ≤ 1000000) (toks : Int) (of : List Int)
include hC hM hcat hM2
theorem row_ev {sets:Sets} (hS:yR M sets):∀(l:List Sym) (out:List ByteArray),Zl M out→l.any (ZA toks sets.length)=false→
  Ev (fun k=>zW.row (cat k) sets (M:Int) l out) (rowG C M sets l out):=by
 intro l
 induction l with
 | nil=>intro out _ _;exact Ev.now _
 | cons s l ih=>
  intro out ho hb
  rw [List.any_cons,Bool.or_eq_false_iff] at hb
  obtain ⟨hg,hn⟩:=sym_good hM hS hb.1
  have hc:=hcat _ _ ho hg
  unfold rowG
  refine Ev.congr (fun k=>by rw [zW.row]) (Ev.bind0 (a:=if s.f0=true then [strOfNums [s.f1 % 256]] else ze sets s.f1) ?_ (Ev.bind hc ?_))
  ·cases h:s.f0
   ·rw [if_neg Bool.false_ne_true,if_neg Bool.false_ne_true,if_pos (hn h)]
   ·rw [if_pos rfl,if_pos rfl];rfl
  ·by_cases h:M < (C out (if s.f0=true then [strOfNums [s.f1 % 256]] else ze sets s.f1)).length
   ·rw [if_pos h];exact Ev.ite_pos (by omega) (Ev.now _)
   ·rw [if_neg h];exact Ev.ite_neg (by omega) (ih _ ⟨by omega,hC _ _⟩ hb.2)
theorem round_ev:∀(ps:List Prod') (sets:Sets) (more:Bool),yR M sets→sets.length=of.length→ps.any (yV toks of.length)=false→(∀p ∈ ps,p.f1.length≤1000000)→
  Ev (fun k=>zW.round (cat k) (M:Int) ps sets more) (yl C M ps sets more):=by
 intro ps
 induction ps with
 | nil=>intro sets more _ _ _ _;exact Ev.now _
 | cons p ps ih=>
  intro sets more hS hn hb hl
  rw [List.any_cons,Bool.or_eq_false_iff] at hb
  obtain ⟨hp,hr⟩:=Zi hb.1
  rw [←hn] at hp hr
  unfold yl
  have hx:=YQ hC sets p.f1 _ (ZY hM)
  have hrow:=row_ev hC hM cat hcat hM2 toks hS p.f1 _ (ZY hM) hr
  generalize (rowG C M sets p.f1 [(⟨#[]⟩:ByteArray)])=x at hx hrow⊢
  refine Ev.congr (fun k=>by rw [zW.round]) (Ev.ite_pos (hl p List.mem_cons_self) (Ev.bind hrow ?_))
  by_cases h1:x.2=false
  ·rw [if_pos h1];exact Ev.ite_pos h1 (Ev.now _)
  rw [if_neg h1]
  have hm:=(hS _ (ZC hp)).1.1
  refine Ev.ite_neg h1 (Ev.ite_pos hp (Ev.bind0 (join_some _ _ (by omega) (by have:=hx.1;omega)) ?_))
  rw [←ZJ]
  by_cases h2:M < (setP (ze sets p.f0 ++ x.1)).length
  ·rw [if_pos h2];exact Ev.ite_pos (by omega) (Ev.now _)
  rw [if_neg h2]
  obtain ⟨hj,hf⟩:=qV hS hp hx (Nat.not_lt.1 h2)
  have hi:=ih (sets.set p.f0.toNat (setP (ze sets p.f0 ++ x.1))) (more || decide ((ze sets p.f0).length < (setP (ze sets p.f0 ++ x.1)).length)) (Zg hS _ hj hf) (by rw [List.length_set];exact hn) hb.2 (fun q hq=>hl q (List.mem_cons_of_mem _ hq))
  refine Ev.ite_neg (by omega) ?_
  rw [show decide ((((setP (ze sets p.f0 ++ x.1)).length:Nat):Int) > ((ze sets p.f0).length:Int))=decide ((ze sets p.f0).length < (setP (ze sets p.f0 ++ x.1)).length) from decide_eq_decide.2 (by omega)]
  exact hi
theorem loop_ev (L:List Prod') (hb:L.any (yV toks of.length)=false) (hl:∀p ∈ L,p.f1.length≤1000000):∀(m:Nat) (sets:Sets),yR M sets→sets.length=of.length→M * of.length - Zu sets < m→
  (∃N,∀k,N≤k→∀q,N≤q→zW.loop (cat k) (M:Int) L q sets=some (Zt C M L m sets))∧
  ∀s,Zt C M L m sets=some s→yR M s∧s.length=of.length:=by
 intro m
 induction m with
 | zero=>intro sets _ _ h;omega
 | succ m ih=>
  intro sets hS hn hm
  obtain ⟨g1,g2,g3,g4⟩:=Yb hC hM L sets false hS hn hb
  obtain ⟨N,hN⟩:=round_ev hC hM cat hcat hM2 toks of L sets false hS hn hb hl
  replace hN:∀k,N≤k→zW.round (cat k) (M:Int) L sets false=some (yl C M L sets false):=hN
  unfold Zt
  generalize yl C M L sets false=x at g1 g2 g3 g4 hN⊢
  by_cases h1:x.2.2=false
  ·rw [if_pos h1]
   refine ⟨⟨N + 1,fun k hk q hq=> ?_⟩,fun s h=>by cases h⟩
   obtain ⟨q,rfl⟩:∃q',q=q' + 1:=⟨q - 1,by omega⟩
   rw [zW.loop,hN k (by omega),Option.bind_some,if_pos h1]
  rw [if_neg h1]
  by_cases h2:x.2.1=false
  ·rw [if_pos h2]
   refine ⟨⟨N + 1,fun k hk q hq=> ?_⟩,fun s h=>by cases h;exact ⟨g1,g2⟩⟩
   obtain ⟨q,rfl⟩:∃q',q=q' + 1:=⟨q - 1,by omega⟩
   rw [zW.loop,hN k (by omega),Option.bind_some,if_neg h1,if_pos h2]
  rw [if_neg h2]
  have g5:=g4 rfl (by simpa using h2)
  have g6:=total_le g1
  rw [g2] at g6
  obtain ⟨⟨M',hM'⟩,i3⟩:=ih x.1 g1 g2 (by omega)
  refine ⟨⟨N + M' + 1,fun k hk q hq=> ?_⟩,i3⟩
  obtain ⟨q,rfl⟩:∃q',q=q' + 1:=⟨q - 1,by omega⟩
  rw [zW.loop,hN k (by omega),Option.bind_some,if_neg h1,if_neg h2]
  exact hM' k (by omega) q (by omega)
end
theorem ZF {toks look:Int} {n:Nat} {L:List Prod'} (h:mayE toks look n L=0):(1≤n∧n≤500)∧(1≤L.length∧L.length≤2000)∧(1≤look∧look≤4)∧L.any (yV toks n)=false:=by
 unfold mayE at h
 by_cases h1:toks < 1∨60 < toks∨n < 1∨500 < n∨L.length < 1∨2000 < L.length∨(L.any fun p=>decide (500 < p.f1.length))=true
 ·rw [if_pos h1] at h;cases h
 rw [if_neg h1] at h
 by_cases h2:look < 1∨4 < look
 ·rw [if_pos h2] at h;cases h
 rw [if_neg h2] at h
 by_cases h3:L.any (yV toks n)=true
 ·rw [if_pos h3] at h;cases h
 exact ⟨by omega,by omega,by omega,by simpa using h3⟩
def cutP (m:Nat) (p:Prod'):Prod':=⟨p.f0,p.f1.take m⟩
theorem gfew_l0 (t l:Int) (of:List Int):∀(L:List Prod') (hL:L.length≤1000000000) (d i:Nat),i + d=L.length→
  Ev (fun k=>zh.l0 k i t l of L) (t,l,of,L.take i ++ (L.drop i).map (cutP 4)):=by
 intro L hL d
 induction d generalizing L with
 | zero=>
  intro i hi
  rw [List.drop_of_length_le (by omega),List.take_of_length_le (by omega),List.map_nil,List.append_nil]
  exact Ev.step (fun k=>by rw [zh.l0,if_neg (by omega)]) (Ev.now _)
 | succ d ih=>
  intro i hi
  have hlt:i < L.length:=by omega
  have hw:wrap64 ((i:Int) + 1)=((i + 1:Nat):Int):=by rw [yW (by omega)];rfl
  have hm:0≤mn (L[i].f1.length:Int) 4∧mn (L[i].f1.length:Int) 4≤L[i].f1.length∧L[i].f1.take (mn (L[i].f1.length:Int) 4).toNat=L[i].f1.take 4:=by
   unfold mn
   split
   ·exact ⟨by clear hw;omega,by clear hw;omega,rfl⟩
   ·refine ⟨by clear hw;omega,by clear hw;omega,?_⟩
    rw [Int.toNat_natCast,List.take_length,List.take_of_length_le (by clear hw;omega)]
  have h:=ih (L.set i (cutP 4 L[i])) (by rw [List.length_set];exact hL) (i + 1) (by rw [List.length_set];clear hw;omega)
  have e:(L.set i (cutP 4 L[i])).take (i + 1) ++ ((L.set i (cutP 4 L[i])).drop (i + 1)).map (cutP 4)=L.take i ++ (L.drop i).map (cutP 4):=by
   rw [List.drop_set_of_lt (by omega),List.take_succ_eq_append_getElem (by rw [List.length_set];exact hlt),List.getElem_set_self,List.take_set_of_le (Nat.le_refl _),List.append_assoc,List.drop_eq_getElem_cons hlt]
   rfl
  rw [e] at h
  refine Ev.step (fun k=>by rw [zh.l0,if_pos (by clear hw;omega),if_pos (by clear hw;omega),rdP hlt,if_pos hm.1,if_pos hm.2.1,hm.2.2,hw];rfl) h
theorem Few_l0 (t l t' l':Int) (of of':List Int) (L:List Prod') (m:Nat) (hm:m≤1000):∀(d i:Nat),m - i=d→i≤m→
  Ev (fun k=>zX.l0 k m i t l of L t' l' of' ((L.take i).map (cutP 8))) (t',l',of',(L.take m).map (cutP 8)):=by
 intro d
 induction d with
 | zero=>
  intro i hi hi2
  rw [show i=m by omega]
  by_cases hlt:m < L.length
  ·exact Ev.step (fun k=>by rw [zX.l0,if_pos (by omega),if_neg (by omega)]) (Ev.now _)
  ·exact Ev.step (fun k=>by rw [zX.l0,if_neg (by omega)]) (Ev.now _)
 | succ d ih=>
  intro i hi hi2
  by_cases hlt:i < L.length
  ·have hw:wrap64 ((i:Int) + 1)=((i + 1:Nat):Int):=by rw [yW (by omega)];rfl
   have hm:0≤mn (L[i].f1.length:Int) 8∧mn (L[i].f1.length:Int) 8≤L[i].f1.length∧L[i].f1.take (mn (L[i].f1.length:Int) 8).toNat=L[i].f1.take 8:=by
    unfold mn
    split
    ·exact ⟨by clear hw;omega,by clear hw;omega,rfl⟩
    ·refine ⟨by clear hw;omega,by clear hw;omega,?_⟩
     rw [Int.toNat_natCast,List.take_length,List.take_of_length_le (by clear hw;omega)]
   have h:=ih (i + 1) (by clear hw;omega) (by clear hw;omega)
   rw [List.take_succ_eq_append_getElem hlt,List.map_append] at h
   refine Ev.step (fun k=>by rw [zX.l0,if_pos (by clear hw;omega),if_pos (by clear hw;omega),if_pos (by clear hw;omega),rdP hlt,Option.bind_some,if_pos hm.1,if_pos hm.2.1,hm.2.2,Option.bind_some,if_pos (by simp;clear hw;omega),if_pos (by simp;clear hw;omega),hw];rfl) h
  ·rw [List.take_of_length_le (by omega),List.take_of_length_le (by omega)]
   exact Ev.step (fun k=>by rw [zX.l0,if_neg (by omega)]) (Ev.now _)
def fewL (L:List Prod'):List Prod':=(L.take 14).map (cutP 4)
theorem take_mn {α:Type} (l:List α) (n:Nat):(0≤mn (l.length:Int) n∧mn (l.length:Int) n≤l.length)∧l.take (mn (l.length:Int) n).toNat=l.take n:=by
 unfold mn
 split
 ·exact ⟨⟨by omega,by omega⟩,rfl⟩
 ·refine ⟨⟨by omega,by omega⟩,?_⟩
  rw [Int.toNat_natCast,List.take_length,List.take_of_length_le (by omega)]
theorem gfew_ev (t l:Int) (of:List Int) (L:List Prod'):Ev (fun k=>zh.f k t l of L) (t,l,of.take 8,fewL L):=by
 have h1:=Few_l0 t l t l of (of.take 8) L 14 (by omega) 14 0 rfl (by omega)
 have h2:=gfew_l0 t l (of.take 8) ((L.take 14).map (cutP 8)) (by simp;omega) _ 0 (Nat.zero_add _)
 rw [List.take_zero,List.drop_zero,List.nil_append,List.map_map] at h2
 rw [show cutP 4 ∘ cutP 8=cutP 4 from funext fun p=>by unfold cutP;simp [List.take_take]] at h2
 obtain ⟨hm,he⟩:=take_mn of 8
 unfold zh.f zX.f yY.f
 refine Ev.bind (Ev.ite_pos hm.1 (Ev.ite_pos hm.2 (Ev.bind0 (a:=of.take 8) ?_ h1))) h2
 erw [he]
 rw [Option.bind_some,if_pos (by simp;omega)]
 rfl
theorem fewL_le (L:List Prod'):(fewL L).length≤14∧∀p ∈ fewL L,p.f1.length≤4:=by
 unfold fewL
 refine ⟨by simp;omega,fun p hp=> ?_⟩
 obtain ⟨q,-,rfl⟩:=List.mem_map.1 hp
 unfold cutP
 simp;omega
def catA (K:Nat) (a b:List ByteArray):List ByteArray:=setP (a.flatMap fun x=>b.map (tc K x))
theorem tc_le (K:Nat) (x y:ByteArray):(tc K x y).size≤K:=by
 rw [←yk]
 unfold tc
 simp only [List.toList_toArray,List.length_take]
 omega
theorem qF {K:Nat} {a b:List ByteArray} {z:ByteArray} :z ∈ catA K a b↔∃x ∈ a,∃y ∈ b,tc K x y=z:=by
 unfold catA
 rw [ZJ,Zd,List.mem_flatMap]
 constructor
 ·rintro ⟨x,hx,h⟩
  obtain ⟨y,hy,h⟩:=List.mem_map.1 h
  exact ⟨x,hx,y,hy,h⟩
 ·rintro ⟨x,hx,y,hy,h⟩
  exact ⟨x,hx,List.mem_map.2 ⟨y,hy,h⟩⟩
theorem Za {K:Nat} (hK:K≤4) (a b:List ByteArray):∀x ∈ catA K a b,x.size≤4:=by
 intro x hx
 obtain ⟨y,hy,z,hz,rfl⟩:=qF.1 hx
 exact Nat.le_trans (tc_le _ _ _) hK
theorem K_le {look:Int} (hlook:1≤look∧look≤4):(mx look 0).toNat≤4:=by unfold mx;split <;> omega
theorem qG {look:Int} (hlook:1≤look∧look≤4) (a b:List ByteArray) (ha:Zl 600 a) (hb:Zl 600 b):Ev (fun k=>zi.f k a b look) (catA (mx look 0).toNat a b):=by
 have h:=cat_ev b look (by omega) (by have:=hb.1;omega) (fun y hy=>by have:=hb.2 y hy;omega) a (by have:=ha.1;omega) (fun x hx=>by have:=ha.2 x hx;omega)
 unfold catA
 rw [ZJ,qz (b:=a.flatMap (Zk (mx look 0).toNat b)) fun z=> ?_]
 ·exact h
 ·rw [←YB (l:=a.flatMap (Zk _ b)),mem_row]
  simp only [List.mem_flatMap,List.mem_map]
  constructor
  ·rintro ⟨x,hx,y,hy,rfl⟩;exact ⟨x,hx,y,hy,rfl⟩
  ·rintro ⟨x,hx,y,hy,h⟩;exact ⟨x,hx,y,hy,(Ya h).symm⟩
def ofA (toks look:Int) (n:Nat) (L:List Prod'):Sets × Int:=
 if mayE toks look n L=0 then (match Zt (catA (mx look 0).toNat) 600 L (600 * n + 1) (List.replicate n []) with|none=>([],15)|some s=>(s,0)) else ([],mayE toks look n L)
theorem Zw (M n:Nat):yR M (List.replicate n []):=by
 intro a ha
 rw [(List.mem_replicate.1 ha).2]
 exact ⟨⟨Nat.zero_le _,fun x hx=>nomatch hx⟩,setT_nil⟩
theorem of_loop (toks:Int) {look:Int} (h3:1≤look∧look≤4) (of:List Int) (L:List Prod') (h4:L.any (yV toks of.length)=false) (hl:∀p ∈ L,p.f1.length≤1000000) :
  (∃N,∀k,N≤k→∀q,N≤q→zW.loop (fun a b=>zi.f k a b look) 600 L q (List.replicate of.length [])=some (Zt (catA (mx look 0).toNat) 600 L (600 * of.length + 1) (List.replicate of.length [])))∧
  ∀s,Zt (catA (mx look 0).toNat) 600 L (600 * of.length + 1) (List.replicate of.length [])=some s→yR 600 s∧s.length=of.length:=
 loop_ev (C:=catA (mx look 0).toNat) (M:=600) (Za (K_le h3)) (by omega) (fun k a b=>zi.f k a b look) (fun a b=>qG h3 a b) (by omega) toks of L h4 hl (600 * of.length + 1) (List.replicate of.length []) (Zw _ _) (List.length_replicate ..) (by omega)
theorem of_ev (toks look:Int) (of:List Int) (L:List Prod') (hl:∀p ∈ L,p.f1.length≤1000000) (hL:L.length≤1000000):Ev (fun k=>zW.f k toks look of L) (ofA toks look of.length L):=by
 unfold zW.f zW.grow ofA
 refine Ev.bind (may_ev toks look of L (by omega) (fun p hp=>by have:=hl p hp;omega)) ?_
 by_cases h0:mayE toks look of.length L=0
 ·obtain ⟨h1,h2,h3,h4⟩:=ZF h0
  rw [if_pos h0]
  obtain ⟨⟨N,hN⟩,-⟩:=of_loop toks h3 of L h4 hl
  refine Ev.ite_pos h0 (Ev.ite_pos ⟨by omega,by omega,by omega⟩ (Ev.bind (a:=Zt (catA (mx look 0).toNat) 600 L (600 * of.length + 1) (List.replicate of.length [])) ⟨N,fun k hk=>hN k hk k hk⟩ ?_))
  cases Zt (catA (mx look 0).toNat) 600 L (600 * of.length + 1) (List.replicate of.length []) with
  | none=>exact Ev.now _
  | some s=>exact Ev.now _
 ·rw [if_neg h0]
  exact Ev.ite_neg h0 (Ev.now _)
def symS (sets:Sets) (s:Sym):List ByteArray:=if s.f0=true then [strOfNums [s.f1 % 256]] else ze sets s.f1
theorem roundG_more {C:CatF} {M:Nat} :∀(ps:List Prod') (sets:Sets),(yl C M ps sets true).2.2=true→(yl C M ps sets true).2.1=true:=by
 intro ps
 induction ps with
 | nil=>intro sets _;rfl
 | cons p ps ih=>
  intro sets h
  unfold yl at h⊢
  generalize (rowG C M sets p.f1 [(⟨#[]⟩:ByteArray)])=x at h⊢
  by_cases h1:x.2=false
  ·rw [if_pos h1] at h;cases h
  rw [if_neg h1] at h⊢
  by_cases h2:M < (setP (ze sets p.f0 ++ x.1)).length
  ·rw [if_pos h2] at h;cases h
  rw [if_neg h2] at h⊢
  rw [Bool.true_or] at h⊢
  exact ih _ h
def Fix (C:CatF) (M:Nat) (L:List Prod') (S:Sets):Prop:=∀p ∈ L,(rowG C M S p.f1 [(⟨#[]⟩:ByteArray)]).2=true∧∀x ∈ (rowG C M S p.f1 [(⟨#[]⟩:ByteArray)]).1,x ∈ ze S p.f0
theorem roundG_fix {C:CatF} {M:Nat} {toks:Int} {n:Nat} :∀(ps:List Prod') (S:Sets),yR M S→S.length=n→ps.any (yV toks n)=false→(yl C M ps S false).2.2=true→(yl C M ps S false).2.1=false→(yl C M ps S false).1=S∧Fix C M ps S:=by
 intro ps
 induction ps with
 | nil=>intro S _ _ _ _ _;exact ⟨rfl,fun p hp=>nomatch hp⟩
 | cons p ps ih=>
  intro S hS hn hb h3 h4
  rw [List.any_cons,Bool.or_eq_false_iff] at hb
  obtain ⟨hp,-⟩:=Zi hb.1
  rw [←hn] at hp
  unfold yl at h3 h4⊢
  have e:rowG C M S p.f1 [(⟨#[]⟩:ByteArray)]=rowG C M S p.f1 [(⟨#[]⟩:ByteArray)]:=rfl
  generalize hx:(rowG C M S p.f1 [(⟨#[]⟩:ByteArray)])=x at h3 h4⊢
  by_cases h1:x.2=false
  ·rw [if_pos h1] at h3;cases h3
  rw [if_neg h1] at h3 h4⊢
  by_cases h2:M < (setP (ze S p.f0 ++ x.1)).length
  ·rw [if_pos h2] at h3;cases h3
  rw [if_neg h2] at h3 h4⊢
  obtain ⟨-,hg⟩:=YU hS hp x.1
  by_cases c:(ze S p.f0).length < (setP (ze S p.f0 ++ x.1)).length
  ·rw [decide_eq_true c,Bool.or_true] at h3 h4
   rw [roundG_more _ _ h3] at h4;cases h4
  ·have he:=hg (Nat.not_lt.1 c)
   have hse:S.set p.f0.toNat (setP (ze S p.f0 ++ x.1))=S:=by
    rw [←he,rd_at hp]
    exact List.set_getElem_self _
   rw [decide_eq_false c,Bool.or_false,hse] at h3 h4⊢
   obtain ⟨i1,i2⟩:=ih S hS hn hb.2 h3 h4
   refine ⟨i1,fun q hq=> ?_⟩
   rcases List.mem_cons.1 hq with rfl|hq
   ·rw [hx]
    refine ⟨by simpa using h1,fun z hz=> ?_⟩
    rw [he,ZJ,Zd]
    exact List.mem_append_right _ hz
   ·exact i2 q hq
theorem loopG_fix {C:CatF} {M:Nat} (hC:∀a b,∀x ∈ C a b,x.size≤4) (hM:1≤M) {toks:Int} {n:Nat} {L:List Prod'} (hb:L.any (yV toks n)=false):∀(m:Nat) (S s:Sets),yR M S→S.length=n→Zt C M L m S=some s→Fix C M L s∧yR M s∧s.length=n:=by
 intro m
 induction m with
 | zero=>intro S s _ _ h;cases h
 | succ m ih=>
  intro S s hS hn h
  obtain ⟨g1,g2,-,-⟩:=Yb hC hM L S false hS hn hb
  have hf:=roundG_fix (C:=C) L S hS hn hb
  unfold Zt at h
  generalize yl C M L S false=x at h g1 g2 hf
  by_cases h1:x.2.2=false
  ·rw [if_pos h1] at h;cases h
  rw [if_neg h1] at h
  by_cases h2:x.2.1=false
  ·rw [if_pos h2] at h
   obtain ⟨e,hF⟩:=hf (by simpa using h1) h2
   obtain rfl:=Option.some.inj h
   rw [e]
   exact ⟨hF,hS,hn⟩
  ·rw [if_neg h2] at h
   exact ih _ _ g1 g2 h
theorem rd_set {S:Sets} {p i:Int} (hp:0≤p∧p < S.length) (hi:0≤i∧i < S.length) (j:List ByteArray):ze (S.set p.toNat j) i=if i=p then j else ze S i:=by
 rw [rd_at (by rw [List.length_set];exact hi),List.getElem_set]
 by_cases h:i=p
 ·rw [if_pos h,if_pos (by rw [h])]
 ·rw [if_neg h,if_neg (by omega),←rd_at hi]
theorem flat_len {α β:Type} (l:List α) (f:α→List β) (m:Nat) (h:∀x,(f x).length≤m):(l.flatMap f).length≤m * l.length:=by
 induction l with
 | nil=>simp
 | cons x l ih=>
  have:=h x
  rw [List.flatMap_cons,List.length_append,List.length_cons,Nat.mul_succ]
  omega
abbrev Lk:=S80
def YN (K:Nat) (F:Sets) (left:Int):List Sym→Option (List Lk)
 | []=>some []
 | s :: l=>if s.f0=true then YN K F left l else if (rowG (catA K) 600 F l [(⟨#[]⟩:ByteArray)]).2=true then (YN K F left l).map fun a=>⟨s.f1,left,(rowG (catA K) 600 F l [(⟨#[]⟩:ByteArray)]).1⟩ :: a else none
def YC (K:Nat) (F:Sets):List Prod'→Option (List Lk)
 | []=>some []
 | p :: ps=>(YN K F p.f0 p.f1).bind fun a=>(YC K F ps).map fun b=>a ++ b
def Yv (n:Nat) (x:Lk):Prop:=(0≤x.f0∧x.f0 < (n:Int))∧(0≤x.f1∧x.f1 < (n:Int))∧Zl 600 x.f2
theorem qe {K:Nat} (hK:K≤4) {F:Sets} {toks:Int} {n:Nat} {left:Int} (hleft:0≤left∧left < (n:Int)):∀(l:List Sym),l.any (ZA toks n)=false→∀a,YN K F left l=some a→(∀x ∈ a,Yv n x)∧a.length≤l.length:=by
 intro l
 induction l with
 | nil=>intro _ a h;obtain rfl:=Option.some.inj h;exact ⟨fun x hx=>(nomatch hx),Nat.le_refl _⟩
 | cons s l ih=>
  intro hb a h
  rw [List.any_cons,Bool.or_eq_false_iff] at hb
  unfold YN at h
  by_cases h0:s.f0=true
  ·rw [if_pos h0] at h
   obtain ⟨i1,i2⟩:=ih hb.2 a h
   exact ⟨i1,by simp;omega⟩
  ·rw [if_neg h0] at h
   by_cases h1:(rowG (catA K) 600 F l [(⟨#[]⟩:ByteArray)]).2=true
   ·rw [if_pos h1] at h
    obtain ⟨b,hb2,rfl⟩:=Option.map_eq_some_iff.1 h
    obtain ⟨i1,i2⟩:=ih hb.2 b hb2
    refine ⟨fun x hx=> ?_,by simp;omega⟩
    rcases List.mem_cons.1 hx with rfl|hx
    ·have hs:=hb.1
     unfold ZA at hs
     rw [if_neg h0] at hs
     exact ⟨by simpa using hs,hleft,YQ (M:=600) (Za hK) F l _ (ZY (M:=600) (by omega))⟩
    ·exact i1 x hx
   ·rw [if_neg h1] at h;cases h
theorem Yc {K:Nat} (hK:K≤4) {F:Sets} {toks:Int} {n B:Nat} :∀(L:List Prod'),L.any (yV toks n)=false→(∀p ∈ L,p.f1.length≤B)→∀xs,YC K F L=some xs→(∀x ∈ xs,Yv n x)∧xs.length≤B * L.length:=by
 intro L
 induction L with
 | nil=>intro _ _ xs h;obtain rfl:=Option.some.inj h;exact ⟨fun x hx=>(nomatch hx),Nat.zero_le _⟩
 | cons p ps ih=>
  intro hb hl xs h
  rw [List.any_cons,Bool.or_eq_false_iff] at hb
  obtain ⟨a,ha,h⟩:=Option.bind_eq_some_iff.1 h
  obtain ⟨b,hb2,rfl⟩:=Option.map_eq_some_iff.1 h
  obtain ⟨hp,hr⟩:=Zi hb.1
  obtain ⟨i1,i2⟩:=qe hK hp p.f1 hr a ha
  obtain ⟨j1,j2⟩:=ih hb.2 (fun q hq=>hl q (List.mem_cons_of_mem _ hq)) b hb2
  have:=hl p List.mem_cons_self
  refine ⟨fun x hx=> ?_,by rw [List.length_append,List.length_cons,Nat.mul_succ];omega⟩
  rcases List.mem_append.1 hx with hx|hx
  ·exact i1 x hx
  ·exact j1 x hx
theorem any_drop {l:List Sym} {f:Sym→Bool} (h:l.any f=false) (i:Nat):(l.drop i).any f=false:=by
 cases hh:(l.drop i).any f
 ·rfl
 ·obtain ⟨x,hx,hf⟩:=List.any_eq_true.1 hh
  rw [List.any_eq_true.2 ⟨x,List.mem_of_mem_drop hx,hf⟩] at h;cases h
section
variable (toks look : Int) (hlook : 1 ≤ look ∧ look ≤ 4)
include hlook
theorem rower_ev {F:Sets} (hS:yR 600 F) (l:List Sym) (hl:l.length≤1000000000) (hb:l.any (ZA toks F.length)=false):∀(d i:Nat) (out:List ByteArray),i + d=l.length→Zl 600 out→
  Ev (fun k=>zg.l0 k out l l.length i look F) (rowG (catA (mx look 0).toNat) 600 F (l.drop i) out):=by
 intro d
 induction d with
 | zero=>
  intro i out hi _
  rw [List.drop_of_length_le (by omega)]
  exact Ev.step (fun k=>by rw [zg.l0,if_neg (by omega)];rfl) (Ev.now _)
 | succ d ih=>
  intro i out hi ho
  have hlt:i < l.length:=by omega
  have hw:wrap64 ((i:Int) + 1)=((i + 1:Nat):Int):=by rw [yW (by omega)];rfl
  have hbs:ZA toks F.length l[i]=false:=by
   cases hh:ZA toks F.length l[i]
   ·rfl
   ·rw [List.any_eq_true.2 ⟨l[i],List.getElem_mem _,hh⟩] at hb;cases hb
  obtain ⟨hg,hn⟩:=sym_good (M:=600) (by omega) hS hbs
  have hc:=qG hlook out _ ho hg
  rw [List.drop_eq_getElem_cons hlt]
  unfold rowG
  refine Ev.step (fun k=>by rw [zg.l0,if_pos (by clear hw;omega),if_pos (by clear hw;omega),if_pos (by clear hw;omega),rdS hlt,hw]) ?_
  have done:∀t,t=catA (mx look 0).toNat out (if l[i].f0=true then [strOfNums [l[i].f1 % 256]] else ze F l[i].f1)→Ev (fun k=>if (t.length:Int) > 600 then some (([]:List ByteArray),false) else zg.l0 k t l l.length ((i + 1:Nat):Int) look F) (if 600 < t.length then ([],false) else rowG (catA (mx look 0).toNat) 600 F (l.drop (i + 1)) t):=by
   intro t ht
   by_cases h:600 < t.length
   ·rw [if_pos h];exact Ev.ite_pos (by clear hw;omega) (Ev.now _)
   ·rw [if_neg h];exact Ev.ite_neg (by clear hw;omega) (ih _ _ (by clear hw;omega) ⟨by clear hw;omega,by rw [ht];exact Za (K_le hlook) _ _⟩)
  cases h:l[i].f0
  ·simp only [h] at done hc⊢
   simp only [if_neg Bool.false_ne_true] at done hc⊢
   obtain ⟨h1,h2⟩:=hn h
   exact Ev.ite_pos h1 (Ev.ite_pos h2 (Ev.bind hc (done _ rfl)))
  ·simp only [h] at done hc⊢
   simp only [if_true] at done hc⊢
   exact Ev.bind hc (done _ rfl)
theorem links_l1 {F:Sets} (hS:yR 600 F) (L:List Prod') (i left:Int) (r:List Sym) (hr:r.length≤1000000) (hb:r.any (ZA toks F.length)=false) (res:List Lk × Int):∀(d j:Nat) (acc:List Lk),j + d=r.length→acc.length + d≤1000000000000→
  (YN (mx look 0).toNat F left (r.drop j)=none→res=([],15))→(∀a,YN (mx look 0).toNat F left (r.drop j)=some a→Ev (fun k=>zj.l0 k (acc ++ a) L L.length (wrap64 (i + 1)) look F) res)→
  Ev (fun k=>zj.l1 k acc L L.length i r r.length j look F left r) res:=by
 intro d
 induction d with
 | zero=>
  intro j acc hj _ _ h2
  rw [List.drop_of_length_le (by omega)] at h2
  have:=h2 [] rfl
  rw [List.append_nil] at this
  exact Ev.step (fun k=>by rw [zj.l1,if_neg (by omega)]) this
 | succ d ih=>
  intro j acc hj ha h1 h2
  have hlt:j < r.length:=by omega
  have hw:wrap64 ((j:Int) + 1)=((j + 1:Nat):Int):=by rw [yW (by omega)];rfl
  rw [List.drop_eq_getElem_cons hlt] at h1 h2
  unfold YN at h1 h2
  refine Ev.step (fun k=>by rw [zj.l1,if_pos (by clear hw;omega),if_pos (by clear hw;omega),if_pos (by clear hw;omega),rdS hlt,hw]) ?_
  by_cases h0:r[j].f0=true
  ·rw [if_pos h0] at h1 h2
   exact Ev.ite_pos h0 (ih (j + 1) acc (by clear hw;omega) (by clear hw;omega) h1 h2)
  ·rw [if_neg h0] at h1 h2
   have hrow:=rower_ev toks look hlook hS (r.drop (j + 1)) (by rw [List.length_drop];clear hw;omega) (any_drop hb (j + 1)) (r.drop (j + 1)).length 0 _ (by clear hw;omega) (ZY (M:=600) (by omega))
   rw [List.drop_zero] at hrow
   have ht:(((j + 1:Nat):Int)).toNat=j + 1:=rfl
   refine Ev.ite_neg h0 (Ev.ite_pos (by clear hw;omega) (Ev.ite_pos (by clear hw;omega) (Ev.bind (by unfold zg.f;rw [ht];exact hrow) ?_)))
   generalize (rowG (catA (mx look 0).toNat) 600 F (r.drop (j + 1)) [(⟨#[]⟩:ByteArray)])=x at h1 h2⊢
   by_cases hx:x.2=true
   ·rw [if_pos hx] at h1 h2
    refine Ev.ite_pos hx (Ev.ite_pos (by clear hw;omega) (ih (j + 1) _ (by clear hw;omega) (by rw [List.length_append];simp;clear hw;omega) (fun h=>h1 (by rw [h];rfl)) (fun a ha2=> ?_)))
    have:=h2 _ (by rw [ha2];rfl)
    rw [List.append_assoc]
    exact this
   ·rw [if_neg hx] at h1
    rw [h1 rfl]
    exact Ev.ite_neg hx (Ev.now _)
theorem links_l0 {F:Sets} (hS:yR 600 F) (L:List Prod') (hL:L.length≤1000000) (hb:L.any (yV toks F.length)=false) (hl:∀p ∈ L,p.f1.length≤1000000) (res:List Lk × Int):∀(d i:Nat) (acc:List Lk),i + d=L.length→acc.length≤1000000 * i→
  (YC (mx look 0).toNat F (L.drop i)=none→res=([],15))→(∀a,YC (mx look 0).toNat F (L.drop i)=some a→res=(acc ++ a,0))→
  Ev (fun k=>zj.l0 k acc L L.length i look F) res:=by
 intro d
 induction d with
 | zero=>
  intro i acc hi _ _ h2
  rw [List.drop_of_length_le (by omega)] at h2
  have:=h2 [] rfl
  rw [List.append_nil] at this
  rw [this]
  exact Ev.step (fun k=>by rw [zj.l0,if_neg (by omega)]) (Ev.now _)
 | succ d ih=>
  intro i acc hi ha h1 h2
  have hlt:i < L.length:=by omega
  have hw:wrap64 ((i:Int) + 1)=((i + 1:Nat):Int):=by rw [yW (by omega)];rfl
  have hbp:yV toks F.length L[i]=false:=by
   cases hh:yV toks F.length L[i]
   ·rfl
   ·rw [List.any_eq_true.2 ⟨L[i],List.getElem_mem _,hh⟩] at hb;cases hb
  obtain ⟨hp,hr⟩:=Zi hbp
  have hll:=hl _ (List.getElem_mem hlt)
  rw [List.drop_eq_getElem_cons hlt] at h1 h2
  unfold YC at h1 h2
  refine Ev.step (fun k=>by rw [zj.l0,if_pos (by clear hw;omega),if_pos (by clear hw;omega),if_pos (by clear hw;omega),rdP hlt]) ?_
  refine links_l1 toks look hlook hS L i L[i].f0 L[i].f1 hll hr res L[i].f1.length 0 acc (by clear hw;omega) (by clear hw;omega) (fun h=>h1 ?_) (fun a ha2=> ?_)
  ·rw [List.drop_zero] at h;rw [h];rfl
  ·rw [List.drop_zero] at ha2
   rw [hw]
   have hal:=(qe (K_le hlook) hp L[i].f1 hr a ha2).2
   refine ih (i + 1) (acc ++ a) (by clear hw;omega) (by rw [List.length_append];clear hw;omega) (fun h=>h1 ?_) (fun b hb2=> ?_)
   ·rw [ha2,Option.bind_some,h];rfl
   ·rw [h2 (a ++ b) (by rw [ha2,Option.bind_some,hb2];rfl),List.append_assoc]
end
def yX (K:Nat):List Lk→Sets→Bool→Sets × Bool × Bool
 | [],sets,more=>(sets,more,true)
 | x :: xs,sets,more=>if 600 < (setP (ze sets x.f0 ++ catA K x.f2 (ze sets x.f1))).length then (sets,false,false) else yX K xs (sets.set x.f0.toNat (setP (ze sets x.f0 ++ catA K x.f2 (ze sets x.f1)))) (more || decide ((ze sets x.f0).length < (setP (ze sets x.f0 ++ catA K x.f2 (ze sets x.f1))).length))
def YD (K:Nat) (xs:List Lk):Nat→Sets→Option Sets
 | 0,_=>none
 | m + 1,sets=>if (yX K xs sets false).2.2=false then none else if (yX K xs sets false).2.1=false then some (yX K xs sets false).1 else YD K xs m (yX K xs sets false).1
theorem Yn {K:Nat} (hK:K≤4) {sets:Sets} {n:Nat} (hS:yR 600 sets) (hn:sets.length=n) {x:Lk} (hx:Yv n x) (hl:(setP (ze sets x.f0 ++ catA K x.f2 (ze sets x.f1))).length≤600) :
  Zl 600 (setP (ze sets x.f0 ++ catA K x.f2 (ze sets x.f1)))∧setT (setP (ze sets x.f0 ++ catA K x.f2 (ze sets x.f1)))=setP (ze sets x.f0 ++ catA K x.f2 (ze sets x.f1)):=by
 refine ⟨⟨hl,fun y hy=> ?_⟩,by rw [ZJ,Ym]⟩
 rw [ZJ,Zd,List.mem_append] at hy
 rcases hy with hy|hy
 ·exact (hS _ (ZC (by rw [hn];exact hx.1))).1.2 y hy
 ·exact Za hK _ _ y hy
theorem qH {K:Nat} (hK:K≤4) {n:Nat} :∀(xs:List Lk) (sets:Sets) (more:Bool),(∀x ∈ xs,Yv n x)→yR 600 sets→sets.length=n→
  yR 600 (yX K xs sets more).1∧(yX K xs sets more).1.length=n∧Zu sets≤Zu (yX K xs sets more).1∧(more=false→(yX K xs sets more).2.1=true→Zu sets < Zu (yX K xs sets more).1):=by
 intro xs
 induction xs with
 | nil=>intro sets more _ hS hn;exact ⟨hS,hn,Nat.le_refl _,fun h1 h2=>by rw [show (yX K [] sets more).2.1=more from rfl,h1] at h2;cases h2⟩
 | cons x xs ih=>
  intro sets more hx hS hn
  have hx0:=hx x List.mem_cons_self
  have hp:0≤x.f0∧x.f0 < (sets.length:Int):=by rw [hn];exact hx0.1
  have hj:=Yn hK hS hn hx0
  obtain ⟨hg,-⟩:=YU hS hp (catA K x.f2 (ze sets x.f1))
  unfold yX
  generalize setP (ze sets x.f0 ++ catA K x.f2 (ze sets x.f1))=j at hj hg⊢
  by_cases h:600 < j.length
  ·rw [if_pos h];exact ⟨hS,hn,Nat.le_refl _,fun _ h2=>by cases h2⟩
  rw [if_neg h]
  obtain ⟨hj1,hj2⟩:=hj (by omega)
  have ht:=total_set sets x.f0.toNat (by omega) j
  rw [←rd_at hp] at ht
  obtain ⟨i1,i2,i3,i4⟩:=ih (sets.set x.f0.toNat j) (more || decide ((ze sets x.f0).length < j.length)) (fun y hy=>hx y (List.mem_cons_of_mem _ hy)) (Zg hS _ hj1 hj2) (by rw [List.length_set];exact hn)
  refine ⟨i1,i2,by omega,fun hm hm2=> ?_⟩
  by_cases h3:(ze sets x.f0).length < j.length
  ·omega
  ·have:=i4 (by rw [hm,decide_eq_false h3];rfl) hm2
   omega
section
variable (toks look : Int) (of : List Int) (hlook : 1 ≤ look ∧ look ≤ 4)
include hlook
theorem fround_ev:∀(xs:List Lk) (sets:Sets) (more:Bool),(∀x ∈ xs,Yv of.length x)→yR 600 sets→sets.length=of.length→
  Ev (fun k=>zw.round k look xs sets more) (if (yX (mx look 0).toNat xs sets more).2.2=true then yX (mx look 0).toNat xs sets more else ([],false,false)):=by
 intro xs
 induction xs with
 | nil=>intro sets more _ _ _;exact Ev.now _
 | cons x xs ih=>
  intro sets more hx hS hn
  have hx0:=hx x List.mem_cons_self
  have hp:0≤x.f0∧x.f0 < (sets.length:Int):=by rw [hn];exact hx0.1
  have hp1:0≤x.f1∧x.f1 < (sets.length:Int):=by rw [hn];exact hx0.2.1
  have hj:=Yn (K_le hlook) hS hn hx0
  have hc:=qG hlook x.f2 (ze sets x.f1) hx0.2.2 (hS _ (ZC hp1)).1
  have hjs:∀c:List ByteArray,c.length≤360000→yZ.f (ze sets x.f0) c=some (setP (ze sets x.f0 ++ c)):=fun c hcl=>by
   rw [ZJ];exact join_some _ _ (by have:=(hS _ (ZC hp)).1.1;omega) (by omega)
  have hcl:(catA (mx look 0).toNat x.f2 (ze sets x.f1)).length≤360000:=by
   have h1:=hx0.2.2.1
   have h2:=(hS _ (ZC hp1)).1.1
   unfold catA
   rw [ZJ]
   refine Nat.le_trans (setT_length _) (Nat.le_trans (flat_len _ _ 600 (fun y=>by rw [List.length_map];exact h2)) ?_)
   exact Nat.le_trans (Nat.mul_le_mul_left 600 h1) (by omega)
  unfold yX
  refine Ev.congr (fun k=>by rw [zw.round]) (Ev.ite_pos (And.intro hp hp1) (Ev.bind hc (Ev.bind0 (hjs _ hcl) ?_)))
  generalize setP (ze sets x.f0 ++ catA (mx look 0).toNat x.f2 (ze sets x.f1))=j at hj⊢
  by_cases h:600 < j.length
  ·simp only [if_pos h]
   exact Ev.ite_neg (by omega) (Ev.now _)
  ·simp only [if_neg h]
   obtain ⟨hj1,hj2⟩:=hj (by omega)
   exact Ev.ite_pos (by omega) (ih _ _ (fun y hy=>hx y (List.mem_cons_of_mem _ hy)) (Zg hS _ hj1 hj2) (by rw [List.length_set];exact hn))
theorem floop_ev (xs:List Lk) (hx:∀x ∈ xs,Yv of.length x):∀(m:Nat) (sets:Sets),yR 600 sets→sets.length=of.length→600 * of.length - Zu sets < m→
  (∃N,∀k,N≤k→∀q,N≤q→zw.loop k look xs q sets=some (YD (mx look 0).toNat xs m sets))∧∀s,YD (mx look 0).toNat xs m sets=some s→yR 600 s∧s.length=of.length:=by
 intro m
 induction m with
 | zero=>intro sets _ _ h;omega
 | succ m ih=>
  intro sets hS hn hm
  obtain ⟨g1,g2,g3,g4⟩:=qH (K_le hlook) xs sets false hx hS hn
  obtain ⟨N,hN⟩:=fround_ev look of hlook xs sets false hx hS hn
  replace hN:∀k,N≤k→zw.round k look xs sets false=some (if (yX (mx look 0).toNat xs sets false).2.2=true then yX (mx look 0).toNat xs sets false else ([],false,false)):=hN
  unfold YD
  generalize yX (mx look 0).toNat xs sets false=x at g1 g2 g3 g4 hN⊢
  by_cases h1:x.2.2=false
  ·rw [if_pos h1]
   refine ⟨⟨N + 1,fun k hk q hq=> ?_⟩,fun s h=>by cases h⟩
   obtain ⟨q,rfl⟩:∃q',q=q' + 1:=⟨q - 1,by omega⟩
   rw [zw.loop,hN k (by omega),Option.bind_some,if_neg (show ¬x.2.2=true by rw [h1];simp),if_pos rfl]
  rw [if_neg h1]
  have h1':x.2.2=true:=by simpa using h1
  by_cases h2:x.2.1=false
  ·rw [if_pos h2]
   refine ⟨⟨N + 1,fun k hk q hq=> ?_⟩,fun s h=>by cases h;exact ⟨g1,g2⟩⟩
   obtain ⟨q,rfl⟩:∃q',q=q' + 1:=⟨q - 1,by omega⟩
   rw [zw.loop,hN k (by omega),Option.bind_some,if_pos h1',if_neg h1,if_pos h2]
  rw [if_neg h2]
  have g5:=g4 rfl (by simpa using h2)
  have g6:=total_le g1
  rw [g2] at g6
  obtain ⟨⟨M',hM'⟩,i3⟩:=ih x.1 g1 g2 (by omega)
  refine ⟨⟨N + M' + 1,fun k hk q hq=> ?_⟩,i3⟩
  obtain ⟨q,rfl⟩:∃q',q=q' + 1:=⟨q - 1,by omega⟩
  rw [zw.loop,hN k (by omega),Option.bind_some,if_pos h1',if_neg h1,if_neg h2]
  exact hM' k (by omega) q (by omega)
end
def zeroT (n:Nat):ByteArray:=⟨(List.replicate n (0:UInt8)).toArray⟩
theorem zeroT_size (n:Nat):(zeroT n).size=n:=by
 rw [←yk];unfold zeroT;simp
theorem qf:∀n,Lib.repeatL [(0:UInt8)] n=List.replicate n 0
 | 0=>rfl
 | n + 1=>by rw [Lib.repeatL,qf n,List.replicate_succ];rfl
theorem repeat_some (look:Int) (hlook:1≤look∧look≤4):strings_Repeat.f (⟨#[0]⟩:ByteArray) look=some (zeroT look.toNat):=by
 unfold strings_Repeat.f
 rw [if_pos ⟨by omega,by omega,by decide⟩]
 unfold zeroT
 rw [show ((⟨#[0]⟩:ByteArray).data.toList)= [0] from rfl,qf]
def YW (look:Int) (n:Nat):Sets:=(List.replicate n []).set 0 [zeroT look.toNat]
theorem setT_one (x:ByteArray):setT [x]= [x]:=by
 unfold setT
 rw [show yI [x]= [x.data.toList] from rfl,YM (List.pairwise_singleton _ _),show [x.data.toList]=yI [x] from rfl,qT]
theorem qA {look:Int} (hlook:1≤look∧look≤4) (n:Nat):yR 600 (YW look n)∧(YW look n).length=n:=by
 refine ⟨Zg (Zw 600 n) 0 ⟨by simp,fun x hx=> ?_⟩ (setT_one _),by unfold YW;rw [List.length_set,List.length_replicate]⟩
 rw [List.mem_singleton.1 hx,zeroT_size];omega
def yv (toks look:Int) (n:Nat) (L:List Prod'):Sets × Int:=
 if (ofA toks look n L).2=0 then (match YC (mx look 0).toNat (ofA toks look n L).1 L with|none=>([],15)|some xs=>match YD (mx look 0).toNat xs (600 * n + 1) (YW look n) with|none=>([],15)|some s=>(s,0)) else ([],(ofA toks look n L).2)
theorem Zj {toks look:Int} {of:List Int} {L:List Prod'} (hl:∀p ∈ L,p.f1.length≤1000000) (h:(ofA toks look of.length L).2=0):mayE toks look of.length L=0∧yR 600 (ofA toks look of.length L).1∧(ofA toks look of.length L).1.length=of.length:=by
 unfold ofA at h⊢
 by_cases h0:mayE toks look of.length L=0
 ·obtain ⟨h1,h2,h3,h4⟩:=ZF h0
  rw [if_pos h0] at h⊢
  obtain ⟨-,hG⟩:=of_loop toks h3 of L h4 hl
  refine ⟨h0,?_⟩
  cases hh:Zt (catA (mx look 0).toNat) 600 L (600 * of.length + 1) (List.replicate of.length []) with
  | none=>rw [hh] at h;cases h
  | some s=>exact hG s hh
 ·rw [if_neg h0] at h
  exact absurd h h0
theorem links_ev (toks look:Int) (of:List Int) (L:List Prod') (hl:∀p ∈ L,p.f1.length≤1000000) (hL:L.length≤1000000) :
  Ev (fun k=>zj.f k toks look of L) (if (ofA toks look of.length L).2=0 then (match YC (mx look 0).toNat (ofA toks look of.length L).1 L with|none=>([],15)|some xs=>(xs,0)) else ([],(ofA toks look of.length L).2)):=by
 have ho:=of_ev toks look of L hl hL
 have hz:=Zj (toks:=toks) (look:=look) (of:=of) hl
 unfold zj.f
 refine Ev.bind ho ?_
 generalize ofA toks look of.length L=X at hz⊢
 by_cases h0:X.2=0
 ·obtain ⟨hm,hS,hn⟩:=hz h0
  obtain ⟨h1,h2,h3,h4⟩:=ZF hm
  rw [←hn] at h4
  rw [if_pos h0]
  refine Ev.ite_pos h0 (links_l0 toks look h3 hS L (by omega) h4 hl _ L.length 0 [] (by omega) (by simp) (fun h=> ?_) (fun a h=> ?_))
  ·rw [List.drop_zero] at h;rw [h]
  ·rw [List.drop_zero] at h;rw [h];rfl
 ·rw [if_neg h0]
  exact Ev.ite_neg h0 (Ev.now _)
theorem follow_ev (toks look:Int) (of:List Int) (L:List Prod') (hl4:∀p ∈ L,p.f1.length≤400000) (hL:L.length≤1000000):Ev (fun k=>zw.f k toks look of L) (yv toks look of.length L):=by
 have hl:∀p ∈ L,p.f1.length≤1000000:=fun p hp=>Nat.le_trans (hl4 p hp) (by omega)
 have hk:=links_ev toks look of L hl hL
 have hz:=Zj (toks:=toks) (look:=look) (of:=of) hl
 unfold zw.f yv
 generalize ofA toks look of.length L=X at hz hk⊢
 by_cases h0:X.2=0
 ·obtain ⟨hm,hS,hn⟩:=hz h0
  obtain ⟨h1,h2,h3,h4⟩:=ZF hm
  rw [if_pos h0] at hk⊢
  refine Ev.bind hk ?_
  cases hh:YC (mx look 0).toNat X.1 L with
  | none=>exact Ev.ite_neg (by simp) (Ev.now _)
  | some xs=>
   dsimp only
   obtain ⟨g1,g2⟩:=Yc (K_le h3) L (n:=of.length) h4 hl4 xs hh
   obtain ⟨i1,i2⟩:=qA h3 of.length
   obtain ⟨⟨N,hN⟩,-⟩:=floop_ev look of h3 xs g1 (600 * of.length + 1) (YW look of.length) i1 i2 (by omega)
   have hlp:Ev (fun k=>zw.loop k look xs k (YW look of.length)) (YD (mx look 0).toNat xs (600 * of.length + 1) (YW look of.length)):=⟨N,fun k hk=>hN k hk k hk⟩
   refine Ev.ite_pos rfl (Ev.ite_pos ⟨by omega,by omega,?_⟩ (Ev.bind0 (repeat_some look h3) (Ev.bind hlp ?_)))
   ·show xs.length≤1000000000
    omega
   ·cases YD (mx look 0).toNat xs (600 * of.length + 1) (YW look of.length) with
    | none=>exact Ev.now _
    | some s=>exact Ev.now _
 ·rw [if_neg h0] at hk⊢
  exact Ev.bind hk (Ev.ite_neg h0 (Ev.now _))
theorem qI (toks look:Int) (of:List Int) (L:List Prod') (hl:∀p ∈ L,p.f1.length≤1000000):((yv toks look of.length L).2=0→mayE toks look of.length L=0∧yR 600 (yv toks look of.length L).1∧(yv toks look of.length L).1.length=of.length)∧((yv toks look of.length L).2≠0→(yv toks look of.length L).1= []):=by
 have hz:=Zj (toks:=toks) (look:=look) (of:=of) hl
 unfold yv
 generalize ofA toks look of.length L=X at hz⊢
 by_cases h0:X.2=0
 ·obtain ⟨hm,hS,hn⟩:=hz h0
  obtain ⟨h1,h2,h3,h4⟩:=ZF hm
  obtain ⟨i1,i2⟩:=qA h3 of.length
  rw [if_pos h0]
  cases hh:YC (mx look 0).toNat X.1 L with
  | none=>exact ⟨fun h=>(by cases h),fun _=>rfl⟩
  | some xs=>
   obtain ⟨g1,-⟩:=Yc (K_le h3) L (n:=of.length) h4 hl xs hh
   obtain ⟨-,hG⟩:=floop_ev look of h3 xs g1 (600 * of.length + 1) (YW look of.length) i1 i2 (by omega)
   dsimp only
   cases hs:YD (mx look 0).toNat xs (600 * of.length + 1) (YW look of.length) with
   | none=>exact ⟨fun h=>(by cases h),fun _=>rfl⟩
   | some s=>exact ⟨fun _=>⟨hm,hG s hs⟩,fun h=>absurd rfl h⟩
 ·rw [if_neg h0]
  exact ⟨fun h=>absurd h h0,fun _=>rfl⟩
theorem rowG_cons {C:CatF} {M:Nat} {sets:Sets} {s:Sym} {l:List Sym} {out:List ByteArray} :rowG C M sets (s :: l) out=if M < (C out (symS sets s)).length then ([],false) else rowG C M sets l (C out (symS sets s)):=rfl
theorem rowG_all {C:CatF} {M:Nat} {sets:Sets} (B:ByteArray→Prop) (hC:∀a b,(∀x ∈ a,B x)→(∀x ∈ b,B x)→∀x ∈ C a b,B x):∀(l:List Sym) (out:List ByteArray),(∀s ∈ l,∀x ∈ symS sets s,B x)→(∀x ∈ out,B x)→∀x ∈ (rowG C M sets l out).1,B x:=by
 intro l
 induction l with
 | nil=>intro out _ h;exact h
 | cons s l ih=>
  intro out hs h
  rw [rowG_cons]
  have h2:=hC out (symS sets s) h (hs s List.mem_cons_self)
  by_cases c:M < (C out (symS sets s)).length
  ·rw [if_pos c];exact fun x hx=>nomatch hx
  ·rw [if_neg c];exact ih _ (fun q hq=>hs q (List.mem_cons_of_mem _ hq)) h2
theorem YV {sets:Sets} {B:ByteArray→Prop} (h:∀a ∈ sets,∀x ∈ a,B x) (i:Nat) {j:List ByteArray} (hj:∀x ∈ j,B x):∀a ∈ sets.set i j,∀x ∈ a,B x:=by
 intro a ha
 rcases List.mem_or_eq_of_mem_set ha with h1|h1
 ·exact h a h1
 ·exact h1▸hj
theorem Yd {sets:Sets} {B:ByteArray→Prop} {n:Nat} (hn:sets.length=n) (h:∀a ∈ sets,∀x ∈ a,B x) {toks:Int} (hT:∀k:Int,1≤k→k≤toks→B (strOfNums [k % 256])) {s:Sym} (hs:ZA toks n s=false):∀x ∈ symS sets s,B x:=by
 unfold symS
 unfold ZA at hs
 cases h0:s.f0
 ·rw [h0] at hs
  have h2:0≤s.f1∧s.f1 < (n:Int):=by simpa using hs
  exact h _ (ZC (by rw [hn];exact h2))
 ·rw [h0] at hs
  have h2:1≤s.f1∧s.f1≤toks:=by simpa using hs
  intro x hx
  rw [List.mem_singleton.1 hx]
  exact hT _ h2.1 h2.2
theorem any_mem {α:Type} {l:List α} {f:α→Bool} (h:l.any f=false) {x:α} (hx:x ∈ l):f x=false:=by
 cases hh:f x
 ·rfl
 ·rw [List.any_eq_true.2 ⟨x,hx,hh⟩] at h;cases h
section
variable {C : CatF} {M : Nat} (B : ByteArray → Prop) (hC : ∀ a b, (∀ x ∈ a, B x) → (∀ x ∈ b, B x) → ∀ x ∈ C a b, B x) (hE : B (⟨#[]⟩ : ByteArray)) {toks : Int} {n : Nat} (hT : ∀ k : Int, 1 ≤ k → k ≤ toks → B (strOfNums [k % 256])) (hS4 : ∀ a b, ∀ x ∈ C a b, x.size ≤ 4) (hM : 1 ≤ M)
include hC hE hT hS4 hM
theorem roundG_all:∀(ps:List Prod') (sets:Sets) (more:Bool),yR M sets→sets.length=n→ps.any (yV toks n)=false→(∀a ∈ sets,∀x ∈ a,B x)→∀a ∈ (yl C M ps sets more).1,∀x ∈ a,B x:=by
 intro ps
 induction ps with
 | nil=>intro sets more _ _ _ h;exact h
 | cons p ps ih=>
  intro sets more hS hn hb h
  rw [List.any_cons,Bool.or_eq_false_iff] at hb
  obtain ⟨hp,hr⟩:=Zi hb.1
  rw [←hn] at hp
  have hx:=rowG_all (M:=M) (sets:=sets) B hC p.f1 [(⟨#[]⟩:ByteArray)] (fun s hs=>Yd hn h hT (any_mem hr hs)) (fun x hx=>by rw [List.mem_singleton.1 hx];exact hE)
  have hxg:=YQ hS4 sets p.f1 _ (ZY hM)
  unfold yl
  generalize rowG C M sets p.f1 [(⟨#[]⟩:ByteArray)]=x at hx hxg⊢
  by_cases h1:x.2=false
  ·rw [if_pos h1];exact h
  rw [if_neg h1]
  by_cases h2:M < (setP (ze sets p.f0 ++ x.1)).length
  ·rw [if_pos h2];exact h
  rw [if_neg h2]
  obtain ⟨hj,hf⟩:=qV hS hp hxg (Nat.not_lt.1 h2)
  refine ih _ _ (Zg hS _ hj hf) (by rw [List.length_set];exact hn) hb.2 (YV h _ fun y hy=> ?_)
  rw [ZJ,Zd,List.mem_append] at hy
  rcases hy with hy|hy
  ·exact h _ (ZC hp) y hy
  ·exact hx y hy
theorem loopG_all {L:List Prod'} (hb:L.any (yV toks n)=false):∀(m:Nat) (S s:Sets),yR M S→S.length=n→Zt C M L m S=some s→(∀a ∈ S,∀x ∈ a,B x)→∀a ∈ s,∀x ∈ a,B x:=by
 intro m
 induction m with
 | zero=>intro S s _ _ h;cases h
 | succ m ih=>
  intro S s hS hn h hs
  obtain ⟨g1,g2,-,-⟩:=Yb hS4 hM L S false hS hn hb
  have hr:=roundG_all B hC hE hT hS4 hM L S false hS hn hb hs
  unfold Zt at h
  generalize yl C M L S false=x at h g1 g2 hr
  by_cases h1:x.2.2=false
  ·rw [if_pos h1] at h;cases h
  rw [if_neg h1] at h
  by_cases h2:x.2.1=false
  ·rw [if_pos h2] at h
   obtain rfl:=Option.some.inj h
   exact hr
  ·rw [if_neg h2] at h
   exact ih _ _ g1 g2 h hr
end
def TokT (x:ByteArray):Prop:=∀b ∈ x.data.toList,1≤b.toNat∧b.toNat≤60
def Zb (K:Nat) (x:ByteArray):Prop:=x.size=K∧∃a m,x.data.toList=a ++ List.replicate m 0∧∀b ∈ a,1≤b.toNat∧b.toNat≤60
theorem tok_tc {K:Nat} {x y:ByteArray} (hx:TokT x) (hy:TokT y):TokT (tc K x y):=by
 intro b hb
 unfold tc at hb
 simp only [List.toList_toArray] at hb
 rcases List.mem_append.1 (List.mem_of_mem_take hb) with h|h
 ·exact hx b h
 ·exact hy b h
theorem tok_cat {K:Nat} (a b:List ByteArray) (ha:∀x ∈ a,TokT x) (hb:∀x ∈ b,TokT x):∀x ∈ catA K a b,TokT x:=by
 intro z hz
 obtain ⟨x,hx,y,hy,rfl⟩:=qF.1 hz
 exact tok_tc (ha x hx) (hb y hy)
theorem tok_one (k:Int) (h1:1≤k) (h2:k≤60):TokT (strOfNums [k % 256]):=by
 intro b hb
 have e:(strOfNums [k % 256]).data.toList= [(k % 256).toNat.toUInt8]:=rfl
 rw [e,List.mem_singleton] at hb
 subst hb
 have e2:(k % 256).toNat=k.toNat:=by omega
 rw [e2]
 have:(k.toNat.toUInt8).toNat=k.toNat % 256:=by simp
 omega
theorem whole_tc {K:Nat} {x y:ByteArray} (hx:TokT x) (hy:Zb K y):Zb K (tc K x y):=by
 obtain ⟨hs,a,m,he,ha⟩:=hy
 have hl:(tc K x y).data.toList=(x.data.toList ++ y.data.toList).take K:=by unfold tc;simp only [List.toList_toArray]
 refine ⟨?_,(x.data.toList ++ a).take K,(K - (x.data.toList ++ a).length),?_,fun b hb=> ?_⟩
 ·rw [←yk,hl,List.length_take,List.length_append,yk y,hs];omega
 ·rw [hl,he,←List.append_assoc,List.take_append,List.take_replicate]
  congr 2
  have hlen:y.data.toList.length=K:=by rw [yk,hs]
  rw [he,List.length_append,List.length_replicate] at hlen
  rw [List.length_append]
  omega
 ·rcases List.mem_append.1 (List.mem_of_mem_take hb) with h|h
  ·exact hx b h
  ·exact ha b h
theorem whole_zero (K:Nat):Zb K (zeroT K):=⟨zeroT_size K,[],K,by unfold zeroT;simp,fun b hb=>nomatch hb⟩
section
variable {K : Nat} (hK : K ≤ 4) {n : Nat}
include hK
theorem fround_all:∀(xs:List Lk) (sets:Sets) (more:Bool),(∀x ∈ xs,Yv n x)→(∀x ∈ xs,∀t ∈ x.f2,TokT t)→yR 600 sets→sets.length=n→(∀a ∈ sets,∀x ∈ a,Zb K x)→∀a ∈ (yX K xs sets more).1,∀x ∈ a,Zb K x:=by
 intro xs
 induction xs with
 | nil=>intro sets more _ _ _ _ h;exact h
 | cons x xs ih=>
  intro sets more hx ht hS hn h
  have hx0:=hx x List.mem_cons_self
  have hj:=Yn hK hS hn hx0
  have hw:∀y ∈ setP (ze sets x.f0 ++ catA K x.f2 (ze sets x.f1)),Zb K y:=fun y hy=>by
   rw [ZJ,Zd,List.mem_append] at hy
   rcases hy with hy|hy
   ·exact h _ (ZC (by rw [hn];exact hx0.1)) y hy
   ·obtain ⟨u,hu,v,hv,rfl⟩:=qF.1 hy
    exact whole_tc (ht x List.mem_cons_self u hu) (h _ (ZC (by rw [hn];exact hx0.2.1)) v hv)
  unfold yX
  generalize setP (ze sets x.f0 ++ catA K x.f2 (ze sets x.f1))=j at hj hw⊢
  by_cases c:600 < j.length
  ·rw [if_pos c];exact h
  rw [if_neg c]
  obtain ⟨hj1,hj2⟩:=hj (by omega)
  exact ih _ _ (fun y hy=>hx y (List.mem_cons_of_mem _ hy)) (fun y hy=>ht y (List.mem_cons_of_mem _ hy)) (Zg hS _ hj1 hj2) (by rw [List.length_set];exact hn) (YV h _ hw)
theorem fround_mono:∀(xs:List Lk) (sets:Sets) (more:Bool),(∀x ∈ xs,Yv n x)→yR 600 sets→sets.length=n→∀i:Int,0≤i∧i < n→∀y ∈ ze sets i,y ∈ ze (yX K xs sets more).1 i:=by
 intro xs
 induction xs with
 | nil=>intro sets more _ _ _ i _ y hy;exact hy
 | cons x xs ih=>
  intro sets more hx hS hn i hi y hy
  have hx0:=hx x List.mem_cons_self
  have hj:=Yn hK hS hn hx0
  have hm:∀y ∈ ze sets x.f0,y ∈ setP (ze sets x.f0 ++ catA K x.f2 (ze sets x.f1)):=fun y hy=>by
   rw [ZJ,Zd];exact List.mem_append_left _ hy
  unfold yX
  generalize setP (ze sets x.f0 ++ catA K x.f2 (ze sets x.f1))=j at hj hm⊢
  by_cases c:600 < j.length
  ·rw [if_pos c];exact hy
  rw [if_neg c]
  obtain ⟨hj1,hj2⟩:=hj (by omega)
  refine ih _ _ (fun y hy=>hx y (List.mem_cons_of_mem _ hy)) (Zg hS _ hj1 hj2) (by rw [List.length_set];exact hn) i hi y ?_
  rw [rd_set (by rw [hn];exact hx0.1) (by rw [hn];exact hi)]
  by_cases e:i=x.f0
  ·rw [if_pos e];exact hm y (e▸hy)
  ·rw [if_neg e];exact hy
theorem fround_more:∀(xs:List Lk) (sets:Sets),(yX K xs sets true).2.2=true→(yX K xs sets true).2.1=true:=by
 intro xs
 induction xs with
 | nil=>intro sets _;rfl
 | cons x xs ih=>
  intro sets h
  unfold yX at h⊢
  generalize setP (ze sets x.f0 ++ catA K x.f2 (ze sets x.f1))=j at h⊢
  by_cases c:600 < j.length
  ·rw [if_pos c] at h;cases h
  rw [if_neg c] at h⊢
  rw [Bool.true_or] at h⊢
  exact ih _ h
def FixL (K:Nat) (xs:List Lk) (S:Sets):Prop:=∀x ∈ xs,∀y ∈ catA K x.f2 (ze S x.f1),y ∈ ze S x.f0
theorem fround_fix:∀(xs:List Lk) (S:Sets),(∀x ∈ xs,Yv n x)→yR 600 S→S.length=n→(yX K xs S false).2.2=true→(yX K xs S false).2.1=false→(yX K xs S false).1=S∧FixL K xs S:=by
 intro xs
 induction xs with
 | nil=>intro S _ _ _ _ _;exact ⟨rfl,fun p hp=>nomatch hp⟩
 | cons x xs ih=>
  intro S hx hS hn h3 h4
  have hx0:=hx x List.mem_cons_self
  have hp:0≤x.f0∧x.f0 < (S.length:Int):=by rw [hn];exact hx0.1
  have hin:∀y ∈ catA K x.f2 (ze S x.f1),y ∈ setP (ze S x.f0 ++ catA K x.f2 (ze S x.f1)):=fun y hy=>by
   rw [ZJ,Zd];exact List.mem_append_right _ hy
  obtain ⟨-,hg⟩:=YU hS hp (catA K x.f2 (ze S x.f1))
  unfold yX at h3 h4⊢
  generalize setP (ze S x.f0 ++ catA K x.f2 (ze S x.f1))=j at h3 h4 hin hg⊢
  by_cases c:600 < j.length
  ·rw [if_pos c] at h3;cases h3
  rw [if_neg c] at h3 h4⊢
  by_cases d:(ze S x.f0).length < j.length
  ·rw [decide_eq_true d,Bool.or_true] at h3 h4
   rw [fround_more hK _ _ h3] at h4;cases h4
  ·have he:=hg (Nat.not_lt.1 d)
   have hse:S.set x.f0.toNat j=S:=by
    rw [←he,rd_at hp]
    exact List.set_getElem_self _
   rw [decide_eq_false d,Bool.or_false,hse] at h3 h4⊢
   obtain ⟨i1,i2⟩:=ih S (fun y hy=>hx y (List.mem_cons_of_mem _ hy)) hS hn h3 h4
   refine ⟨i1,fun q hq=> ?_⟩
   rcases List.mem_cons.1 hq with rfl|hq
   ·intro y hy
    rw [he];exact hin y hy
   ·exact i2 q hq
theorem floop_facts (xs:List Lk) (hx:∀x ∈ xs,Yv n x) (ht:∀x ∈ xs,∀t ∈ x.f2,TokT t):∀(m:Nat) (S s:Sets),yR 600 S→S.length=n→YD K xs m S=some s→(∀a ∈ S,∀x ∈ a,Zb K x)→
  (yR 600 s∧s.length=n)∧FixL K xs s∧(∀a ∈ s,∀x ∈ a,Zb K x)∧∀i:Int,0≤i∧i < n→∀y ∈ ze S i,y ∈ ze s i:=by
 intro m
 induction m with
 | zero=>intro S s _ _ h;cases h
 | succ m ih=>
  intro S s hS hn h hw
  obtain ⟨g1,g2,-,-⟩:=qH hK xs S false hx hS hn
  have hf:=fround_fix hK (n:=n) xs S hx hS hn
  have ha:=fround_all hK xs S false hx ht hS hn hw
  have hm:=fround_mono hK xs S false hx hS hn
  unfold YD at h
  generalize yX K xs S false=x at h g1 g2 hf ha hm
  by_cases h1:x.2.2=false
  ·rw [if_pos h1] at h;cases h
  rw [if_neg h1] at h
  by_cases h2:x.2.1=false
  ·rw [if_pos h2] at h
   obtain ⟨e,hF⟩:=hf (by simpa using h1) h2
   obtain rfl:=Option.some.inj h
   rw [e] at ha⊢
   exact ⟨⟨hS,hn⟩,hF,ha,fun i _ y hy=>hy⟩
  ·rw [if_neg h2] at h
   obtain ⟨i1,i2,i3,i4⟩:=ih _ _ g1 g2 h ha
   exact ⟨i1,i2,i3,fun i hi y hy=>i4 i hi y (hm i hi y hy)⟩
end
theorem linksP_toks {K:Nat} {F:Sets} {toks:Int} {n:Nat} (htoks:toks≤60) (hF:∀a ∈ F,∀x ∈ a,TokT x) (hn:F.length=n) {left:Int} :∀(l:List Sym),l.any (ZA toks n)=false→∀a,YN K F left l=some a→∀x ∈ a,∀t ∈ x.f2,TokT t:=by
 intro l
 induction l with
 | nil=>intro _ a h;obtain rfl:=Option.some.inj h;exact fun x hx=>nomatch hx
 | cons s l ih=>
  intro hb a h
  rw [List.any_cons,Bool.or_eq_false_iff] at hb
  unfold YN at h
  by_cases h0:s.f0=true
  ·rw [if_pos h0] at h;exact ih hb.2 a h
  ·rw [if_neg h0] at h
   by_cases h1:(rowG (catA K) 600 F l [(⟨#[]⟩:ByteArray)]).2=true
   ·rw [if_pos h1] at h
    obtain ⟨b,hb2,rfl⟩:=Option.map_eq_some_iff.1 h
    intro x hx
    rcases List.mem_cons.1 hx with rfl|hx
    ·exact rowG_all (M:=600) (sets:=F) TokT (fun a b=>tok_cat a b) l [(⟨#[]⟩:ByteArray)] (fun s hs=>Yd hn hF (fun k h1 h2=>tok_one k h1 (by omega)) (any_mem hb.2 hs)) (fun x hx=>by rw [List.mem_singleton.1 hx];exact fun b hb=>nomatch hb)
    ·exact ih hb.2 b hb2 x hx
   ·rw [if_neg h1] at h;cases h
theorem linksL_toks {K:Nat} {F:Sets} {toks:Int} {n:Nat} (htoks:toks≤60) (hF:∀a ∈ F,∀x ∈ a,TokT x) (hn:F.length=n):∀(L:List Prod'),L.any (yV toks n)=false→∀xs,YC K F L=some xs→∀x ∈ xs,∀t ∈ x.f2,TokT t:=by
 intro L
 induction L with
 | nil=>intro _ xs h;obtain rfl:=Option.some.inj h;exact fun x hx=>nomatch hx
 | cons p ps ih=>
  intro hb xs h
  rw [List.any_cons,Bool.or_eq_false_iff] at hb
  obtain ⟨a,ha,h⟩:=Option.bind_eq_some_iff.1 h
  obtain ⟨b,hb2,rfl⟩:=Option.map_eq_some_iff.1 h
  obtain ⟨hp,hr⟩:=Zi hb.1
  intro x hx
  rcases List.mem_append.1 hx with hx|hx
  ·exact linksP_toks htoks hF hn p.f1 hr a ha x hx
  ·exact ih hb.2 b hb2 x hx
theorem rd_natS {X:Sets} {i:Nat} (h:i < X.length):ze X (i:Int)=X[i]:=rd_at ⟨by omega,by omega⟩
def gRow (K:Nat) (F:Sets) (p:Prod'):List ByteArray:=(rowG (catA K) 600 F p.f1 [(⟨#[]⟩:ByteArray)]).1
def gCat (K:Nat) (F B:Sets) (p:Prod'):List ByteArray:=catA K (gRow K F p) (ze B p.f0)
def gAll (K:Nat) (F B:Sets):List Prod'→Option Sets
 | []=>some []
 | p :: ps=>if 600 < (gCat K F B p).length then none else (gAll K F B ps).map fun g=>gCat K F B p :: g
def outG (X:Sets):Option Sets→Sets × Int
 | none=>([],15)
 | some g=>(X ++ g,0)
theorem outG_cons (X:Sets) (c:List ByteArray) (o:Option Sets):outG X (o.map fun g=>c :: g)=outG (X ++ [c]) o:=by
 cases o with
 | none=>rfl
 | some g=>show (X ++ c :: g,(0:Int))=(X ++ [c] ++ g,0);rw [List.append_assoc];rfl
def ZK (toks look:Int) (n:Nat) (L:List Prod'):Sets × Int:=
 if (ofA toks look n L).2=0 then (if (yv toks look n L).2=0 then outG [] (gAll (mx look 0).toNat (ofA toks look n L).1 (yv toks look n L).1 L) else ([],(yv toks look n L).2)) else ([],(ofA toks look n L).2)
theorem set_take {X:Sets} {i:Nat} (h:i < X.length) (t:List ByteArray):(X.set i t).take (i + 1)=X.take i ++ [t]:=by
 rw [List.take_succ_eq_append_getElem (by rw [List.length_set];exact h),List.take_set_of_le (Nat.le_refl _),List.getElem_set_self]
theorem prod_of {toks:Int} {n:Nat} {L:List Prod'} (hb:L.any (yV toks n)=false) {i:Nat} (hi:i < L.length):(0≤L[i].f0∧L[i].f0 < (n:Int))∧L[i].f1.any (ZA toks n)=false:=by
 refine Zi ?_
 cases hh:yV toks n L[i]
 ·rfl
 ·rw [List.any_eq_true.2 ⟨L[i],List.getElem_mem _,hh⟩] at hb;cases hb
section
variable (toks look : Int) (hlook : 1 ≤ look ∧ look ≤ 4) (of : List Int)
include hlook
theorem rows_l1 {F:Sets} (hS:yR 600 F) (L:List Prod') (hL:L.length≤1000000) (i:Nat) (hi:i < L.length) (hr:L[i].f1.length≤1000000) (hb:L[i].f1.any (ZA toks F.length)=false) (X:Sets) (hX:X.length=L.length) (res:Sets):∀(d j:Nat) (out:List ByteArray),j + d=L[i].f1.length→Zl 600 out→
  (rowG (catA (mx look 0).toNat) 600 F (L[i].f1.drop j) out).2=true→Ev (fun k=>zq.l0 k F (X.set i (rowG (catA (mx look 0).toNat) 600 F (L[i].f1.drop j) out).1) L L.length ((i + 1:Nat):Int) toks look of L) res→
  Ev (fun k=>zq.l1 k F (X.set i out) i L L.length i L[i].f1 L[i].f1.length j toks look of L) res:=by
 intro d
 induction d with
 | zero=>
  intro j out hj _ _ h
  have hw1:wrap64 ((i:Int) + 1)=((i + 1:Nat):Int):=by rw [yW (by omega)];rfl
  rw [List.drop_of_length_le (by clear hw1;omega)] at h
  exact Ev.step (fun k=>by rw [zq.l1,if_neg (by clear hw1;omega),hw1];rfl) h
 | succ d ih=>
  intro j out hj ho hok h
  have hlt:j < L[i].f1.length:=by omega
  have hw:wrap64 ((j:Int) + 1)=((j + 1:Nat):Int):=by rw [yW (by omega)];rfl
  have hbs:ZA toks F.length L[i].f1[j]=false:=by
   cases hh:ZA toks F.length L[i].f1[j]
   ·rfl
   ·rw [List.any_eq_true.2 ⟨L[i].f1[j],List.getElem_mem _,hh⟩] at hb;cases hb
  obtain ⟨hg,hn⟩:=sym_good (M:=600) (by clear hw;omega) hS hbs
  have hc:=qG hlook out _ ho hg
  rw [List.drop_eq_getElem_cons hlt] at hok h
  unfold rowG at hok h
  have hsz:=Za (K_le hlook) out (if L[i].f1[j].f0=true then [strOfNums [L[i].f1[j].f1 % 256]] else ze F L[i].f1[j].f1)
  generalize hC:catA (mx look 0).toNat out (if L[i].f1[j].f0=true then [strOfNums [L[i].f1[j].f1 % 256]] else ze F L[i].f1[j].f1)=C at hok h hc hsz
  by_cases h6:600 < C.length
  ·rw [if_pos h6] at hok;cases hok
  rw [if_neg h6] at hok h
  have hgo:=ih (j + 1) C (by clear hw;omega) ⟨by clear hw;omega,hsz⟩ hok h
  have hset:(X.set i out).set ((i:Nat):Int).toNat C=X.set i C:=by rw [Int.toNat_natCast,List.set_set]
  have hrd:ze (X.set i out) (i:Int)=out:=by rw [rd_natS (by rw [List.length_set];clear hw;omega)];exact List.getElem_set_self ..
  have hlx:(i:Int) < ((X.set i out).length:Int):=by rw [List.length_set];clear hw;omega
  refine Ev.step (fun k=>by rw [zq.l1,if_pos (by clear hw;omega),if_pos (by clear hw;omega),if_pos (by clear hw;omega),rdS hlt,hw,hrd]) ?_
  cases h0:L[i].f1[j].f0
  ·simp only [h0] at hc
   simp only [if_neg Bool.false_ne_true] at hc
   obtain ⟨h1,h2⟩:=hn h0
   refine Ev.ite_neg (by simp) (Ev.ite_pos h1 (Ev.ite_pos h2 (Ev.ite_pos (by clear hw;omega) (Ev.ite_pos hlx (Ev.bind hc ?_)))))
   rw [hset];exact hgo
  ·simp only [h0] at hc
   simp only [if_true] at hc
   refine Ev.ite_pos rfl (Ev.ite_pos (by clear hw;omega) (Ev.ite_pos hlx (Ev.bind hc ?_)))
   rw [hset];exact hgo
theorem rows_l0 {F:Sets} (hS:yR 600 F) (L:List Prod') (hL:L.length≤1000000) (hb:L.any (yV toks F.length)=false) (hl:∀p ∈ L,p.f1.length≤1000000) (hF:Fix (catA (mx look 0).toNat) 600 L F):∀(d i:Nat) (X:Sets),i + d=L.length→X.length=L.length→
  Ev (fun k=>zq.l0 k F X L L.length i toks look of L) (X.take i ++ (L.drop i).map (gRow (mx look 0).toNat F)):=by
 intro d
 induction d with
 | zero=>
  intro i X hi hX
  rw [List.drop_of_length_le (by omega),List.map_nil,List.append_nil,List.take_of_length_le (by omega)]
  exact Ev.step (fun k=>by rw [zq.l0,if_neg (by omega)]) (Ev.now _)
 | succ d ih=>
  intro i X hi hX
  have hlt:i < L.length:=by omega
  obtain ⟨-,hr⟩:=prod_of hb hlt
  have hfx:=(hF L[i] (List.getElem_mem hlt)).1
  have h:=ih (i + 1) (X.set i (gRow (mx look 0).toNat F L[i])) (by omega) (by rw [List.length_set];exact hX)
  rw [set_take (by omega)] at h
  rw [List.drop_eq_getElem_cons hlt,List.map_cons]
  have h1:=rows_l1 toks look hlook of hS L hL i hlt (hl _ (List.getElem_mem hlt)) hr X hX _ L[i].f1.length 0 [(⟨#[]⟩:ByteArray)] (by omega) (ZY (M:=600) (by omega)) (by rw [List.drop_zero];exact hfx) (by rw [List.drop_zero];exact h)
  refine Ev.step (fun k=>by rw [zq.l0,if_pos (by omega),if_pos (by omega),if_pos (by omega),if_pos (by omega),rdP hlt]) ?_
  rw [Int.toNat_natCast,show X.take i ++ gRow (mx look 0).toNat F L[i] :: (L.drop (i + 1)).map (gRow (mx look 0).toNat F)=X.take i ++ [gRow (mx look 0).toNat F L[i]] ++ (L.drop (i + 1)).map (gRow (mx look 0).toNat F) from by simp]
  exact h1
theorem guess_l0 {F B:Sets} (hS:yR 600 F) (hB:yR 600 B) (hBl:B.length=F.length) (L:List Prod') (hL:L.length≤1000000) (hb:L.any (yV toks F.length)=false):∀(d i:Nat) (X:Sets),i + d=L.length→X.length=L.length→X.drop i=(L.drop i).map (gRow (mx look 0).toNat F)→
  Ev (fun k=>yB.l0 k B 0 X L L.length i toks look of L) (outG (X.take i) (gAll (mx look 0).toNat F B (L.drop i))):=by
 intro d
 induction d with
 | zero=>
  intro i X hi hX _
  rw [List.drop_of_length_le (by omega)]
  show Ev _ ((X.take i ++ [],0):Sets × Int)
  rw [List.append_nil,List.take_of_length_le (by omega)]
  exact Ev.step (fun k=>by rw [yB.l0,if_neg (by omega)]) (Ev.now _)
 | succ d ih=>
  intro i X hi hX hd
  have hlt:i < L.length:=by omega
  have hw:wrap64 ((i:Int) + 1)=((i + 1:Nat):Int):=by rw [yW (by omega)];rfl
  obtain ⟨hp,hr⟩:=prod_of hb hlt
  have hp2:0≤L[i].f0∧L[i].f0 < (B.length:Int):=by rw [hBl];exact hp
  have hxi:X[i]'(by clear hw;omega)=gRow (mx look 0).toNat F L[i]:=by
   have e:=congrArg List.head? hd
   rw [List.drop_eq_getElem_cons (by clear hw;omega),List.drop_eq_getElem_cons hlt,List.map_cons,List.head?_cons,List.head?_cons] at e
   exact Option.some.inj e
  have hc:=qG hlook (gRow (mx look 0).toNat F L[i]) (ze B L[i].f0) (YQ (M:=600) (Za (K_le hlook)) F _ _ (ZY (M:=600) (by clear hw;omega))) (hB _ (ZC hp2)).1
  have h:=ih (i + 1) (X.set i (gCat (mx look 0).toNat F B L[i])) (by clear hw;omega) (by rw [List.length_set];exact hX) (by
   rw [List.drop_set_of_lt (by clear hw;omega)]
   have e:=congrArg List.tail hd
   rw [List.drop_eq_getElem_cons (by clear hw;omega),List.drop_eq_getElem_cons hlt,List.map_cons,List.tail_cons,List.tail_cons] at e
   exact e)
  rw [set_take (by clear hw;omega)] at h
  rw [List.drop_eq_getElem_cons hlt]
  unfold gAll
  refine Ev.step (fun k=>by rw [yB.l0,if_pos (by clear hw;omega),if_pos (by clear hw;omega),if_pos (by clear hw;omega),if_pos (by clear hw;omega),rdP hlt,if_pos hp2.1,if_pos hp2.2,rd_natS (by clear hw;omega),hxi,hw,Int.toNat_natCast]) (Ev.bind hc ?_)
  by_cases h6:600 < (gCat (mx look 0).toNat F B L[i]).length
  ·rw [if_pos h6]
   exact Ev.ite_pos (by clear hw;show (((gCat (mx look 0).toNat F B L[i]).length:Nat):Int) > 600;omega) (Ev.now _)
  ·rw [if_neg h6]
   refine Ev.ite_neg (by clear hw;show ¬(((gCat (mx look 0).toNat F B L[i]).length:Nat):Int) > 600;omega) ?_
   rw [outG_cons];exact h
end
theorem of_fix {toks look:Int} {of:List Int} {L:List Prod'} (hl:∀p ∈ L,p.f1.length≤1000000) (h:(ofA toks look of.length L).2=0):Fix (catA (mx look 0).toNat) 600 L (ofA toks look of.length L).1:=by
 have hz:=Zj (toks:=toks) (look:=look) (of:=of) hl h
 obtain ⟨h1,h2,h3,h4⟩:=ZF hz.1
 unfold ofA at h⊢
 rw [if_pos hz.1] at h⊢
 cases hh:Zt (catA (mx look 0).toNat) 600 L (600 * of.length + 1) (List.replicate of.length []) with
 | none=>rw [hh] at h;cases h
 | some s=>exact (loopG_fix (Za (K_le h3)) (by omega) h4 _ _ _ (Zw 600 of.length) (List.length_replicate ..) hh).1
theorem qJ (toks look:Int) (of:List Int) (L:List Prod') (hl4:∀p ∈ L,p.f1.length≤400000) (hL:L.length≤1000000):Ev (fun k=>yB.f k toks look of L) (ZK toks look of.length L):=by
 have hl:∀p ∈ L,p.f1.length≤1000000:=fun p hp=>Nat.le_trans (hl4 p hp) (by omega)
 have o1:=of_ev toks look of L hl hL
 have o2:=follow_ev toks look of L hl4 hL
 have hz:=Zj (toks:=toks) (look:=look) (of:=of) hl
 have hfx:=of_fix (toks:=toks) (look:=look) (of:=of) hl
 obtain ⟨hg,-⟩:=qI toks look of L hl
 have he:(ofA toks look of.length L).2≠0→yv toks look of.length L=([],(ofA toks look of.length L).2):=fun h=>by unfold yv;rw [if_neg h]
 unfold yB.f ZK
 generalize ofA toks look of.length L=X at hz o1 he hfx⊢
 generalize yv toks look of.length L=Y at hg o2 he⊢
 by_cases h0:X.2=0
 ·obtain ⟨hm,hS,hn⟩:=hz h0
  obtain ⟨h1,h2,h3,h4⟩:=ZF hm
  rw [if_pos h0]
  by_cases h5:Y.2=0
  ·obtain ⟨-,hB,hBn⟩:=hg h5
   rw [if_pos h5]
   rw [←hn] at h4
   have r1:=rows_l0 toks look h3 of hS L hL h4 hl (hfx h0) L.length 0 (List.replicate L.length []) (by omega) (List.length_replicate ..)
   rw [List.take_zero,List.nil_append,List.drop_zero] at r1
   have r2:=guess_l0 toks look h3 of hS hB (by rw [hn,hBn]) L hL h4 L.length 0 (L.map (gRow (mx look 0).toNat X.1)) (by omega) (List.length_map ..) (by rw [List.drop_zero,List.drop_zero])
   rw [List.drop_zero] at r2
   refine Ev.bind o2 (Ev.ite_pos h5 (Ev.bind o1 (Ev.ite_pos h0 (Ev.bind (by
    unfold zq.f
    exact Ev.ite_pos (by omega) (Ev.ite_pos (by omega) (by rw [Int.toNat_natCast];exact r1))) ?_))))
   rw [h0]
   exact r2
  ·rw [if_neg h5]
   exact Ev.bind o2 (Ev.ite_neg h5 (Ev.now _))
 ·rw [if_neg h0,←he h0]
  refine Ev.bind o2 (Ev.ite_neg (by rw [he h0];exact h0) ?_)
  rw [he h0];exact Ev.now _
theorem gAll_good {K:Nat} (hK:K≤4) {F B:Sets} :∀(L:List Prod') (g:Sets),gAll K F B L=some g→yR 600 g∧g.length=L.length:=by
 intro L
 induction L with
 | nil=>intro g h;obtain rfl:=Option.some.inj h;exact ⟨fun a ha=>(nomatch ha),rfl⟩
 | cons p ps ih=>
  intro g h
  unfold gAll at h
  by_cases h6:600 < (gCat K F B p).length
  ·rw [if_pos h6] at h;cases h
  rw [if_neg h6] at h
  obtain ⟨g2,hg2,rfl⟩:=Option.map_eq_some_iff.1 h
  obtain ⟨i1,i2⟩:=ih g2 hg2
  refine ⟨fun a ha=> ?_,by rw [List.length_cons,i2,List.length_cons]⟩
  rcases List.mem_cons.1 ha with rfl|ha
  ·refine ⟨⟨by omega,fun x hx=>Za hK _ _ x hx⟩,?_⟩
   unfold gCat catA
   rw [ZJ,Ym]
  ·exact i1 a ha
theorem Ye (toks look:Int) (of:List Int) (L:List Prod') (hl:∀p ∈ L,p.f1.length≤1000000):((ZK toks look of.length L).2=0→mayE toks look of.length L=0∧yR 600 (ZK toks look of.length L).1∧(ZK toks look of.length L).1.length=L.length)∧((ZK toks look of.length L).2≠0→(ZK toks look of.length L).1= []):=by
 have hz:=Zj (toks:=toks) (look:=look) (of:=of) hl
 unfold ZK
 generalize ofA toks look of.length L=X at hz⊢
 generalize yv toks look of.length L=Y
 by_cases h0:X.2=0
 ·obtain ⟨hm,hS,hn⟩:=hz h0
  obtain ⟨h1,h2,h3,h4⟩:=ZF hm
  rw [if_pos h0]
  by_cases h5:Y.2=0
  ·rw [if_pos h5]
   cases hg:gAll (mx look 0).toNat X.1 Y.1 L with
   | none=>exact ⟨fun h=>(by cases h),fun _=>rfl⟩
   | some g=>
    obtain ⟨g1,g2⟩:=gAll_good (K_le h3) L g hg
    exact ⟨fun _=>⟨hm,g1,g2⟩,fun h=>absurd rfl h⟩
  ·rw [if_neg h5];exact ⟨fun h=>absurd h h5,fun _=>rfl⟩
 ·rw [if_neg h0];exact ⟨fun h=>absurd h h0,fun _=>rfl⟩
def ZR (n:Int):List Prod'→Nat→List Int
 | [],_=> []
 | p :: ps,i=>if p.f0=n then (i:Int) :: ZR n ps (i + 1) else ZR n ps (i + 1)
theorem qW (n:Int):∀(L:List Prod') (i:Nat),(∀x ∈ ZR n L i,(i:Int)≤x∧x < ((i + L.length:Nat):Int))∧(ZR n L i).length≤L.length:=by
 intro L
 induction L with
 | nil=>intro i;exact ⟨fun x hx=>(nomatch hx),Nat.le_refl _⟩
 | cons p ps ih=>
  intro i
  obtain ⟨i1,i2⟩:=ih (i + 1)
  unfold ZR
  split
  ·refine ⟨fun x hx=> ?_,by simp;exact i2⟩
   rcases List.mem_cons.1 hx with rfl|hx
   ·simp;omega
   ·have:=i1 x hx;simp;omega
  ·exact ⟨fun x hx=>by have:=i1 x hx;simp;omega,by simp;omega⟩
theorem prods_l0 (n:Int) (L:List Prod') (hL:L.length≤1000000):∀(d i:Nat) (acc:List Int),i + d=L.length→acc.length≤i→Ev (fun k=>yL.l0 k n acc L L.length i) (acc ++ ZR n (L.drop i) i):=by
 intro d
 induction d with
 | zero=>
  intro i acc hi _
  rw [List.drop_of_length_le (by omega),show ZR n [] i= [] from rfl,List.append_nil]
  exact Ev.step (fun k=>by rw [yL.l0,if_neg (by omega)]) (Ev.now _)
 | succ d ih=>
  intro i acc hi ha
  have hlt:i < L.length:=by omega
  have hw:wrap64 ((i:Int) + 1)=((i + 1:Nat):Int):=by rw [yW (by omega)];rfl
  rw [List.drop_eq_getElem_cons hlt]
  unfold ZR
  refine Ev.step (fun k=>by rw [yL.l0,if_pos (by clear hw;omega),if_pos (by clear hw;omega),if_pos (by clear hw;omega),rdP hlt,hw]) ?_
  by_cases c:L[i].f0=n
  ·rw [if_pos c]
   have h:=ih (i + 1) (acc ++ [(i:Int)]) (by clear hw;omega) (by rw [List.length_append];simp;clear hw;omega)
   rw [List.append_assoc] at h
   exact Ev.ite_pos c (Ev.ite_pos (by clear hw;omega) h)
  ·rw [if_neg c]
   exact Ev.ite_neg c (ih (i + 1) acc (by clear hw;omega) (by clear hw;omega))
theorem prods_ev (toks look:Int) (of:List Int) (L:List Prod') (n:Int) (hl:∀p ∈ L,p.f1.length≤1000000) (hL:L.length≤1000000) (hm0:mayE toks look of.length L=0):Ev (fun k=>yL.f k toks look of L n) (ZR n L 0):=by
 have hm:=may_ev toks look of L (by omega) (fun p hp=>by have:=hl p hp;omega)
 rw [hm0] at hm
 have h:=prods_l0 n L hL L.length 0 [] (by omega) (Nat.le_refl _)
 rw [List.drop_zero,List.nil_append] at h
 unfold yL.f
 exact Ev.bind hm (Ev.ite_pos rfl h)
def pickA (g:Sets) (t:ByteArray) (ps:List Int):Int:=zR.first (ps.map fun p=>decide (t ∈ ze g p)) 0
theorem hass_ev (g:Sets) (hg:yR 600 g) (t:ByteArray):∀ps:List Int,(∀p ∈ ps,0≤p∧p < (g.length:Int))→Ev (fun k=>zR.hass k g t ps) (ps.map fun p=>decide (t ∈ ze g p)):=by
 intro ps
 induction ps with
 | nil=>intro _;exact Ev.now _
 | cons p ps ih=>
  intro h
  have h1:=has_dec (ze g p) t (by have:=(hg _ (ZC (h p List.mem_cons_self))).1.1;omega)
  refine Ev.congr (fun k=>by rw [zR.hass]) (Ev.bind h1 ?_)
  exact Ev.bind (f:=fun _ bs=>some (decide (t ∈ ze g p) :: bs)) (ih fun q hq=>h q (List.mem_cons_of_mem _ hq)) (Ev.now _)
def pickR (toks look:Int) (n:Nat) (L:List Prod') (m:Int) (t:ByteArray):Int × Int:=
 if (ZK toks look n L).2=0 then (if m < 0∨(n:Int)≤m then (0,3) else (pickA (ZK toks look n L).1 t (ZR m L 0),0)) else (0,(ZK toks look n L).2)
theorem pick_ev (toks look:Int) (of:List Int) (L:List Prod') (m:Int) (t:ByteArray) (hl4:∀p ∈ L,p.f1.length≤400000) (hL:L.length≤1000000):Ev (fun k=>zR.f k toks look of L m t) (pickR toks look of.length L m t):=by
 have hl:∀p ∈ L,p.f1.length≤1000000:=fun p hp=>Nat.le_trans (hl4 p hp) (by omega)
 have o1:=qJ toks look of L hl4 hL
 obtain ⟨hg,-⟩:=Ye toks look of L hl
 unfold zR.f pickR
 generalize ZK toks look of.length L=X at o1 hg⊢
 refine Ev.bind o1 ?_
 by_cases h0:X.2=0
 ·obtain ⟨hm,hS,hn⟩:=hg h0
  rw [if_pos h0]
  refine Ev.ite_pos h0 ?_
  by_cases h1:m < 0∨(of.length:Int)≤m
  ·rw [if_pos h1];exact Ev.ite_pos h1 (Ev.now _)
  ·rw [if_neg h1]
   obtain ⟨p1,p2⟩:=qW m L 0
   have hin:∀p ∈ ZR m L 0,0≤p∧p < (X.1.length:Int):=fun p hp=>by have:=p1 p hp;rw [hn];omega
   exact Ev.ite_neg h1 (Ev.bind (prods_ev toks look of L m hl hL hm) (Ev.ite_pos ⟨by omega,hin⟩ (Ev.bind (hass_ev X.1 hS t _ hin) (Ev.now _))))
 ·rw [if_neg h0];exact Ev.ite_neg h0 (Ev.now _)
def YI:List Prod':= [⟨0,[⟨true,1⟩]⟩,⟨0,[]⟩]
theorem qK:ZK 1 1 1 YI=([[⟨#[1]⟩],[⟨#[0]⟩]],0):=by kernel_rfl
theorem sample_pick:pickR 1 1 1 YI 0 ⟨#[0]⟩=(1,0):=by
 unfold pickR
 rw [qK]
 kernel_rfl
theorem guess_works:Ev (fun k=>yN.f k) true:=by
 unfold yN.f zz.f
 have hl:∀p ∈ YI,p.f1.length≤400000:=fun p hp=>by
  unfold YI at hp
  rcases List.mem_cons.1 hp with rfl|hp
  ·simp
  ·rw [List.mem_singleton.1 hp];simp
 have h:=qJ 1 1 [-1] YI hl (by unfold YI;simp)
 have hp:=pick_ev 1 1 [-1] YI 0 ⟨#[0]⟩ hl (by unfold YI;simp)
 rw [show ([-1]:List Int).length=1 from rfl] at h hp
 rw [qK] at h
 rw [sample_pick] at hp
 have h1:=same_dec [⟨#[1]⟩] [⟨#[1]⟩] (by simp)
 have h2:=same_dec [⟨#[0]⟩] [⟨#[0]⟩] (by simp)
 rw [decide_eq_true rfl] at h1 h2
 refine Ev.bind0 rfl (Ev.bind h (Ev.bind0 rfl (Ev.bind hp ?_)))
 exact Ev.ite_pos rfl (Ev.ite_pos rfl (Ev.ite_pos rfl (Ev.ite_pos (by decide) (Ev.bind h1 (Ev.ite_pos rfl (Ev.ite_pos (by decide) (Ev.bind h2 (Ev.ite_pos rfl (Ev.now _)))))))))
theorem gflat_len (g:Sets) (hg:yR 600 g):∀ps:List Int,(∀p ∈ ps,0≤p∧p < (g.length:Int))→(yG.flat g ps).length≤600 * ps.length:=by
 intro ps
 induction ps with
 | nil=>intro _;exact Nat.zero_le _
 | cons p ps ih=>
  intro h
  have h1:=(hg _ (ZC (h p List.mem_cons_self))).1.1
  have h2:=ih fun q hq=>h q (List.mem_cons_of_mem _ hq)
  unfold yG.flat at h2⊢
  rw [List.flatMap_cons,List.length_append,List.length_cons,Nat.mul_succ]
  omega
def headsR (toks look:Int) (n:Nat) (L:List Prod') (m:Int):List Int × Int:=
 if (ZK toks look n L).2=0 then (if m < 0∨(n:Int)≤m then ([],3) else (zt.iset (hds (yG.flat (ZK toks look n L).1 (ZR m L 0))),0)) else ([],(ZK toks look n L).2)
theorem gheads_ev (toks look:Int) (of:List Int) (L:List Prod') (m:Int) (hl4:∀p ∈ L,p.f1.length≤400000) (hL:L.length≤1000):Ev (fun k=>yG.f k toks look of L m) (headsR toks look of.length L m):=by
 have hl:∀p ∈ L,p.f1.length≤1000000:=fun p hp=>Nat.le_trans (hl4 p hp) (by omega)
 have o1:=qJ toks look of L hl4 (by omega)
 obtain ⟨hg,-⟩:=Ye toks look of L hl
 unfold yG.f headsR
 generalize ZK toks look of.length L=X at o1 hg⊢
 refine Ev.bind o1 ?_
 by_cases h0:X.2=0
 ·obtain ⟨hm,hS,hn⟩:=hg h0
  rw [if_pos h0]
  refine Ev.ite_pos h0 ?_
  by_cases h1:m < 0∨(of.length:Int)≤m
  ·rw [if_pos h1];exact Ev.ite_pos h1 (Ev.now _)
  ·rw [if_neg h1]
   obtain ⟨p1,p2⟩:=qW m L 0
   have hin:∀p ∈ ZR m L 0,0≤p∧p < (X.1.length:Int):=fun p hp=>by have:=p1 p hp;rw [hn];omega
   have hf:=gflat_len X.1 hS _ hin
   exact Ev.ite_neg h1 (Ev.bind (prods_ev toks look of L m hl (by omega) hm) (Ev.ite_pos ⟨by omega,hin,fun r hr=>by have:=(hS r hr).1.1;omega⟩ (Ev.bind (heads_ev _ (by omega)) (Ev.now _))))
 ·rw [if_neg h0];exact Ev.ite_neg h0 (Ev.now _)
theorem YH {s:ByteArray} {i:Nat} (h:i < s.data.toList.length):bt s (i:Int)=((s.data.toList[i]).toNat:Int):=bt_get (by rw [←yk];exact h)
theorem may_whole (t:ByteArray) (look:Int) (hlook:1≤look∧look≤4) (h:Zb look.toNat t):Ev (fun k=>zZ.f k t look) true:=by
 obtain ⟨hs,a,m,he,ha⟩:=h
 have hlen:a.length + m=t.size:=by rw [←yk,he,List.length_append,List.length_replicate]
 have hbt:∀i:Nat,i < t.size→(i < a.length→1≤bt t i∧bt t i≤60)∧(a.length≤i→bt t i=0):=by
  intro i hi
  rw [YH (by rw [yk];exact hi)]
  constructor
  ·intro hia
   have e:t.data.toList[i]'(by rw [yk];exact hi)=a[i]:=by simp only [he];rw [List.getElem_append_left hia]
   rw [e]
   have:=ha _ (List.getElem_mem hia)
   omega
  ·intro hia
   have e:t.data.toList[i]'(by rw [yk];exact hi)=0:=by simp only [he];rw [List.getElem_append_right hia];exact List.getElem_replicate ..
   rw [e];rfl
 have key:∀(d i:Nat),i + d=t.size→Ev (fun k=>zZ.l0 k t i) true:=by
  intro d
  induction d with
  | zero=>
   intro i hi
   exact Ev.step (fun k=>by rw [zZ.l0,if_neg (by omega)]) (Ev.now _)
  | succ d ih=>
   intro i hi
   have hw:wrap64 ((i:Int) + 1)=((i + 1:Nat):Int):=by rw [yW (by omega)];rfl
   obtain ⟨b1,b2⟩:=hbt i (by clear hw;omega)
   have hi2:=ih (i + 1) (by clear hw;omega)
   refine Ev.step (fun k=>by rw [zZ.l0,if_pos (by clear hw;omega),if_pos (by clear hw;omega),hw]) ?_
   refine Ev.ite_neg (by clear hw;omega) ?_
   by_cases c:(i:Int) > 0
   ·have hw2:wrap64 ((i:Int) - 1)=((i - 1:Nat):Int):=by clear hw;rw [yW (by omega)];omega
    obtain ⟨p1,p2⟩:=hbt (i - 1) (by clear hw hw2;omega)
    refine Ev.ite_pos c ?_
    rw [hw2]
    refine Ev.ite_pos (by clear hw hw2;omega) (Ev.ite_pos (by clear hw hw2;omega) ?_)
    by_cases z:bt t ((i - 1:Nat):Int)=0
    ·refine Ev.ite_pos z (Ev.ite_pos (b2 ?_) hi2)
     clear hw hw2
     rcases Nat.lt_or_ge (i - 1) a.length with q|q
     ·have:=p1 q;omega
     ·omega
    ·exact Ev.ite_neg z hi2
   ·exact Ev.ite_neg c hi2
 unfold zZ.f
 refine Ev.ite_neg (by omega) (Ev.ite_neg (by omega) ?_)
 exact Ev.step (fun k=>by rw [zZ.j0,if_neg (by rw [decide_eq_true_eq];omega)];rfl) (key t.size 0 (by omega))
theorem qX {toks look:Int} {n:Nat} {L:List Prod'} (h:mayE toks look n L=0):toks≤60:=by
 unfold mayE at h
 by_cases h1:toks < 1∨60 < toks∨n < 1∨500 < n∨L.length < 1∨2000 < L.length∨(L.any fun p=>decide (500 < p.f1.length))=true
 ·rw [if_pos h1] at h;cases h
 ·omega
theorem ofA_tok {toks look:Int} {of:List Int} {L:List Prod'} (hl:∀p ∈ L,p.f1.length≤1000000) (h0:(ofA toks look of.length L).2=0):∀a ∈ (ofA toks look of.length L).1,∀x ∈ a,TokT x:=by
 obtain ⟨hm,-,-⟩:=Zj (toks:=toks) (look:=look) (of:=of) hl h0
 obtain ⟨h1,h2,h3,h4⟩:=ZF hm
 have htk:=qX hm
 have hKe:=K_le h3
 unfold ofA at h0⊢
 rw [if_pos hm] at h0⊢
 cases hh:Zt (catA (mx look 0).toNat) 600 L (600 * of.length + 1) (List.replicate of.length []) with
 | none=>rw [hh] at h0;cases h0
 | some s=>exact loopG_all TokT (fun a b=>tok_cat a b) (fun b hb=>nomatch hb) (toks:=toks) (n:=of.length) (fun k a b=>tok_one k a (by omega)) (Za hKe) (by omega) h4 _ _ _ (Zw 600 of.length) (List.length_replicate ..) hh (fun a ha x hx=>by rw [(List.mem_replicate.1 ha).2] at hx;exact nomatch hx)
theorem followA_whole {toks look:Int} {of:List Int} {L:List Prod'} (hl:∀p ∈ L,p.f1.length≤1000000) (h0:(yv toks look of.length L).2=0):∀a ∈ (yv toks look of.length L).1,∀x ∈ a,Zb look.toNat x:=by
 have hz:=Zj (toks:=toks) (look:=look) (of:=of) hl
 have ht:=ofA_tok (toks:=toks) (look:=look) (of:=of) hl
 unfold yv at h0⊢
 generalize ofA toks look of.length L=X at hz ht h0⊢
 by_cases hx:X.2=0
 ·obtain ⟨hm,hS,hn⟩:=hz hx
  have tF:=ht hx
  obtain ⟨h1,h2,h3,h4⟩:=ZF hm
  have htk:=qX hm
  have hK:(mx look 0).toNat=look.toNat:=by unfold mx;split <;> omega
  rw [if_pos hx] at h0⊢
  cases hh:YC (mx look 0).toNat X.1 L with
  | none=>rw [hh] at h0;cases h0
  | some xs=>
   rw [hh] at h0
   dsimp only at h0⊢
   cases hs:YD (mx look 0).toNat xs (600 * of.length + 1) (YW look of.length) with
   | none=>rw [hs] at h0;cases h0
   | some s=>
    dsimp only
    have hKe:=K_le h3
    obtain ⟨g1,-⟩:=Yc hKe L (n:=of.length) h4 hl xs hh
    have gt:=linksL_toks htk tF hn L h4 xs hh
    obtain ⟨i1,i2⟩:=qA h3 of.length
    have hwi:∀a ∈ YW look of.length,∀x ∈ a,Zb (mx look 0).toNat x:=by
     refine YV (fun a ha x hx=>by rw [(List.mem_replicate.1 ha).2] at hx;exact nomatch hx) 0 fun x hx=> ?_
     rw [List.mem_singleton.1 hx,hK]
     exact whole_zero _
    obtain ⟨-,-,s4,-⟩:=floop_facts hKe xs g1 gt _ _ _ i1 i2 hs hwi
    rw [hK] at s4
    exact s4
 ·rw [if_neg hx] at h0
  exact absurd h0 hx
theorem gAll_whole {K:Nat} {F B:Sets} {toks:Int} {n:Nat} (htoks:toks≤60) (hF:∀a ∈ F,∀x ∈ a,TokT x) (hn:F.length=n) (hB:∀a ∈ B,∀x ∈ a,Zb K x) (hBn:B.length=n):∀(L:List Prod') (g:Sets),L.any (yV toks n)=false→gAll K F B L=some g→∀a ∈ g,∀x ∈ a,Zb K x:=by
 intro L
 induction L with
 | nil=>intro g _ h;obtain rfl:=Option.some.inj h;exact fun a ha=>nomatch ha
 | cons p ps ih=>
  intro g hb h
  rw [List.any_cons,Bool.or_eq_false_iff] at hb
  obtain ⟨hp,hr⟩:=Zi hb.1
  unfold gAll at h
  by_cases h6:600 < (gCat K F B p).length
  ·rw [if_pos h6] at h;cases h
  rw [if_neg h6] at h
  obtain ⟨g2,hg2,rfl⟩:=Option.map_eq_some_iff.1 h
  intro a ha x hx
  rcases List.mem_cons.1 ha with rfl|ha
  ·obtain ⟨u,hu,v,hv,rfl⟩:=qF.1 hx
   refine whole_tc ?_ (hB _ (ZC (by rw [hBn];exact hp)) v hv)
   exact rowG_all (M:=600) (sets:=F) TokT (fun a b=>tok_cat a b) p.f1 [(⟨#[]⟩:ByteArray)] (fun s hs=>Yd hn hF (fun k h1 h2=>tok_one k h1 (by omega)) (any_mem hr hs)) (fun x hx=>by rw [List.mem_singleton.1 hx];exact fun b hb=>nomatch hb) u hu
  ·exact ih g2 hb.2 hg2 a ha x hx
theorem guessA_whole {toks look:Int} {of:List Int} {L:List Prod'} (hl:∀p ∈ L,p.f1.length≤1000000) (h0:(ZK toks look of.length L).2=0):∀a ∈ (ZK toks look of.length L).1,∀x ∈ a,Zb look.toNat x:=by
 have hz:=Zj (toks:=toks) (look:=look) (of:=of) hl
 have ht:=ofA_tok (toks:=toks) (look:=look) (of:=of) hl
 have hf:=followA_whole (toks:=toks) (look:=look) (of:=of) hl
 obtain ⟨hg,-⟩:=qI toks look of L hl
 unfold ZK at h0⊢
 generalize ofA toks look of.length L=X at hz ht h0⊢
 generalize yv toks look of.length L=Y at hf hg h0⊢
 by_cases hx:X.2=0
 ·obtain ⟨hm,hS,hn⟩:=hz hx
  obtain ⟨h1,h2,h3,h4⟩:=ZF hm
  have hK:(mx look 0).toNat=look.toNat:=by unfold mx;split <;> omega
  rw [if_pos hx] at h0⊢
  by_cases hy:Y.2=0
  ·rw [if_pos hy] at h0⊢
   rw [hK] at h0⊢
   cases hh:gAll look.toNat X.1 Y.1 L with
   | none=>rw [hh] at h0;cases h0
   | some g=>exact gAll_whole (qX hm) (ht hx) hn (hf hy) (hg hy).2.2 L g h4 hh
  ·rw [if_neg hy] at h0;exact absurd h0 hy
 ·rw [if_neg hx] at h0;exact absurd h0 hx
theorem prodsA_mem (n:Int):∀(L:List Prod') (i j:Nat) (hj:j < L.length),L[j].f0=n→((i + j:Nat):Int) ∈ ZR n L i:=by
 intro L
 induction L with
 | nil=>intro i j hj;exact absurd hj (Nat.not_lt_zero _)
 | cons p ps ih=>
  intro i j hj h
  unfold ZR
  cases j with
  | zero=>
   have h':p.f0=n:=h
   rw [if_pos h'];exact List.mem_cons_self
  | succ j=>
   have:=ih (i + 1) j (by simpa using hj) h
   rw [show i + 1 + j=i + (j + 1) by omega] at this
   split
   ·exact List.mem_cons_of_mem _ this
   ·exact this
theorem hds_mem {t:ByteArray} {l:List ByteArray} (h:t ∈ l) (hs:0 < t.size):bt t 0 ∈ hds l:=by
 unfold hds
 exact List.mem_filterMap.2 ⟨t,h,if_neg (by omega)⟩
theorem flat_mem (g:Sets) (ps:List Int) {p:Int} (hp:p ∈ ps) {t:ByteArray} (ht:t ∈ ze g p):t ∈ yG.flat g ps:=List.mem_flatMap.2 ⟨p,hp,ht⟩
theorem gw_l1 (toks look:Int) (hlook:1≤look∧look≤4) (of:List Int) (L:List Prod') (S:Sets) (hS:yR 600 S) (hlen:S.length≤1000000) (hw:∀a ∈ S,∀x ∈ a,Zb look.toNat x) (i:Nat) (hi:i < S.length) (h:List Int) (hhl:h.length≤1000000000000) (hh:∀x ∈ ze S (i:Int),bt x 0 ∈ h) (hn:Ev (fun k=>zH.l0 k S ((i + 1:Nat):Int) toks look of L) true):∀(d j:Nat),j + d=(ze S (i:Int)).length→Ev (fun k=>zH.l1 k S i h 0 j toks look of L) true:=by
 have hin:=ZC (sets:=S) (i:=i) (by omega)
 have h6:=(hS _ hin).1.1
 have hw1:wrap64 ((i:Int) + 1)=((i + 1:Nat):Int):=by rw [yW (by omega)];rfl
 intro d
 induction d with
 | zero=>
  intro j hj
  exact Ev.step (fun k=>by rw [zH.l1,if_pos (by clear hw1;omega),if_pos (by clear hw1;omega),if_neg (by clear hw1;omega),hw1]) hn
 | succ d ih=>
  intro j hj
  have hlt:j < (ze S (i:Int)).length:=by clear hw1;omega
  have hw2:wrap64 ((j:Int) + 1)=((j + 1:Nat):Int):=by clear hw1;rw [yW (by omega)];rfl
  have ht:=hw _ hin _ (List.getElem_mem hlt)
  have hm:=may_whole _ look hlook ht
  have hb:=bt_lt (ze S (i:Int))[j] 0
  have hwb:wrap64 (bt (ze S (i:Int))[j] 0)=bt (ze S (i:Int))[j] 0:=yW (by clear hw1 hw2;omega)
  have hmem:=hh _ (List.getElem_mem hlt)
  have hs:=ht.1
  refine Ev.step (fun k=>by rw [zH.l1,if_pos (by clear hw1 hw2 hwb;omega),if_pos (by clear hw1 hw2 hwb;omega),if_pos (by clear hw1 hw2 hwb;omega),if_pos (by clear hw1 hw2 hwb;omega),Zr hlt,hw2,hwb]) ?_
  exact Ev.ite_pos (by rw [hs];clear hw1 hw2 hwb;omega) (Ev.bind hm (Ev.ite_pos rfl (Ev.ite_pos rfl (Ev.ite_pos (by rw [hs];clear hw1 hw2 hwb;omega) (Ev.bind (has_int h _ hhl) (Ev.ite_pos (decide_eq_true hmem) (ih (j + 1) (by clear hw1 hw2 hwb;omega))))))))
theorem gw_l0 (toks look:Int) (hlook:1≤look∧look≤4) (of:List Int) (L:List Prod') (hL:L.length≤1000) (S:Sets) (hS:yR 600 S) (hn:S.length=L.length) (hw:∀a ∈ S,∀x ∈ a,Zb look.toNat x) (hb:L.any (yV toks of.length)=false) (hhd:∀m:Int,¬(m < 0∨(of.length:Int)≤m)→Ev (fun k=>yG.f k toks look of L m) (zt.iset (hds (yG.flat S (ZR m L 0))),0)):∀(d i:Nat),i + d=S.length→Ev (fun k=>zH.l0 k S i toks look of L) true:=by
 intro d
 induction d with
 | zero=>
  intro i hi
  exact Ev.step (fun k=>by rw [zH.l0,if_neg (by omega)]) (Ev.some (by rw [hn];exact beq_self_eq_true _))
 | succ d ih=>
  intro i hi
  have hlt:i < L.length:=by omega
  obtain ⟨hp,-⟩:=prod_of hb hlt
  obtain ⟨p1,p2⟩:=qW L[i].f0 L 0
  have hin:∀p ∈ ZR L[i].f0 L 0,0≤p∧p < (S.length:Int):=fun p hp=>by have:=p1 p hp;omega
  have hfl:=gflat_len S hS _ hin
  have hil:(zt.iset (hds (yG.flat S (ZR L[i].f0 L 0)))).length≤1000000000000:=by
   rw [heads_same]
   exact Nat.le_trans (upTo_length _ _) (by omega)
  have hmem:∀x ∈ ze S (i:Int),bt x 0 ∈ zt.iset (hds (yG.flat S (ZR L[i].f0 L 0))):=fun x hx=>by
   rw [(zt.iset_rises _).2]
   have hm:=prodsA_mem L[i].f0 L 0 i hlt rfl
   rw [Nat.zero_add] at hm
   refine hds_mem (flat_mem S _ hm hx) ?_
   rw [(hw _ (ZC (by omega)) x hx).1];omega
  have h1:=gw_l1 toks look hlook of L S hS (by omega) hw i (by omega) _ hil hmem (ih (i + 1) (by omega)) _ 0 (Nat.zero_add _)
  refine Ev.step (fun k=>by rw [zH.l0,if_pos (by omega),if_pos (by omega),if_pos (by omega),rdP hlt]) ?_
  exact Ev.bind (hhd L[i].f0 (by omega)) h1
theorem GuessWhole:zH.Pure:=by
 intro toks look of L hW
 refine Ev.rounds (g:=fun k=>zH.f k toks look of L) ?_
 unfold zH.f
 clear hW
 have f1:=gfew_ev toks look of L
 have hl:∀p ∈ fewL L,p.f1.length≤1000000:=fun p hp=>by have:=(fewL_le L).2 p hp;omega
 have hl5:∀p ∈ fewL L,p.f1.length≤400000:=fun p hp=>by have:=(fewL_le L).2 p hp;omega
 have hL4:(fewL L).length≤1000:=by have:=(fewL_le L).1;omega
 have o1:=qJ toks look (of.take 8) (fewL L) hl5 (by omega)
 have o2:=fun m=>gheads_ev toks look (of.take 8) (fewL L) m hl5 hL4
 obtain ⟨g1,g2⟩:=Ye toks look (of.take 8) (fewL L) hl
 have gw:=guessA_whole (toks:=toks) (look:=look) (of:=of.take 8) hl
 unfold headsR at o2
 generalize ZK toks look (of.take 8).length (fewL L)=X at o1 o2 g1 g2 gw
 refine Ev.bind guess_works (Ev.ite_pos rfl (Ev.bind f1 (Ev.bind o1 ?_)))
 by_cases h0:X.2=0
 ·obtain ⟨hm,hS,hn⟩:=g1 h0
  obtain ⟨h1,h2,h3,h4⟩:=ZF hm
  refine Ev.ite_pos h0 ?_
  exact gw_l0 toks look h3 (of.take 8) (fewL L) hL4 X.1 hS hn (gw h0) h4 (fun m hm=>by have h:=o2 m;rw [if_pos h0,if_neg hm] at h;exact h) X.1.length 0 (by omega)
 ·exact Ev.ite_neg h0 (Ev.some (by rw [g2 h0];rfl))
end Go.Proofs.YtpfeebmfihgelaaGreat.Pure
