-- Written by slim.py for this claim: of the words, what it reaches.
import Derived.Lib.SlicesCompact
import Derived.Sort.Walk0
namespace Go.Plus
section
variable {α : Type} [Inhabited α] [DecidableEq α] {r s : α → α → Prop}
theorem compact_step (hs:∀x y,s x y↔r x y∧x≠y) (ht:∀x y z,r x y→r y z→r x z) (ha:∀x y,r x y→r y x→x=y) (d:Array α) (hd:∀i j,i < j→j < d.size→r d[i]! d[j]!) :
    ∀m,m≤d.size→(Lib.compactUpTo d m).Pairwise s∧(∀x,x ∈ Lib.compactUpTo d m↔∃j,j < m∧d[j]! =x):=by
  have strans:∀x y z,s x y→s y z→s x z:=fun x y z h k=>by
    obtain ⟨h1,h2⟩:=(hs _ _).1 h
    obtain ⟨k1,k2⟩:=(hs _ _).1 k
    refine (hs _ _).2 ⟨ht _ _ _ h1 k1,fun e=> ?_⟩
    subst e
    exact h2 (ha _ _ h1 k1)
  intro m
  induction m with
  | zero=>intro _;exact ⟨List.Pairwise.nil,fun x=>⟨fun h=>by simp [Lib.compactUpTo] at h,fun ⟨j,hj,_⟩=>by omega⟩⟩
  | succ m ih=>
    intro hm
    obtain ⟨h1,h2⟩:=ih (by omega)
    rw [Lib.compactUpTo_succ]
    by_cases hk:Lib.keeps d m=true
    · rw [if_pos hk]
      refine ⟨List.pairwise_append.2 ⟨h1,by simp,fun x hx y hy=> ?_⟩,fun x=> ?_⟩
      · obtain ⟨j,hj,rfl⟩:=(h2 x).1 hx
        simp only [List.mem_singleton] at hy
        subst hy
        have hkm:m=0∨d[m]! ≠d[m - 1]! :=by
          unfold Lib.keeps at hk
          exact of_decide_eq_true hk
        have hne : d[m]! ≠ d[m - 1]! := by rcases hkm with h | h; · omega
                                           · exact h
        refine (hs _ _).2 ⟨hd j m hj (by omega),fun e=>hne ?_⟩
        by_cases hjm:j=m - 1
        · rw [←hjm];exact e.symm
        · have a1:=hd j (m - 1) (by omega) (by omega)
          have a2:=hd (m - 1) m (by omega) (by omega)
          rw [e] at a1
          exact ha _ _ a1 a2
      · rw [List.mem_append,h2]
        constructor
        · rintro (⟨j,hj,rfl⟩|h)
          · exact ⟨j,by omega,rfl⟩
          · exact ⟨m,by omega,(List.mem_singleton.1 h).symm⟩
        · rintro ⟨j,hj,rfl⟩
          by_cases e:j=m
          · subst e;exact .inr (by simp)
          · exact .inl ⟨j,by omega,rfl⟩
    · rw [if_neg hk,List.append_nil]
      refine ⟨h1,fun x=> ?_⟩
      rw [h2]
      have hkm:0 < m∧d[m]! =d[m - 1]! :=by
        unfold Lib.keeps at hk
        simp at hk
        exact ⟨by omega,hk.2⟩
      constructor
      · rintro ⟨j,hj,rfl⟩;exact ⟨j,by omega,rfl⟩
      · rintro ⟨j,hj,rfl⟩
        by_cases e:j=m
        · subst e;exact ⟨j - 1,by omega,hkm.2.symm⟩
        · exact ⟨j,by omega,rfl⟩
theorem compact_rises (hs:∀x y,s x y↔r x y∧x≠y) (ht:∀x y z,r x y→r y z→r x z) (ha:∀x y,r x y→r y x→x=y) (l:List α) (hl:l.Pairwise r) :
    (Lib.compact l).Pairwise s∧∀x,x ∈ Lib.compact l↔x ∈ l:=by
  have h:=compact_step hs ht ha l.toArray (fun i j hij hj=>by
    have hj':j < l.length:=by simpa using hj
    rw [getElem!_pos l.toArray i (by simp;omega),getElem!_pos l.toArray j hj]
    simp only [List.getElem_toArray]
    exact List.pairwise_iff_getElem.1 hl i j (by omega) hj' hij) l.length (by simp)
  refine ⟨h.1,fun x=> ?_⟩
  unfold Lib.compact
  rw [h.2]
  constructor
  · rintro ⟨j,hj,rfl⟩
    rw [getElem!_pos l.toArray j (by simpa using hj)]
    simp
  · intro hx
    obtain ⟨j,hj,rfl⟩:=List.getElem_of_mem hx
    exact ⟨j,hj,by rw [getElem!_pos l.toArray j (by simpa using hj)];simp⟩
omit [Inhabited α] [DecidableEq α] in
theorem qU (hi:∀x,¬s x x) (ht:∀x y z,s x y→s y z→s x z):∀(a b:List α),a.Pairwise s→b.Pairwise s→(∀x,x ∈ a↔x ∈ b)→a=b
  | [],[],_,_,_=>rfl
  | [],y :: b,_,_,h=>absurd ((h y).2 (by simp)) (by simp)
  | x :: a,[],_,_,h=>absurd ((h x).1 (by simp)) (by simp)
  | x :: a,y :: b,ha,hb,h=>by
    have ha':=List.pairwise_cons.1 ha
    have hb':=List.pairwise_cons.1 hb
    have hxy:x=y:=by
      rcases List.mem_cons.1 ((h x).1 (by simp)) with e|hx
      · exact e
      · rcases List.mem_cons.1 ((h y).2 (by simp)) with e|hy
        · exact e.symm
        · exact absurd (ht _ _ _ (hb'.1 _ hx) (ha'.1 _ hy)) (hi _)
    subst hxy
    congr 1
    refine qU hi ht a b ha'.2 hb'.2 fun z=> ?_
    constructor
    · intro hz
      rcases List.mem_cons.1 ((h z).1 (by simp [hz])) with e|h'
      · subst e;exact absurd (ha'.1 _ hz) (hi _)
      · exact h'
    · intro hz
      rcases List.mem_cons.1 ((h z).2 (by simp [hz])) with e|h'
      · subst e;exact absurd (hb'.1 _ hz) (hi _)
      · exact h'
end
abbrev Txt:=List UInt8
theorem Zo (x:Txt):¬x < x:=List.lt_irrefl x
theorem YT {x y z:Txt} (h:x < y) (k:y < z):x < z:=List.lt_trans h k
theorem qQ (x y z:Txt) (h:x≤y) (k:y≤z):x≤z:=List.le_trans h k
theorem YX (x y:Txt) (h:x≤y) (k:y≤x):x=y:=List.le_antisymm h k
theorem qR (x y:Txt):x≤y∨y≤x:=List.le_total x y
theorem Yz (x y:Txt):x < y↔x≤y∧x≠y:=by
  constructor
  · intro h
    refine ⟨?_,fun e=> ?_⟩
    · rcases qR x y with h'|h'
      · exact h'
      · exact absurd h (List.not_lt.2 h')
    · subst e;exact Zo x h
  · rintro ⟨h,hne⟩
    rcases Decidable.em (x < y) with h'|h'
    · exact h'
    · exact absurd (YX x y h (List.not_lt.1 h')) hne
def tset (l:List Txt):List Txt:=Lib.compact (l.mergeSort fun x y=>decide (x≤y))
def ZW (l:List Txt):Prop:=l.Pairwise (· < ·)
theorem yf (l:List Txt):ZW (tset l)∧∀x,x ∈ tset l↔x ∈ l:=by
  have hs:(l.mergeSort fun x y=>decide (x≤y)).Pairwise (· ≤ ·):=by
    have h:=List.pairwise_mergeSort (le:=fun x y:Txt=>decide (x≤y)) (fun a b c h k=>decide_eq_true (qQ a b c (of_decide_eq_true h) (of_decide_eq_true k))) (fun a b=>by
      rcases qR a b with h|h
      · simp [h]
      · simp [h]) l
    exact h.imp fun h=>of_decide_eq_true h
  have h:=compact_rises (r:=fun x y:Txt=>x≤y) (s:=fun x y=>x < y) Yz qQ YX _ hs
  exact ⟨h.1,fun x=>by unfold tset;rw [h.2,List.mem_mergeSort]⟩
theorem qE {a b:List Txt} (ha:ZW a) (hb:ZW b) (h:∀x,x ∈ a↔x ∈ b):a=b:=qU (s:=fun x y:Txt=>x < y) Zo (fun _ _ _=>YT) a b ha hb h
theorem YM {l:List Txt} (h:ZW l):tset l=l:=qE (yf l).1 h (yf l).2
theorem short_of_subset {α:Type} [DecidableEq α]:∀(a b:List α),a.Pairwise (· ≠ ·)→(∀x ∈ a,x ∈ b)→a.length≤b.length
  | [],_,_,_=>Nat.zero_le _
  | x :: a,b,hn,hs=>by
    have hx:=hs x (List.mem_cons_self ..)
    have hn':=List.pairwise_cons.1 hn
    have:=short_of_subset a (b.erase x) hn'.2 (fun y hy=>(List.mem_erase_of_ne (fun e=>hn'.1 y hy e.symm)).2 (hs y (List.mem_cons_of_mem _ hy)))
    rw [List.length_erase_of_mem hx] at this
    have hpos:0 < b.length:=List.length_pos_of_mem hx
    rw [List.length_cons];omega
theorem qd {a b:List Txt} (h:ZW a) (hs:∀x ∈ a,x ∈ b):a.length≤b.length:=
  short_of_subset a b (List.Pairwise.imp (fun {x y} (k:x < y) (e:x=y)=>Zo y (e▸k)) h) hs
theorem Zz (l:List Txt):(tset l).length≤l.length:=qd (yf l).1 fun x hx=>((yf l).2 x).1 hx
def lower (l:List Txt) (t:Txt):Nat:=(l.takeWhile fun x=>decide (x < t)).length
theorem lower_le (l:List Txt) (t:Txt):lower l t≤l.length:=by
  unfold lower
  induction l with
  | nil=>simp
  | cons x l ih=>
    rw [List.takeWhile_cons]
    split
    · simp only [List.length_cons];omega
    · simp
theorem lower_cons (x:Txt) (l:List Txt) (t:Txt):lower (x :: l) t=if x < t then lower l t + 1 else 0:=by
  unfold lower
  rw [List.takeWhile_cons]
  by_cases h:x < t
  · rw [if_pos (by simpa using h),if_pos h];rfl
  · rw [if_neg (by simpa using h),if_neg h];rfl
theorem Zy {l:List Txt} (h:ZW l) (t:Txt):∀(i:Nat) (hi:i < l.length),l[i] < t↔i < lower l t:=by
  induction l with
  | nil=>intro i hi;simp at hi
  | cons x l ih=>
    have h':=List.pairwise_cons.1 h
    intro i hi
    rw [lower_cons]
    by_cases hx:x < t
    · rw [if_pos hx]
      cases i with
      | zero=>simp [hx]
      | succ i=>
        have:=ih h'.2 i (by simpa using hi)
        simp only [List.getElem_cons_succ]
        rw [this];omega
    · rw [if_neg hx]
      cases i with
      | zero=>simp [hx]
      | succ i=>
        simp only [List.getElem_cons_succ]
        have hxi:x < l[i]'(by simpa using hi):=h'.1 _ (List.getElem_mem _)
        constructor
        · intro hlt;exact absurd (YT hxi hlt) hx
        · intro hlt;omega
def putT (l:List Txt) (t:Txt):List Txt:=if l[lower l t]? =some t then l else l.take (lower l t) ++ t :: l.drop (lower l t)
theorem putT_spec {l:List Txt} (h:ZW l) (t:Txt):ZW (putT l t)∧∀x,x ∈ putT l t↔x ∈ l∨x=t:=by
  unfold putT
  by_cases e:l[lower l t]? =some t
  · rw [if_pos e]
    refine ⟨h,fun x=>⟨fun hx=> .inl hx,?_⟩⟩
    rintro (hx|rfl)
    · exact hx
    · exact List.mem_of_getElem? e
  · rw [if_neg e]
    have hle:=lower_le l t
    refine ⟨?_,fun x=> ?_⟩
    · have hsplit:l.take (lower l t) ++ l.drop (lower l t)=l:=List.take_append_drop _ _
      have h2:ZW (l.take (lower l t) ++ l.drop (lower l t)):=by rw [hsplit];exact h
      have h3:=List.pairwise_append.1 h2
      refine List.pairwise_append.2 ⟨h3.1,List.pairwise_cons.2 ⟨fun y hy=> ?_,h3.2.1⟩,fun x hx y hy=> ?_⟩
      · obtain ⟨j,hj,rfl⟩:=List.getElem_of_mem hy
        rw [List.getElem_drop]
        have hj':lower l t + j < l.length:=by rw [List.length_drop] at hj;omega
        have hn:¬l[lower l t + j] < t:=fun h2=>by have:=(Zy h t (lower l t + j) hj').1 h2;omega
        refine (Yz _ _).2 ⟨List.not_lt.1 hn,fun e2=> ?_⟩
        by_cases hj0:j=0
        · subst hj0
          apply e
          rw [List.getElem?_eq_getElem (by omega)]
          simp only [Nat.add_zero] at e2
          rw [←e2]
        · have hlt:l[lower l t]'(by omega) < l[lower l t + j]:=List.pairwise_iff_getElem.1 h _ _ (by omega) hj' (by omega)
          rw [←e2] at hlt
          have:=(Zy h t (lower l t) (by omega)).1 hlt
          omega
      · obtain ⟨i,hi,rfl⟩:=List.getElem_of_mem hx
        rw [List.length_take] at hi
        have hi':i < l.length:=by omega
        have hxt:(l.take (lower l t))[i]'(by rw [List.length_take];exact hi) < t:=by
          rw [List.getElem_take]
          exact (Zy h t i hi').2 (by omega)
        rcases List.mem_cons.1 hy with rfl|hy
        · exact hxt
        · exact h3.2.2 _ (List.getElem_mem _) _ hy
    · rw [List.mem_append,List.mem_cons]
      have hsplit:x ∈ l↔x ∈ l.take (lower l t)∨x ∈ l.drop (lower l t):=by rw [←List.mem_append,List.take_append_drop]
      rw [hsplit]
      constructor
      · rintro (h|h|h)
        · exact .inl (.inl h)
        · exact .inr h
        · exact .inl (.inr h)
      · rintro ((h|h)|h)
        · exact .inl h
        · exact .inr (.inr h)
        · exact .inr (.inl h)
def Zm (s l:List Txt):List Txt:=l.foldl putT s
theorem Yi:∀(l s:List Txt),ZW s→ZW (Zm s l)∧∀x,x ∈ Zm s l↔x ∈ s∨x ∈ l
  | [],s,h=>⟨h,fun x=>by simp [Zm]⟩
  | t :: l,s,h=>by
    have h1:=putT_spec h t
    have h2:=Yi l (putT s t) h1.1
    refine ⟨h2.1,fun x=> ?_⟩
    show x ∈ Zm (putT s t) l↔_
    rw [h2.2,h1.2,List.mem_cons,or_assoc]
theorem Yk:ZW []:=List.Pairwise.nil
theorem putAll_nil (l:List Txt):Zm [] l=tset l:=qE (Yi l [] Yk).1 (yf l).1 fun x=>by rw [(Yi l [] Yk).2,(yf l).2];simp
theorem tset_congr {a b:List Txt} (h:∀x,x ∈ a↔x ∈ b):tset a=tset b:=qE (yf a).1 (yf b).1 fun x=>by rw [(yf a).2,(yf b).2,h]
end Go.Plus
