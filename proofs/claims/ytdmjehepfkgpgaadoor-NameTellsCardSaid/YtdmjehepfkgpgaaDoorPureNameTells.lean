/- For every text, whether it is a cap, a name or a keyword is as the reference says. No condition. -/
import Derived.Test.YtdmjehepfkgpgaaDoorHNameTellsx
import Derived.Test.YtdmjehepfkgpgaaDoorVPure
namespace Go.Proofs.YtdmjehepfkgpgaaDoor.Pure
open Go.RowKit Go.Plus Go.Proofs.YtdmjehepfkgpgaaDoor.HNameTells Go.Proofs.YtdmjehepfkgpgaaDoorW.PrintWords Go.Proofs.YtdmjehepfkgpgaaDoorW.PrintLast Go.Proofs.YtdmjehepfkgpgaaDoorW.PrintMore
set_option linter.unusedVariables false
set_option linter.unusedSimpArgs false
/-- The letters from a byte on. -/
def letB (lo c : Int) : Bool := decide (lo ≤ c) && decide (c ≤ lo + 25)
def restB (c : Int) : Bool := c == 95 || decide (48 ≤ c) && decide (c ≤ 57)
def allB (lo : Int) (s : ByteArray) : Nat → Bool
  | 0 => true
  | n + 1 => allB lo s n && (letB lo (bt s n) || restB (bt s n))
def speltB (lo : Int) (s : ByteArray) : Bool := decide (0 < s.size) && decide (s.size ≤ 20) && letB lo (bt s 0) && allB lo s s.size
theorem allB_mono (lo : Int) (s : ByteArray) (n m : Nat) (h : n ≤ m) (ha : allB lo s n = false) : allB lo s m = false := by
  induction m with
  | zero => obtain rfl : n = 0 := by omega
            exact ha
  | succ m ih =>
    by_cases e : n = m + 1
    · rw [← e]; exact ha
    · show (allB lo s m && _) = false
      rw [ih (by omega)]; rfl
theorem letters_l0 (lo : Int) (h0 : 0 ≤ lo) (h1 : lo ≤ 200) (s : ByteArray) (hs : s.size ≤ 20) : ∀ (d i : Nat), i + d = s.size → allB lo s i = true → (0 < i → letB lo (bt s 0) = true) →
    Ev (fun k => gramaryeref02_letters.l0 k s lo i) (decide (0 < s.size → letB lo (bt s 0) = true) && allB lo s s.size) := by
  intro d
  induction d with
  | zero =>
    intro i hi ha hl
    obtain rfl : i = s.size := by omega
    rw [ha]
    refine Ev.step (fun k => by rw [gramaryeref02_letters.l0, if_neg (by omega)]) (Ev.some ?_)
    simp only [Bool.and_true]
    exact (decide_eq_true hl).symm
  | succ d ih =>
    intro i hi ha hl
    have hlt : (i : Int) < (s.size : Int) := by omega
    have hm : (lo + 25) % 256 = lo + 25 := by omega
    have hw : wrap64 ((i : Int) + 1) = ((i + 1 : Nat) : Int) := by rw [wrap_id (by omega)]; rfl
    have hstep : allB lo s (i + 1) = (allB lo s i && (letB lo (bt s i) || restB (bt s i))) := rfl
    rw [ha, Bool.true_and] at hstep
    -- what the rest says where this byte is let by
    have go : letB lo (bt s i) = true ∨ (restB (bt s i) = true ∧ i ≠ 0) → Ev (fun k => gramaryeref02_letters.l0 k s lo (i + 1 : Nat)) (decide (0 < s.size → letB lo (bt s 0) = true) && allB lo s s.size) := fun hor => by
      refine ih (i + 1) (by omega) ?_ (fun _ => ?_)
      · rw [hstep]; rcases hor with h | ⟨h, _⟩ <;> rw [h] <;> simp
      · by_cases hi0 : i = 0
        · subst hi0
          rcases hor with h | ⟨_, h⟩
          · exact h
          · exact absurd rfl h
        · exact hl (by omega)
    have stop : letB lo (bt s i) = false → (restB (bt s i) = false ∨ i = 0) → (decide (0 < s.size → letB lo (bt s 0) = true) && allB lo s s.size) = false := fun h2 hor => by
      rcases hor with h3 | h3
      · rw [allB_mono lo s (i + 1) s.size (by omega) (by rw [hstep, h2, h3]; rfl), Bool.and_false]
      · subst h3
        have e : decide (0 < s.size → letB lo (bt s 0) = true) = false := decide_eq_false (fun h => by have := h (by omega); rw [show bt s 0 = bt s ((0 : Nat) : Int) from rfl, h2] at this; cases this)
        rw [e, Bool.false_and]
    have rest0 : restB (bt s i) = (bt s i == 95 || decide (48 ≤ bt s i) && decide (bt s i ≤ 57)) := rfl
    have let0 : letB lo (bt s i) = (decide (lo ≤ bt s i) && decide (bt s i ≤ lo + 25)) := rfl
    clear hstep
    have tail : letB lo (bt s i) = false → ∀ g : Nat → Option Bool, (∀ k, g k = if (i : Int) = 0 then some false else if bt s i = 95 then gramaryeref02_letters.l0 k s lo (wrap64 ((i : Int) + 1)) else if bt s i < 48 then some false else if bt s i > 57 then some false else gramaryeref02_letters.l0 k s lo (wrap64 ((i : Int) + 1))) → Ev g (decide (0 < s.size → letB lo (bt s 0) = true) && allB lo s s.size) := fun h2 g hg => by
      refine Ev.congr hg ?_
      rw [hw]
      by_cases hi0 : i = 0
      · refine Ev.ite_pos (by omega) (Ev.some (stop h2 (.inr hi0)).symm)
      · refine Ev.ite_neg (by omega) ?_
        by_cases h5 : bt s i = 95
        · refine Ev.ite_pos h5 (go (.inr ⟨by rw [rest0, h5]; rfl, hi0⟩))
        · refine Ev.ite_neg h5 ?_
          by_cases h6 : bt s i < 48
          · refine Ev.ite_pos h6 (Ev.some (stop h2 (.inl ?_)).symm)
            rw [rest0, beq_eq_false_iff_ne.2 h5, decide_eq_false (by omega)]; rfl
          · refine Ev.ite_neg h6 ?_
            by_cases h7 : bt s i > 57
            · refine Ev.ite_pos h7 (Ev.some (stop h2 (.inl ?_)).symm)
              rw [rest0, beq_eq_false_iff_ne.2 h5, decide_eq_false (p := bt s i ≤ 57) (by omega), Bool.and_false]; rfl
            · refine Ev.ite_neg h7 (go (.inr ⟨?_, hi0⟩))
              rw [rest0, decide_eq_true (p := 48 ≤ bt s i) (by omega), decide_eq_true (p := bt s i ≤ 57) (by omega)]; simp
    by_cases h2 : bt s i ≥ lo
    · by_cases h3 : bt s i ≤ lo + 25
      · refine Ev.step (fun k => by rw [gramaryeref02_letters.l0, if_pos hlt, if_pos (by omega), if_pos h2, hm, if_pos h3, hw]) (go (.inl ?_))
        rw [let0, decide_eq_true (p := lo ≤ bt s i) h2, decide_eq_true h3]; rfl
      · refine Ev.step (fun k => by rw [gramaryeref02_letters.l0, if_pos hlt, if_pos (by omega), if_pos h2, hm, if_neg h3]) (tail ?_ _ (fun _ => rfl))
        rw [let0, decide_eq_false h3, Bool.and_false]
    · refine Ev.step (fun k => by rw [gramaryeref02_letters.l0, if_pos hlt, if_pos (by omega), if_neg h2]) (tail ?_ _ (fun _ => rfl))
      rw [let0, decide_eq_false (p := lo ≤ bt s i) h2, Bool.false_and]
theorem letters_ev (lo : Int) (h0 : 0 ≤ lo) (h1 : lo ≤ 200) (s : ByteArray) : Ev (fun k => gramaryeref02_letters.f k s lo) (speltB lo s) := by
  unfold gramaryeref02_letters.f speltB
  by_cases hz : s.size = 0
  · refine Ev.ite_pos (by omega) (Ev.step (fun k => by rw [gramaryeref02_letters.j0, if_pos rfl]) (Ev.some ?_))
    simp [hz]
  · refine Ev.ite_neg (by omega) ?_
    by_cases hb : s.size ≤ 20
    · have := letters_l0 lo h0 h1 s hb s.size 0 (by omega) rfl (fun h => absurd h (by omega))
      have e : (decide (0 < s.size → letB lo (bt s 0) = true) && allB lo s s.size) = (decide (0 < s.size) && decide (s.size ≤ 20) && letB lo (bt s 0) && allB lo s s.size) := by
        have a : decide (0 < s.size) = true := decide_eq_true (by omega)
        have b : decide (s.size ≤ 20) = true := decide_eq_true hb
        rw [a, b]
        congr 1
        cases hl : letB lo (bt s 0) with
        | true => exact decide_eq_true (fun _ => rfl)
        | false => exact decide_eq_false (fun h => by have := h (by omega); cases this)
      rw [e] at this
      refine Ev.step (fun k => by rw [gramaryeref02_letters.j0, if_neg (by simp; omega)]; rfl) this
    · refine Ev.step (fun k => by rw [gramaryeref02_letters.j0, if_pos (by simp; omega)]) (Ev.some ?_)
      rw [decide_eq_false hb]; simp
theorem capAll (s : ByteArray) : ∀ n, name_Cap.all s n = allB 65 s n
  | 0 => rfl
  | n + 1 => by
    show (name_Cap.all s n && (name_Cap.let (bt s n) || name_Cap.rest (bt s n))) = (allB 65 s n && (letB 65 (bt s n) || restB (bt s n)))
    rw [capAll s n]; rfl
theorem capSpelt (s : ByteArray) : name_Cap.spelt s = speltB 65 s := by
  unfold name_Cap.spelt speltB
  rw [capAll]; rfl
theorem nameAll (s : ByteArray) : ∀ n, name_Name.all s n = allB 97 s n
  | 0 => rfl
  | n + 1 => by
    show (name_Name.all s n && (name_Name.let (bt s n) || name_Name.rest (bt s n))) = (allB 97 s n && (letB 97 (bt s n) || restB (bt s n)))
    rw [nameAll s n]; rfl
theorem nameSpelt (s : ByteArray) : name_Name.spelt s = speltB 97 s := by
  unfold name_Name.spelt speltB
  rw [nameAll]; rfl
theorem kwLists : Plus.kwA.toList = [103, 114, 97, 109, 109, 97, 114] ∧ Plus.kwB.toList = [108, 111, 111, 107] ∧ Plus.kwC.toList = [115, 121, 110, 99] ∧ Plus.kwD.toList = [116, 111, 107, 101, 110] := by
  refine ⟨?_, ?_, ?_, ?_⟩ <;> rw [Lib.toList_data] <;> rfl
theorem refKw (s : ByteArray) : gramaryeref02_Keyword.f s = some (Plus.isKw s) := by
  unfold gramaryeref02_Keyword.f Plus.isKw
  obtain ⟨h1, h2, h3, h4⟩ := kwLists
  rw [h1, h2, h3, h4]
  have bc : ∀ a b : List UInt8, (a == b) = (b == a) := fun a b => Bool.eq_iff_iff.2 (by rw [beq_iff_eq, beq_iff_eq]; exact eq_comm)
  by_cases a : s.toList = [103, 114, 97, 109, 109, 97, 114]
  · rw [if_pos a, a]; rfl
  · rw [if_neg a, bc _ s.toList, beq_eq_false_iff_ne.2 a]
    by_cases b : s.toList = [108, 111, 111, 107]
    · rw [if_pos b, b]; rfl
    · rw [if_neg b, bc _ s.toList, beq_eq_false_iff_ne.2 b]
      by_cases c : s.toList = [115, 121, 110, 99]
      · rw [if_pos c, c]; rfl
      · rw [if_neg c, bc _ s.toList, beq_eq_false_iff_ne.2 c, bc _ s.toList]; rfl
theorem works_ev : Ev (fun k => gramaryelaw02_works.f k) true := Ev.of (gramaryelaw02_works.mono) (k := 20) (by kernel_rfl)
theorem NameTells : gramaryelaw02_NameTells.Pure := by
  intro s hs
  refine Ev.rounds (g := fun k => gramaryelaw02_NameTells.f k s) ?_
  unfold gramaryelaw02_NameTells.f
  refine Ev.bind0 (a := speltB 65 s) (by rw [← capSpelt]; rfl) ?_
  refine Ev.bind (a := speltB 65 s) (Ev.bind (letters_ev 65 (by omega) (by omega) s) (Ev.now _)) ?_
  refine Ev.ite_pos (by simp) ?_
  refine Ev.bind0 (a := (speltB 97 s && !Plus.isKw s)) (by rw [← nameSpelt]; rfl) ?_
  refine Ev.bind (a := (speltB 97 s && !Plus.isKw s)) ?_ ?_
  · refine Ev.bind (a := speltB 97 s) (Ev.bind (letters_ev 97 (by omega) (by omega) s) (Ev.now _)) ?_
    cases speltB 97 s
    · exact Ev.ite_neg (by simp) (Ev.now _)
    · exact Ev.ite_pos rfl (Ev.bind0 (refKw s) (Ev.now _))
  refine Ev.ite_pos (by simp) (Ev.bind0 (a := Plus.isKw s) rfl (Ev.bind0 (refKw s) (Ev.ite_pos (by simp) (Ev.bind works_ev (Ev.now _)))))

end Go.Proofs.YtdmjehepfkgpgaaDoor.Pure
