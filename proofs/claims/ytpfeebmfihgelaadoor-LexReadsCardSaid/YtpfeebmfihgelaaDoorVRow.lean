import Derived.Test.YtpfeebmfihgelaaDoorWWords
import Derived.Test.YtpfeebmfihgelaaDoorVPlus
import Derived.LaidLaws
import Derived.LaidHandle
import Derived.LaidMore
import Derived.MakeChecks
import Derived.Lib.LaidTab
import Derived.ChangeArms
import Derived.SizedLaws
import Derived.ChangeSlices
import Derived.Deep.Slices
import Derived.WideShapes
namespace Go.Plus
open Go Go.RowKit Go.Proofs.YtpfeebmfihgelaaDoorW.PrintWords Go.ChangeShapes Go.WideShapes

/-! ### what a row's listed variables hold -/
def strData {H : Type} (ss : List (List UInt8)) : DataW H := .agg (ss.map fun s => .lit (.string s))
theorem cells_of_strs {H : Type} {enc : TypeId × Value → H} {P : Program} {w : World} {base : Nat} {sp : Nat → Bool} {held : Bool} {fuel : Nat} {t e : TypeId} {n : Nat} {cs : List Value} {ss : List (List UInt8)} {p : List MemPlace}
    (ht : P.underlying t = some (.array n e)) (he : P.underlying e = some .string) (hce : P.cellsOf e = 1) (hct : P.cellsOf t = n)
    (h : DataW.trod enc P w base sp held fuel t cs = some (strData ss, p)) : cs = ss.map fun s => Value.string ⟨s.toArray⟩ := by
  cases fuel with
  | zero => simp [DataW.trod] at h
  | succ fuel =>
    simp only [DataW.trod, ht, hce, hct, Nat.mul_one] at h
    split at h
    · rename_i hl
      obtain ⟨xs, hm, hx⟩ := Option.map_eq_some_iff.1 h
      have hxs : xs.map (·.1) = ss.map fun s => (DataW.lit (.string s) : DataW H) := by
        have := congrArg Prod.fst hx
        simpa [strData] using this
      have hxl : xs.length = n := by simpa using Lib.mapM_length hm
      have hzl : ss.length = n := by
        have := congrArg List.length hxs
        simp at this
        omega
      apply List.ext_getElem?
      intro i
      by_cases hi : i < n
      · obtain ⟨b, hb, hf⟩ := Lib.mapM_at hm i i (by simp [hi])
        obtain ⟨z, hc, rfl, _⟩ := DataW.trod_string he hf
        have h1 : cs[i]? = some (.string z) := by
          have := congrArg (·[0]?) hc
          simpa [List.getElem?_take, List.getElem?_drop] using this
        have h2 : (xs.map (·.1))[i]? = some (DataW.lit (.string z.data.toList) : DataW H) := by simp [hb]
        rw [hxs] at h2
        simp only [List.getElem?_map, Option.map_eq_some_iff, DataW.lit.injEq, Lit.string.injEq] at h2
        obtain ⟨z', hz', rfl⟩ := h2
        simp [h1, hz']
      · rw [List.getElem?_eq_none (by omega), List.getElem?_eq_none (by simp; omega)]
    · cases h
theorem glob_strs {P : Program} {W : World} {name : String} {H : Type} {enc : TypeId × Value → H} {base : Nat} {sp : Nat → Bool} {held : Bool} {fuel g : Nat} {t e : TypeId} {n : Nat} {cs : Array Value} {ss : List (List UInt8)} {p : List MemPlace} {out : Array Value}
    (_hg : P.globalNamed name = some g) (hv : W.var? P name = some cs) (hd : DataW.trod enc P W base sp held fuel t cs.toList = some (strData ss, p))
    (ht : P.underlying t = some (.array n e)) (he : P.underlying e = some .string) (hce : P.cellsOf e = 1) (hct : P.cellsOf t = n) (ho : out.toList = ss.map fun s => Value.string ⟨s.toArray⟩) : Glob P W name out := by
  have h := cells_of_strs ht he hce hct hd
  unfold Glob
  rw [hv, ← Array.toArray_toList (xs := cs), h, ← ho]
theorem glob_ints {P : Program} {W : World} {name : String} {H : Type} {enc : TypeId × Value → H} {base : Nat} {sp : Nat → Bool} {held : Bool} {fuel g : Nat} {t e : TypeId} {n : Nat} {k : IntKind} {cs : Array Value} {zs : List Int} {p : List MemPlace} {out : Array Value}
    (_hg : P.globalNamed name = some g) (hv : W.var? P name = some cs) (hd : DataW.trod enc P W base sp held fuel t cs.toList = some (Lib.tabData k zs, p))
    (ht : P.underlying t = some (.array n e)) (he : P.underlying e = some (.int k)) (hce : P.cellsOf e = 1) (hct : P.cellsOf t = n) (ho : out.toList = zs.map fun z => Value.int k z) : Glob P W name out := by
  have h := Lib.cells_of_tab ht he hce hct hd
  unfold Glob
  rw [hv, ← Array.toArray_toList (xs := cs), h, ← ho]

/-! ### arguments of any plain kind, read as the print reads them -/
/-- Whatever reads as data at type t is what the kind d reads, and V holds of it. -/
def Reads {α : Type} (P : Program) (d : Kd α) (V : α → Prop) (t : TypeId) : Prop :=
  ∀ {H : Type} (enc : TypeId × Value → H) (w : World) (base : Nat) (sp : Nat → Bool) (held : Bool) (fuel : Nat) (cs : List Value) (y : DataW H × List MemPlace),
    DataW.trod enc P w base sp held fuel t cs = some y → ∃ x, d.K w x cs ∧ V x
theorem reads_int {P : Program} {t : TypeId} {k : IntKind} (ht : P.underlying t = some (.int k)) : Reads P (Kd.int k) (fun x => (Lit.int k x).wf = true) t := by
  intro H enc w base sp held fuel cs y h
  obtain ⟨z, hc, _, hw⟩ := DataW.trod_int ht h
  exact ⟨z, hc, hw⟩
theorem reads_bool {P : Program} {t : TypeId} (ht : P.underlying t = some .bool) : Reads P Kd.bool (fun _ => True) t := by
  intro H enc w base sp held fuel cs y h
  obtain ⟨b, hc, _⟩ := DataW.trod_bool ht h
  exact ⟨b, hc, trivial⟩
theorem addr_add (a : Addr) (m i : Nat) : (a.add m).add i = a.add (m + i) := by
  unfold Addr.add
  by_cases hm : m = 0 <;> by_cases hi : i = 0 <;> simp [hm, hi, Nat.add_assoc]
theorem reads_string {P : Program} {t : TypeId} (ht : P.underlying t = some .string) : Reads P Kd.string (fun x => x.size ≤ maxLen) t := by
  intro H enc w base sp held fuel cs y h
  obtain ⟨z, hc, _, hw⟩ := DataW.trod_string ht h
  exact ⟨z, hc, hw⟩
theorem reads_slice {α : Type} {P : Program} {d : Kd α} {V : α → Prop} {t e : TypeId} (ht : P.underlying t = some (.slice e)) (he : P.cellsOf e = d.sz) (hd : Reads P d V e) :
    Reads P (Kd.slice e d) (fun xs => xs.length ≤ maxLen ∧ ∀ x ∈ xs, V x) t := by
  intro H enc w base sp held fuel cs y h
  rcases Deep.open_slice ht h with ⟨rfl, _⟩ | ⟨a, len, cap, m, n, D, Pl, rfl, hb, hl, hm, hmm, _, hx⟩
  · exact ⟨[], ⟨none, 0, rfl, Nat.le_refl _, rfl, by simp, fun h => absurd h (by simp)⟩, by simp, by simp⟩
  · have hlen : len ≤ m := by rw [hmm]; split <;> omega
    have key : ∀ l, l ≤ len → ∃ xs : List α, xs.length = l ∧ ∀ (j : Nat) (x : α), xs[j]? = some x → V x ∧ ∃ c, w.cells? base (a.add (j * P.cellsOf e)) (P.cellsOf e) = some c ∧ d.K w x c := by
      intro l
      induction l with
      | zero => exact fun _ => ⟨[], rfl, fun j x hj => by simp at hj⟩
      | succ l ih =>
        intro hle
        obtain ⟨xs, hxl, hxs⟩ := ih (by omega)
        obtain ⟨c, hc, hr⟩ := hx l (by omega)
        obtain ⟨x, hk, hv⟩ := hd enc w base sp held n c _ hr
        refine ⟨xs ++ [x], by simp [hxl], fun j y hj => ?_⟩
        by_cases hjl : j < xs.length
        · rw [List.getElem?_append_left hjl] at hj
          exact hxs j y hj
        · rw [List.getElem?_append_right (by omega)] at hj
          have hj0 : j - xs.length = 0 := by
            apply Decidable.byContradiction
            intro h0
            rw [List.getElem?_eq_none (by simp; omega)] at hj
            cases hj
          rw [hj0] at hj
          obtain rfl : x = y := by simpa using hj
          obtain rfl : j = l := by omega
          exact ⟨hv, c, hc, hk⟩
    obtain ⟨xs, hxl, hxs⟩ := key len (Nat.le_refl _)
    refine ⟨xs, ⟨some a, cap, by rw [hxl], by omega, rfl, by unfold maxLen at hm; omega, fun _ => ⟨a, rfl, fun j x hj => ?_⟩⟩, by omega, fun x hx => ?_⟩
    · obtain ⟨_, c, hc, hk⟩ := hxs j x hj
      refine ⟨c, d.K_len hk, hk, fun i u hi => ?_⟩
      obtain ⟨_, hcl, hcells⟩ := World.cells?_some hc
      obtain ⟨hlt, _⟩ := List.getElem?_eq_some_iff.1 hi
      have h2 := hcells i (by omega)
      rw [hi] at h2
      rw [← h2, he, addr_add]
    · obtain ⟨j, hj⟩ := List.getElem?_of_mem hx
      exact (hxs j x hj).1
/-- The fields from a place on. -/
def ReadsF {α : Type} (P : Program) (d : Kd α) (V : α → Prop) (fs : List Field) (off : Nat) : Prop :=
  ∀ {H : Type} (enc : TypeId × Value → H) (w : World) (base : Nat) (sp : Nat → Bool) (held : Bool) (fuel : Nat) (cs : List Value) (ys : List (DataW H × List MemPlace)),
    (fs.mapM fun f => DataW.trod enc P w base sp held fuel f.type ((cs.drop f.offset).take (P.cellsOf f.type))) = some ys → cs.length = off + d.sz → ∃ x, d.K w x (cs.drop off) ∧ V x
theorem readsF_one {α : Type} {P : Program} {d : Kd α} {V : α → Prop} {f : Field} {off : Nat} (ho : f.offset = off) (hc : P.cellsOf f.type = d.sz) (h : Reads P d V f.type) : ReadsF P d V [f] off := by
  intro H enc w base sp held fuel cs ys hm hl
  simp only [List.mapM_cons, List.mapM_nil, Option.bind_eq_bind, Option.bind_eq_some_iff, Option.pure_def] at hm
  obtain ⟨y, hy, _⟩ := hm
  rw [ho, hc, List.take_of_length_le (by simp; omega)] at hy
  exact h enc w base sp held fuel _ y hy
theorem readsF_cons {α β : Type} {P : Program} {d : Kd α} {d' : Kd β} {V : α → Prop} {V' : β → Prop} {f : Field} {r : List Field} {off off' : Nat} (ho : f.offset = off) (hc : P.cellsOf f.type = d.sz) (ho' : off' = off + d.sz) (h : Reads P d V f.type) (hr : ReadsF P d' V' r off') :
    ReadsF P (Kd.pair d d') (fun x => V x.1 ∧ V' x.2) (f :: r) off := by
  intro H enc w base sp held fuel cs ys hm hl
  simp only [List.mapM_cons, Option.bind_eq_bind, Option.bind_eq_some_iff, Option.pure_def, Option.some.injEq] at hm
  obtain ⟨y, hy, ys', hys, _⟩ := hm
  have hsz : (Kd.pair d d').sz = d.sz + d'.sz := rfl
  rw [hsz] at hl
  obtain ⟨x, hx, hv⟩ := h enc w base sp held fuel _ y hy
  obtain ⟨x', hx', hv'⟩ := hr enc w base sp held fuel cs ys' hys (by omega)
  refine ⟨(x, x'), ⟨(cs.drop f.offset).take (P.cellsOf f.type), cs.drop off', ?_, hx, hx'⟩, hv, hv'⟩
  rw [ho, hc, ho', ← List.drop_drop, List.take_append_drop]
theorem reads_struct {α β : Type} {P : Program} {d : Kd α} {V : α → Prop} {t : TypeId} {fs : Array Field} {g : β → α} (k : α → β) (hk : ∀ x, g (k x) = x) (ht : P.underlying t = some (.struct fs)) (hc : P.cellsOf t = d.sz) (h : ReadsF P d V fs.toList 0) :
    Reads P (Kd.iso d g) (fun x => V (g x)) t := by
  intro H enc w base sp held fuel cs y hy
  cases fuel with
  | zero => simp [DataW.trod] at hy
  | succ n =>
    unfold DataW.trod at hy
    rw [ht] at hy
    simp only at hy
    split at hy
    · rename_i hl
      obtain ⟨xs, hm, _⟩ := Option.map_eq_some_iff.1 hy
      obtain ⟨x, hx, hv⟩ := h enc w base sp held n cs xs hm (by omega)
      refine ⟨k x, ?_, ?_⟩
      · show d.K w (g (k x)) cs
        rw [hk]; simpa using hx
      · show V (g (k x))
        rw [hk]; exact hv
    · cases hy
/-- A row's slice is no longer than its weight allows. -/
theorem sized_any {H : Type} {enc : TypeId × Value → H} {P : Program} {W : World} {base : Nat} {spare : Nat → Bool} {held : Bool} {t e : TypeId} {a : Option Addr} {len cap : Nat} {d : DataW H} {ps : List MemPlace} {ts : List TypeId} {ds : List (DataW H)} {j : Nat}
    (hsz : (DataW.weightsEach P ts ds).all (· ≤ reachBytes) = true) (ht : ts[j]? = some t) (hd : ds[j]? = some d) (hu : P.underlying t = some (.slice e)) {B : Nat} (hB : P.bytesOf e = B)
    (h : DataW.Trod enc P W base spare held t (.slice a len cap) d ps) : len * B ≤ 140737488351232 := by
  obtain ⟨fuel, hf⟩ := h
  rcases Deep.open_slice hu hf with ⟨hcs, _⟩ | ⟨x, l, c, m, n, D, Pl, hcs, _, hl, _, hm, hx, _⟩
  · simp [Value.cells] at hcs
    obtain ⟨rfl, rfl, rfl⟩ := hcs
    simp
  · simp [Value.cells] at hcs
    obtain ⟨rfl, rfl, rfl⟩ := hcs
    obtain ⟨hx, _⟩ := Prod.mk.inj hx
    subst hx
    have z := sized_slice hsz ht hd hu
    rw [hB] at z
    refine Nat.le_trans (Nat.mul_le_mul_right _ ?_) z
    simp
end Go.Plus
