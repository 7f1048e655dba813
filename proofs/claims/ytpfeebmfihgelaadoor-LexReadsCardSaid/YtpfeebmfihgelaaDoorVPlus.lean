import Derived.WalkKit
import Derived.Below
import Derived.Deep.Draws
import Derived.ScopeJumps
import Derived.WalkMore
import Derived.WalkSmall
import Derived.Lib.LaidTab
import Derived.Lib.ItoaNum
namespace Go.Plus
open Go Go.RowKit

/-- As Q; by a goto: what is asked at that label. -/
def jumps (J : Nat → Act → World → Prop) (Q : Exit → Act → World → Prop) : Exit → Act → World → Prop
  | .goto l, a, w => J l a w
  | e, a, w => Q e a w

section
variable {P : Program} {a : Act} {w : World} {Q : Exit → Act → World → Prop} {J : Nat → Act → World → Prop}
@[go_sem] theorem jumps_goto (l : Nat) : jumps J Q (.goto l) a w = J l a w := rfl
@[go_sem] theorem jumps_normal : jumps J Q .normal a w = Q .normal a w := rfl
@[go_sem] theorem jumps_exit (id : Nat) : jumps J Q (.exit id) a w = Q (.exit id) a w := rfl
@[go_sem] theorem jumps_ret : jumps J Q .ret a w = Q .ret a w := rfl
@[go_sem] theorem jumps_panic (ch : List PanicEntry) : jumps J Q (.panic ch) a w = Q (.panic ch) a w := rfl

theorem jumps_weak {J' : Nat → Act → World → Prop} (h : ∀ l a w, J l a w → J' l a w) : ∀ e a w, jumps J Q e a w → jumps J' Q e a w := by
  intro e a w hq
  cases e <;> first | exact h _ _ _ hq | exact hq

/-- A scope whose run jumps to labels: what holds at each of them, and a measure that each pass from a label lowers. -/
theorem wp_scope_gotos {c : Code} (J : Nat → Act → World → Prop) (μ : Nat → Act → World → Nat)
    (pass : ∀ l a w, J l a w → ∃ rest, findLabel c l = some (Code.skip.seq rest) ∧ rest.wp P (jumps (fun l' a' w' => J l' a' w' ∧ μ l' a' w' < μ l a w) Q) a w)
    (first : (∀ l rest a w, findLabel c l = some (Code.skip.seq rest) → J l a w → rest.wp P (jumps J Q) a w) → c.wp P (jumps J Q) a w) : (Code.scope c).wp P Q a w := by
  intro b k cs
  have hg : ∀ l rest, findLabel c l = some rest → gotoIn l (.inScope c :: k) = some (.code rest :: .inScope c :: k) := fun l rest h => by simp [gotoIn, h]
  have key : ∀ n l rest a w, μ l a w = n → findLabel c l = some rest → J l a w → ∃ e a' w', Q e a' w' ∧ Arrives P (lone (b.at a (.code rest :: .inScope c :: k)) cs w) b k cs e a' w' := by
    intro n
    induction n using Nat.strongRecOn with
    | _ n ih =>
      intro l rest a w hn hf hJ
      obtain ⟨rest', hf', hp⟩ := pass l a w hJ
      obtain rfl : rest = Code.skip.seq rest' := Option.some.inj (hf.symm.trans hf')
      obtain ⟨e, a₁, w₁, hq, harr⟩ := (wp_seq (wp_skip hp) : (Code.skip.seq rest').wp P _ a w) b (.inScope c :: k) cs
      cases e with
      | normal => exact ⟨.normal, a₁, w₁, hq, Steps.trans harr (.one step_inScope)⟩
      | exit id => exact ⟨.exit id, a₁, w₁, hq, fun k' hk => harr k' (by simp [exitTo, hk])⟩
      | goto l' =>
        obtain ⟨hJ', hlt⟩ := hq
        obtain ⟨rest₂, hf₂, _⟩ := pass l' a₁ w₁ hJ'
        obtain ⟨e₂, a₂, w₂, hq₂, harr₂⟩ := ih _ (by omega) l' (Code.skip.seq rest₂) a₁ w₁ rfl hf₂ hJ'
        exact ⟨e₂, a₂, w₂, hq₂, .of_steps (harr _ (hg _ _ hf₂)) harr₂⟩
      | ret => exact ⟨_, a₁, w₁, hq, harr⟩
      | panic ch => exact ⟨_, a₁, w₁, hq, harr⟩
      | outgrown => exact ⟨_, a₁, w₁, hq, harr⟩
  have pass' : ∀ l rest a w, findLabel c l = some (Code.skip.seq rest) → J l a w → rest.wp P (jumps J Q) a w := by
    intro l rest a w hf hJ
    obtain ⟨rest', hf', hp⟩ := pass l a w hJ
    obtain rfl : rest = rest' := by have h := Option.some.inj (hf.symm.trans hf'); injection h
    exact wp_mono hp (jumps_weak fun _ _ _ h => h.1)
  obtain ⟨e, a₁, w₁, hq, harr⟩ := first pass' b (.inScope c :: k) cs
  cases e with
  | normal => exact ⟨.normal, a₁, w₁, hq, .head step_scope (Steps.trans harr (.one step_inScope))⟩
  | exit id => exact ⟨.exit id, a₁, w₁, hq, fun k' hk => .head step_scope (harr k' (by simp [exitTo, hk]))⟩
  | goto l' =>
    obtain ⟨rest₂, hf₂, _⟩ := pass l' a₁ w₁ hq
    obtain ⟨e₂, a₂, w₂, hq₂, harr₂⟩ := key _ l' (Code.skip.seq rest₂) a₁ w₁ rfl hf₂ hq
    exact ⟨e₂, a₂, w₂, hq₂, .of_steps (.head step_scope (harr _ (hg _ _ hf₂))) harr₂⟩
  | ret => exact ⟨_, a₁, w₁, hq, .of_steps (.one step_scope) harr⟩
  | panic ch => exact ⟨_, a₁, w₁, hq, .of_steps (.one step_scope) harr⟩
  | outgrown => exact ⟨_, a₁, w₁, hq, .of_steps (.one step_scope) harr⟩

/-- The same, with rounds that are counted beside the run. -/
theorem wp_scope_gotosG {c : Code} (J : Nat → Nat → Act → World → Prop)
    (pass : ∀ k l a w, J k l a w → ∃ rest, findLabel c l = some (Code.skip.seq rest) ∧ rest.wp P (jumps (fun l' a' w' => ∃ k', k' < k ∧ J k' l' a' w') Q) a w)
    (first : (∀ k l rest a w, findLabel c l = some (Code.skip.seq rest) → J k l a w → rest.wp P (jumps (fun l a w => ∃ k, J k l a w) Q) a w) → c.wp P (jumps (fun l a w => ∃ k, J k l a w) Q) a w) : (Code.scope c).wp P Q a w := by
  intro b k cs
  have hg : ∀ l rest, findLabel c l = some rest → gotoIn l (.inScope c :: k) = some (.code rest :: .inScope c :: k) := fun l rest h => by simp [gotoIn, h]
  have key : ∀ n l rest a w, findLabel c l = some rest → J n l a w → ∃ e a' w', Q e a' w' ∧ Arrives P (lone (b.at a (.code rest :: .inScope c :: k)) cs w) b k cs e a' w' := by
    intro n
    induction n using Nat.strongRecOn with
    | _ n ih =>
      intro l rest a w hf hJ
      obtain ⟨rest', hf', hp⟩ := pass n l a w hJ
      obtain rfl : rest = Code.skip.seq rest' := Option.some.inj (hf.symm.trans hf')
      obtain ⟨e, a₁, w₁, hq, harr⟩ := (wp_seq (wp_skip hp) : (Code.skip.seq rest').wp P _ a w) b (.inScope c :: k) cs
      cases e with
      | normal => exact ⟨.normal, a₁, w₁, hq, Steps.trans harr (.one step_inScope)⟩
      | exit id => exact ⟨.exit id, a₁, w₁, hq, fun k' hk => harr k' (by simp [exitTo, hk])⟩
      | goto l' =>
        obtain ⟨n', hlt, hJ'⟩ := hq
        obtain ⟨rest₂, hf₂, _⟩ := pass n' l' a₁ w₁ hJ'
        obtain ⟨e₂, a₂, w₂, hq₂, harr₂⟩ := ih n' hlt l' (Code.skip.seq rest₂) a₁ w₁ hf₂ hJ'
        exact ⟨e₂, a₂, w₂, hq₂, .of_steps (harr _ (hg _ _ hf₂)) harr₂⟩
      | ret => exact ⟨_, a₁, w₁, hq, harr⟩
      | panic ch => exact ⟨_, a₁, w₁, hq, harr⟩
      | outgrown => exact ⟨_, a₁, w₁, hq, harr⟩
  have pass' : ∀ n l rest a w, findLabel c l = some (Code.skip.seq rest) → J n l a w → rest.wp P (jumps (fun l a w => ∃ k, J k l a w) Q) a w := by
    intro n l rest a w hf hJ
    obtain ⟨rest', hf', hp⟩ := pass n l a w hJ
    obtain rfl : rest = rest' := by have h := Option.some.inj (hf.symm.trans hf'); injection h
    exact wp_mono hp (jumps_weak fun _ _ _ h => let ⟨k', _, h⟩ := h; ⟨k', h⟩)
  obtain ⟨e, a₁, w₁, hq, harr⟩ := first pass' b (.inScope c :: k) cs
  cases e with
  | normal => exact ⟨.normal, a₁, w₁, hq, .head step_scope (Steps.trans harr (.one step_inScope))⟩
  | exit id => exact ⟨.exit id, a₁, w₁, hq, fun k' hk => .head step_scope (harr k' (by simp [exitTo, hk]))⟩
  | goto l' =>
    obtain ⟨n', hJ'⟩ := hq
    obtain ⟨rest₂, hf₂, _⟩ := pass n' l' a₁ w₁ hJ'
    obtain ⟨e₂, a₂, w₂, hq₂, harr₂⟩ := key n' l' (Code.skip.seq rest₂) a₁ w₁ hf₂ hJ'
    exact ⟨e₂, a₂, w₂, hq₂, .of_steps (.head step_scope (harr _ (hg _ _ hf₂))) harr₂⟩
  | ret => exact ⟨_, a₁, w₁, hq, .of_steps (.one step_scope) harr⟩
  | panic ch => exact ⟨_, a₁, w₁, hq, .of_steps (.one step_scope) harr⟩
  | outgrown => exact ⟨_, a₁, w₁, hq, .of_steps (.one step_scope) harr⟩
end

def intOf : Value → Int | .int _ q => q | _ => 0
theorem ret_int {k : IntKind} {a b : Int} (h : a = b) : Ending.returned (.int k a) = .returned (.int k b) := by rw [h]

/-! ### package variables that are read -/
/-- A package variable holds just these cells. -/
def Glob (P : Program) (w : World) (n : String) (cs : Array Value) : Prop := w.var? P n = some cs
theorem Glob.row {P : Program} {w : World} {n : String} {g : Nat} {cs : Array Value} (h : Glob P w n cs) (hg : P.globalNamed n = some g) : ∃ t fr, w.heap[g]? = some (.cells cs t fr) := by
  unfold Glob World.var? at h
  simp only [hg, Option.bind_some] at h
  split at h
  · rename_i cs' t fr e
    cases h
    exact ⟨t, fr, e⟩
  · cases h
theorem Glob.below {P : Program} {w W : World} {n : String} {g : Nat} {cs : Array Value} (h : Glob P w n cs) (hg : P.globalNamed n = some g) (k : Below w.heap.size w W) : Glob P W n cs := by
  obtain ⟨t, fr, e⟩ := h.row hg
  have hlt : g < w.heap.size := by
    obtain ⟨hlt, _⟩ := Array.getElem?_eq_some_iff.1 e
    exact hlt
  exact var?_below k hg hlt h
def kwA : ByteArray := ⟨#[103, 114, 97, 109, 109, 97, 114]⟩
def kwB : ByteArray := ⟨#[108, 111, 111, 107]⟩
def kwC : ByteArray := ⟨#[115, 121, 110, 99]⟩
def kwD : ByteArray := ⟨#[116, 111, 107, 101, 110]⟩
def kwCells : Array Value := #[.string kwA, .string kwB, .string kwC, .string kwD]
def powCells : Array Value := (Lib.pow10Tab.map fun z => Value.int .u64 z).toArray
/-- Is a text one of the four keywords? -/
def isKw (s : ByteArray) : Bool := kwA.toList == s.toList || kwB.toList == s.toList || kwC.toList == s.toList || kwD.toList == s.toList
/-- A piece of a text, by bounds that are naturals. -/
theorem slice_str {P : Program} {t : TypeId} (ht : P.underlying t = some .string) (s : ByteArray) (a b : Nat) (i j : Int) (hi : i = a) (hj : j = b) (hab : a ≤ b) (hb : b ≤ s.size) (W : World) :
    (Instr.slice t (.string s) (some (.int .i64 i)) (some (.int .i64 j)) none).run P W = .ok (.string (s.extract a b)) W := by
  subst hi hj
  have h := run_slice_string (P := P) W t s .i64 .i64 (a : Int) (b : Int) ht (by omega) (by omega) (by omega)
  rwa [Int.toNat_natCast, Int.toNat_natCast] at h
/-- A walk goes on from any world of which just this is known. -/
theorem at_world {P : Program} {c : Code} {Q : Exit → Act → World → Prop} {a : Act} {w : World} (p : World → Prop) (h1 : p w) (h2 : ∀ w', p w' → c.wp P Q a w') : c.wp P Q a w := h2 w h1
/-- A fact that no simp looks into. -/
structure Kept (p : Prop) : Prop where out : p
/-- The world under a name of its own: the walk then looks at facts alone, not at a long chain of stores. -/
theorem hide_world {P : Program} {c : Code} {Q : Exit → Act → World → Prop} {a : Act} {w : World} (h : ∀ W', Kept (w = W') → c.wp P Q a W') : c.wp P Q a w := h w ⟨rfl⟩
/-- A box of four cells that were all stored, the last one twice. -/
theorem box4 {w W' : World} {g : Nat} {a b c d e a0 b0 c0 d0 : Value}
    (h : ((((w.setCell ⟨g, 0, none⟩ a).setCell ⟨g, 1, none⟩ b).setCell ⟨g, 2, none⟩ c).setCell ⟨g, 3, none⟩ d).setCell ⟨g, 3, none⟩ e = W')
    (h0 : w.cell? ⟨g, 0, none⟩ = some a0) (h1 : w.cell? ⟨g, 1, none⟩ = some b0) (h2 : w.cell? ⟨g, 2, none⟩ = some c0) (h3 : w.cell? ⟨g, 3, none⟩ = some d0) :
    W'.cell? ⟨g, 0, none⟩ = some a ∧ W'.cell? ⟨g, 1, none⟩ = some b ∧ W'.cell? ⟨g, 2, none⟩ = some c ∧ W'.cell? ⟨g, 3, none⟩ = some e := by
  have o : ∀ (V : World) (i j : Nat) (v : Value), i ≠ j → (V.setCell ⟨g, i, none⟩ v).cell? ⟨g, j, none⟩ = V.cell? ⟨g, j, none⟩ := fun V i j v hij => World.cell?_setCell_other V _ _ v (fun h => hij (congrArg Addr.off h))
  have s : ∀ (V : World) (i : Nat) (v : Value) {u : Value}, V.cell? ⟨g, i, none⟩ = some u → (V.setCell ⟨g, i, none⟩ v).cell? ⟨g, i, none⟩ = some v := fun V i v _ hu => World.cell?_setCell_same V _ v hu
  subst h
  refine ⟨?_, ?_, ?_, ?_⟩
  · rw [o _ 3 0 _ (by decide), o _ 3 0 _ (by decide), o _ 2 0 _ (by decide), o _ 1 0 _ (by decide)]
    exact s _ _ _ h0
  · rw [o _ 3 1 _ (by decide), o _ 3 1 _ (by decide), o _ 2 1 _ (by decide)]
    exact s _ _ _ ((o _ 0 1 _ (by decide)).trans h1)
  · rw [o _ 3 2 _ (by decide), o _ 3 2 _ (by decide)]
    exact s _ _ _ ((o _ 1 2 _ (by decide)).trans ((o _ 0 2 _ (by decide)).trans h2))
  · exact s _ _ _ (s _ _ _ ((o _ 2 3 _ (by decide)).trans ((o _ 1 3 _ (by decide)).trans ((o _ 0 3 _ (by decide)).trans h3))))
/-- The arguments spelt another way. -/
theorem calls_congr {P : Program} {f : FuncId} {a b : Array Value} {w : World} {Q : Ending → World → Prop} (h : a = b) (k : Calls P f b w Q) : Calls P f a w Q := h ▸ k
end Go.Plus
