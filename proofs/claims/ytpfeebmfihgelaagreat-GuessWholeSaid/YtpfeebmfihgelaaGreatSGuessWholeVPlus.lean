-- Written by slim.py for this claim: of the words, what it reaches.
import Derived.WalkKit
import Derived.Below
import Derived.Deep.Draws
import Derived.ScopeJumps
import Derived.WalkMore
import Derived.WalkSmall
import Derived.Lib.LaidTab
import Derived.Lib.ItoaNum
namespace Go.Plus
open Go Go.RowKit
def jumps (J:Nat→Act→World→Prop) (Q:Exit→Act→World→Prop):Exit→Act→World→Prop
  | .goto l,a,w=>J l a w
  | e,a,w=>Q e a w
section
variable {P : Program} {a : Act} {w : World} {Q : Exit → Act → World → Prop} {J : Nat → Act → World → Prop}
@[go_sem] theorem jumps_goto (l : Nat) : jumps J Q (.goto l) a w = J l a w := rfl
@[go_sem] theorem jumps_normal : jumps J Q .normal a w = Q .normal a w := rfl
@[go_sem] theorem jumps_exit (id : Nat) : jumps J Q (.exit id) a w = Q (.exit id) a w := rfl
@[go_sem] theorem jumps_ret : jumps J Q .ret a w = Q .ret a w := rfl
@[go_sem] theorem jumps_panic (ch : List PanicEntry) : jumps J Q (.panic ch) a w = Q (.panic ch) a w := rfl
end
def intOf:Value→Int| .int _ q=>q|_=>0
def Glob (P:Program) (w:World) (n:String) (cs:Array Value):Prop:=w.var? P n=some cs
theorem Glob.row {P:Program} {w:World} {n:String} {g:Nat} {cs:Array Value} (h:Glob P w n cs) (hg:P.globalNamed n=some g):∃t fr,w.heap[g]? =some (.cells cs t fr):=by
  unfold Glob World.var? at h
  simp only [hg,Option.bind_some] at h
  split at h
  · rename_i cs' t fr e
    cases h
    exact ⟨t,fr,e⟩
  · cases h
theorem Glob.below {P:Program} {w W:World} {n:String} {g:Nat} {cs:Array Value} (h:Glob P w n cs) (hg:P.globalNamed n=some g) (k:Below w.heap.size w W):Glob P W n cs:=by
  obtain ⟨t,fr,e⟩:=h.row hg
  have hlt:g < w.heap.size:=by
    obtain ⟨hlt,_⟩:=Array.getElem?_eq_some_iff.1 e
    exact hlt
  exact var?_below k hg hlt h
structure Kept (p:Prop):Prop where out:p
theorem hide_world {P:Program} {c:Code} {Q:Exit→Act→World→Prop} {a:Act} {w:World} (h:∀W',Kept (w=W')→c.wp P Q a W'):c.wp P Q a w:=h w ⟨rfl⟩
end Go.Plus
