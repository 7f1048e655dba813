-- Written by slim.py for this claim: of the words, what it reaches.
import Derived.Test.YtpfeebmfihgelaaGreatSGuessWholeWMore
import Derived.Test.YtpfeebmfihgelaaGreatSGuessWholeWWords
import Derived.Test.YtpfeebmfihgelaaGreatSGuessWholeWLast
import Derived.Test.YtpfeebmfihgelaaGreatSGuessWholeVPlus
import Derived.Lib.Bytealg
namespace Go.Plus
open Go.RowKit Go.Proofs.YtpfeebmfihgelaaGreatW.PrintWords Go.Proofs.YtpfeebmfihgelaaGreatW.PrintLast Go.Proofs.YtpfeebmfihgelaaGreatW.PrintMore
theorem yW {x:Int} (h: -9223372036854775808≤x∧x≤9223372036854775807):wrap64 x=x:=by unfold wrap64;omega
theorem Ev.ite_pos {α:Type} {c:Prop} [Decidable c] {g f:Nat→Option α} {r:α} (h:c) (k:Ev g r):Ev (fun n=>if c then g n else f n) r:=by
  simp only [if_pos h];exact k
theorem Ev.ite_neg {α:Type} {c:Prop} [Decidable c] {g f:Nat→Option α} {r:α} (h:¬c) (k:Ev f r):Ev (fun n=>if c then g n else f n) r:=by
  simp only [if_neg h];exact k
theorem Ev.some {α:Type} {a r:α} (h:a=r):Ev (fun _=>Option.some a) r:=h▸Ev.now _
theorem Ev.bind0 {α β:Type} {g:Option α} {f:Nat→α→Option β} {a:α} {r:β} (h:g=Option.some a) (k:Ev (fun n=>f n a) r):Ev (fun n=>g.bind (f n)) r:=by
  subst h;exact k
theorem bt_get {s:ByteArray} {i:Nat} (h:i < s.size):bt s (i:Int)=((s.data.toList[i]'(by simpa using h)).toNat:Int):=by
  unfold bt;rw [dif_pos (by simpa using h)];rfl
theorem bt_lt (s:ByteArray) (i:Int):0≤bt s i∧bt s i < 256:=by
  unfold bt;split
  · exact ⟨by omega,by have:=(s[i.toNat]).toNat_lt;omega⟩
  · omega
theorem Zv (s:ByteArray) (a b:Nat):(s.extract a b).data.toList=(s.data.toList.take b).drop a:=by
  simp only [ByteArray.data_extract,Array.toList_extract,List.extract_eq_take_drop,List.drop_take]
theorem yk (s:ByteArray):s.data.toList.length=s.size:=by simp
end Go.Plus
