-- Written by plus.py for this claim.
import Derived.Test.YtlanhkekjhlmjaaProg
import Derived.Below
import Derived.Deep.Draws
import Derived.Deep.AppendLies
import Derived.Maps.AppendAt
import Derived.OwnWalk
import Derived.Laws.BytesArg
import Derived.Laws.MakeOwn
import Derived.Laws.OwnMore
import Derived.Deep.OwnRows
import Derived.Tactics
import Derived.Lib.ConvBytes
import Derived.Laws.Slices
import Derived.WalkKit
import Derived.KernelRfl
import Derived.RowKit3
import Derived.Deep.LoopGhost
import Derived.Deep.QuietTactic
import Derived.BigQuiet
import Derived.WideLaws
import Derived.Deep.DeepCutAuto
import Derived.Deep.CutBlock
import Derived.Deep.RegionHeld3
import Derived.Laws.Rows
import Derived.Lib.AppendStr
import Derived.ArgAppend
import Derived.Laws.IdiomCopy
import Derived.OrdersHeld
import Derived.Laws.BitsLemmas
import Derived.RowKit
import Derived.Laws.Cover1
import Derived.BigQuiet
import Derived.Deep.QuietTactic
import Derived.Deep.RegionHeld3
import Derived.Lib.AppendZeros
import Derived.Lib.Hide
import Derived.Lib.SlicesCompact
import Derived.LoopIn
import Derived.LoopNIn
import Derived.OwnWalkIn
import Derived.RangeFuncBound
import Derived.RangeFuncCalls
import Derived.RangeFuncFrom
import Derived.RangeFuncLeaves
import Derived.RangeFuncNested
import Derived.Shelf.RegionOpen
import Derived.Sort.OwnSorted
import Derived.StillTailTactics
import Derived.TacticsInMore
import Derived.Test.YtlanhkekjhlmjaaSGuessWordsVPlus
import Derived.Test.YtlanhkekjhlmjaaSGuessWordsVSet
import Derived.Test.YtlanhkekjhlmjaaSGuessWordsVShelf
import Derived.Test.YtlanhkekjhlmjaaSGuessWordsWWords
import Derived.Test.YtlanhkekjhlmjaaSGuessWordsWLast
import Derived.Test.YtlanhkekjhlmjaaSGuessWordsWTab
import Derived.Test.YtlanhkekjhlmjaaSGuessWordsWFour
import Derived.Test.YtlanhkekjhlmjaaSGuessWordsWQPut
import Derived.Test.YtlanhkekjhlmjaaSGuessWordsWApart
import Derived.Test.YtlanhkekjhlmjaaSGuessWordsWArr
import Derived.Test.YtlanhkekjhlmjaaSGuessWordsWZeros
import Derived.Test.YtlanhkekjhlmjaaSGuessWordsWFoot
import Derived.Test.YtlanhkekjhlmjaaSGuessWordsWKept
import Derived.Test.YtlanhkekjhlmjaaSGuessWordsWShare
import Derived.Test.YtlanhkekjhlmjaaSGuessWordsWN
import Derived.Test.YtlanhkekjhlmjaaSGuessWordsWFootNe
import Derived.Test.YtlanhkekjhlmjaaSGuessWordsWAt
import Derived.Test.YtlanhkekjhlmjaaSGuessWordsWEqStruct
import Derived.Test.YtlanhkekjhlmjaaSGuessWordsWRepsOne
import Derived.Test.YtlanhkekjhlmjaaSGuessWordsWInv
import Derived.Test.YtlanhkekjhlmjaaSGuessWordsWInvWords
import Derived.Test.YtlanhkekjhlmjaaSGuessWordsWGuard
import Derived.Test.YtlanhkekjhlmjaaSGuessWordsWNEv
import Derived.Test.YtlanhkekjhlmjaaSGuessWordsWMore
namespace Go.Proofs.Ytlanhkekjhlmjaa.HGuessWords
open Go.RowKit Go.Proofs.YtlanhkekjhlmjaaW.PrintWords Go.Proofs.YtlanhkekjhlmjaaW.PrintLast Go.Proofs.YtlanhkekjhlmjaaW.PrintMore
attribute [local go_sem] yq yr ZM ZN yj yk yt yu   -- for this text's walks alone
set_option linter.unusedVariables false
set_option linter.unusedSimpArgs false
def errW:Option Int→Value
 | none=> .nilIface
 | some c=> .iface 0 (.int .i64 c)
theorem zS:errW none= .nilIface:=rfl
theorem zT (c:Int):errW (some c)= .iface 0 (.int .i64 c):=rfl
theorem info3:(Try.prog.info? 3).map (fun i=>(i.zero,i.size,i.bytes))=some (some (.int .i64 0),1,8):=by kernel_rfl
theorem info4:(Try.prog.info? 4).map (fun i=>(i.zero,i.size,i.bytes))=some (some (.bool false),1,1):=by kernel_rfl
theorem Zu:(Try.prog.info? 9).map (fun i=>(i.zero,i.size,i.bytes))=some (some (.string ⟨#[]⟩),1,16):=by kernel_rfl
theorem info32:(Try.prog.info? 32).map (fun i=>(i.zero,i.size,i.bytes))=some (some (.slice none 0 0),1,24):=by kernel_rfl
theorem info45:(Try.prog.info? 45).map (fun i=>(i.zero,i.size,i.bytes))=some (some (.agg #[(.int .i64 0),(.slice none 0 0)]),2,32):=by kernel_rfl
theorem info51:(Try.prog.info? 51).map (fun i=>(i.zero,i.size,i.bytes))=some (some (.agg #[(.bool false),(.int .i64 0)]),2,16):=by kernel_rfl
theorem info66:(Try.prog.info? 66).map (fun i=>(i.zero,i.size,i.bytes))=some (some (.agg #[(.int .i64 0),(.int .i64 0),(.slice none 0 0)]),3,40):=by kernel_rfl
structure S51 where
 f0:Bool
 f1:Int
def z51:S51:=⟨false,(0:Int)⟩
def k51:Kd S51:=Kd.iso (Kd.pair Kd.bool (Kd.int .i64)) (fun x:S51=>(x.f0,x.f1))
theorem k51_heap:Kd.Heap k51:=Kd.heap_iso _ (Kd.heap_pair Kd.heap_bool (Kd.heap_int .i64))
theorem k51_open {w:World} {x:S51} {cs:List Value} (h:k51.K w x cs):cs= [.bool x.f0, .int .i64 x.f1]:=by
 obtain ⟨_,_,rfl,rfl,rfl⟩:=h
 exact rfl
theorem k51_mkM (w:World) (base:Nat) (ok:Nat→Prop) (x:S51):k51.M w base ok x [.bool x.f0, .int .i64 x.f1]:=⟨[.bool x.f0],[.int .i64 x.f1],rfl,rfl,rfl⟩
def zi (xs:List S51) (i:Int):S51:=xs.getD i.toNat z51
theorem ZF {w:World} {A:Option Addr} {n:Nat} {xs:List S51} (h:Kd.C k51 w A n xs) (i:Int) (h0:0≤i) (h1:i < n):∃ad,A=some ad∧w.cell? (ad.add (i.toNat * 2))=some (.bool (zi xs i).f0)∧w.cell? ⟨(ad.add (i.toNat * 2)).block,(ad.add (i.toNat * 2)).off + 1,none⟩=some (.int .i64 (zi xs i).f1):=by
 obtain ⟨ad,c,e,_,hK,hc0⟩:=Kd.C_get h z51 i h0 h1;have hc:∀j u,c[j]? =some u→w.cell? (ad.add (i.toNat * 2 + j))=some u:=hc0;obtain rfl:=k51_open hK
 exact ⟨ad,e,hc 0 _ rfl,by rw [←Yi _ _ 1 (by omega)];exact hc 1 _ rfl⟩
structure S45 where
 f0:Int
 f1:(List S51)
def z45:S45:=⟨(0:Int),([]:List S51)⟩
def k45:Kd S45:=Kd.iso (Kd.pair (Kd.int .i64) (Kd.slice 51 k51)) (fun x:S45=>(x.f0,x.f1))
theorem k45_heap:Kd.Heap k45:=Kd.heap_iso _ (Kd.heap_pair (Kd.heap_int .i64) (Kd.heap_slice 51 k51_heap))
theorem k45_open {w:World} {x:S45} {cs:List Value} (h:k45.K w x cs):∃A1 c1,cs= [.int .i64 x.f0, .slice A1 x.f1.length c1]∧x.f1.length≤c1∧k51.C w A1 x.f1.length x.f1:=by
 obtain ⟨_,_,rfl,rfl,⟨A1,c1,rfl,l1,g1⟩⟩:=h
 exact ⟨A1,c1,rfl,l1,g1⟩
theorem k45_mk (w:World) (x:S45) {A1:Option Addr} {c1:Nat} (l1:x.f1.length≤c1) (g1:k51.C w A1 x.f1.length x.f1):k45.K w x [.int .i64 x.f0, .slice A1 x.f1.length c1]:=⟨[.int .i64 x.f0],[.slice A1 x.f1.length c1],rfl,rfl,⟨A1,c1,rfl,l1,g1⟩⟩
theorem k45_mkM (w:World) (base:Nat) (ok:Nat→Prop) (x:S45) {v1:Value} (g1:k51.R 51 w base ok v1 x.f1):k45.M w base ok x [.int .i64 x.f0,v1]:=⟨[.int .i64 x.f0],[v1],rfl,rfl,⟨v1,rfl,g1⟩⟩
theorem qj {W:World} {ok:Nat→Prop} {x:S45} {cs:List Value} (h:Kd.FK k45 W ok x cs):∃A1 c1,cs= [.int .i64 x.f0, .slice A1 x.f1.length c1]∧x.f1.length≤c1∧Kd.F k51 W ok A1 x.f1.length x.f1:=by
 obtain ⟨A1,c1,rfl,l1,_⟩:=k45_open (Kd.FK_now h)
 exact ⟨A1,c1,rfl,l1,(fun W' hW=>by obtain ⟨A1_,c1_,he,l1_,g1_⟩:=k45_open (h W' hW);injection (Option.some.inj (show some (Value.slice A1 x.f1.length c1)=some (Value.slice A1_ x.f1.length c1_) from congrArg (fun l=>l[1]?) he)) with ha_ _ _;rw [ha_];exact g1_)⟩
theorem k45_mkF (W:World) (ok:Nat→Prop) (x:S45) {A1:Option Addr} {c1:Nat} (l1:x.f1.length≤c1) (g1:Kd.F k51 W ok A1 x.f1.length x.f1):Kd.FK k45 W ok x [.int .i64 x.f0, .slice A1 x.f1.length c1]:=fun W2 hW=>k45_mk W2 x l1 (g1 W2 hW)
def zD (xs:List S45) (i:Int):S45:=xs.getD i.toNat z45
theorem yv {w:World} {A:Option Addr} {n:Nat} {xs:List S45} (h:Kd.C k45 w A n xs) (i:Int) (h0:0≤i) (h1:i < n):∃ad A1 c1,A=some ad∧w.cell? (ad.add (i.toNat * 2))=some (.int .i64 (zD xs i).f0)∧w.cell? ⟨(ad.add (i.toNat * 2)).block,(ad.add (i.toNat * 2)).off + 1,none⟩=some (.slice A1 (zD xs i).f1.length c1)∧(zD xs i).f1.length≤c1∧k51.C w A1 (zD xs i).f1.length (zD xs i).f1:=by
 obtain ⟨ad,c,e,_,hK,hc0⟩:=Kd.C_get h z45 i h0 h1;have hc:∀j u,c[j]? =some u→w.cell? (ad.add (i.toNat * 2 + j))=some u:=hc0;obtain ⟨A1,c1,rfl,l1,g1⟩:=k45_open hK
 exact ⟨ad,A1,c1,e,hc 0 _ rfl,by rw [←Yi _ _ 1 (by omega)];exact hc 1 _ rfl,l1,g1⟩
def zh (xs:List (List ByteArray)) (i:Int):(List ByteArray):=xs.getD i.toNat ([]:List ByteArray)
theorem ZV {w:World} {A:Option Addr} {n:Nat} {xs:List (List ByteArray)} (h:Kd.C (Kd.slice 9 Kd.string) w A n xs) (i:Int) (h0:0≤i) (h1:i < n):∃ad A0 c0,A=some ad∧w.cell? (ad.add i.toNat)=some (.slice A0 (zh xs i).length c0)∧(zh xs i).length≤c0∧Kd.string.C w A0 (zh xs i).length (zh xs i):=by
 obtain ⟨ad,c,e,_,hK,hc0⟩:=Kd.C_get h ([]:List ByteArray) i h0 h1;have hc:∀j u,c[j]? =some u→w.cell? (ad.add (i.toNat * 1 + j))=some u:=hc0;obtain ⟨A0,c0,rfl,l0,g0⟩:=hK
 exact ⟨ad,A0,c0,e,by have hq:=hc 0 _ rfl;rwa [Nat.mul_one,Nat.add_zero] at hq,l0,g0⟩
structure S25 where
 f0:Int
 f1:Int
 f2:(List Int)
 f3:(List S45)
def k25:Kd S25:=Kd.iso (Kd.pair (Kd.int .i64) (Kd.pair (Kd.int .i64) (Kd.pair (Kd.slice 3 (Kd.int .i64)) (Kd.slice 45 k45)))) (fun x:S25=>(x.f0,x.f1,x.f2,x.f3))
theorem k25_open {w:World} {x:S25} {cs:List Value} (h:k25.K w x cs):∃A2 c2 A3 c3,cs= [.int .i64 x.f0, .int .i64 x.f1, .slice A2 x.f2.length c2, .slice A3 x.f3.length c3]∧x.f2.length≤c2∧(Kd.int .i64).C w A2 x.f2.length x.f2∧x.f3.length≤c3∧k45.C w A3 x.f3.length x.f3:=by
 obtain ⟨_,_,rfl,rfl,⟨_,_,rfl,rfl,⟨_,_,rfl,⟨A2,c2,rfl,l2,g2⟩,⟨A3,c3,rfl,l3,g3⟩⟩⟩⟩:=h
 exact ⟨A2,c2,A3,c3,rfl,l2,g2,l3,g3⟩
structure S66 where
 f0:Int
 f1:Int
 f2:(List ByteArray)
def z66:S66:=⟨(0:Int),(0:Int),([]:List ByteArray)⟩
def k66:Kd S66:=Kd.iso (Kd.pair (Kd.int .i64) (Kd.pair (Kd.int .i64) (Kd.slice 9 Kd.string))) (fun x:S66=>(x.f0,x.f1,x.f2))
theorem k66_open {w:World} {x:S66} {cs:List Value} (h:k66.K w x cs):∃A2 c2,cs= [.int .i64 x.f0, .int .i64 x.f1, .slice A2 x.f2.length c2]∧x.f2.length≤c2∧Kd.string.C w A2 x.f2.length x.f2:=by
 obtain ⟨_,_,rfl,rfl,⟨_,_,rfl,rfl,⟨A2,c2,rfl,l2,g2⟩⟩⟩:=h
 exact ⟨A2,c2,rfl,l2,g2⟩
theorem k66_mkM (w:World) (base:Nat) (ok:Nat→Prop) (x:S66) {v2:Value} (g2:Kd.string.R 9 w base ok v2 x.f2):k66.M w base ok x [.int .i64 x.f0, .int .i64 x.f1,v2]:=⟨[.int .i64 x.f0],[.int .i64 x.f1,v2],rfl,rfl,⟨[.int .i64 x.f1],[v2],rfl,rfl,⟨v2,rfl,g2⟩⟩⟩
def Yt (xs:List S66) (i:Int):S66:=xs.getD i.toNat z66
theorem at_T66 {w:World} {A:Option Addr} {n:Nat} {xs:List S66} (h:Kd.C k66 w A n xs) (i:Int) (h0:0≤i) (h1:i < n):∃ad A2 c2,A=some ad∧w.cell? (ad.add (i.toNat * 3))=some (.int .i64 (Yt xs i).f0)∧w.cell? ⟨(ad.add (i.toNat * 3)).block,(ad.add (i.toNat * 3)).off + 1,none⟩=some (.int .i64 (Yt xs i).f1)∧w.cell? ⟨(ad.add (i.toNat * 3)).block,(ad.add (i.toNat * 3)).off + 2,none⟩=some (.slice A2 (Yt xs i).f2.length c2)∧(Yt xs i).f2.length≤c2∧Kd.string.C w A2 (Yt xs i).f2.length (Yt xs i).f2:=by
 obtain ⟨ad,c,e,_,hK,hc0⟩:=Kd.C_get h z66 i h0 h1;have hc:∀j u,c[j]? =some u→w.cell? (ad.add (i.toNat * 3 + j))=some u:=hc0;obtain ⟨A2,c2,rfl,l2,g2⟩:=k66_open hK
 exact ⟨ad,A2,c2,e,hc 0 _ rfl,by rw [←Yi _ _ 1 (by omega)];exact hc 1 _ rfl,by rw [←Yi _ _ 2 (by omega)];exact hc 2 _ rfl,l2,g2⟩
end Go.Proofs.Ytlanhkekjhlmjaa.HGuessWords
