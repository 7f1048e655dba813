-- Written by plus.py for this claim.
import Derived.Test.YtpfeebmfihgelaaGreatProg
import Derived.Below
import Derived.Deep.Draws
import Derived.Deep.AppendLies
import Derived.Maps.AppendAt
import Derived.OwnWalk
import Derived.Laws.BytesArg
import Derived.Laws.MakeOwn
import Derived.Laws.OwnMore
import Derived.Deep.OwnRows
import Derived.Tactics
import Derived.Lib.ConvBytes
import Derived.Laws.Slices
import Derived.WalkKit
import Derived.KernelRfl
import Derived.RowKit3
import Derived.Deep.LoopGhost
import Derived.Deep.QuietTactic
import Derived.BigQuiet
import Derived.WideLaws
import Derived.Deep.DeepCutAuto
import Derived.Deep.CutBlock
import Derived.Deep.RegionHeld3
import Derived.Laws.Rows
import Derived.Lib.AppendStr
import Derived.ArgAppend
import Derived.Laws.IdiomCopy
import Derived.OrdersHeld
import Derived.Laws.BitsLemmas
import Derived.RowKit
import Derived.Laws.Cover1
import Derived.BigQuiet
import Derived.Deep.QuietTactic
import Derived.Deep.RegionHeld3
import Derived.Lib.AppendZeros
import Derived.Lib.Hide
import Derived.Lib.SlicesCompact
import Derived.LoopIn
import Derived.LoopNIn
import Derived.OwnWalkIn
import Derived.RangeFuncBound
import Derived.RangeFuncBox
import Derived.RangeFuncCalls
import Derived.RangeFuncFrom
import Derived.RangeFuncLeaves
import Derived.RangeFuncNested
import Derived.Shelf.RegionOpen
import Derived.Sort.OwnSorted
import Derived.Sort.OwnSortedInts
import Derived.StillTailTactics
import Derived.TacticsInMore
import Derived.Test.YtpfeebmfihgelaaGreatSGuessWholeVPlus
import Derived.Test.YtpfeebmfihgelaaGreatSGuessWholeVSet
import Derived.Test.YtpfeebmfihgelaaGreatSGuessWholeVShelf
import Derived.Test.YtpfeebmfihgelaaGreatSGuessWholeWWords
import Derived.Test.YtpfeebmfihgelaaGreatSGuessWholeWLast
import Derived.Test.YtpfeebmfihgelaaGreatSGuessWholeWTab
import Derived.Test.YtpfeebmfihgelaaGreatSGuessWholeWFour
import Derived.Test.YtpfeebmfihgelaaGreatSGuessWholeWQPut
import Derived.Test.YtpfeebmfihgelaaGreatSGuessWholeWApart
import Derived.Test.YtpfeebmfihgelaaGreatSGuessWholeWArr
import Derived.Test.YtpfeebmfihgelaaGreatSGuessWholeWZeros
import Derived.Test.YtpfeebmfihgelaaGreatSGuessWholeWFoot
import Derived.Test.YtpfeebmfihgelaaGreatSGuessWholeWKept
import Derived.Test.YtpfeebmfihgelaaGreatSGuessWholeWShare
import Derived.Test.YtpfeebmfihgelaaGreatSGuessWholeWN
import Derived.Test.YtpfeebmfihgelaaGreatSGuessWholeWFootNe
import Derived.Test.YtpfeebmfihgelaaGreatSGuessWholeWAt
import Derived.Test.YtpfeebmfihgelaaGreatSGuessWholeWEqStruct
import Derived.Test.YtpfeebmfihgelaaGreatSGuessWholeWRepsOne
import Derived.Test.YtpfeebmfihgelaaGreatSGuessWholeWInv
import Derived.Test.YtpfeebmfihgelaaGreatSGuessWholeWInvWords
import Derived.Test.YtpfeebmfihgelaaGreatSGuessWholeWGuard
import Derived.Test.YtpfeebmfihgelaaGreatSGuessWholeWNEv
import Derived.Test.YtpfeebmfihgelaaGreatSGuessWholeWMore
namespace Go.Proofs.YtpfeebmfihgelaaGreat.HGuessWhole
open Go.RowKit Go.Proofs.YtpfeebmfihgelaaGreatW.PrintWords Go.Proofs.YtpfeebmfihgelaaGreatW.PrintLast Go.Proofs.YtpfeebmfihgelaaGreatW.PrintMore
attribute [local go_sem] ym yn ZG ZH yd ye yo yp   -- for this text's walks alone
set_option linter.unusedVariables false
set_option linter.unusedSimpArgs false
def errW:Option Int→Value
 | none=> .nilIface
 | some c=> .iface 0 (.int .i64 c)
theorem zb:errW none= .nilIface:=rfl
theorem zc (c:Int):errW (some c)= .iface 0 (.int .i64 c):=rfl
theorem info3:(Tryz.prog.info? 3).map (fun i=>(i.zero,i.size,i.bytes))=some (some (.int .i64 0),1,8):=by kernel_rfl
theorem qt:(Tryz.prog.info? 9).map (fun i=>(i.zero,i.size,i.bytes))=some (some (.string ⟨#[]⟩),1,16):=by kernel_rfl
theorem info42:(Tryz.prog.info? 42).map (fun i=>(i.zero,i.size,i.bytes))=some (some (.agg #[(.int .i64 0),(.slice none 0 0)]),2,32):=by kernel_rfl
theorem info43:(Tryz.prog.info? 43).map (fun i=>(i.zero,i.size,i.bytes))=some (some (.slice none 0 0),1,24):=by kernel_rfl
theorem qu:(Tryz.prog.info? 70).map (fun i=>(i.zero,i.size,i.bytes))=some (some (.agg #[(.bool false),(.int .i64 0)]),2,16):=by kernel_rfl
theorem info80:(Tryz.prog.info? 80).map (fun i=>(i.zero,i.size,i.bytes))=some (some (.agg #[(.int .i64 0),(.int .i64 0),(.slice none 0 0)]),3,40):=by kernel_rfl
structure S70 where
 f0:Bool
 f1:Int
def z70:S70:=⟨false,(0:Int)⟩
def k70:Kd S70:=Kd.iso (Kd.pair Kd.bool (Kd.int .i64)) (fun x:S70=>(x.f0,x.f1))
theorem k70_heap:Kd.Heap k70:=Kd.heap_iso _ (Kd.heap_pair Kd.heap_bool (Kd.heap_int .i64))
theorem k70_open {w:World} {x:S70} {cs:List Value} (h:k70.K w x cs):cs= [.bool x.f0, .int .i64 x.f1]:=by
 obtain ⟨_,_,rfl,rfl,rfl⟩:=h
 exact rfl
theorem k70_mkM (w:World) (base:Nat) (ok:Nat→Prop) (x:S70):k70.M w base ok x [.bool x.f0, .int .i64 x.f1]:=⟨[.bool x.f0],[.int .i64 x.f1],rfl,rfl,rfl⟩
def zl (xs:List S70) (i:Int):S70:=xs.getD i.toNat z70
theorem Zq {w:World} {A:Option Addr} {n:Nat} {xs:List S70} (h:Kd.C k70 w A n xs) (i:Int) (h0:0≤i) (h1:i < n):∃ad,A=some ad∧w.cell? (ad.add (i.toNat * 2))=some (.bool (zl xs i).f0)∧w.cell? ⟨(ad.add (i.toNat * 2)).block,(ad.add (i.toNat * 2)).off + 1,none⟩=some (.int .i64 (zl xs i).f1):=by
 obtain ⟨ad,c,e,_,hK,hc0⟩:=Kd.C_get h z70 i h0 h1;have hc:∀j u,c[j]? =some u→w.cell? (ad.add (i.toNat * 2 + j))=some u:=hc0;obtain rfl:=k70_open hK
 exact ⟨ad,e,hc 0 _ rfl,by rw [←YP _ _ 1 (by omega)];exact hc 1 _ rfl⟩
structure S42 where
 f0:Int
 f1:(List S70)
def z42:S42:=⟨(0:Int),([]:List S70)⟩
def k42:Kd S42:=Kd.iso (Kd.pair (Kd.int .i64) (Kd.slice 70 k70)) (fun x:S42=>(x.f0,x.f1))
theorem k42_heap:Kd.Heap k42:=Kd.heap_iso _ (Kd.heap_pair (Kd.heap_int .i64) (Kd.heap_slice 70 k70_heap))
theorem qv {w:World} {x:S42} {cs:List Value} (h:k42.K w x cs):∃A1 c1,cs= [.int .i64 x.f0, .slice A1 x.f1.length c1]∧x.f1.length≤c1∧k70.C w A1 x.f1.length x.f1:=by
 obtain ⟨_,_,rfl,rfl,⟨A1,c1,rfl,l1,g1⟩⟩:=h
 exact ⟨A1,c1,rfl,l1,g1⟩
theorem k42_mk (w:World) (x:S42) {A1:Option Addr} {c1:Nat} (l1:x.f1.length≤c1) (g1:k70.C w A1 x.f1.length x.f1):k42.K w x [.int .i64 x.f0, .slice A1 x.f1.length c1]:=⟨[.int .i64 x.f0],[.slice A1 x.f1.length c1],rfl,rfl,⟨A1,c1,rfl,l1,g1⟩⟩
theorem k42_mkM (w:World) (base:Nat) (ok:Nat→Prop) (x:S42) {v1:Value} (g1:k70.R 70 w base ok v1 x.f1):k42.M w base ok x [.int .i64 x.f0,v1]:=⟨[.int .i64 x.f0],[v1],rfl,rfl,⟨v1,rfl,g1⟩⟩
theorem qS {W:World} {ok:Nat→Prop} {x:S42} {cs:List Value} (h:Kd.FK k42 W ok x cs):∃A1 c1,cs= [.int .i64 x.f0, .slice A1 x.f1.length c1]∧x.f1.length≤c1∧Kd.F k70 W ok A1 x.f1.length x.f1:=by
 obtain ⟨A1,c1,rfl,l1,_⟩:=qv (Kd.FK_now h)
 exact ⟨A1,c1,rfl,l1,(fun W' hW=>by obtain ⟨A1_,c1_,he,l1_,g1_⟩:=qv (h W' hW);injection (Option.some.inj (show some (Value.slice A1 x.f1.length c1)=some (Value.slice A1_ x.f1.length c1_) from congrArg (fun l=>l[1]?) he)) with ha_ _ _;rw [ha_];exact g1_)⟩
theorem k42_mkF (W:World) (ok:Nat→Prop) (x:S42) {A1:Option Addr} {c1:Nat} (l1:x.f1.length≤c1) (g1:Kd.F k70 W ok A1 x.f1.length x.f1):Kd.FK k42 W ok x [.int .i64 x.f0, .slice A1 x.f1.length c1]:=fun W2 hW=>k42_mk W2 x l1 (g1 W2 hW)
def zF (xs:List S42) (i:Int):S42:=xs.getD i.toNat z42
theorem ZX {w:World} {A:Option Addr} {n:Nat} {xs:List S42} (h:Kd.C k42 w A n xs) (i:Int) (h0:0≤i) (h1:i < n):∃ad A1 c1,A=some ad∧w.cell? (ad.add (i.toNat * 2))=some (.int .i64 (zF xs i).f0)∧w.cell? ⟨(ad.add (i.toNat * 2)).block,(ad.add (i.toNat * 2)).off + 1,none⟩=some (.slice A1 (zF xs i).f1.length c1)∧(zF xs i).f1.length≤c1∧k70.C w A1 (zF xs i).f1.length (zF xs i).f1:=by
 obtain ⟨ad,c,e,_,hK,hc0⟩:=Kd.C_get h z42 i h0 h1;have hc:∀j u,c[j]? =some u→w.cell? (ad.add (i.toNat * 2 + j))=some u:=hc0;obtain ⟨A1,c1,rfl,l1,g1⟩:=qv hK
 exact ⟨ad,A1,c1,e,hc 0 _ rfl,by rw [←YP _ _ 1 (by omega)];exact hc 1 _ rfl,l1,g1⟩
def ze (xs:List (List ByteArray)) (i:Int):(List ByteArray):=xs.getD i.toNat ([]:List ByteArray)
theorem Zc {w:World} {A:Option Addr} {n:Nat} {xs:List (List ByteArray)} (h:Kd.C (Kd.slice 9 Kd.string) w A n xs) (i:Int) (h0:0≤i) (h1:i < n):∃ad A0 c0,A=some ad∧w.cell? (ad.add i.toNat)=some (.slice A0 (ze xs i).length c0)∧(ze xs i).length≤c0∧Kd.string.C w A0 (ze xs i).length (ze xs i):=by
 obtain ⟨ad,c,e,_,hK,hc0⟩:=Kd.C_get h ([]:List ByteArray) i h0 h1;have hc:∀j u,c[j]? =some u→w.cell? (ad.add (i.toNat * 1 + j))=some u:=hc0;obtain ⟨A0,c0,rfl,l0,g0⟩:=hK
 exact ⟨ad,A0,c0,e,by have hq:=hc 0 _ rfl;rwa [Nat.mul_one,Nat.add_zero] at hq,l0,g0⟩
structure S25 where
 f0:Int
 f1:Int
 f2:(List Int)
 f3:(List S42)
def k25:Kd S25:=Kd.iso (Kd.pair (Kd.int .i64) (Kd.pair (Kd.int .i64) (Kd.pair (Kd.slice 3 (Kd.int .i64)) (Kd.slice 42 k42)))) (fun x:S25=>(x.f0,x.f1,x.f2,x.f3))
theorem k25_open {w:World} {x:S25} {cs:List Value} (h:k25.K w x cs):∃A2 c2 A3 c3,cs= [.int .i64 x.f0, .int .i64 x.f1, .slice A2 x.f2.length c2, .slice A3 x.f3.length c3]∧x.f2.length≤c2∧(Kd.int .i64).C w A2 x.f2.length x.f2∧x.f3.length≤c3∧k42.C w A3 x.f3.length x.f3:=by
 obtain ⟨_,_,rfl,rfl,⟨_,_,rfl,rfl,⟨_,_,rfl,⟨A2,c2,rfl,l2,g2⟩,⟨A3,c3,rfl,l3,g3⟩⟩⟩⟩:=h
 exact ⟨A2,c2,A3,c3,rfl,l2,g2,l3,g3⟩
structure S80 where
 f0:Int
 f1:Int
 f2:(List ByteArray)
def z80:S80:=⟨(0:Int),(0:Int),([]:List ByteArray)⟩
def k80:Kd S80:=Kd.iso (Kd.pair (Kd.int .i64) (Kd.pair (Kd.int .i64) (Kd.slice 9 Kd.string))) (fun x:S80=>(x.f0,x.f1,x.f2))
theorem k80_open {w:World} {x:S80} {cs:List Value} (h:k80.K w x cs):∃A2 c2,cs= [.int .i64 x.f0, .int .i64 x.f1, .slice A2 x.f2.length c2]∧x.f2.length≤c2∧Kd.string.C w A2 x.f2.length x.f2:=by
 obtain ⟨_,_,rfl,rfl,⟨_,_,rfl,rfl,⟨A2,c2,rfl,l2,g2⟩⟩⟩:=h
 exact ⟨A2,c2,rfl,l2,g2⟩
theorem k80_mkM (w:World) (base:Nat) (ok:Nat→Prop) (x:S80) {v2:Value} (g2:Kd.string.R 9 w base ok v2 x.f2):k80.M w base ok x [.int .i64 x.f0, .int .i64 x.f1,v2]:=⟨[.int .i64 x.f0],[.int .i64 x.f1,v2],rfl,rfl,⟨[.int .i64 x.f1],[v2],rfl,rfl,⟨v2,rfl,g2⟩⟩⟩
def YY (xs:List S80) (i:Int):S80:=xs.getD i.toNat z80
theorem at_T80 {w:World} {A:Option Addr} {n:Nat} {xs:List S80} (h:Kd.C k80 w A n xs) (i:Int) (h0:0≤i) (h1:i < n):∃ad A2 c2,A=some ad∧w.cell? (ad.add (i.toNat * 3))=some (.int .i64 (YY xs i).f0)∧w.cell? ⟨(ad.add (i.toNat * 3)).block,(ad.add (i.toNat * 3)).off + 1,none⟩=some (.int .i64 (YY xs i).f1)∧w.cell? ⟨(ad.add (i.toNat * 3)).block,(ad.add (i.toNat * 3)).off + 2,none⟩=some (.slice A2 (YY xs i).f2.length c2)∧(YY xs i).f2.length≤c2∧Kd.string.C w A2 (YY xs i).f2.length (YY xs i).f2:=by
 obtain ⟨ad,c,e,_,hK,hc0⟩:=Kd.C_get h z80 i h0 h1;have hc:∀j u,c[j]? =some u→w.cell? (ad.add (i.toNat * 3 + j))=some u:=hc0;obtain ⟨A2,c2,rfl,l2,g2⟩:=k80_open hK
 exact ⟨ad,A2,c2,e,hc 0 _ rfl,by rw [←YP _ _ 1 (by omega)];exact hc 1 _ rfl,by rw [←YP _ _ 2 (by omega)];exact hc 2 _ rfl,l2,g2⟩
end Go.Proofs.YtpfeebmfihgelaaGreat.HGuessWhole
