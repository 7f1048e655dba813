-- Written by slim.py for this claim: of the words, what it reaches.
import Derived.Shelf.Strings.Builder1
import Derived.Shelf.Strings.Builder2
import Derived.Shelf.Small.Bits
import Derived.Shelf.Strings.BuilderF
import Derived.Shelf.Strings.BuilderK
import Derived.Shelf.Strings.Builder2Cap
import Derived.Shelf.Strconv.Itoa0
import Derived.Shelf.Sort.Plain
import Derived.Shelf.Strings.Prefix
import Derived.Shelf.Bits.Mul64
import Derived.Shelf.Strings.Repeat
import Derived.Shelf.Strings.BuilderCap
import Derived.Shelf.Slices.Turned
import Derived.Ground.Names2Prog
import Derived.Shelf.Slices.Clone
import Derived.Shelf.Slices.CompactS
import Derived.Shelf.Slices.Cells
import Derived.Shelf.Slices.In.SortNone
import Derived.Test.YtlanhkekjhlmjaaProg
namespace Go.Proofs
open Go.Shelf
def Try.lays190_ren:Go.Shelf.Ren:=⟨fun|190=>60|125=>78|258=>77|128=>95|129=>96|302=>87|303=>88|304=>89|305=>90|306=>91|307=>92|308=>62|309=>93|310=>94|333=>98|329=>99|330=>100|334=>101|335=>102|336=>79|344=>103|n=>n,fun|31=>32|9=>9|3=>3|46=>91|0=>0|51=>110|53=>113|4=>4|183=>134|182=>133|131=>86|5=>5|218=>142|222=>146|228=>148|229=>149|n=>n,fun|n=>n⟩
theorem Try.lays190:Go.Proofs.Lays.n190 Try.prog Try.lays190_ren:= {
  mixed:=by kernel_rfl
  f125:=Try.func78.trans (congrArg some (by kernel_rfl))
  f128:=Try.func95.trans (congrArg some (by kernel_rfl))
  f129:=Try.func96.trans (congrArg some (by kernel_rfl))
  f190:=Try.func60.trans (congrArg some (by kernel_rfl))
  f258:=Try.func77.trans (congrArg some (by kernel_rfl))
  f302:=Try.func87.trans (congrArg some (by kernel_rfl))
  f303:=Try.func88.trans (congrArg some (by kernel_rfl))
  f304:=Try.func89.trans (congrArg some (by kernel_rfl))
  f305:=Try.func90.trans (congrArg some (by kernel_rfl))
  f306:=Try.func91.trans (congrArg some (by kernel_rfl))
  f307:=Try.func92.trans (congrArg some (by kernel_rfl))
  f308:=Try.func62.trans (congrArg some (by kernel_rfl))
  f309:=Try.func93.trans (congrArg some (by kernel_rfl))
  f310:=Try.func94.trans (congrArg some (by kernel_rfl))
  f329:=Try.func99.trans (congrArg some (by kernel_rfl))
  f330:=Try.func100.trans (congrArg some (by kernel_rfl))
  f333:=Try.func98.trans (congrArg some (by kernel_rfl))
  f334:=Try.func101.trans (congrArg some (by kernel_rfl))
  f335:=Try.func102.trans (congrArg some (by kernel_rfl))
  f336:=Try.func79.trans (congrArg some (by kernel_rfl))
  f344:=Try.func103.trans (congrArg some (by kernel_rfl))
  t0:=Try.underlying0
  a0:=Try.isAgg0
  z0:=Try.sizeOf0
  v0:=Try.zeroValue0
  t3:=Try.underlying3
  a3:=Try.isAgg3
  z3:=Try.sizeOf3
  v3:=Try.zeroValue3
  t4:=Try.underlying4
  a4:=Try.isAgg4
  z4:=Try.sizeOf4
  v4:=Try.zeroValue4
  t5:=Try.underlying5
  a5:=Try.isAgg5
  z5:=Try.sizeOf5
  v5:=Try.zeroValue5
  t9:=Try.underlying9
  a9:=Try.isAgg9
  z9:=Try.sizeOf9
  v9:=Try.zeroValue9
  t31:=Try.underlying32
  a31:=Try.isAgg32
  z31:=Try.sizeOf32
  v31:=Try.zeroValue32
  t46:=Try.underlying91
  a46:=Try.isAgg91
  z46:=Try.sizeOf91
  v46:=Try.zeroValue91
  t51:=Try.underlying110
  a51:=Try.isAgg110
  z51:=Try.sizeOf110
  v51:=Try.zeroValue110
  t53:=Try.underlying113
  a53:=Try.isAgg113
  z53:=Try.sizeOf113
  v53:=Try.zeroValue113
  t131:=Try.underlying86
  a131:=Try.isAgg86
  z131:=Try.sizeOf86
  v131:=Try.zeroValue86
  t182:=Try.underlying133
  a182:=Try.isAgg133
  z182:=Try.sizeOf133
  v182:=Try.zeroValue133
  t183:=Try.underlying134
  a183:=Try.isAgg134
  z183:=Try.sizeOf134
  v183:=Try.zeroValue134
  t218:=Try.underlying142
  a218:=Try.isAgg142
  z218:=Try.sizeOf142
  v218:=Try.zeroValue142
  t222:=Try.underlying146
  a222:=Try.isAgg146
  z222:=Try.sizeOf146
  v222:=Try.zeroValue146
  t228:=Try.underlying148
  a228:=Try.isAgg148
  z228:=Try.sizeOf148
  v228:=Try.zeroValue148
  t229:=Try.underlying149
  a229:=Try.isAgg149
  z229:=Try.sizeOf149
  v229:=Try.zeroValue149 }
open Go.Sort Go.RowKit in
theorem Try.slices_Sort_string (blk off cap:Nat) (ss:List (List UInt8)) (w:World) (hH:Holds encStr w blk off ss.toArray) (hblk:blk < w.heap.size) (hsz:ss.length < 4611686018427387904) :
    Calls Try.prog 60 #[.slice (some ⟨blk,off,none⟩) ss.length cap] w fun e w'=>
      e= .returned (.tuple #[])∧∃n os,w'=grow (putRow encStr (Sort.ahead w n) blk off (ss.mergeSort fun x y=>decide (x≤y)).toArray) os:=Any.slices_Sort_string Try.lays190 blk off cap ss w hH hblk hsz
def Try.lays105_ren:Go.Shelf.Ren:=⟨fun|105=>31|212=>49|99=>50|165=>51|166=>52|170=>53|169=>54|263=>65|264=>66|206=>67|240=>68|241=>69|276=>80|277=>81|n=>n,fun|9=>9|3=>3|4=>4|20=>20|0=>0|46=>91|109=>92|5=>5|72=>97|76=>101|51=>110|146=>111|53=>113|148=>114|70=>95|37=>76|75=>100|127=>116|164=>124|80=>104|n=>n,fun|n=>n⟩
theorem Try.lays105:Go.Proofs.Lays.n105 Try.prog Try.lays105_ren:= {
  mixed:=by kernel_rfl
  f99:=Try.func50.trans (congrArg some (by kernel_rfl))
  f105:=Try.func31.trans (congrArg some (by kernel_rfl))
  f165:=Try.func51.trans (congrArg some (by kernel_rfl))
  f166:=Try.func52.trans (congrArg some (by kernel_rfl))
  f169:=Try.func54.trans (congrArg some (by kernel_rfl))
  f170:=Try.func53.trans (congrArg some (by kernel_rfl))
  f206:=Try.func67.trans (congrArg some (by kernel_rfl))
  f212:=Try.func49.trans (congrArg some (by kernel_rfl))
  f240:=Try.func68.trans (congrArg some (by kernel_rfl))
  f241:=Try.func69.trans (congrArg some (by kernel_rfl))
  f263:=Try.func65.trans (congrArg some (by kernel_rfl))
  f264:=Try.func66.trans (congrArg some (by kernel_rfl))
  f276:=Try.func80.trans (congrArg some (by kernel_rfl))
  f277:=Try.func81.trans (congrArg some (by kernel_rfl))
  t0:=Try.underlying0
  a0:=Try.isAgg0
  z0:=Try.sizeOf0
  v0:=Try.zeroValue0
  t3:=Try.underlying3
  a3:=Try.isAgg3
  z3:=Try.sizeOf3
  v3:=Try.zeroValue3
  t4:=Try.underlying4
  a4:=Try.isAgg4
  z4:=Try.sizeOf4
  v4:=Try.zeroValue4
  t5:=Try.underlying5
  a5:=Try.isAgg5
  z5:=Try.sizeOf5
  v5:=Try.zeroValue5
  t9:=Try.underlying9
  a9:=Try.isAgg9
  z9:=Try.sizeOf9
  v9:=Try.zeroValue9
  t20:=Try.underlying20
  a20:=Try.isAgg20
  z20:=Try.sizeOf20
  v20:=Try.zeroValue20
  t37:=Try.underlying76
  a37:=Try.isAgg76
  z37:=Try.sizeOf76
  v37:=Try.zeroValue76
  t46:=Try.underlying91
  a46:=Try.isAgg91
  z46:=Try.sizeOf91
  v46:=Try.zeroValue91
  t51:=Try.underlying110
  a51:=Try.isAgg110
  z51:=Try.sizeOf110
  v51:=Try.zeroValue110
  t53:=Try.underlying113
  a53:=Try.isAgg113
  z53:=Try.sizeOf113
  v53:=Try.zeroValue113
  t70:=Try.underlying95
  a70:=Try.isAgg95
  z70:=Try.sizeOf95
  v70:=Try.zeroValue95
  t72:=Try.underlying97
  a72:=Try.isAgg97
  z72:=Try.sizeOf97
  v72:=Try.zeroValue97
  t75:=Try.underlying100
  a75:=Try.isAgg100
  z75:=Try.sizeOf100
  v75:=Try.zeroValue100
  t76:=Try.underlying101
  a76:=Try.isAgg101
  z76:=Try.sizeOf101
  v76:=Try.zeroValue101
  t109:=Try.underlying92
  a109:=Try.isAgg92
  z109:=Try.sizeOf92
  v109:=Try.zeroValue92
  t127:=Try.underlying116
  a127:=Try.isAgg116
  z127:=Try.sizeOf116
  v127:=Try.zeroValue116
  t146:=Try.underlying111
  a146:=Try.isAgg111
  z146:=Try.sizeOf111
  v146:=Try.zeroValue111
  t148:=Try.underlying114
  a148:=Try.isAgg114
  z148:=Try.sizeOf114
  v148:=Try.zeroValue114
  t164:=Try.underlying124
  a164:=Try.isAgg124
  z164:=Try.sizeOf124
  v164:=Try.zeroValue124 }
theorem Try.Builder_Extra_105:Builder.Extra Try.prog Try.lays105_ren:= {
  sizeBuilder:=by kernel_rfl
  liesBuilder:=by kernel_rfl
  t5:=Try.underlying5
  a5:=Try.isAgg5
  z5:=Try.sizeOf5
  v5:=Try.zeroValue5
  infoByte:=by kernel_rfl
  cellsByte:=by kernel_rfl
  sizeByte:=by kernel_rfl
  neB5:=by decide }
open Go.RowKit Go.Lib in
theorem Try.strings_Repeat (s:ByteArray) (c:Nat) (w:World) (hc:c≤9223372036854775807) (hlen:s.size * c≤140737488355328) :
    Calls Try.prog 31 #[.string s, .int .i64 c] w fun e w'=>e= .returned (.string ⟨(Lib.repeatL s.data.toList c).toArray⟩)∧Below w.heap.size w w':=Any.strings_Repeat Try.lays105 Try.Builder_Extra_105 s c w hc hlen
def Try.laysNm216_ren:Go.Shelf.Ren:=⟨fun|16=>59|n=>n,fun|24=>32|9=>9|4=>4|n=>n,fun|n=>n⟩
theorem Try.laysNm216:Go.Proofs.Lays2.n16 Try.prog Try.laysNm216_ren:= {
  mixed:=by kernel_rfl
  f16:=Try.func59.trans (congrArg some (by kernel_rfl))
  t4:=Try.underlying4
  a4:=Try.isAgg4
  z4:=Try.sizeOf4
  v4:=Try.zeroValue4
  t9:=Try.underlying9
  a9:=Try.isAgg9
  z9:=Try.sizeOf9
  v9:=Try.zeroValue9
  t24:=Try.underlying32
  a24:=Try.isAgg32
  z24:=Try.sizeOf32
  v24:=Try.zeroValue32
  i9:=by kernel_rfl }
open Go.RowKit Go.Lib in
theorem Try.slices_Clone_string (b off n c:Nat) (zs:List ByteArray) (w:World) (hz:n≤zs.length) (hbig:n * 16≤140737488355328) (hc:∀j,j < zs.length→w.cell? ⟨b,off + j,none⟩=some (.string (zs.getD j ByteArray.empty))) :
    Calls Try.prog 59 #[.slice (some ⟨b,off,none⟩) n c] w fun e w'=>∃v',e= .returned v'∧w'.ownsRow w.heap.size 9 1 v' n ((zs.take n).map (Value.string))∧v'≠ .slice none 0 0∧Below w.heap.size w w':=Any.slices_Clone_string Try.laysNm216 b off n c zs w hz hbig hc
open Go.RowKit Go.Lib in
theorem Try.slices_Clone_string_nil (n c:Nat) (w:World) :
    Calls Try.prog 59 #[.slice none n c] w fun e w'=>e= .returned (.slice none 0 0)∧w'=w:=Any.slices_Clone_string_nil Try.laysNm216 n c w
open Go.RowKit Go.Lib in
theorem Try.slices_Clone_string_zero (a:Addr) (c:Nat) (w:World) :
    Calls Try.prog 59 #[.slice (some a) 0 c] w fun e w'=>∃v',e= .returned v'∧w'.ownsRow w.heap.size 9 1 v' 0 []∧v'≠ .slice none 0 0∧Below w.heap.size w w':=Any.slices_Clone_string_zero Try.laysNm216 a c w
def Try.lays194_ren:Go.Shelf.Ren:=⟨fun|194=>61|n=>n,fun|31=>32|9=>9|3=>3|4=>4|0=>0|n=>n,fun|n=>n⟩
theorem Try.lays194:Go.Proofs.Lays.n194 Try.prog Try.lays194_ren:= {
  mixed:=by kernel_rfl
  f194:=Try.func61.trans (congrArg some (by kernel_rfl))
  t0:=Try.underlying0
  a0:=Try.isAgg0
  z0:=Try.sizeOf0
  v0:=Try.zeroValue0
  t3:=Try.underlying3
  a3:=Try.isAgg3
  z3:=Try.sizeOf3
  v3:=Try.zeroValue3
  t4:=Try.underlying4
  a4:=Try.isAgg4
  z4:=Try.sizeOf4
  v4:=Try.zeroValue4
  t9:=Try.underlying9
  a9:=Try.isAgg9
  z9:=Try.sizeOf9
  v9:=Try.zeroValue9
  t31:=Try.underlying32
  a31:=Try.isAgg32
  z31:=Try.sizeOf32
  v31:=Try.zeroValue32 }
open Go.RowKit Go.Lib Go.Sort in
theorem Try.slices_Compact_string (blk off cap:Nat) (zs:List (List UInt8)) (w:World) (hH:Holds encStr w blk off zs.toArray) (hsz:zs.length≤9223372036854775807) (hcap:zs.length≤cap) :
    Calls Try.prog 61 #[.slice (some ⟨blk,off,none⟩) zs.length cap] w fun e w'=>e= .returned (.slice (some ⟨blk,off,none⟩) (Lib.compact zs).length cap)∧∃q,w'=putRow encStr (Sort.ahead w q) blk off (Lib.compact zs ++ List.replicate (zs.length - (Lib.compact zs).length) []).toArray:=Any.slices_Compact_string Try.lays194 blk off cap zs w hH hsz hcap
open Go.RowKit Go.Lib Go.Sort in
theorem Try.slices_Compact_string_empty (a:Option Addr) (cap:Nat) (w:World) :
    Calls Try.prog 61 #[.slice a 0 cap] w fun e w'=>e= .returned (.slice a 0 cap)∧w'=w:=Any.slices_Compact_string_empty Try.lays194 a cap w
open Go.RowKit Go.Sort in
theorem Try.slices_Sort_string_none (p:Option Addr) (cap:Nat) (w:World) :
    Calls Try.prog 60 #[.slice p 0 cap] w fun e w'=>e= .returned (.tuple #[])∧w'=w:=Any.slices_Sort_string_none Try.lays190 p cap w
end Go.Proofs
