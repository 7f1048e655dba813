-- Written by slim.py for this claim: of the words, what it reaches.
import Derived.Shelf.Strings.Builder1
import Derived.Shelf.Strings.Builder2
import Derived.Shelf.Small.Bits
import Derived.Shelf.Small.Wraps
import Derived.Shelf.Strings.BuilderF
import Derived.Shelf.Strings.BuilderK
import Derived.Shelf.Strings.Builder2Cap
import Derived.Shelf.Strconv.Itoa0
import Derived.Shelf.Sort.Plain
import Derived.Shelf.Strings.Prefix
import Derived.Shelf.Bits.Mul64
import Derived.Shelf.Strings.Repeat
import Derived.Shelf.Strings.BuilderCap
import Derived.Shelf.Slices.Turned
import Derived.Ground.Names2Prog
import Derived.Shelf.Slices.Clone
import Derived.Shelf.Slices.CompactI
import Derived.Shelf.Slices.CompactS
import Derived.Shelf.Slices.SearchI
import Derived.Shelf.Slices.Cells
import Derived.Shelf.Slices.In.SortNone
import Derived.Test.YtpfeebmfihgelaaGreatProg
namespace Go.Proofs
open Go.Shelf
def Tryz.lays189_ren:Go.Shelf.Ren:=⟨fun|189=>58|125=>81|257=>80|128=>103|129=>104|294=>94|295=>95|296=>96|297=>97|298=>98|299=>99|216=>100|300=>101|301=>102|328=>117|329=>118|330=>119|331=>120|332=>121|215=>122|343=>126|n=>n,fun|28=>22|3=>3|46=>91|0=>0|51=>120|53=>123|4=>4|183=>135|182=>134|131=>64|5=>5|9=>9|218=>152|222=>156|228=>161|229=>162|n=>n,fun|n=>n⟩
theorem Tryz.lays189:Go.Proofs.Lays.n189 Tryz.prog Tryz.lays189_ren:= {
  mixed:=by kernel_rfl
  f125:=Tryz.func81.trans (congrArg some (by kernel_rfl))
  f128:=Tryz.func103.trans (congrArg some (by kernel_rfl))
  f129:=Tryz.func104.trans (congrArg some (by kernel_rfl))
  f189:=Tryz.func58.trans (congrArg some (by kernel_rfl))
  f215:=Tryz.func122.trans (congrArg some (by kernel_rfl))
  f216:=Tryz.func100.trans (congrArg some (by kernel_rfl))
  f257:=Tryz.func80.trans (congrArg some (by kernel_rfl))
  f294:=Tryz.func94.trans (congrArg some (by kernel_rfl))
  f295:=Tryz.func95.trans (congrArg some (by kernel_rfl))
  f296:=Tryz.func96.trans (congrArg some (by kernel_rfl))
  f297:=Tryz.func97.trans (congrArg some (by kernel_rfl))
  f298:=Tryz.func98.trans (congrArg some (by kernel_rfl))
  f299:=Tryz.func99.trans (congrArg some (by kernel_rfl))
  f300:=Tryz.func101.trans (congrArg some (by kernel_rfl))
  f301:=Tryz.func102.trans (congrArg some (by kernel_rfl))
  f328:=Tryz.func117.trans (congrArg some (by kernel_rfl))
  f329:=Tryz.func118.trans (congrArg some (by kernel_rfl))
  f330:=Tryz.func119.trans (congrArg some (by kernel_rfl))
  f331:=Tryz.func120.trans (congrArg some (by kernel_rfl))
  f332:=Tryz.func121.trans (congrArg some (by kernel_rfl))
  f343:=Tryz.func126.trans (congrArg some (by kernel_rfl))
  t0:=Tryz.underlying0
  a0:=Tryz.isAgg0
  z0:=Tryz.sizeOf0
  v0:=Tryz.zeroValue0
  t3:=Tryz.underlying3
  a3:=Tryz.isAgg3
  z3:=Tryz.sizeOf3
  v3:=Tryz.zeroValue3
  t4:=Tryz.underlying4
  a4:=Tryz.isAgg4
  z4:=Tryz.sizeOf4
  v4:=Tryz.zeroValue4
  t5:=Tryz.underlying5
  a5:=Tryz.isAgg5
  z5:=Tryz.sizeOf5
  v5:=Tryz.zeroValue5
  t9:=Tryz.underlying9
  a9:=Tryz.isAgg9
  z9:=Tryz.sizeOf9
  v9:=Tryz.zeroValue9
  t28:=Tryz.underlying22
  a28:=Tryz.isAgg22
  z28:=Tryz.sizeOf22
  v28:=Tryz.zeroValue22
  t46:=Tryz.underlying91
  a46:=Tryz.isAgg91
  z46:=Tryz.sizeOf91
  v46:=Tryz.zeroValue91
  t51:=Tryz.underlying120
  a51:=Tryz.isAgg120
  z51:=Tryz.sizeOf120
  v51:=Tryz.zeroValue120
  t53:=Tryz.underlying123
  a53:=Tryz.isAgg123
  z53:=Tryz.sizeOf123
  v53:=Tryz.zeroValue123
  t131:=Tryz.underlying64
  a131:=Tryz.isAgg64
  z131:=Tryz.sizeOf64
  v131:=Tryz.zeroValue64
  t182:=Tryz.underlying134
  a182:=Tryz.isAgg134
  z182:=Tryz.sizeOf134
  v182:=Tryz.zeroValue134
  t183:=Tryz.underlying135
  a183:=Tryz.isAgg135
  z183:=Tryz.sizeOf135
  v183:=Tryz.zeroValue135
  t218:=Tryz.underlying152
  a218:=Tryz.isAgg152
  z218:=Tryz.sizeOf152
  v218:=Tryz.zeroValue152
  t222:=Tryz.underlying156
  a222:=Tryz.isAgg156
  z222:=Tryz.sizeOf156
  v222:=Tryz.zeroValue156
  t228:=Tryz.underlying161
  a228:=Tryz.isAgg161
  z228:=Tryz.sizeOf161
  v228:=Tryz.zeroValue161
  t229:=Tryz.underlying162
  a229:=Tryz.isAgg162
  z229:=Tryz.sizeOf162
  v229:=Tryz.zeroValue162 }
open Go.Sort Go.RowKit in
theorem Tryz.slices_Sort_int (blk off cap:Nat) (zs:List Int) (w:World) (hH:Holds (Value.int .i64) w blk off zs.toArray) (hblk:blk < w.heap.size) (hsz:zs.length < 4611686018427387904) :
    Calls Tryz.prog 58 #[.slice (some ⟨blk,off,none⟩) zs.length cap] w fun e w'=>
      e= .returned (.tuple #[])∧∃n os,w'=grow (putRow (Value.int .i64) (Sort.ahead w n) blk off (zs.mergeSort fun x y=>decide (x≤y)).toArray) os:=Any.slices_Sort_int Tryz.lays189 blk off cap zs w hH hblk hsz
def Tryz.lays190_ren:Go.Shelf.Ren:=⟨fun|190=>72|125=>81|258=>89|128=>103|129=>104|302=>108|303=>109|304=>110|305=>111|306=>112|307=>113|308=>54|309=>114|310=>115|333=>123|329=>118|330=>119|334=>124|335=>125|336=>79|344=>127|n=>n,fun|31=>43|9=>9|3=>3|46=>91|0=>0|51=>120|53=>123|4=>4|183=>135|182=>134|131=>64|5=>5|218=>152|222=>156|228=>161|229=>162|n=>n,fun|n=>n⟩
theorem Tryz.lays190:Go.Proofs.Lays.n190 Tryz.prog Tryz.lays190_ren:= {
  mixed:=by kernel_rfl
  f125:=Tryz.func81.trans (congrArg some (by kernel_rfl))
  f128:=Tryz.func103.trans (congrArg some (by kernel_rfl))
  f129:=Tryz.func104.trans (congrArg some (by kernel_rfl))
  f190:=Tryz.func72.trans (congrArg some (by kernel_rfl))
  f258:=Tryz.func89.trans (congrArg some (by kernel_rfl))
  f302:=Tryz.func108.trans (congrArg some (by kernel_rfl))
  f303:=Tryz.func109.trans (congrArg some (by kernel_rfl))
  f304:=Tryz.func110.trans (congrArg some (by kernel_rfl))
  f305:=Tryz.func111.trans (congrArg some (by kernel_rfl))
  f306:=Tryz.func112.trans (congrArg some (by kernel_rfl))
  f307:=Tryz.func113.trans (congrArg some (by kernel_rfl))
  f308:=Tryz.func54.trans (congrArg some (by kernel_rfl))
  f309:=Tryz.func114.trans (congrArg some (by kernel_rfl))
  f310:=Tryz.func115.trans (congrArg some (by kernel_rfl))
  f329:=Tryz.func118.trans (congrArg some (by kernel_rfl))
  f330:=Tryz.func119.trans (congrArg some (by kernel_rfl))
  f333:=Tryz.func123.trans (congrArg some (by kernel_rfl))
  f334:=Tryz.func124.trans (congrArg some (by kernel_rfl))
  f335:=Tryz.func125.trans (congrArg some (by kernel_rfl))
  f336:=Tryz.func79.trans (congrArg some (by kernel_rfl))
  f344:=Tryz.func127.trans (congrArg some (by kernel_rfl))
  t0:=Tryz.underlying0
  a0:=Tryz.isAgg0
  z0:=Tryz.sizeOf0
  v0:=Tryz.zeroValue0
  t3:=Tryz.underlying3
  a3:=Tryz.isAgg3
  z3:=Tryz.sizeOf3
  v3:=Tryz.zeroValue3
  t4:=Tryz.underlying4
  a4:=Tryz.isAgg4
  z4:=Tryz.sizeOf4
  v4:=Tryz.zeroValue4
  t5:=Tryz.underlying5
  a5:=Tryz.isAgg5
  z5:=Tryz.sizeOf5
  v5:=Tryz.zeroValue5
  t9:=Tryz.underlying9
  a9:=Tryz.isAgg9
  z9:=Tryz.sizeOf9
  v9:=Tryz.zeroValue9
  t31:=Tryz.underlying43
  a31:=Tryz.isAgg43
  z31:=Tryz.sizeOf43
  v31:=Tryz.zeroValue43
  t46:=Tryz.underlying91
  a46:=Tryz.isAgg91
  z46:=Tryz.sizeOf91
  v46:=Tryz.zeroValue91
  t51:=Tryz.underlying120
  a51:=Tryz.isAgg120
  z51:=Tryz.sizeOf120
  v51:=Tryz.zeroValue120
  t53:=Tryz.underlying123
  a53:=Tryz.isAgg123
  z53:=Tryz.sizeOf123
  v53:=Tryz.zeroValue123
  t131:=Tryz.underlying64
  a131:=Tryz.isAgg64
  z131:=Tryz.sizeOf64
  v131:=Tryz.zeroValue64
  t182:=Tryz.underlying134
  a182:=Tryz.isAgg134
  z182:=Tryz.sizeOf134
  v182:=Tryz.zeroValue134
  t183:=Tryz.underlying135
  a183:=Tryz.isAgg135
  z183:=Tryz.sizeOf135
  v183:=Tryz.zeroValue135
  t218:=Tryz.underlying152
  a218:=Tryz.isAgg152
  z218:=Tryz.sizeOf152
  v218:=Tryz.zeroValue152
  t222:=Tryz.underlying156
  a222:=Tryz.isAgg156
  z222:=Tryz.sizeOf156
  v222:=Tryz.zeroValue156
  t228:=Tryz.underlying161
  a228:=Tryz.isAgg161
  z228:=Tryz.sizeOf161
  v228:=Tryz.zeroValue161
  t229:=Tryz.underlying162
  a229:=Tryz.isAgg162
  z229:=Tryz.sizeOf162
  v229:=Tryz.zeroValue162 }
open Go.Sort Go.RowKit in
theorem Tryz.slices_Sort_string (blk off cap:Nat) (ss:List (List UInt8)) (w:World) (hH:Holds encStr w blk off ss.toArray) (hblk:blk < w.heap.size) (hsz:ss.length < 4611686018427387904) :
    Calls Tryz.prog 72 #[.slice (some ⟨blk,off,none⟩) ss.length cap] w fun e w'=>
      e= .returned (.tuple #[])∧∃n os,w'=grow (putRow encStr (Sort.ahead w n) blk off (ss.mergeSort fun x y=>decide (x≤y)).toArray) os:=Any.slices_Sort_string Tryz.lays190 blk off cap ss w hH hblk hsz
def Tryz.lays105_ren:Go.Shelf.Ren:=⟨fun|105=>46|212=>62|99=>63|165=>64|166=>65|170=>66|169=>67|263=>82|264=>83|206=>84|240=>85|241=>86|276=>105|277=>106|n=>n,fun|9=>9|3=>3|4=>4|20=>20|0=>0|46=>91|109=>99|5=>5|72=>103|76=>107|51=>120|146=>121|53=>123|148=>124|70=>101|37=>72|75=>106|127=>126|164=>142|80=>110|n=>n,fun|n=>n⟩
theorem Tryz.lays105:Go.Proofs.Lays.n105 Tryz.prog Tryz.lays105_ren:= {
  mixed:=by kernel_rfl
  f99:=Tryz.func63.trans (congrArg some (by kernel_rfl))
  f105:=Tryz.func46.trans (congrArg some (by kernel_rfl))
  f165:=Tryz.func64.trans (congrArg some (by kernel_rfl))
  f166:=Tryz.func65.trans (congrArg some (by kernel_rfl))
  f169:=Tryz.func67.trans (congrArg some (by kernel_rfl))
  f170:=Tryz.func66.trans (congrArg some (by kernel_rfl))
  f206:=Tryz.func84.trans (congrArg some (by kernel_rfl))
  f212:=Tryz.func62.trans (congrArg some (by kernel_rfl))
  f240:=Tryz.func85.trans (congrArg some (by kernel_rfl))
  f241:=Tryz.func86.trans (congrArg some (by kernel_rfl))
  f263:=Tryz.func82.trans (congrArg some (by kernel_rfl))
  f264:=Tryz.func83.trans (congrArg some (by kernel_rfl))
  f276:=Tryz.func105.trans (congrArg some (by kernel_rfl))
  f277:=Tryz.func106.trans (congrArg some (by kernel_rfl))
  t0:=Tryz.underlying0
  a0:=Tryz.isAgg0
  z0:=Tryz.sizeOf0
  v0:=Tryz.zeroValue0
  t3:=Tryz.underlying3
  a3:=Tryz.isAgg3
  z3:=Tryz.sizeOf3
  v3:=Tryz.zeroValue3
  t4:=Tryz.underlying4
  a4:=Tryz.isAgg4
  z4:=Tryz.sizeOf4
  v4:=Tryz.zeroValue4
  t5:=Tryz.underlying5
  a5:=Tryz.isAgg5
  z5:=Tryz.sizeOf5
  v5:=Tryz.zeroValue5
  t9:=Tryz.underlying9
  a9:=Tryz.isAgg9
  z9:=Tryz.sizeOf9
  v9:=Tryz.zeroValue9
  t20:=Tryz.underlying20
  a20:=Tryz.isAgg20
  z20:=Tryz.sizeOf20
  v20:=Tryz.zeroValue20
  t37:=Tryz.underlying72
  a37:=Tryz.isAgg72
  z37:=Tryz.sizeOf72
  v37:=Tryz.zeroValue72
  t46:=Tryz.underlying91
  a46:=Tryz.isAgg91
  z46:=Tryz.sizeOf91
  v46:=Tryz.zeroValue91
  t51:=Tryz.underlying120
  a51:=Tryz.isAgg120
  z51:=Tryz.sizeOf120
  v51:=Tryz.zeroValue120
  t53:=Tryz.underlying123
  a53:=Tryz.isAgg123
  z53:=Tryz.sizeOf123
  v53:=Tryz.zeroValue123
  t70:=Tryz.underlying101
  a70:=Tryz.isAgg101
  z70:=Tryz.sizeOf101
  v70:=Tryz.zeroValue101
  t72:=Tryz.underlying103
  a72:=Tryz.isAgg103
  z72:=Tryz.sizeOf103
  v72:=Tryz.zeroValue103
  t75:=Tryz.underlying106
  a75:=Tryz.isAgg106
  z75:=Tryz.sizeOf106
  v75:=Tryz.zeroValue106
  t76:=Tryz.underlying107
  a76:=Tryz.isAgg107
  z76:=Tryz.sizeOf107
  v76:=Tryz.zeroValue107
  t109:=Tryz.underlying99
  a109:=Tryz.isAgg99
  z109:=Tryz.sizeOf99
  v109:=Tryz.zeroValue99
  t127:=Tryz.underlying126
  a127:=Tryz.isAgg126
  z127:=Tryz.sizeOf126
  v127:=Tryz.zeroValue126
  t146:=Tryz.underlying121
  a146:=Tryz.isAgg121
  z146:=Tryz.sizeOf121
  v146:=Tryz.zeroValue121
  t148:=Tryz.underlying124
  a148:=Tryz.isAgg124
  z148:=Tryz.sizeOf124
  v148:=Tryz.zeroValue124
  t164:=Tryz.underlying142
  a164:=Tryz.isAgg142
  z164:=Tryz.sizeOf142
  v164:=Tryz.zeroValue142 }
theorem Tryz.Builder_Extra_105:Builder.Extra Tryz.prog Tryz.lays105_ren:= {
  sizeBuilder:=by kernel_rfl
  liesBuilder:=by kernel_rfl
  t5:=Tryz.underlying5
  a5:=Tryz.isAgg5
  z5:=Tryz.sizeOf5
  v5:=Tryz.zeroValue5
  infoByte:=by kernel_rfl
  cellsByte:=by kernel_rfl
  sizeByte:=by kernel_rfl
  neB5:=by decide }
open Go.RowKit Go.Lib in
theorem Tryz.strings_Repeat (s:ByteArray) (c:Nat) (w:World) (hc:c≤9223372036854775807) (hlen:s.size * c≤140737488355328) :
    Calls Tryz.prog 46 #[.string s, .int .i64 c] w fun e w'=>e= .returned (.string ⟨(Lib.repeatL s.data.toList c).toArray⟩)∧Below w.heap.size w w':=Any.strings_Repeat Tryz.lays105 Tryz.Builder_Extra_105 s c w hc hlen
def Tryz.laysNm215_ren:Go.Shelf.Ren:=⟨fun|15=>57|n=>n,fun|22=>22|3=>3|4=>4|n=>n,fun|n=>n⟩
theorem Tryz.laysNm215:Go.Proofs.Lays2.n15 Tryz.prog Tryz.laysNm215_ren:= {
  mixed:=by kernel_rfl
  f15:=Tryz.func57.trans (congrArg some (by kernel_rfl))
  t3:=Tryz.underlying3
  a3:=Tryz.isAgg3
  z3:=Tryz.sizeOf3
  v3:=Tryz.zeroValue3
  t4:=Tryz.underlying4
  a4:=Tryz.isAgg4
  z4:=Tryz.sizeOf4
  v4:=Tryz.zeroValue4
  t22:=Tryz.underlying22
  a22:=Tryz.isAgg22
  z22:=Tryz.sizeOf22
  v22:=Tryz.zeroValue22
  i3:=by kernel_rfl }
open Go.RowKit Go.Lib in
theorem Tryz.slices_Clone_int (b off n c:Nat) (zs:List Int) (w:World) (hz:n≤zs.length) (hbig:n * 8≤140737488355328) (hc:∀j,j < zs.length→w.cell? ⟨b,off + j,none⟩=some (.int .i64 (zs.getD j 0))) :
    Calls Tryz.prog 57 #[.slice (some ⟨b,off,none⟩) n c] w fun e w'=>∃v',e= .returned v'∧w'.ownsRow w.heap.size 3 1 v' n ((zs.take n).map (Value.int .i64))∧v'≠ .slice none 0 0∧Below w.heap.size w w':=Any.slices_Clone_int Tryz.laysNm215 b off n c zs w hz hbig hc
open Go.RowKit Go.Lib in
theorem Tryz.slices_Clone_int_nil (n c:Nat) (w:World) :
    Calls Tryz.prog 57 #[.slice none n c] w fun e w'=>e= .returned (.slice none 0 0)∧w'=w:=Any.slices_Clone_int_nil Tryz.laysNm215 n c w
def Tryz.laysNm216_ren:Go.Shelf.Ren:=⟨fun|16=>71|n=>n,fun|24=>43|9=>9|4=>4|n=>n,fun|n=>n⟩
theorem Tryz.laysNm216:Go.Proofs.Lays2.n16 Tryz.prog Tryz.laysNm216_ren:= {
  mixed:=by kernel_rfl
  f16:=Tryz.func71.trans (congrArg some (by kernel_rfl))
  t4:=Tryz.underlying4
  a4:=Tryz.isAgg4
  z4:=Tryz.sizeOf4
  v4:=Tryz.zeroValue4
  t9:=Tryz.underlying9
  a9:=Tryz.isAgg9
  z9:=Tryz.sizeOf9
  v9:=Tryz.zeroValue9
  t24:=Tryz.underlying43
  a24:=Tryz.isAgg43
  z24:=Tryz.sizeOf43
  v24:=Tryz.zeroValue43
  i9:=by kernel_rfl }
open Go.RowKit Go.Lib in
theorem Tryz.slices_Clone_string (b off n c:Nat) (zs:List ByteArray) (w:World) (hz:n≤zs.length) (hbig:n * 16≤140737488355328) (hc:∀j,j < zs.length→w.cell? ⟨b,off + j,none⟩=some (.string (zs.getD j ByteArray.empty))) :
    Calls Tryz.prog 71 #[.slice (some ⟨b,off,none⟩) n c] w fun e w'=>∃v',e= .returned v'∧w'.ownsRow w.heap.size 9 1 v' n ((zs.take n).map (Value.string))∧v'≠ .slice none 0 0∧Below w.heap.size w w':=Any.slices_Clone_string Tryz.laysNm216 b off n c zs w hz hbig hc
open Go.RowKit Go.Lib in
theorem Tryz.slices_Clone_string_nil (n c:Nat) (w:World) :
    Calls Tryz.prog 71 #[.slice none n c] w fun e w'=>e= .returned (.slice none 0 0)∧w'=w:=Any.slices_Clone_string_nil Tryz.laysNm216 n c w
open Go.RowKit Go.Lib in
theorem Tryz.slices_Clone_int_zero (a:Addr) (c:Nat) (w:World) :
    Calls Tryz.prog 57 #[.slice (some a) 0 c] w fun e w'=>∃v',e= .returned v'∧w'.ownsRow w.heap.size 3 1 v' 0 []∧v'≠ .slice none 0 0∧Below w.heap.size w w':=Any.slices_Clone_int_zero Tryz.laysNm215 a c w
open Go.RowKit Go.Lib in
theorem Tryz.slices_Clone_string_zero (a:Addr) (c:Nat) (w:World) :
    Calls Tryz.prog 71 #[.slice (some a) 0 c] w fun e w'=>∃v',e= .returned v'∧w'.ownsRow w.heap.size 9 1 v' 0 []∧v'≠ .slice none 0 0∧Below w.heap.size w w':=Any.slices_Clone_string_zero Tryz.laysNm216 a c w
def Tryz.laysNm220_ren:Go.Shelf.Ren:=⟨fun|20=>59|n=>n,fun|22=>22|3=>3|4=>4|0=>0|n=>n,fun|n=>n⟩
theorem Tryz.laysNm220:Go.Proofs.Lays2.n20 Tryz.prog Tryz.laysNm220_ren:= {
  mixed:=by kernel_rfl
  f20:=Tryz.func59.trans (congrArg some (by kernel_rfl))
  t0:=Tryz.underlying0
  a0:=Tryz.isAgg0
  z0:=Tryz.sizeOf0
  v0:=Tryz.zeroValue0
  t3:=Tryz.underlying3
  a3:=Tryz.isAgg3
  z3:=Tryz.sizeOf3
  v3:=Tryz.zeroValue3
  t4:=Tryz.underlying4
  a4:=Tryz.isAgg4
  z4:=Tryz.sizeOf4
  v4:=Tryz.zeroValue4
  t22:=Tryz.underlying22
  a22:=Tryz.isAgg22
  z22:=Tryz.sizeOf22
  v22:=Tryz.zeroValue22
  i3:=by kernel_rfl }
open Go.RowKit Go.Lib Go.Sort in
theorem Tryz.slices_Compact_int (blk off cap:Nat) (zs:List Int) (w:World) (hH:Holds (Value.int .i64) w blk off zs.toArray) (hsz:zs.length≤9223372036854775807) (hcap:zs.length≤cap) :
    Calls Tryz.prog 59 #[.slice (some ⟨blk,off,none⟩) zs.length cap] w fun e w'=>e= .returned (.slice (some ⟨blk,off,none⟩) (Lib.compact zs).length cap)∧∃q,w'=putRow (Value.int .i64) (Sort.ahead w q) blk off (Lib.compact zs ++ List.replicate (zs.length - (Lib.compact zs).length) 0).toArray:=Any.slices_Compact_int Tryz.laysNm220 blk off cap zs w hH hsz hcap
open Go.RowKit Go.Lib Go.Sort in
theorem Tryz.slices_Compact_int_empty (a:Option Addr) (cap:Nat) (w:World) :
    Calls Tryz.prog 59 #[.slice a 0 cap] w fun e w'=>e= .returned (.slice a 0 cap)∧w'=w:=Any.slices_Compact_int_empty Tryz.laysNm220 a cap w
def Tryz.lays194_ren:Go.Shelf.Ren:=⟨fun|194=>73|n=>n,fun|31=>43|9=>9|3=>3|4=>4|0=>0|n=>n,fun|n=>n⟩
theorem Tryz.lays194:Go.Proofs.Lays.n194 Tryz.prog Tryz.lays194_ren:= {
  mixed:=by kernel_rfl
  f194:=Tryz.func73.trans (congrArg some (by kernel_rfl))
  t0:=Tryz.underlying0
  a0:=Tryz.isAgg0
  z0:=Tryz.sizeOf0
  v0:=Tryz.zeroValue0
  t3:=Tryz.underlying3
  a3:=Tryz.isAgg3
  z3:=Tryz.sizeOf3
  v3:=Tryz.zeroValue3
  t4:=Tryz.underlying4
  a4:=Tryz.isAgg4
  z4:=Tryz.sizeOf4
  v4:=Tryz.zeroValue4
  t9:=Tryz.underlying9
  a9:=Tryz.isAgg9
  z9:=Tryz.sizeOf9
  v9:=Tryz.zeroValue9
  t31:=Tryz.underlying43
  a31:=Tryz.isAgg43
  z31:=Tryz.sizeOf43
  v31:=Tryz.zeroValue43 }
open Go.RowKit Go.Lib Go.Sort in
theorem Tryz.slices_Compact_string (blk off cap:Nat) (zs:List (List UInt8)) (w:World) (hH:Holds encStr w blk off zs.toArray) (hsz:zs.length≤9223372036854775807) (hcap:zs.length≤cap) :
    Calls Tryz.prog 73 #[.slice (some ⟨blk,off,none⟩) zs.length cap] w fun e w'=>e= .returned (.slice (some ⟨blk,off,none⟩) (Lib.compact zs).length cap)∧∃q,w'=putRow encStr (Sort.ahead w q) blk off (Lib.compact zs ++ List.replicate (zs.length - (Lib.compact zs).length) []).toArray:=Any.slices_Compact_string Tryz.lays194 blk off cap zs w hH hsz hcap
open Go.RowKit Go.Lib Go.Sort in
theorem Tryz.slices_Compact_string_empty (a:Option Addr) (cap:Nat) (w:World) :
    Calls Tryz.prog 73 #[.slice a 0 cap] w fun e w'=>e= .returned (.slice a 0 cap)∧w'=w:=Any.slices_Compact_string_empty Tryz.lays194 a cap w
open Go.RowKit Go.Sort in
theorem Tryz.slices_Sort_string_none (p:Option Addr) (cap:Nat) (w:World) :
    Calls Tryz.prog 72 #[.slice p 0 cap] w fun e w'=>e= .returned (.tuple #[])∧w'=w:=Any.slices_Sort_string_none Tryz.lays190 p cap w
open Go.RowKit Go.Sort in
theorem Tryz.slices_Sort_int_none (p:Option Addr) (cap:Nat) (w:World) :
    Calls Tryz.prog 58 #[.slice p 0 cap] w fun e w'=>e= .returned (.tuple #[])∧w'=w:=Any.slices_Sort_int_none Tryz.lays189 p cap w
end Go.Proofs
