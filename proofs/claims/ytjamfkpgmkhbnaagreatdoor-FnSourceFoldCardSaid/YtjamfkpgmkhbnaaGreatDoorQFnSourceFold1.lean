/- Part 2. -/
import Derived.Test.YtjamfkpgmkhbnaaGreatDoorQFnSourceFold0
import Derived.Shelf.Strings.Builder1
import Derived.Shelf.Strings.Builder2
import Derived.Shelf.Strings.OnBuilder
import Derived.Shelf.Small.Strs
import Derived.Shelf.Strconv.Itoa0
import Derived.Shelf.Strconv.Itoa1
import Derived.Shelf.LaysM
import Derived.Shelf.Strconv.Itoa2
import Derived.Shelf.Strconv.Itoa3
import Derived.Shelf.Strings.Search1
import Derived.Shelf.Strings.Prefix
import Derived.Test.YtjamfkpgmkhbnaaGreatDoorProg
import Derived.Below
import Derived.Deep.Draws
import Derived.Deep.AppendLies
import Derived.Maps.AppendAt
import Derived.OwnWalk
import Derived.Laws.BytesArg
import Derived.Laws.MakeOwn
import Derived.Laws.OwnMore
import Derived.Deep.OwnRows
import Derived.Tactics
import Derived.Lib.ConvBytes
import Derived.Laws.Slices
import Derived.WalkKit
import Derived.KernelRfl
import Derived.RowKit3
import Derived.Deep.LoopGhost
import Derived.Deep.QuietTactic
import Derived.BigQuiet
import Derived.WideLaws
import Derived.Deep.DeepCutAuto
import Derived.Deep.CutBlock
import Derived.Deep.RegionHeld3
import Derived.Laws.Rows
import Derived.Lib.AppendStr
import Derived.ArgAppend
import Derived.Laws.IdiomCopy
import Derived.OrdersHeld
import Derived.Laws.BitsLemmas
import Derived.RowKit
import Derived.Lib.SliceRun
import Derived.Lib.LaidTab
import Derived.Lib.AppendIntMem
set_option maxHeartbeats 8000000
set_option maxRecDepth 100000
namespace Go.Proofs
open Go.Shelf
open Go.RowKit in
open Go.RowKit in
open Go.RowKit in
open Go.RowKit in
open Go.RowKit in
def Tryz.IZ:Go.Shelf.Ren:=⟨fun|156=>44|165=>67|166=>68|169=>69|240=>91|241=>92|276=>116|277=>117|n=>n,fun|31=>29|9=>9|3=>3|4=>4|0=>0|20=>20|72=>97|76=>101|70=>95|37=>22|75=>100|127=>127|164=>147|5=>5|80=>103|n=>n,fun|n=>n⟩
theorem Tryz.aCx:Go.Proofs.Lays.n156 Tryz.prog Tryz.IZ:={
 mixed:=by kernel_rfl
 f156:=Tryz.func44.trans (congrArg some (by kernel_rfl))
 f165:=Tryz.func67.trans (congrArg some (by kernel_rfl))
 f166:=Tryz.func68.trans (congrArg some (by kernel_rfl))
 f169:=Tryz.func69.trans (congrArg some (by kernel_rfl))
 f240:=Tryz.func91.trans (congrArg some (by kernel_rfl))
 f241:=Tryz.func92.trans (congrArg some (by kernel_rfl))
 f276:=Tryz.func116.trans (congrArg some (by kernel_rfl))
 f277:=Tryz.func117.trans (congrArg some (by kernel_rfl))
 t0:=Tryz.underlying0
 a0:=Tryz.isAgg0
 z0:=Tryz.sizeOf0
 v0:=Tryz.zeroValue0
 t3:=Tryz.underlying3
 a3:=Tryz.isAgg3
 z3:=Tryz.sizeOf3
 v3:=Tryz.zeroValue3
 t4:=Tryz.underlying4
 a4:=Tryz.isAgg4
 z4:=Tryz.sizeOf4
 v4:=Tryz.zeroValue4
 t9:=Tryz.underlying9
 a9:=Tryz.isAgg9
 z9:=Tryz.sizeOf9
 v9:=Tryz.zeroValue9
 t20:=Tryz.underlying20
 a20:=Tryz.isAgg20
 z20:=Tryz.sizeOf20
 v20:=Tryz.zeroValue20
 t31:=Tryz.underlying29
 a31:=Tryz.isAgg29
 z31:=Tryz.sizeOf29
 v31:=Tryz.zeroValue29
 t37:=Tryz.underlying22
 a37:=Tryz.isAgg22
 z37:=Tryz.sizeOf22
 v37:=Tryz.zeroValue22
 t70:=Tryz.underlying95
 a70:=Tryz.isAgg95
 z70:=Tryz.sizeOf95
 v70:=Tryz.zeroValue95
 t72:=Tryz.underlying97
 a72:=Tryz.isAgg97
 z72:=Tryz.sizeOf97
 v72:=Tryz.zeroValue97
 t75:=Tryz.underlying100
 a75:=Tryz.isAgg100
 z75:=Tryz.sizeOf100
 v75:=Tryz.zeroValue100
 t76:=Tryz.underlying101
 a76:=Tryz.isAgg101
 z76:=Tryz.sizeOf101
 v76:=Tryz.zeroValue101
 t127:=Tryz.underlying127
 a127:=Tryz.isAgg127
 z127:=Tryz.sizeOf127
 v127:=Tryz.zeroValue127
 t164:=Tryz.underlying147
 a164:=Tryz.isAgg147
 z164:=Tryz.sizeOf147
 v164:=Tryz.zeroValue147 }
theorem Tryz.vZ:Builder.Extra Tryz.prog Tryz.IZ:={
 sizeBuilder:=by kernel_rfl
 liesBuilder:=by kernel_rfl
 t5:=Tryz.underlying5
 a5:=Tryz.isAgg5
 z5:=Tryz.sizeOf5
 v5:=Tryz.zeroValue5
 infoByte:=by kernel_rfl
 cellsByte:=by kernel_rfl
 sizeByte:=by kernel_rfl
 neB5:=by decide }
open Go.RowKit in
theorem Tryz.strings_Join_none (a:Option Addr) (c:Nat) (sep:ByteArray) (w:World):
  Calls Tryz.prog 44 #[.slice a 0 c,.string sep] w fun e w'=>e= .returned (.string ⟨#[]⟩)∧w'=w:=Any.strings_Join_none Tryz.aCx Tryz.vZ a c sep w
open Go.RowKit in
theorem Tryz.strings_Join (bk o c:Nat) (xs:List ByteArray) (sep:ByteArray) (w:World) (hcells:∀ (j:Nat) x,xs[j]?=some x→w.cell? ⟨bk,o + j,none⟩=some (.string x)) (hbk:bk < w.heap.size) (hN:xs.length≤140737488355328) (hcap:xs.length≤c) (hlen:(Lib.join (xs.map (·.data.toList)) sep.data.toList).length≤140737488355328):
    Calls Tryz.prog 44 #[.slice (some ⟨bk,o,none⟩) xs.length c,.string sep] w fun e w'=>e= .returned (.string ⟨(Lib.join (xs.map (·.data.toList)) sep.data.toList).toArray⟩)∧Below w.heap.size w w':=Any.strings_Join Tryz.aCx Tryz.vZ bk o c xs sep w hcells hbk hN hcap hlen
def Tryz.WV:Go.Shelf.Ren:=⟨fun|137=>54|217=>77|266=>101|n=>n,fun|9=>9|5=>5|3=>3|n=>n,fun|n=>n⟩
theorem Tryz.aIb:Go.Proofs.Lays.n137 Tryz.prog Tryz.WV:={
 mixed:=by kernel_rfl
 f137:=Tryz.func54.trans (congrArg some (by kernel_rfl))
 f217:=Tryz.func77.trans (congrArg some (by kernel_rfl))
 f266:=Tryz.func101.trans (congrArg some (by kernel_rfl))
 t3:=Tryz.underlying3
 a3:=Tryz.isAgg3
 z3:=Tryz.sizeOf3
 v3:=Tryz.zeroValue3
 t5:=Tryz.underlying5
 a5:=Tryz.isAgg5
 z5:=Tryz.sizeOf5
 v5:=Tryz.zeroValue5
 t9:=Tryz.underlying9
 a9:=Tryz.isAgg9
 z9:=Tryz.sizeOf9
 v9:=Tryz.zeroValue9 }
open Go.RowKit in
theorem Tryz.strings_IndexByte (s:ByteArray) (c:Int) (w:World):
  Calls Tryz.prog 54 #[.string s,.int .u8 c] w fun e w'=>e= .returned (.int .i64 (Lib.indexByte s.data.toList c.toNat.toUInt8))∧w'=w:=Any.strings_IndexByte Tryz.aIb s c w
def Tryz.WU:Go.Shelf.Ren:=⟨fun|129=>111|n=>n,fun|53=>121|3=>3|4=>4|46=>144|5=>5|9=>9|n=>n,fun|n=>n⟩
theorem Tryz.aIa:Go.Proofs.Lays.n129 Tryz.prog Tryz.WU:={
 mixed:=by kernel_rfl
 f129:=Tryz.func111.trans (congrArg some (by kernel_rfl))
 t3:=Tryz.underlying3
 a3:=Tryz.isAgg3
 z3:=Tryz.sizeOf3
 v3:=Tryz.zeroValue3
 t4:=Tryz.underlying4
 a4:=Tryz.isAgg4
 z4:=Tryz.sizeOf4
 v4:=Tryz.zeroValue4
 t5:=Tryz.underlying5
 a5:=Tryz.isAgg5
 z5:=Tryz.sizeOf5
 v5:=Tryz.zeroValue5
 t9:=Tryz.underlying9
 a9:=Tryz.isAgg9
 z9:=Tryz.sizeOf9
 v9:=Tryz.zeroValue9
 t46:=Tryz.underlying144
 a46:=Tryz.isAgg144
 z46:=Tryz.sizeOf144
 v46:=Tryz.zeroValue144
 t53:=Tryz.underlying121
 a53:=Tryz.isAgg121
 z53:=Tryz.sizeOf121
 v53:=Tryz.zeroValue121 }
theorem Tryz.bits_Len64 (x:Int) (w:World) (h0:0≤x) (h1:x≤18446744073709551615):
  Calls Tryz.prog 111 #[.int .u64 x] w fun e w'=>e= .returned (.int .i64 (Lib.bitLen x.toNat))∧w'=w:=Any.bits_Len64 Tryz.aIa x w h0 h1
open Go.Lib in
open Go.Lib in
open Go.Lib in
open Go.Lib in
open Go.RowKit Go.Sort Go.Lib in
open Go.RowKit Go.Sort Go.Lib in
open Go.RowKit Go.Sort Go.Lib in
open Go.RowKit Go.Sort Go.Lib in
open Go.RowKit Go.Sort Go.Lib in
def Tryz.SC:Go.Shelf.Ren:=⟨fun|171=>20|243=>41|246=>64|283=>84|284=>85|285=>86|286=>87|129=>111|317=>110|318=>112|319=>113|320=>114|337=>132|338=>133|n=>n,fun|3=>3|9=>9|2=>2|4=>4|171=>120|0=>0|53=>121|37=>22|5=>5|173=>124|212=>140|51=>141|20=>20|213=>142|46=>144|232=>163|233=>164|n=>n,fun|17=>0|18=>3|19=>4|n=>n⟩
theorem Tryz.aGd:Go.Proofs.LaysM.n171 Tryz.prog Tryz.SC:={
 mixed:=by kernel_rfl
 f129:=Tryz.func111.trans (congrArg some (by kernel_rfl))
 f171:=Tryz.func20.trans (congrArg some (by kernel_rfl))
 f243:=Tryz.func41.trans (congrArg some (by kernel_rfl))
 f246:=Tryz.func64.trans (congrArg some (by kernel_rfl))
 f283:=Tryz.func84.trans (congrArg some (by kernel_rfl))
 f284:=Tryz.func85.trans (congrArg some (by kernel_rfl))
 f285:=Tryz.func86.trans (congrArg some (by kernel_rfl))
 f286:=Tryz.func87.trans (congrArg some (by kernel_rfl))
 f317:=Tryz.func110.trans (congrArg some (by kernel_rfl))
 f318:=Tryz.func112.trans (congrArg some (by kernel_rfl))
 f319:=Tryz.func113.trans (congrArg some (by kernel_rfl))
 f320:=Tryz.func114.trans (congrArg some (by kernel_rfl))
 f337:=Tryz.func132.trans (congrArg some (by kernel_rfl))
 f338:=Tryz.func133.trans (congrArg some (by kernel_rfl))
 t0:=Tryz.underlying0
 a0:=Tryz.isAgg0
 z0:=Tryz.sizeOf0
 v0:=Tryz.zeroValue0
 t2:=Tryz.underlying2
 a2:=Tryz.isAgg2
 z2:=Tryz.sizeOf2
 v2:=Tryz.zeroValue2
 t3:=Tryz.underlying3
 a3:=Tryz.isAgg3
 z3:=Tryz.sizeOf3
 v3:=Tryz.zeroValue3
 t4:=Tryz.underlying4
 a4:=Tryz.isAgg4
 z4:=Tryz.sizeOf4
 v4:=Tryz.zeroValue4
 t5:=Tryz.underlying5
 a5:=Tryz.isAgg5
 z5:=Tryz.sizeOf5
 v5:=Tryz.zeroValue5
 t9:=Tryz.underlying9
 a9:=Tryz.isAgg9
 z9:=Tryz.sizeOf9
 v9:=Tryz.zeroValue9
 t20:=Tryz.underlying20
 a20:=Tryz.isAgg20
 z20:=Tryz.sizeOf20
 v20:=Tryz.zeroValue20
 t37:=Tryz.underlying22
 a37:=Tryz.isAgg22
 z37:=Tryz.sizeOf22
 v37:=Tryz.zeroValue22
 t46:=Tryz.underlying144
 a46:=Tryz.isAgg144
 z46:=Tryz.sizeOf144
 v46:=Tryz.zeroValue144
 t51:=Tryz.underlying141
 a51:=Tryz.isAgg141
 z51:=Tryz.sizeOf141
 v51:=Tryz.zeroValue141
 t53:=Tryz.underlying121
 a53:=Tryz.isAgg121
 z53:=Tryz.sizeOf121
 v53:=Tryz.zeroValue121
 t171:=Tryz.underlying120
 a171:=Tryz.isAgg120
 z171:=Tryz.sizeOf120
 v171:=Tryz.zeroValue120
 t173:=Tryz.underlying124
 a173:=Tryz.isAgg124
 z173:=Tryz.sizeOf124
 v173:=Tryz.zeroValue124
 t212:=Tryz.underlying140
 a212:=Tryz.isAgg140
 z212:=Tryz.sizeOf140
 v212:=Tryz.zeroValue140
 t213:=Tryz.underlying142
 a213:=Tryz.isAgg142
 z213:=Tryz.sizeOf142
 t232:=Tryz.underlying163
 a232:=Tryz.isAgg163
 z232:=Tryz.sizeOf163
 v232:=Tryz.zeroValue163
 t233:=Tryz.underlying164
 a233:=Tryz.isAgg164
 z233:=Tryz.sizeOf164
 v233:=Tryz.zeroValue164
 g17:=by kernel_rfl
 g18:=by kernel_rfl
 g19:=by kernel_rfl
 i0:=by kernel_rfl
 i2:=by kernel_rfl
 i3:=by kernel_rfl
 i4:=by kernel_rfl
 i5:=by kernel_rfl
 i9:=by kernel_rfl
 i20:=by kernel_rfl
 i37:=by kernel_rfl
 i46:=by kernel_rfl
 i51:=by kernel_rfl
 i53:=by kernel_rfl
 i171:=by kernel_rfl
 i173:=by kernel_rfl
 i212:=by kernel_rfl
 i232:=by kernel_rfl
 i233:=by kernel_rfl
 m17:=by kernel_rfl
 m18:=by kernel_rfl
 m19:=by kernel_rfl }
open Go.RowKit Go.Sort Go.Lib in
theorem Tryz.strconv_Itoa (n:Int) (h0:-9223372036854775808≤n) (h1:n≤9223372036854775807) (w:World) (htab:Lib.TabIs Tryz.prog w "internal/strconv.uint64pow10" .u64 Lib.pow10Tab):
  Calls Tryz.prog 20 #[.int .i64 n] w fun e w'=>e= .returned (.string ⟨(Lib.itoa n).toArray⟩)∧∃ k os,w'=grow (w.drewN k) os:=Any.strconv_Itoa Tryz.aGd n h0 h1 w htab
open Go.RowKit Go.Sort Go.Lib in
open Go.RowKit Go.Lib in
def Tryz.WX:Go.Shelf.Ren:=⟨fun|206=>76|n=>n,fun|9=>9|4=>4|3=>3|n=>n,fun|n=>n⟩
theorem Tryz.aIc:Go.Proofs.Lays.n206 Tryz.prog Tryz.WX:={
 mixed:=by kernel_rfl
 f206:=Tryz.func76.trans (congrArg some (by kernel_rfl))
 t3:=Tryz.underlying3
 a3:=Tryz.isAgg3
 z3:=Tryz.sizeOf3
 v3:=Tryz.zeroValue3
 t4:=Tryz.underlying4
 a4:=Tryz.isAgg4
 z4:=Tryz.sizeOf4
 v4:=Tryz.zeroValue4
 t9:=Tryz.underlying9
 a9:=Tryz.isAgg9
 z9:=Tryz.sizeOf9
 v9:=Tryz.zeroValue9 }
open Go.RowKit Go.Lib in
theorem Tryz.stringslite_HasPrefix (s p:ByteArray) (w:World):
  Calls Tryz.prog 76 #[.string s,.string p] w fun e w'=>e= .returned (.bool (Lib.hasPrefix s.data.toList p.data.toList))∧w'=w:=Any.stringslite_HasPrefix Tryz.aIc s p w
def Tryz.aBo:Go.Shelf.Ren:=⟨fun|99=>53|206=>76|n=>n,fun|9=>9|4=>4|3=>3|n=>n,fun|n=>n⟩
theorem Tryz.aKa:Go.Proofs.Lays.n99 Tryz.prog Tryz.aBo:={
 mixed:=by kernel_rfl
 f99:=Tryz.func53.trans (congrArg some (by kernel_rfl))
 f206:=Tryz.func76.trans (congrArg some (by kernel_rfl))
 t3:=Tryz.underlying3
 a3:=Tryz.isAgg3
 z3:=Tryz.sizeOf3
 v3:=Tryz.zeroValue3
 t4:=Tryz.underlying4
 a4:=Tryz.isAgg4
 z4:=Tryz.sizeOf4
 v4:=Tryz.zeroValue4
 t9:=Tryz.underlying9
 a9:=Tryz.isAgg9
 z9:=Tryz.sizeOf9
 v9:=Tryz.zeroValue9 }
open Go.RowKit Go.Lib in
theorem Tryz.strings_HasPrefix (s p:ByteArray) (w:World):
  Calls Tryz.prog 53 #[.string s,.string p] w fun e w'=>e= .returned (.bool (Lib.hasPrefix s.data.toList p.data.toList))∧w'=w:=Any.strings_HasPrefix Tryz.aKa s p w
end Go.Proofs

namespace Go.Proofs.YtjamfkpgmkhbnaaGreatDoor.PA
open Go.RowKit Go.Proofs.YtjamfkpgmkhbnaaGreatDoorW.PrintWords Go.Proofs.YtjamfkpgmkhbnaaGreatDoorW.PrintLast Go.Proofs.YtjamfkpgmkhbnaaGreatDoorW.PrintMore
attribute [local go_sem] max2_int min2_int max_two min_two max_three min_three max_four min_four
set_option linter.unusedVariables false
set_option linter.unusedSimpArgs false
def aKw:Option Int→Value
 |none=>.nilIface
 |some c=>.iface 0 (.int .i64 c)
theorem lM:aKw none= .nilIface:=rfl
theorem lN (c:Int):aKw (some c)= .iface 0 (.int .i64 c):=rfl
theorem info3:(Tryz.prog.info? 3).map (fun i=>(i.zero,i.size,i.bytes))=some (some (.int .i64 0),1,8):=by kernel_rfl
theorem info5:(Tryz.prog.info? 5).map (fun i=>(i.zero,i.size,i.bytes))=some (some (.int .u8 0),1,1):=by kernel_rfl
theorem kU:(Tryz.prog.info? 9).map (fun i=>(i.zero,i.size,i.bytes))=some (some (.string ⟨#[]⟩),1,16):=by kernel_rfl
theorem RZ:(Tryz.prog.info? 33).map (fun i=>(i.zero,i.size,i.bytes))=some (some (.slice none 0 0),1,24):=by kernel_rfl
theorem yQ:(Tryz.prog.info? 58).map (fun i=>(i.zero,i.size,i.bytes))=some (some (.agg #[(.int .i64 0),(.int .i64 0),(.int .i64 0),(.int .i64 0),(.int .i64 0),(.slice none 0 0),(.slice none 0 0),(.slice none 0 0)]),8,112):=by kernel_rfl
structure S56 where
 f0:Int
 f1:Int
 f2:(List S56)
def z56:S56:=⟨(0:Int),(0:Int),([]:List S56)⟩
def F56 (d:Kd S56):Kd S56:=Kd.iso (Kd.pair (Kd.int .i64) (Kd.pair (Kd.int .i64) (Kd.slice 56 d))) (fun x:S56=>(x.f0,x.f1,x.f2))
theorem mono56:Kd.uG F56:=Kd.mono_iso _ (Kd.mono_pair (Kd.mono_const _) (Kd.mono_pair (Kd.mono_const _) (Kd.mono_slice 56 Kd.mono_id)))
theorem aLd:Kd.Sub F56 [56]:=Kd.LG _ (Kd.oI (Kd.sub_const _ (by decide)) (Kd.oI (Kd.sub_const _ (by decide)) (Kd.GN 56 (by decide) Kd.GK)))
theorem aKh:∀ n,(Kd.upto F56 3 [56] n).sz=3:=Kd.LH (fun _=>rfl)
def k56:Kd S56:=Kd.fix F56 3 [56] aKh (Kd.NP aLd)
theorem ER:Kd.Heap k56:=Kd.TV (fun _ h_=>Kd.TW _ (Kd.tK (Kd.yO .i64) (Kd.tK (Kd.yO .i64) (Kd.CV 56 h_))))
theorem WE {w:World} {x:S56} {cs:List Value} (h:k56.K w x cs):∃ A2 c2,cs=[.int .i64 x.f0,.int .i64 x.f1,.slice A2 x.f2.length c2]∧x.f2.length≤c2∧k56.C w A2 x.f2.length x.f2:=by
 obtain ⟨n,h⟩:=h;cases n with
 |zero=>exact h.elim
 |succ n=>
  obtain ⟨_,_,rfl,rfl,⟨_,_,rfl,rfl,⟨A2,c2,rfl,l2,g2⟩⟩⟩:=h;exact ⟨A2,c2,rfl,l2,Kd.aFs g2⟩
theorem aFx (w:World) (x:S56) {A2:Option Addr} {c2:Nat} (l2:x.f2.length≤c2) (g2:k56.C w A2 x.f2.length x.f2):k56.K w x [.int .i64 x.f0,.int .i64 x.f1,.slice A2 x.f2.length c2]:=by
 obtain ⟨n2,q2⟩:=Kd.CS mono56 g2;have r2:=Kd.GR mono56 aKh (show n2≤n2 by omega) q2;exact ⟨n2 + 1,⟨[.int .i64 x.f0],[.int .i64 x.f1,.slice A2 x.f2.length c2],rfl,rfl,⟨[.int .i64 x.f1],[.slice A2 x.f2.length c2],rfl,rfl,⟨A2,c2,rfl,l2,r2⟩⟩⟩⟩
theorem aCw (W:World) (ok:Nat→Prop) (x:S56) {A2:Option Addr} {c2:Nat} (l2:x.f2.length≤c2) (g2:Kd.F k56 W ok A2 x.f2.length x.f2):Kd.FK k56 W ok x [.int .i64 x.f0,.int .i64 x.f1,.slice A2 x.f2.length c2]:=fun W2 hW=>aFx W2 x l2 (g2 W2 hW)
def bW (xs:List S56) (i:Int):S56:=xs.getD i.toNat z56
theorem rM {w:World} {A:Option Addr} {n:Nat} {xs:List S56} (h:Kd.C k56 w A n xs) (i:Int) (h0:0≤i) (h1:i < n):∃ ad A2 c2,A=some ad∧w.cell? (ad.add (i.toNat * 3))=some (.int .i64 (bW xs i).f0)∧w.cell? ⟨(ad.add (i.toNat * 3)).block,(ad.add (i.toNat * 3)).off + 1,none⟩=some (.int .i64 (bW xs i).f1)∧w.cell? ⟨(ad.add (i.toNat * 3)).block,(ad.add (i.toNat * 3)).off + 2,none⟩=some (.slice A2 (bW xs i).f2.length c2)∧(bW xs i).f2.length≤c2∧k56.C w A2 (bW xs i).f2.length (bW xs i).f2:=by
 obtain ⟨ad,c,e,_,hK,hc0⟩:=Kd.OY h z56 i h0 h1;have hc:∀ j u,c[j]?=some u→w.cell? (ad.add (i.toNat * 3 + j))=some u:=hc0;obtain ⟨A2,c2,rfl,l2,g2⟩:=WE hK;exact ⟨ad,A2,c2,e,hc 0 _ rfl,by rw [← lK _ _ 1 (by omega)];exact hc 1 _ rfl,by rw [← lK _ _ 2 (by omega)];exact hc 2 _ rfl,l2,g2⟩
structure S58 where
 f0:Int
 f1:Int
 f2:Int
 f3:S56
 f4:(List S58)
 f5:(List S58)
def z58:S58:=⟨(0:Int),(0:Int),(0:Int),z56,([]:List S58),([]:List S58)⟩
def F58 (d:Kd S58):Kd S58:=Kd.iso (Kd.pair (Kd.int .i64) (Kd.pair (Kd.int .i64) (Kd.pair (Kd.int .i64) (Kd.pair k56 (Kd.pair (Kd.slice 58 d) (Kd.slice 58 d)))))) (fun x:S58=>(x.f0,x.f1,x.f2,x.f3,x.f4,x.f5))
theorem mono58:Kd.uG F58:=Kd.mono_iso _ (Kd.mono_pair (Kd.mono_const _) (Kd.mono_pair (Kd.mono_const _) (Kd.mono_pair (Kd.mono_const _) (Kd.mono_pair (Kd.mono_const _) (Kd.mono_pair (Kd.mono_slice 58 Kd.mono_id) (Kd.mono_slice 58 Kd.mono_id))))))
theorem aLe:Kd.Sub F58 [56,58]:=Kd.LG _ (Kd.oI (Kd.sub_const _ (by decide)) (Kd.oI (Kd.sub_const _ (by decide)) (Kd.oI (Kd.sub_const _ (by decide)) (Kd.oI (Kd.sub_const _ (by decide)) (Kd.oI (Kd.GN 58 (by decide) Kd.GK) (Kd.GN 58 (by decide) Kd.GK))))))
theorem aGr:∀ n,(Kd.upto F58 8 [56,58] n).sz=8:=Kd.LH (fun _=>rfl)
def k58:Kd S58:=Kd.fix F58 8 [56,58] aGr (Kd.NP aLe)
theorem WG:Kd.Heap k58:=Kd.TV (fun _ h_=>Kd.TW _ (Kd.tK (Kd.yO .i64) (Kd.tK (Kd.yO .i64) (Kd.tK (Kd.yO .i64) (Kd.tK ER (Kd.tK (Kd.CV 58 h_) (Kd.CV 58 h_)))))))
theorem yR {w:World} {x:S58} {cs:List Value} (h:k58.K w x cs):∃ A5 c5 A6 c6 A7 c7,cs=[.int .i64 x.f0,.int .i64 x.f1,.int .i64 x.f2,.int .i64 x.f3.f0,.int .i64 x.f3.f1,.slice A5 x.f3.f2.length c5,.slice A6 x.f4.length c6,.slice A7 x.f5.length c7]∧x.f3.f2.length≤c5∧k56.C w A5 x.f3.f2.length x.f3.f2∧x.f4.length≤c6∧k58.C w A6 x.f4.length x.f4∧x.f5.length≤c7∧k58.C w A7 x.f5.length x.f5:=by
 obtain ⟨n,h⟩:=h;cases n with
 |zero=>exact h.elim
 |succ n=>
  obtain ⟨_,_,rfl,rfl,⟨_,_,rfl,rfl,⟨_,_,rfl,rfl,⟨_,_,rfl,s3,⟨_,_,rfl,⟨A6,c6,rfl,l6,g6⟩,⟨A7,c7,rfl,l7,g7⟩⟩⟩⟩⟩⟩:=h;obtain ⟨A5,c5,rfl,l5,g5⟩:=WE s3;exact ⟨A5,c5,A6,c6,A7,c7,rfl,l5,g5,l6,Kd.aFs g6,l7,Kd.aFs g7⟩
theorem aJx (w:World) (x:S58) {A5:Option Addr} {c5:Nat} (l5:x.f3.f2.length≤c5) (g5:k56.C w A5 x.f3.f2.length x.f3.f2) {A6:Option Addr} {c6:Nat} (l6:x.f4.length≤c6) (g6:k58.C w A6 x.f4.length x.f4) {A7:Option Addr} {c7:Nat} (l7:x.f5.length≤c7) (g7:k58.C w A7 x.f5.length x.f5):k58.K w x [.int .i64 x.f0,.int .i64 x.f1,.int .i64 x.f2,.int .i64 x.f3.f0,.int .i64 x.f3.f1,.slice A5 x.f3.f2.length c5,.slice A6 x.f4.length c6,.slice A7 x.f5.length c7]:=by
 obtain ⟨n6,q6⟩:=Kd.CS mono58 g6;obtain ⟨n7,q7⟩:=Kd.CS mono58 g7;have r6:=Kd.GR mono58 aGr (show n6≤(max n6 n7) by omega) q6;have r7:=Kd.GR mono58 aGr (show n7≤(max n6 n7) by omega) q7;exact ⟨(max n6 n7) + 1,⟨[.int .i64 x.f0],[.int .i64 x.f1,.int .i64 x.f2,.int .i64 x.f3.f0,.int .i64 x.f3.f1,.slice A5 x.f3.f2.length c5,.slice A6 x.f4.length c6,.slice A7 x.f5.length c7],rfl,rfl,⟨[.int .i64 x.f1],[.int .i64 x.f2,.int .i64 x.f3.f0,.int .i64 x.f3.f1,.slice A5 x.f3.f2.length c5,.slice A6 x.f4.length c6,.slice A7 x.f5.length c7],rfl,rfl,⟨[.int .i64 x.f2],[.int .i64 x.f3.f0,.int .i64 x.f3.f1,.slice A5 x.f3.f2.length c5,.slice A6 x.f4.length c6,.slice A7 x.f5.length c7],rfl,rfl,⟨[.int .i64 x.f3.f0,.int .i64 x.f3.f1,.slice A5 x.f3.f2.length c5],[.slice A6 x.f4.length c6,.slice A7 x.f5.length c7],rfl,(aFx w x.f3 l5 g5),⟨[.slice A6 x.f4.length c6],[.slice A7 x.f5.length c7],rfl,⟨A6,c6,rfl,l6,r6⟩,⟨A7,c7,rfl,l7,r7⟩⟩⟩⟩⟩⟩⟩
theorem aDy {W:World} {ok:Nat→Prop} {x:S58} {cs:List Value} (h:Kd.FK k58 W ok x cs):∃ A5 c5 A6 c6 A7 c7,cs=[.int .i64 x.f0,.int .i64 x.f1,.int .i64 x.f2,.int .i64 x.f3.f0,.int .i64 x.f3.f1,.slice A5 x.f3.f2.length c5,.slice A6 x.f4.length c6,.slice A7 x.f5.length c7]∧x.f3.f2.length≤c5∧Kd.F k56 W ok A5 x.f3.f2.length x.f3.f2∧x.f4.length≤c6∧Kd.F k58 W ok A6 x.f4.length x.f4∧x.f5.length≤c7∧Kd.F k58 W ok A7 x.f5.length x.f5:=by
 obtain ⟨A5,c5,A6,c6,A7,c7,rfl,l5,_,l6,_,l7,_⟩:=yR (Kd.rD h);exact ⟨A5,c5,A6,c6,A7,c7,rfl,l5,(fun W' hW=>by obtain ⟨j3,j4,j5,j6,j7,j8,he,j9,g5_,ja,g6_,jb,g7_⟩:=yR (h W' hW);injection (Option.some.inj (show some (Value.slice A5 x.f3.f2.length c5)=some (Value.slice j3 x.f3.f2.length j4) from congrArg (fun l=>l[5]?) he)) with ha_ _ _;rw [ha_];exact g5_),l6,(fun W' hW=>by obtain ⟨j3,j4,j5,j6,j7,j8,he,j9,g5_,ja,g6_,jb,g7_⟩:=yR (h W' hW);injection (Option.some.inj (show some (Value.slice A6 x.f4.length c6)=some (Value.slice j5 x.f4.length j6) from congrArg (fun l=>l[6]?) he)) with ha_ _ _;rw [ha_];exact g6_),l7,(fun W' hW=>by obtain ⟨j3,j4,j5,j6,j7,j8,he,j9,g5_,ja,g6_,jb,g7_⟩:=yR (h W' hW);injection (Option.some.inj (show some (Value.slice A7 x.f5.length c7)=some (Value.slice j7 x.f5.length j8) from congrArg (fun l=>l[7]?) he)) with ha_ _ _;rw [ha_];exact g7_)⟩
theorem oF (W:World) (ok:Nat→Prop) (x:S58) {A5:Option Addr} {c5:Nat} (l5:x.f3.f2.length≤c5) (g5:Kd.F k56 W ok A5 x.f3.f2.length x.f3.f2) {A6:Option Addr} {c6:Nat} (l6:x.f4.length≤c6) (g6:Kd.F k58 W ok A6 x.f4.length x.f4) {A7:Option Addr} {c7:Nat} (l7:x.f5.length≤c7) (g7:Kd.F k58 W ok A7 x.f5.length x.f5):Kd.FK k58 W ok x [.int .i64 x.f0,.int .i64 x.f1,.int .i64 x.f2,.int .i64 x.f3.f0,.int .i64 x.f3.f1,.slice A5 x.f3.f2.length c5,.slice A6 x.f4.length c6,.slice A7 x.f5.length c7]:=fun W2 hW=>aJx W2 x l5 (g5 W2 hW) l6 (g6 W2 hW) l7 (g7 W2 hW)
def aM (xs:List S58) (i:Int):S58:=xs.getD i.toNat z58
theorem vK {w:World} {A:Option Addr} {n:Nat} {xs:List S58} (h:Kd.C k58 w A n xs) (i:Int) (h0:0≤i) (h1:i < n):∃ ad A5 c5 A6 c6 A7 c7,A=some ad∧w.cell? (ad.add (i.toNat * 8))=some (.int .i64 (aM xs i).f0)∧w.cell? ⟨(ad.add (i.toNat * 8)).block,(ad.add (i.toNat * 8)).off + 1,none⟩=some (.int .i64 (aM xs i).f1)∧w.cell? ⟨(ad.add (i.toNat * 8)).block,(ad.add (i.toNat * 8)).off + 2,none⟩=some (.int .i64 (aM xs i).f2)∧w.cell? ⟨(ad.add (i.toNat * 8)).block,(ad.add (i.toNat * 8)).off + 3,none⟩=some (.int .i64 (aM xs i).f3.f0)∧w.cell? ⟨(ad.add (i.toNat * 8)).block,(ad.add (i.toNat * 8)).off + 4,none⟩=some (.int .i64 (aM xs i).f3.f1)∧w.cell? ⟨(ad.add (i.toNat * 8)).block,(ad.add (i.toNat * 8)).off + 5,none⟩=some (.slice A5 (aM xs i).f3.f2.length c5)∧w.cell? ⟨(ad.add (i.toNat * 8)).block,(ad.add (i.toNat * 8)).off + 6,none⟩=some (.slice A6 (aM xs i).f4.length c6)∧w.cell? ⟨(ad.add (i.toNat * 8)).block,(ad.add (i.toNat * 8)).off + 7,none⟩=some (.slice A7 (aM xs i).f5.length c7)∧(aM xs i).f3.f2.length≤c5∧k56.C w A5 (aM xs i).f3.f2.length (aM xs i).f3.f2∧(aM xs i).f4.length≤c6∧k58.C w A6 (aM xs i).f4.length (aM xs i).f4∧(aM xs i).f5.length≤c7∧k58.C w A7 (aM xs i).f5.length (aM xs i).f5:=by
 obtain ⟨ad,c,e,_,hK,hc0⟩:=Kd.OY h z58 i h0 h1;have hc:∀ j u,c[j]?=some u→w.cell? (ad.add (i.toNat * 8 + j))=some u:=hc0;obtain ⟨A5,c5,A6,c6,A7,c7,rfl,l5,g5,l6,g6,l7,g7⟩:=yR hK;exact ⟨ad,A5,c5,A6,c6,A7,c7,e,hc 0 _ rfl,by rw [← lK _ _ 1 (by omega)];exact hc 1 _ rfl,by rw [← lK _ _ 2 (by omega)];exact hc 2 _ rfl,by rw [← lK _ _ 3 (by omega)];exact hc 3 _ rfl,by rw [← lK _ _ 4 (by omega)];exact hc 4 _ rfl,by rw [← lK _ _ 5 (by omega)];exact hc 5 _ rfl,by rw [← lK _ _ 6 (by omega)];exact hc 6 _ rfl,by rw [← lK _ _ 7 (by omega)];exact hc 7 _ rfl,l5,g5,l6,g6,l7,g7⟩
def gB (xs:List (List S58)) (i:Int):(List S58):=xs.getD i.toNat ([]:List S58)
theorem wT {w:World} {A:Option Addr} {n:Nat} {xs:List (List S58)} (h:Kd.C (Kd.slice 58 k58) w A n xs) (i:Int) (h0:0≤i) (h1:i < n):∃ ad A0 c0,A=some ad∧w.cell? (ad.add i.toNat)=some (.slice A0 (gB xs i).length c0)∧(gB xs i).length≤c0∧k58.C w A0 (gB xs i).length (gB xs i):=by
 obtain ⟨ad,c,e,_,hK,hc0⟩:=Kd.OY h ([]:List S58) i h0 h1;have hc:∀ j u,c[j]?=some u→w.cell? (ad.add (i.toNat * 1 + j))=some u:=hc0;obtain ⟨A0,c0,rfl,l0,g0⟩:=hK;exact ⟨ad,A0,c0,e,by have hq:=hc 0 _ rfl;rwa [Nat.mul_one,Nat.add_zero] at hq,l0,g0⟩
structure FP where
 f0:Int
 f1:Int
 f2:(List FP)
def aLl:FP:=⟨(0:Int),(0:Int),([]:List FP)⟩
def BD (xs:List FP) (i:Int):FP:=xs.getD i.toNat aLl
structure uV where
 f0:Int
 f1:Int
 f2:Int
 f3:FP
 f4:(List uV)
 f5:(List uV)
def aLs:uV:=⟨(0:Int),(0:Int),(0:Int),aLl,([]:List uV),([]:List uV)⟩
def vE (xs:List uV) (i:Int):uV:=xs.getD i.toNat aLs
def aIz (xs:List (List uV)) (i:Int):(List uV):=xs.getD i.toNat ([]:List uV)
theorem nG {p:Prop} (h:p:=by (try simp only [List.map_toArray,List.map_cons,List.map_nil]);first|done|rfl|(simp only [List.length_drop,List.length_take];rfl)):p:=h
theorem eG {p:Prop} (h:p:=by repeat (first|(with_reducible first|exact HB.out|apply bY|apply aU|apply bI)|exact HB.out)):p:=h
theorem fJ {p:Prop} (h:p:=by repeat (first|(with_reducible first|exact HK.out|apply aD.BL|apply kN|apply iA|apply lI)|exact HK.out)):p:=h
theorem fZ {p:Prop} (h:p:=by repeat (first|(with_reducible first|exact HI0.out|apply aJ.alloc|apply aJ.drewN|apply aJ.drew|apply aJ.vR)|exact HI0.out)):p:=h
theorem iZ {p:Prop} (h:p:=by repeat (first|(with_reducible first|exact HK.out|apply Kept.alloc|apply Kept.drewN|apply Kept.drew|refine Kept.setCell ?_ (.inr GW132.out) _)|exact HK.out)):p:=h
theorem kJ {p:Prop} (h:p:=by repeat (first|(with_reducible first|exact HB.out|apply bY|apply aU|apply bI|refine below_set ?_ (aJ.ge HI0.out))|exact HB.out)):p:=h
theorem kL {p:Prop} (h:p:=by repeat (first|(with_reducible first|exact HB.out|apply bY|apply aU|apply bI|refine below_set ?_ GE132.out)|exact HB.out)):p:=h
theorem kW {p:Prop} (h:p:=by repeat (first|(with_reducible first|exact HB.out|apply bY|apply aU|apply bI|refine below_set ?_ GE129.out)|exact HB.out)):p:=h
theorem kD {p:Prop} (h:p:=by repeat (first|(with_reducible first|exact HB.out|apply bY|apply aU|apply bI|refine below_set ?_ GE99.out)|exact HB.out)):p:=h
theorem lU {p:Prop} (h:p:=by repeat (first|(with_reducible first|exact HK.out|apply aD.BL|apply kN|apply iA|apply lI|refine iF ?_ GW479.out _|refine iF ?_ GW487.out _)|exact HK.out)):p:=h
theorem kM {p:Prop} (h:p:=by repeat (first|(with_reducible first|exact HB.out|apply bY|apply aU|apply bI|refine below_set ?_ GE43.out)|exact HB.out)):p:=h
theorem gU {p:Prop} (h:p:=by first|rfl|(simp [lM,lN] <;> rfl)|(simp [*,lM,lN] <;> rfl)):p:=h
theorem mX {p:Prop} (h:p:=by repeat (first|(with_reducible first|exact HK.out|apply aD.BL|apply kN|apply iA|apply lI|refine iF ?_ GW440.out _|refine iF ?_ GW448.out _)|exact HK.out)):p:=h
theorem fG {p:Prop} (h:p:=by repeat (first|exact gX.refl _|apply gX.step)):p:=h
theorem nI {p:Prop} (h:p:=by repeat (first|(with_reducible first|exact HI0.out|apply aJ.alloc|apply aJ.drewN|apply aJ.drew|apply aJ.vR|refine aJ.far ?_ NB0_479.out _|refine aJ.far ?_ NB0_487.out _)|exact HI0.out)):p:=h
theorem nV {p:Prop} (h:p:=by repeat (first|(with_reducible first|exact HI0.out|apply aJ.alloc|apply aJ.drewN|apply aJ.drew|apply aJ.vR|refine aJ.far ?_ NB0_440.out _|refine aJ.far ?_ NB0_448.out _)|exact HI0.out)):p:=h
theorem nN {p:Prop} (h:p:=by repeat (first|(with_reducible first|exact HB.out|apply bY|apply aU|apply bI|refine below_set ?_ GE57.out)|exact HB.out)):p:=h
theorem sK {p:Prop} (h:p:=by repeat (first|(with_reducible first|exact HB.out|apply bY|apply aU|apply bI|refine below_set ?_ (aJ.ge HI0.out)|refine below_set ?_ GE479.out|refine below_set ?_ GE487.out)|exact HB.out)):p:=h
theorem wD {p:Prop} (h:p:=by repeat (first|(with_reducible first|exact HB.out|apply bY|apply aU|apply bI|refine below_set ?_ GE22.out)|exact HB.out)):p:=h
theorem rQ {p:Prop} (h:p:=by repeat (first|(with_reducible first|exact HB.out|apply bY|apply aU|apply bI|refine below_set ?_ GE23.out)|exact HB.out)):p:=h
theorem oU {p:Prop} (h:p:=by repeat (first|(with_reducible first|exact HB.out|apply bY|apply aU|apply bI|refine below_set ?_ GE54.out)|exact HB.out)):p:=h
theorem oV {p:Prop} (h:p:=by repeat (first|(with_reducible first|exact HB.out|apply bY|apply aU|apply bI|refine below_set ?_ GE69.out)|exact HB.out)):p:=h
theorem xW {p:Prop} (h:p:=by repeat (first|(with_reducible first|exact HB.out|apply bY|apply aU|apply bI|refine below_set ?_ GE33.out)|exact HB.out)):p:=h
theorem nO {p:Prop} (h:p:=by repeat (first|(with_reducible first|exact HK.out|apply Kept.alloc|apply Kept.drewN|apply Kept.drew)|exact HK.out)):p:=h
theorem rA {p:Prop} (h:p:=by repeat (first|(with_reducible first|exact HB.out|apply bY|apply aU|apply bI|refine below_set ?_ GE37.out)|exact HB.out)):p:=h
theorem sM {p:Prop} (h:p:=by repeat (first|(with_reducible first|exact HK.out|apply aD.BL|apply kN|apply iA|apply lI|refine iF ?_ GW38.out _)|exact HK.out)):p:=h
theorem rR {p:Prop} (h:p:=by repeat (first|(with_reducible first|exact HB.out|apply bY|apply aU|apply bI|refine below_set ?_ GE31.out)|exact HB.out)):p:=h
theorem uH {p:Prop} (h:p:=by repeat (first|(with_reducible first|exact HK.out|apply Kept.alloc|apply Kept.drewN|apply Kept.drew|refine Kept.setCell ?_ (.inr GW43.out) _)|exact HK.out)):p:=h
theorem wE {p:Prop} (h:p:=by repeat (first|(with_reducible first|exact HB.out|apply bY|apply aU|apply bI|refine below_set ?_ GE21.out)|exact HB.out)):p:=h
theorem vI {p:Prop} (h:p:=by repeat (first|(with_reducible first|exact HI0.out|apply aJ.alloc|apply aJ.drewN|apply aJ.drew|apply aJ.vR|refine aJ.far ?_ NB0_38.out _)|exact HI0.out)):p:=h
theorem vJ {p:Prop} (h:p:=by repeat (first|(with_reducible first|exact HK.out|apply aD.BL|apply kN|apply iA|apply lI|refine iF ?_ GW48.out _)|exact HK.out)):p:=h
theorem yI {p:Prop} (h:p:=by repeat (first|(with_reducible first|exact HB.out|apply bY|apply aU|apply bI|refine below_set ?_ (aJ.ge HI0.out)|refine below_set ?_ GE440.out|refine below_set ?_ GE448.out)|exact HB.out)):p:=h
theorem wF {p:Prop} (h:p:=by repeat (first|(with_reducible first|exact HK.out|apply aD.BL|apply kN|apply iA|apply lI|refine iF ?_ GW35.out _)|exact HK.out)):p:=h
theorem wG {p:Prop} (h:p:=by repeat (first|(with_reducible first|exact HK.out|apply Kept.alloc|apply Kept.drewN|apply Kept.drew|refine Kept.setCell ?_ (.inr GW33.out) _)|exact HK.out)):p:=h
theorem yJ {p:Prop} (h:p:=by repeat (first|(with_reducible first|exact HB.out|apply bY|apply aU|apply bI|refine below_set ?_ (aJ.ge HI0.out)|refine below_set ?_ GE38.out)|exact HB.out)):p:=h
theorem yK {p:Prop} (h:p:=by repeat (first|(with_reducible first|exact HB.out|apply bY|apply aU|apply bI|refine below_set ?_ (aJ.ge HI0.out)|refine below_set ?_ GE48.out)|exact HB.out)):p:=h
theorem xX {p:Prop} (h:p:=by repeat (first|(with_reducible first|exact HI0.out|apply aJ.alloc|apply aJ.drewN|apply aJ.drew|apply aJ.vR|refine aJ.far ?_ NB0_48.out _)|exact HI0.out)):p:=h
theorem xY {p:Prop} (h:p:=by repeat (first|(with_reducible first|exact HI0.out|apply aJ.alloc|apply aJ.drewN|apply aJ.drew|apply aJ.vR|refine aJ.far ?_ NB0_35.out _)|exact HI0.out)):p:=h
theorem DY {p:Prop} (h:p:=by repeat (first|(with_reducible first|exact HB.out|apply bY|apply aU|apply bI|refine below_set ?_ GE38.out|refine below_set ?_ GE41.out|refine below_set ?_ GE44.out)|exact HB.out)):p:=h
theorem xZ {p:Prop} (h:p:=by repeat (first|(with_reducible first|exact HB.out|apply bY|apply aU|apply bI|refine below_set ?_ GE29.out)|exact HB.out)):p:=h
theorem BQ {p:Prop} (h:p:=by repeat (first|(with_reducible first|exact HB.out|apply bY|apply aU|apply bI|refine below_set ?_ GE54.out|refine below_set ?_ GE55.out)|exact HB.out)):p:=h
theorem DZ {p:Prop} (h:p:=by repeat (first|(with_reducible first|exact HK.out|apply aD.BL|apply kN|apply iA|apply lI|refine iF ?_ GW52.out _|refine iF ?_ GW55.out _)|exact HK.out)):p:=h
theorem aFe {p:Prop} (h:p:=by repeat (first|(with_reducible first|exact HB.out|apply bY|apply aU|apply bI|refine below_set ?_ GE21.out|refine below_set ?_ GE22.out)|exact HB.out)):p:=h
theorem EA {p:Prop} (h:p:=by repeat (first|(with_reducible first|exact HB.out|apply bY|apply aU|apply bI|refine below_set ?_ GE38.out|refine below_set ?_ GE41.out)|exact HB.out)):p:=h
theorem IB {p:Prop} (h:p:=by repeat (first|(with_reducible first|exact HK.out|apply aD.BL|apply kN|apply iA|apply lI|refine iF ?_ GW35.out _|refine iF ?_ GW68.out _)|exact HK.out)):p:=h
theorem IC {p:Prop} (h:p:=by repeat (first|(with_reducible first|exact HB.out|apply bY|apply aU|apply bI|refine below_set ?_ (aJ.ge HI0.out)|refine below_set ?_ GE35.out)|exact HB.out)):p:=h
theorem EB {p:Prop} (h:p:=by repeat (first|(with_reducible first|exact HK.out|apply aD.BL|apply kN|apply iA|apply lI|refine iF ?_ GW440.out _)|exact HK.out)):p:=h
theorem ME {p:Prop} (h:p:=by repeat (first|(with_reducible first|exact HI0.out|apply aJ.alloc|apply aJ.drewN|apply aJ.drew|apply aJ.vR|refine aJ.far ?_ NB0_52.out _|refine aJ.far ?_ NB0_55.out _)|exact HI0.out)):p:=h
theorem IE {p:Prop} (h:p:=by repeat (first|(with_reducible first|exact HK.out|apply aD.BL|apply kN|apply iA|apply lI|refine iF ?_ GW479.out _)|exact HK.out)):p:=h
theorem IG {p:Prop} (h:p:=by repeat (first|(with_reducible first|exact HK.out|apply aD.BL|apply kN|apply iA|apply lI|refine iF ?_ GW28.out _)|exact HK.out)):p:=h
theorem II {p:Prop} (h:p:=by repeat (first|(with_reducible first|exact HK.out|apply Kept.alloc|apply Kept.drewN|apply Kept.drew|refine Kept.setCell ?_ (.inr GW24.out) _)|exact HK.out)):p:=h
theorem PD {p:Prop} (h:p:=by repeat (first|(with_reducible first|exact HI0.out|apply aJ.alloc|apply aJ.drewN|apply aJ.drew|apply aJ.vR|refine aJ.far ?_ NB0_35.out _|refine aJ.far ?_ NB0_68.out _)|exact HI0.out)):p:=h
theorem MF {p:Prop} (h:p:=by repeat (first|(with_reducible first|exact HK.out|apply aD.BL|apply kN|apply iA|apply lI|refine iF ?_ GW52.out _)|exact HK.out)):p:=h
theorem PE {p:Prop} (h:p:=by repeat (first|(with_reducible first|exact HB.out|apply bY|apply aU|apply bI|refine below_set ?_ (aJ.ge HI28.out)|refine below_set ?_ GE27.out)|exact HB.out)):p:=h
theorem TI {p:Prop} (h:p:=by repeat (first|(with_reducible first|exact HB.out|apply bY|apply aU|apply bI|refine below_set ?_ (aJ.ge HI0.out)|refine below_set ?_ GE52.out|refine below_set ?_ GE55.out)|exact HB.out)):p:=h
theorem MG {p:Prop} (h:p:=by repeat (first|(with_reducible first|exact HB.out|apply bY|apply aU|apply bI|refine below_set ?_ GE24.out)|exact HB.out)):p:=h
theorem PG {p:Prop} (h:p:=by repeat (first|(with_reducible first|exact HI0.out|apply aJ.alloc|apply aJ.drewN|apply aJ.drew|apply aJ.vR|refine aJ.far ?_ NB0_440.out _)|exact HI0.out)):p:=h
theorem PI {p:Prop} (h:p:=by repeat (first|(with_reducible first|exact HI0.out|apply aJ.alloc|apply aJ.drewN|apply aJ.drew|apply aJ.vR|refine aJ.far ?_ NB0_52.out _)|exact HI0.out)):p:=h
theorem PK {p:Prop} (h:p:=by repeat (first|(with_reducible first|exact HI0.out|apply aJ.alloc|apply aJ.drewN|apply aJ.drew|apply aJ.vR|refine aJ.far ?_ NB0_28.out _)|exact HI0.out)):p:=h
theorem PL {p:Prop} (h:p:=by repeat (first|(with_reducible first|exact HK.out|apply aD.BL|apply kN|apply iA|apply lI|refine iF ?_ GW29.out _)|exact HK.out)):p:=h
theorem aCn {p:Prop} (h:p:=by repeat (first|(with_reducible first|exact HB.out|apply bY|apply aU|apply bI|refine below_set ?_ (aJ.ge HI0.out)|refine below_set ?_ GE35.out|refine below_set ?_ GE68.out)|exact HB.out)):p:=h
theorem TJ {p:Prop} (h:p:=by repeat (first|(with_reducible first|exact HI0.out|apply aJ.alloc|apply aJ.drewN|apply aJ.drew|apply aJ.vR|refine aJ.far ?_ NB0_479.out _)|exact HI0.out)):p:=h
theorem TK {p:Prop} (h:p:=by repeat (first|(with_reducible first|exact HI0.out|apply aJ.alloc|apply aJ.drewN|apply aJ.drew|apply aJ.vR|refine aJ.far ?_ NB0_29.out _)|exact HI0.out)):p:=h
theorem aCo {p:Prop} (h:p:=by repeat (first|(with_reducible first|exact HB.out|apply bY|apply aU|apply bI|refine below_set ?_ GE21.out|refine below_set ?_ GE22.out|refine below_set ?_ GE23.out)|exact HB.out)):p:=h
theorem aCp {p:Prop} (h:p:=by repeat (first|(with_reducible first|exact HB.out|apply bY|apply aU|apply bI|refine below_set ?_ (aJ.ge HI0.out)|refine below_set ?_ GE29.out)|exact HB.out)):p:=h
theorem aCq {p:Prop} (h:p:=by repeat (first|(with_reducible first|exact HB.out|apply bY|apply aU|apply bI|refine below_set ?_ (aJ.ge HI0.out)|refine below_set ?_ GE28.out)|exact HB.out)):p:=h
theorem aFf {p:Prop} (h:p:=by repeat (first|(with_reducible first|exact HB.out|apply bY|apply aU|apply bI|refine below_set ?_ (aJ.ge HI0.out)|refine below_set ?_ GE440.out)|exact HB.out)):p:=h
theorem aFg {p:Prop} (h:p:=by repeat (first|(with_reducible first|exact HB.out|apply bY|apply aU|apply bI|refine below_set ?_ (aJ.ge HI0.out)|refine below_set ?_ GE52.out)|exact HB.out)):p:=h
theorem aCr {p:Prop} (h:p:=by repeat (first|(with_reducible first|exact HBW.out|apply bY|apply aU|apply bI)|exact HBW.out)):p:=h
theorem aAu {p:Prop} (h:p:=by repeat (first|(with_reducible first|exact HB.out|apply bY|apply aU|apply bI|refine below_set ?_ GE38.out)|exact HB.out)):p:=h
theorem aAv {p:Prop} (h:p:=by repeat (first|(with_reducible first|exact HB.out|apply bY|apply aU|apply bI|refine below_set ?_ GE20.out)|exact HB.out)):p:=h
theorem aFb {p:Prop} (h:p:=by repeat (first|(with_reducible first|exact HB.out|apply bY|apply aU|apply bI|refine below_set ?_ (aJ.ge HI0.out)|refine below_set ?_ GE479.out)|exact HB.out)):p:=h
theorem aFc {p:Prop} (h:p:=by repeat (first|(with_reducible first|exact HI28.out|apply aJ.alloc|apply aJ.drewN|apply aJ.drew|apply aJ.vR|refine aJ.far ?_ NB28_27.out _)|exact HI28.out)):p:=h
theorem aFd {p:Prop} (h:p:=by repeat (first|(with_reducible first|exact HK.out|apply kN|apply iA)|exact HK.out)):p:=h
theorem aN_ {p q:Prop} (x:q) (h:q→p:=by intro hx_;(with_reducible repeat (first|apply Kd.aCg|apply Kd.aCh|apply Kd.rF));exact hx_):p:=h x
theorem aR_ {p q:Prop} (x:q) (h:q→p:=by intro hx_;(with_reducible repeat (first|apply Kd.aCi|apply Kd.aCj|apply Kd.oJ));exact hx_):p:=h x
theorem aG_ {p q:Prop} (x:q) (h:q→p:=by intro hx_;(with_reducible repeat (first|refine dW ?_ _|refine dA ?_|refine dS ?_ _));exact hx_):p:=h x
theorem rr_ {p:Prop} (h:p:=by first|rfl|(simp [lM,lN] <;> rfl)|(simp [*,lM,lN] <;> rfl)):p:=h
theorem bsm {α β:Type} {o:Option α} {f:α→Option β} {b:β} (h:o.bind f=some b):∃ a,o=some a∧f a=some b:=Option.bind_eq_some_iff.mp h
theorem am {p:Prop} (h:p):Aside0 p:=⟨h⟩
theorem oI {α:Type} {a b:α} (h:some a=some b):a=b:=Option.some.inj h
theorem sA {α:Type} (l:List α) (i:Nat) (a:α):l.toArray.setIfInBounds i a=(l.set i a).toArray:=List.setIfInBounds_toArray ..
theorem sB {α:Type} (x:α) (xs:List α) (a:α):(x :: xs).set 0 a=a :: xs:=rfl
theorem sC {α:Type} (x:α) (xs:List α) (n:Nat) (a:α):(x :: xs).set (n + 1) a=x :: xs.set n a:=rfl
theorem bcT {w W:World} {p:Addr} {v:Value} (h:Below w.heap.size w W) (x:w.cell? p=some v):W.cell? p=some v:=(h.cell (World.block_lt_of_cell? w _ x)).trans x
theorem gC {P:Program} {ops:Array Oper} {Q:Exit→Act→World→Prop} {rest:List Oper} {o:Oper} {a:Act} {W:World} (f:FuncId) {as_:Array Operand} {ts:Array TypeId} (_ho:o.op= .call { callee:=.value (.func f),args:=as_,argTypes:=ts }) (h:wpList P ops Q (o :: rest) a W):wpList P ops Q (o :: rest) a W:=h
theorem gD {P:Program} {ops:Array Oper} {Q:Exit→Act→World→Prop} {rest:List Oper} {o:Oper} {a:Act} {W:World} (N:Tmp) (_hN:o.dst=some N) (h:wpList P ops Q (o :: rest) a W):wpList P ops Q (o :: rest) a W:=h
theorem dT {p:Prop} [Decidable p] (h:p):decide p=true:=decide_eq_true h
theorem dF {p:Prop} [Decidable p] (h:¬ p):decide p=false:=decide_eq_false h
theorem bE {α:Type} [BEq α] [LawfulBEq α] {a b:α} (h:a≠b):(a == b)=false:=beq_eq_false_iff_ne.mpr h
theorem bF {α:Type} [BEq α] [LawfulBEq α] {a b:α} (h:a=b):(a != b)=false:=bne_eq_false_iff_eq.mpr h
theorem cv_ {p:Prop} (h:p:=by (try simp only [List.map_toArray,List.map_cons,List.map_nil]);first|done|rfl):p:=h
theorem iV {w:World} {g:Nat} {t:TypeId} {x0 x1:Value} (h:w.heap[g]?=some (.cells #[x0,x1] t (0,0))):w.cell? ⟨g,0,none⟩=some x0∧w.cell? ⟨g,1,none⟩=some x1∧w.frozen? ⟨g,0,none⟩=false∧w.frozen? ⟨g,1,none⟩=false:=⟨(aG h 0).trans rfl,(aG h 1).trans rfl,aZ h 0,aZ h 1⟩
theorem mE {w:World} {g:Nat} {t:TypeId} {x0 x1 x2:Value} (h:w.heap[g]?=some (.cells #[x0,x1,x2] t (0,0))):w.cell? ⟨g,0,none⟩=some x0∧w.cell? ⟨g,1,none⟩=some x1∧w.cell? ⟨g,2,none⟩=some x2∧w.frozen? ⟨g,0,none⟩=false∧w.frozen? ⟨g,1,none⟩=false∧w.frozen? ⟨g,2,none⟩=false:=⟨(aG h 0).trans rfl,(aG h 1).trans rfl,(aG h 2).trans rfl,aZ h 0,aZ h 1,aZ h 2⟩
theorem fP {w:World} {g:Nat} {t:TypeId} {x0 x1 x2 x3 x4 x5 x6 x7:Value} (h:w.heap[g]?=some (.cells #[x0,x1,x2,x3,x4,x5,x6,x7] t (0,0))):w.cell? ⟨g,0,none⟩=some x0∧w.cell? ⟨g,1,none⟩=some x1∧w.cell? ⟨g,2,none⟩=some x2∧w.cell? ⟨g,3,none⟩=some x3∧w.cell? ⟨g,4,none⟩=some x4∧w.cell? ⟨g,5,none⟩=some x5∧w.cell? ⟨g,6,none⟩=some x6∧w.cell? ⟨g,7,none⟩=some x7∧w.frozen? ⟨g,0,none⟩=false∧w.frozen? ⟨g,1,none⟩=false∧w.frozen? ⟨g,2,none⟩=false∧w.frozen? ⟨g,3,none⟩=false∧w.frozen? ⟨g,4,none⟩=false∧w.frozen? ⟨g,5,none⟩=false∧w.frozen? ⟨g,6,none⟩=false∧w.frozen? ⟨g,7,none⟩=false:=⟨(aG h 0).trans rfl,(aG h 1).trans rfl,(aG h 2).trans rfl,(aG h 3).trans rfl,(aG h 4).trans rfl,(aG h 5).trans rfl,(aG h 6).trans rfl,(aG h 7).trans rfl,aZ h 0,aZ h 1,aZ h 2,aZ h 3,aZ h 4,aZ h 5,aZ h 6,aZ h 7⟩
theorem eH {W0 W W1:World} {g:Nat} {o:Obj} (x:W0.heap[g]?=some o) (hb:Below W.heap.size W W1) (h:W0.heap[g]?=some o→W.heap[g]?=some o:=by intro hx_;(with_reducible repeat (first|refine dW ?_ _|refine dA ?_|refine dS ?_ _));exact hx_):W1.heap[g]?=some o:=eP (h x) hb
theorem bbP {W0 W W1:World} {g:Nat} {o:Obj} (x:Aside0 (W0.heap[g]?=some o)) (hb:Below W.heap.size W W1) (h:W0.heap[g]?=some o→W.heap[g]?=some o:=by intro hx_;(with_reducible repeat (first|refine dW ?_ _|refine dA ?_|refine dS ?_ _));exact hx_):Aside0 (W1.heap[g]?=some o):=⟨eP (h x.out) hb⟩
theorem uI {W0 W:World} {g:Nat} {o:Obj} (x:W0.heap[g]?=some o) (h:W0.heap[g]?=some o→W.heap[g]?=some o:=by intro hx_;(with_reducible repeat (first|refine dW ?_ _|refine dA ?_|refine dS ?_ _));exact hx_):g < W.heap.size:=kF (h x)
theorem kT {W0 W:World} {g:Nat} {o:Obj} (x:W0.heap[g]?=some o) (k:Nat) (hk:W.heap.size≤k) (h:W0.heap[g]?=some o→W.heap[g]?=some o:=by intro hx_;(with_reducible repeat (first|refine dW ?_ _|refine dA ?_|refine dS ?_ _));exact hx_):k≠g:=Kd.aFu (h x) k hk
theorem aC_ {p q:Prop} (x:q) (h:q→p:=by intro hx_;repeat (first|exact hx_|(with_reducible refine Kd.lS ?_ _)|(with_reducible refine Kd.kZ ?_ _)|(with_reducible refine Kd.mP ?_))):p:=h x
theorem rn_ {p:Prop} (h:p:=by first|(go_simp;done)|(go_simp;rfl)):p:=h
theorem sd_ {p:Prop} (h:p:=by first|rfl|(simp;done)|(simp [*];done)):p:=h
theorem fK {p:Prop} (h:p:=by first|(with_reducible assumption)|assumption):p:=h
theorem pr_ (i N:Nat) (l':Array Bool) {P:Program} {md:Region.Mode} {ops:Array Oper} {Q:Exit→Act→World→Prop} {S:World→Prop} {ds:List Nat} {oi:Oper} {v:Value} {fuel:Nat} {l:Array Bool} {a a':Act} {w:World} {T:Bool × List (List Nat × List Nat)} (HT:Aside0 (mH md ops=T)) (h:dM P md ops Q S ds fuel l' a' w) (hi:ops[i]?=some oi:=by rfl) (hN:oi.dst=some N:=by rfl) (hc:aHq T l.toList l'.toList i=true:=by kernel_rfl) (hQ:∀ c a w,Q (.panic c) (a.put oi.dst v) w→Q (.panic c) a w:=by exact fun _ _ _ h_=>h_) (hg:Region.wanted oi (yielded ops a.tmps)=true:=by rfl) (hy:∀ w,(execOp a.eval oi).run P w= .ok (.value v) w:=by (intro w';go_simp;with_reducible rfl)) (ha:a.put (some N) v=a':=by first|(simp only [Act.put,sA,sB,sC,fA,fE];rfl)|rfl):dM P md ops Q S ds (fuel + 1) l a w:=uU l' hi hN (aFh HT.out hc) hQ (Or.inl ⟨hg,hy⟩) ha h
theorem pu_ (i N:Nat) (l':Array Bool) {P:Program} {md:Region.Mode} {ops:Array Oper} {Q:Exit→Act→World→Prop} {S:World→Prop} {ds:List Nat} {oi:Oper} {fuel:Nat} {l:Array Bool} {a a':Act} {w:World} {T:Bool × List (List Nat × List Nat)} (HT:Aside0 (mH md ops=T)) (h:dM P md ops Q S ds fuel l' a' w) (hi:ops[i]?=some oi:=by rfl) (hN:oi.dst=some N:=by rfl) (hc:aHq T l.toList l'.toList i=true:=by kernel_rfl) (hQ:∀ c a w,Q (.panic c) (a.put oi.dst undef) w→Q (.panic c) a w:=by exact fun _ _ _ h_=>h_) (hg:Region.wanted oi (yielded ops a.tmps)=false:=by rfl) (ha:a.put (some N) undef=a':=by first|(simp only [Act.put,sA,sB,sC,fA,fE];rfl)|rfl):dM P md ops Q S ds (fuel + 1) l a w:=uU (v:=undef) l' hi hN (aFh HT.out hc) hQ (Or.inr ⟨hg,rfl⟩) ha h
theorem aEi (i N:Nat) (l':Array Bool) {P:Program} {md:Region.Mode} {ops:Array Oper} {Q:Exit→Act→World→Prop} {S:World→Prop} {ds:List Nat} {oi:Oper} {v:Value} {fuel:Nat} {l:Array Bool} {a a':Act} {w:World} {T:Bool × List (List Nat × List Nat)} {B:List Nat} (HT:Aside0 (mH md ops=T)) (HW:Aside0 (iY T.2 B=true)) (hS:S w) (h:dM P md ops Q S ds fuel l' a' w) (hi:ops[i]?=some oi:=by rfl) (hN:oi.dst=some N:=by rfl) (hc:FI T B ds l.toList l'.toList i=true:=by kernel_rfl) (hQ:∀ c a w,Q (.panic c) (a.put oi.dst v) w→Q (.panic c) a w:=by exact fun _ _ _ h_=>h_) (hg:Region.wanted oi (yielded ops a.tmps)=true:=by rfl) (hy:∀ w,S w→(execOp a.eval oi).run P w= .ok (.value v) w:=by (rintro w' ⟨s0,s1⟩;go_simp;with_reducible rfl)) (ha:a.put (some N) v=a':=by first|(simp only [Act.put,sA,sB,sC,fA,fE];rfl)|rfl):dM P md ops Q S ds (fuel + 1) l a w:=vV l' hi hN (vW HT.out HW.out hc) hQ (Or.inl ⟨hg,hy⟩) hS ha h
theorem aIm (i N:Nat) (l':Array Bool) {P:Program} {md:Region.Mode} {ops:Array Oper} {Q:Exit→Act→World→Prop} {S:World→Prop} {ds:List Nat} {oi:Oper} {v:Value} {fuel:Nat} {l:Array Bool} {a a':Act} {w:World} {T:Bool × List (List Nat × List Nat)} {B:List Nat} (HT:Aside0 (mH md ops=T)) (HW:Aside0 (iY T.2 B=true)) (hS:S w) (h:dM P md ops Q S ds fuel l' a' w) (hi:ops[i]?=some oi:=by rfl) (hN:oi.dst=some N:=by rfl) (hc:FI T B ds l.toList l'.toList i=true:=by kernel_rfl) (hQ:∀ c a w,Q (.panic c) (a.put oi.dst v) w→Q (.panic c) a w:=by exact fun _ _ _ h_=>h_) (hg:Region.wanted oi (yielded ops a.tmps)=true:=by rfl) (hy:∀ w,S w→(execOp a.eval oi).run P w= .ok (.value v) w:=by (rintro w' ⟨s0,s1,s2⟩;go_simp;with_reducible rfl)) (ha:a.put (some N) v=a':=by first|(simp only [Act.put,sA,sB,sC,fA,fE];rfl)|rfl):dM P md ops Q S ds (fuel + 1) l a w:=vV l' hi hN (vW HT.out HW.out hc) hQ (Or.inl ⟨hg,hy⟩) hS ha h
theorem OV (i N:Nat) (l':Array Bool) {P:Program} {md:Region.Mode} {ops:Array Oper} {Q:Exit→Act→World→Prop} {S:World→Prop} {ds:List Nat} {oi:Oper} {v:Value} {fuel:Nat} {l:Array Bool} {a a':Act} {w:World} {T:Bool × List (List Nat × List Nat)} {B:List Nat} (HT:Aside0 (mH md ops=T)) (HW:Aside0 (iY T.2 B=true)) (hS:S w) (h:dM P md ops Q S ds fuel l' a' w) (hi:ops[i]?=some oi:=by rfl) (hN:oi.dst=some N:=by rfl) (hc:FI T B ds l.toList l'.toList i=true:=by kernel_rfl) (hQ:∀ c a w,Q (.panic c) (a.put oi.dst v) w→Q (.panic c) a w:=by exact fun _ _ _ h_=>h_) (hg:Region.wanted oi (yielded ops a.tmps)=true:=by rfl) (hy:∀ w,S w→(execOp a.eval oi).run P w= .ok (.value v) w:=by (rintro w' ⟨s0,s1,s2,s3⟩;go_simp;with_reducible rfl)) (ha:a.put (some N) v=a':=by first|(simp only [Act.put,sA,sB,sC,fA,fE];rfl)|rfl):dM P md ops Q S ds (fuel + 1) l a w:=vV l' hi hN (vW HT.out HW.out hc) hQ (Or.inl ⟨hg,hy⟩) hS ha h
theorem aBy (i N:Nat) (l':Array Bool) {P:Program} {md:Region.Mode} {ops:Array Oper} {Q:Exit→Act→World→Prop} {S:World→Prop} {ds:List Nat} {oi:Oper} {v:Value} {fuel:Nat} {l:Array Bool} {a a':Act} {w:World} {T:Bool × List (List Nat × List Nat)} {B:List Nat} (HT:Aside0 (mH md ops=T)) (HW:Aside0 (iY T.2 B=true)) (hS:S w) (h:dM P md ops Q S ds fuel l' a' w) (hi:ops[i]?=some oi:=by rfl) (hN:oi.dst=some N:=by rfl) (hc:FI T B ds l.toList l'.toList i=true:=by kernel_rfl) (hQ:∀ c a w,Q (.panic c) (a.put oi.dst v) w→Q (.panic c) a w:=by exact fun _ _ _ h_=>h_) (hg:Region.wanted oi (yielded ops a.tmps)=true:=by rfl) (hy:∀ w,S w→(execOp a.eval oi).run P w= .ok (.value v) w:=by (rintro w' ⟨s0,s1,s2,s3,s4⟩;go_simp;with_reducible rfl)) (ha:a.put (some N) v=a':=by first|(simp only [Act.put,sA,sB,sC,fA,fE];rfl)|rfl):dM P md ops Q S ds (fuel + 1) l a w:=vV l' hi hN (vW HT.out HW.out hc) hQ (Or.inl ⟨hg,hy⟩) hS ha h
theorem yD (i N:Nat) (l':Array Bool) {P:Program} {md:Region.Mode} {ops:Array Oper} {Q:Exit→Act→World→Prop} {S:World→Prop} {ds:List Nat} {oi:Oper} {v:Value} {fuel:Nat} {l:Array Bool} {a a':Act} {w:World} {T:Bool × List (List Nat × List Nat)} {B:List Nat} (HT:Aside0 (mH md ops=T)) (HW:Aside0 (iY T.2 B=true)) (hS:S w) (h:dM P md ops Q S ds fuel l' a' w) (hi:ops[i]?=some oi:=by rfl) (hN:oi.dst=some N:=by rfl) (hc:FI T B ds l.toList l'.toList i=true:=by kernel_rfl) (hQ:∀ c a w,Q (.panic c) (a.put oi.dst v) w→Q (.panic c) a w:=by exact fun _ _ _ h_=>h_) (hg:Region.wanted oi (yielded ops a.tmps)=true:=by rfl) (hy:∀ w,S w→(execOp a.eval oi).run P w= .ok (.value v) w:=by (rintro w' ⟨s0,s1,s2,s3,s4,s5,s6,s7⟩;go_simp;with_reducible rfl)) (ha:a.put (some N) v=a':=by first|(simp only [Act.put,sA,sB,sC,fA,fE];rfl)|rfl):dM P md ops Q S ds (fuel + 1) l a w:=vV l' hi hN (vW HT.out HW.out hc) hQ (Or.inl ⟨hg,hy⟩) hS ha h
theorem aAl (i N:Nat) (l':Array Bool) {P:Program} {md:Region.Mode} {ops:Array Oper} {Q:Exit→Act→World→Prop} {S:World→Prop} {ds:List Nat} {oi:Oper} {v:Value} {fuel:Nat} {l:Array Bool} {a a':Act} {w:World} {T:Bool × List (List Nat × List Nat)} {B:List Nat} (HT:Aside0 (mH md ops=T)) (HW:Aside0 (iY T.2 B=true)) (hS:S w) (h:dM P md ops Q S ds fuel l' a' w) (hi:ops[i]?=some oi:=by rfl) (hN:oi.dst=some N:=by rfl) (hc:FI T B ds l.toList l'.toList i=true:=by kernel_rfl) (hQ:∀ c a w,Q (.panic c) (a.put oi.dst v) w→Q (.panic c) a w:=by exact fun _ _ _ h_=>h_) (hg:Region.wanted oi (yielded ops a.tmps)=true:=by rfl) (hy:∀ w,S w→(execOp a.eval oi).run P w= .ok (.value v) w:=by (rintro w' ⟨s0,s1,s2,s3,s4,s5,s6,s7,s8⟩;go_simp;with_reducible rfl)) (ha:a.put (some N) v=a':=by first|(simp only [Act.put,sA,sB,sC,fA,fE];rfl)|rfl):dM P md ops Q S ds (fuel + 1) l a w:=vV l' hi hN (vW HT.out HW.out hc) hQ (Or.inl ⟨hg,hy⟩) hS ha h
theorem aJd (i N:Nat) (l':Array Bool) {P:Program} {md:Region.Mode} {ops:Array Oper} {Q:Exit→Act→World→Prop} {S:World→Prop} {ds:List Nat} {oi:Oper} {v:Value} {fuel:Nat} {l:Array Bool} {a a':Act} {w:World} {T:Bool × List (List Nat × List Nat)} {B:List Nat} (HT:Aside0 (mH md ops=T)) (HW:Aside0 (iY T.2 B=true)) (hS:S w) (h:dM P md ops Q S ds fuel l' a' w) (hi:ops[i]?=some oi:=by rfl) (hN:oi.dst=some N:=by rfl) (hc:FI T B ds l.toList l'.toList i=true:=by kernel_rfl) (hQ:∀ c a w,Q (.panic c) (a.put oi.dst v) w→Q (.panic c) a w:=by exact fun _ _ _ h_=>h_) (hg:Region.wanted oi (yielded ops a.tmps)=true:=by rfl) (hy:∀ w,S w→(execOp a.eval oi).run P w= .ok (.value v) w:=by (rintro w' ⟨s0,s1,s2,s3,s4,s5,s6,s7,s8,s9,j3,j4,j5,j6,j7,j8⟩;go_simp;with_reducible rfl)) (ha:a.put (some N) v=a':=by first|(simp only [Act.put,sA,sB,sC,fA,fE];rfl)|rfl):dM P md ops Q S ds (fuel + 1) l a w:=vV l' hi hN (vW HT.out HW.out hc) hQ (Or.inl ⟨hg,hy⟩) hS ha h
theorem kV {α:Type} {d:Kd α} {e:Nat} {W0 W:World} {base:Nat} {ok:Nat→Prop} {v:Value} {xs:List α} (x:Kd.N d e W0 base ok v xs) (h:Kd.N d e W0 base ok v xs→Kd.N d e W base ok v xs:=by intro hx_;(with_reducible repeat (first|apply Kd.aCg|apply Kd.aCh|apply Kd.rF));exact hx_):Kd.N d e W base ok v xs:=h x
theorem gI {α:Type} {d:Kd α} {e:Nat} {W0 W:World} {base:Nat} {ok:Nat→Prop} {v:Value} {xs:List α} (x:Kd.R d e W0 base ok v xs) (h:Kd.R d e W0 base ok v xs→Kd.R d e W base ok v xs:=by intro hx_;(with_reducible repeat (first|apply Kd.aCi|apply Kd.aCj|apply Kd.oJ));exact hx_):Kd.R d e W base ok v xs:=h x
theorem uW {w:World} {g:Nat} {t:TypeId} {v0 v1:Value} (h:w.heap[g]?=some (.cells #[v0,v1] t (0,0))):w.cell? ⟨g,0,none⟩=some v0∧w.cell? ⟨g,1,none⟩=some v1:=⟨(aG h 0).trans rfl,(aG h 1).trans rfl⟩
theorem NZ {w:World} {g:Nat} {t:TypeId} {v0 v1 v2:Value} (h:w.heap[g]?=some (.cells #[v0,v1,v2] t (0,0))):w.cell? ⟨g,0,none⟩=some v0∧w.cell? ⟨g,1,none⟩=some v1∧w.cell? ⟨g,2,none⟩=some v2:=⟨(aG h 0).trans rfl,(aG h 1).trans rfl,(aG h 2).trans rfl⟩
theorem mM {w:World} {g:Nat} {t:TypeId} {v0 v1 v2 v3 v4 v5 v6 v7:Value} (h:w.heap[g]?=some (.cells #[v0,v1,v2,v3,v4,v5,v6,v7] t (0,0))):w.cell? ⟨g,0,none⟩=some v0∧w.cell? ⟨g,1,none⟩=some v1∧w.cell? ⟨g,2,none⟩=some v2∧w.cell? ⟨g,3,none⟩=some v3∧w.cell? ⟨g,4,none⟩=some v4∧w.cell? ⟨g,5,none⟩=some v5∧w.cell? ⟨g,6,none⟩=some v6∧w.cell? ⟨g,7,none⟩=some v7:=⟨(aG h 0).trans rfl,(aG h 1).trans rfl,(aG h 2).trans rfl,(aG h 3).trans rfl,(aG h 4).trans rfl,(aG h 5).trans rfl,(aG h 6).trans rfl,(aG h 7).trans rfl⟩
theorem ap_ {a a':Act} {v:Value} {N:Nat} (h:a.put (some N) v=a':=by first|(simp only [Act.put,sA,sB,sC,fA,fE];rfl)|rfl):a.put (some N) v=a':=h
def bz (n m:Nat):Array Bool:=((List.range n).map (fun i=>m.testBit i)).toArray
theorem rx_ {p:Prop} (h:p:=by first|(rw [hy_];with_reducible exact H)|(have H2_:=(Option.bind_some _ _).symm.trans H;rw [hy_];with_reducible exact H2_)|(have H2_:=(Option.bind_some _ _).symm.trans H;with_reducible exact H2_)|with_reducible exact H|(rw [hy_];exact H)|exact H):p:=h
theorem bsa {α β:Type} {o:Option α} {f:α→Option β} {b:β} (h:o.bind f=some b):∃ a,Aside0 (o=some a)∧f a=some b:=by
 obtain ⟨a,h1,h2⟩:=Option.bind_eq_some_iff.mp h;exact ⟨a,⟨h1⟩,h2⟩
theorem gl_ {P:Program} {ops:Array Oper} {Q:Exit→Act→World→Prop} {rest:List Oper} {oi:Oper} {a:Act} {w:World} (N:Nat) {f:FuncId} {fn:Func} {as_:Array Operand} {ts:Array TypeId} (hf:P.funcs[f]?=some fn) (args:Array Value) (h:Calls P f args w fun e w'=>∃ v,e= .returned v∧wpList P ops Q rest (a.put (some N) v) w') (hd:oi.dst=some N:=by rfl) (hg:oi.guard=none:=by rfl) (hname:(fn.name == "runtime.NumGoroutine")=false:=by kernel_rfl) (hb:fn.body.isSome=true:=by rfl) (hop:oi.op= .call { callee:=.value (.func f),args:=as_,argTypes:=ts }:=by rfl) (hargs:as_.map a.eval=args:=by (try simp only [List.map_toArray,List.map_cons,List.map_nil]);first|done|rfl|(simp only [List.length_drop,List.length_take];rfl)):wpList P ops Q (oi :: rest) a w:=wN (some N) hd hg hf hname hb args hop hargs h
theorem mo_ {p:Prop} (h:p:=by repeat' first|(with_reducible exact ih0 ..)|(with_reducible exact ih1 ..)|(with_reducible exact ih2 ..)|(with_reducible exact ih3 ..)|(with_reducible exact ih4 ..)|(with_reducible exact ih5 ..)|(with_reducible exact ih6 ..)|(with_reducible exact ih7 ..)|(with_reducible exact m0 ..)|(with_reducible exact m1 ..)|(with_reducible exact m2 ..)|(with_reducible exact m3 ..)|(with_reducible exact m4 ..)|(with_reducible exact m5 ..)|(with_reducible exact m6 ..)|(with_reducible exact LeO.refl _)|(with_reducible exact LeO.none _)|(with_reducible refine LeO.ite ?_ ?_)|(with_reducible refine LeO.bind ?_ (fun _=>?_))):p:=h
def aH.j0:Nat→Int→Bool→List Int→Int→Option (Int × Int)
 |0,_,_,_,_=>none
 |k + 1,x1,x24,x1000,x1001=>if x24=true then (some (0,x1001)) else (if (wrap64 (x1001 - 1)) < (x1000.length:Int) then (if 0≤(wrap64 (x1001 - 1)) then (if x1=0 then (none) else (some (Int.tmod (wrap64 (rd x1000 (wrap64 (x1001 - 1)))) x1,x1001))) else (none)) else (if (x1000.length:Int)=0 then (none) else (if 0≤(Int.tmod (wrap64 (x1001 - 1)) (x1000.length:Int)) then (if (Int.tmod (wrap64 (x1001 - 1)) (x1000.length:Int)) < (x1000.length:Int) then (if 0≤(Int.tmod (wrap64 ((wrap64 ((wrap64 (x1001 - 1)) * 7)) + 3)) (x1000.length:Int)) then (if (Int.tmod (wrap64 ((wrap64 ((wrap64 (x1001 - 1)) * 7)) + 3)) (x1000.length:Int)) < (x1000.length:Int) then (if x1=0 then (none) else (some (Int.tmod (Go.bits .xor .i64 (wrap64 ((wrap64 ((wrap64 ((wrap64 ((wrap64 (rd x1000 (Int.tmod (wrap64 (x1001 - 1)) (x1000.length:Int)))) * 131)) + (wrap64 ((wrap64 (rd x1000 (Int.tmod (wrap64 ((wrap64 ((wrap64 (x1001 - 1)) * 7)) + 3)) (x1000.length:Int)))) * 1117)))) + (wrap64 ((wrap64 (x1001 - 1)) * 29)))) + (wrap64 ((wrap64 (Int.tdiv (wrap64 (x1001 - 1)) (x1000.length:Int))) * 53)))) (wrap64 (Int.tdiv (wrap64 ((wrap64 ((wrap64 ((wrap64 ((wrap64 (rd x1000 (Int.tmod (wrap64 (x1001 - 1)) (x1000.length:Int)))) * 131)) + (wrap64 ((wrap64 (rd x1000 (Int.tmod (wrap64 ((wrap64 ((wrap64 (x1001 - 1)) * 7)) + 3)) (x1000.length:Int)))) * 1117)))) + (wrap64 ((wrap64 (x1001 - 1)) * 29)))) + (wrap64 ((wrap64 (Int.tdiv (wrap64 (x1001 - 1)) (x1000.length:Int))) * 53)))) 64))) x1,x1001))) else (none)) else (none)) else (none)) else (none))))
def aH.f (k:Nat) (s0_0:List Int) (s0_1:Int) (a1:Int):Option (Int × Int):=if a1 < 1 then (aH.j0 k a1 true s0_0 (wrap64 (s0_1 + 1))) else (aH.j0 k a1 ((s0_0.length:Int) == 0) s0_0 (wrap64 (s0_1 + 1)))
def dR.l0:Nat→List Int→Int→Int→List Int→Int→Option (List Int × Int)
 |0,_,_,_,_,_=>none
 |k + 1,x3,x4,x5,x1000,x1001=>if x5 < x4 then ((some (([1,1,2,3,4]:List Int):List Int)).bind fun y113=>((aH.f k x1000 x1001 5).bind fun bt116=>(if 0≤bt116.1 then (if bt116.1 < (y113.length:Int) then (if x3.length < 17592186044416 then (dR.l0 k (x3 ++ [rd y113 bt116.1]) x4 (wrap64 (x5 + 1)) x1000 bt116.2) else (none)) else (none)) else (none)))) else (some (x3,x1001))
def dR.f (k:Nat) (s0_0:List Int) (s0_1:Int):Option (List Int × Int):=(some (([0,1,1,2,2,3]:List Int):List Int)).bind fun y107=>((aH.f k s0_0 s0_1 6).bind fun bt110=>(if 0≤bt110.1 then (if bt110.1 < (y107.length:Int) then (dR.l0 k (([]:List Int)) (rd y107 bt110.1) 0 s0_0 bt110.2) else (none)) else (none)))
mutual
def bS.l0:Nat→List (S58)→Int→Int→Option (Int)
 |0,_,_,_=>none
 |k + 1,x0,x3,x4=>if x4 < (x0.length:Int) then (if 0≤x4 then ((bS.f k ((aM x0 x4).f4)).bind fun t123=>((bS.f k ((aM x0 x4).f5)).bind fun t125=>(bS.l0 k x0 (wrap64 ((wrap64 ((wrap64 (x3 + 1)) + t123)) + t125)) (wrap64 (x4 + 1))))) else (none)) else (some x3)
def bS.f:Nat→List (S58)→Option (Int)
 |0,_=>none
 |k + 1,l0=>bS.l0 k l0 0 0
end
def iK.f (a0:Int) (a1:Int):Option (Int × Int × (List (S56))):=some (a0,a1,(([]:List (S56))))
def iM.f (k:Nat) (s0_0:List Int) (s0_1:Int):Option (Int × Int × (List (S56)) × Int):=(aH.f k s0_0 s0_1 4).bind fun bt131=>(if bt131.1=0 then ((aH.f k s0_0 bt131.2 4).bind fun bt133=>((iK.f 0 bt133.1).bind fun bt135=>(some (bt135.1,bt135.2.1,bt135.2.2,bt133.2)))) else (if bt131.1=1 then ((some (([5,31,32,100,2047,2048,65536,99999]:List Int):List Int)).bind fun y140=>((aH.f k s0_0 bt131.2 8).bind fun bt143=>(if 0≤bt143.1 then (if bt143.1 < (y140.length:Int) then ((iK.f 0 (rd y140 bt143.1)).bind fun bt146=>(some (bt146.1,bt146.2.1,bt146.2.2,bt143.2))) else (none)) else (none)))) else ((aH.f k s0_0 bt131.2 4).bind fun bt151=>((iK.f 13 bt151.1).bind fun bt153=>(some (bt153.1,bt153.2.1,bt153.2.2,bt151.2))))))
def nW.f (a0:Int) (a1_0:Int) (a1_1:Int) (l1_2:List (S56)) (a2_0:Int) (a2_1:Int) (l2_2:List (S56)):Option (Int × Int × (List (S56))):=some (a0,0,(([(⟨a1_0,a1_1,l1_2⟩:S56),(⟨a2_0,a2_1,l2_2⟩:S56)]:List (S56))))
def mK.f (k:Nat) (s0_0:List Int) (s0_1:Int):Option (Int × Int):=(aH.f k s0_0 s0_1 12).bind fun bt164=>(some (wrap64 (1 + bt164.1),bt164.2))
mutual
def bJ.j0:Nat→Int→Bool→List Int→Int→Option (Int × Int × (List (S56)) × Int)
 |0,_,_,_,_=>none
 |k + 1,x1,x13,x1000,x1001=>if x13=true then ((iM.f k x1000 x1001).bind fun bt169=>(some (bt169.1,bt169.2.1,bt169.2.2.1,bt169.2.2.2))) else ((mK.f k x1000 x1001).bind fun bt175=>((bJ.f k x1000 bt175.2 (wrap64 (x1 - 1))).bind fun bt177=>((bJ.f k x1000 bt177.2.2.2 (wrap64 (x1 - 1))).bind fun bt184=>((nW.f bt175.1 bt177.1 bt177.2.1 bt177.2.2.1 bt184.1 bt184.2.1 bt184.2.2.1).bind fun bt190=>(some (bt190.1,bt190.2.1,bt190.2.2,bt184.2.2.2))))))
def bJ.f:Nat→List Int→Int→Int→Option (Int × Int × (List (S56)) × Int)
 |0,_,_,_=>none
 |k + 1,s0_0,s0_1,a1=>if a1 < 2 then (bJ.j0 k a1 true s0_0 s0_1) else ((aH.f k s0_0 s0_1 3).bind fun bt167=>(bJ.j0 k a1 (bt167.1 == 0) s0_0 bt167.2))
end
def gN.f (k:Nat) (s0_0:List Int) (s0_1:Int):Option (Int × Int × Int × Int × Int × (List (S56)) × (List (S58)) × (List (S58)) × Int):=(aH.f k s0_0 s0_1 3).bind fun bt196=>((aH.f k s0_0 bt196.2 3).bind fun bt198=>((bJ.f k s0_0 bt198.2 (wrap64 (1 + bt198.1))).bind fun bt200=>(some (1,bt196.1,0,bt200.1,bt200.2.1,bt200.2.2.1,([]:List (S58)),([]:List (S58)),bt200.2.2.2))))
def gT.f (k:Nat) (s0_0:List Int) (s0_1:Int) (a1:Int):Option (Int × Int × Int × Int × Int × (List (S56)) × (List (S58)) × (List (S58)) × Int):=if a1 < 1 then ((gN.f k s0_0 s0_1).bind fun bt207=>(some (bt207.1,bt207.2.1,bt207.2.2.1,bt207.2.2.2.1,bt207.2.2.2.2.1,bt207.2.2.2.2.2.1,bt207.2.2.2.2.2.2.1,bt207.2.2.2.2.2.2.2.1,bt207.2.2.2.2.2.2.2.2))) else ((aH.f k s0_0 s0_1 a1).bind fun bt222=>((aH.f k s0_0 bt222.2 2).bind fun bt224=>(if bt224.1=0 then ((aH.f k s0_0 bt224.2 3).bind fun bt226=>((bJ.f k s0_0 bt226.2 (wrap64 (1 + bt226.1))).bind fun bt228=>(some (4,0,bt222.1,bt228.1,bt228.2.1,bt228.2.2.1,([]:List (S58)),([]:List (S58)),bt228.2.2.2)))) else ((aH.f k s0_0 bt224.2 3).bind fun bt234=>(some (5,bt234.1,bt222.1,0,0,([]:List (S56)),([]:List (S58)),([]:List (S58)),bt234.2))))))
mutual
def dX.f:Nat→List Int→Int→Int→Int→Bool→Option (Int × Int × Int × Int × Int × (List (S56)) × (List (S58)) × (List (S58)) × Int)
 |0,_,_,_,_,_=>none
 |k + 1,s0_0,s0_1,a1,a2,a3=>(aH.f k s0_0 s0_1 2).bind fun bt237=>((bJ.f k s0_0 bt237.2 (wrap64 (1 + bt237.1))).bind fun bt239=>((aH.f k s0_0 bt239.2.2.2 3).bind fun bt246=>((bT.f k s0_0 bt246.2 a1 (wrap64 (a2 - 1)) bt246.1 a3).bind fun bt248=>((aH.f k s0_0 bt248.2 3).bind fun bt252=>((bT.f k s0_0 bt252.2 a1 (wrap64 (a2 - 1)) bt252.1 a3).bind fun bt254=>(some (2,0,0,bt239.1,bt239.2.1,bt239.2.2.1,bt248.1,bt254.1,bt254.2)))))))
def fD.f:Nat→List Int→Int→Int→Int→Option ((List (S58)) × Int)
 |0,_,_,_,_=>none
 |k + 1,s0_0,s0_1,a1,a2=>(aH.f k s0_0 s0_1 3).bind fun bt258=>((bT.f k s0_0 bt258.2 a1 (wrap64 (a2 - 1)) bt258.1 false).bind fun bt260=>((iK.f 13 3).bind fun bt264=>((iK.f 0 1).bind fun bt269=>((nW.f 8 bt264.1 bt264.2.1 bt264.2.2 bt269.1 bt269.2.1 bt269.2.2).bind fun bt274=>((iK.f 13 3).bind fun bt280=>((aH.f k s0_0 bt260.2 3).bind fun bt285=>((iK.f 0 (wrap64 (1 + bt285.1))).bind fun bt287=>((nW.f 5 bt280.1 bt280.2.1 bt280.2.2 bt287.1 bt287.2.1 bt287.2.2).bind fun bt292=>((some (([(⟨1,3,0,(⟨bt274.1,bt274.2.1,bt274.2.2⟩:S56),([]:List (S58)),([]:List (S58))⟩:S58)]:List (S58)):List (S58))).bind fun y297=>(if bt260.1.length + y297.length < 1256584717458 then ((iK.f 0 0).bind fun bt304=>(some ((([(⟨1,3,0,(⟨bt304.1,bt304.2.1,bt304.2.2⟩:S56),([]:List (S58)),([]:List (S58))⟩:S58),(⟨3,0,0,(⟨bt292.1,bt292.2.1,bt292.2.2⟩:S56),(bt260.1 ++ y297),([]:List (S58))⟩:S58)]:List (S58))),bt285.2))) else (none)))))))))))
def bG.j0:Nat→Int→Int→Bool→Int→Bool→List Int→Int→Option ((List (S58)) × Int)
 |0,_,_,_,_,_,_,_=>none
 |k + 1,x1,x2,x3,x10,x11,x1000,x1001=>if x11=true then ((gN.f k x1000 x1001).bind fun bt314=>(some ((([(⟨bt314.1,bt314.2.1,bt314.2.2.1,(⟨bt314.2.2.2.1,bt314.2.2.2.2.1,bt314.2.2.2.2.2.1⟩:S56),bt314.2.2.2.2.2.2.1,bt314.2.2.2.2.2.2.2.1⟩:S58)]:List (S58))),bt314.2.2.2.2.2.2.2.2))) else (if x10=2 then (if x2 > 0 then ((dX.f k x1000 x1001 x1 x2 x3).bind fun bt332=>(some ((([(⟨bt332.1,bt332.2.1,bt332.2.2.1,(⟨bt332.2.2.2.1,bt332.2.2.2.2.1,bt332.2.2.2.2.2.1⟩:S56),bt332.2.2.2.2.2.2.1,bt332.2.2.2.2.2.2.2.1⟩:S58)]:List (S58))),bt332.2.2.2.2.2.2.2.2))) else ((aH.f k x1000 x1001 3).bind fun bt350=>((bJ.f k x1000 bt350.2 (wrap64 (1 + bt350.1))).bind fun bt352=>(some ((([(⟨7,0,0,(⟨bt352.1,bt352.2.1,bt352.2.2.1⟩:S56),([]:List (S58)),([]:List (S58))⟩:S58)]:List (S58))),bt352.2.2.2))))) else (if x10=3 then (if x2 > 0 then (bG.j1 k x1 x2 x3 x1000 x1001) else (bG.j1 k x1 x2 false x1000 x1001)) else (if x10=4 then (bG.j2 k x1 x10 (x10 == 4) x1000 x1001) else (if x10=5 then (bG.j2 k x1 x10 (x10 == 5) x1000 x1001) else (bG.j2 k x1 x10 (x10 == 6) x1000 x1001)))))
def bG.j1:Nat→Int→Int→Bool→List Int→Int→Option ((List (S58)) × Int)
 |0,_,_,_,_,_=>none
 |k + 1,x1,x2,x33,x1000,x1001=>if x33=true then ((fD.f k x1000 x1001 x1 x2).bind fun bt361=>(some (bt361.1,bt361.2))) else ((aH.f k x1000 x1001 3).bind fun bt365=>((bJ.f k x1000 bt365.2 (wrap64 (1 + bt365.1))).bind fun bt367=>(some ((([(⟨7,0,0,(⟨bt367.1,bt367.2.1,bt367.2.2.1⟩:S56),([]:List (S58)),([]:List (S58))⟩:S58)]:List (S58))),bt367.2.2.2))))
def bG.j2:Nat→Int→Int→Bool→List Int→Int→Option ((List (S58)) × Int)
 |0,_,_,_,_,_=>none
 |k + 1,x1,x10,x38,x1000,x1001=>if x38=true then ((gT.f k x1000 x1001 x1).bind fun bt376=>(some ((([(⟨bt376.1,bt376.2.1,bt376.2.2.1,(⟨bt376.2.2.2.1,bt376.2.2.2.2.1,bt376.2.2.2.2.2.1⟩:S56),bt376.2.2.2.2.2.2.1,bt376.2.2.2.2.2.2.2.1⟩:S58)]:List (S58))),bt376.2.2.2.2.2.2.2.2))) else (if x10=7 then (some ((([(⟨6,0,0,(⟨0,0,([]:List (S56))⟩:S56),([]:List (S58)),([]:List (S58))⟩:S58)]:List (S58))),x1001)) else ((aH.f k x1000 x1001 3).bind fun bt397=>((bJ.f k x1000 bt397.2 (wrap64 (1 + bt397.1))).bind fun bt399=>(some ((([(⟨7,0,0,(⟨bt399.1,bt399.2.1,bt399.2.2.1⟩:S56),([]:List (S58)),([]:List (S58))⟩:S58)]:List (S58))),bt399.2.2.2)))))
def bG.f:Nat→List Int→Int→Int→Int→Bool→Option ((List (S58)) × Int)
 |0,_,_,_,_,_=>none
 |k + 1,s0_0,s0_1,a1,a2,a3=>(aH.f k s0_0 s0_1 10).bind fun bt312=>(if bt312.1=0 then (bG.j0 k a1 a2 a3 bt312.1 (bt312.1 == 0) s0_0 bt312.2) else (bG.j0 k a1 a2 a3 bt312.1 (bt312.1 == 1) s0_0 bt312.2))
def bT.l0:Nat→Int→Int→Int→Bool→List (S58)→Int→List Int→Int→Option ((List (S58)) × Int)
 |0,_,_,_,_,_,_,_,_=>none
 |k + 1,x1,x2,x3,x4,x11,x12,x1000,x1001=>if x12 < x3 then ((bG.f k x1000 x1001 x1 x2 x4).bind fun bt411=>(if x11.length + bt411.1.length < 1256584717458 then (bT.l0 k x1 x2 x3 x4 (x11 ++ bt411.1) (wrap64 (x12 + 1)) x1000 bt411.2) else (none))) else (some (x11,x1001))
def bT.f:Nat→List Int→Int→Int→Int→Int→Bool→Option ((List (S58)) × Int)
 |0,_,_,_,_,_,_=>none
 |k + 1,s0_0,s0_1,a1,a2,a3,a4=>bT.l0 k a1 a2 a3 a4 (([]:List (S58))) 0 s0_0 s0_1
end
def eD.l0:Nat→List (S58)→List Int→Int→Option ((List (S58)) × Int)
 |0,_,_,_=>none
 |k + 1,x5,x1000,x1001=>(bS.f k x5).bind fun t424=>(if t424 > 16 then (if 0≤(wrap64 ((x5.length:Int) - 1)) then (if (wrap64 ((x5.length:Int) - 1))≤(x5.length:Int) then (eD.l0 k (x5.take ((wrap64 ((x5.length:Int) - 1)):Int).toNat) x1000 x1001) else (none)) else (none)) else (some (x5,x1001)))
def eD.f (k:Nat) (s0_0:List Int) (s0_1:Int) (a1:Int):Option ((List (S58)) × Int):=(aH.f k s0_0 s0_1 6).bind fun bt418=>((bT.f k s0_0 bt418.2 a1 3 (wrap64 (1 + bt418.1)) true).bind fun bt420=>(eD.l0 k bt420.1 s0_0 bt420.2))
def iB.f (k:Nat) (s0_0:List Int) (s0_1:Int):Option (Int × Int × Int × Int × Int × (List (S56)) × (List (S58)) × (List (S58)) × Int):=(iK.f 0 1).bind fun bt429=>((aH.f k s0_0 s0_1 2).bind fun bt434=>((bT.f k s0_0 bt434.2 0 1 bt434.1 false).bind fun bt436=>(some (3,0,0,bt429.1,bt429.2.1,bt429.2.2,bt436.1,([]:List (S58)),bt436.2))))
def bU.l0:Nat→Int→Int→List Int→Int→List Int→List (List (S58))→Option (List Int × (List (List (S58))) × Int)
 |0,_,_,_,_,_,_=>none
 |k + 1,x4,x5,x1000,x1001,x449000,x449001=>if x5 < x4 then ((eD.f k x1000 x1001 (x449000.length:Int)).bind fun bt451=>(if x449001.length < 5864062014805 then (bU.l0 k x4 (wrap64 (x5 + 1)) x1000 bt451.2 x449000 (x449001 ++ [bt451.1])) else (none))) else ((aH.f k x1000 x1001 16).bind fun bt458=>(if bt458.1=0 then ((iB.f k x1000 bt458.2).bind fun bt460=>(if 0 < (x449001.length:Int) then (some (x449000,(x449001.set (0:Int).toNat (([(⟨bt460.1,bt460.2.1,bt460.2.2.1,(⟨bt460.2.2.2.1,bt460.2.2.2.2.1,bt460.2.2.2.2.2.1⟩:S56),bt460.2.2.2.2.2.2.1,bt460.2.2.2.2.2.2.2.1⟩:S58)]:List (S58)))),bt460.2.2.2.2.2.2.2.2)) else (none))) else (some (x449000,x449001,bt458.2))))
def bU.f (k:Nat) (s0_0:List Int) (s0_1:Int):Option (List Int × (List (List (S58))) × Int):=(dR.f k s0_0 s0_1).bind fun bt441=>((aH.f k s0_0 bt441.2 3).bind fun bt449=>(bU.l0 k (wrap64 (1 + bt449.1)) 0 s0_0 bt449.2 bt441.1 (([]:List (List (S58))))))
def dG.f (k:Nat) (s0_0:List Int) (s0_1:Int):Option (List Int × (List (List (S58))) × Int):=(bU.f k s0_0 s0_1).bind fun bt480=>((aH.f k s0_0 bt480.2.2 30).bind fun bt488=>(if bt488.1=0 then ((some (([0,5]:List Int):List Int)).bind fun y490=>((aH.f k s0_0 bt488.2 2).bind fun bt493=>(if 0≤bt493.1 then (if bt493.1 < (y490.length:Int) then (if bt480.1.length < 17592186044416 then (some ((bt480.1 ++ [rd y490 bt493.1]),bt480.2.1,bt493.2)) else (none)) else (none)) else (none)))) else (if bt488.1=1 then ((iM.f k s0_0 bt488.2).bind fun bt499=>(if bt480.2.1.length < 5864062014805 then (some (bt480.1,(bt480.2.1 ++ [(([(⟨4,0,(bt480.1.length:Int),(⟨bt499.1,bt499.2.1,bt499.2.2.1⟩:S56),([]:List (S58)),([]:List (S58))⟩:S58)]:List (S58)))]),bt499.2.2.2)) else (none))) else (if bt488.1=2 then (some (bt480.1,(([]:List (List (S58)))),bt488.2)) else (if bt488.1=3 then (if 0 < (bt480.2.1.length:Int) then ((some (([gB bt480.2.1 0,gB bt480.2.1 0,gB bt480.2.1 0]:List (List (S58))):List (List (S58)))).bind fun y517=>(if bt480.2.1.length + y517.length < 5864062014805 then (some (bt480.1,(bt480.2.1 ++ y517),bt488.2)) else (none))) else (none)) else (if bt488.1=4 then (if 0 < (bt480.2.1.length:Int) then (if (gB bt480.2.1 0).length + 1 < 1256584717458 then (some (bt480.1,bt480.2.1.set 0 (gB bt480.2.1 0 ++ [⟨9,0,0,⟨0,0,[]⟩,[],[]⟩]),bt488.2)) else (none)) else (none)) else (some (bt480.1,bt480.2.1,bt488.2))))))))
def nX.f (l0:List Int):Option (List Int × Int):=if (l0.length:Int) > 2000 then (if 2000≤(l0.length:Int) then (some (l0.take 2000,0)) else (none)) else (some (l0,0))
def fM.f (k:Nat) (l0:List Int):Option (List Int × (List (List (S58)))):=(nX.f l0).bind fun bt527=>((dG.f k bt527.1 bt527.2).bind fun bt530=>(some (bt530.1,bt530.2.1)))
def dH.l0:Nat→List Int→List Int→Int→Int→Option (Bool)
 |0,_,_,_,_=>none
 |k + 1,x0,x5,x6,x7=>if x7 < x6 then (if 0≤x7 then (if x7 < (x5.length:Int) then (if (rd x5 x7) < 1 then (some false) else (if (rd x5 x7) > 4 then (some false) else (dH.l0 k x0 x5 x6 (wrap64 (x7 + 1))))) else (none)) else (none)) else (some (decide ((x0.length:Int)≤3)))
def dH.f (k:Nat) (l0:List Int):Option (Bool):=dH.l0 k l0 l0 (l0.length:Int) 0
def iE.f (a0:Int):Option (Bool):=if a0≥1 then (some (decide (a0≤12))) else (some false)
def fF.f:Nat→Int→Int→List (S56)→Int→Option (Bool)
 |0,_,_,_,_=>none
 |k + 1,a0_0,a0_1,l0_2,a1=>if a0_0=0 then (if a0_1≥0 then (if a0_1≤99999 then (if (l0_2.length:Int)=0 then (some (decide (a1 > 0))) else (some false)) else (some false)) else (some false)) else (if a0_0=13 then (if a0_1≥0 then (if a0_1 < 4 then (if (l0_2.length:Int)=0 then (some (decide (a1 > 0))) else (some false)) else (some false)) else (some false)) else ((iE.f a0_0).bind fun t539=>(if t539=true then (if a0_1=0 then (if (l0_2.length:Int)=2 then (if a1 > 1 then (if 0 < (l0_2.length:Int) then ((fF.f k ((bW l0_2 0).f0) ((bW l0_2 0).f1) ((bW l0_2 0).f2) (wrap64 (a1 - 1))).bind fun t541=>(if t541=true then (if 1 < (l0_2.length:Int) then ((fF.f k ((bW l0_2 1).f0) ((bW l0_2 1).f1) ((bW l0_2 1).f2) (wrap64 (a1 - 1))).bind fun t543=>(some t543)) else (none)) else (some false))) else (none)) else (some false)) else (some false)) else (some false)) else (some false))))
def iO.f (k:Nat) (a0_0:Int) (a0_1:Int) (l0_2:List (S56)):Option (Bool):=(fF.f k a0_0 a0_1 l0_2 5).bind fun t545=>(some t545)
def inr (n limit:Int) (needed:Bool):Bool:=(n == 0) || (needed && (decide (n > 0) && decide (n < limit)))
def mO (k:Nat) (nv nb ne nd no:Bool) (va bx op n:Int) (la:List S56) (lb le:Nat) (boxes:Int):Option Bool:=
  if inr va 4 nv=true then (if inr bx boxes nb=true then (if nb=true∧boxes≤bx then some false else
    (if ne=true then ((iO.f k op n la).bind fun t=>if t=true then some ((nd || lb == 0) && (no || le == 0)) else some false)
     else (if op=0 then (if n=0 then (if 0 < (la.length:Int) then some false else some ((nd || lb == 0) && (no || le == 0))) else some false) else some false))) else some false) else some false
def fU.f (k:Nat) (kd va bx op n:Int) (la:List S56) (lb le:Nat) (boxes:Int):Option Bool:=
 if kd=1 then mO k true false true false false va bx op n la lb le boxes
 else if kd=2 then mO k false false true true true va bx op n la lb le boxes
 else if kd=3 then mO k false false true true false va bx op n la lb le boxes
 else if kd=4 then mO k false true true false false va bx op n la lb le boxes
 else if kd=5 then mO k true true false false false va bx op n la lb le boxes
 else if kd=7 then mO k false false true false false va bx op n la lb le boxes
 else if kd=6 then mO k false false false false false va bx op n la lb le boxes
 else some false
mutual
def cZ.f:Nat→List S58→Int→Int→Int→Option (Bool × Int)
 |0,_,_,_,_=>none
 |k + 1,l,boxes,blocks,cnt=>if 16 < wrap64 (cnt + (l.length:Int)) then some (false,wrap64 (cnt + (l.length:Int))) else cZ.l0 k l boxes blocks 0 (wrap64 (cnt + (l.length:Int)))
def cZ.l0:Nat→List S58→Int→Int→Int→Int→Option (Bool × Int)
 |0,_,_,_,_,_=>none
 | k + 1,l,boxes,blocks,i,cnt=>if i < (l.length:Int) then (if 0≤i then
   ((fU.f k (aM l i).f0 (aM l i).f1 (aM l i).f2 (aM l i).f3.f0 (aM l i).f3.f1 (aM l i).f3.f2 (aM l i).f4.length (aM l i).f5.length boxes).bind fun t=>
    if t=true then (if 3 < blocks then some (false,cnt) else
     (if (aM l i).f0=2∨(aM l i).f0=3 then (if 3≤blocks then some (false,cnt) else
      ((cZ.f k (aM l i).f4 boxes (wrap64 (blocks + 1)) cnt).bind fun p=>if p.1=true then
       ((cZ.f k (aM l i).f5 boxes (wrap64 (blocks + 1)) p.2).bind fun q=>if q.1=true then cZ.l0 k l boxes blocks (wrap64 (i + 1)) q.2 else some (false,q.2)) else some (false,p.2)))
     else cZ.l0 k l boxes blocks (wrap64 (i + 1)) cnt)) else some (false,cnt)) else none) else some (true,cnt)
end
def gL.f (k:Nat) (l0:List (S58)) (a1:Int):Option Bool:=(cZ.f k l0 a1 0 0).bind fun p=>some p.1
mutual
def bE.j0:Nat→Bool→List Int→List (List (S58))→Option (Bool)
 |0,_,_,_=>none
 |k + 1,x20,x547000,x547001=>if x20=true then (some false) else (bE.l0 k x547001 (x547001.length:Int) 0 x547000 x547001)
def bE.l0:Nat→List (List (S58))→Int→Int→List Int→List (List (S58))→Option (Bool)
 |0,_,_,_,_,_=>none
 |k + 1,x22,x23,x24,x547000,x547001=>if x24 < x23 then (if 0≤x24 then (if x24 < (x22.length:Int) then ((gL.f k (gB x22 x24) (x547000.length:Int)).bind fun t549=>(if t549=true then (bE.l0 k x22 x23 (wrap64 (x24 + 1)) x547000 x547001) else (some false))) else (none)) else (none)) else (some true)
end
def bE.f (k:Nat) (l0_0:List Int) (l0_1:List (List (S58))):Option (Bool):=(dH.f k l0_0).bind fun t547=>(if t547=true then (if (l0_1.length:Int) < 1 then (bE.j0 k true l0_0 l0_1) else (bE.j0 k (decide ((l0_1.length:Int) > 3)) l0_0 l0_1)) else (bE.j0 k true l0_0 l0_1))
def aHb.f (a0:Int):Option (ByteArray):=if a0 < 10 then (if 0≤a0 then (if a0≤(wrap64 (a0 + 1)) then (if (wrap64 (a0 + 1))≤36 then (some ((⟨#[48,49,50,51,52,53,54,55,56,57,97,98,99,100,101,102,103,104,105,106,107,108,109,110,111,112,113,114,115,116,117,118,119,120,121,122]⟩:ByteArray).extract (a0:Int).toNat ((wrap64 (a0 + 1)):Int).toNat)) else (none)) else (none)) else (none)) else (if 0≤(wrap64 (a0 * 2)) then (if (wrap64 (a0 * 2))≤(wrap64 ((wrap64 (a0 * 2)) + 2)) then (if (wrap64 ((wrap64 (a0 * 2)) + 2))≤200 then (some ((⟨#[48,48,48,49,48,50,48,51,48,52,48,53,48,54,48,55,48,56,48,57,49,48,49,49,49,50,49,51,49,52,49,53,49,54,49,55,49,56,49,57,50,48,50,49,50,50,50,51,50,52,50,53,50,54,50,55,50,56,50,57,51,48,51,49,51,50,51,51,51,52,51,53,51,54,51,55,51,56,51,57,52,48,52,49,52,50,52,51,52,52,52,53,52,54,52,55,52,56,52,57,53,48,53,49,53,50,53,51,53,52,53,53,53,54,53,55,53,56,53,57,54,48,54,49,54,50,54,51,54,52,54,53,54,54,54,55,54,56,54,57,55,48,55,49,55,50,55,51,55,52,55,53,55,54,55,55,55,56,55,57,56,48,56,49,56,50,56,51,56,52,56,53,56,54,56,55,56,56,56,57,57,48,57,49,57,50,57,51,57,52,57,53,57,54,57,55,57,56,57,57]⟩:ByteArray).extract ((wrap64 (a0 * 2)):Int).toNat ((wrap64 ((wrap64 (a0 * 2)) + 2)):Int).toNat)) else (none)) else (none)) else (none))
def aDe.f (a0:Int):Option (Int):=some ((wrap64 (a0 * 78913)) / 262144)
def bits_Len64.j0:Nat→Int→Int→Option (Int)
 |0,_,_=>none
 |k + 1,x0,x2=>if x0≥65536 then (if (x0 / 65536)≥256 then (if 0≤(((x0 / 65536) / 256) % 256) then (if (((x0 / 65536) / 256) % 256) < 256 then (some (wrap64 ((wrap64 ((wrap64 (x2 + 16)) + 8)) + (wrap64 (bt (⟨#[0,1,2,2,3,3,3,3,4,4,4,4,4,4,4,4,5,5,5,5,5,5,5,5,5,5,5,5,5,5,5,5,6,6,6,6,6,6,6,6,6,6,6,6,6,6,6,6,6,6,6,6,6,6,6,6,6,6,6,6,6,6,6,6,7,7,7,7,7,7,7,7,7,7,7,7,7,7,7,7,7,7,7,7,7,7,7,7,7,7,7,7,7,7,7,7,7,7,7,7,7,7,7,7,7,7,7,7,7,7,7,7,7,7,7,7,7,7,7,7,7,7,7,7,7,7,7,7,8,8,8,8,8,8,8,8,8,8,8,8,8,8,8,8,8,8,8,8,8,8,8,8,8,8,8,8,8,8,8,8,8,8,8,8,8,8,8,8,8,8,8,8,8,8,8,8,8,8,8,8,8,8,8,8,8,8,8,8,8,8,8,8,8,8,8,8,8,8,8,8,8,8,8,8,8,8,8,8,8,8,8,8,8,8,8,8,8,8,8,8,8,8,8,8,8,8,8,8,8,8,8,8,8,8,8,8,8,8,8,8,8,8,8,8,8,8,8,8,8,8,8,8,8,8,8,8]⟩:ByteArray) (((x0 / 65536) / 256) % 256)))))) else (none)) else (none)) else (if 0≤((x0 / 65536) % 256) then (if ((x0 / 65536) % 256) < 256 then (some (wrap64 ((wrap64 (x2 + 16)) + (wrap64 (bt (⟨#[0,1,2,2,3,3,3,3,4,4,4,4,4,4,4,4,5,5,5,5,5,5,5,5,5,5,5,5,5,5,5,5,6,6,6,6,6,6,6,6,6,6,6,6,6,6,6,6,6,6,6,6,6,6,6,6,6,6,6,6,6,6,6,6,7,7,7,7,7,7,7,7,7,7,7,7,7,7,7,7,7,7,7,7,7,7,7,7,7,7,7,7,7,7,7,7,7,7,7,7,7,7,7,7,7,7,7,7,7,7,7,7,7,7,7,7,7,7,7,7,7,7,7,7,7,7,7,7,8,8,8,8,8,8,8,8,8,8,8,8,8,8,8,8,8,8,8,8,8,8,8,8,8,8,8,8,8,8,8,8,8,8,8,8,8,8,8,8,8,8,8,8,8,8,8,8,8,8,8,8,8,8,8,8,8,8,8,8,8,8,8,8,8,8,8,8,8,8,8,8,8,8,8,8,8,8,8,8,8,8,8,8,8,8,8,8,8,8,8,8,8,8,8,8,8,8,8,8,8,8,8,8,8,8,8,8,8,8,8,8,8,8,8,8,8,8,8,8,8,8,8,8,8,8,8,8]⟩:ByteArray) ((x0 / 65536) % 256)))))) else (none)) else (none))) else (if x0≥256 then (if 0≤((x0 / 256) % 256) then (if ((x0 / 256) % 256) < 256 then (some (wrap64 ((wrap64 (x2 + 8)) + (wrap64 (bt (⟨#[0,1,2,2,3,3,3,3,4,4,4,4,4,4,4,4,5,5,5,5,5,5,5,5,5,5,5,5,5,5,5,5,6,6,6,6,6,6,6,6,6,6,6,6,6,6,6,6,6,6,6,6,6,6,6,6,6,6,6,6,6,6,6,6,7,7,7,7,7,7,7,7,7,7,7,7,7,7,7,7,7,7,7,7,7,7,7,7,7,7,7,7,7,7,7,7,7,7,7,7,7,7,7,7,7,7,7,7,7,7,7,7,7,7,7,7,7,7,7,7,7,7,7,7,7,7,7,7,8,8,8,8,8,8,8,8,8,8,8,8,8,8,8,8,8,8,8,8,8,8,8,8,8,8,8,8,8,8,8,8,8,8,8,8,8,8,8,8,8,8,8,8,8,8,8,8,8,8,8,8,8,8,8,8,8,8,8,8,8,8,8,8,8,8,8,8,8,8,8,8,8,8,8,8,8,8,8,8,8,8,8,8,8,8,8,8,8,8,8,8,8,8,8,8,8,8,8,8,8,8,8,8,8,8,8,8,8,8,8,8,8,8,8,8,8,8,8,8,8,8,8,8,8,8,8,8]⟩:ByteArray) ((x0 / 256) % 256)))))) else (none)) else (none)) else (if 0≤((x0) % 256) then (if ((x0) % 256) < 256 then (some (wrap64 (x2 + (wrap64 (bt (⟨#[0,1,2,2,3,3,3,3,4,4,4,4,4,4,4,4,5,5,5,5,5,5,5,5,5,5,5,5,5,5,5,5,6,6,6,6,6,6,6,6,6,6,6,6,6,6,6,6,6,6,6,6,6,6,6,6,6,6,6,6,6,6,6,6,7,7,7,7,7,7,7,7,7,7,7,7,7,7,7,7,7,7,7,7,7,7,7,7,7,7,7,7,7,7,7,7,7,7,7,7,7,7,7,7,7,7,7,7,7,7,7,7,7,7,7,7,7,7,7,7,7,7,7,7,7,7,7,7,8,8,8,8,8,8,8,8,8,8,8,8,8,8,8,8,8,8,8,8,8,8,8,8,8,8,8,8,8,8,8,8,8,8,8,8,8,8,8,8,8,8,8,8,8,8,8,8,8,8,8,8,8,8,8,8,8,8,8,8,8,8,8,8,8,8,8,8,8,8,8,8,8,8,8,8,8,8,8,8,8,8,8,8,8,8,8,8,8,8,8,8,8,8,8,8,8,8,8,8,8,8,8,8,8,8,8,8,8,8,8,8,8,8,8,8,8,8,8,8,8,8,8,8,8,8,8,8]⟩:ByteArray) ((x0) % 256)))))) else (none)) else (none)))
def bits_Len64.f (k:Nat) (a0:Int):Option (Int):=if a0≥4294967296 then (bits_Len64.j0 k (a0 / 4294967296) 32) else (bits_Len64.j0 k a0 0)
def aDd.f (a0:Bool):Option (Int):=if a0=true then (some 1) else (some 0)
def aAg.f (a0:Int):Option (Bool):=some ((Go.bits .and .i64 a0 (wrap64 (a0 - 1))) == 0)
def iC.f (a0:Int):Option (ByteArray):=if 0≤a0 then (if a0≤9223372036854775807 then some ⟨(Lib.itoa a0).toArray⟩ else none) else none
structure Tab (w:World):Prop where
  pow:Lib.TabIs Tryz.prog w "internal/strconv.uint64pow10" .u64 Lib.pow10Tab
  ops:w.var? Tryz.prog "loop.example/cothreads/impl.opTexts" =some #[.string ⟨#[124]⟩,.string ⟨#[94]⟩,.string ⟨#[38]⟩,.string ⟨#[61,61]⟩,.string ⟨#[60]⟩,.string ⟨#[60,60]⟩,.string ⟨#[62,62]⟩,.string ⟨#[43]⟩,.string ⟨#[45]⟩,.string ⟨#[42]⟩,.string ⟨#[47]⟩,.string ⟨#[37]⟩]
 theorem wY {P:Program} {w w':World} {nm:String} {a:Array Value} (h:w.var? P nm=some a) (hb:Below w.heap.size w w'):w'.var? P nm=some a:=by
  unfold World.var? at h ⊢
  cases hg:P.globalNamed nm with
  |none=>rw [hg] at h;cases h
  |some g=>
    rw [hg] at h
    simp only [Option.bind_some] at h ⊢
    cases ho:w.heap[g]? with
    |none=>rw [ho] at h;cases h
    |some o=>
      have hlt:g < w.heap.size:=(Array.getElem?_eq_some_iff.1 ho).1
      rw [hb.block g hlt,ho]
      rw [ho] at h
      exact h
 theorem Tab.below {w w':World} (h:Tab w) (hb:Below w.heap.size w w'):Tab w':=⟨wY h.pow hb,wY h.ops hb⟩
def opTexts:List ByteArray:=[⟨#[124]⟩,⟨#[94]⟩,⟨#[38]⟩,⟨#[61,61]⟩,⟨#[60]⟩,⟨#[60,60]⟩,⟨#[62,62]⟩,⟨#[43]⟩,⟨#[45]⟩,⟨#[42]⟩,⟨#[47]⟩,⟨#[37]⟩]
 theorem opAt {w:World} (h:Tab w):∃ (t:TypeId) (fr:Nat × Nat),w.heap[1]?=some (.cells #[.string ⟨#[124]⟩,.string ⟨#[94]⟩,.string ⟨#[38]⟩,.string ⟨#[61,61]⟩,.string ⟨#[60]⟩,.string ⟨#[60,60]⟩,.string ⟨#[62,62]⟩,.string ⟨#[43]⟩,.string ⟨#[45]⟩,.string ⟨#[42]⟩,.string ⟨#[47]⟩,.string ⟨#[37]⟩] t fr):=by
  have h2:=h.ops
  unfold World.var? at h2
  rw [show Tryz.prog.globalNamed "loop.example/cothreads/impl.opTexts" =some 1 by kernel_rfl] at h2
  simp only [Option.bind_some] at h2
  cases ho:w.heap[1]? with
  |none=>rw [ho] at h2;cases h2
  |some o=>
    rw [ho] at h2
    cases o with
    |cells cs t fr=>
      injection h2 with h2
      subst h2
      exact ⟨t,fr,rfl⟩
    | _=>cases h2
 theorem opCell {w:World} (h:Tab w) (i:Nat) (hi:i < 12):w.cell? ⟨1,i,none⟩=some (.string (opTexts.getD i ⟨#[]⟩)):=by
  obtain ⟨t,fr,ho⟩:=opAt h
  unfold World.cell?
  rw [ho]
  have:i=0∨i=1∨i=2∨i=3∨i=4∨i=5∨i=6∨i=7∨i=8∨i=9∨i=10∨i=11:=by omega
  rcases this with rfl|rfl|rfl|rfl|rfl|rfl|rfl|rfl|rfl|rfl|rfl|rfl <;> rfl
def lH.f (a0:Int):Option (ByteArray):=if 0≤a0∧a0≤3 then some (⟨#[(97 + a0).toNat.toUInt8]⟩:ByteArray) else none
mutual
def dK.j0:Nat→Int→Bool→Option (Int)
 |0,_,_=>none
 |k + 1,x3,x14=>if x14=true then (some 6) else (if x3=8 then (dK.j1 k x3 (x3 == 8)) else (dK.j1 k x3 (x3 == 9)))
def dK.j1:Nat→Int→Bool→Option (Int)
 |0,_,_=>none
 |k + 1,x3,x17=>if x17=true then (some 7) else (if x3=10 then (some 8) else (if x3=11 then (some 8) else (if x3=12 then (some 8) else (some 0))))
end
def dK.f (k:Nat) (a0:Int):Option (Int):=if a0=1 then (some 1) else (if a0=2 then (some 2) else (if a0=3 then (some 3) else (if a0=4 then (some 4) else (if a0=5 then (some 5) else (if a0=6 then (dK.j0 k a0 (a0 == 6)) else (dK.j0 k a0 (a0 == 7)))))))
def rU.f (a0:Int):Option (ByteArray):=if 1≤a0∧a0≤12 then some (opTexts.getD (a0 - 1).toNat ⟨#[]⟩) else none
mutual
def bD.j0:Nat→List ByteArray→Bool→Int→Int→List (S56)→Option (List ByteArray)
 |0,_,_,_,_,_=>none
 |k + 1,x2,x17,x570000,x570001,x570002=>if x17=true then ((bH.f k x570000 x570001 x570002 x2).bind fun t572=>(some t572)) else (if x2.length < 8796093022208 then ((bH.f k x570000 x570001 x570002 (x2 ++ [(⟨#[40]⟩:ByteArray)])).bind fun t578=>(if t578.length < 8796093022208 then (some (t578 ++ [(⟨#[41]⟩:ByteArray)])) else (none))) else (none))
def bD.f:Nat→Int→Int→List (S56)→Int→List ByteArray→Option (List ByteArray)
 |0,_,_,_,_,_=>none
 |k + 1,a0_0,a0_1,l0_2,a1,l2=>(iE.f a0_0).bind fun t570=>(if t570=true then ((dK.f k a0_0).bind fun t571=>(bD.j0 k l2 (decide (t571≥a1)) a0_0 a0_1 l0_2)) else (bD.j0 k l2 true a0_0 a0_1 l0_2))
def bH.f:Nat→Int→Int→List (S56)→List ByteArray→Option (List ByteArray)
 |0,_,_,_,_=>none
 |k + 1,a0_0,a0_1,l0_2,l1=>if a0_0=0 then ((iC.f a0_1).bind fun t585=>(if l1.length < 8796093022208 then (some (l1 ++ [t585])) else (none))) else (if a0_0=13 then ((lH.f a0_1).bind fun t589=>(if l1.length < 8796093022208 then (some (l1 ++ [t589])) else (none))) else ((dK.f k a0_0).bind fun t593=>(if 0 < (l0_2.length:Int) then ((bD.f k ((bW l0_2 0).f0) ((bW l0_2 0).f1) ((bW l0_2 0).f2) t593 l1).bind fun t595=>((rU.f a0_0).bind fun t598=>(if t595.length < 8796093022208 then (if 1 < (l0_2.length:Int) then ((bD.f k ((bW l0_2 1).f0) ((bW l0_2 1).f1) ((bW l0_2 1).f2) (wrap64 (t593 + 1)) (t595 ++ [t598])).bind fun t603=>(some t603)) else (none)) else (none)))) else (none))))
end
mutual
def aT.f:Nat→Int→Int→Int→Int→Int→List (S56)→List (S58)→List (S58)→List ByteArray→Option (List ByteArray)
 |0,_,_,_,_,_,_,_,_,_=>none
 |k + 1,a0_0,a0_1,a0_2,a0_3,a0_4,l0_5,l0_6,l0_7,l1=>if a0_0=1 then ((lH.f a0_1).bind fun t607=>((some (([t607,(⟨#[61]⟩:ByteArray)]:List ByteArray):List ByteArray)).bind fun y608=>(if l1.length + y608.length < 8796093022208 then ((bH.f k a0_3 a0_4 l0_5 (l1 ++ y608)).bind fun t614=>(if t614.length < 8796093022208 then (some (t614 ++ [(⟨#[59]⟩:ByteArray)])) else (none))) else (none)))) else (if a0_0=2 then (if l1.length < 8796093022208 then ((bH.f k a0_3 a0_4 l0_5 (l1 ++ [(⟨#[105,102]⟩:ByteArray)])).bind fun t623=>((bB.f k l0_6 t623).bind fun t626=>(if (l0_7.length:Int) > 0 then (if t626.length < 8796093022208 then ((bB.f k l0_7 (t626 ++ [(⟨#[101,108,115,101]⟩:ByteArray)])).bind fun t632=>(some t632)) else (none)) else (some t626)))) else (none)) else (if a0_0=3 then (if l1.length < 8796093022208 then ((bH.f k a0_3 a0_4 l0_5 (l1 ++ [(⟨#[119,104,105,108,101]⟩:ByteArray)])).bind fun t638=>((bB.f k l0_6 t638).bind fun t641=>(some t641))) else (none)) else (if a0_0=4 then ((iC.f a0_2).bind fun t644=>((some (([(⟨#[115,101,110,100]⟩:ByteArray),t644]:List ByteArray):List ByteArray)).bind fun y645=>(if l1.length + y645.length < 8796093022208 then ((bH.f k a0_3 a0_4 l0_5 (l1 ++ y645)).bind fun t651=>(if t651.length < 8796093022208 then (some (t651 ++ [(⟨#[59]⟩:ByteArray)])) else (none))) else (none)))) else (if a0_0=5 then ((iC.f a0_2).bind fun t657=>((lH.f a0_1).bind fun t658=>((some (([(⟨#[114,101,99,118]⟩:ByteArray),t657,t658]:List ByteArray):List ByteArray)).bind fun y659=>(if l1.length + y659.length < 8796093022208 then ((some (l1 ++ y659:List ByteArray)).bind fun y662=>(if y662.length < 8796093022208 then (some (y662 ++ [(⟨#[59]⟩:ByteArray)])) else (none))) else (none))))) else (if a0_0=6 then (if l1.length < 8796093022208 then ((some (l1 ++ [(⟨#[121,105,101,108,100]⟩:ByteArray)]:List ByteArray)).bind fun y668=>(if y668.length < 8796093022208 then (some (y668 ++ [(⟨#[59]⟩:ByteArray)])) else (none))) else (none)) else (if a0_0=7 then (if l1.length < 8796093022208 then ((bH.f k a0_3 a0_4 l0_5 (l1 ++ [(⟨#[112,114,105,110,116]⟩:ByteArray)])).bind fun t677=>(if t677.length < 8796093022208 then (some (t677 ++ [(⟨#[59]⟩:ByteArray)])) else (none))) else (none)) else (if l1.length < 8796093022208 then (some (l1 ++ [(⟨#[59]⟩:ByteArray)])) else (none))))))))
def bB.l0:Nat→List ByteArray→List (S58)→Int→Int→Option (List ByteArray)
 |0,_,_,_,_=>none
 |k + 1,x1,x10,x11,x12=>if x12 < x11 then (if 0≤x12 then (if x12 < (x10.length:Int) then ((aT.f k ((aM x10 x12).f0) ((aM x10 x12).f1) ((aM x10 x12).f2) ((aM x10 x12).f3.f0) ((aM x10 x12).f3.f1) ((aM x10 x12).f3.f2) ((aM x10 x12).f4) ((aM x10 x12).f5) x1).bind fun t690=>(bB.l0 k t690 x10 x11 (wrap64 (x12 + 1)))) else (none)) else (none)) else (if x1.length < 8796093022208 then (some (x1 ++ [(⟨#[125]⟩:ByteArray)])) else (none))
def bB.f:Nat→List (S58)→List ByteArray→Option (List ByteArray)
 |0,_,_=>none
 |k + 1,l0,l1=>if l1.length < 8796093022208 then (bB.l0 k (l1 ++ [(⟨#[123]⟩:ByteArray)]) l0 (l0.length:Int) 0) else (none)
end
def lZ.f (a0:Int):Option (Bool):=if a0≥48 then (some (decide (a0≤57))) else (some false)
def lD.f (a0:Int):Option (Bool):=if a0≥97 then (some (decide (a0≤122))) else (some false)
def stringslite_HasPrefix.f (a0:ByteArray) (a1:ByteArray):Option (Bool):=if (a0.size:Int)≥(a1.size:Int) then (if 0≤(a1.size:Int) then (if (a1.size:Int)≤(a0.size:Int) then (some ((a0.extract 0 ((a1.size:Int):Int).toNat).toList == a1.toList)) else (none)) else (none)) else (some false)
def strings_HasPrefix.f (a0:ByteArray) (a1:ByteArray):Option (Bool):=(stringslite_HasPrefix.f a0 a1).bind fun t696=>(some t696)
def strings_IndexByte.f (a0:ByteArray) (a1:Int):Option (Int):=some (Lib.indexByte a0.data.toList a1.toNat.toUInt8)
def bA.l1:Nat→ByteArray→Bool→Int→Option (Int)
 |0,_,_,_=>none
 |k + 1,x,m,i=>if i < (x.size:Int) then (if 0≤i then ((if m=true then lZ.f (bt x i) else lD.f (bt x i)).bind fun b=>if b=true then bA.l1 k x m (wrap64 (i + 1)) else some i) else none) else some i
def bA.fin (a0:ByteArray):Option Int:=if a0.toList=([]:List UInt8) then some 0 else (strings_IndexByte.f ⟨#[124,94,38,60,43,45,42,47,37,40,41,123,125,61,59]⟩ (bt a0 0)).bind fun j=>if 0≤j then some 1 else some 0
def bA.st2 (a0:ByteArray):Nat→Option Int
 |0=>(strings_HasPrefix.f a0 ⟨#[61,61]⟩).bind fun p=>if p=true then some 2 else (strings_HasPrefix.f a0 ⟨#[60,60]⟩).bind fun q=>if q=true then some 2 else (strings_HasPrefix.f a0 ⟨#[62,62]⟩).bind fun s=>if s=true then some 2 else bA.fin a0
 |1=>(strings_HasPrefix.f a0 ⟨#[60,60]⟩).bind fun q=>if q=true then some 2 else (strings_HasPrefix.f a0 ⟨#[62,62]⟩).bind fun s=>if s=true then some 2 else bA.fin a0
 |2=>(strings_HasPrefix.f a0 ⟨#[62,62]⟩).bind fun s=>if s=true then some 2 else bA.fin a0
 | _ + 3=>bA.fin a0
def bA.st (k:Nat) (a0:ByteArray):Nat→Option Int
 |0=>(bA.l1 k a0 true 0).bind fun d=>if 0 < d then some d else (bA.l1 k a0 false 0).bind fun c=>if 0 < c then some c else bA.st2 a0 0
 |1=>(bA.l1 k a0 false 0).bind fun c=>if 0 < c then some c else bA.st2 a0 0
 | _ + 2=>bA.st2 a0 0
def bA.f (k:Nat) (a0:ByteArray):Option (Int):=bA.st k a0 0
def gW.f (k:Nat) (a0:ByteArray):Option (Bool):=if a0.toList=([]:List UInt8) then (some false) else ((bA.f k a0).bind fun t697=>(some (t697 == (a0.size:Int))))
def TY (l:List ByteArray) (s:ByteArray):List UInt8:=Lib.join (l.map (·.data.toList)) s.data.toList
def strings_Join.f (l0:List ByteArray) (a1:ByteArray):Option (ByteArray):=if l0.length≤140737488355328 then (if (TY l0 a1).length≤140737488355328 then some ⟨(TY l0 a1).toArray⟩ else none) else none
def dN.l0:Nat→List ByteArray→List ByteArray→Int→Int→Option (ByteArray)
 |0,_,_,_,_=>none
 |k + 1,x0,x5,x6,x7=>if x7 < x6 then (if 0≤x7 then (if x7 < (x5.length:Int) then ((gW.f k (pJ ByteArray.empty x5 x7)).bind fun t699=>(if t699=true then (dN.l0 k x0 x5 x6 (wrap64 (x7 + 1))) else (some (⟨#[]⟩:ByteArray)))) else (none)) else (none)) else ((strings_Join.f x0 (⟨#[32]⟩:ByteArray)).bind fun t700=>(some t700))
def dN.f (k:Nat) (l0:List ByteArray):Option (ByteArray):=dN.l0 k l0 l0 (l0.length:Int) 0
mutual
def bC.l0:Nat→List ByteArray→List Int→Int→Int→List Int→List (List (S58))→Option (ByteArray)
 |0,_,_,_,_,_,_=>none
 |k + 1,x3,x12,x13,x14,x702000,x702001=>if x14 < x13 then (if 0≤x14 then (if x14 < (x12.length:Int) then ((iC.f (rd x12 x14)).bind fun t704=>((some (([(⟨#[98,111,120]⟩:ByteArray),t704,(⟨#[59]⟩:ByteArray)]:List ByteArray):List ByteArray)).bind fun y705=>(if x3.length + y705.length < 8796093022208 then (bC.l0 k (x3 ++ y705) x12 x13 (wrap64 (x14 + 1)) x702000 x702001) else (none)))) else (none)) else (none)) else (bC.l1 k x3 x702001 (x702001.length:Int) 0)
def bC.l1:Nat→List ByteArray→List (List (S58))→Int→Int→Option (ByteArray)
 |0,_,_,_,_=>none
 |k + 1,x3,x25,x26,x27=>if x27 < x26 then (if 0≤x27 then (if x27 < (x25.length:Int) then (if x3.length < 8796093022208 then ((bB.f k (gB x25 x27) (x3 ++ [(⟨#[116,97,115,107]⟩:ByteArray)])).bind fun t715=>(bC.l1 k t715 x25 x26 (wrap64 (x27 + 1)))) else (none)) else (none)) else (none)) else ((dN.f k x3).bind fun t718=>(some t718))
end
def bC.f (k:Nat) (l0_0:List Int) (l0_1:List (List (S58))):Option (ByteArray):=(bE.f k l0_0 l0_1).bind fun t702=>(if t702=true then (bC.l0 k ([]:List ByteArray) l0_0 (l0_0.length:Int) 0 l0_0 l0_1) else (some (⟨#[]⟩:ByteArray)))
def iH.f (a0:Int) (a1:Int) (a2:Int):Option (Bool):=if a0≥a1 then (some (decide (a0≤a2))) else (some false)
def dZ.l0:Nat→List Int→Int→Option (Bool)
 |0,_,_=>none
 |k + 1,x0,x3=>if x3 < (x0.length:Int) then (if 0≤x3 then ((iH.f (rd x0 x3) 1 4).bind fun t720=>(if t720=true then (dZ.l0 k x0 (wrap64 (x3 + 1))) else (some false))) else (none)) else (some (decide ((x0.length:Int)≤3)))
def dZ.f (k:Nat) (l0:List Int):Option (Bool):=dZ.l0 k l0 0
def fI.f (a0_0:Int) (a0_1:Int) (a0_2:Int) (a0_3:Int) (a0_4:Int) (l0_5:List (S56)) (l0_6:List (S58)) (l0_7:List (S58)) (a1:Bool):Option (Bool):=if a1=true then ((iH.f a0_1 0 3).bind fun t722=>(some t722)) else (some (a0_1 == 0))
def gD.f (a0_0:Int) (a0_1:Int) (a0_2:Int) (a0_3:Int) (a0_4:Int) (l0_5:List (S56)) (l0_6:List (S58)) (l0_7:List (S58)) (a1:Bool):Option (Bool):=if a1=true then ((iH.f a0_2 0 2).bind fun t724=>(some t724)) else (some (a0_2 == 0))
def iL.f (a0:Int):Option (Bool):=(iH.f a0 1 12).bind fun t725=>(some t725)
def iP.f:Nat→Int→Int→List (S56)→Int→Option (Bool)
 |0,_,_,_,_=>none
 |k + 1,a0_0,a0_1,l0_2,a1=>if a1 < 1 then (some false) else (if a0_0=0 then ((iH.f a0_1 0 99999).bind fun t727=>(if t727=true then (some ((l0_2.length:Int) == 0)) else (some false))) else (if a0_0=13 then ((iH.f a0_1 0 3).bind fun t728=>(if t728=true then (some ((l0_2.length:Int) == 0)) else (some false))) else ((iL.f a0_0).bind fun t729=>(if t729=true then (if a0_1=0 then (if (l0_2.length:Int)=2 then (if 0 < (l0_2.length:Int) then ((iP.f k ((bW l0_2 0).f0) ((bW l0_2 0).f1) ((bW l0_2 0).f2) (wrap64 (a1 - 1))).bind fun t731=>(if t731=true then (if 1 < (l0_2.length:Int) then ((iP.f k ((bW l0_2 1).f0) ((bW l0_2 1).f1) ((bW l0_2 1).f2) (wrap64 (a1 - 1))).bind fun t733=>(some t733)) else (none)) else (some false))) else (none)) else (some false)) else (some false)) else (some false)))))
def eZ.f (k:Nat) (a0_0:Int) (a0_1:Int) (l0_2:List (S56)):Option (Bool):=(iP.f k a0_0 a0_1 l0_2 5).bind fun t735=>(some t735)
def mY.f (a0_0:Int) (a0_1:Int) (l0_2:List (S56)):Option (Bool):=if a0_0=0 then (if a0_1=0 then (some ((l0_2.length:Int) == 0)) else (some false)) else (some false)
def dP.j0:Nat→Bool→Int→Int→Int→Int→Int→List (S56)→List (S58)→List (S58)→Option (Bool)
 |0,_,_,_,_,_,_,_,_,_=>none
 |k + 1,x12,x738000,x738001,x738002,x738003,x738004,x738005,x738006,x738007=>if x12=true then (some false) else (if x738000=1 then ((fI.f x738000 x738001 x738002 x738003 x738004 x738005 x738006 x738007 true).bind fun t738=>(if t738=true then ((gD.f x738000 x738001 x738002 x738003 x738004 x738005 x738006 x738007 false).bind fun t739=>(if t739=true then ((eZ.f k x738003 x738004 x738005).bind fun t740=>(some t740)) else (some false))) else (some false))) else (if x738000=4 then ((fI.f x738000 x738001 x738002 x738003 x738004 x738005 x738006 x738007 false).bind fun t741=>(if t741=true then ((gD.f x738000 x738001 x738002 x738003 x738004 x738005 x738006 x738007 true).bind fun t742=>(if t742=true then ((eZ.f k x738003 x738004 x738005).bind fun t743=>(some t743)) else (some false))) else (some false))) else (if x738000=5 then ((fI.f x738000 x738001 x738002 x738003 x738004 x738005 x738006 x738007 true).bind fun t744=>(if t744=true then ((gD.f x738000 x738001 x738002 x738003 x738004 x738005 x738006 x738007 true).bind fun t745=>(if t745=true then ((mY.f x738003 x738004 x738005).bind fun t746=>(some t746)) else (some false))) else (some false))) else (if x738000=6 then ((fI.f x738000 x738001 x738002 x738003 x738004 x738005 x738006 x738007 false).bind fun t747=>(if t747=true then ((gD.f x738000 x738001 x738002 x738003 x738004 x738005 x738006 x738007 false).bind fun t748=>(if t748=true then ((mY.f x738003 x738004 x738005).bind fun t749=>(some t749)) else (some false))) else (some false))) else (if x738000=7 then ((fI.f x738000 x738001 x738002 x738003 x738004 x738005 x738006 x738007 false).bind fun t750=>(if t750=true then ((gD.f x738000 x738001 x738002 x738003 x738004 x738005 x738006 x738007 false).bind fun t751=>(if t751=true then ((eZ.f k x738003 x738004 x738005).bind fun t752=>(some t752)) else (some false))) else (some false))) else (some false))))))
def dP.f (k:Nat) (a0_0:Int) (a0_1:Int) (a0_2:Int) (a0_3:Int) (a0_4:Int) (l0_5:List (S56)) (l0_6:List (S58)) (l0_7:List (S58)):Option (Bool):=if (l0_6.length:Int) > 0 then (dP.j0 k true a0_0 a0_1 a0_2 a0_3 a0_4 l0_5 l0_6 l0_7) else (dP.j0 k (decide ((l0_7.length:Int) > 0)) a0_0 a0_1 a0_2 a0_3 a0_4 l0_5 l0_6 l0_7)
mutual
def bZ.j0:Nat→Int→Bool→Int→Int→Int→Int→Int→List (S56)→List (S58)→List (S58)→Option (Bool)
 |0,_,_,_,_,_,_,_,_,_,_=>none
 |k + 1,x1,x12,x754000,x754001,x754002,x754003,x754004,x754005,x754006,x754007=>if x12=true then ((dP.f k x754000 x754001 x754002 x754003 x754004 x754005 x754006 x754007).bind fun t754=>(some t754)) else (if x1 < 1 then (bZ.j1 k x1 true x754000 x754001 x754002 x754003 x754004 x754005 x754006 x754007) else (if x754000=3 then (bZ.j1 k x1 (decide ((x754007.length:Int) > 0)) x754000 x754001 x754002 x754003 x754004 x754005 x754006 x754007) else (bZ.j1 k x1 false x754000 x754001 x754002 x754003 x754004 x754005 x754006 x754007)))
def bZ.j1:Nat→Int→Bool→Int→Int→Int→Int→Int→List (S56)→List (S58)→List (S58)→Option (Bool)
 |0,_,_,_,_,_,_,_,_,_,_=>none
 |k + 1,x1,x27,x754000,x754001,x754002,x754003,x754004,x754005,x754006,x754007=>if x27=true then (some false) else ((fI.f x754000 x754001 x754002 x754003 x754004 x754005 x754006 x754007 false).bind fun t755=>(if t755=true then ((gD.f x754000 x754001 x754002 x754003 x754004 x754005 x754006 x754007 false).bind fun t756=>(if t756=true then ((eZ.f k x754003 x754004 x754005).bind fun t757=>(if t757=true then ((bV.f k x754006 (wrap64 (x1 - 1))).bind fun t758=>(if t758=true then ((bV.f k x754007 (wrap64 (x1 - 1))).bind fun t759=>(some t759)) else (some false))) else (some false))) else (some false))) else (some false)))
def bZ.f:Nat→Int→Int→Int→Int→Int→List (S56)→List (S58)→List (S58)→Int→Option (Bool)
 |0,_,_,_,_,_,_,_,_,_=>none
 |k + 1,a0_0,a0_1,a0_2,a0_3,a0_4,l0_5,l0_6,l0_7,a1=>if a0_0=2 then (bZ.j0 k a1 false a0_0 a0_1 a0_2 a0_3 a0_4 l0_5 l0_6 l0_7) else (bZ.j0 k a1 (a0_0 != 3) a0_0 a0_1 a0_2 a0_3 a0_4 l0_5 l0_6 l0_7)
def bV.l0:Nat→List (S58)→Int→Int→Option (Bool)
 |0,_,_,_=>none
 |k + 1,x0,x1,x5=>if x5 < (x0.length:Int) then (if 0≤x5 then ((bZ.f k ((aM x0 x5).f0) ((aM x0 x5).f1) ((aM x0 x5).f2) ((aM x0 x5).f3.f0) ((aM x0 x5).f3.f1) ((aM x0 x5).f3.f2) ((aM x0 x5).f4) ((aM x0 x5).f5) x1).bind fun t761=>(if t761=true then (bV.l0 k x0 x1 (wrap64 (x5 + 1))) else (some false))) else (none)) else (some true)
def bV.f:Nat→List (S58)→Int→Option (Bool)
 |0,_,_=>none
 |k + 1,l0,a1=>bV.l0 k l0 a1 0
end
def gG.f (k:Nat) (l0:List (S58)):Option (Bool):=(bV.f k l0 3).bind fun t762=>(if t762=true then ((bS.f k l0).bind fun t763=>(some (decide (t763≤16)))) else (some false))
mutual
def bO.l0:Nat→List (S58)→Int→Int→Option (Bool)
 |0,_,_,_=>none
 |k + 1,x0,x1,x5=>if x5 < (x0.length:Int) then (if 0≤x5 then (if ((aM x0 x5).f0)=4 then (bO.j1 k x0 x1 x5 (decide (((aM x0 x5).f2)≥x1)) ((aM x0 x5).f0) ((aM x0 x5).f1) ((aM x0 x5).f2) ((aM x0 x5).f3.f0) ((aM x0 x5).f3.f1) ((aM x0 x5).f3.f2) ((aM x0 x5).f4) ((aM x0 x5).f5)) else (if ((aM x0 x5).f0)=5 then (bO.j1 k x0 x1 x5 (decide (((aM x0 x5).f2)≥x1)) ((aM x0 x5).f0) ((aM x0 x5).f1) ((aM x0 x5).f2) ((aM x0 x5).f3.f0) ((aM x0 x5).f3.f1) ((aM x0 x5).f3.f2) ((aM x0 x5).f4) ((aM x0 x5).f5)) else (bO.j1 k x0 x1 x5 false ((aM x0 x5).f0) ((aM x0 x5).f1) ((aM x0 x5).f2) ((aM x0 x5).f3.f0) ((aM x0 x5).f3.f1) ((aM x0 x5).f3.f2) ((aM x0 x5).f4) ((aM x0 x5).f5)))) else (none)) else (some true)
def bO.j1:Nat→List (S58)→Int→Int→Bool→Int→Int→Int→Int→Int→List (S56)→List (S58)→List (S58)→Option (Bool)
 |0,_,_,_,_,_,_,_,_,_,_,_,_=>none
 |k + 1,x0,x1,x5,x30,x766000,x766001,x766002,x766003,x766004,x766005,x766006,x766007=>if x30=true then (some false) else ((bO.f k x766006 x1).bind fun t766=>(if t766=true then ((bO.f k x766007 x1).bind fun t767=>(if t767=true then (bO.l0 k x0 x1 (wrap64 (x5 + 1))) else (some false))) else (some false)))
def bO.f:Nat→List (S58)→Int→Option (Bool)
 |0,_,_=>none
 |k + 1,l0,a1=>bO.l0 k l0 a1 0
end
mutual
def aY.j0:Nat→Bool→List Int→List (List (S58))→Option (Bool)
 |0,_,_,_=>none
 |k + 1,x14,x769000,x769001=>if x14=true then (some false) else (aY.l0 k 0 x769000 x769001)
def aY.l0:Nat→Int→List Int→List (List (S58))→Option (Bool)
 |0,_,_,_=>none
 |k + 1,x3,x769000,x769001=>if x3 < (x769001.length:Int) then (if 0≤x3 then ((gG.f k (gB x769001 x3)).bind fun t772=>(if t772=true then ((bO.f k (gB x769001 x3) (x769000.length:Int)).bind fun t774=>(if t774=true then (aY.l0 k (wrap64 (x3 + 1)) x769000 x769001) else (some false))) else (some false))) else (none)) else (some true)
end
def aY.f (k:Nat) (l0_0:List Int) (l0_1:List (List (S58))):Option (Bool):=(dZ.f k l0_0).bind fun t769=>(if t769=true then ((iH.f (l0_1.length:Int) 1 3).bind fun t770=>(aY.j0 k (!t770) l0_0 l0_1)) else (aY.j0 k true l0_0 l0_1))
def eB.f:Nat→Int→Option (ByteArray)
 |0,_=>none
 |k + 1,a0=>if a0 < (-9223372036854775807) then (some (⟨#[45,57,50,50,51,51,55,50,48,51,54,56,53,52,55,55,53,56,48,56]⟩:ByteArray)) else (if a0 < 0 then ((eB.f k (wrap64 (-a0))).bind fun t775=>(if 1 + t775.size≤9223372036854775807 then (some ((⟨#[45]⟩:ByteArray) ++ t775)) else (none))) else (if a0 < 10 then (some (strOfNums (([(wrap64 (48 + a0)) % 256]:List Int)))) else ((eB.f k (wrap64 (Int.tdiv a0 10))).bind fun t779=>((some (([(wrap64 (48 + (Int.tmod a0 10))) % 256]:List Int):List Int)).bind fun y780=>(if t779.size + (strOfNums y780).size≤9223372036854775807 then (some (t779 ++ (strOfNums y780))) else (none))))))
def mZ.f (a0:Int):Option (ByteArray):=some (strOfNums (([(wrap64 (97 + a0)) % 256]:List Int)))
def mD.f (a0:Int):Option (Int):=(iL.f a0).bind fun t786=>(if t786=true then ((some (([1,2,3,4,5,6,6,7,7,8,8,8]:List Int):List Int)).bind fun y787=>(if 0≤(wrap64 (a0 - 1)) then (if (wrap64 (a0 - 1)) < (y787.length:Int) then (some (rd y787 (wrap64 (a0 - 1)))) else (none)) else (none))) else (some 0))
def nA.f (l0:List ByteArray) (a1:Bool):Option (List ByteArray):=if a1=true then ((some (([(⟨#[40]⟩:ByteArray)]:List ByteArray):List ByteArray)).bind fun y791=>(if y791.length + l0.length < 8796093022208 then ((some (y791 ++ l0:List ByteArray)).bind fun y794=>(if y794.length < 8796093022208 then (some (y794 ++ [(⟨#[41]⟩:ByteArray)])) else (none))) else (none))) else (some l0)
def mW.f (a0_0:Int) (a0_1:Int) (l0_2:List (S56)):Option (Int):=if (l0_2.length:Int)=0 then (some 9) else ((mD.f a0_0).bind fun t801=>(some t801))
def rY.f (a0:Int):Option (ByteArray):=(iL.f a0).bind fun t802=>(if t802=true then ((some (([(⟨#[124]⟩:ByteArray),(⟨#[94]⟩:ByteArray),(⟨#[38]⟩:ByteArray),(⟨#[61,61]⟩:ByteArray),(⟨#[60]⟩:ByteArray),(⟨#[60,60]⟩:ByteArray),(⟨#[62,62]⟩:ByteArray),(⟨#[43]⟩:ByteArray),(⟨#[45]⟩:ByteArray),(⟨#[42]⟩:ByteArray),(⟨#[47]⟩:ByteArray),(⟨#[37]⟩:ByteArray)]:List ByteArray):List ByteArray)).bind fun y803=>(if 0≤(wrap64 (a0 - 1)) then (if (wrap64 (a0 - 1)) < (y803.length:Int) then (some (pJ ByteArray.empty y803 (wrap64 (a0 - 1)))) else (none)) else (none))) else (some (⟨#[]⟩:ByteArray)))
def bM.f:Nat→Int→Int→List (S56)→Option (List ByteArray)
 |0,_,_,_=>none
 |k + 1,a0_0,a0_1,l0_2=>if a0_0=0 then ((eB.f k a0_1).bind fun t808=>(some (([t808]:List ByteArray)))) else (if a0_0=13 then ((mZ.f a0_1).bind fun t812=>(some (([t812]:List ByteArray)))) else ((mD.f a0_0).bind fun t816=>(if 0 < (l0_2.length:Int) then ((bM.f k ((bW l0_2 0).f0) ((bW l0_2 0).f1) ((bW l0_2 0).f2)).bind fun t818=>((mW.f ((bW l0_2 0).f0) ((bW l0_2 0).f1) ((bW l0_2 0).f2)).bind fun t822=>((nA.f t818 (decide (t822 < t816))).bind fun t823=>((rY.f a0_0).bind fun t826=>(if t823.length < 8796093022208 then ((some (t823 ++ [t826]:List ByteArray)).bind fun y827=>(if 1 < (l0_2.length:Int) then ((bM.f k ((bW l0_2 1).f0) ((bW l0_2 1).f1) ((bW l0_2 1).f2)).bind fun t831=>((mW.f ((bW l0_2 1).f0) ((bW l0_2 1).f1) ((bW l0_2 1).f2)).bind fun t835=>((nA.f t831 (decide (t835≤t816))).bind fun t836=>(if y827.length + t836.length < 8796093022208 then (some (y827 ++ t836)) else (none))))) else (none))) else (none)))))) else (none))))
def gH.f (k:Nat) (l0:List ByteArray) (a1_0:Int) (a1_1:Int) (l1_2:List (S56)):Option (List ByteArray):=(bM.f k a1_0 a1_1 l1_2).bind fun t843=>(if l0.length + t843.length < 8796093022208 then ((some (l0 ++ t843:List ByteArray)).bind fun y846=>(if y846.length < 8796093022208 then (some (y846 ++ [(⟨#[59]⟩:ByteArray)])) else (none))) else (none))
mutual
def bR.f:Nat→Int→Int→Int→Int→Int→List (S56)→List (S58)→List (S58)→Option (List ByteArray)
 |0,_,_,_,_,_,_,_,_=>none
 |k + 1,a0_0,a0_1,a0_2,a0_3,a0_4,l0_5,l0_6,l0_7=>if a0_0=1 then ((mZ.f a0_1).bind fun t853=>((gH.f k (([t853,(⟨#[61]⟩:ByteArray)]:List ByteArray)) a0_3 a0_4 l0_5).bind fun t857=>(some t857))) else (if a0_0=4 then ((eB.f k a0_2).bind fun t860=>((gH.f k (([(⟨#[115,101,110,100]⟩:ByteArray),t860]:List ByteArray)) a0_3 a0_4 l0_5).bind fun t864=>(some t864))) else (if a0_0=7 then ((gH.f k (([(⟨#[112,114,105,110,116]⟩:ByteArray)]:List ByteArray)) a0_3 a0_4 l0_5).bind fun t870=>(some t870)) else (if a0_0=5 then ((eB.f k a0_2).bind fun t873=>((mZ.f a0_1).bind fun t874=>(some (([(⟨#[114,101,99,118]⟩:ByteArray),t873,t874,(⟨#[59]⟩:ByteArray)]:List ByteArray))))) else (if a0_0=6 then (some (([(⟨#[121,105,101,108,100]⟩:ByteArray),(⟨#[59]⟩:ByteArray)]:List ByteArray))) else (if a0_0=3 then ((some (([(⟨#[119,104,105,108,101]⟩:ByteArray)]:List ByteArray):List ByteArray)).bind fun y881=>((bM.f k a0_3 a0_4 l0_5).bind fun t884=>(if y881.length + t884.length < 8796093022208 then ((some (y881 ++ t884:List ByteArray)).bind fun y887=>((bL.f k l0_6).bind fun t890=>(if y887.length + t890.length < 8796093022208 then (some (y887 ++ t890)) else (none)))) else (none)))) else ((some (([(⟨#[105,102]⟩:ByteArray)]:List ByteArray):List ByteArray)).bind fun y896=>((bM.f k a0_3 a0_4 l0_5).bind fun t899=>(if y896.length + t899.length < 8796093022208 then ((some (y896 ++ t899:List ByteArray)).bind fun y902=>((bL.f k l0_6).bind fun t905=>(if y902.length + t905.length < 8796093022208 then ((some (y902 ++ t905:List ByteArray)).bind fun y908=>(if (l0_7.length:Int)=0 then (some y908) else (if y908.length < 8796093022208 then ((some (y908 ++ [(⟨#[101,108,115,101]⟩:ByteArray)]:List ByteArray)).bind fun y911=>((bL.f k l0_7).bind fun t914=>(if y911.length + t914.length < 8796093022208 then (some (y911 ++ t914)) else (none)))) else (none)))) else (none)))) else (none)))))))))
def bL.l0:Nat→List (S58)→List ByteArray→Int→Option (List ByteArray)
 |0,_,_,_=>none
 |k + 1,x0,x3,x4=>if x4 < (x0.length:Int) then (if 0≤x4 then ((bR.f k ((aM x0 x4).f0) ((aM x0 x4).f1) ((aM x0 x4).f2) ((aM x0 x4).f3.f0) ((aM x0 x4).f3.f1) ((aM x0 x4).f3.f2) ((aM x0 x4).f4) ((aM x0 x4).f5)).bind fun t924=>(if x3.length + t924.length < 8796093022208 then (bL.l0 k x0 (x3 ++ t924) (wrap64 (x4 + 1))) else (none))) else (none)) else (if x3.length < 8796093022208 then (some (x3 ++ [(⟨#[125]⟩:ByteArray)])) else (none))
def bL.f:Nat→List (S58)→Option (List ByteArray)
 |0,_=>none
 |k + 1,l0=>bL.l0 k l0 (([(⟨#[123]⟩:ByteArray)]:List ByteArray)) 0
end
mutual
def bK.j0:Nat→Int→Bool→Option (Int)
 |0,_,_=>none
 |k + 1,x0,x5=>if x5=true then (some 1) else (if x0≥97 then (bK.j1 k x0 (decide (x0≤122))) else (bK.j1 k x0 false))
def bK.j1:Nat→Int→Bool→Option (Int)
 |0,_,_=>none
 |k + 1,x0,x12=>if x12=true then (some 2) else (if x0=32 then (some 3) else (if x0=10 then (some 3) else (bK.l0 k x0 (⟨#[43,45,42,47,37,38,124,94,60,62,40,41,123,125,61,59]⟩:ByteArray) 0)))
def bK.l0:Nat→Int→ByteArray→Int→Option (Int)
 |0,_,_,_=>none
 |k + 1,x0,x3,x4=>if x4 < (x3.size:Int) then (if 0≤x4 then (if (bt x3 x4)=x0 then (some 4) else (bK.l0 k x0 x3 (wrap64 (x4 + 1)))) else (none)) else (some 0)
end
def bK.f (k:Nat) (a0:Int):Option (Int):=if a0≥48 then (bK.j0 k a0 (decide (a0≤57))) else (bK.j0 k a0 false)
def fV.l0:Nat→ByteArray→Int→Int→Option (Int)
 |0,_,_,_=>none
 |k + 1,x0,x1,x5=>if x5 < (x0.size:Int) then (if 0≤x5 then ((bK.f k (bt x0 x5)).bind fun t933=>(if 0≤x1 then (if x1 < (x0.size:Int) then ((bK.f k (bt x0 x1)).bind fun t934=>(if t933=t934 then (fV.l0 k x0 x1 (wrap64 (x5 + 1))) else (some x5))) else (none)) else (none))) else (none)) else (some x5)
def fV.f (k:Nat) (a0:ByteArray) (a1:Int):Option (Int):=fV.l0 k a0 a1 a1
def vS.f (a0:ByteArray):Option (Bool):=if a0.toList=([60,60]:List UInt8) then (some true) else (if a0.toList=([62,62]:List UInt8) then (some true) else (some (a0.toList == ([61,61]:List UInt8))))
mutual
def eT.j0:Nat→ByteArray→Int→Int→Bool→Option (Int)
 |0,_,_,_,_=>none
 |k + 1,x0,x1,x5,x15=>if x15=true then ((fV.f k x0 x1).bind fun t936=>(some t936)) else (if x5=4 then (if (wrap64 (x1 + 2))≤(x0.size:Int) then (if 0≤x1 then (if x1≤(wrap64 (x1 + 2)) then ((vS.f (x0.extract (x1:Int).toNat ((wrap64 (x1 + 2)):Int).toNat)).bind fun t937=>(eT.j1 k x0 x1 t937)) else (none)) else (none)) else (eT.j1 k x0 x1 false)) else (some (-1)))
def eT.j1:Nat→ByteArray→Int→Bool→Option (Int)
 |0,_,_,_=>none
 |k + 1,x0,x1,x33=>if x33=true then (some (wrap64 (x1 + 2))) else (if 0≤x1 then (if x1 < (x0.size:Int) then (if (bt x0 x1)=62 then (some (-1)) else (some (wrap64 (x1 + 1)))) else (none)) else (none))
end
def eT.f (k:Nat) (a0:ByteArray) (a1:Int):Option (Int):=if 0≤a1 then (if a1 < (a0.size:Int) then ((bK.f k (bt a0 a1)).bind fun t935=>(if t935=1 then (eT.j0 k a0 a1 t935 true) else (eT.j0 k a0 a1 t935 (t935 == 2)))) else (none)) else (none)
def gM.f (k:Nat) (a0:ByteArray):Option (Bool):=if a0.toList=([]:List UInt8) then (some false) else ((eT.f k a0 0).bind fun t938=>(some (t938 == (a0.size:Int))))
def dI.l0:Nat→List ByteArray→ByteArray→Int→Option (ByteArray)
 |0,_,_,_=>none
 |k + 1,x0,x3,x4=>if x4 < (x0.length:Int) then (if 0≤x4 then ((gM.f k (pJ ByteArray.empty x0 x4)).bind fun t940=>(if t940=true then (if x4 > 0 then (if x3.size + 1≤9223372036854775807 then (if (x3 ++ (⟨#[32]⟩:ByteArray)).size + (pJ ByteArray.empty x0 x4).size≤9223372036854775807 then (dI.l0 k x0 ((x3 ++ (⟨#[32]⟩:ByteArray)) ++ (pJ ByteArray.empty x0 x4)) (wrap64 (x4 + 1))) else (none)) else (none)) else (if x3.size + (pJ ByteArray.empty x0 x4).size≤9223372036854775807 then (dI.l0 k x0 (x3 ++ (pJ ByteArray.empty x0 x4)) (wrap64 (x4 + 1))) else (none))) else (some (⟨#[]⟩:ByteArray)))) else (none)) else (some x3)
def dI.f (k:Nat) (l0:List ByteArray):Option (ByteArray):=dI.l0 k l0 (⟨#[]⟩:ByteArray) 0
mutual
def bF.l0:Nat→List ByteArray→Int→List Int→List (List (S58))→Option (ByteArray)
 |0,_,_,_,_=>none
 |k + 1,x3,x4,x944000,x944001=>if x4 < (x944000.length:Int) then (if 0≤x4 then ((eB.f k (rd x944000 x4)).bind fun t949=>((some (([(⟨#[98,111,120]⟩:ByteArray),t949,(⟨#[59]⟩:ByteArray)]:List ByteArray):List ByteArray)).bind fun y950=>(if x3.length + y950.length < 8796093022208 then (bF.l0 k (x3 ++ y950) (wrap64 (x4 + 1)) x944000 x944001) else (none)))) else (none)) else (bF.l1 k x3 0 x944000 x944001)
def bF.l1:Nat→List ByteArray→Int→List Int→List (List (S58))→Option (ByteArray)
 |0,_,_,_,_=>none
 |k + 1,x3,x5,x944000,x944001=>if x5 < (x944001.length:Int) then (if x3.length < 8796093022208 then ((some (x3 ++ [(⟨#[116,97,115,107]⟩:ByteArray)]:List ByteArray)).bind fun y956=>(if 0≤x5 then ((bL.f k (gB x944001 x5)).bind fun t960=>(if y956.length + t960.length < 8796093022208 then (bF.l1 k (y956 ++ t960) (wrap64 (x5 + 1)) x944000 x944001) else (none))) else (none))) else (none)) else ((dI.f k x3).bind fun t966=>(some t966))
end
def bF.f (k:Nat) (l0_0:List Int) (l0_1:List (List (S58))):Option (ByteArray):=(aY.f k l0_0 l0_1).bind fun t944=>(if t944=true then (bF.l0 k (([]:List ByteArray)) 0 l0_0 l0_1) else (some (⟨#[]⟩:ByteArray)))
mutual
def nL.l0:Nat→ByteArray→List ByteArray→Int→Option (List ByteArray × Bool)
 |0,_,_,_=>none
 |k + 1,x0,x4,x5=>if x5 < (x0.size:Int) then (if 0≤x5 then (if (bt x0 x5)=32 then (nL.j1 k x0 x4 x5 true) else (nL.j1 k x0 x4 x5 ((bt x0 x5) == 10))) else (none)) else (some (x4,true))
def nL.j1:Nat→ByteArray→List ByteArray→Int→Bool→Option (List ByteArray × Bool)
 |0,_,_,_,_=>none
 |k + 1,x0,x4,x5,x23=>if x23=true then (nL.l0 k x0 x4 (wrap64 (x5 + 1))) else (if 0≤x5 then (if x5≤(x0.size:Int) then ((bA.f k (x0.extract (x5:Int).toNat x0.size)).bind fun t967=>(if t967=0 then (some (([]:List ByteArray),false)) else (if x5≤(wrap64 (x5 + t967)) then (if (wrap64 (x5 + t967))≤(x0.size:Int) then (if x4.length < 8796093022208 then (nL.l0 k x0 (x4 ++ [x0.extract (x5:Int).toNat ((wrap64 (x5 + t967)):Int).toNat]) (wrap64 (x5 + t967))) else (none)) else (none)) else (none)))) else (none)) else (none))
end
def nL.f (k:Nat) (a0:ByteArray):Option (List ByteArray × Bool):=if (a0.size:Int) > 20000 then (some (([]:List ByteArray),false)) else (nL.l0 k a0 ([]:List ByteArray) 0)
mutual
def kG.l0:Nat→List (S58)→Int→Int→Int→Option (Int)
 |0,_,_,_,_=>none
 |k + 1,x0,x1,x5,x6=>if x6 < (x0.length:Int) then (if 0≤x6 then (if ((aM x0 x6).f0)=x1 then ((kG.f k ((aM x0 x6).f4) x1).bind fun t973=>((kG.f k ((aM x0 x6).f5) x1).bind fun t975=>(kG.l0 k x0 x1 (wrap64 ((wrap64 ((wrap64 (x5 + 1)) + t973)) + t975)) (wrap64 (x6 + 1))))) else ((kG.f k ((aM x0 x6).f4) x1).bind fun t977=>((kG.f k ((aM x0 x6).f5) x1).bind fun t979=>(kG.l0 k x0 x1 (wrap64 ((wrap64 (x5 + t977)) + t979)) (wrap64 (x6 + 1)))))) else (none)) else (some x5)
def kG.f:Nat→List (S58)→Int→Option (Int)
 |0,_,_=>none
 |k + 1,l0,a1=>kG.l0 k l0 a1 0 0
end
def kH.l0:Nat→List ByteArray→ByteArray→Int→Int→Option (Int)
 |0,_,_,_,_=>none
 |k + 1,x0,x1,x5,x6=>if x6 < (x0.length:Int) then (if 0≤x6 then (if (pJ ByteArray.empty x0 x6).toList=x1.toList then (kH.l0 k x0 x1 (wrap64 (x5 + 1)) (wrap64 (x6 + 1))) else (kH.l0 k x0 x1 x5 (wrap64 (x6 + 1)))) else (none)) else (some x5)
def kH.f (k:Nat) (l0:List ByteArray) (a1:ByteArray):Option (Int):=kH.l0 k l0 a1 0 0
mutual
def lX.j0:Nat→ByteArray→ByteArray→Bool→List Int→List (List (S58))→Option (Bool)
 |0,_,_,_,_,_=>none
 |k + 1,x4,x5,x27,x988000,x988001=>if x27=true then (some (x4.toList == x5.toList)) else ((nL.f k x4).bind fun bt990=>(lX.l0 k bt990.1 bt990.2 0 0 0 0 x988000 x988001))
def lX.l0:Nat→List ByteArray→Bool→Int→Int→Int→Int→List Int→List (List (S58))→Option (Bool)
 |0,_,_,_,_,_,_,_,_=>none
 |k + 1,x6,x7,x8,x9,x10,x11,x988000,x988001=>if x11 < (x988001.length:Int) then (if 0≤x11 then ((kG.f k (gB x988001 x11) 3).bind fun t995=>((kG.f k (gB x988001 x11) 4).bind fun t997=>((kG.f k (gB x988001 x11) 6).bind fun t999=>(lX.l0 k x6 x7 (wrap64 (x8 + t995)) (wrap64 (x9 + t997)) (wrap64 (x10 + t999)) (wrap64 (x11 + 1)) x988000 x988001)))) else (none)) else (if x7=true then ((kH.f k x6 (⟨#[119,104,105,108,101]⟩:ByteArray)).bind fun t1000=>(if t1000=x8 then ((kH.f k x6 (⟨#[115,101,110,100]⟩:ByteArray)).bind fun t1001=>(if t1001=x9 then ((kH.f k x6 (⟨#[121,105,101,108,100]⟩:ByteArray)).bind fun t1002=>(some (t1002 == x10))) else (some false))) else (some false))) else (some false))
end
def lX.f (k:Nat) (l0:List Int):Option (Bool):=if (l0.length:Int) > 1048576 then (some true) else ((fM.f k l0).bind fun bt981=>((bC.f k bt981.1 bt981.2).bind fun t988=>((bF.f k bt981.1 bt981.2).bind fun t989=>(if t988.toList=t989.toList then (lX.j0 k t988 t989 (t988.toList == ([]:List UInt8)) bt981.1 bt981.2) else (lX.j0 k t988 t989 true bt981.1 bt981.2)))))
def WQ.f (l0:List Int) (a1:Int):Option (Int):=if (wrap64 (a1 - (l0.length:Int))) < 0 then (some (-1)) else (some (wrap64 (a1 - (l0.length:Int))))
mutual
def vC.l0:Nat→List (FP)→Int→Int→Option (Int)
 |0,_,_,_=>none
 |k + 1,x0,x1,x5=>if x5 < (x0.length:Int) then (if 0≤x5 then ((IX.f k ((BD x0 x5).f0) ((BD x0 x5).f1) ((BD x0 x5).f2) x1).bind fun t1004=>(if t1004 < 0 then (some (-1)) else (vC.l0 k x0 t1004 (wrap64 (x5 + 1))))) else (none)) else (some x1)
def vC.f:Nat→List (FP)→Int→Option (Int)
 |0,_,_=>none
 |k + 1,l0,a1=>if (wrap64 (a1 - (l0.length:Int))) < 0 then (some (-1)) else (vC.l0 k l0 (wrap64 (a1 - (l0.length:Int))) 0)
def IX.f:Nat→Int→Int→List (FP)→Int→Option (Int)
 |0,_,_,_,_=>none
 |k + 1,a0_0,a0_1,l0_2,a1=>(vC.f k l0_2 a1).bind fun t1006=>(if t1006 < 0 then (some (-1)) else (some t1006))
end
mutual
def WR.f:Nat→Int→Int→Int→Int→Int→List (FP)→List (uV)→List (uV)→Int→Option (Int)
 |0,_,_,_,_,_,_,_,_,_=>none
 |k + 1,a0_0,a0_1,a0_2,a0_3,a0_4,l0_5,l0_6,l0_7,a1=>(IX.f k a0_3 a0_4 l0_5 a1).bind fun t1008=>(if t1008 < 0 then (some (-1)) else ((pV.f k l0_6 t1008).bind fun t1009=>(if t1009 < 0 then (some (-1)) else ((pV.f k l0_7 t1009).bind fun t1010=>(if t1010 < 0 then (some (-1)) else (some t1010))))))
def pV.l0:Nat→List (uV)→Int→Int→Option (Int)
 |0,_,_,_=>none
 |k + 1,x0,x1,x5=>if x5 < (x0.length:Int) then (if 0≤x5 then ((WR.f k ((vE x0 x5).f0) ((vE x0 x5).f1) ((vE x0 x5).f2) ((vE x0 x5).f3.f0) ((vE x0 x5).f3.f1) ((vE x0 x5).f3.f2) ((vE x0 x5).f4) ((vE x0 x5).f5) x1).bind fun t1012=>(if t1012 < 0 then (some (-1)) else (pV.l0 k x0 t1012 (wrap64 (x5 + 1))))) else (none)) else (some x1)
def pV.f:Nat→List (uV)→Int→Option (Int)
 |0,_,_=>none
 |k + 1,l0,a1=>if (wrap64 (a1 - (l0.length:Int))) < 0 then (some (-1)) else (pV.l0 k l0 (wrap64 (a1 - (l0.length:Int))) 0)
end
def tZ.l0:Nat→List (List (uV))→Int→Int→Option (Int)
 |0,_,_,_=>none
 |k + 1,x0,x1,x5=>if x5 < (x0.length:Int) then (if 0≤x5 then ((pV.f k (aIz x0 x5) x1).bind fun t1014=>(if t1014 < 0 then (some (-1)) else (tZ.l0 k x0 t1014 (wrap64 (x5 + 1))))) else (none)) else (some x1)
def tZ.f (k:Nat) (l0:List (List (uV))) (a1:Int):Option (Int):=if (wrap64 (a1 - (l0.length:Int))) < 0 then (some (-1)) else (tZ.l0 k l0 (wrap64 (a1 - (l0.length:Int))) 0)
def MX.f (k:Nat) (l0_0:List Int) (l0_1:List (List (uV))) (a1:Int):Option (Int):=(WQ.f l0_0 a1).bind fun t1016=>(if t1016 < 0 then (some (-1)) else ((tZ.f k l0_1 t1016).bind fun t1017=>(if t1017 < 0 then (some (-1)) else (some t1017))))
def wJ.l0:Nat→List Int→List Int→Int→Option (List Int)
 |0,_,_,_=>none
 |k + 1,x0,x3,x4=>if x4 < (x0.length:Int) then (if 0≤x4 then (if x4 < (x3.length:Int) then (wJ.l0 k x0 (x3.set (x4:Int).toNat (rd x0 x4)) (wrap64 (x4 + 1))) else (none)) else (none)) else (some x3)
def wJ.f (k:Nat) (l0:List Int):Option (List Int):=if 0≤(l0.length:Int) then (if ((l0.length:Int):Int).toNat≤35184372088832 then (wJ.l0 k l0 (List.replicate ((l0.length:Int):Int).toNat 0) 0) else (none)) else (none)
mutual
def vD.l0:Nat→List (FP)→List (S56)→Int→Option ((List (S56)))
 |0,_,_,_=>none
 |k + 1,x0,x3,x4=>if x4 < (x0.length:Int) then (if 0≤x4 then ((IY.f k ((BD x0 x4).f0) ((BD x0 x4).f1) ((BD x0 x4).f2)).bind fun bt1027=>(if x4 < (x3.length:Int) then (vD.l0 k x0 (x3.set (x4:Int).toNat (⟨bt1027.1,bt1027.2.1,bt1027.2.2⟩:S56)) (wrap64 (x4 + 1))) else (none))) else (none)) else (some x3)
def vD.f:Nat→List (FP)→Option ((List (S56)))
 |0,_=>none
 |k + 1,l0=>if 0≤(l0.length:Int) then (if ((l0.length:Int):Int).toNat≤7036874417766 then (vD.l0 k l0 (List.replicate ((l0.length:Int):Int).toNat z56) 0) else (none)) else (none)
def IY.f:Nat→Int→Int→List (FP)→Option (Int × Int × (List (S56)))
 |0,_,_,_=>none
 |k + 1,a0_0,a0_1,l0_2=>(vD.f k l0_2).bind fun t1036=>(some (a0_0,a0_1,t1036))
end
mutual
def pW.l0:Nat→List uV→List S58→Int→Option (List S58)
 |0,_,_,_=>none
 |k + 1,x0,x3,x4=>if x4 < (x0.length:Int) then (if 0≤x4 then ((WT.f k (vE x0 x4)).bind fun s=>(if x4 < (x3.length:Int) then pW.l0 k x0 (x3.set (x4:Int).toNat s) (wrap64 (x4 + 1)) else none)) else none) else some x3
def pW.f:Nat→List uV→Option (List S58)
 |0,_=>none
 |k + 1,l0=>if l0.length≤2513169434916 then pW.l0 k l0 (List.replicate l0.length z58) 0 else none
def WT.f:Nat→uV→Option S58
 |0,_=>none
 |k + 1,s=>(IY.f k s.f3.f0 s.f3.f1 s.f3.f2).bind fun e=>(pW.f k s.f4).bind fun b=>(pW.f k s.f5).bind fun c=>some ⟨s.f0,s.f1,s.f2,⟨e.1,e.2.1,e.2.2⟩,b,c⟩
end
def uD.l0:Nat→List (List (uV))→List (List (S58))→Int→Option ((List (List (S58))))
 |0,_,_,_=>none
 |k + 1,x0,x3,x4=>if x4 < (x0.length:Int) then (if 0≤x4 then ((pW.f k (aIz x0 x4)).bind fun t1043=>(if x4 < (x3.length:Int) then (uD.l0 k x0 (x3.set (x4:Int).toNat t1043) (wrap64 (x4 + 1))) else (none))) else (none)) else (some x3)
def uD.f (k:Nat) (l0:List (List (uV))):Option ((List (List (S58)))):=if 0≤(l0.length:Int) then (if ((l0.length:Int):Int).toNat≤11728124029610 then (uD.l0 k l0 (List.replicate ((l0.length:Int):Int).toNat []) 0) else (none)) else (none)
def vM.f (k:Nat) (l0_0:List Int) (l0_1:List (List (uV))):Option (List Int × (List (List (S58)))):=(wJ.f k l0_0).bind fun t1050=>((uD.f k l0_1).bind fun t1053=>(some (t1050,t1053)))
def wI.l0:Nat→List Int→List Int→Int→Option (Bool)
 |0,_,_,_=>none
 |k + 1,x0,x1,x5=>if x5 < (x0.length:Int) then (if 0≤x5 then (if x5 < (x1.length:Int) then (if (rd x0 x5)=(rd x1 x5) then (wI.l0 k x0 x1 (wrap64 (x5 + 1))) else (some false)) else (none)) else (none)) else (some true)
def wI.f (k:Nat) (l0:List Int) (l1:List Int):Option (Bool):=if (l0.length:Int)=(l1.length:Int) then (wI.l0 k l0 l1 0) else (some false)
mutual
def vB.l0:Nat→List (S56)→List (S56)→Int→Option (Bool)
 |0,_,_,_=>none
 |k + 1,x0,x1,x5=>if x5 < (x0.length:Int) then (if 0≤x5 then (if x5 < (x1.length:Int) then ((IW.f k ((bW x0 x5).f0) ((bW x0 x5).f1) ((bW x0 x5).f2) ((bW x1 x5).f0) ((bW x1 x5).f1) ((bW x1 x5).f2)).bind fun t1060=>(if t1060=true then (vB.l0 k x0 x1 (wrap64 (x5 + 1))) else (some false))) else (none)) else (none)) else (some true)
def vB.f:Nat→List (S56)→List (S56)→Option (Bool)
 |0,_,_=>none
 |k + 1,l0,l1=>if (l0.length:Int)=(l1.length:Int) then (vB.l0 k l0 l1 0) else (some false)
def IW.f:Nat→Int→Int→List (S56)→Int→Int→List (S56)→Option (Bool)
 |0,_,_,_,_,_,_=>none
 |k + 1,a0_0,a0_1,l0_2,a1_0,a1_1,l1_2=>if a0_0=a1_0 then (if a0_1=a1_1 then ((vB.f k l0_2 l1_2).bind fun t1063=>(if t1063=true then (some true) else (some false))) else (some false)) else (some false)
end
mutual
def WO.f:Nat→Int→Int→Int→Int→Int→List (S56)→List (S58)→List (S58)→Int→Int→Int→Int→Int→List (S56)→List (S58)→List (S58)→Option (Bool)
 |0,_,_,_,_,_,_,_,_,_,_,_,_,_,_,_,_=>none
 |k + 1,a0_0,a0_1,a0_2,a0_3,a0_4,l0_5,l0_6,l0_7,a1_0,a1_1,a1_2,a1_3,a1_4,l1_5,l1_6,l1_7=>if a0_0=a1_0 then (if a0_1=a1_1 then (if a0_2=a1_2 then ((IW.f k a0_3 a0_4 l0_5 a1_3 a1_4 l1_5).bind fun t1066=>(if t1066=true then ((pU.f k l0_6 l1_6).bind fun t1067=>(if t1067=true then ((pU.f k l0_7 l1_7).bind fun t1068=>(if t1068=true then (some true) else (some false))) else (some false))) else (some false))) else (some false)) else (some false)) else (some false)
def pU.l0:Nat→List (S58)→List (S58)→Int→Option (Bool)
 |0,_,_,_=>none
 |k + 1,x0,x1,x5=>if x5 < (x0.length:Int) then (if 0≤x5 then (if x5 < (x1.length:Int) then ((WO.f k ((aM x0 x5).f0) ((aM x0 x5).f1) ((aM x0 x5).f2) ((aM x0 x5).f3.f0) ((aM x0 x5).f3.f1) ((aM x0 x5).f3.f2) ((aM x0 x5).f4) ((aM x0 x5).f5) ((aM x1 x5).f0) ((aM x1 x5).f1) ((aM x1 x5).f2) ((aM x1 x5).f3.f0) ((aM x1 x5).f3.f1) ((aM x1 x5).f3.f2) ((aM x1 x5).f4) ((aM x1 x5).f5)).bind fun t1071=>(if t1071=true then (pU.l0 k x0 x1 (wrap64 (x5 + 1))) else (some false))) else (none)) else (none)) else (some true)
def pU.f:Nat→List (S58)→List (S58)→Option (Bool)
 |0,_,_=>none
 |k + 1,l0,l1=>if (l0.length:Int)=(l1.length:Int) then (pU.l0 k l0 l1 0) else (some false)
end
def tY.l0:Nat→List (List (S58))→List (List (S58))→Int→Option (Bool)
 |0,_,_,_=>none
 |k + 1,x0,x1,x5=>if x5 < (x0.length:Int) then (if 0≤x5 then (if x5 < (x1.length:Int) then ((pU.f k (gB x0 x5) (gB x1 x5)).bind fun t1074=>(if t1074=true then (tY.l0 k x0 x1 (wrap64 (x5 + 1))) else (some false))) else (none)) else (none)) else (some true)
def tY.f (k:Nat) (l0:List (List (S58))) (l1:List (List (S58))):Option (Bool):=if (l0.length:Int)=(l1.length:Int) then (tY.l0 k l0 l1 0) else (some false)
def MW.f (k:Nat) (l0_0:List Int) (l0_1:List (List (S58))) (aFz:List Int) (l1_1:List (List (S58))):Option (Bool):=(wI.f k l0_0 aFz).bind fun t1077=>(if t1077=true then ((tY.f k l0_1 l1_1).bind fun t1078=>(if t1078=true then (some true) else (some false))) else (some false))
def PX.f (k:Nat) (l0_0:List Int) (l0_1:List (List (uV))):Option (Bool):=(MX.f k l0_0 l0_1 1048576).bind fun t1080=>(if t1080 < 0 then (some true) else ((vM.f k l0_0 l0_1).bind fun bt1081=>((bF.f k bt1081.1 bt1081.2).bind fun t1087=>((vM.f k l0_0 l0_1).bind fun bt1088=>((bC.f k bt1088.1 bt1088.2).bind fun t1095=>(if t1095.toList=t1087.toList then ((vM.f k l0_0 l0_1).bind fun bt1096=>((MW.f k bt1088.1 bt1088.2 bt1096.1 bt1096.2).bind fun t1102=>(if t1102=true then (some true) else (some false)))) else (some false)))))))
def kI.f (l0:List Int):Option (List Int):=(some (([]:List Int):List Int)).bind fun y1103=>(if y1103.length + l0.length < 17592186044416 then (some (y1103 ++ l0)) else (none))
def pF.f (a0:Bool):Option (Int):=if a0=true then (some 1) else (some 0)
def lV.f (a0:Int):Option (Int):=some (wrap64 (wrap32 (a0)))
def lW.f (a0:Int) (a1:Int) (a2:Int):Option (Int):=if a0=1 then (some (Go.bits .or .i64 a1 a2)) else (if a0=2 then (some (Go.bits .xor .i64 a1 a2)) else (if a0=3 then (some (Go.bits .and .i64 a1 a2)) else (if a0=4 then ((pF.f (a1 == a2)).bind fun t1109=>(some t1109)) else (if a0=5 then ((pF.f (decide (a1 < a2))).bind fun t1110=>(some t1110)) else (if a0=6 then (if 0≤(Go.bits .and .i64 a2 31) then ((lV.f (shl .i64 a1 (Go.bits .and .i64 a2 31))).bind fun t1111=>(some t1111)) else (none)) else (if a0=7 then (if 0≤(Go.bits .and .i64 a2 31) then (some (shr .i64 a1 (Go.bits .and .i64 a2 31))) else (none)) else (if a0=8 then ((lV.f (wrap64 (a1 + a2))).bind fun t1112=>(some t1112)) else (if a0=9 then ((lV.f (wrap64 (a1 - a2))).bind fun t1113=>(some t1113)) else (if a0=10 then ((lV.f (wrap64 (a1 * a2))).bind fun t1114=>(some t1114)) else (if a0=11 then (if a2=0 then (some (-1)) else ((lV.f (wrap64 (Int.tdiv a1 a2))).bind fun t1115=>(some t1115))) else (if a2=0 then (some a1) else (some (Int.tmod a1 a2)))))))))))))
mutual
def cK.j0:Nat→Bool→Int→Int→List (S56)→Int→Int→List (S56)→Int→Int→List (S56)→Option (Int × Int × (List (S56)))
 |0,_,_,_,_,_,_,_,_,_,_=>none
 |k + 1,x32,a0,a1,l,x0,x1,x2,y0,y1,y2=>if x32=true then ((lW.f a0 x1 y1).bind fun n=>(if n≥0 then (if n≤99999 then (some (0,n,([]:List (S56)))) else (some (a0,0,([(⟨x0,x1,x2⟩:S56),(⟨y0,y1,y2⟩:S56)]:List (S56))))) else (some (a0,0,([(⟨x0,x1,x2⟩:S56),(⟨y0,y1,y2⟩:S56)]:List (S56)))))) else (some (a0,0,([(⟨x0,x1,x2⟩:S56),(⟨y0,y1,y2⟩:S56)]:List (S56))))
def cK.f:Nat→Int→Int→List (S56)→Option (Int × Int × (List (S56)))
 |0,_,_,_=>none
 |k + 1,a0,a1,l=>if (l.length:Int)=0 then (some (a0,a1,([]:List (S56)))) else (if 0 < (l.length:Int) then ((cK.f k ((bW l 0).f0) ((bW l 0).f1) ((bW l 0).f2)).bind fun x=>(if 1 < (l.length:Int) then ((cK.f k ((bW l 1).f0) ((bW l 1).f1) ((bW l 1).f2)).bind fun y=>(if x.1=0 then (cK.j0 k (y.1 == 0) a0 a1 l x.1 x.2.1 x.2.2 y.1 y.2.1 y.2.2) else (cK.j0 k false a0 a1 l x.1 x.2.1 x.2.2 y.1 y.2.1 y.2.2))) else (none))) else (none))
end
mutual
def aQ.l0:Nat→List (S58)→List (S58)→Int→Int→Option ((List (S58)))
 |0,_,_,_,_=>none
 |k + 1,x3,l,n,i=>if i < n then (if 0≤i then (if i < (l.length:Int) then ((aQ.f k ((aM l i).f4)).bind fun yb=>((aQ.f k ((aM l i).f5)).bind fun ye=>((cK.f k ((aM l i).f3.f0) ((aM l i).f3.f1) ((aM l i).f3.f2)).bind fun x=>(if ((aM l i).f0)=2 then (if x.1=0 then (aQ.j1 k x3 (x.1 == 0) l n i (x.2.1 != 0) ((aM l i).f0) ((aM l i).f1) ((aM l i).f2) x.1 x.2.1 x.2.2 yb ye) else (aQ.j1 k x3 (x.1 == 0) l n i false ((aM l i).f0) ((aM l i).f1) ((aM l i).f2) x.1 x.2.1 x.2.2 yb ye)) else (aQ.j1 k x3 (x.1 == 0) l n i false ((aM l i).f0) ((aM l i).f1) ((aM l i).f2) x.1 x.2.1 x.2.2 yb ye))))) else (none)) else (none)) else (some x3)
def aQ.j1:Nat→List (S58)→Bool→List (S58)→Int→Int→Bool→Int→Int→Int→Int→Int→List (S56)→List (S58)→List (S58)→Option ((List (S58)))
 |0,_,_,_,_,_,_,_,_,_,_,_,_,_,_=>none
 |k + 1,x3,x6,l,n,i,x33,f0,f1,f2,x0,x1,x2,yb,ye=>if x33=true then (if x3.length + yb.length < 1256584717458 then (aQ.l0 k (x3 ++ yb) l n (wrap64 (i + 1))) else (none)) else (if f0=2 then (aQ.j2 k x3 x6 l n i x6 f0 f1 f2 x0 x1 x2 yb ye) else (aQ.j2 k x3 x6 l n i false f0 f1 f2 x0 x1 x2 yb ye))
def aQ.j2:Nat→List (S58)→Bool→List (S58)→Int→Int→Bool→Int→Int→Int→Int→Int→List (S56)→List (S58)→List (S58)→Option ((List (S58)))
 |0,_,_,_,_,_,_,_,_,_,_,_,_,_,_=>none
 |k + 1,x3,x6,l,n,i,x50,f0,f1,f2,x0,x1,x2,yb,ye=>if x50=true then (if x3.length + ye.length < 1256584717458 then (aQ.l0 k (x3 ++ ye) l n (wrap64 (i + 1))) else (none)) else (if f0=3 then (if x6=true then (if x1=0 then (aQ.l0 k x3 l n (wrap64 (i + 1))) else (if x3.length < 1256584717458 then (aQ.l0 k (x3 ++ [(⟨f0,f1,f2,(⟨x0,x1,x2⟩:S56),yb,ye⟩:S58)]) l n (wrap64 (i + 1))) else (none))) else (if x3.length < 1256584717458 then (aQ.l0 k (x3 ++ [(⟨f0,f1,f2,(⟨x0,x1,x2⟩:S56),yb,ye⟩:S58)]) l n (wrap64 (i + 1))) else (none))) else (if x3.length < 1256584717458 then (aQ.l0 k (x3 ++ [(⟨f0,f1,f2,(⟨x0,x1,x2⟩:S56),yb,ye⟩:S58)]) l n (wrap64 (i + 1))) else (none)))
def aQ.f:Nat→List (S58)→Option ((List (S58)))
 |0,_=>none
 |k + 1,l=>aQ.l0 k ([]:List (S58)) l (l.length:Int) 0
end
def bQ.l0:Nat→List (List (S58))→Int→Int→List Int→List (List (S58))→Option (List Int × (List (List (S58))) × Bool)
 |0,_,_,_,_,_=>none
 |k + 1,x16,x17,x18,x1123000,x1123001=>if x18 < x17 then (if 0≤x18 then (if x18 < (x16.length:Int) then ((aQ.f k (gB x16 x18)).bind fun t1124=>(if x1123001.length < 5864062014805 then (bQ.l0 k x16 x17 (wrap64 (x18 + 1)) x1123000 (x1123001 ++ [t1124])) else (none))) else (none)) else (none)) else (some (x1123000,x1123001,true))
def bQ.f (k:Nat) (l0_0:List Int) (l0_1:List (List (S58))):Option (List Int × (List (List (S58))) × Bool):=(bE.f k l0_0 l0_1).bind fun t1118=>(if t1118=true then ((kI.f l0_0).bind fun t1119=>(bQ.l0 k l0_1 (l0_1.length:Int) 0 t1119 ([]:List (List (S58))))) else (some (([]:List Int),([]:List (List (S58))),false)))
def dB.j0:Nat→ByteArray→ByteArray→Bool→List Int→List (List (S58))→Option (Bool)
 |0,_,_,_,_,_=>none
 |k + 1,x4,x5,x24,x1137000,x1137001=>if x24=true then (some (x4.toList == x5.toList)) else ((bQ.f k x1137000 x1137001).bind fun bt1139=>((bC.f k bt1139.1 bt1139.2.1).bind fun t1147=>(if bt1139.2.2=true then (if t1147.toList=([]:List UInt8) then (some false) else (some (decide ((t1147.size:Int)≤(x4.size:Int))))) else (some false))))
def dB.f (k:Nat) (l0:List Int):Option (Bool):=if (l0.length:Int) > 1048576 then (some true) else ((fM.f k l0).bind fun bt1130=>((bC.f k bt1130.1 bt1130.2).bind fun t1137=>((bF.f k bt1130.1 bt1130.2).bind fun t1138=>(if t1137.toList=t1138.toList then (dB.j0 k t1137 t1138 (t1137.toList == ([]:List UInt8)) bt1130.1 bt1130.2) else (dB.j0 k t1137 t1138 true bt1130.1 bt1130.2)))))
def rP.j0:Nat→ByteArray→ByteArray→Bool→List Int→List (List (S58))→Option (Bool)
 |0,_,_,_,_,_=>none
 |k + 1,x4,x5,x23,x1155000,x1155001=>if x23=true then (some (x4.toList == x5.toList)) else ((nL.f k x4).bind fun bt1157=>(if bt1157.2=true then ((kH.f k bt1157.1 (⟨#[116,97,115,107]⟩:ByteArray)).bind fun t1161=>(if t1161=(x1155001.length:Int) then ((kH.f k bt1157.1 (⟨#[98,111,120]⟩:ByteArray)).bind fun t1162=>(if t1162=(x1155000.length:Int) then ((kH.f k bt1157.1 (⟨#[123]⟩:ByteArray)).bind fun t1163=>((kH.f k bt1157.1 (⟨#[125]⟩:ByteArray)).bind fun t1164=>(some (t1163 == t1164)))) else (some false))) else (some false))) else (some false)))
def rP.f (k:Nat) (l0:List Int):Option (Bool):=if (l0.length:Int) > 1048576 then (some true) else ((fM.f k l0).bind fun bt1148=>((bC.f k bt1148.1 bt1148.2).bind fun t1155=>((bF.f k bt1148.1 bt1148.2).bind fun t1156=>(if t1155.toList=t1156.toList then (rP.j0 k t1155 t1156 (t1155.toList == ([]:List UInt8)) bt1148.1 bt1148.2) else (rP.j0 k t1155 t1156 true bt1148.1 bt1148.2)))))
theorem pF.calls (a0:Bool) (r:Int) (w:World) (h:pF.f a0=some r):
  Calls Tryz.prog 105 #[.bool a0] w fun e w'=>e= .returned (.int .i64 r)∧gX w w':=by
 have H:(if a0=true then (some 1) else (some 0))=some r:=h;clear h;by_cases c2:a0=true
 ·subst c2;rw [if_pos rfl] at H;obtain rfl:=oI H;go_enter Tryz.func105,Tryz.ntmps105;go_wp2;go_ret;exact ⟨sd_,fG⟩
 replace c2:=Bool.eq_false_iff.mpr c2;subst c2;rw [if_neg Bool.false_ne_true] at H;obtain rfl:=oI H;go_enter Tryz.func105,Tryz.ntmps105;go_wp2;go_ret;exact ⟨sd_,fG⟩
theorem lV.calls (a0:Int) (r:Int) (w:World) (h:lV.f a0=some r):
  Calls Tryz.prog 106 #[.int .i64 a0] w fun e w'=>e= .returned (.int .i64 r)∧gX w w':=by
 have H:(some (wrap64 (wrap32 (a0))))=some r:=h;clear h;obtain rfl:=oI H;go_enter Tryz.func106,Tryz.ntmps106;go_wp2;go_ret;exact ⟨sd_,fG⟩
theorem lW.calls (a0:Int) (a1:Int) (a2:Int) (r:Int) (w:World) (h:lW.f a0 a1 a2=some r):
  Calls Tryz.prog 81 #[.int .i64 a0,.int .i64 a1,.int .i64 a2] w fun e w'=>e= .returned (.int .i64 r)∧gX w w':=by
 unfold lW.f at h;have H:=h;clear h;by_cases c4:a0=1
 ·rw [if_pos c4] at H;have jt:(a0 == 1)=true:=beq_iff_eq.mpr c4;have ju:(a0 != 1)=false:=bF c4;clear c4;obtain rfl:=oI H;go_enter Tryz.func81,Tryz.ntmps81;go_wp2;go_ret;exact ⟨sd_,fG⟩
 rw [if_neg c4] at H;have jt:(a0 == 1)=false:=bE c4;have ju:(a0 != 1)=true:=bne_iff_ne.mpr c4;by_cases c5:a0=2
 ·rw [if_pos c5] at H;have jv:(a0 == 2)=true:=beq_iff_eq.mpr c5;have jw:(a0 != 2)=false:=bF c5;clear c5;obtain rfl:=oI H;go_enter Tryz.func81,Tryz.ntmps81;go_wp2;go_ret;exact ⟨sd_,fG⟩
 rw [if_neg c5] at H;have jv:(a0 == 2)=false:=bE c5;have jw:(a0 != 2)=true:=bne_iff_ne.mpr c5;by_cases c6:a0=3
 ·rw [if_pos c6] at H;have jx:(a0 == 3)=true:=beq_iff_eq.mpr c6;have jy:(a0 != 3)=false:=bF c6;clear c6;obtain rfl:=oI H;go_enter Tryz.func81,Tryz.ntmps81;go_wp2;go_ret;exact ⟨sd_,fG⟩
 rw [if_neg c6] at H;have jx:(a0 == 3)=false:=bE c6;have jy:(a0 != 3)=true:=bne_iff_ne.mpr c6;by_cases c7:a0=4
 ·rw [if_pos c7] at H;have jz:(a0 == 4)=true:=beq_iff_eq.mpr c7;have jA:(a0 != 4)=false:=bF c7;clear c7;obtain ⟨jN,A8,H⟩:=bsa H;(try dsimp only at H);obtain rfl:=oI H;go_enter Tryz.func81,Tryz.ntmps81;go_wp2_with (first|((with_reducible refine gC 105 rfl ?_);refine gl_ 28 Tryz.func105 #[.bool (a1 == a2)] ?_;(with_reducible refine (pF.calls (a1 == a2) jN _ A8.out).mono ?_);rintro e w' ⟨rfl,⟨nd,rfl⟩⟩;refine ⟨_,rfl,?_⟩));go_ret;exact ⟨sd_,fG⟩
 rw [if_neg c7] at H;have jz:(a0 == 4)=false:=bE c7;have jA:(a0 != 4)=true:=bne_iff_ne.mpr c7;by_cases c9:a0=5
 ·rw [if_pos c9] at H;have jB:(a0 == 5)=true:=beq_iff_eq.mpr c9;have jC:(a0 != 5)=false:=bF c9;clear c9;obtain ⟨jO,jE,H⟩:=bsm H;(try dsimp only at H);have jP:=am jE;clear jE;obtain rfl:=oI H;go_enter Tryz.func81,Tryz.ntmps81;go_wp2_with (first|((with_reducible refine gC 105 rfl ?_);refine gl_ 34 Tryz.func105 #[.bool (decide (a1 < a2))] ?_;(with_reducible refine (pF.calls (decide (a1 < a2)) jO _ jP.out).mono ?_);rintro e w' ⟨rfl,⟨nd,rfl⟩⟩;refine ⟨_,rfl,?_⟩));go_ret;exact ⟨sd_,fG⟩
 rw [if_neg c9] at H;have jB:(a0 == 5)=false:=bE c9;have jC:(a0 != 5)=true:=bne_iff_ne.mpr c9;by_cases j3:a0=6
 ·rw [if_pos j3] at H;have jb:(a0 == 6)=true:=beq_iff_eq.mpr j3;have jc:(a0 != 6)=false:=bF j3;clear j3;by_cases jd:0≤(Go.bits .and .i64 a2 31)
  ·rw [if_pos jd] at H;have jF:=eq_true jd;have jG:decide (0≤(Go.bits .and .i64 a2 31))=true:=dT jd;clear jd;obtain ⟨ji13,hji13⟩:∃ j_:Int,(shl .i64 a1 (Go.bits .and .i64 a2 31))=j_:=⟨_,rfl⟩;replace H:((lV.f (ji13)).bind fun jD=>(some jD))=some r:=by first|(rw [hji13] at H;exact H)|(simp only [hji13] at H ⊢;exact H)
   have hji13_:(IntKind.i64.wrap (a1 * 2 ^ min (Go.bits .and .i64 a2 31).toNat 64))=ji13:=hji13;have hji13z:(Go.bits .and .i64 a2 31)≤64→(IntKind.i64.wrap (a1 * 2 ^ (Go.bits .and .i64 a2 31).toNat))=ji13:=aEf hji13;have hji13y:(wrap64 (a1 * 2 ^ min (Go.bits .and .i64 a2 31).toNat 64))=ji13:=(fA _).symm.trans hji13_;have hji13x:(Go.bits .and .i64 a2 31)≤64→(wrap64 (a1 * 2 ^ (Go.bits .and .i64 a2 31).toNat))=ji13:=fun h_=>(fA _).symm.trans (hji13z h_)
   obtain ⟨jD,jH,H⟩:=bsm H;(try dsimp only at H);have jQ:=am jH;clear jH;obtain rfl:=oI H;go_enter Tryz.func81,Tryz.ntmps81;go_wp2_with (first|((with_reducible refine gC 106 rfl ?_);refine wN (some 41) rfl rfl Tryz.func106 (by kernel_rfl) rfl #[.int .i64 ji13] rfl (by (try simp only [List.map_toArray,List.map_cons,List.map_nil]);first|done|(simp only [hji13];rfl)|rfl|(simp only [List.length_drop,List.length_take];rfl)) ?_;(with_reducible refine (lV.calls ji13 jD _ jQ.out).mono ?_);rintro e w' ⟨rfl,⟨nd,rfl⟩⟩;refine ⟨_,rfl,?_⟩));go_ret;exact ⟨by first|rfl|(simp;done)|(simp only [← hji13] <;> (first|rfl|simp))|(simp [*];done),fG⟩
  rw [if_neg jd] at H;cases H
 rw [if_neg j3] at H;have jb:(a0 == 6)=false:=bE j3;have jc:(a0 != 6)=true:=bne_iff_ne.mpr j3;by_cases j4:a0=7
 ·rw [if_pos j4] at H;have je:(a0 == 7)=true:=beq_iff_eq.mpr j4;have jf:(a0 != 7)=false:=bF j4;clear j4;by_cases jg:0≤(Go.bits .and .i64 a2 31)
  ·rw [if_pos jg] at H;have jI:=eq_true jg;have jJ:decide (0≤(Go.bits .and .i64 a2 31))=true:=dT jg;clear jg;obtain ⟨ji17,hji17⟩:∃ j_:Int,(shr .i64 a1 (Go.bits .and .i64 a2 31))=j_:=⟨_,rfl⟩;replace H:(some ji17)=some r:=by first|(rw [hji17] at H;exact H)|(simp only [hji17] at H ⊢;exact H)
   have hji17_:(a1 / 2 ^ min (Go.bits .and .i64 a2 31).toNat 64)=ji17:=hji17;have hji17z:(Go.bits .and .i64 a2 31)≤64→(a1 / 2 ^ (Go.bits .and .i64 a2 31).toNat)=ji17:=aEg hji17;obtain rfl:=oI H;go_enter Tryz.func81,Tryz.ntmps81;go_wp2;go_ret;exact ⟨by first|rfl|(simp;done)|(simp only [← hji17] <;> (first|rfl|simp))|(simp [*];done),fG⟩
  rw [if_neg jg] at H;cases H
 rw [if_neg j4] at H;have je:(a0 == 7)=false:=bE j4;have jf:(a0 != 7)=true:=bne_iff_ne.mpr j4;by_cases j5:a0=8
 ·rw [if_pos j5] at H;have jh:(a0 == 8)=true:=beq_iff_eq.mpr j5;have ji:(a0 != 8)=false:=bF j5;clear j5;obtain ⟨jR,jS,H⟩:=bsa H;(try dsimp only at H);obtain rfl:=oI H;go_enter Tryz.func81,Tryz.ntmps81;go_wp2_with (first|((with_reducible refine gC 106 rfl ?_);refine gl_ 53 Tryz.func106 #[.int .i64 (wrap64 (a1 + a2))] ?_;(with_reducible refine (lV.calls (wrap64 (a1 + a2)) jR _ jS.out).mono ?_);rintro e w' ⟨rfl,⟨nd,rfl⟩⟩;refine ⟨_,rfl,?_⟩));go_ret;exact ⟨sd_,fG⟩
 rw [if_neg j5] at H;have jh:(a0 == 8)=false:=bE j5;have ji:(a0 != 8)=true:=bne_iff_ne.mpr j5;by_cases j6:a0=9
 ·rw [if_pos j6] at H;have jj:(a0 == 9)=true:=beq_iff_eq.mpr j6;have jk:(a0 != 9)=false:=bF j6;clear j6;obtain ⟨jT,jK,H⟩:=bsm H;(try dsimp only at H);have jU:=am jK;clear jK;obtain rfl:=oI H;go_enter Tryz.func81,Tryz.ntmps81;go_wp2_with (first|((with_reducible refine gC 106 rfl ?_);refine gl_ 59 Tryz.func106 #[.int .i64 (wrap64 (a1 - a2))] ?_;(with_reducible refine (lV.calls (wrap64 (a1 - a2)) jT _ jU.out).mono ?_);rintro e w' ⟨rfl,⟨nd,rfl⟩⟩;refine ⟨_,rfl,?_⟩));go_ret;exact ⟨sd_,fG⟩
 rw [if_neg j6] at H;have jj:(a0 == 9)=false:=bE j6;have jk:(a0 != 9)=true:=bne_iff_ne.mpr j6;by_cases j7:a0=10
 ·rw [if_pos j7] at H;have jl:(a0 == 10)=true:=beq_iff_eq.mpr j7;have jm:(a0 != 10)=false:=bF j7;clear j7;obtain ⟨jV,jL,H⟩:=bsm H;(try dsimp only at H);have jW:=am jL;clear jL;obtain rfl:=oI H;go_enter Tryz.func81,Tryz.ntmps81;go_wp2_with (first|((with_reducible refine gC 106 rfl ?_);refine gl_ 65 Tryz.func106 #[.int .i64 (wrap64 (a1 * a2))] ?_;(with_reducible refine (lV.calls (wrap64 (a1 * a2)) jV _ jW.out).mono ?_);rintro e w' ⟨rfl,⟨nd,rfl⟩⟩;refine ⟨_,rfl,?_⟩));go_ret;exact ⟨sd_,fG⟩
 rw [if_neg j7] at H;have jl:(a0 == 10)=false:=bE j7;have jm:(a0 != 10)=true:=bne_iff_ne.mpr j7;by_cases j8:a0=11
 ·rw [if_pos j8] at H;have jn:(a0 == 11)=true:=beq_iff_eq.mpr j8;have jo:(a0 != 11)=false:=bF j8;clear j8;by_cases j9:a2=0
  ·rw [if_pos j9] at H;have jp:(a2 == 0)=true:=beq_iff_eq.mpr j9;have jq:(a2 != 0)=false:=bF j9;clear j9;obtain rfl:=oI H;go_enter Tryz.func81,Tryz.ntmps81;go_wp2;go_ret;exact ⟨sd_,fG⟩
  rw [if_neg j9] at H;have jp:(a2 == 0)=false:=bE j9;have jq:(a2 != 0)=true:=bne_iff_ne.mpr j9;obtain ⟨jX,jM,H⟩:=bsm H;(try dsimp only at H);have jY:=am jM;clear jM;obtain rfl:=oI H;go_enter Tryz.func81,Tryz.ntmps81;go_wp2_with (first|((with_reducible refine gC 106 rfl ?_);refine gl_ 73 Tryz.func106 #[.int .i64 (wrap64 (Int.tdiv a1 a2))] ?_;(with_reducible refine (lV.calls (wrap64 (Int.tdiv a1 a2)) jX _ jY.out).mono ?_);rintro e w' ⟨rfl,⟨nd,rfl⟩⟩;refine ⟨_,rfl,?_⟩));go_ret;exact ⟨sd_,fG⟩
 rw [if_neg j8] at H;have jn:(a0 == 11)=false:=bE j8;have jo:(a0 != 11)=true:=bne_iff_ne.mpr j8;by_cases ja:a2=0
 ·rw [if_pos ja] at H;have jr:(a2 == 0)=true:=beq_iff_eq.mpr ja;have js:(a2 != 0)=false:=bF ja;clear ja;obtain rfl:=oI H;go_enter Tryz.func81,Tryz.ntmps81;go_wp2;go_ret;exact ⟨sd_,fG⟩
 rw [if_neg ja] at H;have jr:(a2 == 0)=false:=bE ja;have js:(a2 != 0)=true:=bne_iff_ne.mpr ja;obtain rfl:=oI H;go_enter Tryz.func81,Tryz.ntmps81;go_wp2;go_ret;exact ⟨sd_,fG⟩
theorem cK.mono_l:∀ k,(∀ y0 y1 y2,LeO (cK.f k y0 y1 y2) (cK.f (k + 1) y0 y1 y2))∧(∀ y0 y1 y2 y3 y4 y5 y6 y7 y8 y9,LeO (cK.j0 k y0 y1 y2 y3 y4 y5 y6 y7 y8 y9) (cK.j0 (k + 1) y0 y1 y2 y3 y4 y5 y6 y7 y8 y9))
 |0=>⟨fun _ _ _ r h=>by simp [cK.f] at h,fun _ _ _ _ _ _ _ _ _ _ r h=>by simp [cK.j0] at h⟩
 |k + 1=>by
  obtain ⟨ih0,ih1⟩:=cK.mono_l k;refine ⟨?_,?_⟩
  ·intro y0 y1 y2;unfold cK.f;exact mo_
  ·intro y0 y1 y2 y3 y4 y5 y6 y7 y8 y9;unfold cK.j0;exact mo_
theorem cK.mono:∀ a0 a1 a2 k,LeO (cK.f k a0 a1 a2) (cK.f (k + 1) a0 a1 a2):=by
 intro a0 a1 a2 k;obtain ⟨ih0,ih1⟩:=cK.mono_l k;exact ih0 a0 a1 a2
def aEm (d:Kd S56):Kd S56:=Kd.iso (Kd.pair (Kd.int .i64) (Kd.pair (Kd.int .i64) (NJ 56 d))) (fun x:S56=>(x.f0,x.f1,x.f2))
theorem monoS56:Kd.uG aEm:=Kd.mono_iso _ (Kd.mono_pair (Kd.mono_const _) (Kd.mono_pair (Kd.mono_const _) (mono_sliceS 56 Kd.mono_id)))
theorem aKf:Kd.Sub aEm [56]:=Kd.LG _ (Kd.oI (Kd.sub_const _ (by decide)) (Kd.oI (Kd.sub_const _ (by decide)) (DV 56 (by decide) Kd.GK)))
theorem aJc:∀ n,(Kd.upto aEm 3 [56] n).sz=3:=Kd.LH (fun _=>rfl)
def ES:Kd S56:=Kd.fix aEm 3 [56] aJc (Kd.NP aKf)
theorem sQ (w:World) (base:Nat) (ok:Nat→Prop) (x:S56) {v2:Value} (g2:Kd.S ES 56 w base ok v2 x.f2):ES.M w base ok x [.int .i64 x.f0,.int .i64 x.f1,v2]:=by
 obtain ⟨n2,r2⟩:=CU monoS56 g2;exact ⟨n2 + 1,⟨[.int .i64 x.f0],[.int .i64 x.f1,v2],rfl,rfl,⟨[.int .i64 x.f1],[v2],rfl,rfl,⟨v2,rfl,r2⟩⟩⟩⟩
theorem MP:∀ n {w base ok x cs},(Kd.upto aEm 3 [56] n).M w base ok x cs→(Kd.upto F56 3 [56] n).M w base ok x cs
 |0,_,_,_,_,_,h=>h.elim
 |n + 1,w,base,ok,x,cs,h=>by
  obtain ⟨_,_,rfl,rfl,⟨_,_,rfl,rfl,⟨v2,rfl,g2⟩⟩⟩:=h;exact ⟨_,_,rfl,rfl,⟨_,_,rfl,rfl,⟨v2,rfl,Kd.LX (by rw [aJc n,aKh n]) (fun _ _ _ _ _ hp=>MP n hp) (Kd.S_R g2)⟩⟩⟩
theorem aJy {w:World} {base:Nat} {ok:Nat→Prop} {v:Value} {xs:List S56} (h:Kd.S ES 56 w base ok v xs):k56.R 56 w base ok v xs:=
 Kd.LX (d:=ES) (d':=k56) rfl (fun w base ok x cs hp=>by obtain ⟨n,hp⟩:=hp;exact ⟨n,MP n hp⟩) (Kd.S_R h)
structure FXF (w W0:World) (x0 x1:Int) (x2:List S56) (y0 y1:Int) (y2:List S56) (A19:Option Addr) (c19:Nat) (A24:Option Addr) (c24:Nat) (g3 g4 hA:Nat) (b4 b9 b10 b11 b12 b13:Bool) (W:World):Prop where
 hB:Below W0.heap.size W0 W
 hA_:b4=true→hA≤W.heap.size
 h4:b4=true→Kd.S ES 56 W W0.heap.size (fun q=>q < hA∧(b10=true→q≠g3)∧(b11=true→q≠g4)) (.slice A19 x2.length c19) x2
 h9:b9=true→Kd.S ES 56 W W0.heap.size (fun q=>hA≤q∧(b10=true→q≠g3)∧(b11=true→q≠g4)) (.slice A24 y2.length c24) y2
 h10:b10=true→W0.heap.size≤g3∧W.heap[g3]?=some (.cells (cond b12 #[(.int .i64 x0),(.int .i64 x1),(.slice A19 x2.length c19)] #[(.int .i64 0),(.int .i64 0),(.slice none 0 0)]) 56 (0,0))
 h11:b11=true→W0.heap.size≤g4∧W.heap[g4]?=some (.cells (cond b13 #[(.int .i64 y0),(.int .i64 y1),(.slice A24 y2.length c24)] #[(.int .i64 0),(.int .i64 0),(.slice none 0 0)]) 56 (0,0))
 hne:b10=true→b11=true→g3≠g4
def aXF (w W0:World) (g1 g2:Nat) (a0 a1:Int) (ad:Addr) (c0:Nat) (l:List S56) (p0 p1:Int) (Ap:Option Addr) (cp:Nat) (p2:List S56) (q0 q1:Int) (Aq:Option Addr) (cq:Nat) (q2:List S56) (x0 x1:Int) (x2:List S56) (y0 y1:Int) (y2:List S56) (A19:Option Addr) (c19:Nat) (A24:Option Addr) (c24:Nat) (g3:Nat) (g4:Nat) (hA:Nat) (b0 b1 b2 b3 b4 b5 b6 b7 b8 b9 b10 b11 b12 b13:Bool):Act:=
 { tmps:=#[(.agg #[(.int .i64 a0),(.int .i64 a1),(.slice (some ad) l.length c0)]),(.pointer (some ⟨g1,0,none⟩)),(.pointer (some ⟨g2,0,none⟩)),cond b10 (.pointer (some ⟨g3,0,none⟩)) undef,cond b11 (.pointer (some ⟨g4,0,none⟩)) undef,undef,(.pointer (some ⟨g1,2,none⟩)),(.slice (some ad) l.length c0),(.int .i64 (l.length:Int)),(.bool false),undef,undef,undef,undef,undef,cond b0 (.pointer (some ⟨g1,2,none⟩)) undef,cond b1 (.slice (some ad) l.length c0) undef,cond b2 (.pointer (some ad)) undef,cond b3 (.agg #[(.int .i64 p0),(.int .i64 p1),(.slice Ap p2.length cp)]) undef,cond b4 (.agg #[(.int .i64 x0),(.int .i64 x1),(.slice A19 x2.length c19)]) undef,cond b5 (.pointer (some ⟨g1,2,none⟩)) undef,cond b6 (.slice (some ad) l.length c0) undef,cond b7 (.pointer (some ⟨ad.block,ad.off + 3,none⟩)) undef,cond b8 (.agg #[(.int .i64 q0),(.int .i64 q1),(.slice Aq q2.length cq)]) undef,cond b9 (.agg #[(.int .i64 y0),(.int .i64 y1),(.slice A24 y2.length c24)]) undef,undef,undef,undef,undef,undef,undef,undef,undef,undef,undef,undef,undef,undef,undef,undef,undef,undef,undef,undef,undef,undef,undef,undef,undef,undef,undef,undef,undef,undef],defers:=[] }
def LXF (w W0:World) (g1 g2:Nat) (a0 a1:Int) (ad:Addr) (c0:Nat) (l:List S56) (p0 p1:Int) (Ap:Option Addr) (cp:Nat) (p2:List S56) (q0 q1:Int) (Aq:Option Addr) (cq:Nat) (q2:List S56) (x0 x1:Int) (x2:List S56) (y0 y1:Int) (y2:List S56) (b0 b1 b2 b3 b4 b5 b6 b7 b8 b9 b10 b11 b12 b13:Bool) (a:Act) (W:World):Prop:=
 ∃ (A19:Option Addr) (c19:Nat) (A24:Option Addr) (c24:Nat) (g3:Nat) (g4:Nat) (hA:Nat),a=aXF w W0 g1 g2 a0 a1 ad c0 l p0 p1 Ap cp p2 q0 q1 Aq cq q2 x0 x1 x2 y0 y1 y2 A19 c19 A24 c24 g3 g4 hA b0 b1 b2 b3 b4 b5 b6 b7 b8 b9 b10 b11 b12 b13∧FXF w W0 x0 x1 x2 y0 y1 y2 A19 c19 A24 c24 g3 g4 hA b4 b9 b10 b11 b12 b13 W
theorem cK.tail {k:Nat} {a0 a1:Int} {l:List S56} {x0 x1:Int} {x2:List S56} {y0 y1:Int} {y2:List S56} {r1 r2:Int} {r3:List S56} (h:(if x0=0 then cK.j0 k (y0 == 0) a0 a1 l x0 x1 x2 y0 y1 y2 else cK.j0 k false a0 a1 l x0 x1 x2 y0 y1 y2)=some (r1,r2,r3)):
  (x0=0∧y0=0∧∃ n,lW.f a0 x1 y1=some n∧((0≤n∧n≤99999∧(0,n,([]:List S56))=(r1,r2,r3))∨(¬ (0≤n∧n≤99999)∧(a0,0,[(⟨x0,x1,x2⟩:S56),⟨y0,y1,y2⟩])=(r1,r2,r3))))∨(¬ (x0=0∧y0=0)∧(a0,0,[(⟨x0,x1,x2⟩:S56),⟨y0,y1,y2⟩])=(r1,r2,r3)):=by
 cases k with
 |zero=>revert h;split <;> simp [cK.j0]
 |succ k=>
  simp only [cK.j0] at h;by_cases h0:x0=0
  ·rw [if_pos h0] at h;by_cases h1:y0=0
   ·rw [if_pos (beq_iff_eq.mpr h1)] at h;obtain ⟨n,hn,h⟩:=Option.bind_eq_some_iff.mp h;refine .inl ⟨h0,h1,n,hn,?_⟩;by_cases h2:n≥0
    ·rw [if_pos h2] at h;by_cases h3:n≤99999
     ·rw [if_pos h3] at h;exact .inl ⟨h2,h3,oI h⟩
     rw [if_neg h3] at h;exact .inr ⟨fun e=>h3 e.2,oI h⟩
    rw [if_neg h2] at h;exact .inr ⟨fun e=>h2 e.1,oI h⟩
   rw [if_neg (fun e=>h1 (beq_iff_eq.mp e))] at h;exact .inr ⟨fun e=>h1 e.2,oI h⟩
  rw [if_neg h0,if_neg Bool.false_ne_true] at h;exact .inr ⟨fun e=>h0 e.1,oI h⟩
theorem lW.callsB (a b c r:Int) (w:World) (h:lW.f a b c=some r):Calls Tryz.prog 81 #[.int .i64 a,.int .i64 b,.int .i64 c] w fun e w'=>e= .returned (.int .i64 r)∧Below w.heap.size w w':=by
 refine (lW.calls a b c r w h).mono ?_;rintro e w' ⟨rfl,⟨nd,rfl⟩⟩;exact ⟨rfl,aU (Below.refl _ _) nd⟩
theorem gV {w:World} {g:Nat} {o:Obj} {p:Addr} (h:w.heap[g]?=some o) (hne:g≠p.block) (u:Value):(w.setCell p u).heap[g]?=some o:=(Below.heap_setCell w p u g hne).trans h
theorem cK.callsS (k:Nat):∀ (a0 a1:Int) (A0:Option Addr) (c0:Nat) (l:List (S56)) (r1 r2:Int) (r3:List (S56)) (w:World) (hr0:Kd.C k56 w A0 l.length l) (hc0:l.length≤c0) (h:cK.f k a0 a1 l=some (r1,r2,r3)),
  Calls Tryz.prog 58 #[.agg #[.int .i64 a0,.int .i64 a1,.slice A0 l.length c0]] w fun e w'=>∃ v2_:Value,e= .returned (.agg #[.int .i64 r1,.int .i64 r2,v2_])∧Kd.S ES 56 w' w.heap.size (fun q=>w.heap.size≤q) v2_ r3∧Below w.heap.size w w':=by
 induction k using Nat.strongRecOn with
 | _ k ih=>
 intro a0 a1 A0 c0 l r1 r2 r3 w hr0 hc0 h;cases k with
 |zero=>exact absurd h (by simp [cK.f])
 |succ k=>
 simp only [cK.f] at h;have jh:=am hr0;have jk:=am hc0;have HB:=am (Below.refl w.heap.size w);have HH:=am h;clear hr0 hc0 h;go_enter Tryz.func58,Tryz.ntmps58;go_upto_region 1 with (first|((with_reducible refine gD 1 rfl ?_);refine dU (N:=1) rfl rfl (cs:=#[.int .i64 a0,.int .i64 a1,.slice A0 l.length c0]) (t:=56) rn_ ?_;intro g1 hg w2 hbox hb;have B1:=am hbox;have G1:=am (hg:_=_);have ja:=am hb;clear hbox hg hb)|((with_reducible refine gD 2 rfl ?_);refine dU (N:=2) rfl rfl (cs:=#[.int .i64 0,.int .i64 0,.slice none 0 0]) (t:=56) rn_ ?_;intro g2 hg w3 hbox hb;have B2:=am hbox;have G2:=am (hg:_=_);have j9:=am (show w.heap.size≤g2 from Nat.le_trans ja.out.size (Nat.le_of_eq G2.out.symm));replace B1:=am (eP B1.out hb);replace HB:=am (aA ja.out hb);clear hbox hg hb ja)|fail);have z2:w3.cell? ⟨g1,2,none⟩=some (.slice A0 l.length c0):=aG B1.out 2;have h:=HH.out;clear HH;by_cases c2:(l.length:Int)=0
 ·rw [if_pos c2] at h;have jb:((l.length:Int) == 0)=true:=beq_iff_eq.mpr c2;have jc:((l.length:Int) != 0)=false:=bF c2;clear c2;simp only [Option.some.injEq,Prod.mk.injEq] at h;obtain ⟨rfl,rfl,rfl⟩:=h;have z0:w3.cell? ⟨g1,0,none⟩=some (.int .i64 a0):=aG B1.out 0;have z1:w3.cell? ⟨g1,1,none⟩=some (.int .i64 a1):=aG B1.out 1;have u0:w3.cell? ⟨g2,0,none⟩=some (.int .i64 0):=aG B2.out 0;have u1:w3.cell? ⟨g2,1,none⟩=some (.int .i64 0):=aG B2.out 1;have u2:w3.cell? ⟨g2,2,none⟩=some (.slice none 0 0):=aG B2.out 2;have f0:=aZ B2.out 0;have f1:=aZ B2.out 1;have f2:=aZ B2.out 2;go_wp2;refine bodyPost_ret (results_cell_row rfl _ _ g2 56 #[.int .i64 a0,.int .i64 a1,.slice none 0 0] (0,0) _ rfl (aV (aV (aV B2.out 0 _ rfl) 1 _ rfl) 2 _ rfl) Tryz.underlying56 rfl (by kernel_rfl)) rfl ?_;exact ⟨_,rfl,Kd.vH _ _ _ _ _,below_set (below_set (below_set HB.out j9.out) j9.out) j9.out⟩
 rw [if_neg c2] at h;have jb:((l.length:Int) == 0)=false:=bE c2;have jc:((l.length:Int) != 0)=true:=bne_iff_ne.mpr c2;clear c2;by_cases c8:0 < (l.length:Int);case neg=>rw [if_neg c8] at h;cases h
 rw [if_pos c8] at h;replace h:=Option.bind_eq_some_iff.mp h;obtain ⟨⟨x0,x1,x2⟩,h1,h⟩:=h;by_cases c10:1 < (l.length:Int);case neg=>rw [if_neg c10] at h;cases h
 rw [if_pos c10] at h;replace h:=Option.bind_eq_some_iff.mp h;obtain ⟨⟨y0,y1,y2⟩,h2,h⟩:=h;(try dsimp only at h1 h2 h);obtain ⟨ad,Ap,cp,e0,P0,P1,P2,LP,CP⟩:=rM jh.out 0 (by omega) c8;obtain ⟨ad',Aq,cq,e1,Q0,Q1,Q2,LQ,CQ⟩:=rM jh.out 1 (by omega) c10;subst e0;injection e1 with e1;subst e1;rcases hrp:bW l 0 with ⟨p0,p1,p2⟩;rcases hrq:bW l 1 with ⟨q0,q1,q2⟩;rw [hrp] at h1 P0 P1 P2 LP CP;rw [hrq] at h2 Q0 Q1 Q2 LQ CQ;dsimp only at h1 h2 P0 P1 P2 Q0 Q1 Q2 LP LQ CP CQ;have HE1:=am h1;have HE2:=am h2;have HT:=am h;clear h h1 h2 hrp hrq;rw [show ((0:Int)).toNat * 3=0 from rfl,Addr.add_zero'] at P0 P1 P2;rw [show ((1:Int)).toNat * 3=3 from rfl] at Q0 Q1 Q2;simp only [Go.Addr.add,Nat.reduceEqDiff,↓reduceIte] at Q0 Q1 Q2;replace P0:=am P0;replace P1:=am P1;replace P2:=am P2;replace Q0:=am Q0;replace Q1:=am Q1;replace Q2:=am Q2;replace LP:=am LP;replace LQ:=am LQ;replace CP:=am CP;replace CQ:=am CQ;have i0:(0:Int) < (l.length:Int):=c8;have i1:(1:Int) < (l.length:Int):=c10;have i0b:(0 < l.length)=True:=eq_true (by omega);have i1b:(1 < l.length)=True:=eq_true (by omega);have i0c:decide ((0:Int) < (l.length:Int))=true:=dT c8;have i1c:decide ((1:Int) < (l.length:Int))=true:=dT c10;clear c8 c10;go_upto_region 3 with fail;refine wp_region_any (by kernel_rfl) ?_;have b_:=am (bI HB.out);have jd:=am (dA B1.out);have je:=am (dA B2.out);show wpAny _ _ _ _ _ _ _ w3.drew
 clear z2 B1 B2 HB;generalize w3.drew=W0 at b_ jd je ⊢;have HB:=b_;have B1:=jd;have B2:=je;clear b_ jd je;refine EC (n:=14) (T:=(true,[([],[]),([0],[0]),([1],[1]),([2],[2]),([3],[3]),([],[]),([5],[5]),([6],[6]),([7],[7]),([8,4],[8]),([],[]),([],[]),([10,4,9,0,1,2,3,4,10,11],[4,10]),([11,9,12,0,1,2,3,4,5,6,7,8,9,10,11,12],[9,11])])) rfl (by kernel_rfl) (by decide) (fun b a W=>LXF w W0 g1 g2 a0 a1 ad c0 l p0 p1 Ap cp p2 q0 q1 Aq cq q2 x0 x1 x2 y0 y1 y2 (b 0) (b 1) (b 2) (b 3) (b 4) (b 5) (b 6) (b 7) (b 8) (b 9) (b 10) (b 11) (b 12) (b 13) a W) ?hstep ?hdone _ _ ?hstart;case hstart=>exact ⟨none,0,none,0,0,0,0,rfl,⟨Below.refl _ _,(fun e=>Bool.noConfusion e),(fun e=>Bool.noConfusion e),(fun e=>Bool.noConfusion e),(fun e=>Bool.noConfusion e),(fun e=>Bool.noConfusion e),(fun e=>Bool.noConfusion e)⟩⟩
 case hstep=>
  intro i b a W hi hbi hneed hcl hI;have hcase:i=0∨i=1∨i=2∨i=3∨i=4∨i=5∨i=6∨i=7∨i=8∨i=9∨i=10∨i=11∨i=12∨i=13:=by omega
  rcases hcase with rfl|rfl|rfl|rfl|rfl|rfl|rfl|rfl|rfl|rfl|rfl|rfl|rfl|rfl
  ·
   have z1:=zq hcl 1 0 hbi;have z2:=zq hcl 2 1 z1;have z3:=zq hcl 3 2 z2;have z4:=zq hcl 4 3 z3;have z9:=zq hcl 9 4 z4;have j8:=zq hcl 12 4 z4;have j7:=zq hcl 13 0 hbi;simp only [hbi,z1,z2,z3,z4,z9,j8,j7] at hI;obtain ⟨j3,j4,j5,j6,g3,g4,hA,rfl,h⟩:=hI;refine wpOp_step rfl (fun K' hK'=>?_);simp (decide:=true) only [if_true,if_false,reduceIte,z1,z2,z3,z4,z9,j8,j7] at hK';refine fH (W:=W) (w1:=W) (v:=?_) (by rfl) ?_ ?_;rotate_left
   ·(try simp only [aXF,cond_true,cond_false]);go_simp;first|with_reducible rfl|rfl
   refine hK' _ _ (⟨j3,j4,j5,j6,g3,g4,hA,?_,h⟩);show Act.put _ (some 15) _=_
   simp only [aXF,Act.put,sA,sB,sC,fA,fE];rfl
  ·
   have hn_:=hneed _ rfl;have n0:=hn_ 0 (by decide);have z2:=zq hcl 2 1 hbi;have z3:=zq hcl 3 2 z2;have z4:=zq hcl 4 3 z3;have z9:=zq hcl 9 4 z4;have j8:=zq hcl 12 4 z4;have j7:=zq hcl 13 1 hbi;simp only [hbi,n0,z2,z3,z4,z9,j8,j7] at hI;obtain ⟨j3,j4,j5,j6,g3,g4,hA,rfl,h⟩:=hI;refine wpOp_step rfl (fun K' hK'=>?_);simp (decide:=true) only [if_true,if_false,reduceIte,n0,z2,z3,z4,z9,j8,j7] at hK';have jf:=eP B1.out h.hB;have z2:W.cell? ⟨g1,2,none⟩=some (.slice (some ad) l.length c0):=aG jf 2;refine fH (W:=W) (w1:=W) (v:=?_) (by rfl) ?_ ?_;rotate_left
   ·(try simp only [aXF,cond_true,cond_false]);go_simp;first|with_reducible rfl|rfl
   refine hK' _ _ (⟨j3,j4,j5,j6,g3,g4,hA,?_,h⟩);show Act.put _ (some 16) _=_
   simp only [aXF,Act.put,sA,sB,sC,fA,fE];rfl
  ·
   have hn_:=hneed _ rfl;have n1:=hn_ 1 (by decide);have n0:=nq hcl 1 0 n1;have z3:=zq hcl 3 2 hbi;have z4:=zq hcl 4 3 z3;have z9:=zq hcl 9 4 z4;have j8:=zq hcl 12 4 z4;have j7:=zq hcl 13 2 hbi;simp only [hbi,n0,n1,z3,z4,z9,j8,j7] at hI;obtain ⟨j3,j4,j5,j6,g3,g4,hA,rfl,h⟩:=hI;refine wpOp_step rfl (fun K' hK'=>?_);simp (decide:=true) only [if_true,if_false,reduceIte,n0,n1,z3,z4,z9,j8,j7] at hK';refine fH (W:=W) (w1:=W) (v:=(.pointer (some ad))) (by rfl) ?_ ?_
   ·(try simp only [aXF,cond_true,cond_false]);go_simp;(try rfl)
   refine hK' _ _ (⟨j3,j4,j5,j6,g3,g4,hA,?_,h⟩);show Act.put _ (some 17) _=_
   simp only [aXF,Act.put,sA,sB,sC,fA,fE];rfl
  ·
   have hn_:=hneed _ rfl;have n2:=hn_ 2 (by decide);have n1:=nq hcl 2 1 n2;have n0:=nq hcl 1 0 n1;have z4:=zq hcl 4 3 hbi;have z9:=zq hcl 9 4 z4;have j8:=zq hcl 12 4 z4;have j7:=zq hcl 13 3 hbi;simp only [hbi,n0,n1,n2,z4,z9,j8,j7] at hI;obtain ⟨j3,j4,j5,j6,g3,g4,hA,rfl,h⟩:=hI;refine wpOp_step rfl (fun K' hK'=>?_);simp (decide:=true) only [if_true,if_false,reduceIte,n0,n1,n2,z4,z9,j8,j7] at hK';have z0:W.cell? ad=some (.int .i64 p0):=((aA HB.out h.hB).cell (World.block_lt_of_cell? w _ P0.out)).trans P0.out;have z1:W.cell? ⟨ad.block,ad.off + 1,none⟩=some (.int .i64 p1):=((aA HB.out h.hB).cell (World.block_lt_of_cell? w _ P1.out)).trans P1.out;have z2:W.cell? ⟨ad.block,ad.off + 2,none⟩=some (.slice Ap p2.length cp):=((aA HB.out h.hB).cell (World.block_lt_of_cell? w _ P2.out)).trans P2.out;refine fH (W:=W) (w1:=W) (v:=(.agg #[(.int .i64 p0),(.int .i64 p1),(.slice Ap p2.length cp)])) (by rfl) ?_ ?_
   ·(try simp only [aXF,cond_true,cond_false]);go_simp;(try rfl)
   refine hK' _ _ (⟨j3,j4,j5,j6,g3,g4,hA,?_,h⟩);show Act.put _ (some 18) _=_
   simp only [aXF,Act.put,sA,sB,sC,fA,fE];rfl
  ·
   have hn_:=hneed _ rfl;have n3:=hn_ 3 (by decide);have n2:=nq hcl 3 2 n3;have n1:=nq hcl 2 1 n2;have n0:=nq hcl 1 0 n1;have z9:=zq hcl 9 4 hbi;have j8:=zq hcl 12 4 hbi;have j7:=zq hcl 13 4 hbi;simp only [hbi,n0,n1,n2,n3,z9,j8,j7] at hI;obtain ⟨j3,j4,j5,j6,g3,g4,hA,rfl,h⟩:=hI;refine wpOp_step rfl (fun K' hK'=>?_);simp (decide:=true) only [if_true,if_false,reduceIte,n0,n1,n2,n3,z9,j8,j7] at hK';refine iI Tryz.func58 (by kernel_rfl) rfl #[(.agg #[(.int .i64 p0),(.int .i64 p1),(.slice Ap p2.length cp)])] (by rfl) rfl rfl cv_ ?_;refine (ih k (Nat.lt_succ_self k) _ _ _ _ _ x0 x1 x2 _ (Kd.aX CP.out (aA HB.out h.hB)) LP.out HE1.out).mono ?_;rintro e W' ⟨v,rfl,hn,hb⟩;obtain ⟨B_,d_,rfl⟩:=Kd.sF hn;have hlt:=h.hB.size;have hle:=hb.size;have jg:=Kd.oC hn;refine ⟨_,rfl,hK' _ _ (⟨B_,d_,j5,j6,g3,g4,W'.heap.size,?_,⟨aA h.hB hb,fun _=>Nat.le_refl _,fun _=>Kd.kE (Kd.wC jg hlt) (fun q hq=>⟨hq.2.2.1,⟨fun e=>by have:=kF (h.h10 e).2;have:=hq.2.1;omega,fun e=>by have:=kF (h.h11 e).2;have:=hq.2.1;omega⟩⟩),(fun e=>Bool.noConfusion e),fun e=>⟨(h.h10 e).1,eP (h.h10 e).2 hb⟩,fun e=>⟨(h.h11 e).1,eP (h.h11 e).2 hb⟩,h.hne⟩⟩)⟩;show Act.put _ (some 19) _=_
   simp only [aXF,Act.put,sA,sB,sC];rfl
  ·
   have z6:=zq hcl 6 5 hbi;have z7:=zq hcl 7 6 z6;have z8:=zq hcl 8 7 z7;have z9:=zq hcl 9 8 z8;have j8:=zq hcl 12 9 z9;have j7:=zq hcl 13 5 hbi;simp only [hbi,z6,z7,z8,z9,j8,j7] at hI;obtain ⟨j3,j4,j5,j6,g3,g4,hA,rfl,h⟩:=hI;refine wpOp_step rfl (fun K' hK'=>?_);simp (decide:=true) only [if_true,if_false,reduceIte,z6,z7,z8,z9,j8,j7] at hK';refine fH (W:=W) (w1:=W) (v:=?_) (by rfl) ?_ ?_;rotate_left
   ·(try simp only [aXF,cond_true,cond_false]);go_simp;first|with_reducible rfl|rfl
   refine hK' _ _ (⟨j3,j4,j5,j6,g3,g4,hA,?_,h⟩);show Act.put _ (some 20) _=_
   simp only [aXF,Act.put,sA,sB,sC,fA,fE];rfl
  ·
   have hn_:=hneed _ rfl;have n5:=hn_ 5 (by decide);have z7:=zq hcl 7 6 hbi;have z8:=zq hcl 8 7 z7;have z9:=zq hcl 9 8 z8;have j8:=zq hcl 12 9 z9;have j7:=zq hcl 13 6 hbi;simp only [hbi,n5,z7,z8,z9,j8,j7] at hI;obtain ⟨j3,j4,j5,j6,g3,g4,hA,rfl,h⟩:=hI;refine wpOp_step rfl (fun K' hK'=>?_);simp (decide:=true) only [if_true,if_false,reduceIte,n5,z7,z8,z9,j8,j7] at hK';have jf:=eP B1.out h.hB;have z2:W.cell? ⟨g1,2,none⟩=some (.slice (some ad) l.length c0):=aG jf 2;refine fH (W:=W) (w1:=W) (v:=?_) (by rfl) ?_ ?_;rotate_left
   ·(try simp only [aXF,cond_true,cond_false]);go_simp;first|with_reducible rfl|rfl
   refine hK' _ _ (⟨j3,j4,j5,j6,g3,g4,hA,?_,h⟩);show Act.put _ (some 21) _=_
   simp only [aXF,Act.put,sA,sB,sC,fA,fE];rfl
  ·
   have hn_:=hneed _ rfl;have n6:=hn_ 6 (by decide);have n5:=nq hcl 6 5 n6;have z8:=zq hcl 8 7 hbi;have z9:=zq hcl 9 8 z8;have j8:=zq hcl 12 9 z9;have j7:=zq hcl 13 7 hbi;simp only [hbi,n5,n6,z8,z9,j8,j7] at hI;obtain ⟨j3,j4,j5,j6,g3,g4,hA,rfl,h⟩:=hI;refine wpOp_step rfl (fun K' hK'=>?_);simp (decide:=true) only [if_true,if_false,reduceIte,n5,n6,z8,z9,j8,j7] at hK';refine fH (W:=W) (w1:=W) (v:=(.pointer (some ⟨ad.block,ad.off + 3,none⟩))) (by rfl) ?_ ?_
   ·(try simp only [aXF,cond_true,cond_false]);go_simp;(try rfl)
   refine hK' _ _ (⟨j3,j4,j5,j6,g3,g4,hA,?_,h⟩);show Act.put _ (some 22) _=_
   simp only [aXF,Act.put,sA,sB,sC,fA,fE];rfl
  ·
   have hn_:=hneed _ rfl;have n7:=hn_ 7 (by decide);have n6:=nq hcl 7 6 n7;have n5:=nq hcl 6 5 n6;have z9:=zq hcl 9 8 hbi;have j8:=zq hcl 12 9 z9;have j7:=zq hcl 13 8 hbi;simp only [hbi,n5,n6,n7,z9,j8,j7] at hI;obtain ⟨j3,j4,j5,j6,g3,g4,hA,rfl,h⟩:=hI;refine wpOp_step rfl (fun K' hK'=>?_);simp (decide:=true) only [if_true,if_false,reduceIte,n5,n6,n7,z9,j8,j7] at hK';have z0:W.cell? ⟨ad.block,ad.off + 3,none⟩=some (.int .i64 q0):=((aA HB.out h.hB).cell (World.block_lt_of_cell? w _ Q0.out)).trans Q0.out;have z1:W.cell? ⟨ad.block,ad.off + 3 + 1,none⟩=some (.int .i64 q1):=((aA HB.out h.hB).cell (World.block_lt_of_cell? w _ Q1.out)).trans Q1.out;have z2:W.cell? ⟨ad.block,ad.off + 3 + 2,none⟩=some (.slice Aq q2.length cq):=((aA HB.out h.hB).cell (World.block_lt_of_cell? w _ Q2.out)).trans Q2.out;refine fH (W:=W) (w1:=W) (v:=(.agg #[(.int .i64 q0),(.int .i64 q1),(.slice Aq q2.length cq)])) (by rfl) ?_ ?_
   ·(try simp only [aXF,cond_true,cond_false]);go_simp;(try rfl)
   refine hK' _ _ (⟨j3,j4,j5,j6,g3,g4,hA,?_,h⟩);show Act.put _ (some 23) _=_
   simp only [aXF,Act.put,sA,sB,sC,fA,fE];rfl
  ·
   have hn_:=hneed _ rfl;have n4:=hn_ 4 (by decide);have n8:=hn_ 8 (by decide);have n3:=nq hcl 4 3 n4;have n7:=nq hcl 8 7 n8;have n2:=nq hcl 3 2 n3;have n6:=nq hcl 7 6 n7;have n1:=nq hcl 2 1 n2;have n5:=nq hcl 6 5 n6;have n0:=nq hcl 1 0 n1;have j8:=zq hcl 12 9 hbi;have j7:=zq hcl 13 9 hbi;simp only [hbi,n0,n1,n2,n3,n4,n5,n6,n7,n8,j8,j7] at hI;obtain ⟨j3,j4,j5,j6,g3,g4,hA,rfl,h⟩:=hI;refine wpOp_step rfl (fun K' hK'=>?_);simp (decide:=true) only [if_true,if_false,reduceIte,n0,n1,n2,n3,n4,n5,n6,n7,n8,j8,j7] at hK';refine iI Tryz.func58 (by kernel_rfl) rfl #[(.agg #[(.int .i64 q0),(.int .i64 q1),(.slice Aq q2.length cq)])] (by rfl) rfl rfl cv_ ?_;refine (ih k (Nat.lt_succ_self k) _ _ _ _ _ y0 y1 y2 _ (Kd.aX CQ.out (aA HB.out h.hB)) LQ.out HE2.out).mono ?_;rintro e W' ⟨v,rfl,hn,hb⟩;obtain ⟨B_,d_,rfl⟩:=Kd.sF hn;have hlt:=h.hB.size;have hle:=hb.size;have jg:=Kd.oC hn;refine ⟨_,rfl,hK' _ _ (⟨j3,j4,B_,d_,g3,g4,hA,?_,⟨aA h.hB hb,fun e=>Nat.le_trans (h.hA_ e) hle,fun e=>Kd.mU (h.h4 e) hb,fun _=>Kd.kE (Kd.wC jg hlt) (fun q hq=>⟨Nat.le_trans (h.hA_ rfl) hq.1,⟨fun e=>by have:=kF (h.h10 e).2;have:=hq.2.1;omega,fun e=>by have:=kF (h.h11 e).2;have:=hq.2.1;omega⟩⟩),fun e=>⟨(h.h10 e).1,eP (h.h10 e).2 hb⟩,fun e=>⟨(h.h11 e).1,eP (h.h11 e).2 hb⟩,h.hne⟩⟩)⟩;show Act.put _ (some 24) _=_
   simp only [aXF,Act.put,sA,sB,sC];rfl
  ·
   have j8:=zq hcl 12 10 hbi;have j7:=zq hcl 13 10 hbi;simp only [hbi,j8,j7] at hI;obtain ⟨j3,j4,j5,j6,g3,g4,hA,rfl,h⟩:=hI;refine wpOp_step rfl (fun K' hK'=>?_);simp (decide:=true) only [if_true,if_false,reduceIte,j8,j7] at hK';refine EF ?hg (N:=3) ?hd (cs:=#[(.int .i64 0),(.int .i64 0),(.slice none 0 0)]) (t:=56) ?hr ?_;case hd=>rfl
   case hg=>rfl
   case hr=>(try simp only [aXF,cond_true,cond_false]);first|(go_simp;done)|(go_simp;rfl)
   intro gb hgb W' hbox hb;have hlt:=h.hB.size;have hle:=hb.size;refine hK' _ _ (⟨j3,j4,j5,j6,gb,g4,hA,?_,⟨aA h.hB hb,fun e=>Nat.le_trans (h.hA_ e) hle,fun e=>Kd.kE (Kd.mU (Kd.oC (h.h4 e)) hb) (fun q hq=>⟨hq.1.1,fun _=>by have:=hq.2.2.1;omega,hq.1.2.2⟩),fun e=>Kd.kE (Kd.mU (Kd.oC (h.h9 e)) hb) (fun q hq=>⟨hq.1.1,fun _=>by have:=hq.2.2.1;omega,hq.1.2.2⟩),fun _=>⟨by omega,hbox⟩,fun e=>⟨(h.h11 e).1,eP (h.h11 e).2 hb⟩,fun _ e2 e3=>by have:=kF (h.h11 e2).2;omega⟩⟩);show Act.put _ (some 3) _=_
   simp only [aXF,Act.put,sA,sB,sC];rfl
  ·
   have j8:=zq hcl 12 11 hbi;have j7:=zq hcl 13 11 hbi;simp only [hbi,j8,j7] at hI;obtain ⟨j3,j4,j5,j6,g3,g4,hA,rfl,h⟩:=hI;refine wpOp_step rfl (fun K' hK'=>?_);simp (decide:=true) only [if_true,if_false,reduceIte,j8,j7] at hK';refine EF ?hg (N:=4) ?hd (cs:=#[(.int .i64 0),(.int .i64 0),(.slice none 0 0)]) (t:=56) ?hr ?_;case hd=>rfl
   case hg=>rfl
   case hr=>(try simp only [aXF,cond_true,cond_false]);first|(go_simp;done)|(go_simp;rfl)
   intro gb hgb W' hbox hb;have hlt:=h.hB.size;have hle:=hb.size;refine hK' _ _ (⟨j3,j4,j5,j6,g3,gb,hA,?_,⟨aA h.hB hb,fun e=>Nat.le_trans (h.hA_ e) hle,fun e=>Kd.kE (Kd.mU (Kd.oC (h.h4 e)) hb) (fun q hq=>⟨hq.1.1,hq.1.2.1,fun _=>by have:=hq.2.2.1;omega⟩),fun e=>Kd.kE (Kd.mU (Kd.oC (h.h9 e)) hb) (fun q hq=>⟨hq.1.1,hq.1.2.1,fun _=>by have:=hq.2.2.1;omega⟩),fun e=>⟨(h.h10 e).1,eP (h.h10 e).2 hb⟩,fun _=>⟨by omega,hbox⟩,fun e2 _ e3=>by have:=kF (h.h10 e2).2;omega⟩⟩);show Act.put _ (some 4) _=_
   simp only [aXF,Act.put,sA,sB,sC];rfl
  ·
   have hn_:=hneed _ rfl;have n4:=hn_ 4 (by decide);have n9:=hn_ 9 (by decide);have n10:=hn_ 10 (by decide);have n11:=hn_ 11 (by decide);have n3:=nq hcl 4 3 n4;have n8:=nq hcl 9 8 n9;have n2:=nq hcl 3 2 n3;have n7:=nq hcl 8 7 n8;have n1:=nq hcl 2 1 n2;have n6:=nq hcl 7 6 n7;have n0:=nq hcl 1 0 n1;have n5:=nq hcl 6 5 n6;have j7:=zq hcl 13 12 hbi;simp only [hbi,n0,n1,n2,n3,n4,n5,n6,n7,n8,n9,n10,n11,j7] at hI;obtain ⟨j3,j4,j5,j6,g3,g4,hA,rfl,h⟩:=hI;refine wpOp_step rfl (fun K' hK'=>?_);simp (decide:=true) only [if_true,if_false,reduceIte,n0,n1,n2,n3,n4,n5,n6,n7,n8,n9,n10,n11,j7] at hK';obtain ⟨hg6,hbx⟩:=h.h10 rfl;replace hbx:W.heap[g3]?=some (.cells #[(.int .i64 0),(.int .i64 0),(.slice none 0 0)] 56 (0,0)):=hbx;have q0:W.cell? ⟨g3,0,none⟩=some (.int .i64 0):=aG hbx 0;have f0:=aZ hbx 0;have q1:W.cell? ⟨g3,1,none⟩=some (.int .i64 0):=aG hbx 1;have f1:=aZ hbx 1;have q2:W.cell? ⟨g3,2,none⟩=some (.slice none 0 0):=aG hbx 2;have f2:=aZ hbx 2;refine uM (w1:=(((W.setCell ⟨g3,0,none⟩ (.int .i64 x0)).setCell ⟨g3,1,none⟩ (.int .i64 x1)).setCell ⟨g3,2,none⟩ (.slice j3 x2.length j4))) (by rfl) rfl ?_ ?_
   ·(try simp only [aXF,cond_true,cond_false]);go_simp;(try rfl)
   refine hK' _ _ (⟨j3,j4,j5,j6,g3,g4,hA,rfl,⟨(below_set (j:=2) (v:=(.slice j3 x2.length j4)) (below_set (j:=1) (v:=(.int .i64 x1)) (below_set (j:=0) (v:=(.int .i64 x0)) h.hB hg6) hg6) hg6),fun e=>Nat.le_trans (h.hA_ e) (by simp [World.setCell]),fun _=>(Kd.kP (p:=⟨g3,2,none⟩) (Kd.kP (p:=⟨g3,1,none⟩) (Kd.kP (p:=⟨g3,0,none⟩) (h.h4 rfl) (fun q hq=>hq.2.1 rfl) (.int .i64 x0)) (fun q hq=>hq.2.1 rfl) (.int .i64 x1)) (fun q hq=>hq.2.1 rfl) (.slice j3 x2.length j4)),fun _=>(Kd.kP (p:=⟨g3,2,none⟩) (Kd.kP (p:=⟨g3,1,none⟩) (Kd.kP (p:=⟨g3,0,none⟩) (h.h9 rfl) (fun q hq=>hq.2.1 rfl) (.int .i64 x0)) (fun q hq=>hq.2.1 rfl) (.int .i64 x1)) (fun q hq=>hq.2.1 rfl) (.slice j3 x2.length j4)),fun _=>⟨hg6,(aV (cs':=#[(.int .i64 x0),(.int .i64 x1),(.slice j3 x2.length j4)]) (aV (cs':=#[(.int .i64 x0),(.int .i64 x1),(.slice none 0 0)]) (aV (cs':=#[(.int .i64 x0),(.int .i64 0),(.slice none 0 0)]) hbx 0 (.int .i64 x0) rfl) 1 (.int .i64 x1) rfl) 2 (.slice j3 x2.length j4) rfl)⟩,fun _=>⟨(h.h11 rfl).1,(gV (p:=⟨g3,2,none⟩) (gV (p:=⟨g3,1,none⟩) (gV (p:=⟨g3,0,none⟩) (h.h11 rfl).2 (h.hne rfl rfl).symm (.int .i64 x0)) (h.hne rfl rfl).symm (.int .i64 x1)) (h.hne rfl rfl).symm (.slice j3 x2.length j4))⟩,h.hne⟩⟩)
  ·
   have hn_:=hneed _ rfl;have n0:=hn_ 0 (by decide);have n1:=hn_ 1 (by decide);have n2:=hn_ 2 (by decide);have n3:=hn_ 3 (by decide);have n4:=hn_ 4 (by decide);have n5:=hn_ 5 (by decide);have n6:=hn_ 6 (by decide);have n7:=hn_ 7 (by decide);have n8:=hn_ 8 (by decide);have n9:=hn_ 9 (by decide);have n10:=hn_ 10 (by decide);have n11:=hn_ 11 (by decide);have n12:=hn_ 12 (by decide);simp only [hbi,n0,n1,n2,n3,n4,n5,n6,n7,n8,n9,n10,n11,n12] at hI;obtain ⟨j3,j4,j5,j6,g3,g4,hA,rfl,h⟩:=hI;refine wpOp_step rfl (fun K' hK'=>?_);simp (decide:=true) only [if_true,if_false,reduceIte,n0,n1,n2,n3,n4,n5,n6,n7,n8,n9,n10,n11,n12] at hK';obtain ⟨hg6,hbx⟩:=h.h11 rfl;replace hbx:W.heap[g4]?=some (.cells #[(.int .i64 0),(.int .i64 0),(.slice none 0 0)] 56 (0,0)):=hbx;have q0:W.cell? ⟨g4,0,none⟩=some (.int .i64 0):=aG hbx 0;have f0:=aZ hbx 0;have q1:W.cell? ⟨g4,1,none⟩=some (.int .i64 0):=aG hbx 1;have f1:=aZ hbx 1;have q2:W.cell? ⟨g4,2,none⟩=some (.slice none 0 0):=aG hbx 2;have f2:=aZ hbx 2;refine uM (w1:=(((W.setCell ⟨g4,0,none⟩ (.int .i64 y0)).setCell ⟨g4,1,none⟩ (.int .i64 y1)).setCell ⟨g4,2,none⟩ (.slice j5 y2.length j6))) (by rfl) rfl ?_ ?_
   ·(try simp only [aXF,cond_true,cond_false]);go_simp;(try rfl)
   refine hK' _ _ (⟨j3,j4,j5,j6,g3,g4,hA,rfl,⟨(below_set (j:=2) (v:=(.slice j5 y2.length j6)) (below_set (j:=1) (v:=(.int .i64 y1)) (below_set (j:=0) (v:=(.int .i64 y0)) h.hB hg6) hg6) hg6),fun e=>Nat.le_trans (h.hA_ e) (by simp [World.setCell]),fun _=>(Kd.kP (p:=⟨g4,2,none⟩) (Kd.kP (p:=⟨g4,1,none⟩) (Kd.kP (p:=⟨g4,0,none⟩) (h.h4 rfl) (fun q hq=>hq.2.2 rfl) (.int .i64 y0)) (fun q hq=>hq.2.2 rfl) (.int .i64 y1)) (fun q hq=>hq.2.2 rfl) (.slice j5 y2.length j6)),fun _=>(Kd.kP (p:=⟨g4,2,none⟩) (Kd.kP (p:=⟨g4,1,none⟩) (Kd.kP (p:=⟨g4,0,none⟩) (h.h9 rfl) (fun q hq=>hq.2.2 rfl) (.int .i64 y0)) (fun q hq=>hq.2.2 rfl) (.int .i64 y1)) (fun q hq=>hq.2.2 rfl) (.slice j5 y2.length j6)),fun _=>⟨(h.h10 rfl).1,(gV (p:=⟨g4,2,none⟩) (gV (p:=⟨g4,1,none⟩) (gV (p:=⟨g4,0,none⟩) (h.h10 rfl).2 (h.hne rfl rfl) (.int .i64 y0)) (h.hne rfl rfl) (.int .i64 y1)) (h.hne rfl rfl) (.slice j5 y2.length j6))⟩,fun _=>⟨hg6,(aV (cs':=#[(.int .i64 y0),(.int .i64 y1),(.slice j5 y2.length j6)]) (aV (cs':=#[(.int .i64 y0),(.int .i64 y1),(.slice none 0 0)]) (aV (cs':=#[(.int .i64 y0),(.int .i64 0),(.slice none 0 0)]) hbx 0 (.int .i64 y0) rfl) 1 (.int .i64 y1) rfl) 2 (.slice j5 y2.length j6) rfl)⟩,h.hne⟩⟩)
 case hdone=>
  intro b a W1 hall hI;replace hI:LXF w W0 g1 g2 a0 a1 ad c0 l p0 p1 Ap cp p2 q0 q1 Aq cq q2 x0 x1 x2 y0 y1 y2 (b 0) (b 1) (b 2) (b 3) (b 4) (b 5) (b 6) (b 7) (b 8) (b 9) (b 10) (b 11) (b 12) (b 13) a W1:=hI;rw [hall 0 (by decide),hall 1 (by decide),hall 2 (by decide),hall 3 (by decide),hall 4 (by decide),hall 5 (by decide),hall 6 (by decide),hall 7 (by decide),hall 8 (by decide),hall 9 (by decide),hall 10 (by decide),hall 11 (by decide),hall 12 (by decide),hall 13 (by decide)] at hI;obtain ⟨j3,j4,j5,j6,g3,g4,hA,rfl,h⟩:=hI;simp only [aXF,cond_true];have S4:=am (Kd.kE (ok':=fun q=>q < hA∧(w.heap.size≤q∧q≠g2)) (Kd.wC (Kd.oC (h.h4 rfl)) HB.out.size) (fun q hq=>⟨hq.1.1,Nat.le_trans HB.out.size hq.2.1,by have:=kF B2.out;have:=hq.2.1;omega⟩));have S9:=am (Kd.kE (ok':=fun q=>hA≤q∧(w.heap.size≤q∧q≠g2)) (Kd.wC (Kd.oC (h.h9 rfl)) HB.out.size) (fun q hq=>⟨hq.1.1,Nat.le_trans HB.out.size hq.2.1,by have:=kF B2.out;have:=hq.2.1;omega⟩));have X3:Aside0 (W1.heap[g3]?=some (.cells #[(.int .i64 x0),(.int .i64 x1),(.slice j3 x2.length j4)] 56 (0,0))):=⟨(h.h10 rfl).2⟩;have X4:Aside0 (W1.heap[g4]?=some (.cells #[(.int .i64 y0),(.int .i64 y1),(.slice j5 y2.length j6)] 56 (0,0))):=⟨(h.h11 rfl).2⟩;replace B1:=am (eP B1.out h.hB);replace B2:=am (eP B2.out h.hB);replace HB:=am (aA HB.out h.hB);clear h hall;have z0:W1.cell? ⟨g1,0,none⟩=some (.int .i64 a0):=aG B1.out 0;have x_0:W1.cell? ⟨g3,0,none⟩=some (.int .i64 x0):=aG X3.out 0;have x_1:W1.cell? ⟨g3,1,none⟩=some (.int .i64 x1):=aG X3.out 1;have x_2:W1.cell? ⟨g3,2,none⟩=some (.slice j3 x2.length j4):=aG X3.out 2;have y_0:W1.cell? ⟨g4,0,none⟩=some (.int .i64 y0):=aG X4.out 0;have y_1:W1.cell? ⟨g4,1,none⟩=some (.int .i64 y1):=aG X4.out 1;have y_2:W1.cell? ⟨g4,2,none⟩=some (.slice j5 y2.length j6):=aG X4.out 2;have u0:W1.cell? ⟨g2,0,none⟩=some (.int .i64 0):=aG B2.out 0;have u1:W1.cell? ⟨g2,1,none⟩=some (.int .i64 0):=aG B2.out 1;have u2:W1.cell? ⟨g2,2,none⟩=some (.slice none 0 0):=aG B2.out 2;have f0:=aZ B2.out 0;have f1:=aZ B2.out 1;have f2:=aZ B2.out 2;rcases cK.tail HT.out with ⟨ha,hb,n,hn,h3⟩|⟨h4,h3⟩
  ·have HN:=am hn;have e0:(x0 == 0)=true:=beq_iff_eq.mpr ha;have e1:(y0 == 0)=true:=beq_iff_eq.mpr hb;clear hn ha hb;rcases h3 with ⟨h1,h2,h3⟩|⟨h4,h3⟩
   ·have ji:decide (0≤n)=true:=dT h1;have jj:decide (n≤99999)=true:=dT h2;clear h1 h2;simp only [Prod.mk.injEq] at h3;obtain ⟨rfl,rfl,rfl⟩:=h3;go_wp2_with (first|((with_reducible refine gC 81 rfl ?_);refine wN (some 39) rfl rfl Tryz.func81 (by kernel_rfl) rfl #[.int .i64 a0,.int .i64 x1,.int .i64 y1] rfl cv_ ?_;(with_reducible refine (lW.callsB a0 x1 y1 n _ HN.out).mono ?_);rintro e W5 ⟨rfl,hb⟩;refine ⟨_,rfl,?_⟩;replace S4:=am (Kd.mU S4.out hb);replace S9:=am (Kd.mU S9.out hb);replace X3:=am (eP X3.out hb);replace X4:=am (eP X4.out hb);replace B1:=am (eP B1.out hb);replace B2:=am (eP B2.out hb);replace HB:=am (aA HB.out hb);clear hb z0 x_0 x_1 x_2 y_0 y_1 y_2 u0 u1 u2 f0 f1 f2;have z0:W5.cell? ⟨g1,0,none⟩=some (.int .i64 a0):=aG B1.out 0;have x_0:W5.cell? ⟨g3,0,none⟩=some (.int .i64 x0):=aG X3.out 0;have x_1:W5.cell? ⟨g3,1,none⟩=some (.int .i64 x1):=aG X3.out 1;have x_2:W5.cell? ⟨g3,2,none⟩=some (.slice j3 x2.length j4):=aG X3.out 2;have y_0:W5.cell? ⟨g4,0,none⟩=some (.int .i64 y0):=aG X4.out 0;have y_1:W5.cell? ⟨g4,1,none⟩=some (.int .i64 y1):=aG X4.out 1;have y_2:W5.cell? ⟨g4,2,none⟩=some (.slice j5 y2.length j6):=aG X4.out 2;have u0:W5.cell? ⟨g2,0,none⟩=some (.int .i64 0):=aG B2.out 0;have u1:W5.cell? ⟨g2,1,none⟩=some (.int .i64 0):=aG B2.out 1;have u2:W5.cell? ⟨g2,2,none⟩=some (.slice none 0 0):=aG B2.out 2;have f0:=aZ B2.out 0;have f1:=aZ B2.out 1;have f2:=aZ B2.out 2)|fail);refine bodyPost_ret (results_cell_row rfl _ _ g2 56 #[(.int .i64 0),(.int .i64 n),.slice none 0 0] (0,0) _ rfl (aV (aV (aV B2.out 0 _ rfl) 1 _ rfl) 2 _ rfl) Tryz.underlying56 rfl (by kernel_rfl)) rfl ?_;exact ⟨_,rfl,Kd.vH _ _ _ _ _,below_set (below_set (below_set HB.out j9.out) j9.out) j9.out⟩
   ·by_cases h1:0≤n
    ·have ji:decide (0≤n)=true:=dT h1;have jj:decide (n≤99999)=false:=dF (fun h2=>h4 ⟨h1,h2⟩);clear h1 h4;simp only [Prod.mk.injEq] at h3;obtain ⟨rfl,rfl,rfl⟩:=h3;go_wp2_with (first|((with_reducible refine gC 81 rfl ?_);refine wN (some 39) rfl rfl Tryz.func81 (by kernel_rfl) rfl #[.int .i64 a0,.int .i64 x1,.int .i64 y1] rfl cv_ ?_;(with_reducible refine (lW.callsB a0 x1 y1 n _ HN.out).mono ?_);rintro e W5 ⟨rfl,hb⟩;refine ⟨_,rfl,?_⟩;replace S4:=am (Kd.mU S4.out hb);replace S9:=am (Kd.mU S9.out hb);replace X3:=am (eP X3.out hb);replace X4:=am (eP X4.out hb);replace B1:=am (eP B1.out hb);replace B2:=am (eP B2.out hb);replace HB:=am (aA HB.out hb);clear hb z0 x_0 x_1 x_2 y_0 y_1 y_2 u0 u1 u2 f0 f1 f2;have z0:W5.cell? ⟨g1,0,none⟩=some (.int .i64 a0):=aG B1.out 0;have x_0:W5.cell? ⟨g3,0,none⟩=some (.int .i64 x0):=aG X3.out 0;have x_1:W5.cell? ⟨g3,1,none⟩=some (.int .i64 x1):=aG X3.out 1;have x_2:W5.cell? ⟨g3,2,none⟩=some (.slice j3 x2.length j4):=aG X3.out 2;have y_0:W5.cell? ⟨g4,0,none⟩=some (.int .i64 y0):=aG X4.out 0;have y_1:W5.cell? ⟨g4,1,none⟩=some (.int .i64 y1):=aG X4.out 1;have y_2:W5.cell? ⟨g4,2,none⟩=some (.slice j5 y2.length j6):=aG X4.out 2;have u0:W5.cell? ⟨g2,0,none⟩=some (.int .i64 0):=aG B2.out 0;have u1:W5.cell? ⟨g2,1,none⟩=some (.int .i64 0):=aG B2.out 1;have u2:W5.cell? ⟨g2,2,none⟩=some (.slice none 0 0):=aG B2.out 2;have f0:=aZ B2.out 0;have f1:=aZ B2.out 1;have f2:=aZ B2.out 2)|((with_reducible refine gD 52 rfl ?_);refine Kd.LY ES w.heap.size 56 rfl (N:=52) rfl (w0:=w) (xs:=[(⟨x0,x1,x2⟩:S56),(⟨y0,y1,y2⟩:S56)]) (inner:=[(.int .i64 x0),(.int .i64 x1),(.slice j3 x2.length j4),(.int .i64 y0),(.int .i64 y1),(.slice j5 y2.length j6)]) (ok:=fun q=>w.heap.size≤q∧q≠g2) (fun j q=>((j=0∧q < hA)∨(j=1∧hA≤q))∧w.heap.size≤q∧q≠g2) ?hr rfl ?hrep ?hap (fun j q hq=>hq.2) ?hfr HB.out HB.out.size (by simp) ?_;(case hr=>first|(go_simp;done)|(go_simp;rfl));(case hrep=>(intro j x hj;rcases j with _| _|j;(obtain rfl:=oI hj;exact sQ _ _ _ (⟨x0,x1,x2⟩:S56) (Kd.kE S4.out (fun q hq=>⟨.inl ⟨rfl,hq.1⟩,hq.2⟩)));(obtain rfl:=oI hj;exact sQ _ _ _ (⟨y0,y1,y2⟩:S56) (Kd.kE S9.out (fun q hq=>⟨.inr ⟨rfl,hq.1⟩,hq.2⟩)));exact absurd hj (by simp)));(case hap=>(intro i j q h1 h2;rcases h1.1 with ⟨rfl,a⟩|⟨rfl,a⟩ <;> rcases h2.1 with ⟨rfl,b⟩|⟨rfl,b⟩ <;> omega));(case hfr=>exact ⟨HB.out.size,by have:=kF B2.out;omega⟩);intro v9 W9 hs hb9 hg9 _;obtain ⟨B9,d9,e9⟩:=Kd.sF hs;replace e9:v9= .slice B9 2 d9:=e9;subst e9;have SR:=am hs;replace HB:=am hb9;replace B2:=am (dL B2.out hg9 (by simp));clear hs hb9 hg9 z0 x_0 x_1 x_2 y_0 y_1 y_2 u0 u1 u2 f0 f1 f2 X3 X4 B1 S4 S9;have u0:W9.cell? ⟨g2,0,none⟩=some (.int .i64 0):=aG B2.out 0;have u1:W9.cell? ⟨g2,1,none⟩=some (.int .i64 0):=aG B2.out 1;have u2:W9.cell? ⟨g2,2,none⟩=some (.slice none 0 0):=aG B2.out 2;have f0:=aZ B2.out 0;have f1:=aZ B2.out 1;have f2:=aZ B2.out 2)|fail);refine bodyPost_ret (results_cell_row rfl _ _ g2 56 #[(.int .i64 a0),(.int .i64 0),.slice B9 2 d9] (0,0) _ rfl (aV (aV (aV B2.out 0 _ rfl) 1 _ rfl) 2 _ rfl) Tryz.underlying56 rfl (by kernel_rfl)) rfl ?_;exact ⟨_,rfl,Kd.kE (Kd.kP (p:=⟨g2,2,none⟩) (Kd.kP (p:=⟨g2,1,none⟩) (Kd.kP (p:=⟨g2,0,none⟩) SR.out (fun q hq=>hq.2) _) (fun q hq=>hq.2) _) (fun q hq=>hq.2) _) (fun q hq=>hq.1),below_set (below_set (below_set HB.out j9.out) j9.out) j9.out⟩
    ·have ji:decide (0≤n)=false:=dF h1;clear h1 h4;simp only [Prod.mk.injEq] at h3;obtain ⟨rfl,rfl,rfl⟩:=h3;go_wp2_with (first|((with_reducible refine gC 81 rfl ?_);refine wN (some 39) rfl rfl Tryz.func81 (by kernel_rfl) rfl #[.int .i64 a0,.int .i64 x1,.int .i64 y1] rfl cv_ ?_;(with_reducible refine (lW.callsB a0 x1 y1 n _ HN.out).mono ?_);rintro e W5 ⟨rfl,hb⟩;refine ⟨_,rfl,?_⟩;replace S4:=am (Kd.mU S4.out hb);replace S9:=am (Kd.mU S9.out hb);replace X3:=am (eP X3.out hb);replace X4:=am (eP X4.out hb);replace B1:=am (eP B1.out hb);replace B2:=am (eP B2.out hb);replace HB:=am (aA HB.out hb);clear hb z0 x_0 x_1 x_2 y_0 y_1 y_2 u0 u1 u2 f0 f1 f2;have z0:W5.cell? ⟨g1,0,none⟩=some (.int .i64 a0):=aG B1.out 0;have x_0:W5.cell? ⟨g3,0,none⟩=some (.int .i64 x0):=aG X3.out 0;have x_1:W5.cell? ⟨g3,1,none⟩=some (.int .i64 x1):=aG X3.out 1;have x_2:W5.cell? ⟨g3,2,none⟩=some (.slice j3 x2.length j4):=aG X3.out 2;have y_0:W5.cell? ⟨g4,0,none⟩=some (.int .i64 y0):=aG X4.out 0;have y_1:W5.cell? ⟨g4,1,none⟩=some (.int .i64 y1):=aG X4.out 1;have y_2:W5.cell? ⟨g4,2,none⟩=some (.slice j5 y2.length j6):=aG X4.out 2;have u0:W5.cell? ⟨g2,0,none⟩=some (.int .i64 0):=aG B2.out 0;have u1:W5.cell? ⟨g2,1,none⟩=some (.int .i64 0):=aG B2.out 1;have u2:W5.cell? ⟨g2,2,none⟩=some (.slice none 0 0):=aG B2.out 2;have f0:=aZ B2.out 0;have f1:=aZ B2.out 1;have f2:=aZ B2.out 2)|((with_reducible refine gD 52 rfl ?_);refine Kd.LY ES w.heap.size 56 rfl (N:=52) rfl (w0:=w) (xs:=[(⟨x0,x1,x2⟩:S56),(⟨y0,y1,y2⟩:S56)]) (inner:=[(.int .i64 x0),(.int .i64 x1),(.slice j3 x2.length j4),(.int .i64 y0),(.int .i64 y1),(.slice j5 y2.length j6)]) (ok:=fun q=>w.heap.size≤q∧q≠g2) (fun j q=>((j=0∧q < hA)∨(j=1∧hA≤q))∧w.heap.size≤q∧q≠g2) ?hr rfl ?hrep ?hap (fun j q hq=>hq.2) ?hfr HB.out HB.out.size (by simp) ?_;(case hr=>first|(go_simp;done)|(go_simp;rfl));(case hrep=>(intro j x hj;rcases j with _| _|j;(obtain rfl:=oI hj;exact sQ _ _ _ (⟨x0,x1,x2⟩:S56) (Kd.kE S4.out (fun q hq=>⟨.inl ⟨rfl,hq.1⟩,hq.2⟩)));(obtain rfl:=oI hj;exact sQ _ _ _ (⟨y0,y1,y2⟩:S56) (Kd.kE S9.out (fun q hq=>⟨.inr ⟨rfl,hq.1⟩,hq.2⟩)));exact absurd hj (by simp)));(case hap=>(intro i j q h1 h2;rcases h1.1 with ⟨rfl,a⟩|⟨rfl,a⟩ <;> rcases h2.1 with ⟨rfl,b⟩|⟨rfl,b⟩ <;> omega));(case hfr=>exact ⟨HB.out.size,by have:=kF B2.out;omega⟩);intro v9 W9 hs hb9 hg9 _;obtain ⟨B9,d9,e9⟩:=Kd.sF hs;replace e9:v9= .slice B9 2 d9:=e9;subst e9;have SR:=am hs;replace HB:=am hb9;replace B2:=am (dL B2.out hg9 (by simp));clear hs hb9 hg9 z0 x_0 x_1 x_2 y_0 y_1 y_2 u0 u1 u2 f0 f1 f2 X3 X4 B1 S4 S9;have u0:W9.cell? ⟨g2,0,none⟩=some (.int .i64 0):=aG B2.out 0;have u1:W9.cell? ⟨g2,1,none⟩=some (.int .i64 0):=aG B2.out 1;have u2:W9.cell? ⟨g2,2,none⟩=some (.slice none 0 0):=aG B2.out 2;have f0:=aZ B2.out 0;have f1:=aZ B2.out 1;have f2:=aZ B2.out 2)|fail);refine bodyPost_ret (results_cell_row rfl _ _ g2 56 #[(.int .i64 a0),(.int .i64 0),.slice B9 2 d9] (0,0) _ rfl (aV (aV (aV B2.out 0 _ rfl) 1 _ rfl) 2 _ rfl) Tryz.underlying56 rfl (by kernel_rfl)) rfl ?_;exact ⟨_,rfl,Kd.kE (Kd.kP (p:=⟨g2,2,none⟩) (Kd.kP (p:=⟨g2,1,none⟩) (Kd.kP (p:=⟨g2,0,none⟩) SR.out (fun q hq=>hq.2) _) (fun q hq=>hq.2) _) (fun q hq=>hq.2) _) (fun q hq=>hq.1),below_set (below_set (below_set HB.out j9.out) j9.out) j9.out⟩
  ·by_cases h1:x0=0
   ·have e0:(x0 == 0)=true:=beq_iff_eq.mpr h1;have e1:(y0 == 0)=false:=bE (fun h2=>h4 ⟨h1,h2⟩);clear h1 h4;simp only [Prod.mk.injEq] at h3;obtain ⟨rfl,rfl,rfl⟩:=h3;go_wp2_with (first|((with_reducible refine gD 52 rfl ?_);refine Kd.LY ES w.heap.size 56 rfl (N:=52) rfl (w0:=w) (xs:=[(⟨x0,x1,x2⟩:S56),(⟨y0,y1,y2⟩:S56)]) (inner:=[(.int .i64 x0),(.int .i64 x1),(.slice j3 x2.length j4),(.int .i64 y0),(.int .i64 y1),(.slice j5 y2.length j6)]) (ok:=fun q=>w.heap.size≤q∧q≠g2) (fun j q=>((j=0∧q < hA)∨(j=1∧hA≤q))∧w.heap.size≤q∧q≠g2) ?hr rfl ?hrep ?hap (fun j q hq=>hq.2) ?hfr HB.out HB.out.size (by simp) ?_;(case hr=>first|(go_simp;done)|(go_simp;rfl));(case hrep=>(intro j x hj;rcases j with _| _|j;(obtain rfl:=oI hj;exact sQ _ _ _ (⟨x0,x1,x2⟩:S56) (Kd.kE S4.out (fun q hq=>⟨.inl ⟨rfl,hq.1⟩,hq.2⟩)));(obtain rfl:=oI hj;exact sQ _ _ _ (⟨y0,y1,y2⟩:S56) (Kd.kE S9.out (fun q hq=>⟨.inr ⟨rfl,hq.1⟩,hq.2⟩)));exact absurd hj (by simp)));(case hap=>(intro i j q h1 h2;rcases h1.1 with ⟨rfl,a⟩|⟨rfl,a⟩ <;> rcases h2.1 with ⟨rfl,b⟩|⟨rfl,b⟩ <;> omega));(case hfr=>exact ⟨HB.out.size,by have:=kF B2.out;omega⟩);intro v9 W9 hs hb9 hg9 _;obtain ⟨B9,d9,e9⟩:=Kd.sF hs;replace e9:v9= .slice B9 2 d9:=e9;subst e9;have SR:=am hs;replace HB:=am hb9;replace B2:=am (dL B2.out hg9 (by simp));clear hs hb9 hg9 z0 x_0 x_1 x_2 y_0 y_1 y_2 u0 u1 u2 f0 f1 f2 X3 X4 B1 S4 S9;have u0:W9.cell? ⟨g2,0,none⟩=some (.int .i64 0):=aG B2.out 0;have u1:W9.cell? ⟨g2,1,none⟩=some (.int .i64 0):=aG B2.out 1;have u2:W9.cell? ⟨g2,2,none⟩=some (.slice none 0 0):=aG B2.out 2;have f0:=aZ B2.out 0;have f1:=aZ B2.out 1;have f2:=aZ B2.out 2)|fail);refine bodyPost_ret (results_cell_row rfl _ _ g2 56 #[(.int .i64 a0),(.int .i64 0),.slice B9 2 d9] (0,0) _ rfl (aV (aV (aV B2.out 0 _ rfl) 1 _ rfl) 2 _ rfl) Tryz.underlying56 rfl (by kernel_rfl)) rfl ?_;exact ⟨_,rfl,Kd.kE (Kd.kP (p:=⟨g2,2,none⟩) (Kd.kP (p:=⟨g2,1,none⟩) (Kd.kP (p:=⟨g2,0,none⟩) SR.out (fun q hq=>hq.2) _) (fun q hq=>hq.2) _) (fun q hq=>hq.2) _) (fun q hq=>hq.1),below_set (below_set (below_set HB.out j9.out) j9.out) j9.out⟩
   ·have e0:(x0 == 0)=false:=bE h1;clear h1 h4;simp only [Prod.mk.injEq] at h3;obtain ⟨rfl,rfl,rfl⟩:=h3;go_wp2_with (first|((with_reducible refine gD 52 rfl ?_);refine Kd.LY ES w.heap.size 56 rfl (N:=52) rfl (w0:=w) (xs:=[(⟨x0,x1,x2⟩:S56),(⟨y0,y1,y2⟩:S56)]) (inner:=[(.int .i64 x0),(.int .i64 x1),(.slice j3 x2.length j4),(.int .i64 y0),(.int .i64 y1),(.slice j5 y2.length j6)]) (ok:=fun q=>w.heap.size≤q∧q≠g2) (fun j q=>((j=0∧q < hA)∨(j=1∧hA≤q))∧w.heap.size≤q∧q≠g2) ?hr rfl ?hrep ?hap (fun j q hq=>hq.2) ?hfr HB.out HB.out.size (by simp) ?_;(case hr=>first|(go_simp;done)|(go_simp;rfl));(case hrep=>(intro j x hj;rcases j with _| _|j;(obtain rfl:=oI hj;exact sQ _ _ _ (⟨x0,x1,x2⟩:S56) (Kd.kE S4.out (fun q hq=>⟨.inl ⟨rfl,hq.1⟩,hq.2⟩)));(obtain rfl:=oI hj;exact sQ _ _ _ (⟨y0,y1,y2⟩:S56) (Kd.kE S9.out (fun q hq=>⟨.inr ⟨rfl,hq.1⟩,hq.2⟩)));exact absurd hj (by simp)));(case hap=>(intro i j q h1 h2;rcases h1.1 with ⟨rfl,a⟩|⟨rfl,a⟩ <;> rcases h2.1 with ⟨rfl,b⟩|⟨rfl,b⟩ <;> omega));(case hfr=>exact ⟨HB.out.size,by have:=kF B2.out;omega⟩);intro v9 W9 hs hb9 hg9 _;obtain ⟨B9,d9,e9⟩:=Kd.sF hs;replace e9:v9= .slice B9 2 d9:=e9;subst e9;have SR:=am hs;replace HB:=am hb9;replace B2:=am (dL B2.out hg9 (by simp));clear hs hb9 hg9 z0 x_0 x_1 x_2 y_0 y_1 y_2 u0 u1 u2 f0 f1 f2 X3 X4 B1 S4 S9;have u0:W9.cell? ⟨g2,0,none⟩=some (.int .i64 0):=aG B2.out 0;have u1:W9.cell? ⟨g2,1,none⟩=some (.int .i64 0):=aG B2.out 1;have u2:W9.cell? ⟨g2,2,none⟩=some (.slice none 0 0):=aG B2.out 2;have f0:=aZ B2.out 0;have f1:=aZ B2.out 1;have f2:=aZ B2.out 2)|fail);refine bodyPost_ret (results_cell_row rfl _ _ g2 56 #[(.int .i64 a0),(.int .i64 0),.slice B9 2 d9] (0,0) _ rfl (aV (aV (aV B2.out 0 _ rfl) 1 _ rfl) 2 _ rfl) Tryz.underlying56 rfl (by kernel_rfl)) rfl ?_;exact ⟨_,rfl,Kd.kE (Kd.kP (p:=⟨g2,2,none⟩) (Kd.kP (p:=⟨g2,1,none⟩) (Kd.kP (p:=⟨g2,0,none⟩) SR.out (fun q hq=>hq.2) _) (fun q hq=>hq.2) _) (fun q hq=>hq.2) _) (fun q hq=>hq.1),below_set (below_set (below_set HB.out j9.out) j9.out) j9.out⟩
theorem cK.calls (k:Nat):∀ (j4:Int) (j5:Int) (j6:Option Addr) (j7:Nat) (j3:List (S56)) (r1:Int) (r2:Int) (r3:List (S56)) (w:World) (hr0_2:Kd.C k56 w j6 j3.length j3) (hc0_2:j3.length≤j7) (h:cK.f k j4 j5 j3=some (r1,r2,r3)),
  Calls Tryz.prog 58 #[.agg #[.int .i64 j4,.int .i64 j5,.slice j6 j3.length j7]] w fun e w'=>∃ v2_:Value,e= .returned (.agg #[.int .i64 r1,.int .i64 r2,v2_])∧Kd.N k56 56 w' w.heap.size (fun k_=>(w.heap.size≤k_)) v2_ r3∧Below w.heap.size w w':=by
 intro a0 a1 A0 c0 l r1 r2 r3 w hr hc h;refine (cK.callsS k a0 a1 A0 c0 l r1 r2 r3 w hr hc h).mono ?_;rintro e w' ⟨v,rfl,hs,hb⟩;exact ⟨v,rfl,Kd.R_N (aJy hs),hb⟩
def aJ (w0 W:World) (g:Nat) (f0:List Int) (f1:Int):Prop:=∃ A0 c0,W.heap[g]?=some (.cells #[.slice A0 f0.length c0,.int .i64 f1] 69 (0,0))∧w0.heap.size≤g∧Kd.C (Kd.int .u8) w0 A0 f0.length f0
theorem aJ.grown {w0 W:World} {g:Nat} {f0:List Int} {f1:Int} {W1:World} {row:Option Nat} (h:aJ w0 W g f0 f1) (hw:W.grownBy W1 row) (hne:some g≠row):aJ w0 W1 g f0 f1:=by
 obtain ⟨A0,c0,hb,hg,hr0⟩:=h;exact ⟨A0,c0,dL hb hw hne,hg,hr0⟩
theorem aJ.EU {w0 W:World} {g:Nat} {f0:List Int} {f1:Int} {α:Type} {d:Kd α} {e:Nat} {base:Nat} {ok:Nat→Prop} {v:Value} {xs:List α} (h:aJ w0 W g f0 f1) (ho:Kd.N d e W base ok v xs) (ht:e≠69):some g≠v.ownBlock:=by
 obtain ⟨A0,c0,hb,hg,hr0⟩:=h;exact Kd.NW ho hb ht
theorem aJ.fresh {w0 W:World} {g:Nat} {f0:List Int} {f1:Int} (h:aJ w0 W g f0 f1):∀ k,W.heap.size≤k→k≠g:=by
 obtain ⟨A0,c0,hb,hg,hr0⟩:=h;exact Kd.aFu hb
theorem aJ.kept {w0 W:World} {g:Nat} {f0:List Int} {f1:Int} {W1:World} {S:Nat→Prop} (h:aJ w0 W g f0 f1) (hk:Kept W W1 S) (hne:¬ S g):aJ w0 W1 g f0 f1:=by
 obtain ⟨A0,c0,hb,hg,hr0⟩:=h;exact ⟨A0,c0,kS hb hk hne,hg,hr0⟩
theorem aJ.below {w0 W:World} {g:Nat} {f0:List Int} {f1:Int} {W1:World} (h:aJ w0 W g f0 f1) (hw:Below W.heap.size W W1):aJ w0 W1 g f0 f1:=h.grown (yN hw none) (by simp)
theorem aJ.alloc {w0 W:World} {g:Nat} {f0:List Int} {f1:Int} (h:aJ w0 W g f0 f1) (o:Obj):aJ w0 (W.alloc o) g f0 f1:=h.below (bY (Below.refl _ _) o)
theorem aJ.drewN {w0 W:World} {g:Nat} {f0:List Int} {f1:Int} (h:aJ w0 W g f0 f1) (m:Nat):aJ w0 (W.drewN m) g f0 f1:=h
theorem aJ.drew {w0 W:World} {g:Nat} {f0:List Int} {f1:Int} (h:aJ w0 W g f0 f1):aJ w0 W.drew g f0 f1:=h
theorem aJ.at_ {w0 W:World} {g:Nat} {f0:List Int} {f1:Int} {w':World} {m:Nat} (hq:W.drewN m=w') (h:aJ w0 W g f0 f1):aJ w0 w' g f0 f1:=by subst hq;exact aJ.drewN h m
theorem aJ.apart {w0 W:World} {g:Nat} {f0:List Int} {f1:Int} {α:Type} {d:Kd α} {e:Nat} {base:Nat} {ok:Nat→Prop} {v:Value} {xs:List α} (h:aJ w0 W g f0 f1) (ho:d.R e W base ok v xs) (ht:∀ q,q ∈ e :: d.E→q≠69):d.R e W base (fun k=>ok k∧k≠g) v xs:=by
 obtain ⟨A0,c0,hb,hg,hr0⟩:=h;exact Kd.iR ho hb ht
theorem aJ.own_ne {w0 W:World} {g:Nat} {f0:List Int} {f1:Int} {α:Type} {d:Kd α} {e:Nat} {base:Nat} {ok:Nat→Prop} {v:Value} {xs:List α} (h:aJ w0 W g f0 f1) (ho:d.R e W base ok v xs) (ht:e≠69):some g≠v.ownBlock:=by
 obtain ⟨A0,c0,hb,hg,hr0⟩:=h;exact Kd.lC ho hb ht
theorem aJ.lt {w0 W:World} {g:Nat} {f0:List Int} {f1:Int} (h:aJ w0 W g f0 f1):g < W.heap.size:=by
 obtain ⟨A0,c0,hb,hg,hr0⟩:=h;exact kF hb
theorem aJ.ge {w0 W:World} {g:Nat} {f0:List Int} {f1:Int} (h:aJ w0 W g f0 f1):w0.heap.size≤g:=by
 obtain ⟨A0,c0,hb,hg,hr0⟩:=h;exact hg
theorem aJ.aBq {w0 W:World} {g:Nat} {f0:List Int} {f1:Int} {a:Nat} {cs:Array Value} {t:TypeId} {fr:Nat × Nat} (h:aJ w0 W g f0 f1) (hb2:W.heap[a]?=some (.cells cs t fr)) (ht:t≠69):g≠a:=by
 obtain ⟨A0,c0,hb,hg,hr0⟩:=h;rintro rfl;rw [hb] at hb2;injection hb2 with hb2;injection hb2 with _ ht2;exact ht ht2.symm
theorem aJ.far {w0 W:World} {g:Nat} {f0:List Int} {f1:Int} {p:Addr} (h:aJ w0 W g f0 f1) (hne:g≠p.block) (u:Value):aJ w0 (W.setCell p u) g f0 f1:=by
 obtain ⟨A0,c0,hb,hg,hr0⟩:=h;exact ⟨A0,c0,gV hb hne u,hg,hr0⟩
theorem AQ {W:World} {g:Nat} {A0:Option Addr} {c0:Nat} {f0:List Int} {f1:Int} (h:W.heap[g]?=some (.cells #[.slice A0 f0.length c0,.int .i64 f1] 69 (0,0))):W.cell? ⟨g,0,none⟩=some (.slice A0 f0.length c0):=(aG h 0).trans rfl
theorem AU {W:World} {g:Nat} {A0:Option Addr} {c0:Nat} {f0:List Int} {f1:Int} (h:W.heap[g]?=some (.cells #[.slice A0 f0.length c0,.int .i64 f1] 69 (0,0))):W.cell? ⟨g,1,none⟩=some (.int .i64 f1):=(aG h 1).trans rfl
theorem aJ.vR {w0 W:World} {g:Nat} {f0:List Int} {f1:Int} (h:aJ w0 W g f0 f1) (x:Int):aJ w0 (W.setCell ⟨g,1,none⟩ (.int .i64 x)) g f0 x:=by
 obtain ⟨A0,c0,hb,hg,hr0⟩:=h;exact ⟨A0,c0,by simpa using RU hb 1 (.int .i64 x),hg,hr0⟩
theorem aH.mono_l:∀ k,(∀ y0 y1 y2 y3,LeO (aH.j0 k y0 y1 y2 y3) (aH.j0 (k + 1) y0 y1 y2 y3))
 |0=>fun _ _ _ _ r h=>by simp [aH.j0] at h
 |k + 1=>by
  have ih0:=aH.mono_l k
  ·intro y0 y1 y2 y3;unfold aH.j0;exact mo_
theorem aH.mono:∀ a0 a1 a2 k,LeO (aH.f k a0 a1 a2) (aH.f (k + 1) a0 a1 a2):=by
 intro a0 a1 a2 k;have ih0:=aH.mono_l k;unfold aH.f;exact mo_
theorem aH.calls (k:Nat) (g:Nat) (j3:List Int) (j4:Int) (a1:Int) (r1:Int) (r2:Int) (w0 w:World) (hI:aJ w0 w g j3 j4) (hB:Below w0.heap.size w0 w) (h:aH.f k j3 j4 a1=some (r1,r2)):
  Calls Tryz.prog 37 #[.pointer (some ⟨g,0,none⟩),.int .i64 a1] w fun e w'=>e= .returned (.int .i64 r1)∧aJ w0 w' g j3 r2∧Below w0.heap.size w0 w'∧aD w w' g none:=by
 have HI0:=am hI;have HK:=am (aD.refl w g none);have HL:=am hB.size;clear hI;have HW0:=am hB.size;have HB:=am hB;clear hB;unfold aH.f at h;have H:=h;clear h;have jr:=am H;clear H;obtain ⟨ASz4_0,cSz4_0,HGz4,hgz4,HSz4_0⟩:=HI0.out;have ja:=AQ HGz4;have jb:=AU HGz4;have jc:=aZ HGz4 1;clear HGz4 hgz4;go_enter Tryz.func37,Tryz.ntmps37;go_upto_region 2 with (fail);repeat (go_quiet (fail);go_upto_region 2 with (fail))
 go_cut [24] (fun jP wc=>∃ (kq:Nat) (j5:Bool),jP= .bool j5∧Aside0 (aH.j0 kq a1 j5 j3 (wrap64 (j4 + 1))=some (r1,r2))∧Aside0 (kq≤k)∧Aside0 (aJ w0 wc g j3 (wrap64 (j4 + 1)))∧Aside0 (aD w wc g none)∧Aside0 (Below w0.heap.size w0 wc))
 case first=>
  have H:=jr.out;clear jr;by_cases c5:a1 < 1
  ·rw [if_pos c5] at H;have j6:decide (a1 < 1)=true:=dT c5;clear c5
   (first|rw [j6]|(simp only [fA,fE];rw [j6])|skip)
   have H':=am H;clear H;go_wp2;repeat (go_quiet (fail);try go_wp2)
   go_meet
   case rel=>exact ⟨_,(true),sd_,H',⟨by first|omega|exact Nat.le_refl _⟩,⟨fZ⟩,⟨fJ⟩,⟨kJ⟩⟩
  rw [if_neg c5] at H;have j6:decide (a1 < 1)=false:=dF c5;clear c5
  (first|rw [j6]|(simp only [fA,fE];rw [j6])|skip)
  have H':=am H;clear H;obtain ⟨ASz6_0,cSz6_0,HGz6,hgz6,HSz6_0⟩:=HI0.out;have js:=AQ HGz6;have jt:=AU HGz6;have ju:=aZ HGz6 1;clear HGz6 hgz6;go_wp2;repeat (go_quiet (fail);try go_wp2)
  go_meet
  case rel=>exact ⟨_,(((j3.length:Int) == 0)),sd_,H',⟨by first|omega|exact Nat.le_refl _⟩,⟨fZ⟩,⟨fJ⟩,⟨kJ⟩⟩
 case rest=>
  clear jr;try clear ja
  try clear jb
  try clear jc
  obtain ⟨kq,j5,rfl,HA,HJ2,HI0,HK,HB⟩:=hcut;cases kq with
  |zero=>exact absurd HA.out (by simp [aH.j0])
  |succ jU=>
   have H:=HA.out;clear HA;simp only [aH.j0] at H;by_cases c7:j5=true
   ·subst c7;rw [if_pos rfl] at H;simp only [Option.some.injEq,Prod.mk.injEq] at H;obtain ⟨rfl,rfl⟩:=H;go_wp2;repeat (go_quiet (fail);try go_wp2)
    go_ret;exact ⟨rr_,fZ,kJ,fJ⟩
   replace c7:=Bool.eq_false_iff.mpr c7;subst c7;rw [if_neg Bool.false_ne_true] at H;by_cases c8:(wrap64 ((wrap64 (j4 + 1)) - 1)) < (j3.length:Int)
   ·rw [if_pos c8] at H;have jd:decide ((wrap64 ((wrap64 (j4 + 1)) - 1)) < (j3.length:Int))=true:=dT c8;clear c8;obtain ⟨ji9,hji9⟩:∃ j_:Int,(wrap64 ((wrap64 (j4 + 1)) - 1))=j_:=⟨_,rfl⟩;replace H:(if 0≤(ji9) then (if a1=0 then (none) else (some (Int.tmod (wrap64 (rd j3 (ji9))) a1,(wrap64 (j4 + 1))))) else (none))=some (r1,r2):=by first|(rw [hji9] at H;exact H)|(simp only [hji9] at H ⊢;exact H)
    (try rw [hji9] at jd);have hji9w:(IntKind.i64.wrap ((wrap64 (j4 + 1)) - 1))=ji9:=(fA _).trans hji9;by_cases c10:0≤(ji9)
    ·rw [if_pos c10] at H;have jD:decide (0≤(ji9))=true:=dT c10;clear c10;by_cases jf:a1=0
     ·rw [if_pos jf] at H;exact absurd H (by simp)
     rw [if_neg jf] at H;have jE:(a1 == 0)=false:=bE jf;have jF:(a1 != 0)=true:=bne_iff_ne.mpr jf;simp only [Option.some.injEq,Prod.mk.injEq] at H;obtain ⟨rfl,rfl⟩:=H;obtain ⟨ASz12_0,cSz12_0,HGz12,hgz12,HSz12_0⟩:=HI0.out;have jg:=AQ HGz12;have jh:=AU HGz12;have ji:=aZ HGz12 1;clear HGz12 hgz12;have jv:0≤((ji9):Int):=of_decide_eq_true fK;have jw:(ji9) < (j3.length:Int):=of_decide_eq_true fK;obtain ⟨jQ,jR,j7⟩:=Kd.oW HSz12_0 (ji9) jv jw;cases jR;replace j7:=dD HB.out j7;replace jv:=eq_true jv;replace jw:=eq_true jw;go_wp2;repeat (go_quiet (fail);try go_wp2)
     go_ret;exact ⟨by first|rfl|(simp [lM,lN] <;> rfl)|(simp only [← hji9];first|rfl|(simp [lM,lN] <;> rfl))|(simp [*,lM,lN] <;> rfl),fZ,kJ,fJ⟩
    rw [if_neg c10] at H;cases H
   rw [if_neg c8] at H;have jd:decide ((wrap64 ((wrap64 (j4 + 1)) - 1)) < (j3.length:Int))=false:=dF c8;clear c8;by_cases je:(j3.length:Int)=0
   ·rw [if_pos je] at H;exact absurd H (by simp)
   rw [if_neg je] at H;have jG:((j3.length:Int) == 0)=false:=bE je;have jH:((j3.length:Int) != 0)=true:=bne_iff_ne.mpr je;have jI:¬ (j3=[]):=fun h_=>je (by rw [h_];rfl)
   obtain ⟨ji14,hji14⟩:∃ j_:Int,(Int.tmod (wrap64 ((wrap64 (j4 + 1)) - 1)) (j3.length:Int))=j_:=⟨_,rfl⟩;replace H:(if 0≤(ji14) then (if (ji14) < (j3.length:Int) then (if 0≤(Int.tmod (wrap64 ((wrap64 ((wrap64 ((wrap64 (j4 + 1)) - 1)) * 7)) + 3)) (j3.length:Int)) then (if (Int.tmod (wrap64 ((wrap64 ((wrap64 ((wrap64 (j4 + 1)) - 1)) * 7)) + 3)) (j3.length:Int)) < (j3.length:Int) then (if a1=0 then (none) else (some (Int.tmod (Go.bits .xor .i64 (wrap64 ((wrap64 ((wrap64 ((wrap64 ((wrap64 (rd j3 (ji14))) * 131)) + (wrap64 ((wrap64 (rd j3 (Int.tmod (wrap64 ((wrap64 ((wrap64 ((wrap64 (j4 + 1)) - 1)) * 7)) + 3)) (j3.length:Int)))) * 1117)))) + (wrap64 ((wrap64 ((wrap64 (j4 + 1)) - 1)) * 29)))) + (wrap64 ((wrap64 (Int.tdiv (wrap64 ((wrap64 (j4 + 1)) - 1)) (j3.length:Int))) * 53)))) (wrap64 (Int.tdiv (wrap64 ((wrap64 ((wrap64 ((wrap64 ((wrap64 (rd j3 (ji14))) * 131)) + (wrap64 ((wrap64 (rd j3 (Int.tmod (wrap64 ((wrap64 ((wrap64 ((wrap64 (j4 + 1)) - 1)) * 7)) + 3)) (j3.length:Int)))) * 1117)))) + (wrap64 ((wrap64 ((wrap64 (j4 + 1)) - 1)) * 29)))) + (wrap64 ((wrap64 (Int.tdiv (wrap64 ((wrap64 (j4 + 1)) - 1)) (j3.length:Int))) * 53)))) 64))) a1,(wrap64 (j4 + 1))))) else (none)) else (none)) else (none)) else (none))=some (r1,r2):=by first|(rw [hji14] at H;exact H)|(simp only [hji14] at H ⊢;exact H)
   by_cases jj:0≤(ji14)
   ·rw [if_pos jj] at H;have jJ:decide (0≤(ji14))=true:=dT jj;clear jj;by_cases jk:(ji14) < (j3.length:Int)
    ·rw [if_pos jk] at H;have jK:decide ((ji14) < (j3.length:Int))=true:=dT jk;clear jk;obtain ⟨ji17,hji17⟩:∃ j_:Int,(Int.tmod (wrap64 ((wrap64 ((wrap64 ((wrap64 (j4 + 1)) - 1)) * 7)) + 3)) (j3.length:Int))=j_:=⟨_,rfl⟩;replace H:(if 0≤(ji17) then (if (ji17) < (j3.length:Int) then (if a1=0 then (none) else (some (Int.tmod (Go.bits .xor .i64 (wrap64 ((wrap64 ((wrap64 ((wrap64 ((wrap64 (rd j3 (ji14))) * 131)) + (wrap64 ((wrap64 (rd j3 (ji17))) * 1117)))) + (wrap64 ((wrap64 ((wrap64 (j4 + 1)) - 1)) * 29)))) + (wrap64 ((wrap64 (Int.tdiv (wrap64 ((wrap64 (j4 + 1)) - 1)) (j3.length:Int))) * 53)))) (wrap64 (Int.tdiv (wrap64 ((wrap64 ((wrap64 ((wrap64 ((wrap64 (rd j3 (ji14))) * 131)) + (wrap64 ((wrap64 (rd j3 (ji17))) * 1117)))) + (wrap64 ((wrap64 ((wrap64 (j4 + 1)) - 1)) * 29)))) + (wrap64 ((wrap64 (Int.tdiv (wrap64 ((wrap64 (j4 + 1)) - 1)) (j3.length:Int))) * 53)))) 64))) a1,(wrap64 (j4 + 1))))) else (none)) else (none))=some (r1,r2):=by first|(rw [hji17] at H;exact H)|(simp only [hji17] at H ⊢;exact H)
     by_cases jl:0≤(ji17)
     ·rw [if_pos jl] at H;have jL:decide (0≤(ji17))=true:=dT jl;clear jl;by_cases jm:(ji17) < (j3.length:Int)
      ·rw [if_pos jm] at H;have jM:decide ((ji17) < (j3.length:Int))=true:=dT jm;clear jm;by_cases jn:a1=0
       ·rw [if_pos jn] at H;exact absurd H (by simp)
       rw [if_neg jn] at H;have jN:(a1 == 0)=false:=bE jn;have jO:(a1 != 0)=true:=bne_iff_ne.mpr jn;simp only [Option.some.injEq,Prod.mk.injEq] at H;obtain ⟨rfl,rfl⟩:=H;obtain ⟨ASz21_0,cSz21_0,HGz21,hgz21,HSz21_0⟩:=HI0.out;have jo:=AQ HGz21;have jp:=AU HGz21;have jq:=aZ HGz21 1;clear HGz21 hgz21;have jx:0≤((ji14):Int):=of_decide_eq_true fK;have jy:(ji14) < (j3.length:Int):=of_decide_eq_true fK;obtain ⟨jz,jS,j8⟩:=Kd.oW HSz21_0 (ji14) jx jy;cases jS;replace j8:=dD HB.out j8;replace jx:=eq_true jx;replace jy:=eq_true jy;have jA:0≤((ji17):Int):=of_decide_eq_true fK;have jB:(ji17) < (j3.length:Int):=of_decide_eq_true fK;obtain ⟨jC,jT,j9⟩:=Kd.oW HSz21_0 (ji17) jA jB;obtain rfl:jz=jC:=(by injection jT);replace j9:=dD HB.out j9;replace jA:=eq_true jA;replace jB:=eq_true jB;go_wp2;repeat (go_quiet (fail);try go_wp2)
       go_ret;exact ⟨by first|rfl|(simp [lM,lN] <;> rfl)|(simp only [← hji14,← hji17];first|rfl|(simp [lM,lN] <;> rfl))|(simp [*,lM,lN] <;> rfl),fZ,kJ,fJ⟩
      rw [if_neg jm] at H;cases H
     rw [if_neg jl] at H;cases H
    rw [if_neg jk] at H;cases H
   rw [if_neg jj] at H;cases H
theorem iK.calls (a0:Int) (a1:Int) (r1:Int) (r2:Int) (r3:List (S56)) (w:World) (h:iK.f a0 a1=some (r1,r2,r3)):
  Calls Tryz.prog 62 #[.int .i64 a0,.int .i64 a1] w fun e w'=>∃ v2_:Value,e= .returned (.agg #[.int .i64 r1,.int .i64 r2,v2_])∧Kd.R k56 56 w' w.heap.size (fun _=>True) v2_ r3∧Below w.heap.size w w':=by
 have hu56:=Tryz.underlying56;have HB:=am (Below.refl w.heap.size w);have H:(some (a0,a1,(([]:List (S56)))))=some (r1,r2,r3):=h;clear h;obtain ⟨j7,hy_⟩:∃ y_:List (S56),y_=(([]:List (S56))):=⟨_,rfl⟩;replace H:(some (a0,a1,j7))=some (r1,r2,r3):=rx_;have j5:=am hy_;clear hy_;simp only [Option.some.injEq,Prod.mk.injEq] at H;obtain ⟨rfl,rfl,rfl⟩:=H;go_enter Tryz.func62,Tryz.ntmps62;go_wp2_with (first|((with_reducible refine gD 4 rfl ?_);refine dU rfl (N:=4) rfl (cs:=#[.int .i64 0,.int .i64 0,.slice none 0 0]) (t:=56) rn_ ?_;intro j3 hg w3 hbox hb;have j4:=am (hbox);have jg:=am ((by rw [hg];exact (aI eG):w.heap.size≤j3));have GE21:=am ((by rw [hg];exact (aI eG):w.heap.size≤j3));replace HB:=am (aA eG hb);clear hb hbox hg)|((with_reducible refine gD 7 rfl ?_);refine Kd.oL k56 _ 56 rfl (N:=7) rfl (xs:=([]:List (S56))) (inner:=[]) (ok:=fun _=>True) (okp:=fun _=>True) rn_ ?hp (fun _ hk=>hk) trivial (Below.refl _ _) (Nat.le_refl _) (by simp) ?_;(case hp=>exact (dF.none _ _));intro ji w4 ho5 hb hg_ hnew_;clear hg_ hnew_;(first|rw [← j5.out] at ho5|(simp only [Int.reduceToNat] at ho5;rw [← j5.out] at ho5));have j6:=am (Kd.fB (Kd.RQ ho5 (g:=j3) (o:=.cells #[.int .i64 0,.int .i64 0,.slice none 0 0] 56 (0,0)) (aG_ j4.out)) (aI wE));replace j4:=bbP j4 hb;replace HB:=am (aA wE hb);clear hb ho5;obtain ⟨je,jf,jh⟩:=Kd.eY j6.out;subst jh;obtain ⟨j8,j9,ja,jb,jc,jd⟩:=mE j4.out));refine bodyPost_ret (results_cell_row rfl _ _ j3 56 #[.int .i64 a0,.int .i64 a1,.slice je j7.length jf] (0,0) _ rfl (aV (aV (aV j4.out 0 _ rfl) 1 _ rfl) 2 _ rfl) Tryz.underlying56 rfl (by kernel_rfl)) rfl ?_;exact ⟨_,gU,gI (Kd.bN (Kd.gP (p:=⟨j3,2,none⟩) (Kd.gP (p:=⟨j3,1,none⟩) (Kd.gP (p:=⟨j3,0,none⟩) (Kd.bN j6.out (fun k_ hk=>(⟨hk,hk.2⟩:_∧k_≠j3))) (fun _ hk=>hk.2) (.int .i64 a0)) (fun _ hk=>hk.2) (.int .i64 a1)) (fun _ hk=>hk.2) (.slice je j7.length jf)) (fun _ hk=>trivial)),wE⟩
theorem iM.mono:∀ a0 a1 k,LeO (iM.f k a0 a1) (iM.f (k + 1) a0 a1):=by
 intro a0 a1 k;unfold iM.f;have m0:=@aH.mono;exact mo_
theorem iM.calls (k:Nat) (g:Nat) (j6:List Int) (j8:Int) (r1:Int) (r2:Int) (r3:List (S56)) (r4:Int) (w0 w:World) (hI:aJ w0 w g j6 j8) (hB:Below w0.heap.size w0 w) (h:iM.f k j6 j8=some (r1,r2,r3,r4)):
  Calls Tryz.prog 38 #[.pointer (some ⟨g,0,none⟩)] w fun e w'=>∃ v2_:Value,e= .returned (.agg #[.int .i64 r1,.int .i64 r2,v2_])∧Kd.R k56 56 w' w.heap.size (fun _=>True) v2_ r3∧aJ w0 w' g j6 r4∧Below w0.heap.size w0 w'∧aD w w' g none:=by
 have hu56:=Tryz.underlying56;have HI0:=am hI;have HK:=am (aD.refl w g none);have HL:=am hB.size;clear hI;have HW0:=am hB.size;have HB:=am hB;clear hB;unfold iM.f at h;have H:=h;clear h;obtain ⟨⟨j9,jf⟩,A2,H⟩:=bsa H;(try dsimp only at H);have HH_:=am H;clear H;go_enter Tryz.func38,Tryz.ntmps38;go_upto_region 2 with (first|((with_reducible refine gD 2 rfl ?_);refine dU rfl (N:=2) rfl (cs:=#[.int .i64 0,.int .i64 0,.slice none 0 0]) (t:=56) rn_ ?_;intro j3 hg w6 hbox hb;replace HB:=am (aA kJ hb);have j4:=am (hbox);have GW48:=am ((by rw [hg];exact (aN (w:=w) (g:=g) (row:=none) fJ):w.heap.size≤j3));have GE48:=am ((Nat.le_trans HW0.out (by rw [hg];exact (aN (w:=w) (g:=g) (row:=none) fJ):w.heap.size≤j3):w0.heap.size≤j3));replace HK:=am (aD.trans fJ (aD.of_below hb g none) (.inl rfl));have NB0_48:=am ((by rw [hg];exact Nat.ne_of_lt (aJ.lt (show aJ w0 _ g j6 j8 from fZ)):g≠j3));have j5:=am ((by rw [hg];exact Nat.ne_of_gt (aJ.lt (show aJ w0 _ g j6 j8 from fZ)):j3≠g));replace HI0:=am (aJ.below fZ hb);clear hb hbox hg)|((with_reducible refine gC 37 rfl ?_);refine gl_ 4 Tryz.func37 #[.pointer (some ⟨g,0,none⟩),.int .i64 4] ?_;(with_reducible refine (aH.calls k g j6 j8 4 j9 jf w0 _ ?side1 ?side2 A2.out).mono ?_);(case side1=>exact xX);(case side2=>exact yK);rintro e w7 ⟨rfl,hi,hb,hk⟩;refine ⟨_,rfl,?_⟩;replace j4:=am (aD.blk hk (g':=j3) (o:=.cells #[.int .i64 0,.int .i64 0,.slice none 0 0] 56 (0,0)) (aG_ j4.out) j5.out (by simp));replace HK:=am (aD.trans vJ hk (.inl rfl));replace HB:=am (hb);replace HI0:=am (hi);(try clear hb);(try clear hk);(try clear hi)));have H:=HH_.out;clear HH_;by_cases c3:j9=0
 ·rw [if_pos c3] at H;have jM:(j9 == 0)=true:=beq_iff_eq.mpr c3;have jN:(j9 != 0)=false:=bF c3;clear c3;obtain ⟨⟨jO,qi⟩,A4,H⟩:=bsa H;(try dsimp only at H);obtain ⟨⟨jP,jQ,jR⟩,A5,H⟩:=bsa H;(try dsimp only at H);simp only [Option.some.injEq,Prod.mk.injEq] at H;obtain ⟨rfl,rfl,rfl,rfl⟩:=H;go_wp2_with (first|((with_reducible refine gC 37 rfl ?_);refine gl_ 8 Tryz.func37 #[.pointer (some ⟨g,0,none⟩),.int .i64 4] ?_;(with_reducible refine (aH.calls k g j6 jf 4 jO qi w0 _ ?side1 ?side2 A4.out).mono ?_);(case side1=>exact xX);(case side2=>exact yK);rintro e w8 ⟨rfl,hi,hb,hk⟩;refine ⟨_,rfl,?_⟩;replace j4:=am (aD.blk hk (g':=j3) (o:=.cells #[.int .i64 0,.int .i64 0,.slice none 0 0] 56 (0,0)) (aG_ j4.out) j5.out (by simp));replace HK:=am (aD.trans vJ hk (.inl rfl));replace HB:=am (hb);replace HI0:=am (hi);(try clear hb);(try clear hk);(try clear hi))|((with_reducible refine gC 62 rfl ?_);refine gl_ 9 Tryz.func62 #[.int .i64 0,.int .i64 jO] ?_;(with_reducible refine (iK.calls 0 jO jP jQ jR _ A5.out).mono ?_);rintro e w9 ⟨qt,rfl,ho0,hb⟩;refine ⟨_,rfl,?_⟩;have jg:=am (Kd.fB (Kd.RQ ho0 (g:=j3) (o:=.cells #[.int .i64 0,.int .i64 0,.slice none 0 0] 56 (0,0)) (aG_ j4.out)) (aN (w:=w) (g:=g) (row:=none) vJ));replace j4:=bbP j4 hb;replace HK:=am (aD.trans vJ (aD.of_below hb g none) (.inl rfl));replace HB:=am (aA yK hb);replace HI0:=am (aJ.below xX hb);(try clear hb);(try clear ho0);have q6:=j5.out;have q7:=NB0_48.out;obtain ⟨js,jt,ju,jv,jw,jx⟩:=mE j4.out;obtain ⟨jh,ji,jS⟩:=Kd.eY jg.out;subst jS));refine bodyPost_ret (results_cell_row rfl _ _ j3 56 #[.int .i64 jP,.int .i64 jQ,.slice jh jR.length ji] (0,0) _ rfl (aV (aV (aV j4.out 0 _ rfl) 1 _ rfl) 2 _ rfl) Tryz.underlying56 rfl (by kernel_rfl)) rfl ?_;exact ⟨_,gU,gI (Kd.bN (Kd.gP (p:=⟨j3,2,none⟩) (Kd.gP (p:=⟨j3,1,none⟩) (Kd.gP (p:=⟨j3,0,none⟩) (Kd.bN jg.out (fun k_ hk=>(⟨hk,hk.2⟩:_∧k_≠j3))) (fun _ hk=>hk.2) (.int .i64 jP)) (fun _ hk=>hk.2) (.int .i64 jQ)) (fun _ hk=>hk.2) (.slice jh jR.length ji)) (fun _ hk=>trivial)),xX,yK,vJ⟩
 rw [if_neg c3] at H;have jM:(j9 == 0)=false:=bE c3;have jN:(j9 != 0)=true:=bne_iff_ne.mpr c3;by_cases jc:j9=1
 ·rw [if_pos jc] at H;have jj:(j9 == 1)=true:=beq_iff_eq.mpr jc;have jk:(j9 != 1)=false:=bF jc;clear jc;obtain ⟨jd,hy_⟩:∃ y_:List Int,y_=(([5,31,32,100,2047,2048,65536,99999]:List Int)):=⟨_,rfl⟩;replace H:((aH.f k j6 jf 8).bind fun jb=>(if 0≤jb.1 then (if jb.1 < (jd.length:Int) then ((iK.f 0 (rd jd jb.1)).bind fun je=>(some (je.1,je.2.1,je.2.2,jb.2))) else (none)) else (none)))=some (r1,r2,r3,r4):=rx_;have jl:=am hy_;clear hy_;obtain ⟨⟨ja,qj⟩,q8,H⟩:=bsm H;(try dsimp only at H);have qk:=am q8;clear q8;by_cases jy:0≤ja
  ·rw [if_pos jy] at H;have q9:decide (0≤ja)=true:=dT jy;clear jy;by_cases jz:ja < (jd.length:Int)
   ·rw [if_pos jz] at H;have qa:decide (ja < (jd.length:Int))=true:=dT jz;clear jz;obtain ⟨⟨jT,jU,jV⟩,qb,H⟩:=bsm H;(try dsimp only at H);have ql:=am qb;clear qb;simp only [Option.some.injEq,Prod.mk.injEq] at H;obtain ⟨rfl,rfl,rfl,rfl⟩:=H;go_wp2_with (first|((with_reducible refine gD 12 rfl ?_);refine Kd.oL (Kd.int .i64) _ 3 rfl (N:=12) rfl (xs:=([5,31,32,100,2047,2048,65536,99999]:List Int)) (inner:=[.int .i64 5,.int .i64 31,.int .i64 32,.int .i64 100,.int .i64 2047,.int .i64 2048,.int .i64 65536,.int .i64 99999]) (ok:=fun _=>True) (okp:=fun _=>True) rn_ ?hp (fun _ hk=>hk) trivial (Below.refl _ _) (Nat.le_refl _) (by simp) ?_;(case hp=>exact (dF.one (show Kd.M (Kd.int .i64) _ _ _ 5 [.int .i64 5] from rfl) (dF.one (show Kd.M (Kd.int .i64) _ _ _ 31 [.int .i64 31] from rfl) (dF.one (show Kd.M (Kd.int .i64) _ _ _ 32 [.int .i64 32] from rfl) (dF.one (show Kd.M (Kd.int .i64) _ _ _ 100 [.int .i64 100] from rfl) (dF.one (show Kd.M (Kd.int .i64) _ _ _ 2047 [.int .i64 2047] from rfl) (dF.one (show Kd.M (Kd.int .i64) _ _ _ 2048 [.int .i64 2048] from rfl) (dF.one (show Kd.M (Kd.int .i64) _ _ _ 65536 [.int .i64 65536] from rfl) (dF.one (show Kd.M (Kd.int .i64) _ _ _ 99999 [.int .i64 99999] from rfl) (dF.none _ _))))))))));intro qu qv ho21 hb hg_ hnew_;clear hg_ hnew_;(first|rw [← jl.out] at ho21|(simp only [Int.reduceToNat] at ho21;rw [← jl.out] at ho21));have j7:=am (Kd.fB ho21 (aN (w:=w) (g:=g) (row:=none) vJ));replace j4:=bbP j4 hb;replace HK:=am (aD.trans vJ (aD.of_below hb g none) (.inl rfl));replace HB:=am (aA yK hb);replace HI0:=am (aJ.below xX hb);clear hb ho21)|((with_reducible refine gC 37 rfl ?_);refine gl_ 14 Tryz.func37 #[.pointer (some ⟨g,0,none⟩),.int .i64 8] ?_;(with_reducible refine (aH.calls k g j6 jf 8 ja qj w0 _ ?side1 ?side2 qk.out).mono ?_);(case side1=>exact xX);(case side2=>exact yK);rintro e qw ⟨rfl,hi,hb,hk⟩;refine ⟨_,rfl,?_⟩;replace j4:=am (aD.blk hk (g':=j3) (o:=.cells #[.int .i64 0,.int .i64 0,.slice none 0 0] 56 (0,0)) (aG_ j4.out) j5.out (by simp));replace j7:=am (Kd.bN (Kd.rH (aJ.apart (show aJ w0 _ g j6 jf from xX) (aR_ j7.out) (by decide)) hk (fun _ h=>h.2)) (fun _ h=>h.1));replace HK:=am (aD.trans vJ hk (.inl rfl));replace HB:=am (hb);replace HI0:=am (hi);(try clear hb);(try clear hk);(try clear hi);obtain ⟨qm,qn,jW⟩:=Kd.eY j7.out;subst jW;have jX:0≤(ja:Int):=of_decide_eq_true fK;have jY:ja < (jd.length:Int):=of_decide_eq_true fK;obtain ⟨qo,qp,jZ⟩:=Kd.oW (Kd.eX j7.out).2.2 ja jX jY;cases qp;replace jX:=eq_true jX;replace jY:=eq_true jY)|((with_reducible refine gC 62 rfl ?_);refine gl_ 17 Tryz.func62 #[.int .i64 0,.int .i64 (rd jd ja)] ?_;(with_reducible refine (iK.calls 0 (rd jd ja) jT jU jV _ ql.out).mono ?_);rintro e qx ⟨qy,rfl,ho0,hb⟩;refine ⟨_,rfl,?_⟩;replace j7:=am (Kd.fT (aR_ j7.out) hb);have jm:=am (Kd.fB (Kd.RQ ho0 (g:=j3) (o:=.cells #[.int .i64 0,.int .i64 0,.slice none 0 0] 56 (0,0)) (aG_ j4.out)) (aN (w:=w) (g:=g) (row:=none) vJ));replace j4:=bbP j4 hb;replace HK:=am (aD.trans vJ (aD.of_below hb g none) (.inl rfl));replace HB:=am (aA yK hb);replace HI0:=am (aJ.below xX hb);(try clear hb);(try clear ho0);have qc:=j5.out;have qd:=NB0_48.out;obtain ⟨jA,jB,jC,jD,jE,jF⟩:=mE j4.out;obtain ⟨jn,jo,q0⟩:=Kd.eY jm.out;subst q0));refine bodyPost_ret (results_cell_row rfl _ _ j3 56 #[.int .i64 jT,.int .i64 jU,.slice jn jV.length jo] (0,0) _ rfl (aV (aV (aV j4.out 0 _ rfl) 1 _ rfl) 2 _ rfl) Tryz.underlying56 rfl (by kernel_rfl)) rfl ?_;exact ⟨_,gU,gI (Kd.bN (Kd.gP (p:=⟨j3,2,none⟩) (Kd.gP (p:=⟨j3,1,none⟩) (Kd.gP (p:=⟨j3,0,none⟩) (Kd.bN jm.out (fun k_ hk=>(⟨hk,hk.2⟩:_∧k_≠j3))) (fun _ hk=>hk.2) (.int .i64 jT)) (fun _ hk=>hk.2) (.int .i64 jU)) (fun _ hk=>hk.2) (.slice jn jV.length jo)) (fun _ hk=>trivial)),xX,yK,vJ⟩
   rw [if_neg jz] at H;cases H
  rw [if_neg jy] at H;cases H
 rw [if_neg jc] at H;have jj:(j9 == 1)=false:=bE jc;have jk:(j9 != 1)=true:=bne_iff_ne.mpr jc;obtain ⟨⟨q1,qq⟩,qe,H⟩:=bsm H;(try dsimp only at H);have qr:=am qe;clear qe;obtain ⟨⟨q2,q3,q4⟩,qf,H⟩:=bsm H;(try dsimp only at H);have qs:=am qf;clear qf;simp only [Option.some.injEq,Prod.mk.injEq] at H;obtain ⟨rfl,rfl,rfl,rfl⟩:=H;go_wp2_with (first|((with_reducible refine gC 37 rfl ?_);refine gl_ 19 Tryz.func37 #[.pointer (some ⟨g,0,none⟩),.int .i64 4] ?_;(with_reducible refine (aH.calls k g j6 jf 4 q1 qq w0 _ ?side1 ?side2 qr.out).mono ?_);(case side1=>exact xX);(case side2=>exact yK);rintro e qz ⟨rfl,hi,hb,hk⟩;refine ⟨_,rfl,?_⟩;replace j4:=am (aD.blk hk (g':=j3) (o:=.cells #[.int .i64 0,.int .i64 0,.slice none 0 0] 56 (0,0)) (aG_ j4.out) j5.out (by simp));replace HK:=am (aD.trans vJ hk (.inl rfl));replace HB:=am (hb);replace HI0:=am (hi);(try clear hb);(try clear hk);(try clear hi))|((with_reducible refine gC 62 rfl ?_);refine gl_ 20 Tryz.func62 #[.int .i64 13,.int .i64 q1] ?_;(with_reducible refine (iK.calls 13 q1 q2 q3 q4 _ qs.out).mono ?_);rintro e qA ⟨qB,rfl,ho0,hb⟩;refine ⟨_,rfl,?_⟩;have jp:=am (Kd.fB (Kd.RQ ho0 (g:=j3) (o:=.cells #[.int .i64 0,.int .i64 0,.slice none 0 0] 56 (0,0)) (aG_ j4.out)) (aN (w:=w) (g:=g) (row:=none) vJ));replace j4:=bbP j4 hb;replace HK:=am (aD.trans vJ (aD.of_below hb g none) (.inl rfl));replace HB:=am (aA yK hb);replace HI0:=am (aJ.below xX hb);(try clear hb);(try clear ho0);have qg:=j5.out;have qh:=NB0_48.out;obtain ⟨jG,jH,jI,jJ,jK,jL⟩:=mE j4.out;obtain ⟨jq,jr,q5⟩:=Kd.eY jp.out;subst q5));refine bodyPost_ret (results_cell_row rfl _ _ j3 56 #[.int .i64 q2,.int .i64 q3,.slice jq q4.length jr] (0,0) _ rfl (aV (aV (aV j4.out 0 _ rfl) 1 _ rfl) 2 _ rfl) Tryz.underlying56 rfl (by kernel_rfl)) rfl ?_;exact ⟨_,gU,gI (Kd.bN (Kd.gP (p:=⟨j3,2,none⟩) (Kd.gP (p:=⟨j3,1,none⟩) (Kd.gP (p:=⟨j3,0,none⟩) (Kd.bN jp.out (fun k_ hk=>(⟨hk,hk.2⟩:_∧k_≠j3))) (fun _ hk=>hk.2) (.int .i64 q2)) (fun _ hk=>hk.2) (.int .i64 q3)) (fun _ hk=>hk.2) (.slice jq q4.length jr)) (fun _ hk=>trivial)),xX,yK,vJ⟩
theorem dR.mono_l:∀ k,(∀ y0 y1 y2 y3 y4,LeO (dR.l0 k y0 y1 y2 y3 y4) (dR.l0 (k + 1) y0 y1 y2 y3 y4))
 |0=>fun _ _ _ _ _ r h=>by simp [dR.l0] at h
 |k + 1=>by
  have ih0:=dR.mono_l k
  ·intro y0 y1 y2 y3 y4;unfold dR.l0;have m0:=@aH.mono;exact mo_
theorem dR.mono:∀ a0 a1 k,LeO (dR.f k a0 a1) (dR.f (k + 1) a0 a1):=by
 intro a0 a1 k;have ih0:=dR.mono_l k;unfold dR.f;have m0:=@aH.mono;exact mo_
theorem dR.calls (k:Nat) (g:Nat) (j3:List Int) (j9:Int) (r1:List Int) (r2:Int) (w0 w:World) (hI:aJ w0 w g j3 j9) (hB:Below w0.heap.size w0 w) (h:dR.f k j3 j9=some (r1,r2)):
  Calls Tryz.prog 59 #[.pointer (some ⟨g,0,none⟩)] w fun e w'=>∃ v0_:Value,e= .returned (v0_)∧Kd.R (Kd.int .i64) 3 w' w.heap.size (fun _=>True) v0_ r1∧aJ w0 w' g j3 r2∧Below w0.heap.size w0 w'∧aD w w' g none:=by
 have HI0:=am hI;have HK:=am (aD.refl w g none);have HL:=am hB.size;clear hI;have HW0:=am hB.size;have HB:=am hB;clear hB;unfold dR.f at h;have H:=h;clear h;obtain ⟨ju,hy_⟩:∃ y_:List Int,y_=(([]:List Int)):=⟨_,rfl⟩;replace H:((some (([0,1,1,2,2,3]:List Int):List Int)).bind fun jb=>((aH.f k j3 j9 6).bind fun j6=>(if 0≤j6.1 then (if j6.1 < (jb.length:Int) then (dR.l0 k ju (rd jb j6.1) 0 j3 j6.2) else (none)) else (none))))=some (r1,r2):=rx_;have jk:=am hy_;clear hy_;obtain ⟨jb,hy_⟩:∃ y_:List Int,y_=(([0,1,1,2,2,3]:List Int)):=⟨_,rfl⟩;replace H:((aH.f k j3 j9 6).bind fun j6=>(if 0≤j6.1 then (if j6.1 < (jb.length:Int) then (dR.l0 k ju (rd jb j6.1) 0 j3 j6.2) else (none)) else (none)))=some (r1,r2):=rx_;have jl:=am hy_;clear hy_;obtain ⟨⟨jc,jH⟩,A2,H⟩:=bsa H;(try dsimp only at H);by_cases c3:0≤jc
 ·rw [if_pos c3] at H;have jv:decide (0≤jc)=true:=dT c3;clear c3;by_cases c4:jc < (jb.length:Int)
  ·rw [if_pos c4] at H;have jw:decide (jc < (jb.length:Int))=true:=dT c4;clear c4;have H':=am H;clear H;go_enter Tryz.func59,Tryz.ntmps59;go_wp2_with (first|((with_reducible refine gD 6 rfl ?_);refine Kd.oL (Kd.int .i64) _ 3 rfl (N:=6) rfl (xs:=([]:List Int)) (inner:=[]) (ok:=fun _=>True) (okp:=fun _=>True) rn_ ?hp (fun _ hk=>hk) trivial (Below.refl _ _) (Nat.le_refl _) (by simp) ?_;(case hp=>exact (dF.none _ _));intro jU w5 ho6 hb hg_ hnew_;clear hg_ hnew_;(first|rw [← jk.out] at ho6|(simp only [Int.reduceToNat] at ho6;rw [← jk.out] at ho6));have jd:=am (Kd.fB ho6 (aN (w:=w) (g:=g) (row:=none) fJ));replace HK:=am (aD.trans fJ (aD.of_below hb g none) (.inl rfl));replace HB:=am (aA kJ hb);replace HI0:=am (aJ.below fZ hb);clear hb ho6)|((with_reducible refine gD 7 rfl ?_);refine Kd.oL (Kd.int .i64) _ 3 rfl (N:=7) rfl (xs:=([0,1,1,2,2,3]:List Int)) (inner:=[.int .i64 0,.int .i64 1,.int .i64 1,.int .i64 2,.int .i64 2,.int .i64 3]) (ok:=fun _=>True) (okp:=fun _=>True) rn_ ?hp (fun _ hk=>hk) trivial (Below.refl _ _) (Nat.le_refl _) (by simp) ?_;(case hp=>exact (dF.one (show Kd.M (Kd.int .i64) _ _ _ 0 [.int .i64 0] from rfl) (dF.one (show Kd.M (Kd.int .i64) _ _ _ 1 [.int .i64 1] from rfl) (dF.one (show Kd.M (Kd.int .i64) _ _ _ 1 [.int .i64 1] from rfl) (dF.one (show Kd.M (Kd.int .i64) _ _ _ 2 [.int .i64 2] from rfl) (dF.one (show Kd.M (Kd.int .i64) _ _ _ 2 [.int .i64 2] from rfl) (dF.one (show Kd.M (Kd.int .i64) _ _ _ 3 [.int .i64 3] from rfl) (dF.none _ _))))))));intro jV w7 ho8 hb hg_ hnew_;clear hg_ hnew_;(first|rw [← jl.out] at ho8|(simp only [Int.reduceToNat] at ho8;rw [← jl.out] at ho8));have jf:=am (Kd.fB (Kd.lF ho8 (Kd.iG (aR_ jd.out))) (aN (w:=w) (g:=g) (row:=none) fJ));replace jd:=am (Kd.iD (aR_ jd.out) (Kd.iN ho8) hb);replace HK:=am (aD.trans fJ (aD.of_below hb g none) (.inl rfl));replace HB:=am (aA kJ hb);replace HI0:=am (aJ.below fZ hb);clear hb ho8)|((with_reducible refine gC 37 rfl ?_);refine gl_ 9 Tryz.func37 #[.pointer (some ⟨g,0,none⟩),.int .i64 6] ?_;(with_reducible refine (aH.calls k g j3 j9 6 jc jH w0 _ ?side1 ?side2 A2.out).mono ?_);(case side1=>exact fZ);(case side2=>exact kJ);rintro e w9 ⟨rfl,hi,hb,hk⟩;refine ⟨_,rfl,?_⟩;replace jd:=am (Kd.bN (Kd.rH (aJ.apart (show aJ w0 _ g j3 j9 from fZ) (aR_ jd.out) (by decide)) hk (fun _ h=>h.2)) (fun _ h=>h.1));replace jf:=am (Kd.bN (Kd.rH (aJ.apart (show aJ w0 _ g j3 j9 from fZ) (aR_ jf.out) (by decide)) hk (fun _ h=>h.2)) (fun _ h=>h.1));replace HK:=am (aD.trans fJ hk (.inl rfl));replace HB:=am (hb);replace HI0:=am (hi);(try clear hb);(try clear hk);(try clear hi);obtain ⟨jN,jO,jx⟩:=Kd.eY jf.out;subst jx;have jp:0≤(jc:Int):=of_decide_eq_true fK;have jq:jc < (jb.length:Int):=of_decide_eq_true fK;obtain ⟨jP,jQ,ji⟩:=Kd.oW (Kd.eX jf.out).2.2 jc jp jq;cases jQ;replace jp:=eq_true jp;replace jq:=eq_true jq))
   go_loopg [3,5] k (fun kq v3 v5 w'=>∃ (j8:List Int) (j7:Int) (j4:Int),v5= .int .i64 j7∧Aside0 (dR.l0 kq j8 (rd jb jc) j7 j3 j4=some (r1,r2))∧Aside0 (kq≤k)∧Aside0 (Kd.R (Kd.int .i64) 3 w' w.heap.size (fun _=>True) v3 j8)∧Aside0 (aJ w0 w' g j3 j4)∧Aside0 (aD w w' g none)∧Aside0 (Below w0.heap.size w0 w'))
   case atStart=>exact ⟨(ju),(0),(jH),sd_,H',⟨Nat.le_refl _⟩,⟨gI (Kd.bN jd.out (fun _ hk=>trivial))⟩,⟨fZ⟩,⟨fJ⟩,⟨kJ⟩⟩
   case round=>
    clear H';try clear c3
    try clear jv
    try clear c4
    try clear jw
    try clear ji
    try clear jp
    try clear jq
    obtain ⟨j8,j7,j4,rfl,HA,jI,j5,HI0,HK,HB⟩:=hrel;cases gk with
    |zero=>exact absurd HA.out (by simp [dR.l0])
    |succ k1=>
     have H:=HA.out;clear HA;simp only [dR.l0] at H;by_cases jj:j7 < (rd jb jc)
     ·rw [if_pos jj] at H;have jm:decide (j7 < (rd jb jc))=true:=dT jj;clear jj;obtain ⟨jg,hy_⟩:∃ y_:List Int,y_=(([1,1,2,3,4]:List Int)):=⟨_,rfl⟩;replace H:((aH.f k1 j3 j4 5).bind fun jh=>(if 0≤jh.1 then (if jh.1 < (jg.length:Int) then (if j8.length < 17592186044416 then (dR.l0 k1 (j8 ++ [rd jg jh.1]) (rd jb jc) (wrap64 (j7 + 1)) j3 jh.2) else (none)) else (none)) else (none)))=some (r1,r2):=rx_;have jn:=am hy_;clear hy_;obtain ⟨⟨je,jy⟩,jJ,H⟩:=bsm H;(try dsimp only at H);have jR:=am jJ;clear jJ;by_cases jr:0≤je
      ·rw [if_pos jr] at H;have jK:decide (0≤je)=true:=dT jr;clear jr;by_cases js:je < (jg.length:Int)
       ·rw [if_pos js] at H;have jL:decide (je < (jg.length:Int))=true:=dT js;clear js;by_cases jt:j8.length < 17592186044416
        ·rw [if_pos jt] at H;have jo:=am jt;clear jt;obtain ⟨jM,hy_⟩:∃ y_:List Int,y_=(j8 ++ [rd jg je]):=⟨_,rfl⟩;replace H:(dR.l0 k1 jM (rd jb jc) (wrap64 (j7 + 1)) j3 jy)=some (r1,r2):=rx_;have jz:=am hy_;clear hy_;have H':=am H;clear H;go_wp2_with (first|((with_reducible refine gD 18 rfl ?_);refine Kd.oL (Kd.int .i64) _ 3 rfl (N:=18) rfl (xs:=([1,1,2,3,4]:List Int)) (inner:=[.int .i64 1,.int .i64 1,.int .i64 2,.int .i64 3,.int .i64 4]) (ok:=fun _=>True) (okp:=fun _=>True) rn_ ?hp (fun _ hk=>hk) trivial (Below.refl _ _) (Nat.le_refl _) (by simp) ?_;(case hp=>exact (dF.one (show Kd.M (Kd.int .i64) _ _ _ 1 [.int .i64 1] from rfl) (dF.one (show Kd.M (Kd.int .i64) _ _ _ 1 [.int .i64 1] from rfl) (dF.one (show Kd.M (Kd.int .i64) _ _ _ 2 [.int .i64 2] from rfl) (dF.one (show Kd.M (Kd.int .i64) _ _ _ 3 [.int .i64 3] from rfl) (dF.one (show Kd.M (Kd.int .i64) _ _ _ 4 [.int .i64 4] from rfl) (dF.none _ _)))))));intro jW jX ho17 hb hg_ hnew_;clear hg_ hnew_;(first|rw [← jn.out] at ho17|(simp only [Int.reduceToNat] at ho17;rw [← jn.out] at ho17));have ja:=am (Kd.fB (Kd.lF ho17 (Kd.iG (aR_ j5.out))) (aN (w:=w) (g:=g) (row:=none) fJ));replace j5:=am (Kd.iD (aR_ j5.out) (Kd.iN ho17) hb);replace HK:=am (aD.trans fJ (aD.of_below hb g none) (.inl rfl));replace HB:=am (aA kJ hb);replace HI0:=am (aJ.below fZ hb);clear hb ho17)|((with_reducible refine gC 37 rfl ?_);refine gl_ 20 Tryz.func37 #[.pointer (some ⟨g,0,none⟩),.int .i64 5] ?_;(with_reducible refine (aH.calls k1 g j3 j4 5 je jy w0 _ ?side1 ?side2 jR.out).mono ?_);(case side1=>exact fZ);(case side2=>exact kJ);rintro e jY ⟨rfl,hi,hb,hk⟩;refine ⟨_,rfl,?_⟩;replace j5:=am (Kd.bN (Kd.rH (aJ.apart (show aJ w0 _ g j3 j4 from fZ) (aR_ j5.out) (by decide)) hk (fun _ h=>h.2)) (fun _ h=>h.1));replace ja:=am (Kd.bN (Kd.rH (aJ.apart (show aJ w0 _ g j3 j4 from fZ) (aR_ ja.out) (by decide)) hk (fun _ h=>h.2)) (fun _ h=>h.1));replace HK:=am (aD.trans fJ hk (.inl rfl));replace HB:=am (hb);replace HI0:=am (hi);(try clear hb);(try clear hk);(try clear hi);obtain ⟨jS,jA,jB⟩:=Kd.eY ja.out;subst jB;have jC:0≤(je:Int):=of_decide_eq_true fK;have jD:je < (jg.length:Int):=of_decide_eq_true fK;obtain ⟨jE,jT,jF⟩:=Kd.oW (Kd.eX ja.out).2.2 je jC jD;cases jT;replace jC:=eq_true jC;replace jD:=eq_true jD)|((with_reducible refine dV (b:=.append) (xs:=#[.tmp 17,.tmp 23]) rfl ?_);at_builtin;refine Kd.kQ (Kd.int .i64) w.heap.size rfl (.tmp 17) (.tmp 23) 23 3 (.int .i64 0) 8 rfl Tryz.underlying23 info3 rfl (by decide) (by omega) u3 j8 (rd jg je) [.int .i64 (rd jg je)] (fun k_=>some k_≠(.slice (some jE) jg.length jA:Value).ownBlock) (fun _=>False) rfl rfl ?aP (fun _ hk=>hk.elim) ?aF ?aO (Below.refl _ _) ?aS ?aL ?_;(case aP=>exact rfl);(case aF=>exact (fun k_ hk=>Kd.fresh' (Kd.iG (aR_ ja.out)) k_ hk));(case aO=>exact (gI (Kd.bN j5.out (fun _ hk=>hk.2))));(case aS=>exact (aN (w:=w) (g:=g) (row:=none) fJ));(case aL=>have:=jo.out;omega);intro jZ q0 ho hb hg hat;rw [← jz.out] at ho;replace ja:=am (Kd.iX (ok:=(fun _=>True)) (aR_ ja.out) hg hat);replace HB:=am (oD kJ HL.out hb);replace HI0:=am (aJ.grown fZ hg (aJ.own_ne HI0.out j5.out (by decide)));replace HK:=am (aD.trans fJ (aD.gF hg g) (Kd.RO j5.out));have jG:=am (ho);clear j5 ho hb hg hat));go_roundg k1;case measure=>have:=jI.out;omega
         case rel=>exact ⟨(jM),(wrap64 (j7 + 1)),(jy),sd_,H',⟨by have:=jI.out;omega⟩,⟨gI (Kd.bN jG.out (fun _ hk=>trivial))⟩,⟨fZ⟩,⟨fJ⟩,⟨kJ⟩⟩
        rw [if_neg jt] at H;cases H
       rw [if_neg js] at H;cases H
      rw [if_neg jr] at H;cases H
     rw [if_neg jj] at H;have jm:decide (j7 < (rd jb jc))=false:=dF jj;clear jj;simp only [Option.some.injEq,Prod.mk.injEq] at H;obtain ⟨rfl,rfl⟩:=H;go_wp2;go_ret;exact ⟨_,gU,gI j5.out,fZ,kJ,fJ⟩
  rw [if_neg c4] at H;cases H
 rw [if_neg c3] at H;cases H
theorem bS.mono_l:∀ k,(∀ y0,LeO (bS.f k y0) (bS.f (k + 1) y0))∧(∀ y0 y1 y2,LeO (bS.l0 k y0 y1 y2) (bS.l0 (k + 1) y0 y1 y2))
 |0=>⟨fun _ r h=>by simp [bS.f] at h,fun _ _ _ r h=>by simp [bS.l0] at h⟩
 |k + 1=>by
  obtain ⟨ih0,ih1⟩:=bS.mono_l k;refine ⟨?_,?_⟩
  ·intro y0;unfold bS.f;exact mo_
  ·intro y0 y1 y2;unfold bS.l0;exact mo_
theorem bS.mono:∀ a0 k,LeO (bS.f k a0) (bS.f (k + 1) a0):=by
 intro a0 k;obtain ⟨ih0,ih1⟩:=bS.mono_l k;exact ih0 a0
def bS.T5:Bool × List (List Nat × List Nat):=(true,[([],[]),([0],[0]),([],[]),([],[]),([2,3],[2,3]),([4],[4]),([5],[5]),([6],[6]),([1,7],[1,7]),([],[]),([],[]),([9,10],[9,10]),([11],[11]),([12],[12]),([13,7],[13]),([8,14],[8,14]),([15,14,0,1,2,3,4,5,6,7,8,9,10,11,12,13,14,15],[0,15])])
def bS.B5:List Nat:=[0,1,0,0,12,28,60,124,255,0,0,1536,3584,7680,16124,32767,65535]
theorem bS.aAj:mH .any (opsOf Tryz.f71 5)=bS.T5:=by kernel_rfl
theorem bS.IJ:iY bS.T5.2 bS.B5=true:=by kernel_rfl
theorem bS.calls (k:Nat):∀ (A0:Option Addr) (c0:Nat) (l0:List (S58)) (r:Int) (w:World) (hr0:Kd.C k58 w A0 l0.length l0) (hc0:l0.length≤c0) (h:bS.f k l0=some r),
  Calls Tryz.prog 71 #[.slice A0 l0.length c0] w fun e w'=>e= .returned (.int .i64 r)∧Below w.heap.size w w':=by
 induction k using Nat.strongRecOn with
 | _ k ih=>
 intro A0 c0 l0 r w hr0 hc0 h;cases k with
 |zero=>exact absurd h (by simp [bS.f])
 |succ k=>
 simp only [bS.f] at h;have jL:=am hr0;have jX:=am hc0;clear hr0 hc0;have HB:=am (Below.refl w.heap.size w);have H:(bS.l0 k l0 0 0)=some r:=h;clear h;have H':=am H;clear H;go_enter Tryz.func71,Tryz.ntmps71;go_wp2
 go_loopg [3,4] k (fun kq v3 v4 w'=>∃ (jr:Int) (j3:Int),v3= .int .i64 jr∧v4= .int .i64 j3∧Aside0 (bS.l0 kq l0 jr j3=some r)∧Aside0 (kq≤k)∧Aside0 (Below w.heap.size w w'))
 case atStart=>exact ⟨(0),(0),sd_,sd_,H',⟨Nat.le_refl _⟩,⟨eG⟩⟩
 case round=>
  clear H';obtain ⟨jr,j3,rfl,rfl,HA,jA,HB⟩:=hrel;cases gk with
  |zero=>exact absurd HA.out (by simp [bS.l0])
  |succ k1=>
   have H:=HA.out;clear HA;simp only [bS.l0] at H;by_cases c2:j3 < (l0.length:Int)
   ·rw [if_pos c2] at H;have jB:decide (j3 < (l0.length:Int))=true:=dT c2;clear c2;by_cases c3:0≤j3
    ·rw [if_pos c3] at H;have jU:decide (0≤j3)=true:=dT c3;clear c3;obtain ⟨jM,A4,H⟩:=bsa H;(try dsimp only at H);obtain ⟨jN,A5,H⟩:=bsa H;(try dsimp only at H);have H':=am H;clear H;try go_wp2
     replace HB:=am (bI HB.out);have jC:0≤(j3:Int):=of_decide_eq_true fK;have jD:j3 < (l0.length:Int):=of_decide_eq_true fK;obtain ⟨j4,js,jt,jl,jm,jn,jo,jV,jb,jc,jd,je,jf,j5,j6,j7,hl30_5,hi30_5,hl30_6,hi30_6,hl30_7,hi30_7⟩:=vK jL.out j3 jC jD;have hw30_7:=j7;have hw30_6:=j6;have hw30_5:=j5;have hw30_4:=jf;have hw30_3:=je;have hw30_2:=jd;have hw30_1:=jc;have hw30_0:=jb;cases jV;replace jb:=bcT HB.out jb;replace jc:=bcT HB.out jc;replace jd:=bcT HB.out jd;replace je:=bcT HB.out je;replace jf:=bcT HB.out jf;replace j5:=bcT HB.out j5;replace j6:=bcT HB.out j6;replace j7:=bcT HB.out j7;have ju:=am hi30_5;have jE:=am hl30_5;clear hi30_5 hl30_5;have jp:=am hi30_6;have jv:=am hl30_6;clear hi30_6 hl30_6;have jw:=am hi30_7;have jF:=am hl30_7;clear hi30_7 hl30_7;replace jC:=eq_true jC;replace jD:=eq_true jD;have jG:0≤(j3:Int):=of_decide_eq_true fK;have jH:j3 < (l0.length:Int):=of_decide_eq_true fK;obtain ⟨jI,jO,jP,jQ,jR,jS,jT,jW,jg,jh,ji,jj,jk,j8,j9,ja,hl31_5,hi31_5,hl31_6,hi31_6,hl31_7,hi31_7⟩:=vK jL.out j3 jG jH;have hw31_7:=ja;have hw31_6:=j9;have hw31_5:=j8;have hw31_4:=jk;have hw31_3:=jj;have hw31_2:=ji;have hw31_1:=jh;have hw31_0:=jg;obtain rfl:j4=jI:=(by injection jW);replace jg:=bcT HB.out jg;replace jh:=bcT HB.out jh;replace ji:=bcT HB.out ji;replace jj:=bcT HB.out jj;replace jk:=bcT HB.out jk;replace j8:=bcT HB.out j8;replace j9:=bcT HB.out j9;replace ja:=bcT HB.out ja;have jx:=am hi31_5;have jJ:=am hl31_5;clear hi31_5 hl31_5;have jy:=am hi31_6;have jK:=am hl31_6;clear hi31_6 hl31_6;have jq:=am hi31_7;have jz:=am hl31_7;clear hi31_7 hl31_7;replace jG:=eq_true jG;replace jH:=eq_true jH;have ea_:=oI (j5.symm.trans j8);injection ea_ with ea_ en_ ec_;subst ea_;subst ec_;clear en_;have ea_:=oI (j6.symm.trans j9);injection ea_ with ea_ en_ ec_;subst ea_;subst ec_;clear en_;have ea_:=oI (j7.symm.trans ja);injection ea_ with ea_ en_ ec_;subst ea_;subst ec_;clear en_;refine lQ (n:=17) (S:=fun w'=>w'.cell? (j4.add ((j3).toNat * 8))=some (.int .i64 ((aM l0 j3).f0))∧w'.cell? ⟨(j4.add ((j3).toNat * 8)).block,(j4.add ((j3).toNat * 8)).off + 1,none⟩=some (.int .i64 ((aM l0 j3).f1))∧w'.cell? ⟨(j4.add ((j3).toNat * 8)).block,(j4.add ((j3).toNat * 8)).off + 2,none⟩=some (.int .i64 ((aM l0 j3).f2))∧w'.cell? ⟨(j4.add ((j3).toNat * 8)).block,(j4.add ((j3).toNat * 8)).off + 3,none⟩=some (.int .i64 ((aM l0 j3).f3.f0))∧w'.cell? ⟨(j4.add ((j3).toNat * 8)).block,(j4.add ((j3).toNat * 8)).off + 4,none⟩=some (.int .i64 ((aM l0 j3).f3.f1))∧w'.cell? ⟨(j4.add ((j3).toNat * 8)).block,(j4.add ((j3).toNat * 8)).off + 5,none⟩=some (.slice js ((aM l0 j3).f3.f2).length jt)∧w'.cell? ⟨(j4.add ((j3).toNat * 8)).block,(j4.add ((j3).toNat * 8)).off + 6,none⟩=some (.slice jl ((aM l0 j3).f4).length jm)∧w'.cell? ⟨(j4.add ((j3).toNat * 8)).block,(j4.add ((j3).toNat * 8)).off + 7,none⟩=some (.slice jn ((aM l0 j3).f5).length jo)∧w'.cell? (j4.add ((j3).toNat * 8))=some (.int .i64 ((aM l0 j3).f0))∧w'.cell? ⟨(j4.add ((j3).toNat * 8)).block,(j4.add ((j3).toNat * 8)).off + 1,none⟩=some (.int .i64 ((aM l0 j3).f1))∧w'.cell? ⟨(j4.add ((j3).toNat * 8)).block,(j4.add ((j3).toNat * 8)).off + 2,none⟩=some (.int .i64 ((aM l0 j3).f2))∧w'.cell? ⟨(j4.add ((j3).toNat * 8)).block,(j4.add ((j3).toNat * 8)).off + 3,none⟩=some (.int .i64 ((aM l0 j3).f3.f0))∧w'.cell? ⟨(j4.add ((j3).toNat * 8)).block,(j4.add ((j3).toNat * 8)).off + 4,none⟩=some (.int .i64 ((aM l0 j3).f3.f1))∧w'.cell? ⟨(j4.add ((j3).toNat * 8)).block,(j4.add ((j3).toNat * 8)).off + 5,none⟩=some (.slice js ((aM l0 j3).f3.f2).length jt)∧w'.cell? ⟨(j4.add ((j3).toNat * 8)).block,(j4.add ((j3).toNat * 8)).off + 6,none⟩=some (.slice jl ((aM l0 j3).f4).length jm)∧w'.cell? ⟨(j4.add ((j3).toNat * 8)).block,(j4.add ((j3).toNat * 8)).off + 7,none⟩=some (.slice jn ((aM l0 j3).f5).length jo)) (ds:=[]) (bz 17 0) (by kernel_rfl) rfl rfl ⟨(bcT HB.out hw30_0),(bcT HB.out hw30_1),(bcT HB.out hw30_2),(bcT HB.out hw30_3),(bcT HB.out hw30_4),(bcT HB.out hw30_5),(bcT HB.out hw30_6),(bcT HB.out hw30_7),(bcT HB.out hw31_0),(bcT HB.out hw31_1),(bcT HB.out hw31_2),(bcT HB.out hw31_3),(bcT HB.out hw31_4),(bcT HB.out hw31_5),(bcT HB.out hw31_6),(bcT HB.out hw31_7)⟩ (fun hHeld=>?_);refine iQ bS.aAj bS.IJ (fun HT_ HW_=>?_);generalize wr.drew=w6 at HB ju jp jw jx jy jq jb jc jd je jf j5 j6 j7 jg jh ji jj jk j8 j9 ja hHeld ⊢;refine pr_ 0 11 (bz 17 1) HT_ ?_;refine pr_ 1 12 (bz 17 3) HT_ ?_;refine pr_ 2 13 (bz 17 7) HT_ ?_;refine pr_ 3 14 (bz 17 15) HT_ ?_;refine pr_ 4 15 (bz 17 31) HT_ ?_;refine pr_ 5 16 (bz 17 63) HT_ ?_;refine pr_ 9 20 (bz 17 575) HT_ ?_;refine pr_ 10 21 (bz 17 1599) HT_ ?_;refine pr_ 11 22 (bz 17 3647) HT_ ?_;refine pr_ 12 23 (bz 17 7743) HT_ ?_;refine aJd 6 17 (bz 17 7807) HT_ HW_ hHeld ?_;refine aJd 13 24 (bz 17 15999) HT_ HW_ hHeld ?_;refine iJ (i:=7) (N:=some 18) (bz 17 16127) rfl rfl (eU HT_.out (by kernel_rfl)) (by decide) (fun K hK=>?_);refine iI Tryz.func71 (by kernel_rfl) rfl #[.slice jl ((aM l0 j3).f4).length jm] (by rfl) rfl rfl nG ?_
     with_reducible refine (ih k1 (by have:=jA.out;omega) _ _ ((aM l0 j3).f4) jM _ (aC_ (Kd.aX jp.out HB.out)) jv.out A4.out).mono ?_
     rintro e w7 ⟨rfl,hb⟩;refine ⟨_,rfl,?_⟩;replace HB:=am (aA eG hb);(try clear hb);(try clear hb2);(try clear hk);(try clear hi);refine hK.out _ _ ⟨(bcT HB.out hw30_0),(bcT HB.out hw30_1),(bcT HB.out hw30_2),(bcT HB.out hw30_3),(bcT HB.out hw30_4),(bcT HB.out hw30_5),(bcT HB.out hw30_6),(bcT HB.out hw30_7),(bcT HB.out hw31_0),(bcT HB.out hw31_1),(bcT HB.out hw31_2),(bcT HB.out hw31_3),(bcT HB.out hw31_4),(bcT HB.out hw31_5),(bcT HB.out hw31_6),(bcT HB.out hw31_7)⟩ (fun hHeld=>?_);clear hK K;refine fC (a':=?_) ?_ ?_;rotate_left;·exact ap_ (N:=18)
     refine pr_ 8 19 (bz 17 16383) HT_ ?_;refine iJ (i:=14) (N:=some 25) (bz 17 32767) rfl rfl (eU HT_.out (by kernel_rfl)) (by decide) (fun K hK=>?_);refine iI Tryz.func71 (by kernel_rfl) rfl #[.slice jn ((aM l0 j3).f5).length jo] (by rfl) rfl rfl nG ?_
     with_reducible refine (ih k1 (by have:=jA.out;omega) _ _ ((aM l0 j3).f5) jN _ (aC_ (Kd.aX jq.out HB.out)) jz.out A5.out).mono ?_
     rintro e w8 ⟨rfl,hb⟩;refine ⟨_,rfl,?_⟩;replace HB:=am (aA eG hb);(try clear hb);(try clear hb2);(try clear hk);(try clear hi);refine hK.out _ _ ⟨(bcT HB.out hw30_0),(bcT HB.out hw30_1),(bcT HB.out hw30_2),(bcT HB.out hw30_3),(bcT HB.out hw30_4),(bcT HB.out hw30_5),(bcT HB.out hw30_6),(bcT HB.out hw30_7),(bcT HB.out hw31_0),(bcT HB.out hw31_1),(bcT HB.out hw31_2),(bcT HB.out hw31_3),(bcT HB.out hw31_4),(bcT HB.out hw31_5),(bcT HB.out hw31_6),(bcT HB.out hw31_7)⟩ (fun hHeld=>?_);clear hK K;refine fC (a':=?_) ?_ ?_;rotate_left;·exact ap_ (N:=25)
     refine pr_ 15 26 (bz 17 65535) HT_ ?_;refine pr_ 16 3 (bz 17 131071) HT_ ?_;refine nP (lG HT_.out (by kernel_rfl)) ?_;try go_wp2
     go_roundg k1;case measure=>have:=jA.out;omega
     case rel=>exact ⟨(wrap64 ((wrap64 ((wrap64 (jr + 1)) + jM)) + jN)),(wrap64 (j3 + 1)),sd_,sd_,H',⟨by have:=jA.out;omega⟩,⟨eG⟩⟩
    rw [if_neg c3] at H;cases H
   rw [if_neg c2] at H;have jB:decide (j3 < (l0.length:Int))=false:=dF c2;clear c2;obtain rfl:=oI H;go_wp2;go_ret;exact ⟨rr_,eG⟩
theorem nW.calls (a0:Int) (j9:Int) (ja:Int) (P1_2_:Nat→Prop) (je:Option Addr) (jf:Nat) (j6:List (S56)) (jb:Int) (jc:Int) (P2_2_:Nat→Prop) (jg:Option Addr) (jh:Nat) (j7:List (S56)) (r1:Int) (r2:Int) (r3:List (S56)) (w:World) (hs1_2:Kd.V k56 56 w w.heap.size (fun k_=>P1_2_ k_) (.slice je j6.length jf) j6) (hs2_2:Kd.V k56 56 w w.heap.size (fun k_=>P2_2_ k_) (.slice jg j7.length jh) j7) (h:nW.f a0 j9 ja j6 jb jc j7=some (r1,r2,r3)):
  Calls Tryz.prog 136 #[.int .i64 a0,.agg #[.int .i64 j9,.int .i64 ja,.slice je j6.length jf],.agg #[.int .i64 jb,.int .i64 jc,.slice jg j7.length jh]] w fun e w'=>∃ v2_:Value,e= .returned (.agg #[.int .i64 r1,.int .i64 r2,v2_])∧Kd.N k56 56 w' w.heap.size (fun k_=>((P1_2_ k_∨P2_2_ k_)∨w.heap.size≤k_)) v2_ r3∧Below w.heap.size w w':=by
 have hu56:=Tryz.underlying56;have HO1_2:=am (show Kd.V k56 56 w w.heap.size (fun k_=>((P1_2_ k_∨P2_2_ k_)∨w.heap.size≤k_)) (.slice je j6.length jf) j6 from Kd.rJ hs1_2 (fun k_ hk=>.inl (.inl hk)));have HO2_2:=am (show Kd.V k56 56 w w.heap.size (fun k_=>((P1_2_ k_∨P2_2_ k_)∨w.heap.size≤k_)) (.slice jg j7.length jh) j7 from Kd.rJ hs2_2 (fun k_ hk=>.inl (.inr hk)));have HB:=am (Below.refl w.heap.size w);have H:(some (a0,0,(([(⟨j9,ja,j6⟩:S56),(⟨jb,jc,j7⟩:S56)]:List (S56)))))=some (r1,r2,r3):=h;clear h;obtain ⟨jF,hy_⟩:∃ y_:List (S56),y_=(([(⟨j9,ja,j6⟩:S56),(⟨jb,jc,j7⟩:S56)]:List (S56))):=⟨_,rfl⟩;replace H:(some (a0,0,jF))=some (r1,r2,r3):=rx_;have jp:=am hy_;clear hy_;simp only [Option.some.injEq,Prod.mk.injEq] at H;obtain ⟨rfl,rfl,rfl⟩:=H;go_enter Tryz.func136,Tryz.ntmps136;go_wp2_with (first|((with_reducible refine gD 4 rfl ?_);refine dU rfl (N:=4) rfl (cs:=#[.int .i64 j9,.int .i64 ja,.slice je j6.length jf]) (t:=56) rn_ ?_;intro j4 hg w4 hbox hb;replace HO1_2:=am (Kd.AJ (Kd.wS (by (with_reducible repeat (first|apply Kd.oM|apply Kd.oN|apply Kd.sJ));exact HO1_2.out) j4 (Nat.le_of_eq hg.symm)) hb);replace HO2_2:=am (Kd.AJ (Kd.wS (by (with_reducible repeat (first|apply Kd.oM|apply Kd.oN|apply Kd.sJ));exact HO2_2.out) j4 (Nat.le_of_eq hg.symm)) hb);have j8:=am (hbox);have jP:=am ((by rw [hg];exact (aI eG):w.heap.size≤j4));have GE21:=am ((by rw [hg];exact (aI eG):w.heap.size≤j4));replace HB:=am (aA eG hb);clear hb hbox hg)|((with_reducible refine gD 5 rfl ?_);refine dU rfl (N:=5) rfl (cs:=#[.int .i64 jb,.int .i64 jc,.slice jg j7.length jh]) (t:=56) rn_ ?_;intro j5 hg w5 hbox hb;replace HO1_2:=am (Kd.AJ (Kd.wS (by (with_reducible repeat (first|apply Kd.oM|apply Kd.oN|apply Kd.sJ));exact HO1_2.out) j5 (Nat.le_of_eq hg.symm)) hb);replace HO2_2:=am (Kd.AJ (Kd.wS (by (with_reducible repeat (first|apply Kd.oM|apply Kd.oN|apply Kd.sJ));exact HO2_2.out) j5 (Nat.le_of_eq hg.symm)) hb);have jd:=am (hbox);have jQ:=am ((by rw [hg];exact (aI wE):w.heap.size≤j5));have GE22:=am ((by rw [hg];exact (aI wE):w.heap.size≤j5));replace HB:=am (aA wE hb);have jj:=am ((by rw [hg];exact Nat.ne_of_lt (uI j8.out):j4≠j5));have jk:=am ((by rw [hg];exact Nat.ne_of_gt (uI j8.out):j5≠j4));replace j8:=bbP j8 hb;clear hb hbox hg)|((with_reducible refine gD 6 rfl ?_);refine dU rfl (N:=6) rfl (cs:=#[.int .i64 0,.int .i64 0,.slice none 0 0]) (t:=56) rn_ ?_;intro j3 hg w6 hbox hb;replace HO1_2:=am (Kd.AJ (Kd.wS (by (with_reducible repeat (first|apply Kd.oM|apply Kd.oN|apply Kd.sJ));exact HO1_2.out) j3 (Nat.le_of_eq hg.symm)) hb);replace HO2_2:=am (Kd.AJ (Kd.wS (by (with_reducible repeat (first|apply Kd.oM|apply Kd.oN|apply Kd.sJ));exact HO2_2.out) j3 (Nat.le_of_eq hg.symm)) hb);have ji:=am (hbox);have jR:=am ((by rw [hg];exact (aI aFe):w.heap.size≤j3));have GE23:=am ((by rw [hg];exact (aI aFe):w.heap.size≤j3));replace HB:=am (aA aFe hb);have jl:=am ((by rw [hg];exact Nat.ne_of_lt (uI j8.out):j4≠j3));have jm:=am ((by rw [hg];exact Nat.ne_of_gt (uI j8.out):j3≠j4));replace j8:=bbP j8 hb;have jn:=am ((by rw [hg];exact Nat.ne_of_lt (uI jd.out):j5≠j3));have jo:=am ((by rw [hg];exact Nat.ne_of_gt (uI jd.out):j3≠j5));replace jd:=bbP jd hb;clear hb hbox hg;have jS:=jj.out;have jT:=jk.out;have jU:=jl.out;have jV:=jm.out;obtain ⟨jG,jH,jI,jJ,jK,jL⟩:=mE j8.out;have jN:=jn.out;have jO:=jo.out;obtain ⟨jt,ju,jv,jw,jx,jy⟩:=mE jd.out)|((with_reducible refine gD 10 rfl ?_);refine Kd.xR k56 _ 56 rfl (N':=10) rfl (xs:=([(⟨j9,ja,j6⟩:S56),(⟨jb,jc,j7⟩:S56)]:List (S56))) (inner:=[.int .i64 j9,.int .i64 ja,.slice je j6.length jf,.int .i64 jb,.int .i64 jc,.slice jg j7.length jh]) (ok:=(fun k_=>((P1_2_ k_∨P2_2_ k_)∨w.heap.size≤k_)∧k_≠j4∧k_≠j5∧k_≠j3)) (okp:=(fun k_=>((P1_2_ k_∨P2_2_ k_)∨w.heap.size≤k_)∧k_≠j4∧k_≠j5∧k_≠j3)) rn_ ?hp (fun _ hk=>hk) ((show ∀ k_,w6.heap.size≤k_→(fun k_=>((P1_2_ k_∨P2_2_ k_)∨w.heap.size≤k_)∧k_≠j4∧k_≠j5∧k_≠j3) k_ from fun k_ hk=>⟨(.inr (Nat.le_trans (aI aCo) hk)),kT j8.out k_ hk,kT jd.out k_ hk,kT ji.out k_ hk⟩) _ (Nat.le_refl _)) (Below.refl _ _) (Nat.le_refl _) (by simp) ?_;(case hp=>exact (dF.c3 (show Kd.FK k56 _ _ (⟨j9,ja,j6⟩:S56) [.int .i64 j9,.int .i64 ja,.slice je j6.length jf] from (aCw _ _ (⟨j9,ja,j6⟩:S56) (Kd.yH (Kd.rJ (ok':=(fun k_=>((P1_2_ k_∨P2_2_ k_)∨w.heap.size≤k_)∧k_≠j4∧k_≠j5∧k_≠j3)) (HO1_2.out) (fun k_ hk=>⟨hk.1.1.1,⟨hk.1.1.2,⟨hk.1.2,hk.2⟩⟩⟩))).2.1 (Kd.V_F (Kd.rJ (ok':=(fun k_=>((P1_2_ k_∨P2_2_ k_)∨w.heap.size≤k_)∧k_≠j4∧k_≠j5∧k_≠j3)) (HO1_2.out) (fun k_ hk=>⟨hk.1.1.1,⟨hk.1.1.2,⟨hk.1.2,hk.2⟩⟩⟩))))) (dF.c3 (show Kd.FK k56 _ _ (⟨jb,jc,j7⟩:S56) [.int .i64 jb,.int .i64 jc,.slice jg j7.length jh] from (aCw _ _ (⟨jb,jc,j7⟩:S56) (Kd.yH (Kd.rJ (ok':=(fun k_=>((P1_2_ k_∨P2_2_ k_)∨w.heap.size≤k_)∧k_≠j4∧k_≠j5∧k_≠j3)) (HO2_2.out) (fun k_ hk=>⟨hk.1.1.1,⟨hk.1.1.2,⟨hk.1.2,hk.2⟩⟩⟩))).2.1 (Kd.V_F (Kd.rJ (ok':=(fun k_=>((P1_2_ k_∨P2_2_ k_)∨w.heap.size≤k_)∧k_≠j4∧k_≠j5∧k_≠j3)) (HO2_2.out) (fun k_ hk=>⟨hk.1.1.1,⟨hk.1.1.2,⟨hk.1.2,hk.2⟩⟩⟩))))) (dF.none _ _))));intro jW jX ho13 hb hg_ hnew_;clear hg_ hnew_;(first|rw [← jp.out] at ho13|(simp only [Int.reduceToNat] at ho13;rw [← jp.out] at ho13));replace HO1_2:=am (Kd.yG (by (with_reducible repeat (first|apply Kd.oM|apply Kd.oN|apply Kd.sJ));exact HO1_2.out) (Kd.iW ho13) hb);replace HO2_2:=am (Kd.yG (by (with_reducible repeat (first|apply Kd.oM|apply Kd.oN|apply Kd.sJ));exact HO2_2.out) (Kd.iW ho13) hb);have jq:=am (Kd.eO ho13 (aI aCo));replace j8:=bbP j8 hb;replace jd:=bbP jd hb;replace ji:=bbP ji hb;replace HB:=am (aA aCo hb);clear hb ho13;obtain ⟨jr,js,jM⟩:=Kd.eF jq.out;subst jM;obtain ⟨jz,jA,jB,jC,jD,jE⟩:=mE ji.out));refine bodyPost_ret (results_cell_row rfl _ _ j3 56 #[.int .i64 a0,.int .i64 0,.slice jr jF.length js] (0,0) _ rfl (aV (aV (aV ji.out 0 _ rfl) 1 _ rfl) 2 _ rfl) Tryz.underlying56 rfl (by kernel_rfl)) rfl ?_;exact ⟨_,gU,kV (Kd.aW (Kd.bX (p:=⟨j3,2,none⟩) (Kd.bX (p:=⟨j3,1,none⟩) (Kd.bX (p:=⟨j3,0,none⟩) (Kd.aW jq.out (fun k_ hk=>(⟨hk,hk.2.2.2⟩:_∧k_≠j3))) (fun _ hk=>hk.2) (.int .i64 a0)) (fun _ hk=>hk.2) (.int .i64 0)) (fun _ hk=>hk.2) (.slice jr jF.length js)) (fun _ hk=>hk.1.1)),aCo⟩
theorem mK.mono:∀ a0 a1 k,LeO (mK.f k a0 a1) (mK.f (k + 1) a0 a1):=by
 intro a0 a1 k;unfold mK.f;have m0:=@aH.mono;exact mo_
theorem mK.calls (k:Nat) (g:Nat) (j3:List Int) (j4:Int) (r1:Int) (r2:Int) (w0 w:World) (hI:aJ w0 w g j3 j4) (hB:Below w0.heap.size w0 w) (h:mK.f k j3 j4=some (r1,r2)):
  Calls Tryz.prog 137 #[.pointer (some ⟨g,0,none⟩)] w fun e w'=>e= .returned (.int .i64 r1)∧aJ w0 w' g j3 r2∧Below w0.heap.size w0 w'∧aD w w' g none:=by
 have HI0:=am hI;have HK:=am (aD.refl w g none);have HL:=am hB.size;clear hI;have HW0:=am hB.size;have HB:=am hB;clear hB;have H:((aH.f k j3 j4 12).bind fun j5=>(some (wrap64 (1 + j5.1),j5.2)))=some (r1,r2):=h;clear h;obtain ⟨⟨j6,j7⟩,A2,H⟩:=bsa H;(try dsimp only at H);simp only [Option.some.injEq,Prod.mk.injEq] at H;obtain ⟨rfl,rfl⟩:=H;go_enter Tryz.func137,Tryz.ntmps137;go_wp2_with (first|((with_reducible refine gC 37 rfl ?_);refine gl_ 4 Tryz.func37 #[.pointer (some ⟨g,0,none⟩),.int .i64 12] ?_;(with_reducible refine (aH.calls k g j3 j4 12 j6 j7 w0 _ ?side1 ?side2 A2.out).mono ?_);(case side1=>exact fZ);(case side2=>exact kJ);rintro e w3 ⟨rfl,hi,hb,hk⟩;refine ⟨_,rfl,?_⟩;replace HK:=am (aD.trans fJ hk (.inl rfl));replace HB:=am (hb);replace HI0:=am (hi);(try clear hb);(try clear hk);(try clear hi)));go_ret;exact ⟨rr_,fZ,kJ,fJ⟩
theorem bJ.mono_l:∀ k,(∀ y0 y1 y2,LeO (bJ.f k y0 y1 y2) (bJ.f (k + 1) y0 y1 y2))∧(∀ y0 y1 y2 y3,LeO (bJ.j0 k y0 y1 y2 y3) (bJ.j0 (k + 1) y0 y1 y2 y3))
 |0=>⟨fun _ _ _ r h=>by simp [bJ.f] at h,fun _ _ _ _ r h=>by simp [bJ.j0] at h⟩
 |k + 1=>by
  obtain ⟨ih0,ih1⟩:=bJ.mono_l k;refine ⟨?_,?_⟩
  ·intro y0 y1 y2;unfold bJ.f;have m0:=@aH.mono;have m1:=@iM.mono;have m2:=@mK.mono;exact mo_
  ·intro y0 y1 y2 y3;unfold bJ.j0;have m0:=@aH.mono;have m1:=@iM.mono;have m2:=@mK.mono;exact mo_
theorem bJ.mono:∀ a0 a1 a2 k,LeO (bJ.f k a0 a1 a2) (bJ.f (k + 1) a0 a1 a2):=by
 intro a0 a1 a2 k;obtain ⟨ih0,ih1⟩:=bJ.mono_l k;exact ih0 a0 a1 a2
def bJ.T5:Bool × List (List Nat × List Nat):=(true,[([],[]),([],[]),([],[]),([],[]),([3],[3]),([2,4],[2,4]),([0,1,5,5],[0,1,5]),([6,6,0,1,2,3,4,5,6],[6])])
def bJ.B5:List Nat:=[0,0,0,0,8,28,63,127]
theorem bJ.aAj:mH .any (opsOf Tryz.f130 5)=bJ.T5:=by kernel_rfl
theorem bJ.IJ:iY bJ.T5.2 bJ.B5=true:=by kernel_rfl
theorem bJ.calls (k:Nat):∀ (g:Nat) (j8:List Int) (jg:Int) (a1:Int) (r1:Int) (r2:Int) (r3:List (S56)) (r4:Int) (w0 w:World) (hI:aJ w0 w g j8 jg) (hB:Below w0.heap.size w0 w) (h:bJ.f k j8 jg a1=some (r1,r2,r3,r4)),
  Calls Tryz.prog 130 #[.pointer (some ⟨g,0,none⟩),.int .i64 a1] w fun e w'=>∃ v2_:Value,e= .returned (.agg #[.int .i64 r1,.int .i64 r2,v2_])∧Kd.N k56 56 w' w.heap.size (fun k_=>(w.heap.size≤k_)) v2_ r3∧aJ w0 w' g j8 r4∧Below w0.heap.size w0 w'∧aD w w' g none:=by
 induction k using Nat.strongRecOn with
 | _ k ih=>
 intro g j8 jg a1 r1 r2 r3 r4 w0 w hI hB h;cases k with
 |zero=>exact absurd h (by simp [bJ.f])
 |succ k=>
 simp only [bJ.f] at h;have hu56:=Tryz.underlying56;have HI0:=am hI;have HK:=am (aD.refl w g none);have HL:=am hB.size;clear hI;have HW0:=am hB.size;have HB:=am hB;clear hB;have H:=h;clear h;have jN:=am H;clear H;go_enter Tryz.func130,Tryz.ntmps130;go_upto_region 1 with (first|((with_reducible refine gD 4 rfl ?_);refine dU rfl (N:=4) rfl (cs:=#[.int .i64 0,.int .i64 0,.slice none 0 0]) (t:=56) rn_ ?_;intro j3 hg w4 hbox hb;replace HB:=am (aA kJ hb);have j5:=am (hbox);have GW35:=am ((by rw [hg];exact (aN (w:=w) (g:=g) (row:=none) fJ):w.heap.size≤j3));have GE35:=am ((Nat.le_trans HW0.out (by rw [hg];exact (aN (w:=w) (g:=g) (row:=none) fJ):w.heap.size≤j3):w0.heap.size≤j3));replace HK:=am (aD.trans fJ (aD.of_below hb g none) (.inl rfl));have NB0_35:=am ((by rw [hg];exact Nat.ne_of_lt (aJ.lt (show aJ w0 _ g j8 jg from fZ)):g≠j3));have jd:=am ((by rw [hg];exact Nat.ne_of_gt (aJ.lt (show aJ w0 _ g j8 jg from fZ)):j3≠g));replace HI0:=am (aJ.below fZ hb);clear hb hbox hg));(try simp only [Act.put,sA,sB,sC])
 go_cut [13] (fun qj wc=>∃ (kq:Nat) (jh:Bool) (jf:Int),qj= .bool jh∧Aside0 (bJ.j0 kq a1 jh j8 jf=some (r1,r2,r3,r4))∧Aside0 (kq≤k)∧Aside0 (wc.heap[j3]?=some (.cells #[.int .i64 0,.int .i64 0,(.slice none 0 0)] 56 (0,0)))∧Aside0 (aJ w0 wc g j8 jf)∧Aside0 (aD w wc g none)∧Aside0 (Below w0.heap.size w0 wc))
 case first=>
  have H:=jN.out;clear jN;by_cases c5:a1 < 2
  ·rw [if_pos c5] at H;have jk:decide (a1 < 2)=true:=dT c5;clear c5
   (first|rw [jk]|(simp only [fA,fE];rw [jk])|skip)
   have H':=am H;clear H;go_wp2
   go_meet
   case rel=>exact ⟨_,(true),(jg),sd_,H',⟨by first|omega|exact Nat.le_refl _⟩,⟨by (with_reducible repeat (first|refine dW ?_ _|refine dA ?_|refine dS ?_ _));exact j5.out⟩,⟨xY⟩,⟨wF⟩,⟨IC⟩⟩
  rw [if_neg c5] at H;have jk:decide (a1 < 2)=false:=dF c5;clear c5
  (first|rw [jk]|(simp only [fA,fE];rw [jk])|skip)
  obtain ⟨⟨q6,q7⟩,A6,H⟩:=bsa H;(try dsimp only at H);have H':=am H;clear H;go_wp2_with (first|(go_at_call 37;(with_reducible refine (aH.calls k g j8 jg 3 q6 q7 w0 _ ?side1 ?side2 A6.out).mono ?_);(case side1=>exact xY);(case side2=>exact IC);rintro e w7 ⟨rfl,hi,hb,hk⟩;replace j5:=am (aD.blk hk (g':=j3) (o:=.cells #[.int .i64 0,.int .i64 0,.slice none 0 0] 56 (0,0)) (aG_ j5.out) jd.out (by simp));replace HK:=am (aD.trans wF hk (.inl rfl));replace HB:=am (hb);replace HI0:=am (hi);(try clear hb);(try clear hk);(try clear hi)))
  go_meet
  case rel=>exact ⟨_,((q6 == 0)),(q7),sd_,H',⟨by first|omega|exact Nat.le_refl _⟩,⟨by (with_reducible repeat (first|refine dW ?_ _|refine dA ?_|refine dS ?_ _));exact j5.out⟩,⟨xY⟩,⟨wF⟩,⟨IC⟩⟩
 case rest=>
  clear jN;obtain ⟨kq,jh,jf,rfl,HA,HJ2,j5,HI0,HK,HB⟩:=hcut;cases kq with
  |zero=>exact absurd HA.out (by simp [bJ.j0])
  |succ jz=>
   have H:=HA.out;clear HA;simp only [bJ.j0] at H;by_cases c8:jh=true
   ·subst c8;rw [if_pos rfl] at H;obtain ⟨⟨jO,jP,jQ,qk⟩,A9,H⟩:=bsa H;(try dsimp only at H);simp only [Option.some.injEq,Prod.mk.injEq] at H;obtain ⟨rfl,rfl,rfl,rfl⟩:=H;go_wp2_with (first|((with_reducible refine gC 38 rfl ?_);refine gl_ 15 Tryz.func38 #[.pointer (some ⟨g,0,none⟩)] ?_;(with_reducible refine (iM.calls jz g j8 jf jO jP jQ qk w0 _ ?side1 ?side2 A9.out).mono ?_);(case side1=>exact xY);(case side2=>exact IC);rintro e qu ⟨qv,rfl,ho0,hi,hb,hk⟩;refine ⟨_,rfl,?_⟩;have jo:=am (Kd.eO (Kd.aW (ok':=fun k_=>(w.heap.size≤k_)∧k_≠j3∧k_≠g) (Kd.R_N (Kd.nZ ho0)) (fun k_ hk_=>⟨(Nat.le_trans (aN (w:=w) (g:=g) (row:=none) wF) hk_.2.1),(kT j5.out k_ hk_.2.1),(aJ.fresh xY k_ hk_.2.1)⟩)) (aN (w:=w) (g:=g) (row:=none) wF));replace j5:=am (aD.blk hk (g':=j3) (o:=.cells #[.int .i64 0,.int .i64 0,.slice none 0 0] 56 (0,0)) (aG_ j5.out) jd.out (by simp));replace HK:=am (aD.trans wF hk (.inl rfl));replace HB:=am (hb);replace HI0:=am (hi);(try clear hb);(try clear hk);(try clear hi);(try clear ho0);have q8:=jd.out;have q9:=NB0_35.out;obtain ⟨jA,jB,jC,jD,jE,jF⟩:=mE j5.out;obtain ⟨jp,jq,jR⟩:=Kd.eF jo.out;subst jR));refine bodyPost_ret (results_cell_row rfl _ _ j3 56 #[.int .i64 jO,.int .i64 jP,.slice jp jQ.length jq] (0,0) _ rfl (aV (aV (aV j5.out 0 _ rfl) 1 _ rfl) 2 _ rfl) Tryz.underlying56 rfl (by kernel_rfl)) rfl ?_;exact ⟨_,gU,kV (Kd.aW (Kd.bX (p:=⟨j3,2,none⟩) (Kd.bX (p:=⟨j3,1,none⟩) (Kd.bX (p:=⟨j3,0,none⟩) (Kd.aW jo.out (fun k_ hk=>(⟨hk,hk.2.1⟩:_∧k_≠j3))) (fun _ hk=>hk.2) (.int .i64 jO)) (fun _ hk=>hk.2) (.int .i64 jP)) (fun _ hk=>hk.2) (.slice jp jQ.length jq)) (fun _ hk=>hk.1.1)),xY,IC,wF⟩
   replace c8:=Bool.eq_false_iff.mpr c8;subst c8;rw [if_neg Bool.false_ne_true] at H;obtain ⟨⟨jS,qa⟩,qb,H⟩:=bsm H;(try dsimp only at H);have ql:=am qb;clear qb;obtain ⟨⟨ji,jj,je,jr⟩,qc,H⟩:=bsm H;(try dsimp only at H);have qm:=am qc;clear qc;obtain ⟨⟨jT,jU,jG,qn⟩,qd,H⟩:=bsm H;(try dsimp only at H);have qo:=am qd;clear qd;obtain ⟨⟨jV,jW,jX⟩,qe,H⟩:=bsm H;(try dsimp only at H);have qp:=am qe;clear qe;simp only [Option.some.injEq,Prod.mk.injEq] at H;obtain ⟨rfl,rfl,rfl,rfl⟩:=H;try go_wp2_with (first|((with_reducible refine gC 137 rfl ?_);refine gl_ 17 Tryz.func137 #[.pointer (some ⟨g,0,none⟩)] ?_;(with_reducible refine (mK.calls jz g j8 jf jS qa w0 _ ?side1 ?side2 ql.out).mono ?_);(case side1=>exact xY);(case side2=>exact IC);rintro e qw ⟨rfl,hi,hb,hk⟩;refine ⟨_,rfl,?_⟩;replace j5:=am (aD.blk hk (g':=j3) (o:=.cells #[.int .i64 0,.int .i64 0,.slice none 0 0] 56 (0,0)) (aG_ j5.out) jd.out (by simp));replace HK:=am (aD.trans wF hk (.inl rfl));replace HB:=am (hb);replace HI0:=am (hi);(try clear hb);(try clear hk);(try clear hi))|((with_reducible refine gC 130 rfl ?_);refine gl_ 21 Tryz.func130 #[.pointer (some ⟨g,0,none⟩),.int .i64 (wrap64 (a1 - 1))] ?_;(with_reducible refine (ih jz (by have:=HJ2.out;omega) g j8 qa (wrap64 (a1 - 1)) ji jj je jr w0 _ ?side1 ?side2 qm.out).mono ?_);(case side1=>exact xY);(case side2=>exact IC);rintro e qx ⟨qy,rfl,ho0,hi,hb,hk⟩;refine ⟨_,rfl,?_⟩;have ja:=am (Kd.eO (Kd.aW (ok':=fun k_=>(w.heap.size≤k_)∧k_≠j3∧k_≠g) ho0 (fun k_ hk_=>⟨(Nat.le_trans (aN (w:=w) (g:=g) (row:=none) wF) hk_),(kT j5.out k_ hk_),(aJ.fresh xY k_ hk_)⟩)) (aN (w:=w) (g:=g) (row:=none) wF));replace j5:=am (aD.blk hk (g':=j3) (o:=.cells #[.int .i64 0,.int .i64 0,.slice none 0 0] 56 (0,0)) (aG_ j5.out) jd.out (by simp));replace HK:=am (aD.trans wF hk (.inl rfl));replace HB:=am (hb);replace HI0:=am (hi);(try clear hb);(try clear hk);(try clear hi);(try clear ho0))|((with_reducible refine gD 6 rfl ?_);refine dU rfl (N:=6) rfl (cs:=#[.int .i64 0,.int .i64 0,.slice none 0 0]) (t:=56) rn_ ?_;intro j4 hg jn hbox hb;replace ja:=am (Kd.gZ (Kd.pY (aN_ ja.out) j4 (Nat.le_of_eq hg.symm)) hb);replace HB:=am (aA IC hb);have j9:=am (hbox);have GW68:=am ((by rw [hg];exact (aN (w:=w) (g:=g) (row:=none) wF):w.heap.size≤j4));have GE68:=am ((Nat.le_trans HW0.out (by rw [hg];exact (aN (w:=w) (g:=g) (row:=none) wF):w.heap.size≤j4):w0.heap.size≤j4));replace HK:=am (aD.trans wF (aD.of_below hb g none) (.inl rfl));have j7:=am ((by rw [hg];exact Nat.ne_of_lt (uI j5.out):j3≠j4));have j6:=am ((by rw [hg];exact Nat.ne_of_gt (uI j5.out):j4≠j3));replace j5:=bbP j5 hb;have NB0_68:=am ((by rw [hg];exact Nat.ne_of_lt (aJ.lt (show aJ w0 _ g j8 jr from xY)):g≠j4));have jl:=am ((by rw [hg];exact Nat.ne_of_gt (aJ.lt (show aJ w0 _ g j8 jr from xY)):j4≠g));replace HI0:=am (aJ.below xY hb);clear hb hbox hg;have qf:=j6.out;have qg:=j7.out;have qh:=jl.out;have qi:=NB0_68.out;obtain ⟨jH,jI,jJ,jK,jL,jM⟩:=mE j9.out;obtain ⟨jb,jc,jY⟩:=Kd.eF ja.out;subst jY))
   have jZ:Aside0 (Kd.N k56 56 (((jn.setCell ⟨j4,0,none⟩ (.int .i64 ji)).setCell ⟨j4,1,none⟩ (.int .i64 jj)).setCell ⟨j4,2,none⟩ (.slice jb je.length jc)) w.heap.size (fun k_=>(w.heap.size≤k_)∧k_≠j3∧k_≠g∧k_≠j4) (.slice jb je.length jc) je):=⟨kV (Kd.aW (Kd.bX (p:=⟨j4,2,none⟩) (Kd.bX (p:=⟨j4,1,none⟩) (Kd.bX (p:=⟨j4,0,none⟩) (Kd.aW ja.out (fun k_ hk=>(⟨hk,hk.2⟩:_∧k_≠j4))) (fun _ hk=>hk.2) (.int .i64 ji)) (fun _ hk=>hk.2) (.int .i64 jj)) (fun _ hk=>hk.2) (.slice jb je.length jc)) (fun _ hk=>⟨hk.1.1.1,⟨hk.1.1.2.1,⟨hk.1.1.2.2,hk.1.2⟩⟩⟩))⟩;have q0:Aside0 ((((jn.setCell ⟨j4,0,none⟩ (.int .i64 ji)).setCell ⟨j4,1,none⟩ (.int .i64 jj)).setCell ⟨j4,2,none⟩ (.slice jb je.length jc)).heap[j3]?=some (.cells #[.int .i64 0,.int .i64 0,.slice none 0 0] 56 (0,0))):=⟨(gV (gV (gV j5.out j7.out _) j7.out _) j7.out _)⟩;have q1:Aside0 ((((jn.setCell ⟨j4,0,none⟩ (.int .i64 ji)).setCell ⟨j4,1,none⟩ (.int .i64 jj)).setCell ⟨j4,2,none⟩ (.slice jb je.length jc)).heap[j4]?=some (.cells #[.int .i64 ji,.int .i64 jj,.slice jb je.length jc] 56 (0,0))):=⟨(aV (aV (aV j9.out 0 _ rfl) 1 _ rfl) 2 _ rfl)⟩;have q2:Aside0 (aJ w0 (((jn.setCell ⟨j4,0,none⟩ (.int .i64 ji)).setCell ⟨j4,1,none⟩ (.int .i64 jj)).setCell ⟨j4,2,none⟩ (.slice jb je.length jc)) g j8 jr):=⟨PD⟩;have q3:Aside0 (aD w (((jn.setCell ⟨j4,0,none⟩ (.int .i64 ji)).setCell ⟨j4,1,none⟩ (.int .i64 jj)).setCell ⟨j4,2,none⟩ (.slice jb je.length jc)) g none):=⟨IB⟩;have q4:Aside0 (Below w0.heap.size w0 (((jn.setCell ⟨j4,0,none⟩ (.int .i64 ji)).setCell ⟨j4,1,none⟩ (.int .i64 jj)).setCell ⟨j4,2,none⟩ (.slice jb je.length jc))):=⟨aCn⟩;(try clear ja);(try clear j5);(try clear j9);(try clear HI0);(try clear HK);(try clear HB);generalize (((jn.setCell ⟨j4,0,none⟩ (.int .i64 ji)).setCell ⟨j4,1,none⟩ (.int .i64 jj)).setCell ⟨j4,2,none⟩ (.slice jb je.length jc))=qq at jZ q0 q1 q2 q3 q4 ⊢;have ja:=jZ;have j5:=q0;have j9:=q1;have HI0:=q2;have HK:=q3;have HB:=q4;clear jZ q0 q1 q2 q3 q4;replace ja:=am (Kd.rF ja.out);replace j5:=am (dA j5.out);replace j9:=am (dA j9.out);replace HI0:=am (aJ.drew HI0.out);replace HK:=am (iA HK.out);replace HB:=am (bI HB.out);refine lQ (n:=8) (S:=fun w'=>w'.cell? ⟨j4,0,none⟩=some (.int .i64 ji)∧w'.cell? ⟨j4,1,none⟩=some (.int .i64 jj)∧w'.cell? ⟨j4,2,none⟩=some (.slice jb je.length jc)) (ds:=[]) (bz 8 0) (by kernel_rfl) rfl rfl (NZ j9.out) (fun hHeld=>?_);refine iQ bJ.aAj bJ.IJ (fun HT_ HW_=>?_);generalize qq.drew=qz at ja j5 j9 HI0 HK HB hHeld ⊢;refine pr_ 0 22 (bz 8 1) HT_ ?_;refine pr_ 2 24 (bz 8 5) HT_ ?_;refine pr_ 3 25 (bz 8 13) HT_ ?_;refine pr_ 4 26 (bz 8 29) HT_ ?_;refine aIm 1 23 (bz 8 31) HT_ HW_ hHeld ?_;refine iJ (i:=5) (N:=some 27) (bz 8 63) rfl rfl (eU HT_.out (by kernel_rfl)) (by decide) (fun K hK=>?_);refine iI Tryz.func130 (by kernel_rfl) rfl #[.pointer (some ⟨g,0,none⟩),.int .i64 (wrap64 (a1 - 1))] (by rfl) rfl rfl nG ?_
   with_reducible refine (ih jz (by have:=HJ2.out;omega) g j8 jr (wrap64 (a1 - 1)) jT jU jG qn w0 _ ?side1 ?side2 qo.out).mono ?_
   (case side1=>exact PD);(case side2=>exact aCn);rintro e qA ⟨qB,rfl,ho0,hi,hb,hk⟩;refine ⟨_,rfl,?_⟩;have jm:=am (Kd.eO (Kd.aW (ok':=fun k_=>(w.heap.size≤k_)∧some k_≠(.slice jb je.length jc:Value).ownBlock∧k_≠j3∧k_≠j4∧k_≠g) ho0 (fun k_ hk_=>⟨(Nat.le_trans (aN (w:=w) (g:=g) (row:=none) IB) hk_),(Kd.fresh' (Kd.tC (aN_ ja.out)) k_ hk_),(kT j5.out k_ hk_),(kT j9.out k_ hk_),(aJ.fresh PD k_ hk_)⟩)) (aN (w:=w) (g:=g) (row:=none) IB));replace j5:=am (aD.blk hk (g':=j3) (o:=.cells #[.int .i64 0,.int .i64 0,.slice none 0 0] 56 (0,0)) (aG_ j5.out) jd.out (by simp));replace ja:=am (Kd.aW (Kd.oQ (Kd.xB (Kd.aW (ok:=fun k_=>(((w.heap.size≤k_))∧(k_≠j3∧(k_≠g∧k_≠j4)))) (aN_ ja.out) (fun k_ hk_=>(⟨hk_,hk_.2.2.1⟩:_∧k_≠g))) hk) (by first|exact Kd.iW ho0|exact Kd.iW (Kd.R_N ho0))) (fun _ h_=>h_.1));replace j9:=am (aD.blk hk (g':=j4) (o:=.cells #[.int .i64 ji,.int .i64 jj,.slice jb je.length jc] 56 (0,0)) (aG_ j9.out) jl.out (by simp));replace HK:=am (aD.trans IB hk (.inl rfl));replace HB:=am (hb);replace HI0:=am (hi);(try clear hb);(try clear hb2);(try clear hk);(try clear hi);(try clear ho0);obtain ⟨js,jt,ju⟩:=Kd.eF jm.out
   (first|subst ju|(injection ju with f1_ f2_ f3_;have f4_:=f1_.symm;have f5_:=f3_.symm;clear f1_ f2_ f3_;subst f4_;subst f5_))
   refine hK.out _ _ (NZ j9.out) (fun hHeld=>?_);clear hK K;refine fC (a':=?_) ?_ ?_;rotate_left;·exact ap_ (N:=27)
   refine iJ (i:=6) (N:=some 28) (bz 8 127) rfl rfl (eU HT_.out (by kernel_rfl)) (by decide) (fun K hK=>?_);refine iI Tryz.func136 (by kernel_rfl) rfl #[.int .i64 jS,.agg #[.int .i64 ji,.int .i64 jj,.slice jb je.length jc],.agg #[.int .i64 jT,.int .i64 jU,.slice js jG.length jt]] (by rfl) rfl rfl nG ?_
   with_reducible refine (nW.calls jS ji jj (fun k_=>(((w.heap.size≤k_)∧(k_≠j3∧(k_≠g∧k_≠j4)))∧some k_≠(.slice js jG.length jt:Value).ownBlock)) _ _ je jT jU (fun k_=>((w.heap.size≤k_)∧(some k_≠(.slice jb je.length jc:Value).ownBlock∧(k_≠j3∧(k_≠j4∧k_≠g))))) _ _ jG jV jW jX _ ?side1 ?side2 qp.out).mono ?_
   (case side1=>exact Kd.N_V (ja.out));(case side2=>exact Kd.N_V (jm.out));rintro e q5 ⟨qC,rfl,ho0,hb⟩;refine ⟨_,rfl,?_⟩;replace ja:=am (Kd.sD (aN_ ja.out) (by first|exact Kd.iW ho0|exact Kd.iW (Kd.R_N ho0)) hb);replace jm:=am (Kd.sD (aN_ jm.out) (by first|exact Kd.iW ho0|exact Kd.iW (Kd.R_N ho0)) hb);have jv:=am (Kd.eO (Kd.aW (ok':=fun k_=>(w.heap.size≤k_)∧k_≠j3∧k_≠j4∧k_≠g) ho0 (fun k_ hk_=>⟨Or.elim hk_ (fun hs_=>Or.elim hs_ (fun hs_=>hs_.1.1) (fun hs_=>hs_.1)) (fun hn_=>(Nat.le_trans (aN (w:=w) (g:=g) (row:=none) IB) hn_)),Or.elim hk_ (fun hs_=>Or.elim hs_ (fun hs_=>hs_.1.2.1) (fun hs_=>hs_.2.2.1)) (fun hn_=>(kT j5.out k_ hn_)),Or.elim hk_ (fun hs_=>Or.elim hs_ (fun hs_=>hs_.1.2.2.2) (fun hs_=>hs_.2.2.2.1)) (fun hn_=>(kT j9.out k_ hn_)),Or.elim hk_ (fun hs_=>Or.elim hs_ (fun hs_=>hs_.1.2.2.1) (fun hs_=>hs_.2.2.2.2)) (fun hn_=>(aJ.fresh PD k_ hn_))⟩)) (aN (w:=w) (g:=g) (row:=none) IB));replace j5:=bbP j5 hb;replace j9:=bbP j9 hb;replace HK:=am (aD.trans IB (aD.of_below hb g none) (.inl rfl));replace HB:=am (aA aCn hb);replace HI0:=am (aJ.below PD hb);(try clear hb);(try clear hb2);(try clear hk);(try clear hi);(try clear ho0);obtain ⟨jw,jx,jy⟩:=Kd.eF jv.out
   (first|subst jy|(injection jy with f1_ f2_ f3_;have f4_:=f1_.symm;have f5_:=f3_.symm;clear f1_ f2_ f3_;subst f4_;subst f5_))
   refine hK.out _ _ (NZ j9.out) (fun hHeld=>?_);clear hK K;refine fC (a':=?_) ?_ ?_;rotate_left;·exact ap_ (N:=28)
   refine iJ (i:=7) (N:=none) (bz 8 255) rfl rfl (eU HT_.out (by kernel_rfl)) (by decide) (fun K hK=>?_);have qr:q5.cell? ⟨j3,0,none⟩=some (.int .i64 0):=(aG j5.out 0).trans rfl;have hfs30:=aZ j5.out 0;have hns30_1:=j6.out;have hms30_1:=j7.out;have qs:q5.cell? ⟨j3,1,none⟩=some (.int .i64 0):=(aG j5.out 1).trans rfl;have hfs31:=aZ j5.out 1;have hns31_1:=j6.out;have hms31_1:=j7.out;have qt:q5.cell? ⟨j3,2,none⟩=some (.slice none 0 0):=(aG j5.out 2).trans rfl;have hfs33:=aZ j5.out 2;have hns33_1:=j6.out;have hms33_1:=j7.out;refine uM (w1:=?_) (by rfl) rfl ?_ ?_;rotate_left
   ·go_simp;rfl
   refine hK.out _ _ ⟨((cell_far (p:=⟨j3,_,none⟩) j6.out _).trans (((cell_far (p:=⟨j3,_,none⟩) j6.out _).trans (((cell_far (p:=⟨j3,_,none⟩) j6.out _).trans (hHeld.1)))))),((cell_far (p:=⟨j3,_,none⟩) j6.out _).trans (((cell_far (p:=⟨j3,_,none⟩) j6.out _).trans (((cell_far (p:=⟨j3,_,none⟩) j6.out _).trans (hHeld.2.1)))))),((cell_far (p:=⟨j3,_,none⟩) j6.out _).trans (((cell_far (p:=⟨j3,_,none⟩) j6.out _).trans (((cell_far (p:=⟨j3,_,none⟩) j6.out _).trans (hHeld.2.2))))))⟩ (fun hHeld=>?_);clear hK K;refine nP (lG HT_.out (by kernel_rfl)) ?_;try go_wp2
   refine bodyPost_ret (results_cell_row rfl _ _ j3 56 #[.int .i64 jV,.int .i64 jW,.slice jw jX.length jx] (0,0) _ rfl (aV (aV (aV j5.out 0 _ rfl) 1 _ rfl) 2 _ rfl) Tryz.underlying56 rfl (by kernel_rfl)) rfl ?_;exact ⟨_,gU,kV (Kd.aW (Kd.bX (p:=⟨j3,2,none⟩) (Kd.bX (p:=⟨j3,1,none⟩) (Kd.bX (p:=⟨j3,0,none⟩) (Kd.aW jv.out (fun k_ hk=>(⟨hk,hk.2.1⟩:_∧k_≠j3))) (fun _ hk=>hk.2) (.int .i64 jV)) (fun _ hk=>hk.2) (.int .i64 jW)) (fun _ hk=>hk.2) (.slice jw jX.length jx)) (fun _ hk=>hk.1.1)),PD,aCn,IB⟩
theorem gN.mono:∀ a0 a1 k,LeO (gN.f k a0 a1) (gN.f (k + 1) a0 a1):=by
 intro a0 a1 k;unfold gN.f;have m0:=@aH.mono;have m1:=@bJ.mono;exact mo_
theorem gN.calls (k:Nat) (g:Nat) (j6:List Int) (j7:Int) (r1:Int) (r2:Int) (r3:Int) (r4:Int) (r5:Int) (r6:List (S56)) (r7:List (S58)) (r8:List (S58)) (r9:Int) (w0 w:World) (hI:aJ w0 w g j6 j7) (hB:Below w0.heap.size w0 w) (h:gN.f k j6 j7=some (r1,r2,r3,r4,r5,r6,r7,r8,r9)):
  Calls Tryz.prog 126 #[.pointer (some ⟨g,0,none⟩)] w fun e w'=>∃ v5_ v6_ v7_:Value,e= .returned (.agg #[.int .i64 r1,.int .i64 r2,.int .i64 r3,.int .i64 r4,.int .i64 r5,v5_,v6_,v7_])∧Kd.N k56 56 w' w.heap.size (fun k_=>(w.heap.size≤k_)∧some k_≠(v6_:Value).ownBlock∧some k_≠(v7_:Value).ownBlock) v5_ r6∧Kd.N k58 58 w' w.heap.size (fun k_=>(w.heap.size≤k_)∧some k_≠(v5_:Value).ownBlock∧some k_≠(v7_:Value).ownBlock) v6_ r7∧Kd.N k58 58 w' w.heap.size (fun k_=>(w.heap.size≤k_)∧some k_≠(v5_:Value).ownBlock∧some k_≠(v6_:Value).ownBlock) v7_ r8∧aJ w0 w' g j6 r9∧Below w0.heap.size w0 w'∧aD w w' g none:=by
 have hu58:=Tryz.underlying58;have HI0:=am hI;have HK:=am (aD.refl w g none);have HL:=am hB.size;clear hI;have HW0:=am hB.size;have HB:=am hB;clear hB;unfold gN.f at h;have H:=h;clear h;obtain ⟨⟨jp,ju⟩,A2,H⟩:=bsa H;(try dsimp only at H);obtain ⟨⟨jq,jv⟩,A3,H⟩:=bsa H;(try dsimp only at H);obtain ⟨⟨jr,js,jt,jA⟩,A4,H⟩:=bsa H;(try dsimp only at H);simp only [Option.some.injEq,Prod.mk.injEq] at H;obtain ⟨rfl,rfl,rfl,rfl,rfl,rfl,rfl,rfl,rfl⟩:=H;go_enter Tryz.func126,Tryz.ntmps126;go_wp2_with (first|((with_reducible refine gD 2 rfl ?_);refine dU rfl (N:=2) rfl (cs:=#[.int .i64 0,.int .i64 0,.int .i64 0,.int .i64 0,.int .i64 0,.slice none 0 0,.slice none 0 0,.slice none 0 0]) (t:=58) rn_ ?_;intro j3 hg w5 hbox hb;replace HB:=am (aA kJ hb);have j4:=am (hbox);have GW29:=am ((by rw [hg];exact (aN (w:=w) (g:=g) (row:=none) fJ):w.heap.size≤j3));have GE29:=am ((Nat.le_trans HW0.out (by rw [hg];exact (aN (w:=w) (g:=g) (row:=none) fJ):w.heap.size≤j3):w0.heap.size≤j3));replace HK:=am (aD.trans fJ (aD.of_below hb g none) (.inl rfl));have NB0_29:=am ((by rw [hg];exact Nat.ne_of_lt (aJ.lt (show aJ w0 _ g j6 j7 from fZ)):g≠j3));have j5:=am ((by rw [hg];exact Nat.ne_of_gt (aJ.lt (show aJ w0 _ g j6 j7 from fZ)):j3≠g));replace HI0:=am (aJ.below fZ hb);clear hb hbox hg)|((with_reducible refine gC 37 rfl ?_);refine gl_ 5 Tryz.func37 #[.pointer (some ⟨g,0,none⟩),.int .i64 3] ?_;(with_reducible refine (aH.calls k g j6 j7 3 jp ju w0 _ ?side1 ?side2 A2.out).mono ?_);(case side1=>exact TK);(case side2=>exact aCp);rintro e w6 ⟨rfl,hi,hb,hk⟩;refine ⟨_,rfl,?_⟩;replace j4:=am (aD.blk hk (g':=j3) (o:=.cells #[.int .i64 0,.int .i64 0,.int .i64 0,.int .i64 0,.int .i64 0,.slice none 0 0,.slice none 0 0,.slice none 0 0] 58 (0,0)) (aG_ j4.out) j5.out (by simp));replace HK:=am (aD.trans PL hk (.inl rfl));replace HB:=am (hb);replace HI0:=am (hi);(try clear hb);(try clear hk);(try clear hi))|((with_reducible refine gC 37 rfl ?_);refine gl_ 9 Tryz.func37 #[.pointer (some ⟨g,0,none⟩),.int .i64 3] ?_;(with_reducible refine (aH.calls k g j6 ju 3 jq jv w0 _ ?side1 ?side2 A3.out).mono ?_);(case side1=>exact TK);(case side2=>exact aCp);rintro e w7 ⟨rfl,hi,hb,hk⟩;refine ⟨_,rfl,?_⟩;replace j4:=am (aD.blk hk (g':=j3) (o:=.cells #[.int .i64 0,.int .i64 0,.int .i64 0,.int .i64 0,.int .i64 0,.slice none 0 0,.slice none 0 0,.slice none 0 0] 58 (0,0)) (aG_ j4.out) j5.out (by simp));replace HK:=am (aD.trans PL hk (.inl rfl));replace HB:=am (hb);replace HI0:=am (hi);(try clear hb);(try clear hk);(try clear hi))|((with_reducible refine gC 130 rfl ?_);refine gl_ 11 Tryz.func130 #[.pointer (some ⟨g,0,none⟩),.int .i64 (wrap64 (1 + jq))] ?_;(with_reducible refine (bJ.calls k g j6 jv (wrap64 (1 + jq)) jr js jt jA w0 _ ?side1 ?side2 A4.out).mono ?_);(case side1=>exact TK);(case side2=>exact aCp);rintro e w8 ⟨jC,rfl,ho0,hi,hb,hk⟩;refine ⟨_,rfl,?_⟩;have j8:=am (Kd.eO (Kd.aW (ok':=fun k_=>(w.heap.size≤k_)∧k_≠j3∧k_≠g) ho0 (fun k_ hk_=>⟨(Nat.le_trans (aN (w:=w) (g:=g) (row:=none) PL) hk_),(kT j4.out k_ hk_),(aJ.fresh TK k_ hk_)⟩)) (aN (w:=w) (g:=g) (row:=none) PL));replace j4:=am (aD.blk hk (g':=j3) (o:=.cells #[.int .i64 0,.int .i64 0,.int .i64 0,.int .i64 0,.int .i64 0,.slice none 0 0,.slice none 0 0,.slice none 0 0] 58 (0,0)) (aG_ j4.out) j5.out (by simp));replace HK:=am (aD.trans PL hk (.inl rfl));replace HB:=am (hb);replace HI0:=am (hi);(try clear hb);(try clear hk);(try clear hi);(try clear ho0);obtain ⟨jw,jx,jB⟩:=Kd.eF j8.out;subst jB;have jy:=j5.out;have jz:=NB0_29.out;obtain ⟨j9,ja,jb,jc,jd,je,jf,jg,jh,ji,jj,jk,jl,jm,jn,jo⟩:=fP j4.out));refine bodyPost_ret (results_cell_row rfl _ _ j3 58 #[.int .i64 1,.int .i64 jp,.int .i64 0,.int .i64 jr,.int .i64 js,.slice jw jt.length jx,.slice none 0 0,.slice none 0 0] (0,0) _ rfl (aV (aV (aV (aV (aV (aV (aV (aV j4.out 0 _ rfl) 1 _ rfl) 2 _ rfl) 3 _ rfl) 4 _ rfl) 5 _ rfl) 6 _ rfl) 7 _ rfl) Tryz.underlying58 rfl (by kernel_rfl)) rfl ?_;exact ⟨_,_,_,gU,kV (Kd.aW (Kd.bX (p:=⟨j3,7,none⟩) (Kd.bX (p:=⟨j3,6,none⟩) (Kd.bX (p:=⟨j3,5,none⟩) (Kd.bX (p:=⟨j3,4,none⟩) (Kd.bX (p:=⟨j3,3,none⟩) (Kd.bX (p:=⟨j3,2,none⟩) (Kd.bX (p:=⟨j3,1,none⟩) (Kd.bX (p:=⟨j3,0,none⟩) (Kd.aW j8.out (fun k_ hk=>(⟨hk,hk.2.1⟩:_∧k_≠j3))) (fun _ hk=>hk.2) (.int .i64 1)) (fun _ hk=>hk.2) (.int .i64 jp)) (fun _ hk=>hk.2) (.int .i64 0)) (fun _ hk=>hk.2) (.int .i64 jr)) (fun _ hk=>hk.2) (.int .i64 js)) (fun _ hk=>hk.2) (.slice jw jt.length jx)) (fun _ hk=>hk.2) (.slice none 0 0)) (fun _ hk=>hk.2) (.slice none 0 0)) (fun _ hk=>⟨hk.1.1,⟨(by simp [Value.ownBlock]),(by simp [Value.ownBlock])⟩⟩)),by first|exact Kd.uS _ _ _ _ _|exact Kd.xS _ _ _ _ _|exact Kd.xV _ _ _ _ _|exact Kd.xU _ _ _ _ _|exact Kd.vH _ _ _ _ _,by first|exact Kd.uS _ _ _ _ _|exact Kd.xS _ _ _ _ _|exact Kd.xV _ _ _ _ _|exact Kd.xU _ _ _ _ _|exact Kd.vH _ _ _ _ _,TK,aCp,PL⟩
theorem gT.mono:∀ a0 a1 a2 k,LeO (gT.f k a0 a1 a2) (gT.f (k + 1) a0 a1 a2):=by
 intro a0 a1 a2 k;unfold gT.f;have m0:=@aH.mono;have m1:=@bJ.mono;have m2:=@gN.mono;exact mo_
theorem gT.calls (k:Nat) (g:Nat) (j6:List Int) (j7:Int) (a1:Int) (r1:Int) (r2:Int) (r3:Int) (r4:Int) (r5:Int) (r6:List (S56)) (r7:List (S58)) (r8:List (S58)) (r9:Int) (w0 w:World) (hI:aJ w0 w g j6 j7) (hB:Below w0.heap.size w0 w) (h:gT.f k j6 j7 a1=some (r1,r2,r3,r4,r5,r6,r7,r8,r9)):
  Calls Tryz.prog 129 #[.pointer (some ⟨g,0,none⟩),.int .i64 a1] w fun e w'=>∃ v5_ v6_ v7_:Value,e= .returned (.agg #[.int .i64 r1,.int .i64 r2,.int .i64 r3,.int .i64 r4,.int .i64 r5,v5_,v6_,v7_])∧Kd.N k56 56 w' w.heap.size (fun k_=>(w.heap.size≤k_)∧some k_≠(v6_:Value).ownBlock∧some k_≠(v7_:Value).ownBlock) v5_ r6∧Kd.N k58 58 w' w.heap.size (fun k_=>(w.heap.size≤k_)∧some k_≠(v5_:Value).ownBlock∧some k_≠(v7_:Value).ownBlock) v6_ r7∧Kd.N k58 58 w' w.heap.size (fun k_=>(w.heap.size≤k_)∧some k_≠(v5_:Value).ownBlock∧some k_≠(v6_:Value).ownBlock) v7_ r8∧aJ w0 w' g j6 r9∧Below w0.heap.size w0 w'∧aD w w' g none:=by
 have hu58:=Tryz.underlying58;have HI0:=am hI;have HK:=am (aD.refl w g none);have HL:=am hB.size;clear hI;have HW0:=am hB.size;have HB:=am hB;clear hB;unfold gT.f at h;have H:=h;clear h;have HH_:=am H;clear H;go_enter Tryz.func129,Tryz.ntmps129;go_upto_region 1 with (first|((with_reducible refine gD 4 rfl ?_);refine dU rfl (N:=4) rfl (cs:=#[.int .i64 0,.int .i64 0,.int .i64 0,.int .i64 0,.int .i64 0,.slice none 0 0,.slice none 0 0,.slice none 0 0]) (t:=58) rn_ ?_;intro j3 hg w5 hbox hb;replace HB:=am (aA kJ hb);have j4:=am (hbox);have GW38:=am ((by rw [hg];exact (aN (w:=w) (g:=g) (row:=none) fJ):w.heap.size≤j3));have GE38:=am ((Nat.le_trans HW0.out (by rw [hg];exact (aN (w:=w) (g:=g) (row:=none) fJ):w.heap.size≤j3):w0.heap.size≤j3));replace HK:=am (aD.trans fJ (aD.of_below hb g none) (.inl rfl));have NB0_38:=am ((by rw [hg];exact Nat.ne_of_lt (aJ.lt (show aJ w0 _ g j6 j7 from fZ)):g≠j3));have j5:=am ((by rw [hg];exact Nat.ne_of_gt (aJ.lt (show aJ w0 _ g j6 j7 from fZ)):j3≠g));replace HI0:=am (aJ.below fZ hb);clear hb hbox hg));have H:=HH_.out;clear HH_;by_cases c3:a1 < 1
 ·rw [if_pos c3] at H;have q5:decide (a1 < 1)=true:=dT c3;clear c3;obtain ⟨⟨je,jf,jg,jh,ji,jj,jk,jl,qJ⟩,A4,H⟩:=bsa H;(try dsimp only at H);simp only [Option.some.injEq,Prod.mk.injEq] at H;obtain ⟨rfl,rfl,rfl,rfl,rfl,rfl,rfl,rfl,rfl⟩:=H;go_wp2_with (first|((with_reducible refine gC 126 rfl ?_);refine gl_ 9 Tryz.func126 #[.pointer (some ⟨g,0,none⟩)] ?_;(with_reducible refine (gN.calls k g j6 j7 je jf jg jh ji jj jk jl qJ w0 _ ?side1 ?side2 A4.out).mono ?_);(case side1=>exact vI);(case side2=>exact yJ);rintro e w6 ⟨qt,qu,qv,rfl,ho0,ho1,ho2,hi,hb,hk⟩;refine ⟨_,rfl,?_⟩;have jm:=am (Kd.eO (Kd.aW (ok':=fun k_=>(w.heap.size≤k_)∧some k_≠(qu:Value).ownBlock∧some k_≠(qv:Value).ownBlock∧k_≠j3∧k_≠g) ho0 (fun k_ hk_=>⟨(Nat.le_trans (aN (w:=w) (g:=g) (row:=none) sM) hk_.1),hk_.2.1,hk_.2.2,(kT j4.out k_ hk_.1),(aJ.fresh vI k_ hk_.1)⟩)) (aN (w:=w) (g:=g) (row:=none) sM));have jn:=am (Kd.eO (Kd.aW (ok':=fun k_=>(w.heap.size≤k_)∧some k_≠(qt:Value).ownBlock∧some k_≠(qv:Value).ownBlock∧k_≠j3∧k_≠g) ho1 (fun k_ hk_=>⟨(Nat.le_trans (aN (w:=w) (g:=g) (row:=none) sM) hk_.1),hk_.2.1,hk_.2.2,(kT j4.out k_ hk_.1),(aJ.fresh vI k_ hk_.1)⟩)) (aN (w:=w) (g:=g) (row:=none) sM));have jo:=am (Kd.eO (Kd.aW (ok':=fun k_=>(w.heap.size≤k_)∧some k_≠(qt:Value).ownBlock∧some k_≠(qu:Value).ownBlock∧k_≠j3∧k_≠g) ho2 (fun k_ hk_=>⟨(Nat.le_trans (aN (w:=w) (g:=g) (row:=none) sM) hk_.1),hk_.2.1,hk_.2.2,(kT j4.out k_ hk_.1),(aJ.fresh vI k_ hk_.1)⟩)) (aN (w:=w) (g:=g) (row:=none) sM));replace j4:=am (aD.blk hk (g':=j3) (o:=.cells #[.int .i64 0,.int .i64 0,.int .i64 0,.int .i64 0,.int .i64 0,.slice none 0 0,.slice none 0 0,.slice none 0 0] 58 (0,0)) (aG_ j4.out) j5.out (by simp));replace HK:=am (aD.trans sM hk (.inl rfl));replace HB:=am (hb);replace HI0:=am (hi);(try clear hb);(try clear hk);(try clear hi);(try clear ho0);(try clear ho1);(try clear ho2);have qK:=j5.out;have qL:=NB0_38.out;obtain ⟨q6,q7,q8,q9,qa,qb,qc,qd,qe,qf,qg,qh,qi,qj,qk,ql⟩:=fP j4.out;obtain ⟨jv,jw,qM⟩:=Kd.eF jm.out;subst qM;obtain ⟨j8,j9,qm⟩:=Kd.eF jn.out;subst qm;obtain ⟨ja,jb,qn⟩:=Kd.eF jo.out;subst qn));refine bodyPost_ret (results_cell_row rfl _ _ j3 58 #[.int .i64 je,.int .i64 jf,.int .i64 jg,.int .i64 jh,.int .i64 ji,.slice jv jj.length jw,.slice j8 jk.length j9,.slice ja jl.length jb] (0,0) _ rfl (aV (aV (aV (aV (aV (aV (aV (aV j4.out 0 _ rfl) 1 _ rfl) 2 _ rfl) 3 _ rfl) 4 _ rfl) 5 _ rfl) 6 _ rfl) 7 _ rfl) Tryz.underlying58 rfl (by kernel_rfl)) rfl ?_;exact ⟨_,_,_,gU,kV (Kd.aW (Kd.bX (p:=⟨j3,7,none⟩) (Kd.bX (p:=⟨j3,6,none⟩) (Kd.bX (p:=⟨j3,5,none⟩) (Kd.bX (p:=⟨j3,4,none⟩) (Kd.bX (p:=⟨j3,3,none⟩) (Kd.bX (p:=⟨j3,2,none⟩) (Kd.bX (p:=⟨j3,1,none⟩) (Kd.bX (p:=⟨j3,0,none⟩) (Kd.aW jm.out (fun k_ hk=>(⟨hk,hk.2.2.2.1⟩:_∧k_≠j3))) (fun _ hk=>hk.2) (.int .i64 je)) (fun _ hk=>hk.2) (.int .i64 jf)) (fun _ hk=>hk.2) (.int .i64 jg)) (fun _ hk=>hk.2) (.int .i64 jh)) (fun _ hk=>hk.2) (.int .i64 ji)) (fun _ hk=>hk.2) (.slice jv jj.length jw)) (fun _ hk=>hk.2) (.slice j8 jk.length j9)) (fun _ hk=>hk.2) (.slice ja jl.length jb)) (fun _ hk=>⟨hk.1.1,⟨hk.1.2.1,hk.1.2.2.1⟩⟩)),kV (Kd.aW (Kd.bX (p:=⟨j3,7,none⟩) (Kd.bX (p:=⟨j3,6,none⟩) (Kd.bX (p:=⟨j3,5,none⟩) (Kd.bX (p:=⟨j3,4,none⟩) (Kd.bX (p:=⟨j3,3,none⟩) (Kd.bX (p:=⟨j3,2,none⟩) (Kd.bX (p:=⟨j3,1,none⟩) (Kd.bX (p:=⟨j3,0,none⟩) (Kd.aW jn.out (fun k_ hk=>(⟨hk,hk.2.2.2.1⟩:_∧k_≠j3))) (fun _ hk=>hk.2) (.int .i64 je)) (fun _ hk=>hk.2) (.int .i64 jf)) (fun _ hk=>hk.2) (.int .i64 jg)) (fun _ hk=>hk.2) (.int .i64 jh)) (fun _ hk=>hk.2) (.int .i64 ji)) (fun _ hk=>hk.2) (.slice jv jj.length jw)) (fun _ hk=>hk.2) (.slice j8 jk.length j9)) (fun _ hk=>hk.2) (.slice ja jl.length jb)) (fun _ hk=>⟨hk.1.1,⟨hk.1.2.1,hk.1.2.2.1⟩⟩)),kV (Kd.aW (Kd.bX (p:=⟨j3,7,none⟩) (Kd.bX (p:=⟨j3,6,none⟩) (Kd.bX (p:=⟨j3,5,none⟩) (Kd.bX (p:=⟨j3,4,none⟩) (Kd.bX (p:=⟨j3,3,none⟩) (Kd.bX (p:=⟨j3,2,none⟩) (Kd.bX (p:=⟨j3,1,none⟩) (Kd.bX (p:=⟨j3,0,none⟩) (Kd.aW jo.out (fun k_ hk=>(⟨hk,hk.2.2.2.1⟩:_∧k_≠j3))) (fun _ hk=>hk.2) (.int .i64 je)) (fun _ hk=>hk.2) (.int .i64 jf)) (fun _ hk=>hk.2) (.int .i64 jg)) (fun _ hk=>hk.2) (.int .i64 jh)) (fun _ hk=>hk.2) (.int .i64 ji)) (fun _ hk=>hk.2) (.slice jv jj.length jw)) (fun _ hk=>hk.2) (.slice j8 jk.length j9)) (fun _ hk=>hk.2) (.slice ja jl.length jb)) (fun _ hk=>⟨hk.1.1,⟨hk.1.2.1,hk.1.2.2.1⟩⟩)),vI,yJ,sM⟩
 rw [if_neg c3] at H;have q5:decide (a1 < 1)=false:=dF c3;clear c3;obtain ⟨⟨jp,jx⟩,qw,H⟩:=bsm H;(try dsimp only at H);have qx:=am qw;clear qw;obtain ⟨⟨jc,jy⟩,qy,H⟩:=bsm H;(try dsimp only at H);have qz:=am qy;clear qy;by_cases jd:jc=0
 ·rw [if_pos jd] at H;have jq:(jc == 0)=true:=beq_iff_eq.mpr jd;have jr:(jc != 0)=false:=bF jd;clear jd;obtain ⟨⟨qo,qA⟩,qB,H⟩:=bsm H;(try dsimp only at H);have qN:=am qB;clear qB;obtain ⟨⟨qp,qq,qr,qO⟩,qC,H⟩:=bsm H;(try dsimp only at H);have qP:=am qC;clear qC;simp only [Option.some.injEq,Prod.mk.injEq] at H;obtain ⟨rfl,rfl,rfl,rfl,rfl,rfl,rfl,rfl,rfl⟩:=H;go_wp2_with (first|((with_reducible refine gC 37 rfl ?_);refine gl_ 12 Tryz.func37 #[.pointer (some ⟨g,0,none⟩),.int .i64 a1] ?_;(with_reducible refine (aH.calls k g j6 j7 a1 jp jx w0 _ ?side1 ?side2 qx.out).mono ?_);(case side1=>exact vI);(case side2=>exact yJ);rintro e qS ⟨rfl,hi,hb,hk⟩;refine ⟨_,rfl,?_⟩;replace j4:=am (aD.blk hk (g':=j3) (o:=.cells #[.int .i64 0,.int .i64 0,.int .i64 0,.int .i64 0,.int .i64 0,.slice none 0 0,.slice none 0 0,.slice none 0 0] 58 (0,0)) (aG_ j4.out) j5.out (by simp));replace HK:=am (aD.trans sM hk (.inl rfl));replace HB:=am (hb);replace HI0:=am (hi);(try clear hb);(try clear hk);(try clear hi))|((with_reducible refine gC 37 rfl ?_);refine gl_ 14 Tryz.func37 #[.pointer (some ⟨g,0,none⟩),.int .i64 2] ?_;(with_reducible refine (aH.calls k g j6 jx 2 jc jy w0 _ ?side1 ?side2 qz.out).mono ?_);(case side1=>exact vI);(case side2=>exact yJ);rintro e qT ⟨rfl,hi,hb,hk⟩;refine ⟨_,rfl,?_⟩;replace j4:=am (aD.blk hk (g':=j3) (o:=.cells #[.int .i64 0,.int .i64 0,.int .i64 0,.int .i64 0,.int .i64 0,.slice none 0 0,.slice none 0 0,.slice none 0 0] 58 (0,0)) (aG_ j4.out) j5.out (by simp));replace HK:=am (aD.trans sM hk (.inl rfl));replace HB:=am (hb);replace HI0:=am (hi);(try clear hb);(try clear hk);(try clear hi))|((with_reducible refine gC 37 rfl ?_);refine gl_ 19 Tryz.func37 #[.pointer (some ⟨g,0,none⟩),.int .i64 3] ?_;(with_reducible refine (aH.calls k g j6 jy 3 qo qA w0 _ ?side1 ?side2 qN.out).mono ?_);(case side1=>exact vI);(case side2=>exact yJ);rintro e qU ⟨rfl,hi,hb,hk⟩;refine ⟨_,rfl,?_⟩;replace j4:=am (aD.blk hk (g':=j3) (o:=.cells #[.int .i64 0,.int .i64 0,.int .i64 0,.int .i64 0,.int .i64 0,.slice none 0 0,.slice none 0 0,.slice none 0 0] 58 (0,0)) (aG_ j4.out) j5.out (by simp));replace HK:=am (aD.trans sM hk (.inl rfl));replace HB:=am (hb);replace HI0:=am (hi);(try clear hb);(try clear hk);(try clear hi))|((with_reducible refine gC 130 rfl ?_);refine gl_ 21 Tryz.func130 #[.pointer (some ⟨g,0,none⟩),.int .i64 (wrap64 (1 + qo))] ?_;(with_reducible refine (bJ.calls k g j6 qA (wrap64 (1 + qo)) qp qq qr qO w0 _ ?side1 ?side2 qP.out).mono ?_);(case side1=>exact vI);(case side2=>exact yJ);rintro e qV ⟨qW,rfl,ho0,hi,hb,hk⟩;refine ⟨_,rfl,?_⟩;have js:=am (Kd.eO (Kd.aW (ok':=fun k_=>(w.heap.size≤k_)∧k_≠j3∧k_≠g) ho0 (fun k_ hk_=>⟨(Nat.le_trans (aN (w:=w) (g:=g) (row:=none) sM) hk_),(kT j4.out k_ hk_),(aJ.fresh vI k_ hk_)⟩)) (aN (w:=w) (g:=g) (row:=none) sM));replace j4:=am (aD.blk hk (g':=j3) (o:=.cells #[.int .i64 0,.int .i64 0,.int .i64 0,.int .i64 0,.int .i64 0,.slice none 0 0,.slice none 0 0,.slice none 0 0] 58 (0,0)) (aG_ j4.out) j5.out (by simp));replace HK:=am (aD.trans sM hk (.inl rfl));replace HB:=am (hb);replace HI0:=am (hi);(try clear hb);(try clear hk);(try clear hi);(try clear ho0);obtain ⟨jt,ju,qs⟩:=Kd.eF js.out;subst qs;have qD:=j5.out;have qE:=NB0_38.out;obtain ⟨jz,jA,jB,jC,jD,jE,jF,jG,jH,jI,jJ,jK,jL,jM,jN,jO⟩:=fP j4.out));refine bodyPost_ret (results_cell_row rfl _ _ j3 58 #[.int .i64 4,.int .i64 0,.int .i64 jp,.int .i64 qp,.int .i64 qq,.slice jt qr.length ju,.slice none 0 0,.slice none 0 0] (0,0) _ rfl (aV (aV (aV (aV (aV (aV (aV (aV j4.out 0 _ rfl) 1 _ rfl) 2 _ rfl) 3 _ rfl) 4 _ rfl) 5 _ rfl) 6 _ rfl) 7 _ rfl) Tryz.underlying58 rfl (by kernel_rfl)) rfl ?_;exact ⟨_,_,_,gU,kV (Kd.aW (Kd.bX (p:=⟨j3,7,none⟩) (Kd.bX (p:=⟨j3,6,none⟩) (Kd.bX (p:=⟨j3,5,none⟩) (Kd.bX (p:=⟨j3,4,none⟩) (Kd.bX (p:=⟨j3,3,none⟩) (Kd.bX (p:=⟨j3,2,none⟩) (Kd.bX (p:=⟨j3,1,none⟩) (Kd.bX (p:=⟨j3,0,none⟩) (Kd.aW js.out (fun k_ hk=>(⟨hk,hk.2.1⟩:_∧k_≠j3))) (fun _ hk=>hk.2) (.int .i64 4)) (fun _ hk=>hk.2) (.int .i64 0)) (fun _ hk=>hk.2) (.int .i64 jp)) (fun _ hk=>hk.2) (.int .i64 qp)) (fun _ hk=>hk.2) (.int .i64 qq)) (fun _ hk=>hk.2) (.slice jt qr.length ju)) (fun _ hk=>hk.2) (.slice none 0 0)) (fun _ hk=>hk.2) (.slice none 0 0)) (fun _ hk=>⟨hk.1.1,⟨(by simp [Value.ownBlock]),(by simp [Value.ownBlock])⟩⟩)),by first|exact Kd.uS _ _ _ _ _|exact Kd.xS _ _ _ _ _|exact Kd.xV _ _ _ _ _|exact Kd.xU _ _ _ _ _|exact Kd.vH _ _ _ _ _,by first|exact Kd.uS _ _ _ _ _|exact Kd.xS _ _ _ _ _|exact Kd.xV _ _ _ _ _|exact Kd.xU _ _ _ _ _|exact Kd.vH _ _ _ _ _,vI,yJ,sM⟩
 rw [if_neg jd] at H;have jq:(jc == 0)=false:=bE jd;have jr:(jc != 0)=true:=bne_iff_ne.mpr jd;obtain ⟨⟨qF,qQ⟩,qG,H⟩:=bsm H;(try dsimp only at H);have qR:=am qG;clear qG;simp only [Option.some.injEq,Prod.mk.injEq] at H;obtain ⟨rfl,rfl,rfl,rfl,rfl,rfl,rfl,rfl,rfl⟩:=H;go_wp2_with (first|((with_reducible refine gC 37 rfl ?_);refine gl_ 12 Tryz.func37 #[.pointer (some ⟨g,0,none⟩),.int .i64 a1] ?_;(with_reducible refine (aH.calls k g j6 j7 a1 jp jx w0 _ ?side1 ?side2 qx.out).mono ?_);(case side1=>exact vI);(case side2=>exact yJ);rintro e qX ⟨rfl,hi,hb,hk⟩;refine ⟨_,rfl,?_⟩;replace j4:=am (aD.blk hk (g':=j3) (o:=.cells #[.int .i64 0,.int .i64 0,.int .i64 0,.int .i64 0,.int .i64 0,.slice none 0 0,.slice none 0 0,.slice none 0 0] 58 (0,0)) (aG_ j4.out) j5.out (by simp));replace HK:=am (aD.trans sM hk (.inl rfl));replace HB:=am (hb);replace HI0:=am (hi);(try clear hb);(try clear hk);(try clear hi))|((with_reducible refine gC 37 rfl ?_);refine gl_ 14 Tryz.func37 #[.pointer (some ⟨g,0,none⟩),.int .i64 2] ?_;(with_reducible refine (aH.calls k g j6 jx 2 jc jy w0 _ ?side1 ?side2 qz.out).mono ?_);(case side1=>exact vI);(case side2=>exact yJ);rintro e qY ⟨rfl,hi,hb,hk⟩;refine ⟨_,rfl,?_⟩;replace j4:=am (aD.blk hk (g':=j3) (o:=.cells #[.int .i64 0,.int .i64 0,.int .i64 0,.int .i64 0,.int .i64 0,.slice none 0 0,.slice none 0 0,.slice none 0 0] 58 (0,0)) (aG_ j4.out) j5.out (by simp));replace HK:=am (aD.trans sM hk (.inl rfl));replace HB:=am (hb);replace HI0:=am (hi);(try clear hb);(try clear hk);(try clear hi))|((with_reducible refine gC 37 rfl ?_);refine gl_ 25 Tryz.func37 #[.pointer (some ⟨g,0,none⟩),.int .i64 3] ?_;(with_reducible refine (aH.calls k g j6 jy 3 qF qQ w0 _ ?side1 ?side2 qR.out).mono ?_);(case side1=>exact vI);(case side2=>exact yJ);rintro e qZ ⟨rfl,hi,hb,hk⟩;refine ⟨_,rfl,?_⟩;replace j4:=am (aD.blk hk (g':=j3) (o:=.cells #[.int .i64 0,.int .i64 0,.int .i64 0,.int .i64 0,.int .i64 0,.slice none 0 0,.slice none 0 0,.slice none 0 0] 58 (0,0)) (aG_ j4.out) j5.out (by simp));replace HK:=am (aD.trans sM hk (.inl rfl));replace HB:=am (hb);replace HI0:=am (hi);(try clear hb);(try clear hk);(try clear hi);have qH:=j5.out;have qI:=NB0_38.out;obtain ⟨jP,jQ,jR,jS,jT,jU,jV,jW,jX,jY,jZ,q0,q1,q2,q3,q4⟩:=fP j4.out));refine bodyPost_ret (results_cell_row rfl _ _ j3 58 #[.int .i64 5,.int .i64 qF,.int .i64 jp,.int .i64 0,.int .i64 0,.slice none 0 0,.slice none 0 0,.slice none 0 0] (0,0) _ rfl (aV (aV (aV (aV (aV (aV (aV (aV j4.out 0 _ rfl) 1 _ rfl) 2 _ rfl) 3 _ rfl) 4 _ rfl) 5 _ rfl) 6 _ rfl) 7 _ rfl) Tryz.underlying58 rfl (by kernel_rfl)) rfl ?_;exact ⟨_,_,_,gU,by first|exact Kd.uS _ _ _ _ _|exact Kd.xS _ _ _ _ _|exact Kd.xV _ _ _ _ _|exact Kd.xU _ _ _ _ _|exact Kd.vH _ _ _ _ _,by first|exact Kd.uS _ _ _ _ _|exact Kd.xS _ _ _ _ _|exact Kd.xV _ _ _ _ _|exact Kd.xU _ _ _ _ _|exact Kd.vH _ _ _ _ _,by first|exact Kd.uS _ _ _ _ _|exact Kd.xS _ _ _ _ _|exact Kd.xV _ _ _ _ _|exact Kd.xU _ _ _ _ _|exact Kd.vH _ _ _ _ _,vI,yJ,sM⟩
theorem dX.mono_all:∀ k,(∀ y0 y1 y2 y3 y4,LeO (dX.f k y0 y1 y2 y3 y4) (dX.f (k + 1) y0 y1 y2 y3 y4))∧(∀ y0 y1 y2 y3,LeO (fD.f k y0 y1 y2 y3) (fD.f (k + 1) y0 y1 y2 y3))∧(∀ y0 y1 y2 y3 y4,LeO (bG.f k y0 y1 y2 y3 y4) (bG.f (k + 1) y0 y1 y2 y3 y4))∧(∀ y0 y1 y2 y3 y4 y5 y6,LeO (bG.j0 k y0 y1 y2 y3 y4 y5 y6) (bG.j0 (k + 1) y0 y1 y2 y3 y4 y5 y6))∧(∀ y0 y1 y2 y3 y4,LeO (bG.j1 k y0 y1 y2 y3 y4) (bG.j1 (k + 1) y0 y1 y2 y3 y4))∧(∀ y0 y1 y2 y3 y4,LeO (bG.j2 k y0 y1 y2 y3 y4) (bG.j2 (k + 1) y0 y1 y2 y3 y4))∧(∀ y0 y1 y2 y3 y4 y5,LeO (bT.f k y0 y1 y2 y3 y4 y5) (bT.f (k + 1) y0 y1 y2 y3 y4 y5))∧(∀ y0 y1 y2 y3 y4 y5 y6 y7,LeO (bT.l0 k y0 y1 y2 y3 y4 y5 y6 y7) (bT.l0 (k + 1) y0 y1 y2 y3 y4 y5 y6 y7))
 |0=>⟨fun _ _ _ _ _ r h=>by simp [dX.f] at h,fun _ _ _ _ r h=>by simp [fD.f] at h,fun _ _ _ _ _ r h=>by simp [bG.f] at h,fun _ _ _ _ _ _ _ r h=>by simp [bG.j0] at h,fun _ _ _ _ _ r h=>by simp [bG.j1] at h,fun _ _ _ _ _ r h=>by simp [bG.j2] at h,fun _ _ _ _ _ _ r h=>by simp [bT.f] at h,fun _ _ _ _ _ _ _ _ r h=>by simp [bT.l0] at h⟩
 |k + 1=>by
  obtain ⟨ih0,ih1,ih2,ih3,ih4,ih5,ih6,ih7⟩:=dX.mono_all k;refine ⟨?_,?_,?_,?_,?_,?_,?_,?_⟩
  ·intro y0 y1 y2 y3 y4;unfold dX.f;have m0:=@aH.mono;have m1:=@bJ.mono;have m2:=@gN.mono;have m3:=@gT.mono;exact mo_
  ·intro y0 y1 y2 y3;unfold fD.f;have m0:=@aH.mono;have m1:=@bJ.mono;have m2:=@gN.mono;have m3:=@gT.mono;exact mo_
  ·intro y0 y1 y2 y3 y4;unfold bG.f;have m0:=@aH.mono;have m1:=@bJ.mono;have m2:=@gN.mono;have m3:=@gT.mono;exact mo_
  ·intro y0 y1 y2 y3 y4 y5 y6;unfold bG.j0;have m0:=@aH.mono;have m1:=@bJ.mono;have m2:=@gN.mono;have m3:=@gT.mono;exact mo_
  ·intro y0 y1 y2 y3 y4;unfold bG.j1;have m0:=@aH.mono;have m1:=@bJ.mono;have m2:=@gN.mono;have m3:=@gT.mono;exact mo_
  ·intro y0 y1 y2 y3 y4;unfold bG.j2;have m0:=@aH.mono;have m1:=@bJ.mono;have m2:=@gN.mono;have m3:=@gT.mono;exact mo_
  ·intro y0 y1 y2 y3 y4 y5;unfold bT.f;have m0:=@aH.mono;have m1:=@bJ.mono;have m2:=@gN.mono;have m3:=@gT.mono;exact mo_
  ·intro y0 y1 y2 y3 y4 y5 y6 y7;unfold bT.l0;have m0:=@aH.mono;have m1:=@bJ.mono;have m2:=@gN.mono;have m3:=@gT.mono;exact mo_
theorem dX.mono:∀ a0 a1 a2 a3 a4 k,LeO (dX.f k a0 a1 a2 a3 a4) (dX.f (k + 1) a0 a1 a2 a3 a4):=by
 intro a0 a1 a2 a3 a4 k;obtain ⟨ih0,ih1,ih2,ih3,ih4,ih5,ih6,ih7⟩:=dX.mono_all k;exact ih0 a0 a1 a2 a3 a4
theorem fD.mono:∀ a0 a1 a2 a3 k,LeO (fD.f k a0 a1 a2 a3) (fD.f (k + 1) a0 a1 a2 a3):=by
 intro a0 a1 a2 a3 k;obtain ⟨ih0,ih1,ih2,ih3,ih4,ih5,ih6,ih7⟩:=dX.mono_all k;exact ih1 a0 a1 a2 a3
theorem bG.mono:∀ a0 a1 a2 a3 a4 k,LeO (bG.f k a0 a1 a2 a3 a4) (bG.f (k + 1) a0 a1 a2 a3 a4):=by
 intro a0 a1 a2 a3 a4 k;obtain ⟨ih0,ih1,ih2,ih3,ih4,ih5,ih6,ih7⟩:=dX.mono_all k;exact ih2 a0 a1 a2 a3 a4
theorem bT.mono:∀ a0 a1 a2 a3 a4 a5 k,LeO (bT.f k a0 a1 a2 a3 a4 a5) (bT.f (k + 1) a0 a1 a2 a3 a4 a5):=by
 intro a0 a1 a2 a3 a4 a5 k;obtain ⟨ih0,ih1,ih2,ih3,ih4,ih5,ih6,ih7⟩:=dX.mono_all k;exact ih6 a0 a1 a2 a3 a4 a5
abbrev dX.dJ (k:Nat):Prop:=∀ (g:Nat) (s0_0:List Int) (s0_1:Int) (a1:Int) (a2:Int) (a3:Bool) (r1:Int) (r2:Int) (r3:Int) (r4:Int) (r5:Int) (r6:List (S56)) (r7:List (S58)) (r8:List (S58)) (r9:Int) (w0 w:World) (hI:aJ w0 w g s0_0 s0_1) (hB:Below w0.heap.size w0 w) (h:dX.f k s0_0 s0_1 a1 a2 a3=some (r1,r2,r3,r4,r5,r6,r7,r8,r9)),
  Calls Tryz.prog 127 #[.pointer (some ⟨g,0,none⟩),.int .i64 a1,.int .i64 a2,.bool a3] w fun e w'=>∃ v5_ v6_ v7_:Value,e= .returned (.agg #[.int .i64 r1,.int .i64 r2,.int .i64 r3,.int .i64 r4,.int .i64 r5,v5_,v6_,v7_])∧Kd.N k56 56 w' w.heap.size (fun k_=>(w.heap.size≤k_)∧some k_≠(v6_:Value).ownBlock∧some k_≠(v7_:Value).ownBlock) v5_ r6∧Kd.N k58 58 w' w.heap.size (fun k_=>(w.heap.size≤k_)∧some k_≠(v5_:Value).ownBlock∧some k_≠(v7_:Value).ownBlock) v6_ r7∧Kd.N k58 58 w' w.heap.size (fun k_=>(w.heap.size≤k_)∧some k_≠(v5_:Value).ownBlock∧some k_≠(v6_:Value).ownBlock) v7_ r8∧aJ w0 w' g s0_0 r9∧Below w0.heap.size w0 w'∧aD w w' g none
abbrev fD.dJ (k:Nat):Prop:=∀ (g:Nat) (s0_0:List Int) (s0_1:Int) (a1:Int) (a2:Int) (r1:List (S58)) (r2:Int) (w0 w:World) (hI:aJ w0 w g s0_0 s0_1) (hB:Below w0.heap.size w0 w) (h:fD.f k s0_0 s0_1 a1 a2=some (r1,r2)),
  Calls Tryz.prog 128 #[.pointer (some ⟨g,0,none⟩),.int .i64 a1,.int .i64 a2] w fun e w'=>∃ v0_:Value,e= .returned (v0_)∧Kd.N k58 58 w' w.heap.size (fun k_=>(w.heap.size≤k_)) v0_ r1∧aJ w0 w' g s0_0 r2∧Below w0.heap.size w0 w'∧aD w w' g none
abbrev bG.dJ (k:Nat):Prop:=∀ (g:Nat) (s0_0:List Int) (s0_1:Int) (a1:Int) (a2:Int) (a3:Bool) (r1:List (S58)) (r2:Int) (w0 w:World) (hI:aJ w0 w g s0_0 s0_1) (hB:Below w0.heap.size w0 w) (h:bG.f k s0_0 s0_1 a1 a2 a3=some (r1,r2)),
  Calls Tryz.prog 107 #[.pointer (some ⟨g,0,none⟩),.int .i64 a1,.int .i64 a2,.bool a3] w fun e w'=>∃ v0_:Value,e= .returned (v0_)∧Kd.N k58 58 w' w.heap.size (fun k_=>(w.heap.size≤k_)) v0_ r1∧aJ w0 w' g s0_0 r2∧Below w0.heap.size w0 w'∧aD w w' g none
abbrev bT.dJ (k:Nat):Prop:=∀ (g:Nat) (s0_0:List Int) (s0_1:Int) (a1:Int) (a2:Int) (a3:Int) (a4:Bool) (r1:List (S58)) (r2:Int) (w0 w:World) (hI:aJ w0 w g s0_0 s0_1) (hB:Below w0.heap.size w0 w) (h:bT.f k s0_0 s0_1 a1 a2 a3 a4=some (r1,r2)),
  Calls Tryz.prog 82 #[.pointer (some ⟨g,0,none⟩),.int .i64 a1,.int .i64 a2,.int .i64 a3,.bool a4] w fun e w'=>∃ v0_:Value,e= .returned (v0_)∧Kd.N k58 58 w' w.heap.size (fun k_=>(w.heap.size≤k_)) v0_ r1∧aJ w0 w' g s0_0 r2∧Below w0.heap.size w0 w'∧aD w w' g none
end Go.Proofs.YtjamfkpgmkhbnaaGreatDoor.PA

