/- Part 2. -/
import Derived.Test.YtjamfkpgmkhbnaaGreatDoorQFnSourceWords0
import Derived.Shelf.Strings.Builder1
import Derived.Shelf.Strings.Builder2
import Derived.Shelf.Strings.OnBuilder
import Derived.Shelf.Small.Strs
import Derived.Shelf.Strconv.Itoa0
import Derived.Shelf.Strconv.Itoa1
import Derived.Shelf.LaysM
import Derived.Shelf.Strconv.Itoa2
import Derived.Shelf.Strconv.Itoa3
import Derived.Shelf.Strings.Search1
import Derived.Shelf.Strings.Prefix
import Derived.Test.YtjamfkpgmkhbnaaGreatDoorProg
import Derived.Below
import Derived.Deep.Draws
import Derived.Deep.AppendLies
import Derived.Maps.AppendAt
import Derived.OwnWalk
import Derived.Laws.BytesArg
import Derived.Laws.MakeOwn
import Derived.Laws.OwnMore
import Derived.Deep.OwnRows
import Derived.Tactics
import Derived.Lib.ConvBytes
import Derived.Laws.Slices
import Derived.WalkKit
import Derived.KernelRfl
import Derived.RowKit3
import Derived.Deep.LoopGhost
import Derived.Deep.QuietTactic
import Derived.BigQuiet
import Derived.WideLaws
import Derived.Deep.DeepCutAuto
import Derived.Deep.CutBlock
import Derived.Deep.RegionHeld3
import Derived.Laws.Rows
import Derived.Lib.AppendStr
import Derived.ArgAppend
import Derived.Laws.IdiomCopy
import Derived.OrdersHeld
import Derived.Laws.BitsLemmas
import Derived.RowKit
import Derived.Lib.SliceRun
import Derived.Lib.LaidTab
import Derived.Lib.AppendIntMem
set_option maxHeartbeats 8000000
set_option maxRecDepth 100000
namespace Go.Proofs
open Go.Shelf
open Go.RowKit in
open Go.RowKit in
open Go.RowKit in
open Go.RowKit in
open Go.RowKit in
def Tryz.FY:Go.Shelf.Ren:=⟨fun|156=>44|165=>67|166=>68|169=>69|240=>91|241=>92|276=>116|277=>117|n=>n,fun|31=>29|9=>9|3=>3|4=>4|0=>0|20=>20|72=>97|76=>101|70=>95|37=>22|75=>100|127=>127|164=>147|5=>5|80=>103|n=>n,fun|n=>n⟩
theorem Tryz.aBa:Go.Proofs.Lays.n156 Tryz.prog Tryz.FY:={
 mixed:=by kernel_rfl
 f156:=Tryz.func44.trans (congrArg some (by kernel_rfl))
 f165:=Tryz.func67.trans (congrArg some (by kernel_rfl))
 f166:=Tryz.func68.trans (congrArg some (by kernel_rfl))
 f169:=Tryz.func69.trans (congrArg some (by kernel_rfl))
 f240:=Tryz.func91.trans (congrArg some (by kernel_rfl))
 f241:=Tryz.func92.trans (congrArg some (by kernel_rfl))
 f276:=Tryz.func116.trans (congrArg some (by kernel_rfl))
 f277:=Tryz.func117.trans (congrArg some (by kernel_rfl))
 t0:=Tryz.underlying0
 a0:=Tryz.isAgg0
 z0:=Tryz.sizeOf0
 v0:=Tryz.zeroValue0
 t3:=Tryz.underlying3
 a3:=Tryz.isAgg3
 z3:=Tryz.sizeOf3
 v3:=Tryz.zeroValue3
 t4:=Tryz.underlying4
 a4:=Tryz.isAgg4
 z4:=Tryz.sizeOf4
 v4:=Tryz.zeroValue4
 t9:=Tryz.underlying9
 a9:=Tryz.isAgg9
 z9:=Tryz.sizeOf9
 v9:=Tryz.zeroValue9
 t20:=Tryz.underlying20
 a20:=Tryz.isAgg20
 z20:=Tryz.sizeOf20
 v20:=Tryz.zeroValue20
 t31:=Tryz.underlying29
 a31:=Tryz.isAgg29
 z31:=Tryz.sizeOf29
 v31:=Tryz.zeroValue29
 t37:=Tryz.underlying22
 a37:=Tryz.isAgg22
 z37:=Tryz.sizeOf22
 v37:=Tryz.zeroValue22
 t70:=Tryz.underlying95
 a70:=Tryz.isAgg95
 z70:=Tryz.sizeOf95
 v70:=Tryz.zeroValue95
 t72:=Tryz.underlying97
 a72:=Tryz.isAgg97
 z72:=Tryz.sizeOf97
 v72:=Tryz.zeroValue97
 t75:=Tryz.underlying100
 a75:=Tryz.isAgg100
 z75:=Tryz.sizeOf100
 v75:=Tryz.zeroValue100
 t76:=Tryz.underlying101
 a76:=Tryz.isAgg101
 z76:=Tryz.sizeOf101
 v76:=Tryz.zeroValue101
 t127:=Tryz.underlying127
 a127:=Tryz.isAgg127
 z127:=Tryz.sizeOf127
 v127:=Tryz.zeroValue127
 t164:=Tryz.underlying147
 a164:=Tryz.isAgg147
 z164:=Tryz.sizeOf147
 v164:=Tryz.zeroValue147 }
theorem Tryz.uY:Builder.Extra Tryz.prog Tryz.FY:={
 sizeBuilder:=by kernel_rfl
 liesBuilder:=by kernel_rfl
 t5:=Tryz.underlying5
 a5:=Tryz.isAgg5
 z5:=Tryz.sizeOf5
 v5:=Tryz.zeroValue5
 infoByte:=by kernel_rfl
 cellsByte:=by kernel_rfl
 sizeByte:=by kernel_rfl
 neB5:=by decide }
open Go.RowKit in
theorem Tryz.strings_Join_none (a:Option Addr) (c:Nat) (sep:ByteArray) (w:World):
  Calls Tryz.prog 44 #[.slice a 0 c, .string sep] w fun e w'=>e= .returned (.string ⟨#[]⟩)∧w'=w:=Any.strings_Join_none Tryz.aBa Tryz.uY a c sep w
open Go.RowKit in
theorem Tryz.strings_Join (bk o c:Nat) (xs:List ByteArray) (sep:ByteArray) (w:World) (hcells:∀ (j:Nat) x,xs[j]?=some x→w.cell? ⟨bk,o + j,none⟩=some (.string x)) (hbk:bk < w.heap.size) (hN:xs.length≤140737488355328) (hcap:xs.length≤c) (hlen:(Lib.join (xs.map (·.data.toList)) sep.data.toList).length≤140737488355328):
    Calls Tryz.prog 44 #[.slice (some ⟨bk,o,none⟩) xs.length c, .string sep] w fun e w'=>e= .returned (.string ⟨(Lib.join (xs.map (·.data.toList)) sep.data.toList).toArray⟩)∧Below w.heap.size w w':=Any.strings_Join Tryz.aBa Tryz.uY bk o c xs sep w hcells hbk hN hcap hlen
def Tryz.SE:Go.Shelf.Ren:=⟨fun|137=>54|217=>77|266=>101|n=>n,fun|9=>9|5=>5|3=>3|n=>n,fun|n=>n⟩
theorem Tryz.aFh:Go.Proofs.Lays.n137 Tryz.prog Tryz.SE:={
 mixed:=by kernel_rfl
 f137:=Tryz.func54.trans (congrArg some (by kernel_rfl))
 f217:=Tryz.func77.trans (congrArg some (by kernel_rfl))
 f266:=Tryz.func101.trans (congrArg some (by kernel_rfl))
 t3:=Tryz.underlying3
 a3:=Tryz.isAgg3
 z3:=Tryz.sizeOf3
 v3:=Tryz.zeroValue3
 t5:=Tryz.underlying5
 a5:=Tryz.isAgg5
 z5:=Tryz.sizeOf5
 v5:=Tryz.zeroValue5
 t9:=Tryz.underlying9
 a9:=Tryz.isAgg9
 z9:=Tryz.sizeOf9
 v9:=Tryz.zeroValue9 }
open Go.RowKit in
theorem Tryz.strings_IndexByte (s:ByteArray) (c:Int) (w:World):
  Calls Tryz.prog 54 #[.string s, .int .u8 c] w fun e w'=>e= .returned (.int .i64 (Lib.indexByte s.data.toList c.toNat.toUInt8))∧w'=w:=Any.strings_IndexByte Tryz.aFh s c w
def Tryz.SC:Go.Shelf.Ren:=⟨fun|129=>111|n=>n,fun|53=>121|3=>3|4=>4|46=>144|5=>5|9=>9|n=>n,fun|n=>n⟩
theorem Tryz.aFg:Go.Proofs.Lays.n129 Tryz.prog Tryz.SC:={
 mixed:=by kernel_rfl
 f129:=Tryz.func111.trans (congrArg some (by kernel_rfl))
 t3:=Tryz.underlying3
 a3:=Tryz.isAgg3
 z3:=Tryz.sizeOf3
 v3:=Tryz.zeroValue3
 t4:=Tryz.underlying4
 a4:=Tryz.isAgg4
 z4:=Tryz.sizeOf4
 v4:=Tryz.zeroValue4
 t5:=Tryz.underlying5
 a5:=Tryz.isAgg5
 z5:=Tryz.sizeOf5
 v5:=Tryz.zeroValue5
 t9:=Tryz.underlying9
 a9:=Tryz.isAgg9
 z9:=Tryz.sizeOf9
 v9:=Tryz.zeroValue9
 t46:=Tryz.underlying144
 a46:=Tryz.isAgg144
 z46:=Tryz.sizeOf144
 v46:=Tryz.zeroValue144
 t53:=Tryz.underlying121
 a53:=Tryz.isAgg121
 z53:=Tryz.sizeOf121
 v53:=Tryz.zeroValue121 }
theorem Tryz.bits_Len64 (x:Int) (w:World) (h0:0≤x) (h1:x≤18446744073709551615):
  Calls Tryz.prog 111 #[.int .u64 x] w fun e w'=>e= .returned (.int .i64 (Lib.bitLen x.toNat))∧w'=w:=Any.bits_Len64 Tryz.aFg x w h0 h1
open Go.Lib in
open Go.Lib in
open Go.Lib in
open Go.Lib in
open Go.RowKit Go.Sort Go.Lib in
open Go.RowKit Go.Sort Go.Lib in
open Go.RowKit Go.Sort Go.Lib in
open Go.RowKit Go.Sort Go.Lib in
open Go.RowKit Go.Sort Go.Lib in
def Tryz.PD:Go.Shelf.Ren:=⟨fun|171=>20|243=>41|246=>64|283=>84|284=>85|285=>86|286=>87|129=>111|317=>110|318=>112|319=>113|320=>114|337=>132|338=>133|n=>n,fun|3=>3|9=>9|2=>2|4=>4|171=>120|0=>0|53=>121|37=>22|5=>5|173=>124|212=>140|51=>141|20=>20|213=>142|46=>144|232=>163|233=>164|n=>n,fun|17=>0|18=>3|19=>4|n=>n⟩
theorem Tryz.aDm:Go.Proofs.LaysM.n171 Tryz.prog Tryz.PD:={
 mixed:=by kernel_rfl
 f129:=Tryz.func111.trans (congrArg some (by kernel_rfl))
 f171:=Tryz.func20.trans (congrArg some (by kernel_rfl))
 f243:=Tryz.func41.trans (congrArg some (by kernel_rfl))
 f246:=Tryz.func64.trans (congrArg some (by kernel_rfl))
 f283:=Tryz.func84.trans (congrArg some (by kernel_rfl))
 f284:=Tryz.func85.trans (congrArg some (by kernel_rfl))
 f285:=Tryz.func86.trans (congrArg some (by kernel_rfl))
 f286:=Tryz.func87.trans (congrArg some (by kernel_rfl))
 f317:=Tryz.func110.trans (congrArg some (by kernel_rfl))
 f318:=Tryz.func112.trans (congrArg some (by kernel_rfl))
 f319:=Tryz.func113.trans (congrArg some (by kernel_rfl))
 f320:=Tryz.func114.trans (congrArg some (by kernel_rfl))
 f337:=Tryz.func132.trans (congrArg some (by kernel_rfl))
 f338:=Tryz.func133.trans (congrArg some (by kernel_rfl))
 t0:=Tryz.underlying0
 a0:=Tryz.isAgg0
 z0:=Tryz.sizeOf0
 v0:=Tryz.zeroValue0
 t2:=Tryz.underlying2
 a2:=Tryz.isAgg2
 z2:=Tryz.sizeOf2
 v2:=Tryz.zeroValue2
 t3:=Tryz.underlying3
 a3:=Tryz.isAgg3
 z3:=Tryz.sizeOf3
 v3:=Tryz.zeroValue3
 t4:=Tryz.underlying4
 a4:=Tryz.isAgg4
 z4:=Tryz.sizeOf4
 v4:=Tryz.zeroValue4
 t5:=Tryz.underlying5
 a5:=Tryz.isAgg5
 z5:=Tryz.sizeOf5
 v5:=Tryz.zeroValue5
 t9:=Tryz.underlying9
 a9:=Tryz.isAgg9
 z9:=Tryz.sizeOf9
 v9:=Tryz.zeroValue9
 t20:=Tryz.underlying20
 a20:=Tryz.isAgg20
 z20:=Tryz.sizeOf20
 v20:=Tryz.zeroValue20
 t37:=Tryz.underlying22
 a37:=Tryz.isAgg22
 z37:=Tryz.sizeOf22
 v37:=Tryz.zeroValue22
 t46:=Tryz.underlying144
 a46:=Tryz.isAgg144
 z46:=Tryz.sizeOf144
 v46:=Tryz.zeroValue144
 t51:=Tryz.underlying141
 a51:=Tryz.isAgg141
 z51:=Tryz.sizeOf141
 v51:=Tryz.zeroValue141
 t53:=Tryz.underlying121
 a53:=Tryz.isAgg121
 z53:=Tryz.sizeOf121
 v53:=Tryz.zeroValue121
 t171:=Tryz.underlying120
 a171:=Tryz.isAgg120
 z171:=Tryz.sizeOf120
 v171:=Tryz.zeroValue120
 t173:=Tryz.underlying124
 a173:=Tryz.isAgg124
 z173:=Tryz.sizeOf124
 v173:=Tryz.zeroValue124
 t212:=Tryz.underlying140
 a212:=Tryz.isAgg140
 z212:=Tryz.sizeOf140
 v212:=Tryz.zeroValue140
 t213:=Tryz.underlying142
 a213:=Tryz.isAgg142
 z213:=Tryz.sizeOf142
 t232:=Tryz.underlying163
 a232:=Tryz.isAgg163
 z232:=Tryz.sizeOf163
 v232:=Tryz.zeroValue163
 t233:=Tryz.underlying164
 a233:=Tryz.isAgg164
 z233:=Tryz.sizeOf164
 v233:=Tryz.zeroValue164
 g17:=by kernel_rfl
 g18:=by kernel_rfl
 g19:=by kernel_rfl
 i0:=by kernel_rfl
 i2:=by kernel_rfl
 i3:=by kernel_rfl
 i4:=by kernel_rfl
 i5:=by kernel_rfl
 i9:=by kernel_rfl
 i20:=by kernel_rfl
 i37:=by kernel_rfl
 i46:=by kernel_rfl
 i51:=by kernel_rfl
 i53:=by kernel_rfl
 i171:=by kernel_rfl
 i173:=by kernel_rfl
 i212:=by kernel_rfl
 i232:=by kernel_rfl
 i233:=by kernel_rfl
 m17:=by kernel_rfl
 m18:=by kernel_rfl
 m19:=by kernel_rfl }
open Go.RowKit Go.Sort Go.Lib in
theorem Tryz.strconv_Itoa (n:Int) (h0:-9223372036854775808≤n) (h1:n≤9223372036854775807) (w:World) (htab:Lib.TabIs Tryz.prog w "internal/strconv.uint64pow10" .u64 Lib.pow10Tab):
  Calls Tryz.prog 20 #[.int .i64 n] w fun e w'=>e= .returned (.string ⟨(Lib.itoa n).toArray⟩)∧∃ k os,w'=grow (w.drewN k) os:=Any.strconv_Itoa Tryz.aDm n h0 h1 w htab
open Go.RowKit Go.Sort Go.Lib in
open Go.RowKit Go.Lib in
def Tryz.SF:Go.Shelf.Ren:=⟨fun|206=>76|n=>n,fun|9=>9|4=>4|3=>3|n=>n,fun|n=>n⟩
theorem Tryz.aFi:Go.Proofs.Lays.n206 Tryz.prog Tryz.SF:={
 mixed:=by kernel_rfl
 f206:=Tryz.func76.trans (congrArg some (by kernel_rfl))
 t3:=Tryz.underlying3
 a3:=Tryz.isAgg3
 z3:=Tryz.sizeOf3
 v3:=Tryz.zeroValue3
 t4:=Tryz.underlying4
 a4:=Tryz.isAgg4
 z4:=Tryz.sizeOf4
 v4:=Tryz.zeroValue4
 t9:=Tryz.underlying9
 a9:=Tryz.isAgg9
 z9:=Tryz.sizeOf9
 v9:=Tryz.zeroValue9 }
open Go.RowKit Go.Lib in
theorem Tryz.stringslite_HasPrefix (s p:ByteArray) (w:World):
  Calls Tryz.prog 76 #[.string s, .string p] w fun e w'=>e= .returned (.bool (Lib.hasPrefix s.data.toList p.data.toList))∧w'=w:=Any.stringslite_HasPrefix Tryz.aFi s p w
def Tryz.WQ:Go.Shelf.Ren:=⟨fun|99=>53|206=>76|n=>n,fun|9=>9|4=>4|3=>3|n=>n,fun|n=>n⟩
theorem Tryz.aGy:Go.Proofs.Lays.n99 Tryz.prog Tryz.WQ:={
 mixed:=by kernel_rfl
 f99:=Tryz.func53.trans (congrArg some (by kernel_rfl))
 f206:=Tryz.func76.trans (congrArg some (by kernel_rfl))
 t3:=Tryz.underlying3
 a3:=Tryz.isAgg3
 z3:=Tryz.sizeOf3
 v3:=Tryz.zeroValue3
 t4:=Tryz.underlying4
 a4:=Tryz.isAgg4
 z4:=Tryz.sizeOf4
 v4:=Tryz.zeroValue4
 t9:=Tryz.underlying9
 a9:=Tryz.isAgg9
 z9:=Tryz.sizeOf9
 v9:=Tryz.zeroValue9 }
open Go.RowKit Go.Lib in
theorem Tryz.strings_HasPrefix (s p:ByteArray) (w:World):
  Calls Tryz.prog 53 #[.string s, .string p] w fun e w'=>e= .returned (.bool (Lib.hasPrefix s.data.toList p.data.toList))∧w'=w:=Any.strings_HasPrefix Tryz.aGy s p w
end Go.Proofs

namespace Go.Proofs.YtjamfkpgmkhbnaaGreatDoor.PA
open Go.RowKit Go.Proofs.YtjamfkpgmkhbnaaGreatDoorW.PrintWords Go.Proofs.YtjamfkpgmkhbnaaGreatDoorW.PrintLast Go.Proofs.YtjamfkpgmkhbnaaGreatDoorW.PrintMore
attribute [local go_sem] max2_int min2_int max_two min_two max_three min_three max_four min_four
set_option linter.unusedVariables false
set_option linter.unusedSimpArgs false
def aHr:Option Int→Value
 |none=> .nilIface
 |some c=> .iface 0 (.int .i64 c)
theorem lF:aHr none= .nilIface:=rfl
theorem lG (c:Int):aHr (some c)= .iface 0 (.int .i64 c):=rfl
theorem info3:(Tryz.prog.info? 3).map (fun i=>(i.zero,i.size,i.bytes))=some (some (.int .i64 0),1,8):=by kernel_rfl
theorem info5:(Tryz.prog.info? 5).map (fun i=>(i.zero,i.size,i.bytes))=some (some (.int .u8 0),1,1):=by kernel_rfl
theorem kJ:(Tryz.prog.info? 9).map (fun i=>(i.zero,i.size,i.bytes))=some (some (.string ⟨#[]⟩),1,16):=by kernel_rfl
theorem WH:(Tryz.prog.info? 33).map (fun i=>(i.zero,i.size,i.bytes))=some (some (.slice none 0 0),1,24):=by kernel_rfl
theorem KO:(Tryz.prog.info? 58).map (fun i=>(i.zero,i.size,i.bytes))=some (some (.agg #[(.int .i64 0),(.int .i64 0),(.int .i64 0),(.int .i64 0),(.int .i64 0),(.slice none 0 0),(.slice none 0 0),(.slice none 0 0)]),8,112):=by kernel_rfl
structure S56 where
 f0:Int
 f1:Int
 f2:(List S56)
def z56:S56:=⟨(0:Int),(0:Int),([]:List S56)⟩
def F56 (d:Kd S56):Kd S56:=Kd.iso (Kd.pair (Kd.int .i64) (Kd.pair (Kd.int .i64) (Kd.slice 56 d))) (fun x:S56=>(x.f0,x.f1,x.f2))
theorem mono56:Kd.BD F56:=Kd.mono_iso _ (Kd.mono_pair (Kd.mono_const _) (Kd.mono_pair (Kd.mono_const _) (Kd.mono_slice 56 Kd.mono_id)))
theorem aHt:Kd.Sub F56 [56]:=Kd.aBl _ (Kd.uU (Kd.sub_const _ (by decide)) (Kd.uU (Kd.sub_const _ (by decide)) (Kd.EY 56 (by decide) Kd.WY)))
theorem aHv:∀ n,(Kd.upto F56 3 [56] n).sz=3:=Kd.aBo (fun _=>rfl)
def k56:Kd S56:=Kd.fix F56 3 [56] aHv (Kd.aAb aHt)
theorem DF:Kd.Heap k56:=Kd.RI (fun _ h_=>Kd.RJ _ (Kd.sI (Kd.xQ .i64) (Kd.sI (Kd.xQ .i64) (Kd.BM 56 h_))))
theorem RN {w:World} {x:S56} {cs:List Value} (h:k56.K w x cs):∃ A2 c2,cs=[.int .i64 x.f0, .int .i64 x.f1, .slice A2 x.f2.length c2]∧x.f2.length≤c2∧k56.C w A2 x.f2.length x.f2:=by
 obtain ⟨n,h⟩:=h
 cases n with
 |zero=>exact h.elim
 |succ n=>
  obtain ⟨_,_,rfl,rfl,⟨_,_,rfl,rfl,⟨A2,c2,rfl,l2,g2⟩⟩⟩:=h
  exact ⟨A2,c2,rfl,l2,Kd.aDc g2⟩
theorem aDh (w:World) (x:S56) {A2:Option Addr} {c2:Nat} (l2:x.f2.length≤c2) (g2:k56.C w A2 x.f2.length x.f2):k56.K w x [.int .i64 x.f0, .int .i64 x.f1, .slice A2 x.f2.length c2]:=by
 obtain ⟨n2,q2⟩:=Kd.BL mono56 g2
 have r2:=Kd.FC mono56 aHv (show n2≤n2 by omega) q2
 exact ⟨n2 + 1,⟨[.int .i64 x.f0],[.int .i64 x.f1, .slice A2 x.f2.length c2],rfl,rfl,⟨[.int .i64 x.f1],[.slice A2 x.f2.length c2],rfl,rfl,⟨A2,c2,rfl,l2,r2⟩⟩⟩⟩
theorem aAz (W:World) (ok:Nat→Prop) (x:S56) {A2:Option Addr} {c2:Nat} (l2:x.f2.length≤c2) (g2:Kd.F k56 W ok A2 x.f2.length x.f2):Kd.FK k56 W ok x [.int .i64 x.f0, .int .i64 x.f1, .slice A2 x.f2.length c2]:=fun W2 hW=>aDh W2 x l2 (g2 W2 hW)
def bW (xs:List S56) (i:Int):S56:=xs.getD i.toNat z56
theorem sD {w:World} {A:Option Addr} {n:Nat} {xs:List S56} (h:Kd.C k56 w A n xs) (i:Int) (h0:0≤i) (h1:i < n):∃ ad A2 c2,A=some ad∧w.cell? (ad.add (i.toNat * 3))=some (.int .i64 (bW xs i).f0)∧w.cell? ⟨(ad.add (i.toNat * 3)).block,(ad.add (i.toNat * 3)).off + 1,none⟩=some (.int .i64 (bW xs i).f1)∧w.cell? ⟨(ad.add (i.toNat * 3)).block,(ad.add (i.toNat * 3)).off + 2,none⟩=some (.slice A2 (bW xs i).f2.length c2)∧(bW xs i).f2.length≤c2∧k56.C w A2 (bW xs i).f2.length (bW xs i).f2:=by
 obtain ⟨ad,c,e,_,hK,hc0⟩:=Kd.MV h z56 i h0 h1
 have hc:∀ j u,c[j]?=some u→w.cell? (ad.add (i.toNat * 3 + j))=some u:=hc0
 obtain ⟨A2,c2,rfl,l2,g2⟩:=RN hK
 exact ⟨ad,A2,c2,e,hc 0 _ rfl,by rw [← lD _ _ 1 (by omega)];exact hc 1 _ rfl,by rw [← lD _ _ 2 (by omega)];exact hc 2 _ rfl,l2,g2⟩
structure S58 where
 f0:Int
 f1:Int
 f2:Int
 f3:S56
 f4:(List S58)
 f5:(List S58)
def z58:S58:=⟨(0:Int),(0:Int),(0:Int),z56,([]:List S58),([]:List S58)⟩
def F58 (d:Kd S58):Kd S58:=Kd.iso (Kd.pair (Kd.int .i64) (Kd.pair (Kd.int .i64) (Kd.pair (Kd.int .i64) (Kd.pair k56 (Kd.pair (Kd.slice 58 d) (Kd.slice 58 d)))))) (fun x:S58=>(x.f0,x.f1,x.f2,x.f3,x.f4,x.f5))
theorem mono58:Kd.BD F58:=Kd.mono_iso _ (Kd.mono_pair (Kd.mono_const _) (Kd.mono_pair (Kd.mono_const _) (Kd.mono_pair (Kd.mono_const _) (Kd.mono_pair (Kd.mono_const _) (Kd.mono_pair (Kd.mono_slice 58 Kd.mono_id) (Kd.mono_slice 58 Kd.mono_id))))))
theorem aHu:Kd.Sub F58 [56,58]:=Kd.aBl _ (Kd.uU (Kd.sub_const _ (by decide)) (Kd.uU (Kd.sub_const _ (by decide)) (Kd.uU (Kd.sub_const _ (by decide)) (Kd.uU (Kd.sub_const _ (by decide)) (Kd.uU (Kd.EY 58 (by decide) Kd.WY) (Kd.EY 58 (by decide) Kd.WY))))))
theorem aHd:∀ n,(Kd.upto F58 8 [56,58] n).sz=8:=Kd.aBo (fun _=>rfl)
def k58:Kd S58:=Kd.fix F58 8 [56,58] aHd (Kd.aAb aHu)
theorem RO:Kd.Heap k58:=Kd.RI (fun _ h_=>Kd.RJ _ (Kd.sI (Kd.xQ .i64) (Kd.sI (Kd.xQ .i64) (Kd.sI (Kd.xQ .i64) (Kd.sI DF (Kd.sI (Kd.BM 58 h_) (Kd.BM 58 h_)))))))
theorem xS {w:World} {x:S58} {cs:List Value} (h:k58.K w x cs):∃ A5 c5 A6 c6 A7 c7,cs=[.int .i64 x.f0, .int .i64 x.f1, .int .i64 x.f2, .int .i64 x.f3.f0, .int .i64 x.f3.f1, .slice A5 x.f3.f2.length c5, .slice A6 x.f4.length c6, .slice A7 x.f5.length c7]∧x.f3.f2.length≤c5∧k56.C w A5 x.f3.f2.length x.f3.f2∧x.f4.length≤c6∧k58.C w A6 x.f4.length x.f4∧x.f5.length≤c7∧k58.C w A7 x.f5.length x.f5:=by
 obtain ⟨n,h⟩:=h
 cases n with
 |zero=>exact h.elim
 |succ n=>
  obtain ⟨_,_,rfl,rfl,⟨_,_,rfl,rfl,⟨_,_,rfl,rfl,⟨_,_,rfl,s3,⟨_,_,rfl,⟨A6,c6,rfl,l6,g6⟩,⟨A7,c7,rfl,l7,g7⟩⟩⟩⟩⟩⟩:=h
  obtain ⟨A5,c5,rfl,l5,g5⟩:=RN s3
  exact ⟨A5,c5,A6,c6,A7,c7,rfl,l5,g5,l6,Kd.aDc g6,l7,Kd.aDc g7⟩
theorem aGx (w:World) (x:S58) {A5:Option Addr} {c5:Nat} (l5:x.f3.f2.length≤c5) (g5:k56.C w A5 x.f3.f2.length x.f3.f2) {A6:Option Addr} {c6:Nat} (l6:x.f4.length≤c6) (g6:k58.C w A6 x.f4.length x.f4) {A7:Option Addr} {c7:Nat} (l7:x.f5.length≤c7) (g7:k58.C w A7 x.f5.length x.f5):k58.K w x [.int .i64 x.f0, .int .i64 x.f1, .int .i64 x.f2, .int .i64 x.f3.f0, .int .i64 x.f3.f1, .slice A5 x.f3.f2.length c5, .slice A6 x.f4.length c6, .slice A7 x.f5.length c7]:=by
 obtain ⟨n6,q6⟩:=Kd.BL mono58 g6
 obtain ⟨n7,q7⟩:=Kd.BL mono58 g7
 have r6:=Kd.FC mono58 aHd (show n6≤(max n6 n7) by omega) q6
 have r7:=Kd.FC mono58 aHd (show n7≤(max n6 n7) by omega) q7
 exact ⟨(max n6 n7) + 1,⟨[.int .i64 x.f0],[.int .i64 x.f1, .int .i64 x.f2, .int .i64 x.f3.f0, .int .i64 x.f3.f1, .slice A5 x.f3.f2.length c5, .slice A6 x.f4.length c6, .slice A7 x.f5.length c7],rfl,rfl,⟨[.int .i64 x.f1],[.int .i64 x.f2, .int .i64 x.f3.f0, .int .i64 x.f3.f1, .slice A5 x.f3.f2.length c5, .slice A6 x.f4.length c6, .slice A7 x.f5.length c7],rfl,rfl,⟨[.int .i64 x.f2],[.int .i64 x.f3.f0, .int .i64 x.f3.f1, .slice A5 x.f3.f2.length c5, .slice A6 x.f4.length c6, .slice A7 x.f5.length c7],rfl,rfl,⟨[.int .i64 x.f3.f0, .int .i64 x.f3.f1, .slice A5 x.f3.f2.length c5],[.slice A6 x.f4.length c6, .slice A7 x.f5.length c7],rfl,(aDh w x.f3 l5 g5),⟨[.slice A6 x.f4.length c6],[.slice A7 x.f5.length c7],rfl,⟨A6,c6,rfl,l6,r6⟩,⟨A7,c7,rfl,l7,r7⟩⟩⟩⟩⟩⟩⟩
theorem aBy {W:World} {ok:Nat→Prop} {x:S58} {cs:List Value} (h:Kd.FK k58 W ok x cs):∃ A5 c5 A6 c6 A7 c7,cs=[.int .i64 x.f0, .int .i64 x.f1, .int .i64 x.f2, .int .i64 x.f3.f0, .int .i64 x.f3.f1, .slice A5 x.f3.f2.length c5, .slice A6 x.f4.length c6, .slice A7 x.f5.length c7]∧x.f3.f2.length≤c5∧Kd.F k56 W ok A5 x.f3.f2.length x.f3.f2∧x.f4.length≤c6∧Kd.F k58 W ok A6 x.f4.length x.f4∧x.f5.length≤c7∧Kd.F k58 W ok A7 x.f5.length x.f5:=by
 obtain ⟨A5,c5,A6,c6,A7,c7,rfl,l5,_,l6,_,l7,_⟩:=xS (Kd.oZ h)
 exact ⟨A5,c5,A6,c6,A7,c7,rfl,l5,(fun W' hW=>by obtain ⟨j3,j4,j5,j6,j7,j8,he,j9,g5_,ja,g6_,jb,g7_⟩:=xS (h W' hW);injection (Option.some.inj (show some (Value.slice A5 x.f3.f2.length c5)=some (Value.slice j3 x.f3.f2.length j4) from congrArg (fun l=>l[5]?) he)) with ha_ _ _;rw [ha_];exact g5_),l6,(fun W' hW=>by obtain ⟨j3,j4,j5,j6,j7,j8,he,j9,g5_,ja,g6_,jb,g7_⟩:=xS (h W' hW);injection (Option.some.inj (show some (Value.slice A6 x.f4.length c6)=some (Value.slice j5 x.f4.length j6) from congrArg (fun l=>l[6]?) he)) with ha_ _ _;rw [ha_];exact g6_),l7,(fun W' hW=>by obtain ⟨j3,j4,j5,j6,j7,j8,he,j9,g5_,ja,g6_,jb,g7_⟩:=xS (h W' hW);injection (Option.some.inj (show some (Value.slice A7 x.f5.length c7)=some (Value.slice j7 x.f5.length j8) from congrArg (fun l=>l[7]?) he)) with ha_ _ _;rw [ha_];exact g7_)⟩
theorem nU (W:World) (ok:Nat→Prop) (x:S58) {A5:Option Addr} {c5:Nat} (l5:x.f3.f2.length≤c5) (g5:Kd.F k56 W ok A5 x.f3.f2.length x.f3.f2) {A6:Option Addr} {c6:Nat} (l6:x.f4.length≤c6) (g6:Kd.F k58 W ok A6 x.f4.length x.f4) {A7:Option Addr} {c7:Nat} (l7:x.f5.length≤c7) (g7:Kd.F k58 W ok A7 x.f5.length x.f5):Kd.FK k58 W ok x [.int .i64 x.f0, .int .i64 x.f1, .int .i64 x.f2, .int .i64 x.f3.f0, .int .i64 x.f3.f1, .slice A5 x.f3.f2.length c5, .slice A6 x.f4.length c6, .slice A7 x.f5.length c7]:=fun W2 hW=>aGx W2 x l5 (g5 W2 hW) l6 (g6 W2 hW) l7 (g7 W2 hW)
def aH (xs:List S58) (i:Int):S58:=xs.getD i.toNat z58
theorem oQ {w:World} {A:Option Addr} {n:Nat} {xs:List S58} (h:Kd.C k58 w A n xs) (i:Int) (h0:0≤i) (h1:i < n):∃ ad A5 c5 A6 c6 A7 c7,A=some ad∧w.cell? (ad.add (i.toNat * 8))=some (.int .i64 (aH xs i).f0)∧w.cell? ⟨(ad.add (i.toNat * 8)).block,(ad.add (i.toNat * 8)).off + 1,none⟩=some (.int .i64 (aH xs i).f1)∧w.cell? ⟨(ad.add (i.toNat * 8)).block,(ad.add (i.toNat * 8)).off + 2,none⟩=some (.int .i64 (aH xs i).f2)∧w.cell? ⟨(ad.add (i.toNat * 8)).block,(ad.add (i.toNat * 8)).off + 3,none⟩=some (.int .i64 (aH xs i).f3.f0)∧w.cell? ⟨(ad.add (i.toNat * 8)).block,(ad.add (i.toNat * 8)).off + 4,none⟩=some (.int .i64 (aH xs i).f3.f1)∧w.cell? ⟨(ad.add (i.toNat * 8)).block,(ad.add (i.toNat * 8)).off + 5,none⟩=some (.slice A5 (aH xs i).f3.f2.length c5)∧w.cell? ⟨(ad.add (i.toNat * 8)).block,(ad.add (i.toNat * 8)).off + 6,none⟩=some (.slice A6 (aH xs i).f4.length c6)∧w.cell? ⟨(ad.add (i.toNat * 8)).block,(ad.add (i.toNat * 8)).off + 7,none⟩=some (.slice A7 (aH xs i).f5.length c7)∧(aH xs i).f3.f2.length≤c5∧k56.C w A5 (aH xs i).f3.f2.length (aH xs i).f3.f2∧(aH xs i).f4.length≤c6∧k58.C w A6 (aH xs i).f4.length (aH xs i).f4∧(aH xs i).f5.length≤c7∧k58.C w A7 (aH xs i).f5.length (aH xs i).f5:=by
 obtain ⟨ad,c,e,_,hK,hc0⟩:=Kd.MV h z58 i h0 h1
 have hc:∀ j u,c[j]?=some u→w.cell? (ad.add (i.toNat * 8 + j))=some u:=hc0
 obtain ⟨A5,c5,A6,c6,A7,c7,rfl,l5,g5,l6,g6,l7,g7⟩:=xS hK
 exact ⟨ad,A5,c5,A6,c6,A7,c7,e,hc 0 _ rfl,by rw [← lD _ _ 1 (by omega)];exact hc 1 _ rfl,by rw [← lD _ _ 2 (by omega)];exact hc 2 _ rfl,by rw [← lD _ _ 3 (by omega)];exact hc 3 _ rfl,by rw [← lD _ _ 4 (by omega)];exact hc 4 _ rfl,by rw [← lD _ _ 5 (by omega)];exact hc 5 _ rfl,by rw [← lD _ _ 6 (by omega)];exact hc 6 _ rfl,by rw [← lD _ _ 7 (by omega)];exact hc 7 _ rfl,l5,g5,l6,g6,l7,g7⟩
def fJ (xs:List (List S58)) (i:Int):(List S58):=xs.getD i.toNat ([]:List S58)
theorem uL {w:World} {A:Option Addr} {n:Nat} {xs:List (List S58)} (h:Kd.C (Kd.slice 58 k58) w A n xs) (i:Int) (h0:0≤i) (h1:i < n):∃ ad A0 c0,A=some ad∧w.cell? (ad.add i.toNat)=some (.slice A0 (fJ xs i).length c0)∧(fJ xs i).length≤c0∧k58.C w A0 (fJ xs i).length (fJ xs i):=by
 obtain ⟨ad,c,e,_,hK,hc0⟩:=Kd.MV h ([]:List S58) i h0 h1
 have hc:∀ j u,c[j]?=some u→w.cell? (ad.add (i.toNat * 1 + j))=some u:=hc0
 obtain ⟨A0,c0,rfl,l0,g0⟩:=hK
 exact ⟨ad,A0,c0,e,by have hq:=hc 0 _ rfl;rwa [Nat.mul_one,Nat.add_zero] at hq,l0,g0⟩
structure ED where
 f0:Int
 f1:Int
 f2:(List ED)
def aIb:ED:=⟨(0:Int),(0:Int),([]:List ED)⟩
def yR (xs:List ED) (i:Int):ED:=xs.getD i.toNat aIb
structure tQ where
 f0:Int
 f1:Int
 f2:Int
 f3:ED
 f4:(List tQ)
 f5:(List tQ)
def aIh:tQ:=⟨(0:Int),(0:Int),(0:Int),aIb,([]:List tQ),([]:List tQ)⟩
def tZ (xs:List tQ) (i:Int):tQ:=xs.getD i.toNat aIh
def aGg (xs:List (List tQ)) (i:Int):(List tQ):=xs.getD i.toNat ([]:List tQ)
theorem mD {p:Prop} (h:p:=by (try simp only [List.map_toArray,List.map_cons,List.map_nil]);first|done|rfl|(simp only [List.length_drop,List.length_take];rfl)):p:=h
theorem dU {p:Prop} (h:p:=by repeat (first|(with_reducible first|exact HB.out|apply cZ|apply aU|apply bJ)|exact HB.out)):p:=h
theorem fF {p:Prop} (h:p:=by repeat (first|(with_reducible first|exact HK.out|apply aC.yY|apply kG|apply gT|apply kY)|exact HK.out)):p:=h
theorem fQ {p:Prop} (h:p:=by repeat (first|(with_reducible first|exact HI0.out|apply aI.alloc|apply aI.drewN|apply aI.drew|apply aI.uR)|exact HI0.out)):p:=h
theorem iQ {p:Prop} (h:p:=by repeat (first|(with_reducible first|exact HK.out|apply Kept.alloc|apply Kept.drewN|apply Kept.drew|refine Kept.setCell ?_ (.inr GW132.out) _)|exact HK.out)):p:=h
theorem iX {p:Prop} (h:p:=by repeat (first|(with_reducible first|exact HB.out|apply cZ|apply aU|apply bJ|refine below_set ?_ (aI.ge HI0.out))|exact HB.out)):p:=h
theorem kD {p:Prop} (h:p:=by repeat (first|(with_reducible first|exact HB.out|apply cZ|apply aU|apply bJ|refine below_set ?_ GE132.out)|exact HB.out)):p:=h
theorem kM {p:Prop} (h:p:=by repeat (first|(with_reducible first|exact HB.out|apply cZ|apply aU|apply bJ|refine below_set ?_ GE129.out)|exact HB.out)):p:=h
theorem iT {p:Prop} (h:p:=by repeat (first|(with_reducible first|exact HB.out|apply cZ|apply aU|apply bJ|refine below_set ?_ GE99.out)|exact HB.out)):p:=h
theorem lI {p:Prop} (h:p:=by repeat (first|(with_reducible first|exact HK.out|apply aC.yY|apply kG|apply gT|apply kY|refine gX ?_ GW479.out _|refine gX ?_ GW487.out _)|exact HK.out)):p:=h
theorem gN {p:Prop} (h:p:=by first|rfl|(simp [lF,lG] <;> rfl)|(simp [*,lF,lG] <;> rfl)):p:=h
theorem kF {p:Prop} (h:p:=by repeat (first|(with_reducible first|exact HB.out|apply cZ|apply aU|apply bJ|refine below_set ?_ GE43.out)|exact HB.out)):p:=h
theorem mK {p:Prop} (h:p:=by repeat (first|(with_reducible first|exact HK.out|apply aC.yY|apply kG|apply gT|apply kY|refine gX ?_ GW440.out _|refine gX ?_ GW448.out _)|exact HK.out)):p:=h
theorem fK {p:Prop} (h:p:=by repeat (first|exact gQ.refl _|apply gQ.step)):p:=h
theorem mW {p:Prop} (h:p:=by repeat (first|(with_reducible first|exact HI0.out|apply aI.alloc|apply aI.drewN|apply aI.drew|apply aI.uR|refine aI.far ?_ NB0_479.out _|refine aI.far ?_ NB0_487.out _)|exact HI0.out)):p:=h
theorem nO {p:Prop} (h:p:=by repeat (first|(with_reducible first|exact HI0.out|apply aI.alloc|apply aI.drewN|apply aI.drew|apply aI.uR|refine aI.far ?_ NB0_440.out _|refine aI.far ?_ NB0_448.out _)|exact HI0.out)):p:=h
theorem nD {p:Prop} (h:p:=by repeat (first|(with_reducible first|exact HB.out|apply cZ|apply aU|apply bJ|refine below_set ?_ GE57.out)|exact HB.out)):p:=h
theorem rO {p:Prop} (h:p:=by repeat (first|(with_reducible first|exact HB.out|apply cZ|apply aU|apply bJ|refine below_set ?_ (aI.ge HI0.out)|refine below_set ?_ GE479.out|refine below_set ?_ GE487.out)|exact HB.out)):p:=h
theorem vB {p:Prop} (h:p:=by repeat (first|(with_reducible first|exact HB.out|apply cZ|apply aU|apply bJ|refine below_set ?_ GE22.out)|exact HB.out)):p:=h
theorem pU {p:Prop} (h:p:=by repeat (first|(with_reducible first|exact HB.out|apply cZ|apply aU|apply bJ|refine below_set ?_ GE23.out)|exact HB.out)):p:=h
theorem oD {p:Prop} (h:p:=by repeat (first|(with_reducible first|exact HB.out|apply cZ|apply aU|apply bJ|refine below_set ?_ GE69.out)|exact HB.out)):p:=h
theorem wT {p:Prop} (h:p:=by repeat (first|(with_reducible first|exact HB.out|apply cZ|apply aU|apply bJ|refine below_set ?_ GE33.out)|exact HB.out)):p:=h
theorem nE {p:Prop} (h:p:=by repeat (first|(with_reducible first|exact HK.out|apply Kept.alloc|apply Kept.drewN|apply Kept.drew)|exact HK.out)):p:=h
theorem oU {p:Prop} (h:p:=by repeat (first|(with_reducible first|exact HB.out|apply cZ|apply aU|apply bJ|refine below_set ?_ GE37.out)|exact HB.out)):p:=h
theorem rP {p:Prop} (h:p:=by repeat (first|(with_reducible first|exact HK.out|apply aC.yY|apply kG|apply gT|apply kY|refine gX ?_ GW38.out _)|exact HK.out)):p:=h
theorem pV {p:Prop} (h:p:=by repeat (first|(with_reducible first|exact HB.out|apply cZ|apply aU|apply bJ|refine below_set ?_ GE31.out)|exact HB.out)):p:=h
theorem sU {p:Prop} (h:p:=by repeat (first|(with_reducible first|exact HK.out|apply Kept.alloc|apply Kept.drewN|apply Kept.drew|refine Kept.setCell ?_ (.inr GW43.out) _)|exact HK.out)):p:=h
theorem sV {p:Prop} (h:p:=by repeat (first|(with_reducible first|exact HB.out|apply cZ|apply aU|apply bJ|refine below_set ?_ GE53.out)|exact HB.out)):p:=h
theorem vC {p:Prop} (h:p:=by repeat (first|(with_reducible first|exact HB.out|apply cZ|apply aU|apply bJ|refine below_set ?_ GE21.out)|exact HB.out)):p:=h
theorem uJ {p:Prop} (h:p:=by repeat (first|(with_reducible first|exact HI0.out|apply aI.alloc|apply aI.drewN|apply aI.drew|apply aI.uR|refine aI.far ?_ NB0_38.out _)|exact HI0.out)):p:=h
theorem uK {p:Prop} (h:p:=by repeat (first|(with_reducible first|exact HK.out|apply aC.yY|apply kG|apply gT|apply kY|refine gX ?_ GW48.out _)|exact HK.out)):p:=h
theorem xJ {p:Prop} (h:p:=by repeat (first|(with_reducible first|exact HB.out|apply cZ|apply aU|apply bJ|refine below_set ?_ (aI.ge HI0.out)|refine below_set ?_ GE440.out|refine below_set ?_ GE448.out)|exact HB.out)):p:=h
theorem vD {p:Prop} (h:p:=by repeat (first|(with_reducible first|exact HK.out|apply aC.yY|apply kG|apply gT|apply kY|refine gX ?_ GW35.out _)|exact HK.out)):p:=h
theorem vE {p:Prop} (h:p:=by repeat (first|(with_reducible first|exact HK.out|apply Kept.alloc|apply Kept.drewN|apply Kept.drew|refine Kept.setCell ?_ (.inr GW33.out) _)|exact HK.out)):p:=h
theorem xK {p:Prop} (h:p:=by repeat (first|(with_reducible first|exact HB.out|apply cZ|apply aU|apply bJ|refine below_set ?_ (aI.ge HI0.out)|refine below_set ?_ GE38.out)|exact HB.out)):p:=h
theorem xL {p:Prop} (h:p:=by repeat (first|(with_reducible first|exact HB.out|apply cZ|apply aU|apply bJ|refine below_set ?_ (aI.ge HI0.out)|refine below_set ?_ GE48.out)|exact HB.out)):p:=h
theorem wU {p:Prop} (h:p:=by repeat (first|(with_reducible first|exact HI0.out|apply aI.alloc|apply aI.drewN|apply aI.drew|apply aI.uR|refine aI.far ?_ NB0_48.out _)|exact HI0.out)):p:=h
theorem wV {p:Prop} (h:p:=by repeat (first|(with_reducible first|exact HI0.out|apply aI.alloc|apply aI.drewN|apply aI.drew|apply aI.uR|refine aI.far ?_ NB0_35.out _)|exact HI0.out)):p:=h
theorem wW {p:Prop} (h:p:=by repeat (first|(with_reducible first|exact HB.out|apply cZ|apply aU|apply bJ|refine below_set ?_ GE29.out)|exact HB.out)):p:=h
theorem CO {p:Prop} (h:p:=by repeat (first|(with_reducible first|exact HK.out|apply aC.yY|apply kG|apply gT|apply kY|refine gX ?_ GW52.out _|refine gX ?_ GW55.out _)|exact HK.out)):p:=h
theorem aCv {p:Prop} (h:p:=by repeat (first|(with_reducible first|exact HB.out|apply cZ|apply aU|apply bJ|refine below_set ?_ GE21.out|refine below_set ?_ GE22.out)|exact HB.out)):p:=h
theorem FH {p:Prop} (h:p:=by repeat (first|(with_reducible first|exact HK.out|apply aC.yY|apply kG|apply gT|apply kY|refine gX ?_ GW35.out _|refine gX ?_ GW68.out _)|exact HK.out)):p:=h
theorem FI {p:Prop} (h:p:=by repeat (first|(with_reducible first|exact HB.out|apply cZ|apply aU|apply bJ|refine below_set ?_ (aI.ge HI0.out)|refine below_set ?_ GE35.out)|exact HB.out)):p:=h
theorem CP {p:Prop} (h:p:=by repeat (first|(with_reducible first|exact HK.out|apply aC.yY|apply kG|apply gT|apply kY|refine gX ?_ GW440.out _)|exact HK.out)):p:=h
theorem KC {p:Prop} (h:p:=by repeat (first|(with_reducible first|exact HI0.out|apply aI.alloc|apply aI.drewN|apply aI.drew|apply aI.uR|refine aI.far ?_ NB0_52.out _|refine aI.far ?_ NB0_55.out _)|exact HI0.out)):p:=h
theorem FJ {p:Prop} (h:p:=by repeat (first|(with_reducible first|exact HK.out|apply aC.yY|apply kG|apply gT|apply kY|refine gX ?_ GW479.out _)|exact HK.out)):p:=h
theorem FL {p:Prop} (h:p:=by repeat (first|(with_reducible first|exact HK.out|apply aC.yY|apply kG|apply gT|apply kY|refine gX ?_ GW28.out _)|exact HK.out)):p:=h
theorem FM {p:Prop} (h:p:=by repeat (first|(with_reducible first|exact HK.out|apply Kept.alloc|apply Kept.drewN|apply Kept.drew|refine Kept.setCell ?_ (.inr GW24.out) _)|exact HK.out)):p:=h
theorem MZ {p:Prop} (h:p:=by repeat (first|(with_reducible first|exact HI0.out|apply aI.alloc|apply aI.drewN|apply aI.drew|apply aI.uR|refine aI.far ?_ NB0_35.out _|refine aI.far ?_ NB0_68.out _)|exact HI0.out)):p:=h
theorem KE {p:Prop} (h:p:=by repeat (first|(with_reducible first|exact HK.out|apply aC.yY|apply kG|apply gT|apply kY|refine gX ?_ GW52.out _)|exact HK.out)):p:=h
theorem NA {p:Prop} (h:p:=by repeat (first|(with_reducible first|exact HB.out|apply cZ|apply aU|apply bJ|refine below_set ?_ (aI.ge HI28.out)|refine below_set ?_ GE27.out)|exact HB.out)):p:=h
theorem PW {p:Prop} (h:p:=by repeat (first|(with_reducible first|exact HB.out|apply cZ|apply aU|apply bJ|refine below_set ?_ (aI.ge HI0.out)|refine below_set ?_ GE52.out|refine below_set ?_ GE55.out)|exact HB.out)):p:=h
theorem KF {p:Prop} (h:p:=by repeat (first|(with_reducible first|exact HB.out|apply cZ|apply aU|apply bJ|refine below_set ?_ GE24.out)|exact HB.out)):p:=h
theorem NC {p:Prop} (h:p:=by repeat (first|(with_reducible first|exact HI0.out|apply aI.alloc|apply aI.drewN|apply aI.drew|apply aI.uR|refine aI.far ?_ NB0_440.out _)|exact HI0.out)):p:=h
theorem ND {p:Prop} (h:p:=by repeat (first|(with_reducible first|exact HI0.out|apply aI.alloc|apply aI.drewN|apply aI.drew|apply aI.uR|refine aI.far ?_ NB0_52.out _)|exact HI0.out)):p:=h
theorem NG {p:Prop} (h:p:=by repeat (first|(with_reducible first|exact HI0.out|apply aI.alloc|apply aI.drewN|apply aI.drew|apply aI.uR|refine aI.far ?_ NB0_28.out _)|exact HI0.out)):p:=h
theorem NH {p:Prop} (h:p:=by repeat (first|(with_reducible first|exact HK.out|apply aC.yY|apply kG|apply gT|apply kY|refine gX ?_ GW29.out _)|exact HK.out)):p:=h
theorem aAq {p:Prop} (h:p:=by repeat (first|(with_reducible first|exact HB.out|apply cZ|apply aU|apply bJ|refine below_set ?_ (aI.ge HI0.out)|refine below_set ?_ GE35.out|refine below_set ?_ GE68.out)|exact HB.out)):p:=h
theorem PX {p:Prop} (h:p:=by repeat (first|(with_reducible first|exact HI0.out|apply aI.alloc|apply aI.drewN|apply aI.drew|apply aI.uR|refine aI.far ?_ NB0_479.out _)|exact HI0.out)):p:=h
theorem PY {p:Prop} (h:p:=by repeat (first|(with_reducible first|exact HI0.out|apply aI.alloc|apply aI.drewN|apply aI.drew|apply aI.uR|refine aI.far ?_ NB0_29.out _)|exact HI0.out)):p:=h
theorem aAr {p:Prop} (h:p:=by repeat (first|(with_reducible first|exact HB.out|apply cZ|apply aU|apply bJ|refine below_set ?_ GE21.out|refine below_set ?_ GE22.out|refine below_set ?_ GE23.out)|exact HB.out)):p:=h
theorem aAs {p:Prop} (h:p:=by repeat (first|(with_reducible first|exact HB.out|apply cZ|apply aU|apply bJ|refine below_set ?_ (aI.ge HI0.out)|refine below_set ?_ GE29.out)|exact HB.out)):p:=h
theorem aAt {p:Prop} (h:p:=by repeat (first|(with_reducible first|exact HB.out|apply cZ|apply aU|apply bJ|refine below_set ?_ (aI.ge HI0.out)|refine below_set ?_ GE28.out)|exact HB.out)):p:=h
theorem aAu {p:Prop} (h:p:=by repeat (first|(with_reducible exact HR71_0.out)|(with_reducible refine Kd.iY ?_ _)|(with_reducible refine Kd.iR ?_ _)|(with_reducible refine Kd.kW ?_)|exact HR71_0.out)):p:=h
theorem TL {p:Prop} (h:p:=by repeat (first|(with_reducible first|exact HB.out|apply cZ|apply aU|apply bJ|refine below_set ?_ (aI.ge HI0.out)|refine below_set ?_ GE440.out)|exact HB.out)):p:=h
theorem TM {p:Prop} (h:p:=by repeat (first|(with_reducible first|exact HB.out|apply cZ|apply aU|apply bJ|refine below_set ?_ (aI.ge HI0.out)|refine below_set ?_ GE52.out)|exact HB.out)):p:=h
theorem TN {p:Prop} (h:p:=by repeat (first|(with_reducible exact HR72_0.out)|(with_reducible refine Kd.iY ?_ _)|(with_reducible refine Kd.iR ?_ _)|(with_reducible refine Kd.kW ?_)|exact HR72_0.out)):p:=h
theorem OP {p:Prop} (h:p:=by repeat (first|(with_reducible first|exact HBW.out|apply cZ|apply aU|apply bJ)|exact HBW.out)):p:=h
theorem TP {p:Prop} (h:p:=by repeat (first|(with_reducible first|exact HB.out|apply cZ|apply aU|apply bJ|refine below_set ?_ GE20.out)|exact HB.out)):p:=h
theorem aCr {p:Prop} (h:p:=by repeat (first|(with_reducible first|exact HB.out|apply cZ|apply aU|apply bJ|refine below_set ?_ (aI.ge HI0.out)|refine below_set ?_ GE479.out)|exact HB.out)):p:=h
theorem aCs {p:Prop} (h:p:=by repeat (first|(with_reducible exact HR73_0.out)|(with_reducible refine Kd.iY ?_ _)|(with_reducible refine Kd.iR ?_ _)|(with_reducible refine Kd.kW ?_)|exact HR73_0.out)):p:=h
theorem aCt {p:Prop} (h:p:=by repeat (first|(with_reducible first|exact HI28.out|apply aI.alloc|apply aI.drewN|apply aI.drew|apply aI.uR|refine aI.far ?_ NB28_27.out _)|exact HI28.out)):p:=h
theorem aCu {p:Prop} (h:p:=by repeat (first|(with_reducible first|exact HK.out|apply kG|apply gT)|exact HK.out)):p:=h
theorem aN_ {p q:Prop} (x:q) (h:q→p:=by intro hx_;(with_reducible repeat (first|apply Kd.aAj|apply Kd.aAk|apply Kd.rF));exact hx_):p:=h x
theorem aR_ {p q:Prop} (x:q) (h:q→p:=by intro hx_;(with_reducible repeat (first|apply Kd.aAl|apply Kd.aAm|apply Kd.oC));exact hx_):p:=h x
theorem aG_ {p q:Prop} (x:q) (h:q→p:=by intro hx_;(with_reducible repeat (first|refine dQ ?_ _|refine dA ?_|refine dP ?_ _));exact hx_):p:=h x
theorem rr_ {p:Prop} (h:p:=by first|rfl|(simp [lF,lG] <;> rfl)|(simp [*,lF,lG] <;> rfl)):p:=h
theorem bsm {α β:Type} {o:Option α} {f:α→Option β} {b:β} (h:o.bind f=some b):∃ a,o=some a∧f a=some b:=Option.bind_eq_some_iff.mp h
theorem am {p:Prop} (h:p):Aside0 p:=⟨h⟩
theorem iV {w:World} {g:Nat} {t:TypeId} {x0 x1:Value} (h:w.heap[g]?=some (.cells #[x0,x1] t (0,0))):w.cell? ⟨g,0,none⟩=some x0∧w.cell? ⟨g,1,none⟩=some x1∧w.frozen? ⟨g,0,none⟩=false∧w.frozen? ⟨g,1,none⟩=false:=⟨(aN h 0).trans rfl,(aN h 1).trans rfl,bT h 0,bT h 1⟩
theorem lU {w:World} {g:Nat} {t:TypeId} {x0 x1 x2:Value} (h:w.heap[g]?=some (.cells #[x0,x1,x2] t (0,0))):w.cell? ⟨g,0,none⟩=some x0∧w.cell? ⟨g,1,none⟩=some x1∧w.cell? ⟨g,2,none⟩=some x2∧w.frozen? ⟨g,0,none⟩=false∧w.frozen? ⟨g,1,none⟩=false∧w.frozen? ⟨g,2,none⟩=false:=⟨(aN h 0).trans rfl,(aN h 1).trans rfl,(aN h 2).trans rfl,bT h 0,bT h 1,bT h 2⟩
theorem fH {w:World} {g:Nat} {t:TypeId} {x0 x1 x2 x3 x4 x5 x6 x7:Value} (h:w.heap[g]?=some (.cells #[x0,x1,x2,x3,x4,x5,x6,x7] t (0,0))):w.cell? ⟨g,0,none⟩=some x0∧w.cell? ⟨g,1,none⟩=some x1∧w.cell? ⟨g,2,none⟩=some x2∧w.cell? ⟨g,3,none⟩=some x3∧w.cell? ⟨g,4,none⟩=some x4∧w.cell? ⟨g,5,none⟩=some x5∧w.cell? ⟨g,6,none⟩=some x6∧w.cell? ⟨g,7,none⟩=some x7∧w.frozen? ⟨g,0,none⟩=false∧w.frozen? ⟨g,1,none⟩=false∧w.frozen? ⟨g,2,none⟩=false∧w.frozen? ⟨g,3,none⟩=false∧w.frozen? ⟨g,4,none⟩=false∧w.frozen? ⟨g,5,none⟩=false∧w.frozen? ⟨g,6,none⟩=false∧w.frozen? ⟨g,7,none⟩=false:=⟨(aN h 0).trans rfl,(aN h 1).trans rfl,(aN h 2).trans rfl,(aN h 3).trans rfl,(aN h 4).trans rfl,(aN h 5).trans rfl,(aN h 6).trans rfl,(aN h 7).trans rfl,bT h 0,bT h 1,bT h 2,bT h 3,bT h 4,bT h 5,bT h 6,bT h 7⟩
theorem eX {W0 W W1:World} {g:Nat} {o:Obj} (x:W0.heap[g]?=some o) (hb:Below W.heap.size W W1) (h:W0.heap[g]?=some o→W.heap[g]?=some o:=by intro hx_;(with_reducible repeat (first|refine dQ ?_ _|refine dA ?_|refine dP ?_ _));exact hx_):W1.heap[g]?=some o:=kK (h x) hb
theorem bbP {W0 W W1:World} {g:Nat} {o:Obj} (x:Aside0 (W0.heap[g]?=some o)) (hb:Below W.heap.size W W1) (h:W0.heap[g]?=some o→W.heap[g]?=some o:=by intro hx_;(with_reducible repeat (first|refine dQ ?_ _|refine dA ?_|refine dP ?_ _));exact hx_):Aside0 (W1.heap[g]?=some o):=⟨kK (h x.out) hb⟩
theorem CS {W0 W:World} {g:Nat} {o:Obj} (x:W0.heap[g]?=some o) (h:W0.heap[g]?=some o→W.heap[g]?=some o:=by intro hx_;(with_reducible repeat (first|refine dQ ?_ _|refine dA ?_|refine dP ?_ _));exact hx_):g < W.heap.size:=lK (h x)
theorem lJ {W0 W:World} {g:Nat} {o:Obj} (x:W0.heap[g]?=some o) (k:Nat) (hk:W.heap.size≤k) (h:W0.heap[g]?=some o→W.heap[g]?=some o:=by intro hx_;(with_reducible repeat (first|refine dQ ?_ _|refine dA ?_|refine dP ?_ _));exact hx_):k≠g:=Kd.aDd (h x) k hk
theorem aC_ {p q:Prop} (x:q) (h:q→p:=by intro hx_;repeat (first|exact hx_|(with_reducible refine Kd.iY ?_ _)|(with_reducible refine Kd.iR ?_ _)|(with_reducible refine Kd.kW ?_))):p:=h x
theorem rn_ {p:Prop} (h:p:=by first|(go_simp;done)|(go_simp;rfl)):p:=h
theorem sd_ {p:Prop} (h:p:=by first|rfl|(simp;done)|(simp [*];done)):p:=h
theorem eB {p:Prop} (h:p:=by first|(with_reducible assumption)|assumption):p:=h
theorem pr_ (i N:Nat) (l':Array Bool) {P:Program} {md:Region.Mode} {ops:Array Oper} {Q:Exit→Act→World→Prop} {S:World→Prop} {ds:List Nat} {oi:Oper} {v:Value} {fuel:Nat} {l:Array Bool} {a a':Act} {w:World} {T:Bool × List (List Nat × List Nat)} (HT:Aside0 (lV md ops=T)) (h:dM P md ops Q S ds fuel l' a' w) (hi:ops[i]?=some oi:=by rfl) (hN:oi.dst=some N:=by rfl) (hc:aEw T l.toList l'.toList i=true:=by kernel_rfl) (hQ:∀ c a w,Q (.panic c) (a.put oi.dst v) w→Q (.panic c) a w:=by exact fun _ _ _ h_=>h_) (hg:Region.wanted oi (yielded ops a.tmps)=true:=by rfl) (hy:∀ w,(execOp a.eval oi).run P w= .ok (.value v) w:=by (intro w';go_simp;with_reducible rfl)) (ha:a.put (some N) v=a':=by first|(simp only [Act.put,List.setIfInBounds_toArray,List.set_cons_zero,List.set_cons_succ,fI,fO];rfl)|rfl):dM P md ops Q S ds (fuel + 1) l a w:=tO l' hi hN (aCw HT.out hc) hQ (Or.inl ⟨hg,hy⟩) ha h
theorem pu_ (i N:Nat) (l':Array Bool) {P:Program} {md:Region.Mode} {ops:Array Oper} {Q:Exit→Act→World→Prop} {S:World→Prop} {ds:List Nat} {oi:Oper} {fuel:Nat} {l:Array Bool} {a a':Act} {w:World} {T:Bool × List (List Nat × List Nat)} (HT:Aside0 (lV md ops=T)) (h:dM P md ops Q S ds fuel l' a' w) (hi:ops[i]?=some oi:=by rfl) (hN:oi.dst=some N:=by rfl) (hc:aEw T l.toList l'.toList i=true:=by kernel_rfl) (hQ:∀ c a w,Q (.panic c) (a.put oi.dst undef) w→Q (.panic c) a w:=by exact fun _ _ _ h_=>h_) (hg:Region.wanted oi (yielded ops a.tmps)=false:=by rfl) (ha:a.put (some N) undef=a':=by first|(simp only [Act.put,List.setIfInBounds_toArray,List.set_cons_zero,List.set_cons_succ,fI,fO];rfl)|rfl):dM P md ops Q S ds (fuel + 1) l a w:=tO (v:=undef) l' hi hN (aCw HT.out hc) hQ (Or.inr ⟨hg,rfl⟩) ha h
theorem aEe (i N:Nat) (l':Array Bool) {P:Program} {md:Region.Mode} {ops:Array Oper} {Q:Exit→Act→World→Prop} {S:World→Prop} {ds:List Nat} {oi:Oper} {v:Value} {fuel:Nat} {l:Array Bool} {a a':Act} {w:World} {T:Bool × List (List Nat × List Nat)} {B:List Nat} (HT:Aside0 (lV md ops=T)) (HW:Aside0 (iP T.2 B=true)) (hS:S w) (h:dM P md ops Q S ds fuel l' a' w) (hi:ops[i]?=some oi:=by rfl) (hN:oi.dst=some N:=by rfl) (hc:DY T B ds l.toList l'.toList i=true:=by kernel_rfl) (hQ:∀ c a w,Q (.panic c) (a.put oi.dst v) w→Q (.panic c) a w:=by exact fun _ _ _ h_=>h_) (hg:Region.wanted oi (yielded ops a.tmps)=true:=by rfl) (hy:∀ w,S w→(execOp a.eval oi).run P w= .ok (.value v) w:=by (rintro w' ⟨s0,s1⟩;go_simp;with_reducible rfl)) (ha:a.put (some N) v=a':=by first|(simp only [Act.put,List.setIfInBounds_toArray,List.set_cons_zero,List.set_cons_succ,fI,fO];rfl)|rfl):dM P md ops Q S ds (fuel + 1) l a w:=uV l' hi hN (uW HT.out HW.out hc) hQ (Or.inl ⟨hg,hy⟩) hS ha h
theorem aFw (i N:Nat) (l':Array Bool) {P:Program} {md:Region.Mode} {ops:Array Oper} {Q:Exit→Act→World→Prop} {S:World→Prop} {ds:List Nat} {oi:Oper} {v:Value} {fuel:Nat} {l:Array Bool} {a a':Act} {w:World} {T:Bool × List (List Nat × List Nat)} {B:List Nat} (HT:Aside0 (lV md ops=T)) (HW:Aside0 (iP T.2 B=true)) (hS:S w) (h:dM P md ops Q S ds fuel l' a' w) (hi:ops[i]?=some oi:=by rfl) (hN:oi.dst=some N:=by rfl) (hc:DY T B ds l.toList l'.toList i=true:=by kernel_rfl) (hQ:∀ c a w,Q (.panic c) (a.put oi.dst v) w→Q (.panic c) a w:=by exact fun _ _ _ h_=>h_) (hg:Region.wanted oi (yielded ops a.tmps)=true:=by rfl) (hy:∀ w,S w→(execOp a.eval oi).run P w= .ok (.value v) w:=by (rintro w' ⟨s0,s1,s2⟩;go_simp;with_reducible rfl)) (ha:a.put (some N) v=a':=by first|(simp only [Act.put,List.setIfInBounds_toArray,List.set_cons_zero,List.set_cons_succ,fI,fO];rfl)|rfl):dM P md ops Q S ds (fuel + 1) l a w:=uV l' hi hN (uW HT.out HW.out hc) hQ (Or.inl ⟨hg,hy⟩) hS ha h
theorem MR (i N:Nat) (l':Array Bool) {P:Program} {md:Region.Mode} {ops:Array Oper} {Q:Exit→Act→World→Prop} {S:World→Prop} {ds:List Nat} {oi:Oper} {v:Value} {fuel:Nat} {l:Array Bool} {a a':Act} {w:World} {T:Bool × List (List Nat × List Nat)} {B:List Nat} (HT:Aside0 (lV md ops=T)) (HW:Aside0 (iP T.2 B=true)) (hS:S w) (h:dM P md ops Q S ds fuel l' a' w) (hi:ops[i]?=some oi:=by rfl) (hN:oi.dst=some N:=by rfl) (hc:DY T B ds l.toList l'.toList i=true:=by kernel_rfl) (hQ:∀ c a w,Q (.panic c) (a.put oi.dst v) w→Q (.panic c) a w:=by exact fun _ _ _ h_=>h_) (hg:Region.wanted oi (yielded ops a.tmps)=true:=by rfl) (hy:∀ w,S w→(execOp a.eval oi).run P w= .ok (.value v) w:=by (rintro w' ⟨s0,s1,s2,s3⟩;go_simp;with_reducible rfl)) (ha:a.put (some N) v=a':=by first|(simp only [Act.put,List.setIfInBounds_toArray,List.set_cons_zero,List.set_cons_succ,fI,fO];rfl)|rfl):dM P md ops Q S ds (fuel + 1) l a w:=uV l' hi hN (uW HT.out HW.out hc) hQ (Or.inl ⟨hg,hy⟩) hS ha h
theorem aAa (i N:Nat) (l':Array Bool) {P:Program} {md:Region.Mode} {ops:Array Oper} {Q:Exit→Act→World→Prop} {S:World→Prop} {ds:List Nat} {oi:Oper} {v:Value} {fuel:Nat} {l:Array Bool} {a a':Act} {w:World} {T:Bool × List (List Nat × List Nat)} {B:List Nat} (HT:Aside0 (lV md ops=T)) (HW:Aside0 (iP T.2 B=true)) (hS:S w) (h:dM P md ops Q S ds fuel l' a' w) (hi:ops[i]?=some oi:=by rfl) (hN:oi.dst=some N:=by rfl) (hc:DY T B ds l.toList l'.toList i=true:=by kernel_rfl) (hQ:∀ c a w,Q (.panic c) (a.put oi.dst v) w→Q (.panic c) a w:=by exact fun _ _ _ h_=>h_) (hg:Region.wanted oi (yielded ops a.tmps)=true:=by rfl) (hy:∀ w,S w→(execOp a.eval oi).run P w= .ok (.value v) w:=by (rintro w' ⟨s0,s1,s2,s3,s4⟩;go_simp;with_reducible rfl)) (ha:a.put (some N) v=a':=by first|(simp only [Act.put,List.setIfInBounds_toArray,List.set_cons_zero,List.set_cons_succ,fI,fO];rfl)|rfl):dM P md ops Q S ds (fuel + 1) l a w:=uV l' hi hN (uW HT.out HW.out hc) hQ (Or.inl ⟨hg,hy⟩) hS ha h
theorem xC (i N:Nat) (l':Array Bool) {P:Program} {md:Region.Mode} {ops:Array Oper} {Q:Exit→Act→World→Prop} {S:World→Prop} {ds:List Nat} {oi:Oper} {v:Value} {fuel:Nat} {l:Array Bool} {a a':Act} {w:World} {T:Bool × List (List Nat × List Nat)} {B:List Nat} (HT:Aside0 (lV md ops=T)) (HW:Aside0 (iP T.2 B=true)) (hS:S w) (h:dM P md ops Q S ds fuel l' a' w) (hi:ops[i]?=some oi:=by rfl) (hN:oi.dst=some N:=by rfl) (hc:DY T B ds l.toList l'.toList i=true:=by kernel_rfl) (hQ:∀ c a w,Q (.panic c) (a.put oi.dst v) w→Q (.panic c) a w:=by exact fun _ _ _ h_=>h_) (hg:Region.wanted oi (yielded ops a.tmps)=true:=by rfl) (hy:∀ w,S w→(execOp a.eval oi).run P w= .ok (.value v) w:=by (rintro w' ⟨s0,s1,s2,s3,s4,s5,s6,s7⟩;go_simp;with_reducible rfl)) (ha:a.put (some N) v=a':=by first|(simp only [Act.put,List.setIfInBounds_toArray,List.set_cons_zero,List.set_cons_succ,fI,fO];rfl)|rfl):dM P md ops Q S ds (fuel + 1) l a w:=uV l' hi hN (uW HT.out HW.out hc) hQ (Or.inl ⟨hg,hy⟩) hS ha h
theorem SX (i N:Nat) (l':Array Bool) {P:Program} {md:Region.Mode} {ops:Array Oper} {Q:Exit→Act→World→Prop} {S:World→Prop} {ds:List Nat} {oi:Oper} {v:Value} {fuel:Nat} {l:Array Bool} {a a':Act} {w:World} {T:Bool × List (List Nat × List Nat)} {B:List Nat} (HT:Aside0 (lV md ops=T)) (HW:Aside0 (iP T.2 B=true)) (hS:S w) (h:dM P md ops Q S ds fuel l' a' w) (hi:ops[i]?=some oi:=by rfl) (hN:oi.dst=some N:=by rfl) (hc:DY T B ds l.toList l'.toList i=true:=by kernel_rfl) (hQ:∀ c a w,Q (.panic c) (a.put oi.dst v) w→Q (.panic c) a w:=by exact fun _ _ _ h_=>h_) (hg:Region.wanted oi (yielded ops a.tmps)=true:=by rfl) (hy:∀ w,S w→(execOp a.eval oi).run P w= .ok (.value v) w:=by (rintro w' ⟨s0,s1,s2,s3,s4,s5,s6,s7,s8⟩;go_simp;with_reducible rfl)) (ha:a.put (some N) v=a':=by first|(simp only [Act.put,List.setIfInBounds_toArray,List.set_cons_zero,List.set_cons_succ,fI,fO];rfl)|rfl):dM P md ops Q S ds (fuel + 1) l a w:=uV l' hi hN (uW HT.out HW.out hc) hQ (Or.inl ⟨hg,hy⟩) hS ha h
theorem NY (i N:Nat) (l':Array Bool) {P:Program} {md:Region.Mode} {ops:Array Oper} {Q:Exit→Act→World→Prop} {S:World→Prop} {ds:List Nat} {oi:Oper} {v:Value} {fuel:Nat} {l:Array Bool} {a a':Act} {w:World} {T:Bool × List (List Nat × List Nat)} {B:List Nat} (HT:Aside0 (lV md ops=T)) (HW:Aside0 (iP T.2 B=true)) (hS:S w) (h:dM P md ops Q S ds fuel l' a' w) (hi:ops[i]?=some oi:=by rfl) (hN:oi.dst=some N:=by rfl) (hc:DY T B ds l.toList l'.toList i=true:=by kernel_rfl) (hQ:∀ c a w,Q (.panic c) (a.put oi.dst v) w→Q (.panic c) a w:=by exact fun _ _ _ h_=>h_) (hg:Region.wanted oi (yielded ops a.tmps)=true:=by rfl) (hy:∀ w,S w→(execOp a.eval oi).run P w= .ok (.value v) w:=by (rintro w' ⟨s0,s1,s2,s3,s4,s5,s6,s7,s8,s9,j3,j4,j5,j6,j7,j8⟩;go_simp;with_reducible rfl)) (ha:a.put (some N) v=a':=by first|(simp only [Act.put,List.setIfInBounds_toArray,List.set_cons_zero,List.set_cons_succ,fI,fO];rfl)|rfl):dM P md ops Q S ds (fuel + 1) l a w:=uV l' hi hN (uW HT.out HW.out hc) hQ (Or.inl ⟨hg,hy⟩) hS ha h
theorem lN {α:Type} {d:Kd α} {e:Nat} {W0 W:World} {base:Nat} {ok:Nat→Prop} {v:Value} {xs:List α} (x:Kd.N d e W0 base ok v xs) (h:Kd.N d e W0 base ok v xs→Kd.N d e W base ok v xs:=by intro hx_;(with_reducible repeat (first|apply Kd.aAj|apply Kd.aAk|apply Kd.rF));exact hx_):Kd.N d e W base ok v xs:=h x
theorem gH {α:Type} {d:Kd α} {e:Nat} {W0 W:World} {base:Nat} {ok:Nat→Prop} {v:Value} {xs:List α} (x:Kd.R d e W0 base ok v xs) (h:Kd.R d e W0 base ok v xs→Kd.R d e W base ok v xs:=by intro hx_;(with_reducible repeat (first|apply Kd.aAl|apply Kd.aAm|apply Kd.oC));exact hx_):Kd.R d e W base ok v xs:=h x
theorem vW {w:World} {g:Nat} {t:TypeId} {v0 v1:Value} (h:w.heap[g]?=some (.cells #[v0,v1] t (0,0))):w.cell? ⟨g,0,none⟩=some v0∧w.cell? ⟨g,1,none⟩=some v1:=⟨(aN h 0).trans rfl,(aN h 1).trans rfl⟩
theorem LY {w:World} {g:Nat} {t:TypeId} {v0 v1 v2:Value} (h:w.heap[g]?=some (.cells #[v0,v1,v2] t (0,0))):w.cell? ⟨g,0,none⟩=some v0∧w.cell? ⟨g,1,none⟩=some v1∧w.cell? ⟨g,2,none⟩=some v2:=⟨(aN h 0).trans rfl,(aN h 1).trans rfl,(aN h 2).trans rfl⟩
theorem mE {w:World} {g:Nat} {t:TypeId} {v0 v1 v2 v3 v4 v5 v6 v7:Value} (h:w.heap[g]?=some (.cells #[v0,v1,v2,v3,v4,v5,v6,v7] t (0,0))):w.cell? ⟨g,0,none⟩=some v0∧w.cell? ⟨g,1,none⟩=some v1∧w.cell? ⟨g,2,none⟩=some v2∧w.cell? ⟨g,3,none⟩=some v3∧w.cell? ⟨g,4,none⟩=some v4∧w.cell? ⟨g,5,none⟩=some v5∧w.cell? ⟨g,6,none⟩=some v6∧w.cell? ⟨g,7,none⟩=some v7:=⟨(aN h 0).trans rfl,(aN h 1).trans rfl,(aN h 2).trans rfl,(aN h 3).trans rfl,(aN h 4).trans rfl,(aN h 5).trans rfl,(aN h 6).trans rfl,(aN h 7).trans rfl⟩
theorem ap_ {a a':Act} {v:Value} {N:Nat} (h:a.put (some N) v=a':=by first|(simp only [Act.put,List.setIfInBounds_toArray,List.set_cons_zero,List.set_cons_succ,fI,fO];rfl)|rfl):a.put (some N) v=a':=h
def bz (n m:Nat):Array Bool:=((List.range n).map (fun i=>m.testBit i)).toArray
theorem rx_ {p:Prop} (h:p:=by first|(rw [hy_];with_reducible exact H)|(have H2_:=(Option.bind_some _ _).symm.trans H;rw [hy_];with_reducible exact H2_)|(have H2_:=(Option.bind_some _ _).symm.trans H;with_reducible exact H2_)|with_reducible exact H|(rw [hy_];exact H)|exact H):p:=h
theorem bsa {α β:Type} {o:Option α} {f:α→Option β} {b:β} (h:o.bind f=some b):∃ a,Aside0 (o=some a)∧f a=some b:=by
 obtain ⟨a,h1,h2⟩:=Option.bind_eq_some_iff.mp h
 exact ⟨a,⟨h1⟩,h2⟩
theorem gl_ {P:Program} {ops:Array Oper} {Q:Exit→Act→World→Prop} {rest:List Oper} {oi:Oper} {a:Act} {w:World} (N:Nat) {f:FuncId} {fn:Func} {as_:Array Operand} {ts:Array TypeId} (hf:P.funcs[f]?=some fn) (args:Array Value) (h:Calls P f args w fun e w'=>∃ v,e= .returned v∧wpList P ops Q rest (a.put (some N) v) w') (hd:oi.dst=some N:=by rfl) (hg:oi.guard=none:=by rfl) (hname:(fn.name == "runtime.NumGoroutine")=false:=by kernel_rfl) (hb:fn.body.isSome=true:=by rfl) (hop:oi.op= .call { callee:= .value (.func f),args:=as_,argTypes:=ts }:=by rfl) (hargs:as_.map a.eval=args:=by (try simp only [List.map_toArray,List.map_cons,List.map_nil]);first|done|rfl|(simp only [List.length_drop,List.length_take];rfl)):wpList P ops Q (oi :: rest) a w:=EK (some N) hd hg hf hname hb args hop hargs h
theorem mo_ {p:Prop} (h:p:=by repeat' first|(with_reducible exact ih0 ..)|(with_reducible exact ih1 ..)|(with_reducible exact ih2 ..)|(with_reducible exact ih3 ..)|(with_reducible exact ih4 ..)|(with_reducible exact ih5 ..)|(with_reducible exact ih6 ..)|(with_reducible exact ih7 ..)|(with_reducible exact m0 ..)|(with_reducible exact m1 ..)|(with_reducible exact m2 ..)|(with_reducible exact m3 ..)|(with_reducible exact m4 ..)|(with_reducible exact m5 ..)|(with_reducible exact m6 ..)|(with_reducible exact LeO.refl _)|(with_reducible exact LeO.none _)|(with_reducible refine LeO.ite ?_ ?_)|(with_reducible refine LeO.bind ?_ (fun _=>?_))):p:=h
def aG.j0:Nat→Int→Bool→List Int→Int→Option (Int × Int)
 |0,_,_,_,_=>none
 |k + 1,x1,x24,x1000,x1001=>if x24=true then (some (0,x1001)) else (if (wrap64 (x1001 - 1)) < (x1000.length:Int) then (if 0≤(wrap64 (x1001 - 1)) then (if x1=0 then (none) else (some (Int.tmod (wrap64 (rd x1000 (wrap64 (x1001 - 1)))) x1,x1001))) else (none)) else (if (x1000.length:Int)=0 then (none) else (if 0≤(Int.tmod (wrap64 (x1001 - 1)) (x1000.length:Int)) then (if (Int.tmod (wrap64 (x1001 - 1)) (x1000.length:Int)) < (x1000.length:Int) then (if 0≤(Int.tmod (wrap64 ((wrap64 ((wrap64 (x1001 - 1)) * 7)) + 3)) (x1000.length:Int)) then (if (Int.tmod (wrap64 ((wrap64 ((wrap64 (x1001 - 1)) * 7)) + 3)) (x1000.length:Int)) < (x1000.length:Int) then (if x1=0 then (none) else (some (Int.tmod (Go.bits .xor .i64 (wrap64 ((wrap64 ((wrap64 ((wrap64 ((wrap64 (rd x1000 (Int.tmod (wrap64 (x1001 - 1)) (x1000.length:Int)))) * 131)) + (wrap64 ((wrap64 (rd x1000 (Int.tmod (wrap64 ((wrap64 ((wrap64 (x1001 - 1)) * 7)) + 3)) (x1000.length:Int)))) * 1117)))) + (wrap64 ((wrap64 (x1001 - 1)) * 29)))) + (wrap64 ((wrap64 (Int.tdiv (wrap64 (x1001 - 1)) (x1000.length:Int))) * 53)))) (wrap64 (Int.tdiv (wrap64 ((wrap64 ((wrap64 ((wrap64 ((wrap64 (rd x1000 (Int.tmod (wrap64 (x1001 - 1)) (x1000.length:Int)))) * 131)) + (wrap64 ((wrap64 (rd x1000 (Int.tmod (wrap64 ((wrap64 ((wrap64 (x1001 - 1)) * 7)) + 3)) (x1000.length:Int)))) * 1117)))) + (wrap64 ((wrap64 (x1001 - 1)) * 29)))) + (wrap64 ((wrap64 (Int.tdiv (wrap64 (x1001 - 1)) (x1000.length:Int))) * 53)))) 64))) x1,x1001))) else (none)) else (none)) else (none)) else (none))))
def aG.f (k:Nat) (s0_0:List Int) (s0_1:Int) (a1:Int):Option (Int × Int):=if a1 < 1 then (aG.j0 k a1 true s0_0 (wrap64 (s0_1 + 1))) else (aG.j0 k a1 ((s0_0.length:Int) == 0) s0_0 (wrap64 (s0_1 + 1)))
def dR.l0:Nat→List Int→Int→Int→List Int→Int→Option (List Int × Int)
 |0,_,_,_,_,_=>none
 |k + 1,x3,x4,x5,x1000,x1001=>if x5 < x4 then ((some (([1,1,2,3,4]:List Int):List Int)).bind fun y113=>((aG.f k x1000 x1001 5).bind fun bt116=>(if 0≤bt116.1 then (if bt116.1 < (y113.length:Int) then (if x3.length < 17592186044416 then (dR.l0 k (x3 ++ [rd y113 bt116.1]) x4 (wrap64 (x5 + 1)) x1000 bt116.2) else (none)) else (none)) else (none)))) else (some (x3,x1001))
def dR.f (k:Nat) (s0_0:List Int) (s0_1:Int):Option (List Int × Int):=(some (([0,1,1,2,2,3]:List Int):List Int)).bind fun y107=>((aG.f k s0_0 s0_1 6).bind fun bt110=>(if 0≤bt110.1 then (if bt110.1 < (y107.length:Int) then (dR.l0 k (([]:List Int)) (rd y107 bt110.1) 0 s0_0 bt110.2) else (none)) else (none)))
mutual
def bQ.l0:Nat→List (S58)→Int→Int→Option (Int)
 |0,_,_,_=>none
 |k + 1,x0,x3,x4=>if x4 < (x0.length:Int) then (if 0≤x4 then ((bQ.f k ((aH x0 x4).f4)).bind fun t123=>((bQ.f k ((aH x0 x4).f5)).bind fun t125=>(bQ.l0 k x0 (wrap64 ((wrap64 ((wrap64 (x3 + 1)) + t123)) + t125)) (wrap64 (x4 + 1))))) else (none)) else (some x3)
def bQ.f:Nat→List (S58)→Option (Int)
 |0,_=>none
 |k + 1,l0=>bQ.l0 k l0 0 0
end
def iC.f (a0:Int) (a1:Int):Option (Int × Int × (List (S56))):=some (a0,a1,(([]:List (S56))))
def iE.f (k:Nat) (s0_0:List Int) (s0_1:Int):Option (Int × Int × (List (S56)) × Int):=(aG.f k s0_0 s0_1 4).bind fun bt131=>(if bt131.1=0 then ((aG.f k s0_0 bt131.2 4).bind fun bt133=>((iC.f 0 bt133.1).bind fun bt135=>(some (bt135.1,bt135.2.1,bt135.2.2,bt133.2)))) else (if bt131.1=1 then ((some (([5,31,32,100,2047,2048,65536,99999]:List Int):List Int)).bind fun y140=>((aG.f k s0_0 bt131.2 8).bind fun bt143=>(if 0≤bt143.1 then (if bt143.1 < (y140.length:Int) then ((iC.f 0 (rd y140 bt143.1)).bind fun bt146=>(some (bt146.1,bt146.2.1,bt146.2.2,bt143.2))) else (none)) else (none)))) else ((aG.f k s0_0 bt131.2 4).bind fun bt151=>((iC.f 13 bt151.1).bind fun bt153=>(some (bt153.1,bt153.2.1,bt153.2.2,bt151.2))))))
def nP.f (a0:Int) (a1_0:Int) (a1_1:Int) (l1_2:List (S56)) (a2_0:Int) (a2_1:Int) (l2_2:List (S56)):Option (Int × Int × (List (S56))):=some (a0,0,(([(⟨a1_0,a1_1,l1_2⟩:S56),(⟨a2_0,a2_1,l2_2⟩:S56)]:List (S56))))
def lZ.f (k:Nat) (s0_0:List Int) (s0_1:Int):Option (Int × Int):=(aG.f k s0_0 s0_1 12).bind fun bt164=>(some (wrap64 (1 + bt164.1),bt164.2))
mutual
def bI.j0:Nat→Int→Bool→List Int→Int→Option (Int × Int × (List (S56)) × Int)
 |0,_,_,_,_=>none
 |k + 1,x1,x13,x1000,x1001=>if x13=true then ((iE.f k x1000 x1001).bind fun bt169=>(some (bt169.1,bt169.2.1,bt169.2.2.1,bt169.2.2.2))) else ((lZ.f k x1000 x1001).bind fun bt175=>((bI.f k x1000 bt175.2 (wrap64 (x1 - 1))).bind fun bt177=>((bI.f k x1000 bt177.2.2.2 (wrap64 (x1 - 1))).bind fun bt184=>((nP.f bt175.1 bt177.1 bt177.2.1 bt177.2.2.1 bt184.1 bt184.2.1 bt184.2.2.1).bind fun bt190=>(some (bt190.1,bt190.2.1,bt190.2.2,bt184.2.2.2))))))
def bI.f:Nat→List Int→Int→Int→Option (Int × Int × (List (S56)) × Int)
 |0,_,_,_=>none
 |k + 1,s0_0,s0_1,a1=>if a1 < 2 then (bI.j0 k a1 true s0_0 s0_1) else ((aG.f k s0_0 s0_1 3).bind fun bt167=>(bI.j0 k a1 (bt167.1 == 0) s0_0 bt167.2))
end
def gL.f (k:Nat) (s0_0:List Int) (s0_1:Int):Option (Int × Int × Int × Int × Int × (List (S56)) × (List (S58)) × (List (S58)) × Int):=(aG.f k s0_0 s0_1 3).bind fun bt196=>((aG.f k s0_0 bt196.2 3).bind fun bt198=>((bI.f k s0_0 bt198.2 (wrap64 (1 + bt198.1))).bind fun bt200=>(some (1,bt196.1,0,bt200.1,bt200.2.1,bt200.2.2.1,([]:List (S58)),([]:List (S58)),bt200.2.2.2))))
def gM.f (k:Nat) (s0_0:List Int) (s0_1:Int) (a1:Int):Option (Int × Int × Int × Int × Int × (List (S56)) × (List (S58)) × (List (S58)) × Int):=if a1 < 1 then ((gL.f k s0_0 s0_1).bind fun bt207=>(some (bt207.1,bt207.2.1,bt207.2.2.1,bt207.2.2.2.1,bt207.2.2.2.2.1,bt207.2.2.2.2.2.1,bt207.2.2.2.2.2.2.1,bt207.2.2.2.2.2.2.2.1,bt207.2.2.2.2.2.2.2.2))) else ((aG.f k s0_0 s0_1 a1).bind fun bt222=>((aG.f k s0_0 bt222.2 2).bind fun bt224=>(if bt224.1=0 then ((aG.f k s0_0 bt224.2 3).bind fun bt226=>((bI.f k s0_0 bt226.2 (wrap64 (1 + bt226.1))).bind fun bt228=>(some (4,0,bt222.1,bt228.1,bt228.2.1,bt228.2.2.1,([]:List (S58)),([]:List (S58)),bt228.2.2.2)))) else ((aG.f k s0_0 bt224.2 3).bind fun bt234=>(some (5,bt234.1,bt222.1,0,0,([]:List (S56)),([]:List (S58)),([]:List (S58)),bt234.2))))))
mutual
def dV.f:Nat→List Int→Int→Int→Int→Bool→Option (Int × Int × Int × Int × Int × (List (S56)) × (List (S58)) × (List (S58)) × Int)
 |0,_,_,_,_,_=>none
 |k + 1,s0_0,s0_1,a1,a2,a3=>(aG.f k s0_0 s0_1 2).bind fun bt237=>((bI.f k s0_0 bt237.2 (wrap64 (1 + bt237.1))).bind fun bt239=>((aG.f k s0_0 bt239.2.2.2 3).bind fun bt246=>((bR.f k s0_0 bt246.2 a1 (wrap64 (a2 - 1)) bt246.1 a3).bind fun bt248=>((aG.f k s0_0 bt248.2 3).bind fun bt252=>((bR.f k s0_0 bt252.2 a1 (wrap64 (a2 - 1)) bt252.1 a3).bind fun bt254=>(some (2,0,0,bt239.1,bt239.2.1,bt239.2.2.1,bt248.1,bt254.1,bt254.2)))))))
def fA.f:Nat→List Int→Int→Int→Int→Option ((List (S58)) × Int)
 |0,_,_,_,_=>none
 |k + 1,s0_0,s0_1,a1,a2=>(aG.f k s0_0 s0_1 3).bind fun bt258=>((bR.f k s0_0 bt258.2 a1 (wrap64 (a2 - 1)) bt258.1 false).bind fun bt260=>((iC.f 13 3).bind fun bt264=>((iC.f 0 1).bind fun bt269=>((nP.f 8 bt264.1 bt264.2.1 bt264.2.2 bt269.1 bt269.2.1 bt269.2.2).bind fun bt274=>((iC.f 13 3).bind fun bt280=>((aG.f k s0_0 bt260.2 3).bind fun bt285=>((iC.f 0 (wrap64 (1 + bt285.1))).bind fun bt287=>((nP.f 5 bt280.1 bt280.2.1 bt280.2.2 bt287.1 bt287.2.1 bt287.2.2).bind fun bt292=>((some (([(⟨1,3,0,(⟨bt274.1,bt274.2.1,bt274.2.2⟩:S56),([]:List (S58)),([]:List (S58))⟩:S58)]:List (S58)):List (S58))).bind fun y297=>(if bt260.1.length + y297.length < 1256584717458 then ((iC.f 0 0).bind fun bt304=>(some ((([(⟨1,3,0,(⟨bt304.1,bt304.2.1,bt304.2.2⟩:S56),([]:List (S58)),([]:List (S58))⟩:S58),(⟨3,0,0,(⟨bt292.1,bt292.2.1,bt292.2.2⟩:S56),(bt260.1 ++ y297),([]:List (S58))⟩:S58)]:List (S58))),bt285.2))) else (none)))))))))))
def bD.j0:Nat→Int→Int→Bool→Int→Bool→List Int→Int→Option ((List (S58)) × Int)
 |0,_,_,_,_,_,_,_=>none
 |k + 1,x1,x2,x3,x10,x11,x1000,x1001=>if x11=true then ((gL.f k x1000 x1001).bind fun bt314=>(some ((([(⟨bt314.1,bt314.2.1,bt314.2.2.1,(⟨bt314.2.2.2.1,bt314.2.2.2.2.1,bt314.2.2.2.2.2.1⟩:S56),bt314.2.2.2.2.2.2.1,bt314.2.2.2.2.2.2.2.1⟩:S58)]:List (S58))),bt314.2.2.2.2.2.2.2.2))) else (if x10=2 then (if x2 > 0 then ((dV.f k x1000 x1001 x1 x2 x3).bind fun bt332=>(some ((([(⟨bt332.1,bt332.2.1,bt332.2.2.1,(⟨bt332.2.2.2.1,bt332.2.2.2.2.1,bt332.2.2.2.2.2.1⟩:S56),bt332.2.2.2.2.2.2.1,bt332.2.2.2.2.2.2.2.1⟩:S58)]:List (S58))),bt332.2.2.2.2.2.2.2.2))) else ((aG.f k x1000 x1001 3).bind fun bt350=>((bI.f k x1000 bt350.2 (wrap64 (1 + bt350.1))).bind fun bt352=>(some ((([(⟨7,0,0,(⟨bt352.1,bt352.2.1,bt352.2.2.1⟩:S56),([]:List (S58)),([]:List (S58))⟩:S58)]:List (S58))),bt352.2.2.2))))) else (if x10=3 then (if x2 > 0 then (bD.j1 k x1 x2 x3 x1000 x1001) else (bD.j1 k x1 x2 false x1000 x1001)) else (if x10=4 then (bD.j2 k x1 x10 (x10 == 4) x1000 x1001) else (if x10=5 then (bD.j2 k x1 x10 (x10 == 5) x1000 x1001) else (bD.j2 k x1 x10 (x10 == 6) x1000 x1001)))))
def bD.j1:Nat→Int→Int→Bool→List Int→Int→Option ((List (S58)) × Int)
 |0,_,_,_,_,_=>none
 |k + 1,x1,x2,x33,x1000,x1001=>if x33=true then ((fA.f k x1000 x1001 x1 x2).bind fun bt361=>(some (bt361.1,bt361.2))) else ((aG.f k x1000 x1001 3).bind fun bt365=>((bI.f k x1000 bt365.2 (wrap64 (1 + bt365.1))).bind fun bt367=>(some ((([(⟨7,0,0,(⟨bt367.1,bt367.2.1,bt367.2.2.1⟩:S56),([]:List (S58)),([]:List (S58))⟩:S58)]:List (S58))),bt367.2.2.2))))
def bD.j2:Nat→Int→Int→Bool→List Int→Int→Option ((List (S58)) × Int)
 |0,_,_,_,_,_=>none
 |k + 1,x1,x10,x38,x1000,x1001=>if x38=true then ((gM.f k x1000 x1001 x1).bind fun bt376=>(some ((([(⟨bt376.1,bt376.2.1,bt376.2.2.1,(⟨bt376.2.2.2.1,bt376.2.2.2.2.1,bt376.2.2.2.2.2.1⟩:S56),bt376.2.2.2.2.2.2.1,bt376.2.2.2.2.2.2.2.1⟩:S58)]:List (S58))),bt376.2.2.2.2.2.2.2.2))) else (if x10=7 then (some ((([(⟨6,0,0,(⟨0,0,([]:List (S56))⟩:S56),([]:List (S58)),([]:List (S58))⟩:S58)]:List (S58))),x1001)) else ((aG.f k x1000 x1001 3).bind fun bt397=>((bI.f k x1000 bt397.2 (wrap64 (1 + bt397.1))).bind fun bt399=>(some ((([(⟨7,0,0,(⟨bt399.1,bt399.2.1,bt399.2.2.1⟩:S56),([]:List (S58)),([]:List (S58))⟩:S58)]:List (S58))),bt399.2.2.2)))))
def bD.f:Nat→List Int→Int→Int→Int→Bool→Option ((List (S58)) × Int)
 |0,_,_,_,_,_=>none
 |k + 1,s0_0,s0_1,a1,a2,a3=>(aG.f k s0_0 s0_1 10).bind fun bt312=>(if bt312.1=0 then (bD.j0 k a1 a2 a3 bt312.1 (bt312.1 == 0) s0_0 bt312.2) else (bD.j0 k a1 a2 a3 bt312.1 (bt312.1 == 1) s0_0 bt312.2))
def bR.l0:Nat→Int→Int→Int→Bool→List (S58)→Int→List Int→Int→Option ((List (S58)) × Int)
 |0,_,_,_,_,_,_,_,_=>none
 |k + 1,x1,x2,x3,x4,x11,x12,x1000,x1001=>if x12 < x3 then ((bD.f k x1000 x1001 x1 x2 x4).bind fun bt411=>(if x11.length + bt411.1.length < 1256584717458 then (bR.l0 k x1 x2 x3 x4 (x11 ++ bt411.1) (wrap64 (x12 + 1)) x1000 bt411.2) else (none))) else (some (x11,x1001))
def bR.f:Nat→List Int→Int→Int→Int→Int→Bool→Option ((List (S58)) × Int)
 |0,_,_,_,_,_,_=>none
 |k + 1,s0_0,s0_1,a1,a2,a3,a4=>bR.l0 k a1 a2 a3 a4 (([]:List (S58))) 0 s0_0 s0_1
end
def dY.l0:Nat→List (S58)→List Int→Int→Option ((List (S58)) × Int)
 |0,_,_,_=>none
 |k + 1,x5,x1000,x1001=>(bQ.f k x5).bind fun t424=>(if t424 > 16 then (if 0≤(wrap64 ((x5.length:Int) - 1)) then (if (wrap64 ((x5.length:Int) - 1))≤(x5.length:Int) then (dY.l0 k (x5.take ((wrap64 ((x5.length:Int) - 1)):Int).toNat) x1000 x1001) else (none)) else (none)) else (some (x5,x1001)))
def dY.f (k:Nat) (s0_0:List Int) (s0_1:Int) (a1:Int):Option ((List (S58)) × Int):=(aG.f k s0_0 s0_1 6).bind fun bt418=>((bR.f k s0_0 bt418.2 a1 3 (wrap64 (1 + bt418.1)) true).bind fun bt420=>(dY.l0 k bt420.1 s0_0 bt420.2))
def gU.f (k:Nat) (s0_0:List Int) (s0_1:Int):Option (Int × Int × Int × Int × Int × (List (S56)) × (List (S58)) × (List (S58)) × Int):=(iC.f 0 1).bind fun bt429=>((aG.f k s0_0 s0_1 2).bind fun bt434=>((bR.f k s0_0 bt434.2 0 1 bt434.1 false).bind fun bt436=>(some (3,0,0,bt429.1,bt429.2.1,bt429.2.2,bt436.1,([]:List (S58)),bt436.2))))
def bS.l0:Nat→Int→Int→List Int→Int→List Int→List (List (S58))→Option (List Int × (List (List (S58))) × Int)
 |0,_,_,_,_,_,_=>none
 |k + 1,x4,x5,x1000,x1001,x449000,x449001=>if x5 < x4 then ((dY.f k x1000 x1001 (x449000.length:Int)).bind fun bt451=>(if x449001.length < 5864062014805 then (bS.l0 k x4 (wrap64 (x5 + 1)) x1000 bt451.2 x449000 (x449001 ++ [bt451.1])) else (none))) else ((aG.f k x1000 x1001 16).bind fun bt458=>(if bt458.1=0 then ((gU.f k x1000 bt458.2).bind fun bt460=>(if 0 < (x449001.length:Int) then (some (x449000,(x449001.set (0:Int).toNat (([(⟨bt460.1,bt460.2.1,bt460.2.2.1,(⟨bt460.2.2.2.1,bt460.2.2.2.2.1,bt460.2.2.2.2.2.1⟩:S56),bt460.2.2.2.2.2.2.1,bt460.2.2.2.2.2.2.2.1⟩:S58)]:List (S58)))),bt460.2.2.2.2.2.2.2.2)) else (none))) else (some (x449000,x449001,bt458.2))))
def bS.f (k:Nat) (s0_0:List Int) (s0_1:Int):Option (List Int × (List (List (S58))) × Int):=(dR.f k s0_0 s0_1).bind fun bt441=>((aG.f k s0_0 bt441.2 3).bind fun bt449=>(bS.l0 k (wrap64 (1 + bt449.1)) 0 s0_0 bt449.2 bt441.1 (([]:List (List (S58))))))
def dD.f (k:Nat) (s0_0:List Int) (s0_1:Int):Option (List Int × (List (List (S58))) × Int):=(bS.f k s0_0 s0_1).bind fun bt480=>((aG.f k s0_0 bt480.2.2 30).bind fun bt488=>(if bt488.1=0 then ((some (([0,5]:List Int):List Int)).bind fun y490=>((aG.f k s0_0 bt488.2 2).bind fun bt493=>(if 0≤bt493.1 then (if bt493.1 < (y490.length:Int) then (if bt480.1.length < 17592186044416 then (some ((bt480.1 ++ [rd y490 bt493.1]),bt480.2.1,bt493.2)) else (none)) else (none)) else (none)))) else (if bt488.1=1 then ((iE.f k s0_0 bt488.2).bind fun bt499=>(if bt480.2.1.length < 5864062014805 then (some (bt480.1,(bt480.2.1 ++ [(([(⟨4,0,(bt480.1.length:Int),(⟨bt499.1,bt499.2.1,bt499.2.2.1⟩:S56),([]:List (S58)),([]:List (S58))⟩:S58)]:List (S58)))]),bt499.2.2.2)) else (none))) else (if bt488.1=2 then (some (bt480.1,(([]:List (List (S58)))),bt488.2)) else (if bt488.1=3 then (if 0 < (bt480.2.1.length:Int) then ((some (([fJ bt480.2.1 0,fJ bt480.2.1 0,fJ bt480.2.1 0]:List (List (S58))):List (List (S58)))).bind fun y517=>(if bt480.2.1.length + y517.length < 5864062014805 then (some (bt480.1,(bt480.2.1 ++ y517),bt488.2)) else (none))) else (none)) else (if bt488.1=4 then (if 0 < (bt480.2.1.length:Int) then (if (fJ bt480.2.1 0).length + 1 < 1256584717458 then (some (bt480.1,bt480.2.1.set 0 (fJ bt480.2.1 0 ++ [⟨9,0,0,⟨0,0,[]⟩,[],[]⟩]),bt488.2)) else (none)) else (none)) else (some (bt480.1,bt480.2.1,bt488.2))))))))
def nQ.f (l0:List Int):Option (List Int × Int):=if (l0.length:Int) > 2000 then (if 2000≤(l0.length:Int) then (some (l0.take 2000,0)) else (none)) else (some (l0,0))
def fD.f (k:Nat) (l0:List Int):Option (List Int × (List (List (S58)))):=(nQ.f l0).bind fun bt527=>((dD.f k bt527.1 bt527.2).bind fun bt530=>(some (bt530.1,bt530.2.1)))
def dG.l0:Nat→List Int→List Int→Int→Int→Option (Bool)
 |0,_,_,_,_=>none
 |k + 1,x0,x5,x6,x7=>if x7 < x6 then (if 0≤x7 then (if x7 < (x5.length:Int) then (if (rd x5 x7) < 1 then (some false) else (if (rd x5 x7) > 4 then (some false) else (dG.l0 k x0 x5 x6 (wrap64 (x7 + 1))))) else (none)) else (none)) else (some (decide ((x0.length:Int)≤3)))
def dG.f (k:Nat) (l0:List Int):Option (Bool):=dG.l0 k l0 l0 (l0.length:Int) 0
def gW.f (a0:Int):Option (Bool):=if a0≥1 then (some (decide (a0≤12))) else (some false)
def fB.f:Nat→Int→Int→List (S56)→Int→Option (Bool)
 |0,_,_,_,_=>none
 |k + 1,a0_0,a0_1,l0_2,a1=>if a0_0=0 then (if a0_1≥0 then (if a0_1≤99999 then (if (l0_2.length:Int)=0 then (some (decide (a1 > 0))) else (some false)) else (some false)) else (some false)) else (if a0_0=13 then (if a0_1≥0 then (if a0_1 < 4 then (if (l0_2.length:Int)=0 then (some (decide (a1 > 0))) else (some false)) else (some false)) else (some false)) else ((gW.f a0_0).bind fun t539=>(if t539=true then (if a0_1=0 then (if (l0_2.length:Int)=2 then (if a1 > 1 then (if 0 < (l0_2.length:Int) then ((fB.f k ((bW l0_2 0).f0) ((bW l0_2 0).f1) ((bW l0_2 0).f2) (wrap64 (a1 - 1))).bind fun t541=>(if t541=true then (if 1 < (l0_2.length:Int) then ((fB.f k ((bW l0_2 1).f0) ((bW l0_2 1).f1) ((bW l0_2 1).f2) (wrap64 (a1 - 1))).bind fun t543=>(some t543)) else (none)) else (some false))) else (none)) else (some false)) else (some false)) else (some false)) else (some false))))
def iG.f (k:Nat) (a0_0:Int) (a0_1:Int) (l0_2:List (S56)):Option (Bool):=(fB.f k a0_0 a0_1 l0_2 5).bind fun t545=>(some t545)
def inr (n limit:Int) (needed:Bool):Bool:=(n == 0) || (needed && (decide (n > 0) && decide (n < limit)))
def mF (k:Nat) (nv nb ne nd no:Bool) (va bx op n:Int) (la:List S56) (lb le:Nat) (boxes:Int):Option Bool:=
  if inr va 4 nv=true then (if inr bx boxes nb=true then (if nb=true∧boxes≤bx then some false else
    (if ne=true then ((iG.f k op n la).bind fun t=>if t=true then some ((nd || lb == 0) && (no || le == 0)) else some false)
     else (if op=0 then (if n=0 then (if 0 < (la.length:Int) then some false else some ((nd || lb == 0) && (no || le == 0))) else some false) else some false))) else some false) else some false
def fC.f (k:Nat) (kd va bx op n:Int) (la:List S56) (lb le:Nat) (boxes:Int):Option Bool:=
 if kd=1 then mF k true false true false false va bx op n la lb le boxes
 else if kd=2 then mF k false false true true true va bx op n la lb le boxes
 else if kd=3 then mF k false false true true false va bx op n la lb le boxes
 else if kd=4 then mF k false true true false false va bx op n la lb le boxes
 else if kd=5 then mF k true true false false false va bx op n la lb le boxes
 else if kd=7 then mF k false false true false false va bx op n la lb le boxes
 else if kd=6 then mF k false false false false false va bx op n la lb le boxes
 else some false
mutual
def bZ.f:Nat→List S58→Int→Int→Int→Option (Bool × Int)
 |0,_,_,_,_=>none
 |k + 1,l,boxes,blocks,cnt=>if 16 < wrap64 (cnt + (l.length:Int)) then some (false,wrap64 (cnt + (l.length:Int))) else bZ.l0 k l boxes blocks 0 (wrap64 (cnt + (l.length:Int)))
def bZ.l0:Nat→List S58→Int→Int→Int→Int→Option (Bool × Int)
 |0,_,_,_,_,_=>none
 | k + 1,l,boxes,blocks,i,cnt=>if i < (l.length:Int) then (if 0≤i then
   ((fC.f k (aH l i).f0 (aH l i).f1 (aH l i).f2 (aH l i).f3.f0 (aH l i).f3.f1 (aH l i).f3.f2 (aH l i).f4.length (aH l i).f5.length boxes).bind fun t=>
    if t=true then (if 3 < blocks then some (false,cnt) else
     (if (aH l i).f0=2∨(aH l i).f0=3 then (if 3≤blocks then some (false,cnt) else
      ((bZ.f k (aH l i).f4 boxes (wrap64 (blocks + 1)) cnt).bind fun p=>if p.1=true then
       ((bZ.f k (aH l i).f5 boxes (wrap64 (blocks + 1)) p.2).bind fun q=>if q.1=true then bZ.l0 k l boxes blocks (wrap64 (i + 1)) q.2 else some (false,q.2)) else some (false,p.2)))
     else bZ.l0 k l boxes blocks (wrap64 (i + 1)) cnt)) else some (false,cnt)) else none) else some (true,cnt)
end
def gJ.f (k:Nat) (l0:List (S58)) (a1:Int):Option Bool:=(bZ.f k l0 a1 0 0).bind fun p=>some p.1
mutual
def bG.j0:Nat→Bool→List Int→List (List (S58))→Option (Bool)
 |0,_,_,_=>none
 |k + 1,x20,x547000,x547001=>if x20=true then (some false) else (bG.l0 k x547001 (x547001.length:Int) 0 x547000 x547001)
def bG.l0:Nat→List (List (S58))→Int→Int→List Int→List (List (S58))→Option (Bool)
 |0,_,_,_,_,_=>none
 |k + 1,x22,x23,x24,x547000,x547001=>if x24 < x23 then (if 0≤x24 then (if x24 < (x22.length:Int) then ((gJ.f k (fJ x22 x24) (x547000.length:Int)).bind fun t549=>(if t549=true then (bG.l0 k x22 x23 (wrap64 (x24 + 1)) x547000 x547001) else (some false))) else (none)) else (none)) else (some true)
end
def bG.f (k:Nat) (l0_0:List Int) (l0_1:List (List (S58))):Option (Bool):=(dG.f k l0_0).bind fun t547=>(if t547=true then (if (l0_1.length:Int) < 1 then (bG.j0 k true l0_0 l0_1) else (bG.j0 k (decide ((l0_1.length:Int) > 3)) l0_0 l0_1)) else (bG.j0 k true l0_0 l0_1))
def aEj.f (a0:Int):Option (ByteArray):=if a0 < 10 then (if 0≤a0 then (if a0≤(wrap64 (a0 + 1)) then (if (wrap64 (a0 + 1))≤36 then (some ((⟨#[48,49,50,51,52,53,54,55,56,57,97,98,99,100,101,102,103,104,105,106,107,108,109,110,111,112,113,114,115,116,117,118,119,120,121,122]⟩:ByteArray).extract (a0:Int).toNat ((wrap64 (a0 + 1)):Int).toNat)) else (none)) else (none)) else (none)) else (if 0≤(wrap64 (a0 * 2)) then (if (wrap64 (a0 * 2))≤(wrap64 ((wrap64 (a0 * 2)) + 2)) then (if (wrap64 ((wrap64 (a0 * 2)) + 2))≤200 then (some ((⟨#[48,48,48,49,48,50,48,51,48,52,48,53,48,54,48,55,48,56,48,57,49,48,49,49,49,50,49,51,49,52,49,53,49,54,49,55,49,56,49,57,50,48,50,49,50,50,50,51,50,52,50,53,50,54,50,55,50,56,50,57,51,48,51,49,51,50,51,51,51,52,51,53,51,54,51,55,51,56,51,57,52,48,52,49,52,50,52,51,52,52,52,53,52,54,52,55,52,56,52,57,53,48,53,49,53,50,53,51,53,52,53,53,53,54,53,55,53,56,53,57,54,48,54,49,54,50,54,51,54,52,54,53,54,54,54,55,54,56,54,57,55,48,55,49,55,50,55,51,55,52,55,53,55,54,55,55,55,56,55,57,56,48,56,49,56,50,56,51,56,52,56,53,56,54,56,55,56,56,56,57,57,48,57,49,57,50,57,51,57,52,57,53,57,54,57,55,57,56,57,57]⟩:ByteArray).extract ((wrap64 (a0 * 2)):Int).toNat ((wrap64 ((wrap64 (a0 * 2)) + 2)):Int).toNat)) else (none)) else (none)) else (none))
def aBk.f (a0:Int):Option (Int):=some ((wrap64 (a0 * 78913)) / 262144)
def bits_Len64.j0:Nat→Int→Int→Option (Int)
 |0,_,_=>none
 |k + 1,x0,x2=>if x0≥65536 then (if (x0 / 65536)≥256 then (if 0≤(((x0 / 65536) / 256) % 256) then (if (((x0 / 65536) / 256) % 256) < 256 then (some (wrap64 ((wrap64 ((wrap64 (x2 + 16)) + 8)) + (wrap64 (bt (⟨#[0,1,2,2,3,3,3,3,4,4,4,4,4,4,4,4,5,5,5,5,5,5,5,5,5,5,5,5,5,5,5,5,6,6,6,6,6,6,6,6,6,6,6,6,6,6,6,6,6,6,6,6,6,6,6,6,6,6,6,6,6,6,6,6,7,7,7,7,7,7,7,7,7,7,7,7,7,7,7,7,7,7,7,7,7,7,7,7,7,7,7,7,7,7,7,7,7,7,7,7,7,7,7,7,7,7,7,7,7,7,7,7,7,7,7,7,7,7,7,7,7,7,7,7,7,7,7,7,8,8,8,8,8,8,8,8,8,8,8,8,8,8,8,8,8,8,8,8,8,8,8,8,8,8,8,8,8,8,8,8,8,8,8,8,8,8,8,8,8,8,8,8,8,8,8,8,8,8,8,8,8,8,8,8,8,8,8,8,8,8,8,8,8,8,8,8,8,8,8,8,8,8,8,8,8,8,8,8,8,8,8,8,8,8,8,8,8,8,8,8,8,8,8,8,8,8,8,8,8,8,8,8,8,8,8,8,8,8,8,8,8,8,8,8,8,8,8,8,8,8,8,8,8,8,8,8]⟩:ByteArray) (((x0 / 65536) / 256) % 256)))))) else (none)) else (none)) else (if 0≤((x0 / 65536) % 256) then (if ((x0 / 65536) % 256) < 256 then (some (wrap64 ((wrap64 (x2 + 16)) + (wrap64 (bt (⟨#[0,1,2,2,3,3,3,3,4,4,4,4,4,4,4,4,5,5,5,5,5,5,5,5,5,5,5,5,5,5,5,5,6,6,6,6,6,6,6,6,6,6,6,6,6,6,6,6,6,6,6,6,6,6,6,6,6,6,6,6,6,6,6,6,7,7,7,7,7,7,7,7,7,7,7,7,7,7,7,7,7,7,7,7,7,7,7,7,7,7,7,7,7,7,7,7,7,7,7,7,7,7,7,7,7,7,7,7,7,7,7,7,7,7,7,7,7,7,7,7,7,7,7,7,7,7,7,7,8,8,8,8,8,8,8,8,8,8,8,8,8,8,8,8,8,8,8,8,8,8,8,8,8,8,8,8,8,8,8,8,8,8,8,8,8,8,8,8,8,8,8,8,8,8,8,8,8,8,8,8,8,8,8,8,8,8,8,8,8,8,8,8,8,8,8,8,8,8,8,8,8,8,8,8,8,8,8,8,8,8,8,8,8,8,8,8,8,8,8,8,8,8,8,8,8,8,8,8,8,8,8,8,8,8,8,8,8,8,8,8,8,8,8,8,8,8,8,8,8,8,8,8,8,8,8,8]⟩:ByteArray) ((x0 / 65536) % 256)))))) else (none)) else (none))) else (if x0≥256 then (if 0≤((x0 / 256) % 256) then (if ((x0 / 256) % 256) < 256 then (some (wrap64 ((wrap64 (x2 + 8)) + (wrap64 (bt (⟨#[0,1,2,2,3,3,3,3,4,4,4,4,4,4,4,4,5,5,5,5,5,5,5,5,5,5,5,5,5,5,5,5,6,6,6,6,6,6,6,6,6,6,6,6,6,6,6,6,6,6,6,6,6,6,6,6,6,6,6,6,6,6,6,6,7,7,7,7,7,7,7,7,7,7,7,7,7,7,7,7,7,7,7,7,7,7,7,7,7,7,7,7,7,7,7,7,7,7,7,7,7,7,7,7,7,7,7,7,7,7,7,7,7,7,7,7,7,7,7,7,7,7,7,7,7,7,7,7,8,8,8,8,8,8,8,8,8,8,8,8,8,8,8,8,8,8,8,8,8,8,8,8,8,8,8,8,8,8,8,8,8,8,8,8,8,8,8,8,8,8,8,8,8,8,8,8,8,8,8,8,8,8,8,8,8,8,8,8,8,8,8,8,8,8,8,8,8,8,8,8,8,8,8,8,8,8,8,8,8,8,8,8,8,8,8,8,8,8,8,8,8,8,8,8,8,8,8,8,8,8,8,8,8,8,8,8,8,8,8,8,8,8,8,8,8,8,8,8,8,8,8,8,8,8,8,8]⟩:ByteArray) ((x0 / 256) % 256)))))) else (none)) else (none)) else (if 0≤((x0) % 256) then (if ((x0) % 256) < 256 then (some (wrap64 (x2 + (wrap64 (bt (⟨#[0,1,2,2,3,3,3,3,4,4,4,4,4,4,4,4,5,5,5,5,5,5,5,5,5,5,5,5,5,5,5,5,6,6,6,6,6,6,6,6,6,6,6,6,6,6,6,6,6,6,6,6,6,6,6,6,6,6,6,6,6,6,6,6,7,7,7,7,7,7,7,7,7,7,7,7,7,7,7,7,7,7,7,7,7,7,7,7,7,7,7,7,7,7,7,7,7,7,7,7,7,7,7,7,7,7,7,7,7,7,7,7,7,7,7,7,7,7,7,7,7,7,7,7,7,7,7,7,8,8,8,8,8,8,8,8,8,8,8,8,8,8,8,8,8,8,8,8,8,8,8,8,8,8,8,8,8,8,8,8,8,8,8,8,8,8,8,8,8,8,8,8,8,8,8,8,8,8,8,8,8,8,8,8,8,8,8,8,8,8,8,8,8,8,8,8,8,8,8,8,8,8,8,8,8,8,8,8,8,8,8,8,8,8,8,8,8,8,8,8,8,8,8,8,8,8,8,8,8,8,8,8,8,8,8,8,8,8,8,8,8,8,8,8,8,8,8,8,8,8,8,8,8,8,8,8]⟩:ByteArray) ((x0) % 256)))))) else (none)) else (none)))
def bits_Len64.f (k:Nat) (a0:Int):Option (Int):=if a0≥4294967296 then (bits_Len64.j0 k (a0 / 4294967296) 32) else (bits_Len64.j0 k a0 0)
def aBj.f (a0:Bool):Option (Int):=if a0=true then (some 1) else (some 0)
def SN.f (a0:Int):Option (Bool):=some ((Go.bits .and .i64 a0 (wrap64 (a0 - 1))) == 0)
def gV.f (a0:Int):Option (ByteArray):=if 0≤a0 then (if a0≤9223372036854775807 then some ⟨(Lib.itoa a0).toArray⟩ else none) else none
structure Tab (w:World):Prop where
  pow:Lib.TabIs Tryz.prog w "internal/strconv.uint64pow10" .u64 Lib.pow10Tab
  ops:w.var? Tryz.prog "loop.example/cothreads/impl.opTexts" =some #[.string ⟨#[124]⟩, .string ⟨#[94]⟩, .string ⟨#[38]⟩, .string ⟨#[61,61]⟩, .string ⟨#[60]⟩, .string ⟨#[60,60]⟩, .string ⟨#[62,62]⟩, .string ⟨#[43]⟩, .string ⟨#[45]⟩, .string ⟨#[42]⟩, .string ⟨#[47]⟩, .string ⟨#[37]⟩]
 theorem vZ {P:Program} {w w':World} {nm:String} {a:Array Value} (h:w.var? P nm=some a) (hb:Below w.heap.size w w'):w'.var? P nm=some a:=by
  unfold World.var? at h ⊢
  cases hg:P.globalNamed nm with
  |none=>rw [hg] at h;cases h
  |some g=>
    rw [hg] at h
    simp only [Option.bind_some] at h ⊢
    cases ho:w.heap[g]? with
    |none=>rw [ho] at h;cases h
    |some o=>
      have hlt:g < w.heap.size:=(Array.getElem?_eq_some_iff.1 ho).1
      rw [hb.block g hlt,ho]
      rw [ho] at h
      exact h
 theorem Tab.below {w w':World} (h:Tab w) (hb:Below w.heap.size w w'):Tab w':=⟨vZ h.pow hb,vZ h.ops hb⟩
def opTexts:List ByteArray:=[⟨#[124]⟩,⟨#[94]⟩,⟨#[38]⟩,⟨#[61,61]⟩,⟨#[60]⟩,⟨#[60,60]⟩,⟨#[62,62]⟩,⟨#[43]⟩,⟨#[45]⟩,⟨#[42]⟩,⟨#[47]⟩,⟨#[37]⟩]
 theorem opAt {w:World} (h:Tab w):∃ (t:TypeId) (fr:Nat × Nat),w.heap[1]?=some (.cells #[.string ⟨#[124]⟩, .string ⟨#[94]⟩, .string ⟨#[38]⟩, .string ⟨#[61,61]⟩, .string ⟨#[60]⟩, .string ⟨#[60,60]⟩, .string ⟨#[62,62]⟩, .string ⟨#[43]⟩, .string ⟨#[45]⟩, .string ⟨#[42]⟩, .string ⟨#[47]⟩, .string ⟨#[37]⟩] t fr):=by
  have h2:=h.ops
  unfold World.var? at h2
  rw [show Tryz.prog.globalNamed "loop.example/cothreads/impl.opTexts" =some 1 by kernel_rfl] at h2
  simp only [Option.bind_some] at h2
  cases ho:w.heap[1]? with
  |none=>rw [ho] at h2;cases h2
  |some o=>
    rw [ho] at h2
    cases o with
    |cells cs t fr=>
      injection h2 with h2
      subst h2
      exact ⟨t,fr,rfl⟩
    | _=>cases h2
 theorem opCell {w:World} (h:Tab w) (i:Nat) (hi:i < 12):w.cell? ⟨1,i,none⟩=some (.string (opTexts.getD i ⟨#[]⟩)):=by
  obtain ⟨t,fr,ho⟩:=opAt h
  unfold World.cell?
  rw [ho]
  have:i=0∨i=1∨i=2∨i=3∨i=4∨i=5∨i=6∨i=7∨i=8∨i=9∨i=10∨i=11:=by omega
  rcases this with rfl|rfl|rfl|rfl|rfl|rfl|rfl|rfl|rfl|rfl|rfl|rfl <;> rfl
def kX.f (a0:Int):Option (ByteArray):=if 0≤a0∧a0≤3 then some (⟨#[(97 + a0).toNat.toUInt8]⟩:ByteArray) else none
mutual
def dL.j0:Nat→Int→Bool→Option (Int)
 |0,_,_=>none
 |k + 1,x3,x14=>if x14=true then (some 6) else (if x3=8 then (dL.j1 k x3 (x3 == 8)) else (dL.j1 k x3 (x3 == 9)))
def dL.j1:Nat→Int→Bool→Option (Int)
 |0,_,_=>none
 |k + 1,x3,x17=>if x17=true then (some 7) else (if x3=10 then (some 8) else (if x3=11 then (some 8) else (if x3=12 then (some 8) else (some 0))))
end
def dL.f (k:Nat) (a0:Int):Option (Int):=if a0=1 then (some 1) else (if a0=2 then (some 2) else (if a0=3 then (some 3) else (if a0=4 then (some 4) else (if a0=5 then (some 5) else (if a0=6 then (dL.j0 k a0 (a0 == 6)) else (dL.j0 k a0 (a0 == 7)))))))
def pX.f (a0:Int):Option (ByteArray):=if 1≤a0∧a0≤12 then some (opTexts.getD (a0 - 1).toNat ⟨#[]⟩) else none
mutual
def bA.j0:Nat→List ByteArray→Bool→Int→Int→List (S56)→Option (List ByteArray)
 |0,_,_,_,_,_=>none
 |k + 1,x2,x17,x570000,x570001,x570002=>if x17=true then ((bH.f k x570000 x570001 x570002 x2).bind fun t572=>(some t572)) else (if x2.length < 8796093022208 then ((bH.f k x570000 x570001 x570002 (x2 ++ [(⟨#[40]⟩:ByteArray)])).bind fun t578=>(if t578.length < 8796093022208 then (some (t578 ++ [(⟨#[41]⟩:ByteArray)])) else (none))) else (none))
def bA.f:Nat→Int→Int→List (S56)→Int→List ByteArray→Option (List ByteArray)
 |0,_,_,_,_,_=>none
 |k + 1,a0_0,a0_1,l0_2,a1,l2=>(gW.f a0_0).bind fun t570=>(if t570=true then ((dL.f k a0_0).bind fun t571=>(bA.j0 k l2 (decide (t571≥a1)) a0_0 a0_1 l0_2)) else (bA.j0 k l2 true a0_0 a0_1 l0_2))
def bH.f:Nat→Int→Int→List (S56)→List ByteArray→Option (List ByteArray)
 |0,_,_,_,_=>none
 |k + 1,a0_0,a0_1,l0_2,l1=>if a0_0=0 then ((gV.f a0_1).bind fun t585=>(if l1.length < 8796093022208 then (some (l1 ++ [t585])) else (none))) else (if a0_0=13 then ((kX.f a0_1).bind fun t589=>(if l1.length < 8796093022208 then (some (l1 ++ [t589])) else (none))) else ((dL.f k a0_0).bind fun t593=>(if 0 < (l0_2.length:Int) then ((bA.f k ((bW l0_2 0).f0) ((bW l0_2 0).f1) ((bW l0_2 0).f2) t593 l1).bind fun t595=>((pX.f a0_0).bind fun t598=>(if t595.length < 8796093022208 then (if 1 < (l0_2.length:Int) then ((bA.f k ((bW l0_2 1).f0) ((bW l0_2 1).f1) ((bW l0_2 1).f2) (wrap64 (t593 + 1)) (t595 ++ [t598])).bind fun t603=>(some t603)) else (none)) else (none)))) else (none))))
end
mutual
def aQ.f:Nat→Int→Int→Int→Int→Int→List (S56)→List (S58)→List (S58)→List ByteArray→Option (List ByteArray)
 |0,_,_,_,_,_,_,_,_,_=>none
 |k + 1,a0_0,a0_1,a0_2,a0_3,a0_4,l0_5,l0_6,l0_7,l1=>if a0_0=1 then ((kX.f a0_1).bind fun t607=>((some (([t607,(⟨#[61]⟩:ByteArray)]:List ByteArray):List ByteArray)).bind fun y608=>(if l1.length + y608.length < 8796093022208 then ((bH.f k a0_3 a0_4 l0_5 (l1 ++ y608)).bind fun t614=>(if t614.length < 8796093022208 then (some (t614 ++ [(⟨#[59]⟩:ByteArray)])) else (none))) else (none)))) else (if a0_0=2 then (if l1.length < 8796093022208 then ((bH.f k a0_3 a0_4 l0_5 (l1 ++ [(⟨#[105,102]⟩:ByteArray)])).bind fun t623=>((aZ.f k l0_6 t623).bind fun t626=>(if (l0_7.length:Int) > 0 then (if t626.length < 8796093022208 then ((aZ.f k l0_7 (t626 ++ [(⟨#[101,108,115,101]⟩:ByteArray)])).bind fun t632=>(some t632)) else (none)) else (some t626)))) else (none)) else (if a0_0=3 then (if l1.length < 8796093022208 then ((bH.f k a0_3 a0_4 l0_5 (l1 ++ [(⟨#[119,104,105,108,101]⟩:ByteArray)])).bind fun t638=>((aZ.f k l0_6 t638).bind fun t641=>(some t641))) else (none)) else (if a0_0=4 then ((gV.f a0_2).bind fun t644=>((some (([(⟨#[115,101,110,100]⟩:ByteArray),t644]:List ByteArray):List ByteArray)).bind fun y645=>(if l1.length + y645.length < 8796093022208 then ((bH.f k a0_3 a0_4 l0_5 (l1 ++ y645)).bind fun t651=>(if t651.length < 8796093022208 then (some (t651 ++ [(⟨#[59]⟩:ByteArray)])) else (none))) else (none)))) else (if a0_0=5 then ((gV.f a0_2).bind fun t657=>((kX.f a0_1).bind fun t658=>((some (([(⟨#[114,101,99,118]⟩:ByteArray),t657,t658]:List ByteArray):List ByteArray)).bind fun y659=>(if l1.length + y659.length < 8796093022208 then ((some (l1 ++ y659:List ByteArray)).bind fun y662=>(if y662.length < 8796093022208 then (some (y662 ++ [(⟨#[59]⟩:ByteArray)])) else (none))) else (none))))) else (if a0_0=6 then (if l1.length < 8796093022208 then ((some (l1 ++ [(⟨#[121,105,101,108,100]⟩:ByteArray)]:List ByteArray)).bind fun y668=>(if y668.length < 8796093022208 then (some (y668 ++ [(⟨#[59]⟩:ByteArray)])) else (none))) else (none)) else (if a0_0=7 then (if l1.length < 8796093022208 then ((bH.f k a0_3 a0_4 l0_5 (l1 ++ [(⟨#[112,114,105,110,116]⟩:ByteArray)])).bind fun t677=>(if t677.length < 8796093022208 then (some (t677 ++ [(⟨#[59]⟩:ByteArray)])) else (none))) else (none)) else (if l1.length < 8796093022208 then (some (l1 ++ [(⟨#[59]⟩:ByteArray)])) else (none))))))))
def aZ.l0:Nat→List ByteArray→List (S58)→Int→Int→Option (List ByteArray)
 |0,_,_,_,_=>none
 |k + 1,x1,x10,x11,x12=>if x12 < x11 then (if 0≤x12 then (if x12 < (x10.length:Int) then ((aQ.f k ((aH x10 x12).f0) ((aH x10 x12).f1) ((aH x10 x12).f2) ((aH x10 x12).f3.f0) ((aH x10 x12).f3.f1) ((aH x10 x12).f3.f2) ((aH x10 x12).f4) ((aH x10 x12).f5) x1).bind fun t690=>(aZ.l0 k t690 x10 x11 (wrap64 (x12 + 1)))) else (none)) else (none)) else (if x1.length < 8796093022208 then (some (x1 ++ [(⟨#[125]⟩:ByteArray)])) else (none))
def aZ.f:Nat→List (S58)→List ByteArray→Option (List ByteArray)
 |0,_,_=>none
 |k + 1,l0,l1=>if l1.length < 8796093022208 then (aZ.l0 k (l1 ++ [(⟨#[123]⟩:ByteArray)]) l0 (l0.length:Int) 0) else (none)
end
def lQ.f (a0:Int):Option (Bool):=if a0≥48 then (some (decide (a0≤57))) else (some false)
def kV.f (a0:Int):Option (Bool):=if a0≥97 then (some (decide (a0≤122))) else (some false)
def stringslite_HasPrefix.f (a0:ByteArray) (a1:ByteArray):Option (Bool):=if (a0.size:Int)≥(a1.size:Int) then (if 0≤(a1.size:Int) then (if (a1.size:Int)≤(a0.size:Int) then (some ((a0.extract 0 ((a1.size:Int):Int).toNat).toList == a1.toList)) else (none)) else (none)) else (some false)
def strings_HasPrefix.f (a0:ByteArray) (a1:ByteArray):Option (Bool):=(stringslite_HasPrefix.f a0 a1).bind fun t696=>(some t696)
def strings_IndexByte.f (a0:ByteArray) (a1:Int):Option (Int):=some (Lib.indexByte a0.data.toList a1.toNat.toUInt8)
def aV.l1:Nat→ByteArray→Bool→Int→Option (Int)
 |0,_,_,_=>none
 |k + 1,x,m,i=>if i < (x.size:Int) then (if 0≤i then ((if m=true then lQ.f (bt x i) else kV.f (bt x i)).bind fun b=>if b=true then aV.l1 k x m (wrap64 (i + 1)) else some i) else none) else some i
def aV.fin (a0:ByteArray):Option Int:=if a0.toList=([]:List UInt8) then some 0 else (strings_IndexByte.f ⟨#[124,94,38,60,43,45,42,47,37,40,41,123,125,61,59]⟩ (bt a0 0)).bind fun j=>if 0≤j then some 1 else some 0
def aV.st2 (a0:ByteArray):Nat→Option Int
 |0=>(strings_HasPrefix.f a0 ⟨#[61,61]⟩).bind fun p=>if p=true then some 2 else (strings_HasPrefix.f a0 ⟨#[60,60]⟩).bind fun q=>if q=true then some 2 else (strings_HasPrefix.f a0 ⟨#[62,62]⟩).bind fun s=>if s=true then some 2 else aV.fin a0
 |1=>(strings_HasPrefix.f a0 ⟨#[60,60]⟩).bind fun q=>if q=true then some 2 else (strings_HasPrefix.f a0 ⟨#[62,62]⟩).bind fun s=>if s=true then some 2 else aV.fin a0
 |2=>(strings_HasPrefix.f a0 ⟨#[62,62]⟩).bind fun s=>if s=true then some 2 else aV.fin a0
 | _ + 3=>aV.fin a0
def aV.st (k:Nat) (a0:ByteArray):Nat→Option Int
 |0=>(aV.l1 k a0 true 0).bind fun d=>if 0 < d then some d else (aV.l1 k a0 false 0).bind fun c=>if 0 < c then some c else aV.st2 a0 0
 |1=>(aV.l1 k a0 false 0).bind fun c=>if 0 < c then some c else aV.st2 a0 0
 | _ + 2=>aV.st2 a0 0
def aV.f (k:Nat) (a0:ByteArray):Option (Int):=aV.st k a0 0
def gP.f (k:Nat) (a0:ByteArray):Option (Bool):=if a0.toList=([]:List UInt8) then (some false) else ((aV.f k a0).bind fun t697=>(some (t697 == (a0.size:Int))))
def RL (l:List ByteArray) (s:ByteArray):List UInt8:=Lib.join (l.map (·.data.toList)) s.data.toList
def strings_Join.f (l0:List ByteArray) (a1:ByteArray):Option (ByteArray):=if l0.length≤140737488355328 then (if (RL l0 a1).length≤140737488355328 then some ⟨(RL l0 a1).toArray⟩ else none) else none
def dN.l0:Nat→List ByteArray→List ByteArray→Int→Int→Option (ByteArray)
 |0,_,_,_,_=>none
 |k + 1,x0,x5,x6,x7=>if x7 < x6 then (if 0≤x7 then (if x7 < (x5.length:Int) then ((gP.f k (nL ByteArray.empty x5 x7)).bind fun t699=>(if t699=true then (dN.l0 k x0 x5 x6 (wrap64 (x7 + 1))) else (some (⟨#[]⟩:ByteArray)))) else (none)) else (none)) else ((strings_Join.f x0 (⟨#[32]⟩:ByteArray)).bind fun t700=>(some t700))
def dN.f (k:Nat) (l0:List ByteArray):Option (ByteArray):=dN.l0 k l0 l0 (l0.length:Int) 0
mutual
def bC.l0:Nat→List ByteArray→List Int→Int→Int→List Int→List (List (S58))→Option (ByteArray)
 |0,_,_,_,_,_,_=>none
 |k + 1,x3,x12,x13,x14,x702000,x702001=>if x14 < x13 then (if 0≤x14 then (if x14 < (x12.length:Int) then ((gV.f (rd x12 x14)).bind fun t704=>((some (([(⟨#[98,111,120]⟩:ByteArray),t704,(⟨#[59]⟩:ByteArray)]:List ByteArray):List ByteArray)).bind fun y705=>(if x3.length + y705.length < 8796093022208 then (bC.l0 k (x3 ++ y705) x12 x13 (wrap64 (x14 + 1)) x702000 x702001) else (none)))) else (none)) else (none)) else (bC.l1 k x3 x702001 (x702001.length:Int) 0)
def bC.l1:Nat→List ByteArray→List (List (S58))→Int→Int→Option (ByteArray)
 |0,_,_,_,_=>none
 |k + 1,x3,x25,x26,x27=>if x27 < x26 then (if 0≤x27 then (if x27 < (x25.length:Int) then (if x3.length < 8796093022208 then ((aZ.f k (fJ x25 x27) (x3 ++ [(⟨#[116,97,115,107]⟩:ByteArray)])).bind fun t715=>(bC.l1 k t715 x25 x26 (wrap64 (x27 + 1)))) else (none)) else (none)) else (none)) else ((dN.f k x3).bind fun t718=>(some t718))
end
def bC.f (k:Nat) (l0_0:List Int) (l0_1:List (List (S58))):Option (ByteArray):=(bG.f k l0_0 l0_1).bind fun t702=>(if t702=true then (bC.l0 k ([]:List ByteArray) l0_0 (l0_0.length:Int) 0 l0_0 l0_1) else (some (⟨#[]⟩:ByteArray)))
def gZ.f (a0:Int) (a1:Int) (a2:Int):Option (Bool):=if a0≥a1 then (some (decide (a0≤a2))) else (some false)
def dW.l0:Nat→List Int→Int→Option (Bool)
 |0,_,_=>none
 |k + 1,x0,x3=>if x3 < (x0.length:Int) then (if 0≤x3 then ((gZ.f (rd x0 x3) 1 4).bind fun t720=>(if t720=true then (dW.l0 k x0 (wrap64 (x3 + 1))) else (some false))) else (none)) else (some (decide ((x0.length:Int)≤3)))
def dW.f (k:Nat) (l0:List Int):Option (Bool):=dW.l0 k l0 0
def fE.f (a0_0:Int) (a0_1:Int) (a0_2:Int) (a0_3:Int) (a0_4:Int) (l0_5:List (S56)) (l0_6:List (S58)) (l0_7:List (S58)) (a1:Bool):Option (Bool):=if a1=true then ((gZ.f a0_1 0 3).bind fun t722=>(some t722)) else (some (a0_1 == 0))
def fU.f (a0_0:Int) (a0_1:Int) (a0_2:Int) (a0_3:Int) (a0_4:Int) (l0_5:List (S56)) (l0_6:List (S58)) (l0_7:List (S58)) (a1:Bool):Option (Bool):=if a1=true then ((gZ.f a0_2 0 2).bind fun t724=>(some t724)) else (some (a0_2 == 0))
def iD.f (a0:Int):Option (Bool):=(gZ.f a0 1 12).bind fun t725=>(some t725)
def iH.f:Nat→Int→Int→List (S56)→Int→Option (Bool)
 |0,_,_,_,_=>none
 |k + 1,a0_0,a0_1,l0_2,a1=>if a1 < 1 then (some false) else (if a0_0=0 then ((gZ.f a0_1 0 99999).bind fun t727=>(if t727=true then (some ((l0_2.length:Int) == 0)) else (some false))) else (if a0_0=13 then ((gZ.f a0_1 0 3).bind fun t728=>(if t728=true then (some ((l0_2.length:Int) == 0)) else (some false))) else ((iD.f a0_0).bind fun t729=>(if t729=true then (if a0_1=0 then (if (l0_2.length:Int)=2 then (if 0 < (l0_2.length:Int) then ((iH.f k ((bW l0_2 0).f0) ((bW l0_2 0).f1) ((bW l0_2 0).f2) (wrap64 (a1 - 1))).bind fun t731=>(if t731=true then (if 1 < (l0_2.length:Int) then ((iH.f k ((bW l0_2 1).f0) ((bW l0_2 1).f1) ((bW l0_2 1).f2) (wrap64 (a1 - 1))).bind fun t733=>(some t733)) else (none)) else (some false))) else (none)) else (some false)) else (some false)) else (some false)))))
def eT.f (k:Nat) (a0_0:Int) (a0_1:Int) (l0_2:List (S56)):Option (Bool):=(iH.f k a0_0 a0_1 l0_2 5).bind fun t735=>(some t735)
def mM.f (a0_0:Int) (a0_1:Int) (l0_2:List (S56)):Option (Bool):=if a0_0=0 then (if a0_1=0 then (some ((l0_2.length:Int) == 0)) else (some false)) else (some false)
def dO.j0:Nat→Bool→Int→Int→Int→Int→Int→List (S56)→List (S58)→List (S58)→Option (Bool)
 |0,_,_,_,_,_,_,_,_,_=>none
 |k + 1,x12,x738000,x738001,x738002,x738003,x738004,x738005,x738006,x738007=>if x12=true then (some false) else (if x738000=1 then ((fE.f x738000 x738001 x738002 x738003 x738004 x738005 x738006 x738007 true).bind fun t738=>(if t738=true then ((fU.f x738000 x738001 x738002 x738003 x738004 x738005 x738006 x738007 false).bind fun t739=>(if t739=true then ((eT.f k x738003 x738004 x738005).bind fun t740=>(some t740)) else (some false))) else (some false))) else (if x738000=4 then ((fE.f x738000 x738001 x738002 x738003 x738004 x738005 x738006 x738007 false).bind fun t741=>(if t741=true then ((fU.f x738000 x738001 x738002 x738003 x738004 x738005 x738006 x738007 true).bind fun t742=>(if t742=true then ((eT.f k x738003 x738004 x738005).bind fun t743=>(some t743)) else (some false))) else (some false))) else (if x738000=5 then ((fE.f x738000 x738001 x738002 x738003 x738004 x738005 x738006 x738007 true).bind fun t744=>(if t744=true then ((fU.f x738000 x738001 x738002 x738003 x738004 x738005 x738006 x738007 true).bind fun t745=>(if t745=true then ((mM.f x738003 x738004 x738005).bind fun t746=>(some t746)) else (some false))) else (some false))) else (if x738000=6 then ((fE.f x738000 x738001 x738002 x738003 x738004 x738005 x738006 x738007 false).bind fun t747=>(if t747=true then ((fU.f x738000 x738001 x738002 x738003 x738004 x738005 x738006 x738007 false).bind fun t748=>(if t748=true then ((mM.f x738003 x738004 x738005).bind fun t749=>(some t749)) else (some false))) else (some false))) else (if x738000=7 then ((fE.f x738000 x738001 x738002 x738003 x738004 x738005 x738006 x738007 false).bind fun t750=>(if t750=true then ((fU.f x738000 x738001 x738002 x738003 x738004 x738005 x738006 x738007 false).bind fun t751=>(if t751=true then ((eT.f k x738003 x738004 x738005).bind fun t752=>(some t752)) else (some false))) else (some false))) else (some false))))))
def dO.f (k:Nat) (a0_0:Int) (a0_1:Int) (a0_2:Int) (a0_3:Int) (a0_4:Int) (l0_5:List (S56)) (l0_6:List (S58)) (l0_7:List (S58)):Option (Bool):=if (l0_6.length:Int) > 0 then (dO.j0 k true a0_0 a0_1 a0_2 a0_3 a0_4 l0_5 l0_6 l0_7) else (dO.j0 k (decide ((l0_7.length:Int) > 0)) a0_0 a0_1 a0_2 a0_3 a0_4 l0_5 l0_6 l0_7)
mutual
def bY.j0:Nat→Int→Bool→Int→Int→Int→Int→Int→List (S56)→List (S58)→List (S58)→Option (Bool)
 |0,_,_,_,_,_,_,_,_,_,_=>none
 |k + 1,x1,x12,x754000,x754001,x754002,x754003,x754004,x754005,x754006,x754007=>if x12=true then ((dO.f k x754000 x754001 x754002 x754003 x754004 x754005 x754006 x754007).bind fun t754=>(some t754)) else (if x1 < 1 then (bY.j1 k x1 true x754000 x754001 x754002 x754003 x754004 x754005 x754006 x754007) else (if x754000=3 then (bY.j1 k x1 (decide ((x754007.length:Int) > 0)) x754000 x754001 x754002 x754003 x754004 x754005 x754006 x754007) else (bY.j1 k x1 false x754000 x754001 x754002 x754003 x754004 x754005 x754006 x754007)))
def bY.j1:Nat→Int→Bool→Int→Int→Int→Int→Int→List (S56)→List (S58)→List (S58)→Option (Bool)
 |0,_,_,_,_,_,_,_,_,_,_=>none
 |k + 1,x1,x27,x754000,x754001,x754002,x754003,x754004,x754005,x754006,x754007=>if x27=true then (some false) else ((fE.f x754000 x754001 x754002 x754003 x754004 x754005 x754006 x754007 false).bind fun t755=>(if t755=true then ((fU.f x754000 x754001 x754002 x754003 x754004 x754005 x754006 x754007 false).bind fun t756=>(if t756=true then ((eT.f k x754003 x754004 x754005).bind fun t757=>(if t757=true then ((bU.f k x754006 (wrap64 (x1 - 1))).bind fun t758=>(if t758=true then ((bU.f k x754007 (wrap64 (x1 - 1))).bind fun t759=>(some t759)) else (some false))) else (some false))) else (some false))) else (some false)))
def bY.f:Nat→Int→Int→Int→Int→Int→List (S56)→List (S58)→List (S58)→Int→Option (Bool)
 |0,_,_,_,_,_,_,_,_,_=>none
 |k + 1,a0_0,a0_1,a0_2,a0_3,a0_4,l0_5,l0_6,l0_7,a1=>if a0_0=2 then (bY.j0 k a1 false a0_0 a0_1 a0_2 a0_3 a0_4 l0_5 l0_6 l0_7) else (bY.j0 k a1 (a0_0 != 3) a0_0 a0_1 a0_2 a0_3 a0_4 l0_5 l0_6 l0_7)
def bU.l0:Nat→List (S58)→Int→Int→Option (Bool)
 |0,_,_,_=>none
 |k + 1,x0,x1,x5=>if x5 < (x0.length:Int) then (if 0≤x5 then ((bY.f k ((aH x0 x5).f0) ((aH x0 x5).f1) ((aH x0 x5).f2) ((aH x0 x5).f3.f0) ((aH x0 x5).f3.f1) ((aH x0 x5).f3.f2) ((aH x0 x5).f4) ((aH x0 x5).f5) x1).bind fun t761=>(if t761=true then (bU.l0 k x0 x1 (wrap64 (x5 + 1))) else (some false))) else (none)) else (some true)
def bU.f:Nat→List (S58)→Int→Option (Bool)
 |0,_,_=>none
 |k + 1,l0,a1=>bU.l0 k l0 a1 0
end
def fZ.f (k:Nat) (l0:List (S58)):Option (Bool):=(bU.f k l0 3).bind fun t762=>(if t762=true then ((bQ.f k l0).bind fun t763=>(some (decide (t763≤16)))) else (some false))
mutual
def bO.l0:Nat→List (S58)→Int→Int→Option (Bool)
 |0,_,_,_=>none
 |k + 1,x0,x1,x5=>if x5 < (x0.length:Int) then (if 0≤x5 then (if ((aH x0 x5).f0)=4 then (bO.j1 k x0 x1 x5 (decide (((aH x0 x5).f2)≥x1)) ((aH x0 x5).f0) ((aH x0 x5).f1) ((aH x0 x5).f2) ((aH x0 x5).f3.f0) ((aH x0 x5).f3.f1) ((aH x0 x5).f3.f2) ((aH x0 x5).f4) ((aH x0 x5).f5)) else (if ((aH x0 x5).f0)=5 then (bO.j1 k x0 x1 x5 (decide (((aH x0 x5).f2)≥x1)) ((aH x0 x5).f0) ((aH x0 x5).f1) ((aH x0 x5).f2) ((aH x0 x5).f3.f0) ((aH x0 x5).f3.f1) ((aH x0 x5).f3.f2) ((aH x0 x5).f4) ((aH x0 x5).f5)) else (bO.j1 k x0 x1 x5 false ((aH x0 x5).f0) ((aH x0 x5).f1) ((aH x0 x5).f2) ((aH x0 x5).f3.f0) ((aH x0 x5).f3.f1) ((aH x0 x5).f3.f2) ((aH x0 x5).f4) ((aH x0 x5).f5)))) else (none)) else (some true)
def bO.j1:Nat→List (S58)→Int→Int→Bool→Int→Int→Int→Int→Int→List (S56)→List (S58)→List (S58)→Option (Bool)
 |0,_,_,_,_,_,_,_,_,_,_,_,_=>none
 |k + 1,x0,x1,x5,x30,x766000,x766001,x766002,x766003,x766004,x766005,x766006,x766007=>if x30=true then (some false) else ((bO.f k x766006 x1).bind fun t766=>(if t766=true then ((bO.f k x766007 x1).bind fun t767=>(if t767=true then (bO.l0 k x0 x1 (wrap64 (x5 + 1))) else (some false))) else (some false)))
def bO.f:Nat→List (S58)→Int→Option (Bool)
 |0,_,_=>none
 |k + 1,l0,a1=>bO.l0 k l0 a1 0
end
mutual
def aX.j0:Nat→Bool→List Int→List (List (S58))→Option (Bool)
 |0,_,_,_=>none
 |k + 1,x14,x769000,x769001=>if x14=true then (some false) else (aX.l0 k 0 x769000 x769001)
def aX.l0:Nat→Int→List Int→List (List (S58))→Option (Bool)
 |0,_,_,_=>none
 |k + 1,x3,x769000,x769001=>if x3 < (x769001.length:Int) then (if 0≤x3 then ((fZ.f k (fJ x769001 x3)).bind fun t772=>(if t772=true then ((bO.f k (fJ x769001 x3) (x769000.length:Int)).bind fun t774=>(if t774=true then (aX.l0 k (wrap64 (x3 + 1)) x769000 x769001) else (some false))) else (some false))) else (none)) else (some true)
end
def aX.f (k:Nat) (l0_0:List Int) (l0_1:List (List (S58))):Option (Bool):=(dW.f k l0_0).bind fun t769=>(if t769=true then ((gZ.f (l0_1.length:Int) 1 3).bind fun t770=>(aX.j0 k (!t770) l0_0 l0_1)) else (aX.j0 k true l0_0 l0_1))
def dX.f:Nat→Int→Option (ByteArray)
 |0,_=>none
 |k + 1,a0=>if a0 < (-9223372036854775807) then (some (⟨#[45,57,50,50,51,51,55,50,48,51,54,56,53,52,55,55,53,56,48,56]⟩:ByteArray)) else (if a0 < 0 then ((dX.f k (wrap64 (-a0))).bind fun t775=>(if 1 + t775.size≤9223372036854775807 then (some ((⟨#[45]⟩:ByteArray) ++ t775)) else (none))) else (if a0 < 10 then (some (strOfNums (([(wrap64 (48 + a0)) % 256]:List Int)))) else ((dX.f k (wrap64 (Int.tdiv a0 10))).bind fun t779=>((some (([(wrap64 (48 + (Int.tmod a0 10))) % 256]:List Int):List Int)).bind fun y780=>(if t779.size + (strOfNums y780).size≤9223372036854775807 then (some (t779 ++ (strOfNums y780))) else (none))))))
def mO.f (a0:Int):Option (ByteArray):=some (strOfNums (([(wrap64 (97 + a0)) % 256]:List Int)))
def lS.f (a0:Int):Option (Int):=(iD.f a0).bind fun t786=>(if t786=true then ((some (([1,2,3,4,5,6,6,7,7,8,8,8]:List Int):List Int)).bind fun y787=>(if 0≤(wrap64 (a0 - 1)) then (if (wrap64 (a0 - 1)) < (y787.length:Int) then (some (rd y787 (wrap64 (a0 - 1)))) else (none)) else (none))) else (some 0))
def mP.f (l0:List ByteArray) (a1:Bool):Option (List ByteArray):=if a1=true then ((some (([(⟨#[40]⟩:ByteArray)]:List ByteArray):List ByteArray)).bind fun y791=>(if y791.length + l0.length < 8796093022208 then ((some (y791 ++ l0:List ByteArray)).bind fun y794=>(if y794.length < 8796093022208 then (some (y794 ++ [(⟨#[41]⟩:ByteArray)])) else (none))) else (none))) else (some l0)
def mI.f (a0_0:Int) (a0_1:Int) (l0_2:List (S56)):Option (Int):=if (l0_2.length:Int)=0 then (some 9) else ((lS.f a0_0).bind fun t801=>(some t801))
def rD.f (a0:Int):Option (ByteArray):=(iD.f a0).bind fun t802=>(if t802=true then ((some (([(⟨#[124]⟩:ByteArray),(⟨#[94]⟩:ByteArray),(⟨#[38]⟩:ByteArray),(⟨#[61,61]⟩:ByteArray),(⟨#[60]⟩:ByteArray),(⟨#[60,60]⟩:ByteArray),(⟨#[62,62]⟩:ByteArray),(⟨#[43]⟩:ByteArray),(⟨#[45]⟩:ByteArray),(⟨#[42]⟩:ByteArray),(⟨#[47]⟩:ByteArray),(⟨#[37]⟩:ByteArray)]:List ByteArray):List ByteArray)).bind fun y803=>(if 0≤(wrap64 (a0 - 1)) then (if (wrap64 (a0 - 1)) < (y803.length:Int) then (some (nL ByteArray.empty y803 (wrap64 (a0 - 1)))) else (none)) else (none))) else (some (⟨#[]⟩:ByteArray)))
def bM.f:Nat→Int→Int→List (S56)→Option (List ByteArray)
 |0,_,_,_=>none
 |k + 1,a0_0,a0_1,l0_2=>if a0_0=0 then ((dX.f k a0_1).bind fun t808=>(some (([t808]:List ByteArray)))) else (if a0_0=13 then ((mO.f a0_1).bind fun t812=>(some (([t812]:List ByteArray)))) else ((lS.f a0_0).bind fun t816=>(if 0 < (l0_2.length:Int) then ((bM.f k ((bW l0_2 0).f0) ((bW l0_2 0).f1) ((bW l0_2 0).f2)).bind fun t818=>((mI.f ((bW l0_2 0).f0) ((bW l0_2 0).f1) ((bW l0_2 0).f2)).bind fun t822=>((mP.f t818 (decide (t822 < t816))).bind fun t823=>((rD.f a0_0).bind fun t826=>(if t823.length < 8796093022208 then ((some (t823 ++ [t826]:List ByteArray)).bind fun y827=>(if 1 < (l0_2.length:Int) then ((bM.f k ((bW l0_2 1).f0) ((bW l0_2 1).f1) ((bW l0_2 1).f2)).bind fun t831=>((mI.f ((bW l0_2 1).f0) ((bW l0_2 1).f1) ((bW l0_2 1).f2)).bind fun t835=>((mP.f t831 (decide (t835≤t816))).bind fun t836=>(if y827.length + t836.length < 8796093022208 then (some (y827 ++ t836)) else (none))))) else (none))) else (none)))))) else (none))))
def gB.f (k:Nat) (l0:List ByteArray) (a1_0:Int) (a1_1:Int) (l1_2:List (S56)):Option (List ByteArray):=(bM.f k a1_0 a1_1 l1_2).bind fun t843=>(if l0.length + t843.length < 8796093022208 then ((some (l0 ++ t843:List ByteArray)).bind fun y846=>(if y846.length < 8796093022208 then (some (y846 ++ [(⟨#[59]⟩:ByteArray)])) else (none))) else (none))
mutual
def bP.f:Nat→Int→Int→Int→Int→Int→List (S56)→List (S58)→List (S58)→Option (List ByteArray)
 |0,_,_,_,_,_,_,_,_=>none
 |k + 1,a0_0,a0_1,a0_2,a0_3,a0_4,l0_5,l0_6,l0_7=>if a0_0=1 then ((mO.f a0_1).bind fun t853=>((gB.f k (([t853,(⟨#[61]⟩:ByteArray)]:List ByteArray)) a0_3 a0_4 l0_5).bind fun t857=>(some t857))) else (if a0_0=4 then ((dX.f k a0_2).bind fun t860=>((gB.f k (([(⟨#[115,101,110,100]⟩:ByteArray),t860]:List ByteArray)) a0_3 a0_4 l0_5).bind fun t864=>(some t864))) else (if a0_0=7 then ((gB.f k (([(⟨#[112,114,105,110,116]⟩:ByteArray)]:List ByteArray)) a0_3 a0_4 l0_5).bind fun t870=>(some t870)) else (if a0_0=5 then ((dX.f k a0_2).bind fun t873=>((mO.f a0_1).bind fun t874=>(some (([(⟨#[114,101,99,118]⟩:ByteArray),t873,t874,(⟨#[59]⟩:ByteArray)]:List ByteArray))))) else (if a0_0=6 then (some (([(⟨#[121,105,101,108,100]⟩:ByteArray),(⟨#[59]⟩:ByteArray)]:List ByteArray))) else (if a0_0=3 then ((some (([(⟨#[119,104,105,108,101]⟩:ByteArray)]:List ByteArray):List ByteArray)).bind fun y881=>((bM.f k a0_3 a0_4 l0_5).bind fun t884=>(if y881.length + t884.length < 8796093022208 then ((some (y881 ++ t884:List ByteArray)).bind fun y887=>((bL.f k l0_6).bind fun t890=>(if y887.length + t890.length < 8796093022208 then (some (y887 ++ t890)) else (none)))) else (none)))) else ((some (([(⟨#[105,102]⟩:ByteArray)]:List ByteArray):List ByteArray)).bind fun y896=>((bM.f k a0_3 a0_4 l0_5).bind fun t899=>(if y896.length + t899.length < 8796093022208 then ((some (y896 ++ t899:List ByteArray)).bind fun y902=>((bL.f k l0_6).bind fun t905=>(if y902.length + t905.length < 8796093022208 then ((some (y902 ++ t905:List ByteArray)).bind fun y908=>(if (l0_7.length:Int)=0 then (some y908) else (if y908.length < 8796093022208 then ((some (y908 ++ [(⟨#[101,108,115,101]⟩:ByteArray)]:List ByteArray)).bind fun y911=>((bL.f k l0_7).bind fun t914=>(if y911.length + t914.length < 8796093022208 then (some (y911 ++ t914)) else (none)))) else (none)))) else (none)))) else (none)))))))))
def bL.l0:Nat→List (S58)→List ByteArray→Int→Option (List ByteArray)
 |0,_,_,_=>none
 |k + 1,x0,x3,x4=>if x4 < (x0.length:Int) then (if 0≤x4 then ((bP.f k ((aH x0 x4).f0) ((aH x0 x4).f1) ((aH x0 x4).f2) ((aH x0 x4).f3.f0) ((aH x0 x4).f3.f1) ((aH x0 x4).f3.f2) ((aH x0 x4).f4) ((aH x0 x4).f5)).bind fun t924=>(if x3.length + t924.length < 8796093022208 then (bL.l0 k x0 (x3 ++ t924) (wrap64 (x4 + 1))) else (none))) else (none)) else (if x3.length < 8796093022208 then (some (x3 ++ [(⟨#[125]⟩:ByteArray)])) else (none))
def bL.f:Nat→List (S58)→Option (List ByteArray)
 |0,_=>none
 |k + 1,l0=>bL.l0 k l0 (([(⟨#[123]⟩:ByteArray)]:List ByteArray)) 0
end
mutual
def bK.j0:Nat→Int→Bool→Option (Int)
 |0,_,_=>none
 |k + 1,x0,x5=>if x5=true then (some 1) else (if x0≥97 then (bK.j1 k x0 (decide (x0≤122))) else (bK.j1 k x0 false))
def bK.j1:Nat→Int→Bool→Option (Int)
 |0,_,_=>none
 |k + 1,x0,x12=>if x12=true then (some 2) else (if x0=32 then (some 3) else (if x0=10 then (some 3) else (bK.l0 k x0 (⟨#[43,45,42,47,37,38,124,94,60,62,40,41,123,125,61,59]⟩:ByteArray) 0)))
def bK.l0:Nat→Int→ByteArray→Int→Option (Int)
 |0,_,_,_=>none
 |k + 1,x0,x3,x4=>if x4 < (x3.size:Int) then (if 0≤x4 then (if (bt x3 x4)=x0 then (some 4) else (bK.l0 k x0 x3 (wrap64 (x4 + 1)))) else (none)) else (some 0)
end
def bK.f (k:Nat) (a0:Int):Option (Int):=if a0≥48 then (bK.j0 k a0 (decide (a0≤57))) else (bK.j0 k a0 false)
def fP.l0:Nat→ByteArray→Int→Int→Option (Int)
 |0,_,_,_=>none
 |k + 1,x0,x1,x5=>if x5 < (x0.size:Int) then (if 0≤x5 then ((bK.f k (bt x0 x5)).bind fun t933=>(if 0≤x1 then (if x1 < (x0.size:Int) then ((bK.f k (bt x0 x1)).bind fun t934=>(if t933=t934 then (fP.l0 k x0 x1 (wrap64 (x5 + 1))) else (some x5))) else (none)) else (none))) else (none)) else (some x5)
def fP.f (k:Nat) (a0:ByteArray) (a1:Int):Option (Int):=fP.l0 k a0 a1 a1
def uS.f (a0:ByteArray):Option (Bool):=if a0.toList=([60,60]:List UInt8) then (some true) else (if a0.toList=([62,62]:List UInt8) then (some true) else (some (a0.toList == ([61,61]:List UInt8))))
mutual
def eD.j0:Nat→ByteArray→Int→Int→Bool→Option (Int)
 |0,_,_,_,_=>none
 |k + 1,x0,x1,x5,x15=>if x15=true then ((fP.f k x0 x1).bind fun t936=>(some t936)) else (if x5=4 then (if (wrap64 (x1 + 2))≤(x0.size:Int) then (if 0≤x1 then (if x1≤(wrap64 (x1 + 2)) then ((uS.f (x0.extract (x1:Int).toNat ((wrap64 (x1 + 2)):Int).toNat)).bind fun t937=>(eD.j1 k x0 x1 t937)) else (none)) else (none)) else (eD.j1 k x0 x1 false)) else (some (-1)))
def eD.j1:Nat→ByteArray→Int→Bool→Option (Int)
 |0,_,_,_=>none
 |k + 1,x0,x1,x33=>if x33=true then (some (wrap64 (x1 + 2))) else (if 0≤x1 then (if x1 < (x0.size:Int) then (if (bt x0 x1)=62 then (some (-1)) else (some (wrap64 (x1 + 1)))) else (none)) else (none))
end
def eD.f (k:Nat) (a0:ByteArray) (a1:Int):Option (Int):=if 0≤a1 then (if a1 < (a0.size:Int) then ((bK.f k (bt a0 a1)).bind fun t935=>(if t935=1 then (eD.j0 k a0 a1 t935 true) else (eD.j0 k a0 a1 t935 (t935 == 2)))) else (none)) else (none)
def gK.f (k:Nat) (a0:ByteArray):Option (Bool):=if a0.toList=([]:List UInt8) then (some false) else ((eD.f k a0 0).bind fun t938=>(some (t938 == (a0.size:Int))))
def dI.l0:Nat→List ByteArray→ByteArray→Int→Option (ByteArray)
 |0,_,_,_=>none
 |k + 1,x0,x3,x4=>if x4 < (x0.length:Int) then (if 0≤x4 then ((gK.f k (nL ByteArray.empty x0 x4)).bind fun t940=>(if t940=true then (if x4 > 0 then (if x3.size + 1≤9223372036854775807 then (if (x3 ++ (⟨#[32]⟩:ByteArray)).size + (nL ByteArray.empty x0 x4).size≤9223372036854775807 then (dI.l0 k x0 ((x3 ++ (⟨#[32]⟩:ByteArray)) ++ (nL ByteArray.empty x0 x4)) (wrap64 (x4 + 1))) else (none)) else (none)) else (if x3.size + (nL ByteArray.empty x0 x4).size≤9223372036854775807 then (dI.l0 k x0 (x3 ++ (nL ByteArray.empty x0 x4)) (wrap64 (x4 + 1))) else (none))) else (some (⟨#[]⟩:ByteArray)))) else (none)) else (some x3)
def dI.f (k:Nat) (l0:List ByteArray):Option (ByteArray):=dI.l0 k l0 (⟨#[]⟩:ByteArray) 0
mutual
def bB.l0:Nat→List ByteArray→Int→List Int→List (List (S58))→Option (ByteArray)
 |0,_,_,_,_=>none
 |k + 1,x3,x4,x944000,x944001=>if x4 < (x944000.length:Int) then (if 0≤x4 then ((dX.f k (rd x944000 x4)).bind fun t949=>((some (([(⟨#[98,111,120]⟩:ByteArray),t949,(⟨#[59]⟩:ByteArray)]:List ByteArray):List ByteArray)).bind fun y950=>(if x3.length + y950.length < 8796093022208 then (bB.l0 k (x3 ++ y950) (wrap64 (x4 + 1)) x944000 x944001) else (none)))) else (none)) else (bB.l1 k x3 0 x944000 x944001)
def bB.l1:Nat→List ByteArray→Int→List Int→List (List (S58))→Option (ByteArray)
 |0,_,_,_,_=>none
 |k + 1,x3,x5,x944000,x944001=>if x5 < (x944001.length:Int) then (if x3.length < 8796093022208 then ((some (x3 ++ [(⟨#[116,97,115,107]⟩:ByteArray)]:List ByteArray)).bind fun y956=>(if 0≤x5 then ((bL.f k (fJ x944001 x5)).bind fun t960=>(if y956.length + t960.length < 8796093022208 then (bB.l1 k (y956 ++ t960) (wrap64 (x5 + 1)) x944000 x944001) else (none))) else (none))) else (none)) else ((dI.f k x3).bind fun t966=>(some t966))
end
def bB.f (k:Nat) (l0_0:List Int) (l0_1:List (List (S58))):Option (ByteArray):=(aX.f k l0_0 l0_1).bind fun t944=>(if t944=true then (bB.l0 k (([]:List ByteArray)) 0 l0_0 l0_1) else (some (⟨#[]⟩:ByteArray)))
mutual
def dH.l0:Nat→ByteArray→List ByteArray→Int→Option (List ByteArray × Bool)
 |0,_,_,_=>none
 |k + 1,x0,x4,x5=>if x5 < (x0.size:Int) then (if 0≤x5 then (if (bt x0 x5)=32 then (dH.j1 k x0 x4 x5 true) else (dH.j1 k x0 x4 x5 ((bt x0 x5) == 10))) else (none)) else (some (x4,true))
def dH.j1:Nat→ByteArray→List ByteArray→Int→Bool→Option (List ByteArray × Bool)
 |0,_,_,_,_=>none
 |k + 1,x0,x4,x5,x23=>if x23=true then (dH.l0 k x0 x4 (wrap64 (x5 + 1))) else (if 0≤x5 then (if x5≤(x0.size:Int) then ((aV.f k (x0.extract (x5:Int).toNat x0.size)).bind fun t967=>(if t967=0 then (some (([]:List ByteArray),false)) else (if x5≤(wrap64 (x5 + t967)) then (if (wrap64 (x5 + t967))≤(x0.size:Int) then (if x4.length < 8796093022208 then (dH.l0 k x0 (x4 ++ [x0.extract (x5:Int).toNat ((wrap64 (x5 + t967)):Int).toNat]) (wrap64 (x5 + t967))) else (none)) else (none)) else (none)))) else (none)) else (none))
end
def dH.f (k:Nat) (a0:ByteArray):Option (List ByteArray × Bool):=if (a0.size:Int) > 20000 then (some (([]:List ByteArray),false)) else (dH.l0 k a0 ([]:List ByteArray) 0)
mutual
def bF.l0:Nat→List (S58)→Int→Int→Int→Option (Int)
 |0,_,_,_,_=>none
 |k + 1,x0,x1,x5,x6=>if x6 < (x0.length:Int) then (if 0≤x6 then (if ((aH x0 x6).f0)=x1 then ((bF.f k ((aH x0 x6).f4) x1).bind fun t973=>((bF.f k ((aH x0 x6).f5) x1).bind fun t975=>(bF.l0 k x0 x1 (wrap64 ((wrap64 ((wrap64 (x5 + 1)) + t973)) + t975)) (wrap64 (x6 + 1))))) else ((bF.f k ((aH x0 x6).f4) x1).bind fun t977=>((bF.f k ((aH x0 x6).f5) x1).bind fun t979=>(bF.l0 k x0 x1 (wrap64 ((wrap64 (x5 + t977)) + t979)) (wrap64 (x6 + 1)))))) else (none)) else (some x5)
def bF.f:Nat→List (S58)→Int→Option (Int)
 |0,_,_=>none
 |k + 1,l0,a1=>bF.l0 k l0 a1 0 0
end
def bX.l0:Nat→List ByteArray→ByteArray→Int→Int→Option (Int)
 |0,_,_,_,_=>none
 |k + 1,x0,x1,x5,x6=>if x6 < (x0.length:Int) then (if 0≤x6 then (if (nL ByteArray.empty x0 x6).toList=x1.toList then (bX.l0 k x0 x1 (wrap64 (x5 + 1)) (wrap64 (x6 + 1))) else (bX.l0 k x0 x1 x5 (wrap64 (x6 + 1)))) else (none)) else (some x5)
def bX.f (k:Nat) (l0:List ByteArray) (a1:ByteArray):Option (Int):=bX.l0 k l0 a1 0 0
mutual
def bE.j0:Nat→ByteArray→ByteArray→Bool→List Int→List (List (S58))→Option (Bool)
 |0,_,_,_,_,_=>none
 |k + 1,x4,x5,x27,x988000,x988001=>if x27=true then (some (x4.toList == x5.toList)) else ((dH.f k x4).bind fun bt990=>(bE.l0 k bt990.1 bt990.2 0 0 0 0 x988000 x988001))
def bE.l0:Nat→List ByteArray→Bool→Int→Int→Int→Int→List Int→List (List (S58))→Option (Bool)
 |0,_,_,_,_,_,_,_,_=>none
 |k + 1,x6,x7,x8,x9,x10,x11,x988000,x988001=>if x11 < (x988001.length:Int) then (if 0≤x11 then ((bF.f k (fJ x988001 x11) 3).bind fun t995=>((bF.f k (fJ x988001 x11) 4).bind fun t997=>((bF.f k (fJ x988001 x11) 6).bind fun t999=>(bE.l0 k x6 x7 (wrap64 (x8 + t995)) (wrap64 (x9 + t997)) (wrap64 (x10 + t999)) (wrap64 (x11 + 1)) x988000 x988001)))) else (none)) else (if x7=true then ((bX.f k x6 (⟨#[119,104,105,108,101]⟩:ByteArray)).bind fun t1000=>(if t1000=x8 then ((bX.f k x6 (⟨#[115,101,110,100]⟩:ByteArray)).bind fun t1001=>(if t1001=x9 then ((bX.f k x6 (⟨#[121,105,101,108,100]⟩:ByteArray)).bind fun t1002=>(some (t1002 == x10))) else (some false))) else (some false))) else (some false))
end
def bE.f (k:Nat) (l0:List Int):Option (Bool):=if (l0.length:Int) > 1048576 then (some true) else ((fD.f k l0).bind fun bt981=>((bC.f k bt981.1 bt981.2).bind fun t988=>((bB.f k bt981.1 bt981.2).bind fun t989=>(if t988.toList=t989.toList then (bE.j0 k t988 t989 (t988.toList == ([]:List UInt8)) bt981.1 bt981.2) else (bE.j0 k t988 t989 true bt981.1 bt981.2)))))
def RZ.f (l0:List Int) (a1:Int):Option (Int):=if (wrap64 (a1 - (l0.length:Int))) < 0 then (some (-1)) else (some (wrap64 (a1 - (l0.length:Int))))
mutual
def tX.l0:Nat→List (ED)→Int→Int→Option (Int)
 |0,_,_,_=>none
 |k + 1,x0,x1,x5=>if x5 < (x0.length:Int) then (if 0≤x5 then ((FW.f k ((yR x0 x5).f0) ((yR x0 x5).f1) ((yR x0 x5).f2) x1).bind fun t1004=>(if t1004 < 0 then (some (-1)) else (tX.l0 k x0 t1004 (wrap64 (x5 + 1))))) else (none)) else (some x1)
def tX.f:Nat→List (ED)→Int→Option (Int)
 |0,_,_=>none
 |k + 1,l0,a1=>if (wrap64 (a1 - (l0.length:Int))) < 0 then (some (-1)) else (tX.l0 k l0 (wrap64 (a1 - (l0.length:Int))) 0)
def FW.f:Nat→Int→Int→List (ED)→Int→Option (Int)
 |0,_,_,_,_=>none
 |k + 1,a0_0,a0_1,l0_2,a1=>(tX.f k l0_2 a1).bind fun t1006=>(if t1006 < 0 then (some (-1)) else (some t1006))
end
mutual
def SA.f:Nat→Int→Int→Int→Int→Int→List (ED)→List (tQ)→List (tQ)→Int→Option (Int)
 |0,_,_,_,_,_,_,_,_,_=>none
 |k + 1,a0_0,a0_1,a0_2,a0_3,a0_4,l0_5,l0_6,l0_7,a1=>(FW.f k a0_3 a0_4 l0_5 a1).bind fun t1008=>(if t1008 < 0 then (some (-1)) else ((oN.f k l0_6 t1008).bind fun t1009=>(if t1009 < 0 then (some (-1)) else ((oN.f k l0_7 t1009).bind fun t1010=>(if t1010 < 0 then (some (-1)) else (some t1010))))))
def oN.l0:Nat→List (tQ)→Int→Int→Option (Int)
 |0,_,_,_=>none
 |k + 1,x0,x1,x5=>if x5 < (x0.length:Int) then (if 0≤x5 then ((SA.f k ((tZ x0 x5).f0) ((tZ x0 x5).f1) ((tZ x0 x5).f2) ((tZ x0 x5).f3.f0) ((tZ x0 x5).f3.f1) ((tZ x0 x5).f3.f2) ((tZ x0 x5).f4) ((tZ x0 x5).f5) x1).bind fun t1012=>(if t1012 < 0 then (some (-1)) else (oN.l0 k x0 t1012 (wrap64 (x5 + 1))))) else (none)) else (some x1)
def oN.f:Nat→List (tQ)→Int→Option (Int)
 |0,_,_=>none
 |k + 1,l0,a1=>if (wrap64 (a1 - (l0.length:Int))) < 0 then (some (-1)) else (oN.l0 k l0 (wrap64 (a1 - (l0.length:Int))) 0)
end
def sO.l0:Nat→List (List (tQ))→Int→Int→Option (Int)
 |0,_,_,_=>none
 |k + 1,x0,x1,x5=>if x5 < (x0.length:Int) then (if 0≤x5 then ((oN.f k (aGg x0 x5) x1).bind fun t1014=>(if t1014 < 0 then (some (-1)) else (sO.l0 k x0 t1014 (wrap64 (x5 + 1))))) else (none)) else (some x1)
def sO.f (k:Nat) (l0:List (List (tQ))) (a1:Int):Option (Int):=if (wrap64 (a1 - (l0.length:Int))) < 0 then (some (-1)) else (sO.l0 k l0 (wrap64 (a1 - (l0.length:Int))) 0)
def KU.f (k:Nat) (l0_0:List Int) (l0_1:List (List (tQ))) (a1:Int):Option (Int):=(RZ.f l0_0 a1).bind fun t1016=>(if t1016 < 0 then (some (-1)) else ((sO.f k l0_1 t1016).bind fun t1017=>(if t1017 < 0 then (some (-1)) else (some t1017))))
def vJ.l0:Nat→List Int→List Int→Int→Option (List Int)
 |0,_,_,_=>none
 |k + 1,x0,x3,x4=>if x4 < (x0.length:Int) then (if 0≤x4 then (if x4 < (x3.length:Int) then (vJ.l0 k x0 (x3.set (x4:Int).toNat (rd x0 x4)) (wrap64 (x4 + 1))) else (none)) else (none)) else (some x3)
def vJ.f (k:Nat) (l0:List Int):Option (List Int):=if 0≤(l0.length:Int) then (if ((l0.length:Int):Int).toNat≤35184372088832 then (vJ.l0 k l0 (List.replicate ((l0.length:Int):Int).toNat 0) 0) else (none)) else (none)
mutual
def tY.l0:Nat→List (ED)→List (S56)→Int→Option ((List (S56)))
 |0,_,_,_=>none
 |k + 1,x0,x3,x4=>if x4 < (x0.length:Int) then (if 0≤x4 then ((FX.f k ((yR x0 x4).f0) ((yR x0 x4).f1) ((yR x0 x4).f2)).bind fun bt1027=>(if x4 < (x3.length:Int) then (tY.l0 k x0 (x3.set (x4:Int).toNat (⟨bt1027.1,bt1027.2.1,bt1027.2.2⟩:S56)) (wrap64 (x4 + 1))) else (none))) else (none)) else (some x3)
def tY.f:Nat→List (ED)→Option ((List (S56)))
 |0,_=>none
 |k + 1,l0=>if 0≤(l0.length:Int) then (if ((l0.length:Int):Int).toNat≤7036874417766 then (tY.l0 k l0 (List.replicate ((l0.length:Int):Int).toNat z56) 0) else (none)) else (none)
def FX.f:Nat→Int→Int→List (ED)→Option (Int × Int × (List (S56)))
 |0,_,_,_=>none
 |k + 1,a0_0,a0_1,l0_2=>(tY.f k l0_2).bind fun t1036=>(some (a0_0,a0_1,t1036))
end
mutual
def oO.l0:Nat→List tQ→List S58→Int→Option (List S58)
 |0,_,_,_=>none
 |k + 1,x0,x3,x4=>if x4 < (x0.length:Int) then (if 0≤x4 then ((SB.f k (tZ x0 x4)).bind fun s=>(if x4 < (x3.length:Int) then oO.l0 k x0 (x3.set (x4:Int).toNat s) (wrap64 (x4 + 1)) else none)) else none) else some x3
def oO.f:Nat→List tQ→Option (List S58)
 |0,_=>none
 |k + 1,l0=>if l0.length≤2513169434916 then oO.l0 k l0 (List.replicate l0.length z58) 0 else none
def SB.f:Nat→tQ→Option S58
 |0,_=>none
 |k + 1,s=>(FX.f k s.f3.f0 s.f3.f1 s.f3.f2).bind fun e=>(oO.f k s.f4).bind fun b=>(oO.f k s.f5).bind fun c=>some ⟨s.f0,s.f1,s.f2,⟨e.1,e.2.1,e.2.2⟩,b,c⟩
end
def sP.l0:Nat→List (List (tQ))→List (List (S58))→Int→Option ((List (List (S58))))
 |0,_,_,_=>none
 |k + 1,x0,x3,x4=>if x4 < (x0.length:Int) then (if 0≤x4 then ((oO.f k (aGg x0 x4)).bind fun t1043=>(if x4 < (x3.length:Int) then (sP.l0 k x0 (x3.set (x4:Int).toNat t1043) (wrap64 (x4 + 1))) else (none))) else (none)) else (some x3)
def sP.f (k:Nat) (l0:List (List (tQ))):Option ((List (List (S58)))):=if 0≤(l0.length:Int) then (if ((l0.length:Int):Int).toNat≤11728124029610 then (sP.l0 k l0 (List.replicate ((l0.length:Int):Int).toNat []) 0) else (none)) else (none)
def uN.f (k:Nat) (l0_0:List Int) (l0_1:List (List (tQ))):Option (List Int × (List (List (S58)))):=(vJ.f k l0_0).bind fun t1050=>((sP.f k l0_1).bind fun t1053=>(some (t1050,t1053)))
def vI.l0:Nat→List Int→List Int→Int→Option (Bool)
 |0,_,_,_=>none
 |k + 1,x0,x1,x5=>if x5 < (x0.length:Int) then (if 0≤x5 then (if x5 < (x1.length:Int) then (if (rd x0 x5)=(rd x1 x5) then (vI.l0 k x0 x1 (wrap64 (x5 + 1))) else (some false)) else (none)) else (none)) else (some true)
def vI.f (k:Nat) (l0:List Int) (l1:List Int):Option (Bool):=if (l0.length:Int)=(l1.length:Int) then (vI.l0 k l0 l1 0) else (some false)
mutual
def tV.l0:Nat→List (S56)→List (S56)→Int→Option (Bool)
 |0,_,_,_=>none
 |k + 1,x0,x1,x5=>if x5 < (x0.length:Int) then (if 0≤x5 then (if x5 < (x1.length:Int) then ((FV.f k ((bW x0 x5).f0) ((bW x0 x5).f1) ((bW x0 x5).f2) ((bW x1 x5).f0) ((bW x1 x5).f1) ((bW x1 x5).f2)).bind fun t1060=>(if t1060=true then (tV.l0 k x0 x1 (wrap64 (x5 + 1))) else (some false))) else (none)) else (none)) else (some true)
def tV.f:Nat→List (S56)→List (S56)→Option (Bool)
 |0,_,_=>none
 |k + 1,l0,l1=>if (l0.length:Int)=(l1.length:Int) then (tV.l0 k l0 l1 0) else (some false)
def FV.f:Nat→Int→Int→List (S56)→Int→Int→List (S56)→Option (Bool)
 |0,_,_,_,_,_,_=>none
 |k + 1,a0_0,a0_1,l0_2,a1_0,a1_1,l1_2=>if a0_0=a1_0 then (if a0_1=a1_1 then ((tV.f k l0_2 l1_2).bind fun t1063=>(if t1063=true then (some true) else (some false))) else (some false)) else (some false)
end
mutual
def RY.f:Nat→Int→Int→Int→Int→Int→List (S56)→List (S58)→List (S58)→Int→Int→Int→Int→Int→List (S56)→List (S58)→List (S58)→Option (Bool)
 |0,_,_,_,_,_,_,_,_,_,_,_,_,_,_,_,_=>none
 |k + 1,a0_0,a0_1,a0_2,a0_3,a0_4,l0_5,l0_6,l0_7,a1_0,a1_1,a1_2,a1_3,a1_4,l1_5,l1_6,l1_7=>if a0_0=a1_0 then (if a0_1=a1_1 then (if a0_2=a1_2 then ((FV.f k a0_3 a0_4 l0_5 a1_3 a1_4 l1_5).bind fun t1066=>(if t1066=true then ((oM.f k l0_6 l1_6).bind fun t1067=>(if t1067=true then ((oM.f k l0_7 l1_7).bind fun t1068=>(if t1068=true then (some true) else (some false))) else (some false))) else (some false))) else (some false)) else (some false)) else (some false)
def oM.l0:Nat→List (S58)→List (S58)→Int→Option (Bool)
 |0,_,_,_=>none
 |k + 1,x0,x1,x5=>if x5 < (x0.length:Int) then (if 0≤x5 then (if x5 < (x1.length:Int) then ((RY.f k ((aH x0 x5).f0) ((aH x0 x5).f1) ((aH x0 x5).f2) ((aH x0 x5).f3.f0) ((aH x0 x5).f3.f1) ((aH x0 x5).f3.f2) ((aH x0 x5).f4) ((aH x0 x5).f5) ((aH x1 x5).f0) ((aH x1 x5).f1) ((aH x1 x5).f2) ((aH x1 x5).f3.f0) ((aH x1 x5).f3.f1) ((aH x1 x5).f3.f2) ((aH x1 x5).f4) ((aH x1 x5).f5)).bind fun t1071=>(if t1071=true then (oM.l0 k x0 x1 (wrap64 (x5 + 1))) else (some false))) else (none)) else (none)) else (some true)
def oM.f:Nat→List (S58)→List (S58)→Option (Bool)
 |0,_,_=>none
 |k + 1,l0,l1=>if (l0.length:Int)=(l1.length:Int) then (oM.l0 k l0 l1 0) else (some false)
end
def sN.l0:Nat→List (List (S58))→List (List (S58))→Int→Option (Bool)
 |0,_,_,_=>none
 |k + 1,x0,x1,x5=>if x5 < (x0.length:Int) then (if 0≤x5 then (if x5 < (x1.length:Int) then ((oM.f k (fJ x0 x5) (fJ x1 x5)).bind fun t1074=>(if t1074=true then (sN.l0 k x0 x1 (wrap64 (x5 + 1))) else (some false))) else (none)) else (none)) else (some true)
def sN.f (k:Nat) (l0:List (List (S58))) (l1:List (List (S58))):Option (Bool):=if (l0.length:Int)=(l1.length:Int) then (sN.l0 k l0 l1 0) else (some false)
def KT.f (k:Nat) (l0_0:List Int) (l0_1:List (List (S58))) (aDi:List Int) (l1_1:List (List (S58))):Option (Bool):=(vI.f k l0_0 aDi).bind fun t1077=>(if t1077=true then ((sN.f k l0_1 l1_1).bind fun t1078=>(if t1078=true then (some true) else (some false))) else (some false))
def NR.f (k:Nat) (l0_0:List Int) (l0_1:List (List (tQ))):Option (Bool):=(KU.f k l0_0 l0_1 1048576).bind fun t1080=>(if t1080 < 0 then (some true) else ((uN.f k l0_0 l0_1).bind fun bt1081=>((bB.f k bt1081.1 bt1081.2).bind fun t1087=>((uN.f k l0_0 l0_1).bind fun bt1088=>((bC.f k bt1088.1 bt1088.2).bind fun t1095=>(if t1095.toList=t1087.toList then ((uN.f k l0_0 l0_1).bind fun bt1096=>((KT.f k bt1088.1 bt1088.2 bt1096.1 bt1096.2).bind fun t1102=>(if t1102=true then (some true) else (some false)))) else (some false)))))))
def yA.f (l0:List Int):Option (List Int):=(some (([]:List Int):List Int)).bind fun y1103=>(if y1103.length + l0.length < 17592186044416 then (some (y1103 ++ l0)) else (none))
def KM.f (a0:Bool):Option (Int):=if a0=true then (some 1) else (some 0)
def vX.f (a0:Int):Option (Int):=some (wrap64 (wrap32 (a0)))
def WG.f (a0:Int) (a1:Int) (a2:Int):Option (Int):=if a0=1 then (some (Go.bits .or .i64 a1 a2)) else (if a0=2 then (some (Go.bits .xor .i64 a1 a2)) else (if a0=3 then (some (Go.bits .and .i64 a1 a2)) else (if a0=4 then ((KM.f (a1 == a2)).bind fun t1109=>(some t1109)) else (if a0=5 then ((KM.f (decide (a1 < a2))).bind fun t1110=>(some t1110)) else (if a0=6 then (if 0≤(Go.bits .and .i64 a2 31) then ((vX.f (shl .i64 a1 (Go.bits .and .i64 a2 31))).bind fun t1111=>(some t1111)) else (none)) else (if a0=7 then (if 0≤(Go.bits .and .i64 a2 31) then (some (shr .i64 a1 (Go.bits .and .i64 a2 31))) else (none)) else (if a0=8 then ((vX.f (wrap64 (a1 + a2))).bind fun t1112=>(some t1112)) else (if a0=9 then ((vX.f (wrap64 (a1 - a2))).bind fun t1113=>(some t1113)) else (if a0=10 then ((vX.f (wrap64 (a1 * a2))).bind fun t1114=>(some t1114)) else (if a0=11 then (if a2=0 then (some (-1)) else ((vX.f (wrap64 (Int.tdiv a1 a2))).bind fun t1115=>(some t1115))) else (if a2=0 then (some a1) else (some (Int.tmod a1 a2)))))))))))))
mutual
def nX.j0:Nat→Bool→Int→Int→List (S56)→Int→Int→List (S56)→Int→Int→List (S56)→Option (Int × Int × (List (S56)))
 |0,_,_,_,_,_,_,_,_,_,_=>none
 |k + 1,x32,x1117000,x1117001,x1117002,x1131000,x1131001,x1131002,x1132000,x1132001,x1132002=>if x32=true then ((WG.f x1117000 x1131001 x1132001).bind fun t1132=>(if t1132≥0 then (if t1132≤99999 then (some (0,t1132,([]:List (S56)))) else (some (x1117000,0,(([(⟨x1131000,x1131001,x1131002⟩:S56),(⟨x1132000,x1132001,x1132002⟩:S56)]:List (S56)))))) else (some (x1117000,0,(([(⟨x1131000,x1131001,x1131002⟩:S56),(⟨x1132000,x1132001,x1132002⟩:S56)]:List (S56))))))) else (some (x1117000,0,(([(⟨x1131000,x1131001,x1131002⟩:S56),(⟨x1132000,x1132001,x1132002⟩:S56)]:List (S56)))))
def nX.f:Nat→Int→Int→List (S56)→Option (Int × Int × (List (S56)))
 |0,_,_,_=>none
 |k + 1,a0_0,a0_1,l0_2=>if (l0_2.length:Int)=0 then (some (a0_0,a0_1,([]:List (S56)))) else (if 0 < (l0_2.length:Int) then ((nX.f k ((bW l0_2 0).f0) ((bW l0_2 0).f1) ((bW l0_2 0).f2)).bind fun bt1119=>(if 1 < (l0_2.length:Int) then ((nX.f k ((bW l0_2 1).f0) ((bW l0_2 1).f1) ((bW l0_2 1).f2)).bind fun bt1125=>(if bt1119.1=0 then (nX.j0 k (bt1125.1 == 0) a0_0 a0_1 l0_2 bt1119.1 bt1119.2.1 bt1119.2.2 bt1125.1 bt1125.2.1 bt1125.2.2) else (nX.j0 k false a0_0 a0_1 l0_2 bt1119.1 bt1119.2.1 bt1119.2.2 bt1125.1 bt1125.2.1 bt1125.2.2))) else (none))) else (none))
end
mutual
def fT.l0:Nat→List (S58)→List (S58)→Int→Int→Option ((List (S58)))
 |0,_,_,_,_=>none
 |k + 1,x3,x7,x8,x9=>if x9 < x8 then (if 0≤x9 then (if x9 < (x7.length:Int) then ((fT.f k ((aH x7 x9).f4)).bind fun t1144=>((fT.f k ((aH x7 x9).f5)).bind fun t1147=>((nX.f k ((aH x7 x9).f3.f0) ((aH x7 x9).f3.f1) ((aH x7 x9).f3.f2)).bind fun bt1150=>(if ((aH x7 x9).f0)=2 then (if bt1150.1=0 then (fT.j1 k x3 (bt1150.1 == 0) x7 x8 x9 (bt1150.2.1 != 0) ((aH x7 x9).f0) ((aH x7 x9).f1) ((aH x7 x9).f2) bt1150.1 bt1150.2.1 bt1150.2.2 t1144 t1147) else (fT.j1 k x3 (bt1150.1 == 0) x7 x8 x9 false ((aH x7 x9).f0) ((aH x7 x9).f1) ((aH x7 x9).f2) bt1150.1 bt1150.2.1 bt1150.2.2 t1144 t1147)) else (fT.j1 k x3 (bt1150.1 == 0) x7 x8 x9 false ((aH x7 x9).f0) ((aH x7 x9).f1) ((aH x7 x9).f2) bt1150.1 bt1150.2.1 bt1150.2.2 t1144 t1147))))) else (none)) else (none)) else (some x3)
def fT.j1:Nat→List (S58)→Bool→List (S58)→Int→Int→Bool→Int→Int→Int→Int→Int→List (S56)→List (S58)→List (S58)→Option ((List (S58)))
 |0,_,_,_,_,_,_,_,_,_,_,_,_,_,_=>none
 |k + 1,x3,x6,x7,x8,x9,x33,x1144000,x1144001,x1144002,x1144003,x1144004,x1144005,x1144006,x1144007=>if x33=true then (if x3.length + x1144006.length < 1256584717458 then (fT.l0 k (x3 ++ x1144006) x7 x8 (wrap64 (x9 + 1))) else (none)) else (if x1144000=2 then (fT.j2 k x3 x6 x7 x8 x9 x6 x1144000 x1144001 x1144002 x1144003 x1144004 x1144005 x1144006 x1144007) else (fT.j2 k x3 x6 x7 x8 x9 false x1144000 x1144001 x1144002 x1144003 x1144004 x1144005 x1144006 x1144007))
def fT.j2:Nat→List (S58)→Bool→List (S58)→Int→Int→Bool→Int→Int→Int→Int→Int→List (S56)→List (S58)→List (S58)→Option ((List (S58)))
 |0,_,_,_,_,_,_,_,_,_,_,_,_,_,_=>none
 |k + 1,x3,x6,x7,x8,x9,x50,x1144000,x1144001,x1144002,x1144003,x1144004,x1144005,x1144006,x1144007=>if x50=true then (if x3.length + x1144007.length < 1256584717458 then (fT.l0 k (x3 ++ x1144007) x7 x8 (wrap64 (x9 + 1))) else (none)) else (if x1144000=3 then (if x6=true then (if x1144004=0 then (fT.l0 k x3 x7 x8 (wrap64 (x9 + 1))) else (if x3.length < 1256584717458 then (fT.l0 k (x3 ++ [(⟨x1144000,x1144001,x1144002,(⟨x1144003,x1144004,x1144005⟩:S56),x1144006,x1144007⟩:S58)]) x7 x8 (wrap64 (x9 + 1))) else (none))) else (if x3.length < 1256584717458 then (fT.l0 k (x3 ++ [(⟨x1144000,x1144001,x1144002,(⟨x1144003,x1144004,x1144005⟩:S56),x1144006,x1144007⟩:S58)]) x7 x8 (wrap64 (x9 + 1))) else (none))) else (if x3.length < 1256584717458 then (fT.l0 k (x3 ++ [(⟨x1144000,x1144001,x1144002,(⟨x1144003,x1144004,x1144005⟩:S56),x1144006,x1144007⟩:S58)]) x7 x8 (wrap64 (x9 + 1))) else (none)))
def fT.f:Nat→List (S58)→Option ((List (S58)))
 |0,_=>none
 |k + 1,l0=>fT.l0 k ([]:List (S58)) l0 (l0.length:Int) 0
end
def oJ.l0:Nat→List (List (S58))→Int→Int→List Int→List (List (S58))→Option (List Int × (List (List (S58))) × Bool)
 |0,_,_,_,_,_=>none
 |k + 1,x16,x17,x18,x1177000,x1177001=>if x18 < x17 then (if 0≤x18 then (if x18 < (x16.length:Int) then ((fT.f k (fJ x16 x18)).bind fun t1178=>(if x1177001.length < 5864062014805 then (oJ.l0 k x16 x17 (wrap64 (x18 + 1)) x1177000 (x1177001 ++ [t1178])) else (none))) else (none)) else (none)) else (some (x1177000,x1177001,true))
def oJ.f (k:Nat) (l0_0:List Int) (l0_1:List (List (S58))):Option (List Int × (List (List (S58))) × Bool):=(bG.f k l0_0 l0_1).bind fun t1172=>(if t1172=true then ((yA.f l0_0).bind fun t1173=>(oJ.l0 k l0_1 (l0_1.length:Int) 0 t1173 ([]:List (List (S58))))) else (some (([]:List Int),([]:List (List (S58))),false)))
def rT.j0:Nat→ByteArray→ByteArray→Bool→List Int→List (List (S58))→Option (Bool)
 |0,_,_,_,_,_=>none
 |k + 1,x4,x5,x24,x1191000,x1191001=>if x24=true then (some (x4.toList == x5.toList)) else ((oJ.f k x1191000 x1191001).bind fun bt1193=>((bC.f k bt1193.1 bt1193.2.1).bind fun t1201=>(if bt1193.2.2=true then (if t1201.toList=([]:List UInt8) then (some false) else (some (decide ((t1201.size:Int)≤(x4.size:Int))))) else (some false))))
def rT.f (k:Nat) (l0:List Int):Option (Bool):=if (l0.length:Int) > 1048576 then (some true) else ((fD.f k l0).bind fun bt1184=>((bC.f k bt1184.1 bt1184.2).bind fun t1191=>((bB.f k bt1184.1 bt1184.2).bind fun t1192=>(if t1191.toList=t1192.toList then (rT.j0 k t1191 t1192 (t1191.toList == ([]:List UInt8)) bt1184.1 bt1184.2) else (rT.j0 k t1191 t1192 true bt1184.1 bt1184.2)))))
def pQ.j0:Nat→ByteArray→ByteArray→Bool→List Int→List (List (S58))→Option (Bool)
 |0,_,_,_,_,_=>none
 |k + 1,x4,x5,x23,x1209000,x1209001=>if x23=true then (some (x4.toList == x5.toList)) else ((dH.f k x4).bind fun bt1211=>(if bt1211.2=true then ((bX.f k bt1211.1 (⟨#[116,97,115,107]⟩:ByteArray)).bind fun t1215=>(if t1215=(x1209001.length:Int) then ((bX.f k bt1211.1 (⟨#[98,111,120]⟩:ByteArray)).bind fun t1216=>(if t1216=(x1209000.length:Int) then ((bX.f k bt1211.1 (⟨#[123]⟩:ByteArray)).bind fun t1217=>((bX.f k bt1211.1 (⟨#[125]⟩:ByteArray)).bind fun t1218=>(some (t1217 == t1218)))) else (some false))) else (some false))) else (some false)))
def pQ.f (k:Nat) (l0:List Int):Option (Bool):=if (l0.length:Int) > 1048576 then (some true) else ((fD.f k l0).bind fun bt1202=>((bC.f k bt1202.1 bt1202.2).bind fun t1209=>((bB.f k bt1202.1 bt1202.2).bind fun t1210=>(if t1209.toList=t1210.toList then (pQ.j0 k t1209 t1210 (t1209.toList == ([]:List UInt8)) bt1202.1 bt1202.2) else (pQ.j0 k t1209 t1210 true bt1202.1 bt1202.2)))))
def aI (w0 W:World) (g:Nat) (f0:List Int) (f1:Int):Prop:=∃ A0 c0,W.heap[g]?=some (.cells #[.slice A0 f0.length c0, .int .i64 f1] 69 (0,0))∧w0.heap.size≤g∧Kd.C (Kd.int .u8) w0 A0 f0.length f0
theorem aI.grown {w0 W:World} {g:Nat} {f0:List Int} {f1:Int} {W1:World} {row:Option Nat} (h:aI w0 W g f0 f1) (hw:W.grownBy W1 row) (hne:some g≠row):aI w0 W1 g f0 f1:=by
 obtain ⟨A0,c0,hb,hg,hr0⟩:=h
 exact ⟨A0,c0,dZ hb hw hne,hg,hr0⟩
theorem aI.DJ {w0 W:World} {g:Nat} {f0:List Int} {f1:Int} {α:Type} {d:Kd α} {e:Nat} {base:Nat} {ok:Nat→Prop} {v:Value} {xs:List α} (h:aI w0 W g f0 f1) (ho:Kd.N d e W base ok v xs) (ht:e≠69):some g≠v.ownBlock:=by
 obtain ⟨A0,c0,hb,hg,hr0⟩:=h
 exact Kd.TK ho hb ht
theorem aI.fresh {w0 W:World} {g:Nat} {f0:List Int} {f1:Int} (h:aI w0 W g f0 f1):∀ k,W.heap.size≤k→k≠g:=by
 obtain ⟨A0,c0,hb,hg,hr0⟩:=h
 exact Kd.aDd hb
theorem aI.kept {w0 W:World} {g:Nat} {f0:List Int} {f1:Int} {W1:World} {S:Nat→Prop} (h:aI w0 W g f0 f1) (hk:Kept W W1 S) (hne:¬ S g):aI w0 W1 g f0 f1:=by
 obtain ⟨A0,c0,hb,hg,hr0⟩:=h
 exact ⟨A0,c0,kL hb hk hne,hg,hr0⟩
theorem aI.below {w0 W:World} {g:Nat} {f0:List Int} {f1:Int} {W1:World} (h:aI w0 W g f0 f1) (hw:Below W.heap.size W W1):aI w0 W1 g f0 f1:=h.grown (xP hw none) (by simp)
theorem aI.alloc {w0 W:World} {g:Nat} {f0:List Int} {f1:Int} (h:aI w0 W g f0 f1) (o:Obj):aI w0 (W.alloc o) g f0 f1:=h.below (cZ (Below.refl _ _) o)
theorem aI.drewN {w0 W:World} {g:Nat} {f0:List Int} {f1:Int} (h:aI w0 W g f0 f1) (m:Nat):aI w0 (W.drewN m) g f0 f1:=h
theorem aI.drew {w0 W:World} {g:Nat} {f0:List Int} {f1:Int} (h:aI w0 W g f0 f1):aI w0 W.drew g f0 f1:=h
theorem aI.at_ {w0 W:World} {g:Nat} {f0:List Int} {f1:Int} {w':World} {m:Nat} (hq:W.drewN m=w') (h:aI w0 W g f0 f1):aI w0 w' g f0 f1:=by subst hq;exact aI.drewN h m
theorem aI.apart {w0 W:World} {g:Nat} {f0:List Int} {f1:Int} {α:Type} {d:Kd α} {e:Nat} {base:Nat} {ok:Nat→Prop} {v:Value} {xs:List α} (h:aI w0 W g f0 f1) (ho:d.R e W base ok v xs) (ht:∀ q,q ∈ e :: d.E→q≠69):d.R e W base (fun k=>ok k∧k≠g) v xs:=by
 obtain ⟨A0,c0,hb,hg,hr0⟩:=h
 exact Kd.lW ho hb ht
theorem aI.own_ne {w0 W:World} {g:Nat} {f0:List Int} {f1:Int} {α:Type} {d:Kd α} {e:Nat} {base:Nat} {ok:Nat→Prop} {v:Value} {xs:List α} (h:aI w0 W g f0 f1) (ho:d.R e W base ok v xs) (ht:e≠69):some g≠v.ownBlock:=by
 obtain ⟨A0,c0,hb,hg,hr0⟩:=h
 exact Kd.kT ho hb ht
theorem aI.lt {w0 W:World} {g:Nat} {f0:List Int} {f1:Int} (h:aI w0 W g f0 f1):g < W.heap.size:=by
 obtain ⟨A0,c0,hb,hg,hr0⟩:=h
 exact lK hb
theorem aI.ge {w0 W:World} {g:Nat} {f0:List Int} {f1:Int} (h:aI w0 W g f0 f1):w0.heap.size≤g:=by
 obtain ⟨A0,c0,hb,hg,hr0⟩:=h
 exact hg
theorem aI.WS {w0 W:World} {g:Nat} {f0:List Int} {f1:Int} {a:Nat} {cs:Array Value} {t:TypeId} {fr:Nat × Nat} (h:aI w0 W g f0 f1) (hb2:W.heap[a]?=some (.cells cs t fr)) (ht:t≠69):g≠a:=by
 obtain ⟨A0,c0,hb,hg,hr0⟩:=h
 rintro rfl
 rw [hb] at hb2
 injection hb2 with hb2
 injection hb2 with _ ht2
 exact ht ht2.symm
theorem aI.far {w0 W:World} {g:Nat} {f0:List Int} {f1:Int} {p:Addr} (h:aI w0 W g f0 f1) (hne:g≠p.block) (u:Value):aI w0 (W.setCell p u) g f0 f1:=by
 obtain ⟨A0,c0,hb,hg,hr0⟩:=h
 exact ⟨A0,c0,mV hb hne u,hg,hr0⟩
theorem yM {W:World} {g:Nat} {A0:Option Addr} {c0:Nat} {f0:List Int} {f1:Int} (h:W.heap[g]?=some (.cells #[.slice A0 f0.length c0, .int .i64 f1] 69 (0,0))):W.cell? ⟨g,0,none⟩=some (.slice A0 f0.length c0):=(aN h 0).trans rfl
theorem yN {W:World} {g:Nat} {A0:Option Addr} {c0:Nat} {f0:List Int} {f1:Int} (h:W.heap[g]?=some (.cells #[.slice A0 f0.length c0, .int .i64 f1] 69 (0,0))):W.cell? ⟨g,1,none⟩=some (.int .i64 f1):=(aN h 1).trans rfl
theorem aI.uR {w0 W:World} {g:Nat} {f0:List Int} {f1:Int} (h:aI w0 W g f0 f1) (x:Int):aI w0 (W.setCell ⟨g,1,none⟩ (.int .i64 x)) g f0 x:=by
 obtain ⟨A0,c0,hb,hg,hr0⟩:=h
 exact ⟨A0,c0,by simpa using OU hb 1 (.int .i64 x),hg,hr0⟩
theorem aG.mono_l:∀ k,(∀ y0 y1 y2 y3,LeO (aG.j0 k y0 y1 y2 y3) (aG.j0 (k + 1) y0 y1 y2 y3))
 |0=>fun _ _ _ _ r h=>by simp [aG.j0] at h
 |k + 1=>by
  have ih0:=aG.mono_l k
  ·intro y0 y1 y2 y3
   unfold aG.j0
   exact mo_
theorem aG.mono:∀ a0 a1 a2 k,LeO (aG.f k a0 a1 a2) (aG.f (k + 1) a0 a1 a2):=by
 intro a0 a1 a2 k
 have ih0:=aG.mono_l k
 unfold aG.f
 exact mo_
theorem aG.calls (k:Nat) (g:Nat) (j3:List Int) (j4:Int) (a1:Int) (r1:Int) (r2:Int) (w0 w:World) (hI:aI w0 w g j3 j4) (hB:Below w0.heap.size w0 w) (h:aG.f k j3 j4 a1=some (r1,r2)):
  Calls Tryz.prog 37 #[.pointer (some ⟨g,0,none⟩), .int .i64 a1] w fun e w'=>e= .returned (.int .i64 r1)∧aI w0 w' g j3 r2∧Below w0.heap.size w0 w'∧aC w w' g none:=by
 have HI0:=am hI
 have HK:=am (aC.refl w g none)
 have HL:=am hB.size
 clear hI
 have HW0:=am hB.size
 have HB:=am hB
 clear hB
 unfold aG.f at h
 have H:=h
 clear h
 have jr:=am H
 clear H
 obtain ⟨ASz4_0,cSz4_0,HGz4,hgz4,HSz4_0⟩:=HI0.out
 have ja:=yM HGz4
 have jb:=yN HGz4
 have jc:=bT HGz4 1
 clear HGz4 hgz4
 go_enter Tryz.func37,Tryz.ntmps37
 go_upto_region 2 with (fail)
 repeat (go_quiet (fail);go_upto_region 2 with (fail))
 go_cut [24] (fun jP wc=>∃ (kq:Nat) (j5:Bool),jP= .bool j5∧Aside0 (aG.j0 kq a1 j5 j3 (wrap64 (j4 + 1))=some (r1,r2))∧Aside0 (kq≤k)∧Aside0 (aI w0 wc g j3 (wrap64 (j4 + 1)))∧Aside0 (aC w wc g none)∧Aside0 (Below w0.heap.size w0 wc))
 case first=>
  have H:=jr.out
  clear jr
  by_cases c5:a1 < 1
  ·rw [if_pos c5] at H
   have j6:decide (a1 < 1)=true:=decide_eq_true c5
   clear c5
   (first|rw [j6]|(simp only [fI,fO];rw [j6])|skip)
   have H':=am H
   clear H
   go_wp2
   repeat (go_quiet (fail);try go_wp2)
   go_meet
   case rel=>exact ⟨_,(true),sd_,H',⟨by first|omega|exact Nat.le_refl _⟩,⟨fQ⟩,⟨fF⟩,⟨iX⟩⟩
  rw [if_neg c5] at H
  have j6:decide (a1 < 1)=false:=decide_eq_false c5
  clear c5
  (first|rw [j6]|(simp only [fI,fO];rw [j6])|skip)
  have H':=am H
  clear H
  obtain ⟨ASz6_0,cSz6_0,HGz6,hgz6,HSz6_0⟩:=HI0.out
  have js:=yM HGz6
  have jt:=yN HGz6
  have ju:=bT HGz6 1
  clear HGz6 hgz6
  go_wp2
  repeat (go_quiet (fail);try go_wp2)
  go_meet
  case rel=>exact ⟨_,(((j3.length:Int) == 0)),sd_,H',⟨by first|omega|exact Nat.le_refl _⟩,⟨fQ⟩,⟨fF⟩,⟨iX⟩⟩
 case rest=>
  clear jr
  try clear ja
  try clear jb
  try clear jc
  obtain ⟨kq,j5,rfl,HA,HJ2,HI0,HK,HB⟩:=hcut
  cases kq with
  |zero=>exact absurd HA.out (by simp [aG.j0])
  |succ jU=>
   have H:=HA.out
   clear HA
   simp only [aG.j0] at H
   by_cases c7:j5=true
   ·subst c7
    rw [if_pos rfl] at H
    simp only [Option.some.injEq,Prod.mk.injEq] at H
    obtain ⟨rfl,rfl⟩:=H
    go_wp2
    repeat (go_quiet (fail);try go_wp2)
    go_ret
    exact ⟨rr_,fQ,iX,fF⟩
   replace c7:=Bool.eq_false_iff.mpr c7
   subst c7
   rw [if_neg (show ¬ (false=true) by decide)] at H
   by_cases c8:(wrap64 ((wrap64 (j4 + 1)) - 1)) < (j3.length:Int)
   ·rw [if_pos c8] at H
    have jd:decide ((wrap64 ((wrap64 (j4 + 1)) - 1)) < (j3.length:Int))=true:=decide_eq_true c8
    clear c8
    obtain ⟨ji9,hji9⟩:∃ j_:Int,(wrap64 ((wrap64 (j4 + 1)) - 1))=j_:=⟨_,rfl⟩
    replace H:(if 0≤(ji9) then (if a1=0 then (none) else (some (Int.tmod (wrap64 (rd j3 (ji9))) a1,(wrap64 (j4 + 1))))) else (none))=some (r1,r2):=by first|(rw [hji9] at H;exact H)|(simp only [hji9] at H ⊢;exact H)
    (try rw [hji9] at jd)
    have hji9w:(IntKind.i64.wrap ((wrap64 (j4 + 1)) - 1))=ji9:=(fI _).trans hji9
    by_cases c10:0≤(ji9)
    ·rw [if_pos c10] at H
     have jD:decide (0≤(ji9))=true:=decide_eq_true c10
     clear c10
     by_cases jf:a1=0
     ·rw [if_pos jf] at H
      exact absurd H (by simp)
     rw [if_neg jf] at H
     have jE:(a1 == 0)=false:=beq_eq_false_iff_ne.mpr jf
     have jF:(a1 != 0)=true:=bne_iff_ne.mpr jf
     simp only [Option.some.injEq,Prod.mk.injEq] at H
     obtain ⟨rfl,rfl⟩:=H
     obtain ⟨ASz12_0,cSz12_0,HGz12,hgz12,HSz12_0⟩:=HI0.out
     have jg:=yM HGz12
     have jh:=yN HGz12
     have ji:=bT HGz12 1
     clear HGz12 hgz12
     have jv:0≤((ji9):Int):=of_decide_eq_true eB
     have jw:(ji9) < (j3.length:Int):=of_decide_eq_true eB
     obtain ⟨jQ,jR,j7⟩:=Kd.oF HSz12_0 (ji9) jv jw
     cases jR
     replace j7:=bN HB.out j7
     replace jv:=eq_true jv
     replace jw:=eq_true jw
     go_wp2
     repeat (go_quiet (fail);try go_wp2)
     go_ret
     exact ⟨by first|rfl|(simp [lF,lG] <;> rfl)|(simp only [← hji9];first|rfl|(simp [lF,lG] <;> rfl))|(simp [*,lF,lG] <;> rfl),fQ,iX,fF⟩
    rw [if_neg c10] at H
    exact absurd H (by simp)
   rw [if_neg c8] at H
   have jd:decide ((wrap64 ((wrap64 (j4 + 1)) - 1)) < (j3.length:Int))=false:=decide_eq_false c8
   clear c8
   by_cases je:(j3.length:Int)=0
   ·rw [if_pos je] at H
    exact absurd H (by simp)
   rw [if_neg je] at H
   have jG:((j3.length:Int) == 0)=false:=beq_eq_false_iff_ne.mpr je
   have jH:((j3.length:Int) != 0)=true:=bne_iff_ne.mpr je
   have jI:¬ (j3=[]):=fun h_=>je (by rw [h_];rfl)
   obtain ⟨ji14,hji14⟩:∃ j_:Int,(Int.tmod (wrap64 ((wrap64 (j4 + 1)) - 1)) (j3.length:Int))=j_:=⟨_,rfl⟩
   replace H:(if 0≤(ji14) then (if (ji14) < (j3.length:Int) then (if 0≤(Int.tmod (wrap64 ((wrap64 ((wrap64 ((wrap64 (j4 + 1)) - 1)) * 7)) + 3)) (j3.length:Int)) then (if (Int.tmod (wrap64 ((wrap64 ((wrap64 ((wrap64 (j4 + 1)) - 1)) * 7)) + 3)) (j3.length:Int)) < (j3.length:Int) then (if a1=0 then (none) else (some (Int.tmod (Go.bits .xor .i64 (wrap64 ((wrap64 ((wrap64 ((wrap64 ((wrap64 (rd j3 (ji14))) * 131)) + (wrap64 ((wrap64 (rd j3 (Int.tmod (wrap64 ((wrap64 ((wrap64 ((wrap64 (j4 + 1)) - 1)) * 7)) + 3)) (j3.length:Int)))) * 1117)))) + (wrap64 ((wrap64 ((wrap64 (j4 + 1)) - 1)) * 29)))) + (wrap64 ((wrap64 (Int.tdiv (wrap64 ((wrap64 (j4 + 1)) - 1)) (j3.length:Int))) * 53)))) (wrap64 (Int.tdiv (wrap64 ((wrap64 ((wrap64 ((wrap64 ((wrap64 (rd j3 (ji14))) * 131)) + (wrap64 ((wrap64 (rd j3 (Int.tmod (wrap64 ((wrap64 ((wrap64 ((wrap64 (j4 + 1)) - 1)) * 7)) + 3)) (j3.length:Int)))) * 1117)))) + (wrap64 ((wrap64 ((wrap64 (j4 + 1)) - 1)) * 29)))) + (wrap64 ((wrap64 (Int.tdiv (wrap64 ((wrap64 (j4 + 1)) - 1)) (j3.length:Int))) * 53)))) 64))) a1,(wrap64 (j4 + 1))))) else (none)) else (none)) else (none)) else (none))=some (r1,r2):=by first|(rw [hji14] at H;exact H)|(simp only [hji14] at H ⊢;exact H)
   by_cases jj:0≤(ji14)
   ·rw [if_pos jj] at H
    have jJ:decide (0≤(ji14))=true:=decide_eq_true jj
    clear jj
    by_cases jk:(ji14) < (j3.length:Int)
    ·rw [if_pos jk] at H
     have jK:decide ((ji14) < (j3.length:Int))=true:=decide_eq_true jk
     clear jk
     obtain ⟨ji17,hji17⟩:∃ j_:Int,(Int.tmod (wrap64 ((wrap64 ((wrap64 ((wrap64 (j4 + 1)) - 1)) * 7)) + 3)) (j3.length:Int))=j_:=⟨_,rfl⟩
     replace H:(if 0≤(ji17) then (if (ji17) < (j3.length:Int) then (if a1=0 then (none) else (some (Int.tmod (Go.bits .xor .i64 (wrap64 ((wrap64 ((wrap64 ((wrap64 ((wrap64 (rd j3 (ji14))) * 131)) + (wrap64 ((wrap64 (rd j3 (ji17))) * 1117)))) + (wrap64 ((wrap64 ((wrap64 (j4 + 1)) - 1)) * 29)))) + (wrap64 ((wrap64 (Int.tdiv (wrap64 ((wrap64 (j4 + 1)) - 1)) (j3.length:Int))) * 53)))) (wrap64 (Int.tdiv (wrap64 ((wrap64 ((wrap64 ((wrap64 ((wrap64 (rd j3 (ji14))) * 131)) + (wrap64 ((wrap64 (rd j3 (ji17))) * 1117)))) + (wrap64 ((wrap64 ((wrap64 (j4 + 1)) - 1)) * 29)))) + (wrap64 ((wrap64 (Int.tdiv (wrap64 ((wrap64 (j4 + 1)) - 1)) (j3.length:Int))) * 53)))) 64))) a1,(wrap64 (j4 + 1))))) else (none)) else (none))=some (r1,r2):=by first|(rw [hji17] at H;exact H)|(simp only [hji17] at H ⊢;exact H)
     by_cases jl:0≤(ji17)
     ·rw [if_pos jl] at H
      have jL:decide (0≤(ji17))=true:=decide_eq_true jl
      clear jl
      by_cases jm:(ji17) < (j3.length:Int)
      ·rw [if_pos jm] at H
       have jM:decide ((ji17) < (j3.length:Int))=true:=decide_eq_true jm
       clear jm
       by_cases jn:a1=0
       ·rw [if_pos jn] at H
        exact absurd H (by simp)
       rw [if_neg jn] at H
       have jN:(a1 == 0)=false:=beq_eq_false_iff_ne.mpr jn
       have jO:(a1 != 0)=true:=bne_iff_ne.mpr jn
       simp only [Option.some.injEq,Prod.mk.injEq] at H
       obtain ⟨rfl,rfl⟩:=H
       obtain ⟨ASz21_0,cSz21_0,HGz21,hgz21,HSz21_0⟩:=HI0.out
       have jo:=yM HGz21
       have jp:=yN HGz21
       have jq:=bT HGz21 1
       clear HGz21 hgz21
       have jx:0≤((ji14):Int):=of_decide_eq_true eB
       have jy:(ji14) < (j3.length:Int):=of_decide_eq_true eB
       obtain ⟨jz,jS,j8⟩:=Kd.oF HSz21_0 (ji14) jx jy
       cases jS
       replace j8:=bN HB.out j8
       replace jx:=eq_true jx
       replace jy:=eq_true jy
       have jA:0≤((ji17):Int):=of_decide_eq_true eB
       have jB:(ji17) < (j3.length:Int):=of_decide_eq_true eB
       obtain ⟨jC,jT,j9⟩:=Kd.oF HSz21_0 (ji17) jA jB
       obtain rfl:jz=jC:=(by injection jT)
       replace j9:=bN HB.out j9
       replace jA:=eq_true jA
       replace jB:=eq_true jB
       go_wp2
       repeat (go_quiet (fail);try go_wp2)
       go_ret
       exact ⟨by first|rfl|(simp [lF,lG] <;> rfl)|(simp only [← hji14,← hji17];first|rfl|(simp [lF,lG] <;> rfl))|(simp [*,lF,lG] <;> rfl),fQ,iX,fF⟩
      rw [if_neg jm] at H
      exact absurd H (by simp)
     rw [if_neg jl] at H
     exact absurd H (by simp)
    rw [if_neg jk] at H
    exact absurd H (by simp)
   rw [if_neg jj] at H
   exact absurd H (by simp)
theorem iC.calls (a0:Int) (a1:Int) (r1:Int) (r2:Int) (r3:List (S56)) (w:World) (h:iC.f a0 a1=some (r1,r2,r3)):
  Calls Tryz.prog 62 #[.int .i64 a0, .int .i64 a1] w fun e w'=>∃ v2_:Value,e= .returned (.agg #[.int .i64 r1, .int .i64 r2,v2_])∧Kd.R k56 56 w' w.heap.size (fun _=>True) v2_ r3∧Below w.heap.size w w':=by
 have hu56:=Tryz.underlying56
 have HB:=am (Below.refl w.heap.size w)
 have H:(some (a0,a1,(([]:List (S56)))))=some (r1,r2,r3):=h
 clear h
 obtain ⟨j7,hy_⟩:∃ y_:List (S56),y_=(([]:List (S56))):=⟨_,rfl⟩
 replace H:(some (a0,a1,j7))=some (r1,r2,r3):=rx_
 have j5:=am hy_
 clear hy_
 simp only [Option.some.injEq,Prod.mk.injEq] at H
 obtain ⟨rfl,rfl,rfl⟩:=H
 go_enter Tryz.func62,Tryz.ntmps62
 go_wp2_with (first|((with_reducible refine cK (N:=4) rfl ?_);refine eO rfl (N:=4) rfl (cs:=#[.int .i64 0, .int .i64 0, .slice none 0 0]) (t:=56) rn_ ?_;intro j3 hg w3 hbox hb;have j4:=am (hbox);have jg:=am ((by rw [hg];exact (aJ dU):w.heap.size≤j3));have GE21:=am ((by rw [hg];exact (aJ dU):w.heap.size≤j3));replace HB:=am (aA dU hb);clear hb hbox hg)|((with_reducible refine cK (N:=7) rfl ?_);refine Kd.oP k56 _ 56 rfl (N:=7) rfl (xs:=([]:List (S56))) (inner:=[]) (ok:=fun _=>True) (okp:=fun _=>True) rn_ ?hp (fun _ hk=>hk) trivial (Below.refl _ _) (Nat.le_refl _) (by simp) ?_;(case hp=>exact (dF.none _ _));intro ji w4 ho5 hb hg_ hnew_;clear hg_ hnew_;(first|rw [← j5.out] at ho5|(simp only [Int.reduceToNat] at ho5;rw [← j5.out] at ho5));have j6:=am (Kd.fG (Kd.OL ho5 (g:=j3) (o:= .cells #[.int .i64 0, .int .i64 0, .slice none 0 0] 56 (0,0)) (aG_ j4.out)) (aJ vC));replace j4:=bbP j4 hb;replace HB:=am (aA vC hb);clear hb ho5;obtain ⟨je,jf,jh⟩:=Kd.eY j6.out;subst jh;obtain ⟨j8,j9,ja,jb,jc,jd⟩:=lU j4.out))
 refine bodyPost_ret (results_cell_row rfl _ _ j3 56 #[.int .i64 a0, .int .i64 a1, .slice je j7.length jf] (0,0) _ rfl (aY (aY (aY j4.out 0 _ rfl) 1 _ rfl) 2 _ rfl) Tryz.underlying56 rfl (by kernel_rfl)) rfl ?_
 exact ⟨_,gN,gH (Kd.bV (Kd.kI (p:=⟨j3,2,none⟩) (Kd.kI (p:=⟨j3,1,none⟩) (Kd.kI (p:=⟨j3,0,none⟩) (Kd.bV j6.out (fun k_ hk=>(⟨hk,hk.2⟩:_∧k_≠j3))) (fun _ hk=>hk.2) (.int .i64 a0)) (fun _ hk=>hk.2) (.int .i64 a1)) (fun _ hk=>hk.2) (.slice je j7.length jf)) (fun _ hk=>trivial)),vC⟩
theorem iE.mono:∀ a0 a1 k,LeO (iE.f k a0 a1) (iE.f (k + 1) a0 a1):=by
 intro a0 a1 k
 unfold iE.f
 have m0:=@aG.mono
 exact mo_
theorem iE.calls (k:Nat) (g:Nat) (j6:List Int) (j8:Int) (r1:Int) (r2:Int) (r3:List (S56)) (r4:Int) (w0 w:World) (hI:aI w0 w g j6 j8) (hB:Below w0.heap.size w0 w) (h:iE.f k j6 j8=some (r1,r2,r3,r4)):
  Calls Tryz.prog 38 #[.pointer (some ⟨g,0,none⟩)] w fun e w'=>∃ v2_:Value,e= .returned (.agg #[.int .i64 r1, .int .i64 r2,v2_])∧Kd.R k56 56 w' w.heap.size (fun _=>True) v2_ r3∧aI w0 w' g j6 r4∧Below w0.heap.size w0 w'∧aC w w' g none:=by
 have hu56:=Tryz.underlying56
 have HI0:=am hI
 have HK:=am (aC.refl w g none)
 have HL:=am hB.size
 clear hI
 have HW0:=am hB.size
 have HB:=am hB
 clear hB
 unfold iE.f at h
 have H:=h
 clear h
 obtain ⟨⟨j9,jf⟩,A2,H⟩:=bsa H
 (try dsimp only at H)
 have HH_:=am H
 clear H
 go_enter Tryz.func38,Tryz.ntmps38
 go_upto_region 2 with (first|((with_reducible refine cK (N:=2) rfl ?_);refine eO rfl (N:=2) rfl (cs:=#[.int .i64 0, .int .i64 0, .slice none 0 0]) (t:=56) rn_ ?_;intro j3 hg w6 hbox hb;replace HB:=am (aA iX hb);have j4:=am (hbox);have GW48:=am ((by rw [hg];exact (aM (w:=w) (g:=g) (row:=none) fF):w.heap.size≤j3));have GE48:=am ((Nat.le_trans HW0.out (by rw [hg];exact (aM (w:=w) (g:=g) (row:=none) fF):w.heap.size≤j3):w0.heap.size≤j3));replace HK:=am (aC.trans fF (aC.of_below hb g none) (.inl rfl));have NB0_48:=am ((by rw [hg];exact Nat.ne_of_lt (aI.lt (show aI w0 _ g j6 j8 from fQ)):g≠j3));have j5:=am ((by rw [hg];exact Nat.ne_of_gt (aI.lt (show aI w0 _ g j6 j8 from fQ)):j3≠g));replace HI0:=am (aI.below fQ hb);clear hb hbox hg)|((with_reducible refine aD (f:=37) rfl ?_);refine gl_ 4 Tryz.func37 #[.pointer (some ⟨g,0,none⟩), .int .i64 4] ?_;(with_reducible refine (aG.calls k g j6 j8 4 j9 jf w0 _ ?side1 ?side2 A2.out).mono ?_);(case side1=>exact wU);(case side2=>exact xL);rintro e w7 ⟨rfl,hi,hb,hk⟩;refine ⟨_,rfl,?_⟩;replace j4:=am (aC.blk hk (g':=j3) (o:= .cells #[.int .i64 0, .int .i64 0, .slice none 0 0] 56 (0,0)) (aG_ j4.out) j5.out (by simp));replace HK:=am (aC.trans uK hk (.inl rfl));replace HB:=am (hb);replace HI0:=am (hi);(try clear hb);(try clear hk);(try clear hi)))
 have H:=HH_.out
 clear HH_
 by_cases c3:j9=0
 ·rw [if_pos c3] at H
  have jM:(j9 == 0)=true:=beq_iff_eq.mpr c3
  have jN:(j9 != 0)=false:=bne_eq_false_iff_eq.mpr c3
  clear c3
  obtain ⟨⟨jO,qi⟩,A4,H⟩:=bsa H
  (try dsimp only at H)
  obtain ⟨⟨jP,jQ,jR⟩,A5,H⟩:=bsa H
  (try dsimp only at H)
  simp only [Option.some.injEq,Prod.mk.injEq] at H
  obtain ⟨rfl,rfl,rfl,rfl⟩:=H
  go_wp2_with (first|((with_reducible refine aD (f:=37) rfl ?_);refine gl_ 8 Tryz.func37 #[.pointer (some ⟨g,0,none⟩), .int .i64 4] ?_;(with_reducible refine (aG.calls k g j6 jf 4 jO qi w0 _ ?side1 ?side2 A4.out).mono ?_);(case side1=>exact wU);(case side2=>exact xL);rintro e w8 ⟨rfl,hi,hb,hk⟩;refine ⟨_,rfl,?_⟩;replace j4:=am (aC.blk hk (g':=j3) (o:= .cells #[.int .i64 0, .int .i64 0, .slice none 0 0] 56 (0,0)) (aG_ j4.out) j5.out (by simp));replace HK:=am (aC.trans uK hk (.inl rfl));replace HB:=am (hb);replace HI0:=am (hi);(try clear hb);(try clear hk);(try clear hi))|((with_reducible refine aD (f:=62) rfl ?_);refine gl_ 9 Tryz.func62 #[.int .i64 0, .int .i64 jO] ?_;(with_reducible refine (iC.calls 0 jO jP jQ jR _ A5.out).mono ?_);rintro e w9 ⟨qt,rfl,ho0,hb⟩;refine ⟨_,rfl,?_⟩;have jg:=am (Kd.fG (Kd.OL ho0 (g:=j3) (o:= .cells #[.int .i64 0, .int .i64 0, .slice none 0 0] 56 (0,0)) (aG_ j4.out)) (aM (w:=w) (g:=g) (row:=none) uK));replace j4:=bbP j4 hb;replace HK:=am (aC.trans uK (aC.of_below hb g none) (.inl rfl));replace HB:=am (aA xL hb);replace HI0:=am (aI.below wU hb);(try clear hb);(try clear ho0);have q6:=j5.out;have q7:=NB0_48.out;obtain ⟨js,jt,ju,jv,jw,jx⟩:=lU j4.out;obtain ⟨jh,ji,jS⟩:=Kd.eY jg.out;subst jS))
  refine bodyPost_ret (results_cell_row rfl _ _ j3 56 #[.int .i64 jP, .int .i64 jQ, .slice jh jR.length ji] (0,0) _ rfl (aY (aY (aY j4.out 0 _ rfl) 1 _ rfl) 2 _ rfl) Tryz.underlying56 rfl (by kernel_rfl)) rfl ?_
  exact ⟨_,gN,gH (Kd.bV (Kd.kI (p:=⟨j3,2,none⟩) (Kd.kI (p:=⟨j3,1,none⟩) (Kd.kI (p:=⟨j3,0,none⟩) (Kd.bV jg.out (fun k_ hk=>(⟨hk,hk.2⟩:_∧k_≠j3))) (fun _ hk=>hk.2) (.int .i64 jP)) (fun _ hk=>hk.2) (.int .i64 jQ)) (fun _ hk=>hk.2) (.slice jh jR.length ji)) (fun _ hk=>trivial)),wU,xL,uK⟩
 rw [if_neg c3] at H
 have jM:(j9 == 0)=false:=beq_eq_false_iff_ne.mpr c3
 have jN:(j9 != 0)=true:=bne_iff_ne.mpr c3
 by_cases jc:j9=1
 ·rw [if_pos jc] at H
  have jj:(j9 == 1)=true:=beq_iff_eq.mpr jc
  have jk:(j9 != 1)=false:=bne_eq_false_iff_eq.mpr jc
  clear jc
  obtain ⟨jd,hy_⟩:∃ y_:List Int,y_=(([5,31,32,100,2047,2048,65536,99999]:List Int)):=⟨_,rfl⟩
  replace H:((aG.f k j6 jf 8).bind fun jb=>(if 0≤jb.1 then (if jb.1 < (jd.length:Int) then ((iC.f 0 (rd jd jb.1)).bind fun je=>(some (je.1,je.2.1,je.2.2,jb.2))) else (none)) else (none)))=some (r1,r2,r3,r4):=rx_
  have jl:=am hy_
  clear hy_
  obtain ⟨⟨ja,qj⟩,q8,H⟩:=bsm H
  (try dsimp only at H)
  have qk:=am q8
  clear q8
  by_cases jy:0≤ja
  ·rw [if_pos jy] at H
   have q9:decide (0≤ja)=true:=decide_eq_true jy
   clear jy
   by_cases jz:ja < (jd.length:Int)
   ·rw [if_pos jz] at H
    have qa:decide (ja < (jd.length:Int))=true:=decide_eq_true jz
    clear jz
    obtain ⟨⟨jT,jU,jV⟩,qb,H⟩:=bsm H
    (try dsimp only at H)
    have ql:=am qb
    clear qb
    simp only [Option.some.injEq,Prod.mk.injEq] at H
    obtain ⟨rfl,rfl,rfl,rfl⟩:=H
    go_wp2_with (first|((with_reducible refine cK (N:=12) rfl ?_);refine Kd.oP (Kd.int .i64) _ 3 rfl (N:=12) rfl (xs:=([5,31,32,100,2047,2048,65536,99999]:List Int)) (inner:=[.int .i64 5, .int .i64 31, .int .i64 32, .int .i64 100, .int .i64 2047, .int .i64 2048, .int .i64 65536, .int .i64 99999]) (ok:=fun _=>True) (okp:=fun _=>True) rn_ ?hp (fun _ hk=>hk) trivial (Below.refl _ _) (Nat.le_refl _) (by simp) ?_;(case hp=>exact (dF.one (show Kd.M (Kd.int .i64) _ _ _ 5 [.int .i64 5] from rfl) (dF.one (show Kd.M (Kd.int .i64) _ _ _ 31 [.int .i64 31] from rfl) (dF.one (show Kd.M (Kd.int .i64) _ _ _ 32 [.int .i64 32] from rfl) (dF.one (show Kd.M (Kd.int .i64) _ _ _ 100 [.int .i64 100] from rfl) (dF.one (show Kd.M (Kd.int .i64) _ _ _ 2047 [.int .i64 2047] from rfl) (dF.one (show Kd.M (Kd.int .i64) _ _ _ 2048 [.int .i64 2048] from rfl) (dF.one (show Kd.M (Kd.int .i64) _ _ _ 65536 [.int .i64 65536] from rfl) (dF.one (show Kd.M (Kd.int .i64) _ _ _ 99999 [.int .i64 99999] from rfl) (dF.none _ _))))))))));intro qu qv ho21 hb hg_ hnew_;clear hg_ hnew_;(first|rw [← jl.out] at ho21|(simp only [Int.reduceToNat] at ho21;rw [← jl.out] at ho21));have j7:=am (Kd.fG ho21 (aM (w:=w) (g:=g) (row:=none) uK));replace j4:=bbP j4 hb;replace HK:=am (aC.trans uK (aC.of_below hb g none) (.inl rfl));replace HB:=am (aA xL hb);replace HI0:=am (aI.below wU hb);clear hb ho21)|((with_reducible refine aD (f:=37) rfl ?_);refine gl_ 14 Tryz.func37 #[.pointer (some ⟨g,0,none⟩), .int .i64 8] ?_;(with_reducible refine (aG.calls k g j6 jf 8 ja qj w0 _ ?side1 ?side2 qk.out).mono ?_);(case side1=>exact wU);(case side2=>exact xL);rintro e qw ⟨rfl,hi,hb,hk⟩;refine ⟨_,rfl,?_⟩;replace j4:=am (aC.blk hk (g':=j3) (o:= .cells #[.int .i64 0, .int .i64 0, .slice none 0 0] 56 (0,0)) (aG_ j4.out) j5.out (by simp));replace j7:=am (Kd.bV (Kd.pG (aI.apart (show aI w0 _ g j6 jf from wU) (aR_ j7.out) (by decide)) hk (fun _ h=>h.2)) (fun _ h=>h.1));replace HK:=am (aC.trans uK hk (.inl rfl));replace HB:=am (hb);replace HI0:=am (hi);(try clear hb);(try clear hk);(try clear hi);obtain ⟨qm,qn,jW⟩:=Kd.eY j7.out;subst jW;have jX:0≤(ja:Int):=of_decide_eq_true eB;have jY:ja < (jd.length:Int):=of_decide_eq_true eB;obtain ⟨qo,qp,jZ⟩:=Kd.oF (Kd.eH j7.out).2.2 ja jX jY;cases qp;replace jX:=eq_true jX;replace jY:=eq_true jY)|((with_reducible refine aD (f:=62) rfl ?_);refine gl_ 17 Tryz.func62 #[.int .i64 0, .int .i64 (rd jd ja)] ?_;(with_reducible refine (iC.calls 0 (rd jd ja) jT jU jV _ ql.out).mono ?_);rintro e qx ⟨qy,rfl,ho0,hb⟩;refine ⟨_,rfl,?_⟩;replace j7:=am (Kd.gG (aR_ j7.out) hb);have jm:=am (Kd.fG (Kd.OL ho0 (g:=j3) (o:= .cells #[.int .i64 0, .int .i64 0, .slice none 0 0] 56 (0,0)) (aG_ j4.out)) (aM (w:=w) (g:=g) (row:=none) uK));replace j4:=bbP j4 hb;replace HK:=am (aC.trans uK (aC.of_below hb g none) (.inl rfl));replace HB:=am (aA xL hb);replace HI0:=am (aI.below wU hb);(try clear hb);(try clear ho0);have qc:=j5.out;have qd:=NB0_48.out;obtain ⟨jA,jB,jC,jD,jE,jF⟩:=lU j4.out;obtain ⟨jn,jo,q0⟩:=Kd.eY jm.out;subst q0))
    refine bodyPost_ret (results_cell_row rfl _ _ j3 56 #[.int .i64 jT, .int .i64 jU, .slice jn jV.length jo] (0,0) _ rfl (aY (aY (aY j4.out 0 _ rfl) 1 _ rfl) 2 _ rfl) Tryz.underlying56 rfl (by kernel_rfl)) rfl ?_
    exact ⟨_,gN,gH (Kd.bV (Kd.kI (p:=⟨j3,2,none⟩) (Kd.kI (p:=⟨j3,1,none⟩) (Kd.kI (p:=⟨j3,0,none⟩) (Kd.bV jm.out (fun k_ hk=>(⟨hk,hk.2⟩:_∧k_≠j3))) (fun _ hk=>hk.2) (.int .i64 jT)) (fun _ hk=>hk.2) (.int .i64 jU)) (fun _ hk=>hk.2) (.slice jn jV.length jo)) (fun _ hk=>trivial)),wU,xL,uK⟩
   rw [if_neg jz] at H
   exact absurd H (by simp)
  rw [if_neg jy] at H
  exact absurd H (by simp)
 rw [if_neg jc] at H
 have jj:(j9 == 1)=false:=beq_eq_false_iff_ne.mpr jc
 have jk:(j9 != 1)=true:=bne_iff_ne.mpr jc
 obtain ⟨⟨q1,qq⟩,qe,H⟩:=bsm H
 (try dsimp only at H)
 have qr:=am qe
 clear qe
 obtain ⟨⟨q2,q3,q4⟩,qf,H⟩:=bsm H
 (try dsimp only at H)
 have qs:=am qf
 clear qf
 simp only [Option.some.injEq,Prod.mk.injEq] at H
 obtain ⟨rfl,rfl,rfl,rfl⟩:=H
 go_wp2_with (first|((with_reducible refine aD (f:=37) rfl ?_);refine gl_ 19 Tryz.func37 #[.pointer (some ⟨g,0,none⟩), .int .i64 4] ?_;(with_reducible refine (aG.calls k g j6 jf 4 q1 qq w0 _ ?side1 ?side2 qr.out).mono ?_);(case side1=>exact wU);(case side2=>exact xL);rintro e qz ⟨rfl,hi,hb,hk⟩;refine ⟨_,rfl,?_⟩;replace j4:=am (aC.blk hk (g':=j3) (o:= .cells #[.int .i64 0, .int .i64 0, .slice none 0 0] 56 (0,0)) (aG_ j4.out) j5.out (by simp));replace HK:=am (aC.trans uK hk (.inl rfl));replace HB:=am (hb);replace HI0:=am (hi);(try clear hb);(try clear hk);(try clear hi))|((with_reducible refine aD (f:=62) rfl ?_);refine gl_ 20 Tryz.func62 #[.int .i64 13, .int .i64 q1] ?_;(with_reducible refine (iC.calls 13 q1 q2 q3 q4 _ qs.out).mono ?_);rintro e qA ⟨qB,rfl,ho0,hb⟩;refine ⟨_,rfl,?_⟩;have jp:=am (Kd.fG (Kd.OL ho0 (g:=j3) (o:= .cells #[.int .i64 0, .int .i64 0, .slice none 0 0] 56 (0,0)) (aG_ j4.out)) (aM (w:=w) (g:=g) (row:=none) uK));replace j4:=bbP j4 hb;replace HK:=am (aC.trans uK (aC.of_below hb g none) (.inl rfl));replace HB:=am (aA xL hb);replace HI0:=am (aI.below wU hb);(try clear hb);(try clear ho0);have qg:=j5.out;have qh:=NB0_48.out;obtain ⟨jG,jH,jI,jJ,jK,jL⟩:=lU j4.out;obtain ⟨jq,jr,q5⟩:=Kd.eY jp.out;subst q5))
 refine bodyPost_ret (results_cell_row rfl _ _ j3 56 #[.int .i64 q2, .int .i64 q3, .slice jq q4.length jr] (0,0) _ rfl (aY (aY (aY j4.out 0 _ rfl) 1 _ rfl) 2 _ rfl) Tryz.underlying56 rfl (by kernel_rfl)) rfl ?_
 exact ⟨_,gN,gH (Kd.bV (Kd.kI (p:=⟨j3,2,none⟩) (Kd.kI (p:=⟨j3,1,none⟩) (Kd.kI (p:=⟨j3,0,none⟩) (Kd.bV jp.out (fun k_ hk=>(⟨hk,hk.2⟩:_∧k_≠j3))) (fun _ hk=>hk.2) (.int .i64 q2)) (fun _ hk=>hk.2) (.int .i64 q3)) (fun _ hk=>hk.2) (.slice jq q4.length jr)) (fun _ hk=>trivial)),wU,xL,uK⟩
theorem nP.calls (a0:Int) (j9:Int) (ja:Int) (P1_2_:Nat→Prop) (je:Option Addr) (jf:Nat) (j6:List (S56)) (jb:Int) (jc:Int) (P2_2_:Nat→Prop) (jg:Option Addr) (jh:Nat) (j7:List (S56)) (r1:Int) (r2:Int) (r3:List (S56)) (w:World) (hs1_2:Kd.V k56 56 w w.heap.size (fun k_=>P1_2_ k_) (.slice je j6.length jf) j6) (hs2_2:Kd.V k56 56 w w.heap.size (fun k_=>P2_2_ k_) (.slice jg j7.length jh) j7) (h:nP.f a0 j9 ja j6 jb jc j7=some (r1,r2,r3)):
  Calls Tryz.prog 136 #[.int .i64 a0, .agg #[.int .i64 j9, .int .i64 ja, .slice je j6.length jf], .agg #[.int .i64 jb, .int .i64 jc, .slice jg j7.length jh]] w fun e w'=>∃ v2_:Value,e= .returned (.agg #[.int .i64 r1, .int .i64 r2,v2_])∧Kd.N k56 56 w' w.heap.size (fun k_=>((P1_2_ k_∨P2_2_ k_)∨w.heap.size≤k_)) v2_ r3∧Below w.heap.size w w':=by
 have hu56:=Tryz.underlying56
 have HO1_2:=am (show Kd.V k56 56 w w.heap.size (fun k_=>((P1_2_ k_∨P2_2_ k_)∨w.heap.size≤k_)) (.slice je j6.length jf) j6 from Kd.pI hs1_2 (fun k_ hk=> .inl (.inl hk)))
 have HO2_2:=am (show Kd.V k56 56 w w.heap.size (fun k_=>((P1_2_ k_∨P2_2_ k_)∨w.heap.size≤k_)) (.slice jg j7.length jh) j7 from Kd.pI hs2_2 (fun k_ hk=> .inl (.inr hk)))
 have HB:=am (Below.refl w.heap.size w)
 have H:(some (a0,0,(([(⟨j9,ja,j6⟩:S56),(⟨jb,jc,j7⟩:S56)]:List (S56)))))=some (r1,r2,r3):=h
 clear h
 obtain ⟨jF,hy_⟩:∃ y_:List (S56),y_=(([(⟨j9,ja,j6⟩:S56),(⟨jb,jc,j7⟩:S56)]:List (S56))):=⟨_,rfl⟩
 replace H:(some (a0,0,jF))=some (r1,r2,r3):=rx_
 have jp:=am hy_
 clear hy_
 simp only [Option.some.injEq,Prod.mk.injEq] at H
 obtain ⟨rfl,rfl,rfl⟩:=H
 go_enter Tryz.func136,Tryz.ntmps136
 go_wp2_with (first|((with_reducible refine cK (N:=4) rfl ?_);refine eO rfl (N:=4) rfl (cs:=#[.int .i64 j9, .int .i64 ja, .slice je j6.length jf]) (t:=56) rn_ ?_;intro j4 hg w4 hbox hb;replace HO1_2:=am (Kd.oW (Kd.vV (by (with_reducible repeat (first|apply Kd.lX|apply Kd.lY|apply Kd.nG));exact HO1_2.out) j4 (Nat.le_of_eq hg.symm)) hb);replace HO2_2:=am (Kd.oW (Kd.vV (by (with_reducible repeat (first|apply Kd.lX|apply Kd.lY|apply Kd.nG));exact HO2_2.out) j4 (Nat.le_of_eq hg.symm)) hb);have j8:=am (hbox);have jP:=am ((by rw [hg];exact (aJ dU):w.heap.size≤j4));have GE21:=am ((by rw [hg];exact (aJ dU):w.heap.size≤j4));replace HB:=am (aA dU hb);clear hb hbox hg)|((with_reducible refine cK (N:=5) rfl ?_);refine eO rfl (N:=5) rfl (cs:=#[.int .i64 jb, .int .i64 jc, .slice jg j7.length jh]) (t:=56) rn_ ?_;intro j5 hg w5 hbox hb;replace HO1_2:=am (Kd.oW (Kd.vV (by (with_reducible repeat (first|apply Kd.lX|apply Kd.lY|apply Kd.nG));exact HO1_2.out) j5 (Nat.le_of_eq hg.symm)) hb);replace HO2_2:=am (Kd.oW (Kd.vV (by (with_reducible repeat (first|apply Kd.lX|apply Kd.lY|apply Kd.nG));exact HO2_2.out) j5 (Nat.le_of_eq hg.symm)) hb);have jd:=am (hbox);have jQ:=am ((by rw [hg];exact (aJ vC):w.heap.size≤j5));have GE22:=am ((by rw [hg];exact (aJ vC):w.heap.size≤j5));replace HB:=am (aA vC hb);have jj:=am ((by rw [hg];exact Nat.ne_of_lt (CS j8.out):j4≠j5));have jk:=am ((by rw [hg];exact Nat.ne_of_gt (CS j8.out):j5≠j4));replace j8:=bbP j8 hb;clear hb hbox hg)|((with_reducible refine cK (N:=6) rfl ?_);refine eO rfl (N:=6) rfl (cs:=#[.int .i64 0, .int .i64 0, .slice none 0 0]) (t:=56) rn_ ?_;intro j3 hg w6 hbox hb;replace HO1_2:=am (Kd.oW (Kd.vV (by (with_reducible repeat (first|apply Kd.lX|apply Kd.lY|apply Kd.nG));exact HO1_2.out) j3 (Nat.le_of_eq hg.symm)) hb);replace HO2_2:=am (Kd.oW (Kd.vV (by (with_reducible repeat (first|apply Kd.lX|apply Kd.lY|apply Kd.nG));exact HO2_2.out) j3 (Nat.le_of_eq hg.symm)) hb);have ji:=am (hbox);have jR:=am ((by rw [hg];exact (aJ aCv):w.heap.size≤j3));have GE23:=am ((by rw [hg];exact (aJ aCv):w.heap.size≤j3));replace HB:=am (aA aCv hb);have jl:=am ((by rw [hg];exact Nat.ne_of_lt (CS j8.out):j4≠j3));have jm:=am ((by rw [hg];exact Nat.ne_of_gt (CS j8.out):j3≠j4));replace j8:=bbP j8 hb;have jn:=am ((by rw [hg];exact Nat.ne_of_lt (CS jd.out):j5≠j3));have jo:=am ((by rw [hg];exact Nat.ne_of_gt (CS jd.out):j3≠j5));replace jd:=bbP jd hb;clear hb hbox hg;have jS:=jj.out;have jT:=jk.out;have jU:=jl.out;have jV:=jm.out;obtain ⟨jG,jH,jI,jJ,jK,jL⟩:=lU j8.out;have jN:=jn.out;have jO:=jo.out;obtain ⟨jt,ju,jv,jw,jx,jy⟩:=lU jd.out)|((with_reducible refine cK (N:=10) rfl ?_);refine Kd.wO k56 _ 56 rfl (N':=10) rfl (xs:=([(⟨j9,ja,j6⟩:S56),(⟨jb,jc,j7⟩:S56)]:List (S56))) (inner:=[.int .i64 j9, .int .i64 ja, .slice je j6.length jf, .int .i64 jb, .int .i64 jc, .slice jg j7.length jh]) (ok:=(fun k_=>((P1_2_ k_∨P2_2_ k_)∨w.heap.size≤k_)∧k_≠j4∧k_≠j5∧k_≠j3)) (okp:=(fun k_=>((P1_2_ k_∨P2_2_ k_)∨w.heap.size≤k_)∧k_≠j4∧k_≠j5∧k_≠j3)) rn_ ?hp (fun _ hk=>hk) ((show ∀ k_,w6.heap.size≤k_→(fun k_=>((P1_2_ k_∨P2_2_ k_)∨w.heap.size≤k_)∧k_≠j4∧k_≠j5∧k_≠j3) k_ from fun k_ hk=>⟨(.inr (Nat.le_trans (aJ aAr) hk)),lJ j8.out k_ hk,lJ jd.out k_ hk,lJ ji.out k_ hk⟩) _ (Nat.le_refl _)) (Below.refl _ _) (Nat.le_refl _) (by simp) ?_;(case hp=>exact (dF.c3 (show Kd.FK k56 _ _ (⟨j9,ja,j6⟩:S56) [.int .i64 j9, .int .i64 ja, .slice je j6.length jf] from (aAz _ _ (⟨j9,ja,j6⟩:S56) (Kd.xI (Kd.pI (ok':=(fun k_=>((P1_2_ k_∨P2_2_ k_)∨w.heap.size≤k_)∧k_≠j4∧k_≠j5∧k_≠j3)) (HO1_2.out) (fun k_ hk=>⟨hk.1.1.1,⟨hk.1.1.2,⟨hk.1.2,hk.2⟩⟩⟩))).2.1 (Kd.V_F (Kd.pI (ok':=(fun k_=>((P1_2_ k_∨P2_2_ k_)∨w.heap.size≤k_)∧k_≠j4∧k_≠j5∧k_≠j3)) (HO1_2.out) (fun k_ hk=>⟨hk.1.1.1,⟨hk.1.1.2,⟨hk.1.2,hk.2⟩⟩⟩))))) (dF.c3 (show Kd.FK k56 _ _ (⟨jb,jc,j7⟩:S56) [.int .i64 jb, .int .i64 jc, .slice jg j7.length jh] from (aAz _ _ (⟨jb,jc,j7⟩:S56) (Kd.xI (Kd.pI (ok':=(fun k_=>((P1_2_ k_∨P2_2_ k_)∨w.heap.size≤k_)∧k_≠j4∧k_≠j5∧k_≠j3)) (HO2_2.out) (fun k_ hk=>⟨hk.1.1.1,⟨hk.1.1.2,⟨hk.1.2,hk.2⟩⟩⟩))).2.1 (Kd.V_F (Kd.pI (ok':=(fun k_=>((P1_2_ k_∨P2_2_ k_)∨w.heap.size≤k_)∧k_≠j4∧k_≠j5∧k_≠j3)) (HO2_2.out) (fun k_ hk=>⟨hk.1.1.1,⟨hk.1.1.2,⟨hk.1.2,hk.2⟩⟩⟩))))) (dF.none _ _))));intro jW jX ho13 hb hg_ hnew_;clear hg_ hnew_;(first|rw [← jp.out] at ho13|(simp only [Int.reduceToNat] at ho13;rw [← jp.out] at ho13));replace HO1_2:=am (Kd.xH (by (with_reducible repeat (first|apply Kd.lX|apply Kd.lY|apply Kd.nG));exact HO1_2.out) (Kd.kC ho13) hb);replace HO2_2:=am (Kd.xH (by (with_reducible repeat (first|apply Kd.lX|apply Kd.lY|apply Kd.nG));exact HO2_2.out) (Kd.kC ho13) hb);have jq:=am (Kd.eU ho13 (aJ aAr));replace j8:=bbP j8 hb;replace jd:=bbP jd hb;replace ji:=bbP ji hb;replace HB:=am (aA aAr hb);clear hb ho13;obtain ⟨jr,js,jM⟩:=Kd.eF jq.out;subst jM;obtain ⟨jz,jA,jB,jC,jD,jE⟩:=lU ji.out))
 refine bodyPost_ret (results_cell_row rfl _ _ j3 56 #[.int .i64 a0, .int .i64 0, .slice jr jF.length js] (0,0) _ rfl (aY (aY (aY ji.out 0 _ rfl) 1 _ rfl) 2 _ rfl) Tryz.underlying56 rfl (by kernel_rfl)) rfl ?_
 exact ⟨_,gN,lN (Kd.aW (Kd.dB (p:=⟨j3,2,none⟩) (Kd.dB (p:=⟨j3,1,none⟩) (Kd.dB (p:=⟨j3,0,none⟩) (Kd.aW jq.out (fun k_ hk=>(⟨hk,hk.2.2.2⟩:_∧k_≠j3))) (fun _ hk=>hk.2) (.int .i64 a0)) (fun _ hk=>hk.2) (.int .i64 0)) (fun _ hk=>hk.2) (.slice jr jF.length js)) (fun _ hk=>hk.1.1)),aAr⟩
theorem lZ.mono:∀ a0 a1 k,LeO (lZ.f k a0 a1) (lZ.f (k + 1) a0 a1):=by
 intro a0 a1 k
 unfold lZ.f
 have m0:=@aG.mono
 exact mo_
theorem lZ.calls (k:Nat) (g:Nat) (j3:List Int) (j4:Int) (r1:Int) (r2:Int) (w0 w:World) (hI:aI w0 w g j3 j4) (hB:Below w0.heap.size w0 w) (h:lZ.f k j3 j4=some (r1,r2)):
  Calls Tryz.prog 137 #[.pointer (some ⟨g,0,none⟩)] w fun e w'=>e= .returned (.int .i64 r1)∧aI w0 w' g j3 r2∧Below w0.heap.size w0 w'∧aC w w' g none:=by
 have HI0:=am hI
 have HK:=am (aC.refl w g none)
 have HL:=am hB.size
 clear hI
 have HW0:=am hB.size
 have HB:=am hB
 clear hB
 have H:((aG.f k j3 j4 12).bind fun j5=>(some (wrap64 (1 + j5.1),j5.2)))=some (r1,r2):=h
 clear h
 obtain ⟨⟨j6,j7⟩,A2,H⟩:=bsa H
 (try dsimp only at H)
 simp only [Option.some.injEq,Prod.mk.injEq] at H
 obtain ⟨rfl,rfl⟩:=H
 go_enter Tryz.func137,Tryz.ntmps137
 go_wp2_with (first|((with_reducible refine aD (f:=37) rfl ?_);refine gl_ 4 Tryz.func37 #[.pointer (some ⟨g,0,none⟩), .int .i64 12] ?_;(with_reducible refine (aG.calls k g j3 j4 12 j6 j7 w0 _ ?side1 ?side2 A2.out).mono ?_);(case side1=>exact fQ);(case side2=>exact iX);rintro e w3 ⟨rfl,hi,hb,hk⟩;refine ⟨_,rfl,?_⟩;replace HK:=am (aC.trans fF hk (.inl rfl));replace HB:=am (hb);replace HI0:=am (hi);(try clear hb);(try clear hk);(try clear hi)))
 go_ret
 exact ⟨rr_,fQ,iX,fF⟩
theorem bI.mono_l:∀ k,(∀ y0 y1 y2,LeO (bI.f k y0 y1 y2) (bI.f (k + 1) y0 y1 y2))∧(∀ y0 y1 y2 y3,LeO (bI.j0 k y0 y1 y2 y3) (bI.j0 (k + 1) y0 y1 y2 y3))
 |0=>⟨fun _ _ _ r h=>by simp [bI.f] at h,fun _ _ _ _ r h=>by simp [bI.j0] at h⟩
 |k + 1=>by
  obtain ⟨ih0,ih1⟩:=bI.mono_l k
  refine ⟨?_,?_⟩
  ·intro y0 y1 y2
   unfold bI.f
   have m0:=@aG.mono
   have m1:=@iE.mono
   have m2:=@lZ.mono
   exact mo_
  ·intro y0 y1 y2 y3
   unfold bI.j0
   have m0:=@aG.mono
   have m1:=@iE.mono
   have m2:=@lZ.mono
   exact mo_
theorem bI.mono:∀ a0 a1 a2 k,LeO (bI.f k a0 a1 a2) (bI.f (k + 1) a0 a1 a2):=by
 intro a0 a1 a2 k
 obtain ⟨ih0,ih1⟩:=bI.mono_l k
 exact ih0 a0 a1 a2
def bI.T5:Bool × List (List Nat × List Nat):=(true,[([],[]),([],[]),([],[]),([],[]),([3],[3]),([2,4],[2,4]),([0,1,5,5],[0,1,5]),([6,6,0,1,2,3,4,5,6],[6])])
def bI.B5:List Nat:=[0,0,0,0,8,28,63,127]
theorem bI.SS:lV .any (opsOf Tryz.f130 5)=bI.T5:=by kernel_rfl
theorem bI.FN:iP bI.T5.2 bI.B5=true:=by kernel_rfl
theorem bI.calls (k:Nat):∀ (g:Nat) (j8:List Int) (jg:Int) (a1:Int) (r1:Int) (r2:Int) (r3:List (S56)) (r4:Int) (w0 w:World) (hI:aI w0 w g j8 jg) (hB:Below w0.heap.size w0 w) (h:bI.f k j8 jg a1=some (r1,r2,r3,r4)),
  Calls Tryz.prog 130 #[.pointer (some ⟨g,0,none⟩), .int .i64 a1] w fun e w'=>∃ v2_:Value,e= .returned (.agg #[.int .i64 r1, .int .i64 r2,v2_])∧Kd.N k56 56 w' w.heap.size (fun k_=>(w.heap.size≤k_)) v2_ r3∧aI w0 w' g j8 r4∧Below w0.heap.size w0 w'∧aC w w' g none:=by
 induction k using Nat.strongRecOn with
 | _ k ih=>
 intro g j8 jg a1 r1 r2 r3 r4 w0 w hI hB h
 cases k with
 |zero=>exact absurd h (by simp [bI.f])
 |succ k=>
 simp only [bI.f] at h
 have hu56:=Tryz.underlying56
 have HI0:=am hI
 have HK:=am (aC.refl w g none)
 have HL:=am hB.size
 clear hI
 have HW0:=am hB.size
 have HB:=am hB
 clear hB
 have H:=h
 clear h
 have jN:=am H
 clear H
 go_enter Tryz.func130,Tryz.ntmps130
 go_upto_region 1 with (first|((with_reducible refine cK (N:=4) rfl ?_);refine eO rfl (N:=4) rfl (cs:=#[.int .i64 0, .int .i64 0, .slice none 0 0]) (t:=56) rn_ ?_;intro j3 hg w4 hbox hb;replace HB:=am (aA iX hb);have j5:=am (hbox);have GW35:=am ((by rw [hg];exact (aM (w:=w) (g:=g) (row:=none) fF):w.heap.size≤j3));have GE35:=am ((Nat.le_trans HW0.out (by rw [hg];exact (aM (w:=w) (g:=g) (row:=none) fF):w.heap.size≤j3):w0.heap.size≤j3));replace HK:=am (aC.trans fF (aC.of_below hb g none) (.inl rfl));have NB0_35:=am ((by rw [hg];exact Nat.ne_of_lt (aI.lt (show aI w0 _ g j8 jg from fQ)):g≠j3));have jd:=am ((by rw [hg];exact Nat.ne_of_gt (aI.lt (show aI w0 _ g j8 jg from fQ)):j3≠g));replace HI0:=am (aI.below fQ hb);clear hb hbox hg))
 (try simp only [Act.put,List.setIfInBounds_toArray,List.set_cons_zero,List.set_cons_succ])
 go_cut [13] (fun qj wc=>∃ (kq:Nat) (jh:Bool) (jf:Int),qj= .bool jh∧Aside0 (bI.j0 kq a1 jh j8 jf=some (r1,r2,r3,r4))∧Aside0 (kq≤k)∧Aside0 (wc.heap[j3]?=some (.cells #[.int .i64 0, .int .i64 0,(.slice none 0 0)] 56 (0,0)))∧Aside0 (aI w0 wc g j8 jf)∧Aside0 (aC w wc g none)∧Aside0 (Below w0.heap.size w0 wc))
 case first=>
  have H:=jN.out
  clear jN
  by_cases c5:a1 < 2
  ·rw [if_pos c5] at H
   have jk:decide (a1 < 2)=true:=decide_eq_true c5
   clear c5
   (first|rw [jk]|(simp only [fI,fO];rw [jk])|skip)
   have H':=am H
   clear H
   go_wp2
   go_meet
   case rel=>exact ⟨_,(true),(jg),sd_,H',⟨by first|omega|exact Nat.le_refl _⟩,⟨by (with_reducible repeat (first|refine dQ ?_ _|refine dA ?_|refine dP ?_ _));exact j5.out⟩,⟨wV⟩,⟨vD⟩,⟨FI⟩⟩
  rw [if_neg c5] at H
  have jk:decide (a1 < 2)=false:=decide_eq_false c5
  clear c5
  (first|rw [jk]|(simp only [fI,fO];rw [jk])|skip)
  obtain ⟨⟨q6,q7⟩,A6,H⟩:=bsa H
  (try dsimp only at H)
  have H':=am H
  clear H
  go_wp2_with (first|(go_at_call 37;(with_reducible refine (aG.calls k g j8 jg 3 q6 q7 w0 _ ?side1 ?side2 A6.out).mono ?_);(case side1=>exact wV);(case side2=>exact FI);rintro e w7 ⟨rfl,hi,hb,hk⟩;replace j5:=am (aC.blk hk (g':=j3) (o:= .cells #[.int .i64 0, .int .i64 0, .slice none 0 0] 56 (0,0)) (aG_ j5.out) jd.out (by simp));replace HK:=am (aC.trans vD hk (.inl rfl));replace HB:=am (hb);replace HI0:=am (hi);(try clear hb);(try clear hk);(try clear hi)))
  go_meet
  case rel=>exact ⟨_,((q6 == 0)),(q7),sd_,H',⟨by first|omega|exact Nat.le_refl _⟩,⟨by (with_reducible repeat (first|refine dQ ?_ _|refine dA ?_|refine dP ?_ _));exact j5.out⟩,⟨wV⟩,⟨vD⟩,⟨FI⟩⟩
 case rest=>
  clear jN
  obtain ⟨kq,jh,jf,rfl,HA,HJ2,j5,HI0,HK,HB⟩:=hcut
  cases kq with
  |zero=>exact absurd HA.out (by simp [bI.j0])
  |succ jz=>
   have H:=HA.out
   clear HA
   simp only [bI.j0] at H
   by_cases c8:jh=true
   ·subst c8
    rw [if_pos rfl] at H
    obtain ⟨⟨jO,jP,jQ,qk⟩,A9,H⟩:=bsa H
    (try dsimp only at H)
    simp only [Option.some.injEq,Prod.mk.injEq] at H
    obtain ⟨rfl,rfl,rfl,rfl⟩:=H
    go_wp2_with (first|((with_reducible refine aD (f:=38) rfl ?_);refine gl_ 15 Tryz.func38 #[.pointer (some ⟨g,0,none⟩)] ?_;(with_reducible refine (iE.calls jz g j8 jf jO jP jQ qk w0 _ ?side1 ?side2 A9.out).mono ?_);(case side1=>exact wV);(case side2=>exact FI);rintro e qu ⟨qv,rfl,ho0,hi,hb,hk⟩;refine ⟨_,rfl,?_⟩;have jo:=am (Kd.eU (Kd.aW (ok':=fun k_=>(w.heap.size≤k_)∧k_≠j3∧k_≠g) (Kd.R_N (Kd.oI ho0)) (fun k_ hk_=>⟨(Nat.le_trans (aM (w:=w) (g:=g) (row:=none) vD) hk_.2.1),(lJ j5.out k_ hk_.2.1),(aI.fresh wV k_ hk_.2.1)⟩)) (aM (w:=w) (g:=g) (row:=none) vD));replace j5:=am (aC.blk hk (g':=j3) (o:= .cells #[.int .i64 0, .int .i64 0, .slice none 0 0] 56 (0,0)) (aG_ j5.out) jd.out (by simp));replace HK:=am (aC.trans vD hk (.inl rfl));replace HB:=am (hb);replace HI0:=am (hi);(try clear hb);(try clear hk);(try clear hi);(try clear ho0);have q8:=jd.out;have q9:=NB0_35.out;obtain ⟨jA,jB,jC,jD,jE,jF⟩:=lU j5.out;obtain ⟨jp,jq,jR⟩:=Kd.eF jo.out;subst jR))
    refine bodyPost_ret (results_cell_row rfl _ _ j3 56 #[.int .i64 jO, .int .i64 jP, .slice jp jQ.length jq] (0,0) _ rfl (aY (aY (aY j5.out 0 _ rfl) 1 _ rfl) 2 _ rfl) Tryz.underlying56 rfl (by kernel_rfl)) rfl ?_
    exact ⟨_,gN,lN (Kd.aW (Kd.dB (p:=⟨j3,2,none⟩) (Kd.dB (p:=⟨j3,1,none⟩) (Kd.dB (p:=⟨j3,0,none⟩) (Kd.aW jo.out (fun k_ hk=>(⟨hk,hk.2.1⟩:_∧k_≠j3))) (fun _ hk=>hk.2) (.int .i64 jO)) (fun _ hk=>hk.2) (.int .i64 jP)) (fun _ hk=>hk.2) (.slice jp jQ.length jq)) (fun _ hk=>hk.1.1)),wV,FI,vD⟩
   replace c8:=Bool.eq_false_iff.mpr c8
   subst c8
   rw [if_neg (show ¬ (false=true) by decide)] at H
   obtain ⟨⟨jS,qa⟩,qb,H⟩:=bsm H
   (try dsimp only at H)
   have ql:=am qb
   clear qb
   obtain ⟨⟨ji,jj,je,jr⟩,qc,H⟩:=bsm H
   (try dsimp only at H)
   have qm:=am qc
   clear qc
   obtain ⟨⟨jT,jU,jG,qn⟩,qd,H⟩:=bsm H
   (try dsimp only at H)
   have qo:=am qd
   clear qd
   obtain ⟨⟨jV,jW,jX⟩,qe,H⟩:=bsm H
   (try dsimp only at H)
   have qp:=am qe
   clear qe
   simp only [Option.some.injEq,Prod.mk.injEq] at H
   obtain ⟨rfl,rfl,rfl,rfl⟩:=H
   try go_wp2_with (first|((with_reducible refine aD (f:=137) rfl ?_);refine gl_ 17 Tryz.func137 #[.pointer (some ⟨g,0,none⟩)] ?_;(with_reducible refine (lZ.calls jz g j8 jf jS qa w0 _ ?side1 ?side2 ql.out).mono ?_);(case side1=>exact wV);(case side2=>exact FI);rintro e qw ⟨rfl,hi,hb,hk⟩;refine ⟨_,rfl,?_⟩;replace j5:=am (aC.blk hk (g':=j3) (o:= .cells #[.int .i64 0, .int .i64 0, .slice none 0 0] 56 (0,0)) (aG_ j5.out) jd.out (by simp));replace HK:=am (aC.trans vD hk (.inl rfl));replace HB:=am (hb);replace HI0:=am (hi);(try clear hb);(try clear hk);(try clear hi))|((with_reducible refine aD (f:=130) rfl ?_);refine gl_ 21 Tryz.func130 #[.pointer (some ⟨g,0,none⟩), .int .i64 (wrap64 (a1 - 1))] ?_;(with_reducible refine (ih jz (by have:=HJ2.out;omega) g j8 qa (wrap64 (a1 - 1)) ji jj je jr w0 _ ?side1 ?side2 qm.out).mono ?_);(case side1=>exact wV);(case side2=>exact FI);rintro e qx ⟨qy,rfl,ho0,hi,hb,hk⟩;refine ⟨_,rfl,?_⟩;have ja:=am (Kd.eU (Kd.aW (ok':=fun k_=>(w.heap.size≤k_)∧k_≠j3∧k_≠g) ho0 (fun k_ hk_=>⟨(Nat.le_trans (aM (w:=w) (g:=g) (row:=none) vD) hk_),(lJ j5.out k_ hk_),(aI.fresh wV k_ hk_)⟩)) (aM (w:=w) (g:=g) (row:=none) vD));replace j5:=am (aC.blk hk (g':=j3) (o:= .cells #[.int .i64 0, .int .i64 0, .slice none 0 0] 56 (0,0)) (aG_ j5.out) jd.out (by simp));replace HK:=am (aC.trans vD hk (.inl rfl));replace HB:=am (hb);replace HI0:=am (hi);(try clear hb);(try clear hk);(try clear hi);(try clear ho0))|((with_reducible refine cK (N:=6) rfl ?_);refine eO rfl (N:=6) rfl (cs:=#[.int .i64 0, .int .i64 0, .slice none 0 0]) (t:=56) rn_ ?_;intro j4 hg jn hbox hb;replace ja:=am (Kd.kH (Kd.CK (aN_ ja.out) j4 (Nat.le_of_eq hg.symm)) hb);replace HB:=am (aA FI hb);have j9:=am (hbox);have GW68:=am ((by rw [hg];exact (aM (w:=w) (g:=g) (row:=none) vD):w.heap.size≤j4));have GE68:=am ((Nat.le_trans HW0.out (by rw [hg];exact (aM (w:=w) (g:=g) (row:=none) vD):w.heap.size≤j4):w0.heap.size≤j4));replace HK:=am (aC.trans vD (aC.of_below hb g none) (.inl rfl));have j7:=am ((by rw [hg];exact Nat.ne_of_lt (CS j5.out):j3≠j4));have j6:=am ((by rw [hg];exact Nat.ne_of_gt (CS j5.out):j4≠j3));replace j5:=bbP j5 hb;have NB0_68:=am ((by rw [hg];exact Nat.ne_of_lt (aI.lt (show aI w0 _ g j8 jr from wV)):g≠j4));have jl:=am ((by rw [hg];exact Nat.ne_of_gt (aI.lt (show aI w0 _ g j8 jr from wV)):j4≠g));replace HI0:=am (aI.below wV hb);clear hb hbox hg;have qf:=j6.out;have qg:=j7.out;have qh:=jl.out;have qi:=NB0_68.out;obtain ⟨jH,jI,jJ,jK,jL,jM⟩:=lU j9.out;obtain ⟨jb,jc,jY⟩:=Kd.eF ja.out;subst jY))
   have jZ:Aside0 (Kd.N k56 56 (((jn.setCell ⟨j4,0,none⟩ (.int .i64 ji)).setCell ⟨j4,1,none⟩ (.int .i64 jj)).setCell ⟨j4,2,none⟩ (.slice jb je.length jc)) w.heap.size (fun k_=>(w.heap.size≤k_)∧k_≠j3∧k_≠g∧k_≠j4) (.slice jb je.length jc) je):=⟨lN (Kd.aW (Kd.dB (p:=⟨j4,2,none⟩) (Kd.dB (p:=⟨j4,1,none⟩) (Kd.dB (p:=⟨j4,0,none⟩) (Kd.aW ja.out (fun k_ hk=>(⟨hk,hk.2⟩:_∧k_≠j4))) (fun _ hk=>hk.2) (.int .i64 ji)) (fun _ hk=>hk.2) (.int .i64 jj)) (fun _ hk=>hk.2) (.slice jb je.length jc)) (fun _ hk=>⟨hk.1.1.1,⟨hk.1.1.2.1,⟨hk.1.1.2.2,hk.1.2⟩⟩⟩))⟩
   have q0:Aside0 ((((jn.setCell ⟨j4,0,none⟩ (.int .i64 ji)).setCell ⟨j4,1,none⟩ (.int .i64 jj)).setCell ⟨j4,2,none⟩ (.slice jb je.length jc)).heap[j3]?=some (.cells #[.int .i64 0, .int .i64 0, .slice none 0 0] 56 (0,0))):=⟨(mV (mV (mV j5.out j7.out _) j7.out _) j7.out _)⟩
   have q1:Aside0 ((((jn.setCell ⟨j4,0,none⟩ (.int .i64 ji)).setCell ⟨j4,1,none⟩ (.int .i64 jj)).setCell ⟨j4,2,none⟩ (.slice jb je.length jc)).heap[j4]?=some (.cells #[.int .i64 ji, .int .i64 jj, .slice jb je.length jc] 56 (0,0))):=⟨(aY (aY (aY j9.out 0 _ rfl) 1 _ rfl) 2 _ rfl)⟩
   have q2:Aside0 (aI w0 (((jn.setCell ⟨j4,0,none⟩ (.int .i64 ji)).setCell ⟨j4,1,none⟩ (.int .i64 jj)).setCell ⟨j4,2,none⟩ (.slice jb je.length jc)) g j8 jr):=⟨MZ⟩
   have q3:Aside0 (aC w (((jn.setCell ⟨j4,0,none⟩ (.int .i64 ji)).setCell ⟨j4,1,none⟩ (.int .i64 jj)).setCell ⟨j4,2,none⟩ (.slice jb je.length jc)) g none):=⟨FH⟩
   have q4:Aside0 (Below w0.heap.size w0 (((jn.setCell ⟨j4,0,none⟩ (.int .i64 ji)).setCell ⟨j4,1,none⟩ (.int .i64 jj)).setCell ⟨j4,2,none⟩ (.slice jb je.length jc))):=⟨aAq⟩
   (try clear ja)
   (try clear j5)
   (try clear j9)
   (try clear HI0)
   (try clear HK)
   (try clear HB)
   generalize (((jn.setCell ⟨j4,0,none⟩ (.int .i64 ji)).setCell ⟨j4,1,none⟩ (.int .i64 jj)).setCell ⟨j4,2,none⟩ (.slice jb je.length jc))=qq at jZ q0 q1 q2 q3 q4 ⊢
   have ja:=jZ
   have j5:=q0
   have j9:=q1
   have HI0:=q2
   have HK:=q3
   have HB:=q4
   clear jZ q0 q1 q2 q3 q4
   replace ja:=am (Kd.rF ja.out)
   replace j5:=am (dA j5.out)
   replace j9:=am (dA j9.out)
   replace HI0:=am (aI.drew HI0.out)
   replace HK:=am (gT HK.out)
   replace HB:=am (bJ HB.out)
   refine kZ (n:=8) (S:=fun w'=>w'.cell? ⟨j4,0,none⟩=some (.int .i64 ji)∧w'.cell? ⟨j4,1,none⟩=some (.int .i64 jj)∧w'.cell? ⟨j4,2,none⟩=some (.slice jb je.length jc)) (ds:=[]) (bz 8 0) (by kernel_rfl) rfl rfl (LY j9.out) (fun hHeld=>?_);refine iA bI.SS bI.FN (fun HT_ HW_=>?_)
   generalize qq.drew=qz at ja j5 j9 HI0 HK HB hHeld ⊢
   refine pr_ 0 22 (bz 8 1) HT_ ?_
   refine pr_ 2 24 (bz 8 5) HT_ ?_
   refine pr_ 3 25 (bz 8 13) HT_ ?_
   refine pr_ 4 26 (bz 8 29) HT_ ?_
   refine aFw 1 23 (bz 8 31) HT_ HW_ hHeld ?_
   refine gY (i:=5) (N:=some 27) (bz 8 63) rfl rfl (eG HT_.out (by kernel_rfl)) (by decide) (fun K hK=>?_)
   refine iF Tryz.func130 (by kernel_rfl) rfl #[.pointer (some ⟨g,0,none⟩), .int .i64 (wrap64 (a1 - 1))] (by rfl) rfl rfl mD ?_
   with_reducible refine (ih jz (by have:=HJ2.out;omega) g j8 jr (wrap64 (a1 - 1)) jT jU jG qn w0 _ ?side1 ?side2 qo.out).mono ?_
   (case side1=>exact MZ)
   (case side2=>exact aAq)
   rintro e qA ⟨qB,rfl,ho0,hi,hb,hk⟩
   refine ⟨_,rfl,?_⟩
   have jm:=am (Kd.eU (Kd.aW (ok':=fun k_=>(w.heap.size≤k_)∧some k_≠(.slice jb je.length jc:Value).ownBlock∧k_≠j3∧k_≠j4∧k_≠g) ho0 (fun k_ hk_=>⟨(Nat.le_trans (aM (w:=w) (g:=g) (row:=none) FH) hk_),(Kd.fresh' (Kd.uG (aN_ ja.out)) k_ hk_),(lJ j5.out k_ hk_),(lJ j9.out k_ hk_),(aI.fresh MZ k_ hk_)⟩)) (aM (w:=w) (g:=g) (row:=none) FH))
   replace j5:=am (aC.blk hk (g':=j3) (o:= .cells #[.int .i64 0, .int .i64 0, .slice none 0 0] 56 (0,0)) (aG_ j5.out) jd.out (by simp))
   replace ja:=am (Kd.aW (Kd.uH (Kd.wE (Kd.aW (ok:=fun k_=>(((w.heap.size≤k_))∧(k_≠j3∧(k_≠g∧k_≠j4)))) (aN_ ja.out) (fun k_ hk_=>(⟨hk_,hk_.2.2.1⟩:_∧k_≠g))) hk) (by first|exact Kd.kC ho0|exact Kd.kC (Kd.R_N ho0))) (fun _ h_=>h_.1))
   replace j9:=am (aC.blk hk (g':=j4) (o:= .cells #[.int .i64 ji, .int .i64 jj, .slice jb je.length jc] 56 (0,0)) (aG_ j9.out) jl.out (by simp))
   replace HK:=am (aC.trans FH hk (.inl rfl))
   replace HB:=am (hb)
   replace HI0:=am (hi)
   (try clear hb)
   (try clear hb2)
   (try clear hk)
   (try clear hi)
   (try clear ho0)
   obtain ⟨js,jt,ju⟩:=Kd.eF jm.out
   (first|subst ju|(injection ju with f1_ f2_ f3_;have f4_:=f1_.symm;have f5_:=f3_.symm;clear f1_ f2_ f3_;subst f4_;subst f5_))
   refine hK.out _ _ (LY j9.out) (fun hHeld=>?_)
   clear hK K
   refine eZ (a':=?_) ?_ ?_
   rotate_left
   ·exact ap_ (N:=27)
   refine gY (i:=6) (N:=some 28) (bz 8 127) rfl rfl (eG HT_.out (by kernel_rfl)) (by decide) (fun K hK=>?_)
   refine iF Tryz.func136 (by kernel_rfl) rfl #[.int .i64 jS, .agg #[.int .i64 ji, .int .i64 jj, .slice jb je.length jc], .agg #[.int .i64 jT, .int .i64 jU, .slice js jG.length jt]] (by rfl) rfl rfl mD ?_
   with_reducible refine (nP.calls jS ji jj (fun k_=>(((w.heap.size≤k_)∧(k_≠j3∧(k_≠g∧k_≠j4)))∧some k_≠(.slice js jG.length jt:Value).ownBlock)) _ _ je jT jU (fun k_=>((w.heap.size≤k_)∧(some k_≠(.slice jb je.length jc:Value).ownBlock∧(k_≠j3∧(k_≠j4∧k_≠g))))) _ _ jG jV jW jX _ ?side1 ?side2 qp.out).mono ?_
   (case side1=>exact Kd.N_V (ja.out))
   (case side2=>exact Kd.N_V (jm.out))
   rintro e q5 ⟨qC,rfl,ho0,hb⟩
   refine ⟨_,rfl,?_⟩
   replace ja:=am (Kd.rG (aN_ ja.out) (by first|exact Kd.kC ho0|exact Kd.kC (Kd.R_N ho0)) hb)
   replace jm:=am (Kd.rG (aN_ jm.out) (by first|exact Kd.kC ho0|exact Kd.kC (Kd.R_N ho0)) hb)
   have jv:=am (Kd.eU (Kd.aW (ok':=fun k_=>(w.heap.size≤k_)∧k_≠j3∧k_≠j4∧k_≠g) ho0 (fun k_ hk_=>⟨Or.elim hk_ (fun hs_=>Or.elim hs_ (fun hs_=>hs_.1.1) (fun hs_=>hs_.1)) (fun hn_=>(Nat.le_trans (aM (w:=w) (g:=g) (row:=none) FH) hn_)),Or.elim hk_ (fun hs_=>Or.elim hs_ (fun hs_=>hs_.1.2.1) (fun hs_=>hs_.2.2.1)) (fun hn_=>(lJ j5.out k_ hn_)),Or.elim hk_ (fun hs_=>Or.elim hs_ (fun hs_=>hs_.1.2.2.2) (fun hs_=>hs_.2.2.2.1)) (fun hn_=>(lJ j9.out k_ hn_)),Or.elim hk_ (fun hs_=>Or.elim hs_ (fun hs_=>hs_.1.2.2.1) (fun hs_=>hs_.2.2.2.2)) (fun hn_=>(aI.fresh MZ k_ hn_))⟩)) (aM (w:=w) (g:=g) (row:=none) FH))
   replace j5:=bbP j5 hb
   replace j9:=bbP j9 hb
   replace HK:=am (aC.trans FH (aC.of_below hb g none) (.inl rfl))
   replace HB:=am (aA aAq hb)
   replace HI0:=am (aI.below MZ hb)
   (try clear hb)
   (try clear hb2)
   (try clear hk)
   (try clear hi)
   (try clear ho0)
   obtain ⟨jw,jx,jy⟩:=Kd.eF jv.out
   (first|subst jy|(injection jy with f1_ f2_ f3_;have f4_:=f1_.symm;have f5_:=f3_.symm;clear f1_ f2_ f3_;subst f4_;subst f5_))
   refine hK.out _ _ (LY j9.out) (fun hHeld=>?_)
   clear hK K
   refine eZ (a':=?_) ?_ ?_
   rotate_left
   ·exact ap_ (N:=28)
   refine gY (i:=7) (N:=none) (bz 8 255) rfl rfl (eG HT_.out (by kernel_rfl)) (by decide) (fun K hK=>?_)
   have qr:q5.cell? ⟨j3,0,none⟩=some (.int .i64 0):=(aN j5.out 0).trans rfl
   have hfs30:=bT j5.out 0
   have hns30_1:=j6.out
   have hms30_1:=j7.out
   have qs:q5.cell? ⟨j3,1,none⟩=some (.int .i64 0):=(aN j5.out 1).trans rfl
   have hfs31:=bT j5.out 1
   have hns31_1:=j6.out
   have hms31_1:=j7.out
   have qt:q5.cell? ⟨j3,2,none⟩=some (.slice none 0 0):=(aN j5.out 2).trans rfl
   have hfs33:=bT j5.out 2
   have hns33_1:=j6.out
   have hms33_1:=j7.out
   refine xZ (w1:=?_) (by rfl) rfl ?_ ?_
   rotate_left
   ·go_simp
    rfl
   refine hK.out _ _ ⟨((cell_far (p:=⟨j3,_,none⟩) j6.out _).trans (((cell_far (p:=⟨j3,_,none⟩) j6.out _).trans (((cell_far (p:=⟨j3,_,none⟩) j6.out _).trans (hHeld.1)))))),((cell_far (p:=⟨j3,_,none⟩) j6.out _).trans (((cell_far (p:=⟨j3,_,none⟩) j6.out _).trans (((cell_far (p:=⟨j3,_,none⟩) j6.out _).trans (hHeld.2.1)))))),((cell_far (p:=⟨j3,_,none⟩) j6.out _).trans (((cell_far (p:=⟨j3,_,none⟩) j6.out _).trans (((cell_far (p:=⟨j3,_,none⟩) j6.out _).trans (hHeld.2.2))))))⟩ (fun hHeld=>?_)
   clear hK K
   refine nA (kS HT_.out (by kernel_rfl)) ?_
   try go_wp2
   refine bodyPost_ret (results_cell_row rfl _ _ j3 56 #[.int .i64 jV, .int .i64 jW, .slice jw jX.length jx] (0,0) _ rfl (aY (aY (aY j5.out 0 _ rfl) 1 _ rfl) 2 _ rfl) Tryz.underlying56 rfl (by kernel_rfl)) rfl ?_
   exact ⟨_,gN,lN (Kd.aW (Kd.dB (p:=⟨j3,2,none⟩) (Kd.dB (p:=⟨j3,1,none⟩) (Kd.dB (p:=⟨j3,0,none⟩) (Kd.aW jv.out (fun k_ hk=>(⟨hk,hk.2.1⟩:_∧k_≠j3))) (fun _ hk=>hk.2) (.int .i64 jV)) (fun _ hk=>hk.2) (.int .i64 jW)) (fun _ hk=>hk.2) (.slice jw jX.length jx)) (fun _ hk=>hk.1.1)),MZ,aAq,FH⟩
theorem gL.mono:∀ a0 a1 k,LeO (gL.f k a0 a1) (gL.f (k + 1) a0 a1):=by
 intro a0 a1 k
 unfold gL.f
 have m0:=@aG.mono
 have m1:=@bI.mono
 exact mo_
theorem gL.calls (k:Nat) (g:Nat) (j6:List Int) (j7:Int) (r1:Int) (r2:Int) (r3:Int) (r4:Int) (r5:Int) (r6:List (S56)) (r7:List (S58)) (r8:List (S58)) (r9:Int) (w0 w:World) (hI:aI w0 w g j6 j7) (hB:Below w0.heap.size w0 w) (h:gL.f k j6 j7=some (r1,r2,r3,r4,r5,r6,r7,r8,r9)):
  Calls Tryz.prog 126 #[.pointer (some ⟨g,0,none⟩)] w fun e w'=>∃ v5_ v6_ v7_:Value,e= .returned (.agg #[.int .i64 r1, .int .i64 r2, .int .i64 r3, .int .i64 r4, .int .i64 r5,v5_,v6_,v7_])∧Kd.N k56 56 w' w.heap.size (fun k_=>(w.heap.size≤k_)∧some k_≠(v6_:Value).ownBlock∧some k_≠(v7_:Value).ownBlock) v5_ r6∧Kd.N k58 58 w' w.heap.size (fun k_=>(w.heap.size≤k_)∧some k_≠(v5_:Value).ownBlock∧some k_≠(v7_:Value).ownBlock) v6_ r7∧Kd.N k58 58 w' w.heap.size (fun k_=>(w.heap.size≤k_)∧some k_≠(v5_:Value).ownBlock∧some k_≠(v6_:Value).ownBlock) v7_ r8∧aI w0 w' g j6 r9∧Below w0.heap.size w0 w'∧aC w w' g none:=by
 have hu58:=Tryz.underlying58
 have HI0:=am hI
 have HK:=am (aC.refl w g none)
 have HL:=am hB.size
 clear hI
 have HW0:=am hB.size
 have HB:=am hB
 clear hB
 unfold gL.f at h
 have H:=h
 clear h
 obtain ⟨⟨jp,ju⟩,A2,H⟩:=bsa H
 (try dsimp only at H)
 obtain ⟨⟨jq,jv⟩,A3,H⟩:=bsa H
 (try dsimp only at H)
 obtain ⟨⟨jr,js,jt,jA⟩,A4,H⟩:=bsa H
 (try dsimp only at H)
 simp only [Option.some.injEq,Prod.mk.injEq] at H
 obtain ⟨rfl,rfl,rfl,rfl,rfl,rfl,rfl,rfl,rfl⟩:=H
 go_enter Tryz.func126,Tryz.ntmps126
 go_wp2_with (first|((with_reducible refine cK (N:=2) rfl ?_);refine eO rfl (N:=2) rfl (cs:=#[.int .i64 0, .int .i64 0, .int .i64 0, .int .i64 0, .int .i64 0, .slice none 0 0, .slice none 0 0, .slice none 0 0]) (t:=58) rn_ ?_;intro j3 hg w5 hbox hb;replace HB:=am (aA iX hb);have j4:=am (hbox);have GW29:=am ((by rw [hg];exact (aM (w:=w) (g:=g) (row:=none) fF):w.heap.size≤j3));have GE29:=am ((Nat.le_trans HW0.out (by rw [hg];exact (aM (w:=w) (g:=g) (row:=none) fF):w.heap.size≤j3):w0.heap.size≤j3));replace HK:=am (aC.trans fF (aC.of_below hb g none) (.inl rfl));have NB0_29:=am ((by rw [hg];exact Nat.ne_of_lt (aI.lt (show aI w0 _ g j6 j7 from fQ)):g≠j3));have j5:=am ((by rw [hg];exact Nat.ne_of_gt (aI.lt (show aI w0 _ g j6 j7 from fQ)):j3≠g));replace HI0:=am (aI.below fQ hb);clear hb hbox hg)|((with_reducible refine aD (f:=37) rfl ?_);refine gl_ 5 Tryz.func37 #[.pointer (some ⟨g,0,none⟩), .int .i64 3] ?_;(with_reducible refine (aG.calls k g j6 j7 3 jp ju w0 _ ?side1 ?side2 A2.out).mono ?_);(case side1=>exact PY);(case side2=>exact aAs);rintro e w6 ⟨rfl,hi,hb,hk⟩;refine ⟨_,rfl,?_⟩;replace j4:=am (aC.blk hk (g':=j3) (o:= .cells #[.int .i64 0, .int .i64 0, .int .i64 0, .int .i64 0, .int .i64 0, .slice none 0 0, .slice none 0 0, .slice none 0 0] 58 (0,0)) (aG_ j4.out) j5.out (by simp));replace HK:=am (aC.trans NH hk (.inl rfl));replace HB:=am (hb);replace HI0:=am (hi);(try clear hb);(try clear hk);(try clear hi))|((with_reducible refine aD (f:=37) rfl ?_);refine gl_ 9 Tryz.func37 #[.pointer (some ⟨g,0,none⟩), .int .i64 3] ?_;(with_reducible refine (aG.calls k g j6 ju 3 jq jv w0 _ ?side1 ?side2 A3.out).mono ?_);(case side1=>exact PY);(case side2=>exact aAs);rintro e w7 ⟨rfl,hi,hb,hk⟩;refine ⟨_,rfl,?_⟩;replace j4:=am (aC.blk hk (g':=j3) (o:= .cells #[.int .i64 0, .int .i64 0, .int .i64 0, .int .i64 0, .int .i64 0, .slice none 0 0, .slice none 0 0, .slice none 0 0] 58 (0,0)) (aG_ j4.out) j5.out (by simp));replace HK:=am (aC.trans NH hk (.inl rfl));replace HB:=am (hb);replace HI0:=am (hi);(try clear hb);(try clear hk);(try clear hi))|((with_reducible refine aD (f:=130) rfl ?_);refine gl_ 11 Tryz.func130 #[.pointer (some ⟨g,0,none⟩), .int .i64 (wrap64 (1 + jq))] ?_;(with_reducible refine (bI.calls k g j6 jv (wrap64 (1 + jq)) jr js jt jA w0 _ ?side1 ?side2 A4.out).mono ?_);(case side1=>exact PY);(case side2=>exact aAs);rintro e w8 ⟨jC,rfl,ho0,hi,hb,hk⟩;refine ⟨_,rfl,?_⟩;have j8:=am (Kd.eU (Kd.aW (ok':=fun k_=>(w.heap.size≤k_)∧k_≠j3∧k_≠g) ho0 (fun k_ hk_=>⟨(Nat.le_trans (aM (w:=w) (g:=g) (row:=none) NH) hk_),(lJ j4.out k_ hk_),(aI.fresh PY k_ hk_)⟩)) (aM (w:=w) (g:=g) (row:=none) NH));replace j4:=am (aC.blk hk (g':=j3) (o:= .cells #[.int .i64 0, .int .i64 0, .int .i64 0, .int .i64 0, .int .i64 0, .slice none 0 0, .slice none 0 0, .slice none 0 0] 58 (0,0)) (aG_ j4.out) j5.out (by simp));replace HK:=am (aC.trans NH hk (.inl rfl));replace HB:=am (hb);replace HI0:=am (hi);(try clear hb);(try clear hk);(try clear hi);(try clear ho0);obtain ⟨jw,jx,jB⟩:=Kd.eF j8.out;subst jB;have jy:=j5.out;have jz:=NB0_29.out;obtain ⟨j9,ja,jb,jc,jd,je,jf,jg,jh,ji,jj,jk,jl,jm,jn,jo⟩:=fH j4.out))
 refine bodyPost_ret (results_cell_row rfl _ _ j3 58 #[.int .i64 1, .int .i64 jp, .int .i64 0, .int .i64 jr, .int .i64 js, .slice jw jt.length jx, .slice none 0 0, .slice none 0 0] (0,0) _ rfl (aY (aY (aY (aY (aY (aY (aY (aY j4.out 0 _ rfl) 1 _ rfl) 2 _ rfl) 3 _ rfl) 4 _ rfl) 5 _ rfl) 6 _ rfl) 7 _ rfl) Tryz.underlying58 rfl (by kernel_rfl)) rfl ?_
 exact ⟨_,_,_,gN,lN (Kd.aW (Kd.dB (p:=⟨j3,7,none⟩) (Kd.dB (p:=⟨j3,6,none⟩) (Kd.dB (p:=⟨j3,5,none⟩) (Kd.dB (p:=⟨j3,4,none⟩) (Kd.dB (p:=⟨j3,3,none⟩) (Kd.dB (p:=⟨j3,2,none⟩) (Kd.dB (p:=⟨j3,1,none⟩) (Kd.dB (p:=⟨j3,0,none⟩) (Kd.aW j8.out (fun k_ hk=>(⟨hk,hk.2.1⟩:_∧k_≠j3))) (fun _ hk=>hk.2) (.int .i64 1)) (fun _ hk=>hk.2) (.int .i64 jp)) (fun _ hk=>hk.2) (.int .i64 0)) (fun _ hk=>hk.2) (.int .i64 jr)) (fun _ hk=>hk.2) (.int .i64 js)) (fun _ hk=>hk.2) (.slice jw jt.length jx)) (fun _ hk=>hk.2) (.slice none 0 0)) (fun _ hk=>hk.2) (.slice none 0 0)) (fun _ hk=>⟨hk.1.1,⟨(by simp [Value.ownBlock]),(by simp [Value.ownBlock])⟩⟩)),by first|exact Kd.uI _ _ _ _ _|exact Kd.wP _ _ _ _ _|exact Kd.wS _ _ _ _ _|exact Kd.wQ _ _ _ _ _|exact Kd.wR _ _ _ _ _,by first|exact Kd.uI _ _ _ _ _|exact Kd.wP _ _ _ _ _|exact Kd.wS _ _ _ _ _|exact Kd.wQ _ _ _ _ _|exact Kd.wR _ _ _ _ _,PY,aAs,NH⟩
theorem gM.mono:∀ a0 a1 a2 k,LeO (gM.f k a0 a1 a2) (gM.f (k + 1) a0 a1 a2):=by
 intro a0 a1 a2 k
 unfold gM.f
 have m0:=@aG.mono
 have m1:=@bI.mono
 have m2:=@gL.mono
 exact mo_
theorem gM.calls (k:Nat) (g:Nat) (j6:List Int) (j7:Int) (a1:Int) (r1:Int) (r2:Int) (r3:Int) (r4:Int) (r5:Int) (r6:List (S56)) (r7:List (S58)) (r8:List (S58)) (r9:Int) (w0 w:World) (hI:aI w0 w g j6 j7) (hB:Below w0.heap.size w0 w) (h:gM.f k j6 j7 a1=some (r1,r2,r3,r4,r5,r6,r7,r8,r9)):
  Calls Tryz.prog 129 #[.pointer (some ⟨g,0,none⟩), .int .i64 a1] w fun e w'=>∃ v5_ v6_ v7_:Value,e= .returned (.agg #[.int .i64 r1, .int .i64 r2, .int .i64 r3, .int .i64 r4, .int .i64 r5,v5_,v6_,v7_])∧Kd.N k56 56 w' w.heap.size (fun k_=>(w.heap.size≤k_)∧some k_≠(v6_:Value).ownBlock∧some k_≠(v7_:Value).ownBlock) v5_ r6∧Kd.N k58 58 w' w.heap.size (fun k_=>(w.heap.size≤k_)∧some k_≠(v5_:Value).ownBlock∧some k_≠(v7_:Value).ownBlock) v6_ r7∧Kd.N k58 58 w' w.heap.size (fun k_=>(w.heap.size≤k_)∧some k_≠(v5_:Value).ownBlock∧some k_≠(v6_:Value).ownBlock) v7_ r8∧aI w0 w' g j6 r9∧Below w0.heap.size w0 w'∧aC w w' g none:=by
 have hu58:=Tryz.underlying58
 have HI0:=am hI
 have HK:=am (aC.refl w g none)
 have HL:=am hB.size
 clear hI
 have HW0:=am hB.size
 have HB:=am hB
 clear hB
 unfold gM.f at h
 have H:=h
 clear h
 have HH_:=am H
 clear H
 go_enter Tryz.func129,Tryz.ntmps129
 go_upto_region 1 with (first|((with_reducible refine cK (N:=4) rfl ?_);refine eO rfl (N:=4) rfl (cs:=#[.int .i64 0, .int .i64 0, .int .i64 0, .int .i64 0, .int .i64 0, .slice none 0 0, .slice none 0 0, .slice none 0 0]) (t:=58) rn_ ?_;intro j3 hg w5 hbox hb;replace HB:=am (aA iX hb);have j4:=am (hbox);have GW38:=am ((by rw [hg];exact (aM (w:=w) (g:=g) (row:=none) fF):w.heap.size≤j3));have GE38:=am ((Nat.le_trans HW0.out (by rw [hg];exact (aM (w:=w) (g:=g) (row:=none) fF):w.heap.size≤j3):w0.heap.size≤j3));replace HK:=am (aC.trans fF (aC.of_below hb g none) (.inl rfl));have NB0_38:=am ((by rw [hg];exact Nat.ne_of_lt (aI.lt (show aI w0 _ g j6 j7 from fQ)):g≠j3));have j5:=am ((by rw [hg];exact Nat.ne_of_gt (aI.lt (show aI w0 _ g j6 j7 from fQ)):j3≠g));replace HI0:=am (aI.below fQ hb);clear hb hbox hg))
 have H:=HH_.out
 clear HH_
 by_cases c3:a1 < 1
 ·rw [if_pos c3] at H
  have q5:decide (a1 < 1)=true:=decide_eq_true c3
  clear c3
  obtain ⟨⟨je,jf,jg,jh,ji,jj,jk,jl,qJ⟩,A4,H⟩:=bsa H
  (try dsimp only at H)
  simp only [Option.some.injEq,Prod.mk.injEq] at H
  obtain ⟨rfl,rfl,rfl,rfl,rfl,rfl,rfl,rfl,rfl⟩:=H
  go_wp2_with (first|((with_reducible refine aD (f:=126) rfl ?_);refine gl_ 9 Tryz.func126 #[.pointer (some ⟨g,0,none⟩)] ?_;(with_reducible refine (gL.calls k g j6 j7 je jf jg jh ji jj jk jl qJ w0 _ ?side1 ?side2 A4.out).mono ?_);(case side1=>exact uJ);(case side2=>exact xK);rintro e w6 ⟨qt,qu,qv,rfl,ho0,ho1,ho2,hi,hb,hk⟩;refine ⟨_,rfl,?_⟩;have jm:=am (Kd.eU (Kd.aW (ok':=fun k_=>(w.heap.size≤k_)∧some k_≠(qu:Value).ownBlock∧some k_≠(qv:Value).ownBlock∧k_≠j3∧k_≠g) ho0 (fun k_ hk_=>⟨(Nat.le_trans (aM (w:=w) (g:=g) (row:=none) rP) hk_.1),hk_.2.1,hk_.2.2,(lJ j4.out k_ hk_.1),(aI.fresh uJ k_ hk_.1)⟩)) (aM (w:=w) (g:=g) (row:=none) rP));have jn:=am (Kd.eU (Kd.aW (ok':=fun k_=>(w.heap.size≤k_)∧some k_≠(qt:Value).ownBlock∧some k_≠(qv:Value).ownBlock∧k_≠j3∧k_≠g) ho1 (fun k_ hk_=>⟨(Nat.le_trans (aM (w:=w) (g:=g) (row:=none) rP) hk_.1),hk_.2.1,hk_.2.2,(lJ j4.out k_ hk_.1),(aI.fresh uJ k_ hk_.1)⟩)) (aM (w:=w) (g:=g) (row:=none) rP));have jo:=am (Kd.eU (Kd.aW (ok':=fun k_=>(w.heap.size≤k_)∧some k_≠(qt:Value).ownBlock∧some k_≠(qu:Value).ownBlock∧k_≠j3∧k_≠g) ho2 (fun k_ hk_=>⟨(Nat.le_trans (aM (w:=w) (g:=g) (row:=none) rP) hk_.1),hk_.2.1,hk_.2.2,(lJ j4.out k_ hk_.1),(aI.fresh uJ k_ hk_.1)⟩)) (aM (w:=w) (g:=g) (row:=none) rP));replace j4:=am (aC.blk hk (g':=j3) (o:= .cells #[.int .i64 0, .int .i64 0, .int .i64 0, .int .i64 0, .int .i64 0, .slice none 0 0, .slice none 0 0, .slice none 0 0] 58 (0,0)) (aG_ j4.out) j5.out (by simp));replace HK:=am (aC.trans rP hk (.inl rfl));replace HB:=am (hb);replace HI0:=am (hi);(try clear hb);(try clear hk);(try clear hi);(try clear ho0);(try clear ho1);(try clear ho2);have qK:=j5.out;have qL:=NB0_38.out;obtain ⟨q6,q7,q8,q9,qa,qb,qc,qd,qe,qf,qg,qh,qi,qj,qk,ql⟩:=fH j4.out;obtain ⟨jv,jw,qM⟩:=Kd.eF jm.out;subst qM;obtain ⟨j8,j9,qm⟩:=Kd.eF jn.out;subst qm;obtain ⟨ja,jb,qn⟩:=Kd.eF jo.out;subst qn))
  refine bodyPost_ret (results_cell_row rfl _ _ j3 58 #[.int .i64 je, .int .i64 jf, .int .i64 jg, .int .i64 jh, .int .i64 ji, .slice jv jj.length jw, .slice j8 jk.length j9, .slice ja jl.length jb] (0,0) _ rfl (aY (aY (aY (aY (aY (aY (aY (aY j4.out 0 _ rfl) 1 _ rfl) 2 _ rfl) 3 _ rfl) 4 _ rfl) 5 _ rfl) 6 _ rfl) 7 _ rfl) Tryz.underlying58 rfl (by kernel_rfl)) rfl ?_
  exact ⟨_,_,_,gN,lN (Kd.aW (Kd.dB (p:=⟨j3,7,none⟩) (Kd.dB (p:=⟨j3,6,none⟩) (Kd.dB (p:=⟨j3,5,none⟩) (Kd.dB (p:=⟨j3,4,none⟩) (Kd.dB (p:=⟨j3,3,none⟩) (Kd.dB (p:=⟨j3,2,none⟩) (Kd.dB (p:=⟨j3,1,none⟩) (Kd.dB (p:=⟨j3,0,none⟩) (Kd.aW jm.out (fun k_ hk=>(⟨hk,hk.2.2.2.1⟩:_∧k_≠j3))) (fun _ hk=>hk.2) (.int .i64 je)) (fun _ hk=>hk.2) (.int .i64 jf)) (fun _ hk=>hk.2) (.int .i64 jg)) (fun _ hk=>hk.2) (.int .i64 jh)) (fun _ hk=>hk.2) (.int .i64 ji)) (fun _ hk=>hk.2) (.slice jv jj.length jw)) (fun _ hk=>hk.2) (.slice j8 jk.length j9)) (fun _ hk=>hk.2) (.slice ja jl.length jb)) (fun _ hk=>⟨hk.1.1,⟨hk.1.2.1,hk.1.2.2.1⟩⟩)),lN (Kd.aW (Kd.dB (p:=⟨j3,7,none⟩) (Kd.dB (p:=⟨j3,6,none⟩) (Kd.dB (p:=⟨j3,5,none⟩) (Kd.dB (p:=⟨j3,4,none⟩) (Kd.dB (p:=⟨j3,3,none⟩) (Kd.dB (p:=⟨j3,2,none⟩) (Kd.dB (p:=⟨j3,1,none⟩) (Kd.dB (p:=⟨j3,0,none⟩) (Kd.aW jn.out (fun k_ hk=>(⟨hk,hk.2.2.2.1⟩:_∧k_≠j3))) (fun _ hk=>hk.2) (.int .i64 je)) (fun _ hk=>hk.2) (.int .i64 jf)) (fun _ hk=>hk.2) (.int .i64 jg)) (fun _ hk=>hk.2) (.int .i64 jh)) (fun _ hk=>hk.2) (.int .i64 ji)) (fun _ hk=>hk.2) (.slice jv jj.length jw)) (fun _ hk=>hk.2) (.slice j8 jk.length j9)) (fun _ hk=>hk.2) (.slice ja jl.length jb)) (fun _ hk=>⟨hk.1.1,⟨hk.1.2.1,hk.1.2.2.1⟩⟩)),lN (Kd.aW (Kd.dB (p:=⟨j3,7,none⟩) (Kd.dB (p:=⟨j3,6,none⟩) (Kd.dB (p:=⟨j3,5,none⟩) (Kd.dB (p:=⟨j3,4,none⟩) (Kd.dB (p:=⟨j3,3,none⟩) (Kd.dB (p:=⟨j3,2,none⟩) (Kd.dB (p:=⟨j3,1,none⟩) (Kd.dB (p:=⟨j3,0,none⟩) (Kd.aW jo.out (fun k_ hk=>(⟨hk,hk.2.2.2.1⟩:_∧k_≠j3))) (fun _ hk=>hk.2) (.int .i64 je)) (fun _ hk=>hk.2) (.int .i64 jf)) (fun _ hk=>hk.2) (.int .i64 jg)) (fun _ hk=>hk.2) (.int .i64 jh)) (fun _ hk=>hk.2) (.int .i64 ji)) (fun _ hk=>hk.2) (.slice jv jj.length jw)) (fun _ hk=>hk.2) (.slice j8 jk.length j9)) (fun _ hk=>hk.2) (.slice ja jl.length jb)) (fun _ hk=>⟨hk.1.1,⟨hk.1.2.1,hk.1.2.2.1⟩⟩)),uJ,xK,rP⟩
 rw [if_neg c3] at H
 have q5:decide (a1 < 1)=false:=decide_eq_false c3
 clear c3
 obtain ⟨⟨jp,jx⟩,qw,H⟩:=bsm H
 (try dsimp only at H)
 have qx:=am qw
 clear qw
 obtain ⟨⟨jc,jy⟩,qy,H⟩:=bsm H
 (try dsimp only at H)
 have qz:=am qy
 clear qy
 by_cases jd:jc=0
 ·rw [if_pos jd] at H
  have jq:(jc == 0)=true:=beq_iff_eq.mpr jd
  have jr:(jc != 0)=false:=bne_eq_false_iff_eq.mpr jd
  clear jd
  obtain ⟨⟨qo,qA⟩,qB,H⟩:=bsm H
  (try dsimp only at H)
  have qN:=am qB
  clear qB
  obtain ⟨⟨qp,qq,qr,qO⟩,qC,H⟩:=bsm H
  (try dsimp only at H)
  have qP:=am qC
  clear qC
  simp only [Option.some.injEq,Prod.mk.injEq] at H
  obtain ⟨rfl,rfl,rfl,rfl,rfl,rfl,rfl,rfl,rfl⟩:=H
  go_wp2_with (first|((with_reducible refine aD (f:=37) rfl ?_);refine gl_ 12 Tryz.func37 #[.pointer (some ⟨g,0,none⟩), .int .i64 a1] ?_;(with_reducible refine (aG.calls k g j6 j7 a1 jp jx w0 _ ?side1 ?side2 qx.out).mono ?_);(case side1=>exact uJ);(case side2=>exact xK);rintro e qS ⟨rfl,hi,hb,hk⟩;refine ⟨_,rfl,?_⟩;replace j4:=am (aC.blk hk (g':=j3) (o:= .cells #[.int .i64 0, .int .i64 0, .int .i64 0, .int .i64 0, .int .i64 0, .slice none 0 0, .slice none 0 0, .slice none 0 0] 58 (0,0)) (aG_ j4.out) j5.out (by simp));replace HK:=am (aC.trans rP hk (.inl rfl));replace HB:=am (hb);replace HI0:=am (hi);(try clear hb);(try clear hk);(try clear hi))|((with_reducible refine aD (f:=37) rfl ?_);refine gl_ 14 Tryz.func37 #[.pointer (some ⟨g,0,none⟩), .int .i64 2] ?_;(with_reducible refine (aG.calls k g j6 jx 2 jc jy w0 _ ?side1 ?side2 qz.out).mono ?_);(case side1=>exact uJ);(case side2=>exact xK);rintro e qU ⟨rfl,hi,hb,hk⟩;refine ⟨_,rfl,?_⟩;replace j4:=am (aC.blk hk (g':=j3) (o:= .cells #[.int .i64 0, .int .i64 0, .int .i64 0, .int .i64 0, .int .i64 0, .slice none 0 0, .slice none 0 0, .slice none 0 0] 58 (0,0)) (aG_ j4.out) j5.out (by simp));replace HK:=am (aC.trans rP hk (.inl rfl));replace HB:=am (hb);replace HI0:=am (hi);(try clear hb);(try clear hk);(try clear hi))|((with_reducible refine aD (f:=37) rfl ?_);refine gl_ 19 Tryz.func37 #[.pointer (some ⟨g,0,none⟩), .int .i64 3] ?_;(with_reducible refine (aG.calls k g j6 jy 3 qo qA w0 _ ?side1 ?side2 qN.out).mono ?_);(case side1=>exact uJ);(case side2=>exact xK);rintro e qV ⟨rfl,hi,hb,hk⟩;refine ⟨_,rfl,?_⟩;replace j4:=am (aC.blk hk (g':=j3) (o:= .cells #[.int .i64 0, .int .i64 0, .int .i64 0, .int .i64 0, .int .i64 0, .slice none 0 0, .slice none 0 0, .slice none 0 0] 58 (0,0)) (aG_ j4.out) j5.out (by simp));replace HK:=am (aC.trans rP hk (.inl rfl));replace HB:=am (hb);replace HI0:=am (hi);(try clear hb);(try clear hk);(try clear hi))|((with_reducible refine aD (f:=130) rfl ?_);refine gl_ 21 Tryz.func130 #[.pointer (some ⟨g,0,none⟩), .int .i64 (wrap64 (1 + qo))] ?_;(with_reducible refine (bI.calls k g j6 qA (wrap64 (1 + qo)) qp qq qr qO w0 _ ?side1 ?side2 qP.out).mono ?_);(case side1=>exact uJ);(case side2=>exact xK);rintro e qW ⟨qX,rfl,ho0,hi,hb,hk⟩;refine ⟨_,rfl,?_⟩;have js:=am (Kd.eU (Kd.aW (ok':=fun k_=>(w.heap.size≤k_)∧k_≠j3∧k_≠g) ho0 (fun k_ hk_=>⟨(Nat.le_trans (aM (w:=w) (g:=g) (row:=none) rP) hk_),(lJ j4.out k_ hk_),(aI.fresh uJ k_ hk_)⟩)) (aM (w:=w) (g:=g) (row:=none) rP));replace j4:=am (aC.blk hk (g':=j3) (o:= .cells #[.int .i64 0, .int .i64 0, .int .i64 0, .int .i64 0, .int .i64 0, .slice none 0 0, .slice none 0 0, .slice none 0 0] 58 (0,0)) (aG_ j4.out) j5.out (by simp));replace HK:=am (aC.trans rP hk (.inl rfl));replace HB:=am (hb);replace HI0:=am (hi);(try clear hb);(try clear hk);(try clear hi);(try clear ho0);obtain ⟨jt,ju,qs⟩:=Kd.eF js.out;subst qs;have qD:=j5.out;have qE:=NB0_38.out;obtain ⟨jz,jA,jB,jC,jD,jE,jF,jG,jH,jI,jJ,jK,jL,jM,jN,jO⟩:=fH j4.out))
  refine bodyPost_ret (results_cell_row rfl _ _ j3 58 #[.int .i64 4, .int .i64 0, .int .i64 jp, .int .i64 qp, .int .i64 qq, .slice jt qr.length ju, .slice none 0 0, .slice none 0 0] (0,0) _ rfl (aY (aY (aY (aY (aY (aY (aY (aY j4.out 0 _ rfl) 1 _ rfl) 2 _ rfl) 3 _ rfl) 4 _ rfl) 5 _ rfl) 6 _ rfl) 7 _ rfl) Tryz.underlying58 rfl (by kernel_rfl)) rfl ?_
  exact ⟨_,_,_,gN,lN (Kd.aW (Kd.dB (p:=⟨j3,7,none⟩) (Kd.dB (p:=⟨j3,6,none⟩) (Kd.dB (p:=⟨j3,5,none⟩) (Kd.dB (p:=⟨j3,4,none⟩) (Kd.dB (p:=⟨j3,3,none⟩) (Kd.dB (p:=⟨j3,2,none⟩) (Kd.dB (p:=⟨j3,1,none⟩) (Kd.dB (p:=⟨j3,0,none⟩) (Kd.aW js.out (fun k_ hk=>(⟨hk,hk.2.1⟩:_∧k_≠j3))) (fun _ hk=>hk.2) (.int .i64 4)) (fun _ hk=>hk.2) (.int .i64 0)) (fun _ hk=>hk.2) (.int .i64 jp)) (fun _ hk=>hk.2) (.int .i64 qp)) (fun _ hk=>hk.2) (.int .i64 qq)) (fun _ hk=>hk.2) (.slice jt qr.length ju)) (fun _ hk=>hk.2) (.slice none 0 0)) (fun _ hk=>hk.2) (.slice none 0 0)) (fun _ hk=>⟨hk.1.1,⟨(by simp [Value.ownBlock]),(by simp [Value.ownBlock])⟩⟩)),by first|exact Kd.uI _ _ _ _ _|exact Kd.wP _ _ _ _ _|exact Kd.wS _ _ _ _ _|exact Kd.wQ _ _ _ _ _|exact Kd.wR _ _ _ _ _,by first|exact Kd.uI _ _ _ _ _|exact Kd.wP _ _ _ _ _|exact Kd.wS _ _ _ _ _|exact Kd.wQ _ _ _ _ _|exact Kd.wR _ _ _ _ _,uJ,xK,rP⟩
 rw [if_neg jd] at H
 have jq:(jc == 0)=false:=beq_eq_false_iff_ne.mpr jd
 have jr:(jc != 0)=true:=bne_iff_ne.mpr jd
 obtain ⟨⟨qF,qQ⟩,qG,H⟩:=bsm H
 (try dsimp only at H)
 have qR:=am qG
 clear qG
 simp only [Option.some.injEq,Prod.mk.injEq] at H
 obtain ⟨rfl,rfl,rfl,rfl,rfl,rfl,rfl,rfl,rfl⟩:=H
 go_wp2_with (first|((with_reducible refine aD (f:=37) rfl ?_);refine gl_ 12 Tryz.func37 #[.pointer (some ⟨g,0,none⟩), .int .i64 a1] ?_;(with_reducible refine (aG.calls k g j6 j7 a1 jp jx w0 _ ?side1 ?side2 qx.out).mono ?_);(case side1=>exact uJ);(case side2=>exact xK);rintro e qY ⟨rfl,hi,hb,hk⟩;refine ⟨_,rfl,?_⟩;replace j4:=am (aC.blk hk (g':=j3) (o:= .cells #[.int .i64 0, .int .i64 0, .int .i64 0, .int .i64 0, .int .i64 0, .slice none 0 0, .slice none 0 0, .slice none 0 0] 58 (0,0)) (aG_ j4.out) j5.out (by simp));replace HK:=am (aC.trans rP hk (.inl rfl));replace HB:=am (hb);replace HI0:=am (hi);(try clear hb);(try clear hk);(try clear hi))|((with_reducible refine aD (f:=37) rfl ?_);refine gl_ 14 Tryz.func37 #[.pointer (some ⟨g,0,none⟩), .int .i64 2] ?_;(with_reducible refine (aG.calls k g j6 jx 2 jc jy w0 _ ?side1 ?side2 qz.out).mono ?_);(case side1=>exact uJ);(case side2=>exact xK);rintro e qZ ⟨rfl,hi,hb,hk⟩;refine ⟨_,rfl,?_⟩;replace j4:=am (aC.blk hk (g':=j3) (o:= .cells #[.int .i64 0, .int .i64 0, .int .i64 0, .int .i64 0, .int .i64 0, .slice none 0 0, .slice none 0 0, .slice none 0 0] 58 (0,0)) (aG_ j4.out) j5.out (by simp));replace HK:=am (aC.trans rP hk (.inl rfl));replace HB:=am (hb);replace HI0:=am (hi);(try clear hb);(try clear hk);(try clear hi))|((with_reducible refine aD (f:=37) rfl ?_);refine gl_ 25 Tryz.func37 #[.pointer (some ⟨g,0,none⟩), .int .i64 3] ?_;(with_reducible refine (aG.calls k g j6 jy 3 qF qQ w0 _ ?side1 ?side2 qR.out).mono ?_);(case side1=>exact uJ);(case side2=>exact xK);rintro e z0 ⟨rfl,hi,hb,hk⟩;refine ⟨_,rfl,?_⟩;replace j4:=am (aC.blk hk (g':=j3) (o:= .cells #[.int .i64 0, .int .i64 0, .int .i64 0, .int .i64 0, .int .i64 0, .slice none 0 0, .slice none 0 0, .slice none 0 0] 58 (0,0)) (aG_ j4.out) j5.out (by simp));replace HK:=am (aC.trans rP hk (.inl rfl));replace HB:=am (hb);replace HI0:=am (hi);(try clear hb);(try clear hk);(try clear hi);have qH:=j5.out;have qI:=NB0_38.out;obtain ⟨jP,jQ,jR,jS,jT,jU,jV,jW,jX,jY,jZ,q0,q1,q2,q3,q4⟩:=fH j4.out))
 refine bodyPost_ret (results_cell_row rfl _ _ j3 58 #[.int .i64 5, .int .i64 qF, .int .i64 jp, .int .i64 0, .int .i64 0, .slice none 0 0, .slice none 0 0, .slice none 0 0] (0,0) _ rfl (aY (aY (aY (aY (aY (aY (aY (aY j4.out 0 _ rfl) 1 _ rfl) 2 _ rfl) 3 _ rfl) 4 _ rfl) 5 _ rfl) 6 _ rfl) 7 _ rfl) Tryz.underlying58 rfl (by kernel_rfl)) rfl ?_
 exact ⟨_,_,_,gN,by first|exact Kd.uI _ _ _ _ _|exact Kd.wP _ _ _ _ _|exact Kd.wS _ _ _ _ _|exact Kd.wQ _ _ _ _ _|exact Kd.wR _ _ _ _ _,by first|exact Kd.uI _ _ _ _ _|exact Kd.wP _ _ _ _ _|exact Kd.wS _ _ _ _ _|exact Kd.wQ _ _ _ _ _|exact Kd.wR _ _ _ _ _,by first|exact Kd.uI _ _ _ _ _|exact Kd.wP _ _ _ _ _|exact Kd.wS _ _ _ _ _|exact Kd.wQ _ _ _ _ _|exact Kd.wR _ _ _ _ _,uJ,xK,rP⟩
theorem dV.mono_all:∀ k,(∀ y0 y1 y2 y3 y4,LeO (dV.f k y0 y1 y2 y3 y4) (dV.f (k + 1) y0 y1 y2 y3 y4))∧(∀ y0 y1 y2 y3,LeO (fA.f k y0 y1 y2 y3) (fA.f (k + 1) y0 y1 y2 y3))∧(∀ y0 y1 y2 y3 y4,LeO (bD.f k y0 y1 y2 y3 y4) (bD.f (k + 1) y0 y1 y2 y3 y4))∧(∀ y0 y1 y2 y3 y4 y5 y6,LeO (bD.j0 k y0 y1 y2 y3 y4 y5 y6) (bD.j0 (k + 1) y0 y1 y2 y3 y4 y5 y6))∧(∀ y0 y1 y2 y3 y4,LeO (bD.j1 k y0 y1 y2 y3 y4) (bD.j1 (k + 1) y0 y1 y2 y3 y4))∧(∀ y0 y1 y2 y3 y4,LeO (bD.j2 k y0 y1 y2 y3 y4) (bD.j2 (k + 1) y0 y1 y2 y3 y4))∧(∀ y0 y1 y2 y3 y4 y5,LeO (bR.f k y0 y1 y2 y3 y4 y5) (bR.f (k + 1) y0 y1 y2 y3 y4 y5))∧(∀ y0 y1 y2 y3 y4 y5 y6 y7,LeO (bR.l0 k y0 y1 y2 y3 y4 y5 y6 y7) (bR.l0 (k + 1) y0 y1 y2 y3 y4 y5 y6 y7))
 |0=>⟨fun _ _ _ _ _ r h=>by simp [dV.f] at h,fun _ _ _ _ r h=>by simp [fA.f] at h,fun _ _ _ _ _ r h=>by simp [bD.f] at h,fun _ _ _ _ _ _ _ r h=>by simp [bD.j0] at h,fun _ _ _ _ _ r h=>by simp [bD.j1] at h,fun _ _ _ _ _ r h=>by simp [bD.j2] at h,fun _ _ _ _ _ _ r h=>by simp [bR.f] at h,fun _ _ _ _ _ _ _ _ r h=>by simp [bR.l0] at h⟩
 |k + 1=>by
  obtain ⟨ih0,ih1,ih2,ih3,ih4,ih5,ih6,ih7⟩:=dV.mono_all k
  refine ⟨?_,?_,?_,?_,?_,?_,?_,?_⟩
  ·intro y0 y1 y2 y3 y4
   unfold dV.f
   have m0:=@aG.mono
   have m1:=@bI.mono
   have m2:=@gL.mono
   have m3:=@gM.mono
   exact mo_
  ·intro y0 y1 y2 y3
   unfold fA.f
   have m0:=@aG.mono
   have m1:=@bI.mono
   have m2:=@gL.mono
   have m3:=@gM.mono
   exact mo_
  ·intro y0 y1 y2 y3 y4
   unfold bD.f
   have m0:=@aG.mono
   have m1:=@bI.mono
   have m2:=@gL.mono
   have m3:=@gM.mono
   exact mo_
  ·intro y0 y1 y2 y3 y4 y5 y6
   unfold bD.j0
   have m0:=@aG.mono
   have m1:=@bI.mono
   have m2:=@gL.mono
   have m3:=@gM.mono
   exact mo_
  ·intro y0 y1 y2 y3 y4
   unfold bD.j1
   have m0:=@aG.mono
   have m1:=@bI.mono
   have m2:=@gL.mono
   have m3:=@gM.mono
   exact mo_
  ·intro y0 y1 y2 y3 y4
   unfold bD.j2
   have m0:=@aG.mono
   have m1:=@bI.mono
   have m2:=@gL.mono
   have m3:=@gM.mono
   exact mo_
  ·intro y0 y1 y2 y3 y4 y5
   unfold bR.f
   have m0:=@aG.mono
   have m1:=@bI.mono
   have m2:=@gL.mono
   have m3:=@gM.mono
   exact mo_
  ·intro y0 y1 y2 y3 y4 y5 y6 y7
   unfold bR.l0
   have m0:=@aG.mono
   have m1:=@bI.mono
   have m2:=@gL.mono
   have m3:=@gM.mono
   exact mo_
theorem dV.mono:∀ a0 a1 a2 a3 a4 k,LeO (dV.f k a0 a1 a2 a3 a4) (dV.f (k + 1) a0 a1 a2 a3 a4):=by
 intro a0 a1 a2 a3 a4 k
 obtain ⟨ih0,ih1,ih2,ih3,ih4,ih5,ih6,ih7⟩:=dV.mono_all k
 exact ih0 a0 a1 a2 a3 a4
theorem fA.mono:∀ a0 a1 a2 a3 k,LeO (fA.f k a0 a1 a2 a3) (fA.f (k + 1) a0 a1 a2 a3):=by
 intro a0 a1 a2 a3 k
 obtain ⟨ih0,ih1,ih2,ih3,ih4,ih5,ih6,ih7⟩:=dV.mono_all k
 exact ih1 a0 a1 a2 a3
theorem bD.mono:∀ a0 a1 a2 a3 a4 k,LeO (bD.f k a0 a1 a2 a3 a4) (bD.f (k + 1) a0 a1 a2 a3 a4):=by
 intro a0 a1 a2 a3 a4 k
 obtain ⟨ih0,ih1,ih2,ih3,ih4,ih5,ih6,ih7⟩:=dV.mono_all k
 exact ih2 a0 a1 a2 a3 a4
theorem bR.mono:∀ a0 a1 a2 a3 a4 a5 k,LeO (bR.f k a0 a1 a2 a3 a4 a5) (bR.f (k + 1) a0 a1 a2 a3 a4 a5):=by
 intro a0 a1 a2 a3 a4 a5 k
 obtain ⟨ih0,ih1,ih2,ih3,ih4,ih5,ih6,ih7⟩:=dV.mono_all k
 exact ih6 a0 a1 a2 a3 a4 a5
abbrev dV.dJ (k:Nat):Prop:=∀ (g:Nat) (s0_0:List Int) (s0_1:Int) (a1:Int) (a2:Int) (a3:Bool) (r1:Int) (r2:Int) (r3:Int) (r4:Int) (r5:Int) (r6:List (S56)) (r7:List (S58)) (r8:List (S58)) (r9:Int) (w0 w:World) (hI:aI w0 w g s0_0 s0_1) (hB:Below w0.heap.size w0 w) (h:dV.f k s0_0 s0_1 a1 a2 a3=some (r1,r2,r3,r4,r5,r6,r7,r8,r9)),
  Calls Tryz.prog 127 #[.pointer (some ⟨g,0,none⟩), .int .i64 a1, .int .i64 a2, .bool a3] w fun e w'=>∃ v5_ v6_ v7_:Value,e= .returned (.agg #[.int .i64 r1, .int .i64 r2, .int .i64 r3, .int .i64 r4, .int .i64 r5,v5_,v6_,v7_])∧Kd.N k56 56 w' w.heap.size (fun k_=>(w.heap.size≤k_)∧some k_≠(v6_:Value).ownBlock∧some k_≠(v7_:Value).ownBlock) v5_ r6∧Kd.N k58 58 w' w.heap.size (fun k_=>(w.heap.size≤k_)∧some k_≠(v5_:Value).ownBlock∧some k_≠(v7_:Value).ownBlock) v6_ r7∧Kd.N k58 58 w' w.heap.size (fun k_=>(w.heap.size≤k_)∧some k_≠(v5_:Value).ownBlock∧some k_≠(v6_:Value).ownBlock) v7_ r8∧aI w0 w' g s0_0 r9∧Below w0.heap.size w0 w'∧aC w w' g none
abbrev fA.dJ (k:Nat):Prop:=∀ (g:Nat) (s0_0:List Int) (s0_1:Int) (a1:Int) (a2:Int) (r1:List (S58)) (r2:Int) (w0 w:World) (hI:aI w0 w g s0_0 s0_1) (hB:Below w0.heap.size w0 w) (h:fA.f k s0_0 s0_1 a1 a2=some (r1,r2)),
  Calls Tryz.prog 128 #[.pointer (some ⟨g,0,none⟩), .int .i64 a1, .int .i64 a2] w fun e w'=>∃ v0_:Value,e= .returned (v0_)∧Kd.N k58 58 w' w.heap.size (fun k_=>(w.heap.size≤k_)) v0_ r1∧aI w0 w' g s0_0 r2∧Below w0.heap.size w0 w'∧aC w w' g none
abbrev bD.dJ (k:Nat):Prop:=∀ (g:Nat) (s0_0:List Int) (s0_1:Int) (a1:Int) (a2:Int) (a3:Bool) (r1:List (S58)) (r2:Int) (w0 w:World) (hI:aI w0 w g s0_0 s0_1) (hB:Below w0.heap.size w0 w) (h:bD.f k s0_0 s0_1 a1 a2 a3=some (r1,r2)),
  Calls Tryz.prog 107 #[.pointer (some ⟨g,0,none⟩), .int .i64 a1, .int .i64 a2, .bool a3] w fun e w'=>∃ v0_:Value,e= .returned (v0_)∧Kd.N k58 58 w' w.heap.size (fun k_=>(w.heap.size≤k_)) v0_ r1∧aI w0 w' g s0_0 r2∧Below w0.heap.size w0 w'∧aC w w' g none
abbrev bR.dJ (k:Nat):Prop:=∀ (g:Nat) (s0_0:List Int) (s0_1:Int) (a1:Int) (a2:Int) (a3:Int) (a4:Bool) (r1:List (S58)) (r2:Int) (w0 w:World) (hI:aI w0 w g s0_0 s0_1) (hB:Below w0.heap.size w0 w) (h:bR.f k s0_0 s0_1 a1 a2 a3 a4=some (r1,r2)),
  Calls Tryz.prog 82 #[.pointer (some ⟨g,0,none⟩), .int .i64 a1, .int .i64 a2, .int .i64 a3, .bool a4] w fun e w'=>∃ v0_:Value,e= .returned (v0_)∧Kd.N k58 58 w' w.heap.size (fun k_=>(w.heap.size≤k_)) v0_ r1∧aI w0 w' g s0_0 r2∧Below w0.heap.size w0 w'∧aC w w' g none
theorem OQ {P:Program} {ops:Array Oper} {Q:Exit→Act→World→Prop} {n:Nat} {T:Bool × List (List Nat × List Nat)} (hn:ops.size=n) (hT:lV .any ops=T)
  (hac:(List.range n).all (fun i=>match T.2[i]? with|some r=>r.1.all (fun j=>decide (j < i))|none=>false)=true)
  (I:(Nat→Bool)→Act→World→Prop)
  (hstep:∀ (i:Nat) (b:Nat→Bool) (a:Act) (w:World),i < n→b i=false→(∀ r,T.2[i]?=some r→∀ j ∈ r.1,b j=true)→(∀ j r,b j=true→T.2[j]?=some r→∀ q ∈ r.1,b q=true)→I b a w→wpOp P ops Q i (fun a' w'=>I (fun j=>if j=i then true else b j) a' w') a w)
  (hdone:∀ (b:Nat→Bool) (a:Act) (w:World),(∀ j,j < n→b j=true)→I b a w→Q .normal a w)
  (a:Act) (w:World) (h0:I (fun _=>false) a w):wpAny P .any ops Q n (Array.replicate n false) a w:=by
 have key:∀ (fuel:Nat) (l:Array Bool) (a:Act) (w:World),l.size=n→((List.range n).countP (fun j=>!l.getD j false))≤fuel→
   (∀ j r,l.getD j false=true→T.2[j]?=some r→∀ q ∈ r.1,l.getD q false=true)→I (fun j=>l.getD j false) a w→wpAny P .any ops Q fuel l a w:=by
  have all_of:∀ l:Array Bool,l.size=n→Region.ready .any ops l=[]→∀ j,j < n→l.getD j false=true:=by
   intro l hl hr j
   induction j using Nat.strongRecOn with
   | _ j ih=>
   intro hj
   cases hb:l.getD j false with
   |true=>rfl
   |false=>
    have hm:j ∈ Region.ready .any ops l:=by
     rw [ready_eq,hT]
     unfold xY
     have hlen:T.2.length=n:=by rw [← hT,sZ,hn]
     rw [List.mem_filter,List.mem_range,hlen]
     refine ⟨hj,?_⟩
     unfold sQ
     have e1:l.toList.getD j true=false:=by
      rw [← gd]
      have hlt:j < l.size:=by omega
      simp only [Array.getD_eq_getD_getElem?,Array.getElem?_eq_getElem hlt,Option.getD_some] at hb ⊢
      exact hb
     rw [e1]
     have h1:=List.all_eq_true.1 hac j (List.mem_range.2 hj)
     cases hq:T.2[j]? with
     |none=>rw [hq] at h1;cases h1
     |some r=>
      rw [hq] at h1
      simp only [List.all_eq_true,decide_eq_true_eq] at h1
      simp only [Bool.not_false,Bool.true_and,List.all_eq_true]
      intro q hqm
      rw [← gd]
      exact ih q (h1 q hqm) (by have:=h1 q hqm;omega)
    rw [hr] at hm
    cases hm
  intro fuel
  induction fuel with
  |zero=>
   intro l a w hl hc hcl hI
   have hall:∀ j,j < n→l.getD j false=true:=by
    intro j hj
    have:=List.countP_eq_zero.1 (Nat.le_zero.1 hc) j (List.mem_range.2 hj)
    simpa using this
   refine ⟨?_,hdone _ a w hall hI⟩
   cases hr:Region.ready .any ops l with
   |nil=>rfl
   |cons i rs=>
    have hm:i ∈ Region.ready .any ops l:=by rw [hr];exact List.mem_cons_self
    obtain ⟨h1,o,h2,_⟩:=mem_ready.1 hm
    have hi:i < l.size:=by rw [hl,← hn];exact (Array.getElem?_eq_some_iff.1 h2).1
    have:=hall i (by omega)
    simp only [Array.getD_eq_getD_getElem?,Array.getElem?_eq_getElem hi,Option.getD_some] at h1 this
    rw [h1] at this
    cases this
  |succ fuel ih=>
   intro l a w hl hc hcl hI
   refine ⟨fun hr=>hdone _ a w (all_of l hl hr) hI,fun i hm=>?_⟩
   obtain ⟨h1,o,h2,h3⟩:=mem_ready.1 hm
   have hi:i < n:=by rw [← hn];exact (Array.getElem?_eq_some_iff.1 h2).1
   have hil:i < l.size:=by omega
   have hbi:l.getD i false=false:=by
    simp only [Array.getD_eq_getD_getElem?,Array.getElem?_eq_getElem hil,Option.getD_some] at h1 ⊢
    exact h1
   have hneed:∀ r,T.2[i]?=some r→∀ j ∈ r.1,l.getD j false=true:=by
    intro r hr j hj
    rw [ready_eq,hT] at hm
    unfold xY at hm
    have:=(List.mem_filter.1 hm).2
    unfold sQ at this
    rw [hr,Bool.and_eq_true] at this
    have h5:=List.all_eq_true.1 this.2 j hj
    rw [← gd] at h5
    exact h5
   have hf:∀ j,(l.setIfInBounds i true).getD j false=if j=i then true else l.getD j false:=by
    intro j
    by_cases hji:j=i
    ·subst hji
     rw [if_pos rfl]
     simp [Array.getD_eq_getD_getElem?,hil]
    rw [if_neg hji]
    simp [Array.getD_eq_getD_getElem?,Array.getElem?_setIfInBounds,Ne.symm hji]
   refine wpOp_mono (fun a' w' h'=>ih _ a' w' (by rw [Array.size_setIfInBounds];exact hl) ?_ ?_ ?_) (hstep i (fun j=>l.getD j false) a w hi hbi hneed hcl hI)
   ·have hlt:(List.range n).countP (fun j=>!(l.setIfInBounds i true).getD j false) < (List.range n).countP (fun j=>!l.getD j false):=by
     rw [List.countP_eq_length_filter,List.countP_eq_length_filter]
     have hsub:((List.range n).filter (fun j=>!(l.setIfInBounds i true).getD j false))=(((List.range n).filter (fun j=>!l.getD j false)).filter (fun j=>!(j == i))):=by
      rw [List.filter_filter]
      refine List.filter_congr (fun j _=>?_)
      rw [hf j]
      by_cases hji:j=i
      ·subst hji
       simp
      rw [if_neg hji]
      simp [hji]
     rw [hsub]
     have hmem:i ∈ (List.range n).filter (fun j=>!l.getD j false):=List.mem_filter.2 ⟨List.mem_range.2 hi,by rw [hbi];rfl⟩
     exact List.length_filter_lt_length_iff_exists.2 ⟨i,hmem,by simp⟩
    omega
   ·intro j r hj hr q hq
    rw [hf] at hj ⊢
    by_cases hji:j=i
    ·subst hji
     split
     ·rfl
     ·exact hneed r hr q hq
    rw [if_neg hji] at hj
    split
    ·rfl
    ·exact hcl j r hj hr q hq
   ·have:(fun j=>(l.setIfInBounds i true).getD j false)=fun j=>if j=i then true else l.getD j false:=funext hf
    rw [this]
    exact h'
 have hz:∀ j,(Array.replicate n false).getD j false=false:=by
  intro j
  simp only [Array.getD_eq_getD_getElem?,Array.getElem?_replicate]
  split <;> rfl
 refine key n _ a w (by simp) ?_ ?_ ?_
 ·exact Nat.le_trans List.countP_le_length (by rw [List.length_range];exact Nat.le_refl _)
 ·intro j r hj
  rw [hz] at hj
  cases hj
 ·have:(fun j=>(Array.replicate n false).getD j false)=fun _=>false:=funext hz
  rw [this]
  exact h0
theorem zz_ {b:Nat→Bool} {j q:Nat} (h:b j=true→b q=true) (hq:b q=false):b j=false:=by
 cases e:b j with
 |false=>rfl
 |true=>rw [h e] at hq;cases hq
theorem aAx {α:Type} (d:Kd α) (e:Nat) (w:World) (base:Nat) (A:Option Addr) (c:Nat):Kd.V d e w base (fun _=>False) (.slice A ([]:List α).length c) []:=
 ⟨A,c,rfl,Nat.zero_le _,fun W' _=>⟨rfl,by simp,fun h=>absurd h (Nat.lt_irrefl 0)⟩⟩
theorem aEz {α:Type} (d:Kd α) (w:World) (ok:Nat→Prop) (A:Option Addr):Kd.F d w ok A ([]:List α).length []:=fun W' _=>⟨rfl,by simp,fun h=>absurd h (Nat.lt_irrefl 0)⟩
theorem xV (a b:Int) (w:World):Calls Tryz.prog 62 #[.int .i64 a, .int .i64 b] w fun e w'=>∃ A c,e= .returned (.agg #[.int .i64 a, .int .i64 b, .slice A 0 c])∧Below w.heap.size w w':=by
 refine (iC.calls a b a b [] w rfl).mono ?_
 rintro e w' ⟨v,rfl,hr,hb⟩
 obtain ⟨A,c,rfl⟩:=Kd.eF (Kd.R_N hr)
 exact ⟨A,c,rfl,hb⟩
theorem RA (o a1 b1:Int) (A1:Option Addr) (c1:Nat) (a2 b2:Int) (A2:Option Addr) (c2:Nat) (w:World):Calls Tryz.prog 136 #[.int .i64 o, .agg #[.int .i64 a1, .int .i64 b1, .slice A1 0 c1], .agg #[.int .i64 a2, .int .i64 b2, .slice A2 0 c2]] w fun e w'=>∃ A c,e= .returned (.agg #[.int .i64 o, .int .i64 0, .slice A 2 c])∧Kd.N k56 56 w' w.heap.size (fun k=>w.heap.size≤k) (.slice A 2 c) [⟨a1,b1,[]⟩,⟨a2,b2,[]⟩]∧Below w.heap.size w w':=by
 refine (nP.calls o a1 b1 (fun _=>False) A1 c1 [] a2 b2 (fun _=>False) A2 c2 [] o 0 [⟨a1,b1,[]⟩,⟨a2,b2,[]⟩] w (aAx k56 56 w _ A1 c1) (aAx k56 56 w _ A2 c2) rfl).mono ?_
 rintro e w' ⟨v,rfl,hr,hb⟩
 obtain ⟨A,c,rfl⟩:=Kd.eF hr
 exact ⟨A,c,rfl,Kd.aW hr (fun k hk=>hk.elim (fun h=>h.elim False.elim False.elim) id),hb⟩
structure F92 (w0 w W0:World) (g h2:Nat) (s0_0:List Int) (t23 t41 t42:Int) (v8:Value) (t43:List S58) (A30:Option Addr) (c30:Nat) (A33:Option Addr) (c33:Nat) (A34:Option Addr) (c34:Nat) (g10:Nat) (b3 b6 b9 b10 b12 b13:Bool) (W:World):Prop where
 hK:aC W0 W g (cond b10 v8.ownBlock none)
 hI:aI w0 W g s0_0 (cond b3 t42 t23)
 hB:Below w0.heap.size w0 W
 h30:b6=true→Kd.N k56 56 W W0.heap.size (fun k=>W0.heap.size≤k∧(b12=true→k≠g10)) (.slice A30 2 c30) [⟨13,3,[]⟩,⟨0,wrap64 (1 + t41),[]⟩]
 h33:b9=true→Kd.N k58 58 W h2 (fun k=>h2≤k∧(b12=true→k≠g10)) (.slice A33 1 c33) [(⟨1,3,0,⟨8,0,[⟨13,3,[]⟩,⟨0,1,[]⟩]⟩,[],[]⟩:S58)]
 h34:b10=true→Kd.N k58 58 W w.heap.size (fun k=>w.heap.size≤k∧(b12=true→k≠g10)) (.slice A34 (t43 ++ [(⟨1,3,0,⟨8,0,[⟨13,3,[]⟩,⟨0,1,[]⟩]⟩,[],[]⟩:S58)]).length c34) (t43 ++ [(⟨1,3,0,⟨8,0,[⟨13,3,[]⟩,⟨0,1,[]⟩]⟩,[],[]⟩:S58)])
 h10:b12=true→W0.heap.size≤g10∧W.heap[g10]?=some (.cells (cond b13 #[.int .i64 3, .int .i64 0, .int .i64 0, .int .i64 5, .int .i64 0, .slice A30 2 c30, .slice A34 (t43 ++ [(⟨1,3,0,⟨8,0,[⟨13,3,[]⟩,⟨0,1,[]⟩]⟩,[],[]⟩:S58)]).length c34, .slice none 0 0] #[.int .i64 0, .int .i64 0, .int .i64 0, .int .i64 0, .int .i64 0, .slice none 0 0, .slice none 0 0, .slice none 0 0]) 58 (0,0))
theorem F92.ext {w0 w W0:World} {g h2:Nat} {j3:List Int} {j4 j5 j6:Int} {v8:Value} {j7:List S58} {j8:Option Addr} {j9:Nat} {ja:Option Addr} {jb:Nat} {jc:Option Addr} {jd:Nat} {je:Nat} {b3 b6 b9 b10 b12 b13:Bool} {W W':World}
  (h:F92 w0 w W0 g h2 j3 j4 j5 j6 v8 j7 j8 j9 ja jb jc jd je b3 b6 b9 b10 b12 b13 W) (hb:Below W.heap.size W W'):F92 w0 w W0 g h2 j3 j4 j5 j6 v8 j7 j8 j9 ja jb jc jd je b3 b6 b9 b10 b12 b13 W':=
 ⟨h.hK.trans (aC.of_below hb g _) (.inl rfl),h.hI.below hb,aA h.hB hb,fun e=>Kd.kH (h.h30 e) hb,fun e=>Kd.kH (h.h33 e) hb,fun e=>Kd.kH (h.h34 e) hb,fun e=>⟨(h.h10 e).1,kK (h.h10 e).2 hb⟩⟩
def a92 (g g9:Nat) (a1 a2 t44 t41:Int) (v8:Value) (t43:List S58) (A20:Option Addr) (c20:Nat) (A21:Option Addr) (c21:Nat) (A22:Option Addr) (c22:Nat) (A1:Option Addr) (c1:Nat) (A2:Option Addr) (c2:Nat) (A30:Option Addr) (c30:Nat) (A33:Option Addr) (c33:Nat) (A34:Option Addr) (c34:Nat) (g10:Nat) (b0 b1 b2 b3 b4 b5 b6 b7 b8 b9 b10 b11 b12 b13:Bool):Act:=
 { tmps:=#[(.pointer (some ⟨g,0,none⟩)),(.int .i64 a1),(.int .i64 a2),undef,undef,undef,(.slice none 0 0),(.int .i64 3),v8,(.pointer (some ⟨g9,0,none⟩)),cond b12 (.pointer (some ⟨g10,0,none⟩)) undef,(.pointer (some ⟨g,0,none⟩)),(.int .i64 a1),(.int .i64 a2),(.int .i64 (wrap64 (a2 - 1))),(.pointer (some ⟨g,0,none⟩)),(.int .i64 t44),v8,(.int .i64 3),(.int .i64 3),(.agg #[.int .i64 13, .int .i64 3, .slice A20 0 c20]),(.agg #[.int .i64 0, .int .i64 1, .slice A21 0 c21]),(.agg #[.int .i64 8, .int .i64 0, .slice A22 2 c22]),(.agg #[.int .i64 1, .int .i64 3, .int .i64 0, .int .i64 8, .int .i64 0, .slice A22 2 c22, .slice none 0 0, .slice none 0 0]),cond b0 (.int .i64 3) undef,cond b1 (.agg #[.int .i64 13, .int .i64 3, .slice A1 0 c1]) undef,cond b2 (.pointer (some ⟨g,0,none⟩)) undef,cond b3 (.int .i64 t41) undef,cond b4 (.int .i64 (wrap64 (1 + t41))) undef,cond b5 (.agg #[.int .i64 0, .int .i64 (wrap64 (1 + t41)), .slice A2 0 c2]) undef,cond b6 (.agg #[.int .i64 5, .int .i64 0, .slice A30 2 c30]) undef,cond b7 v8 undef,cond b8 (.agg #[.int .i64 1, .int .i64 3, .int .i64 0, .int .i64 8, .int .i64 0, .slice A22 2 c22, .slice none 0 0, .slice none 0 0]) undef,cond b9 (.slice A33 1 c33) undef,cond b10 (.slice A34 (t43 ++ [(⟨1,3,0,⟨8,0,[⟨13,3,[]⟩,⟨0,1,[]⟩]⟩,[],[]⟩:S58)]).length c34) undef,cond b11 (.agg #[.int .i64 3, .int .i64 0, .int .i64 0, .int .i64 5, .int .i64 0, .slice A30 2 c30, .slice A34 (t43 ++ [(⟨1,3,0,⟨8,0,[⟨13,3,[]⟩,⟨0,1,[]⟩]⟩,[],[]⟩:S58)]).length c34, .slice none 0 0]) undef,undef,undef,undef,undef,undef],defers:=[] }
def L92 (w0 w W0:World) (g g9 h2:Nat) (s0_0:List Int) (a1 a2 t44 t23 t41 t42:Int) (v8:Value) (t43:List S58) (A20:Option Addr) (c20:Nat) (A21:Option Addr) (c21:Nat) (A22:Option Addr) (c22:Nat) (b0 b1 b2 b3 b4 b5 b6 b7 b8 b9 b10 b11 b12 b13:Bool) (a:Act) (W:World):Prop:=
 ∃ (A1:Option Addr) (c1:Nat) (A2:Option Addr) (c2:Nat) (A30:Option Addr) (c30:Nat) (A33:Option Addr) (c33:Nat) (A34:Option Addr) (c34:Nat) (g10:Nat),a=a92 g g9 a1 a2 t44 t41 v8 t43 A20 c20 A21 c21 A22 c22 A1 c1 A2 c2 A30 c30 A33 c33 A34 c34 g10 b0 b1 b2 b3 b4 b5 b6 b7 b8 b9 b10 b11 b12 b13∧F92 w0 w W0 g h2 s0_0 t23 t41 t42 v8 t43 A30 c30 A33 c33 A34 c34 g10 b3 b6 b9 b10 b12 b13 W
def fA.T4:Bool × List (List Nat × List Nat):=(true,[([],[]),([0],[0]),([],[]),([2,1],[2]),([3],[3]),([4,3],[4]),([1,5,5],[1,5]),([],[]),([],[]),([8],[8]),([7,9,6],[7,9]),([6,10],[6,10]),([],[]),([12,11,10,0,1,2,3,4,5,6,7,8,9,10,11,12],[11,12])])
theorem fA.aHy:lV .any (opsOf Tryz.f128 4)=fA.T4:=by kernel_rfl
theorem fA.step (k:Nat) (ih_spec_l92If:∀ m,m < k→dV.dJ m) (ih_spec_l92Loop:∀ m,m < k→fA.dJ m) (ih_spec_l92Stmt:∀ m,m < k→bD.dJ m) (ih_spec_l92Block:∀ m,m < k→bR.dJ m):fA.dJ k:=by
 intro g jh jK a1 a2 r1 r2 w0 w hI hB h
 cases k with
 |zero=>exact absurd h (by simp [fA.f])
 |succ k=>
 simp only [fA.f] at h
 replace h:=Option.bind_eq_some_iff.mp h
 obtain ⟨⟨jp,jQ⟩,hp,h⟩:=h
 replace h:=Option.bind_eq_some_iff.mp h
 obtain ⟨⟨jd,jA⟩,hbk,h⟩:=h
 simp only [iC.f,nP.f,Option.bind_some] at h
 replace h:=Option.bind_eq_some_iff.mp h
 obtain ⟨⟨jk,jB⟩,hp2,h⟩:=h
 dsimp only at h hp2 hbk
 by_cases jC:jd.length + 1 < 1256584717458
 case neg=>
  rw [if_neg (by simpa using jC)] at h
  exact absurd h (by simp)
 rw [if_pos (by simpa using jC)] at h
 have h1:=Option.some.inj h
 injection h1 with h1 h2
 subst h2
 have A4:=am hp
 have A5:=am hbk
 have jS:=am hp2
 have LM:=am jC
 have HR:=am h1
 have HI:=am hI
 have HB:=am hB
 have HK:=am (aC.refl w g none)
 have HGW:=am (aI.lt hI)
 clear h1 h hp hbk hp2 jC hI hB
 go_enter Tryz.func128,Tryz.ntmps128
 go_wp2_with (first|((with_reducible refine aD (f:=37) rfl ?_);refine EK (some 16) rfl rfl Tryz.func37 (by kernel_rfl) rfl #[.pointer (some ⟨g,0,none⟩), .int .i64 3] rfl (by (try simp only [List.map_toArray,List.map_cons,List.map_nil]);first|done|rfl) ?_;(with_reducible refine (aG.calls k g jh jK 3 jp jQ w0 _ ?side1 ?side2 A4.out).mono ?_);(case side1=>repeat (first|(with_reducible first|exact HI.out|apply aI.drewN|apply aI.drew)|exact HI.out));(case side2=>repeat (first|(with_reducible first|exact HB.out|apply aU|apply bJ)|exact HB.out));rintro e jT ⟨rfl,hi,hb,hk⟩;refine ⟨_,rfl,?_⟩;have jq:=am (aC.trans aCu hk (.inl rfl));clear HK HB HI;have HK:=jq;have HB:=am hb;have HI:=am hi;have HS15:=am HK.out.1;clear jq hb hk hi)|((with_reducible refine aD (f:=82) rfl ?_);refine EK (some 17) rfl rfl Tryz.func82 (by kernel_rfl) rfl #[.pointer (some ⟨g,0,none⟩), .int .i64 a1, .int .i64 (wrap64 (a2 - 1)), .int .i64 jp, .bool false] rfl (by (try simp only [List.map_toArray,List.map_cons,List.map_nil]);first|done|rfl) ?_;(with_reducible refine (ih_spec_l92Block k (by omega) g jh jQ a1 (wrap64 (a2 - 1)) jp false jd jA w0 _ ?side1 ?side2 A5.out).mono ?_);(case side1=>repeat (first|(with_reducible first|exact HI.out|apply aI.drewN|apply aI.drew)|exact HI.out));(case side2=>repeat (first|(with_reducible first|exact HB.out|apply aU|apply bJ)|exact HB.out));rintro e ji ⟨v8,rfl,ho0,hi,hb,hk⟩;refine ⟨_,rfl,?_⟩;have jq:=am (aC.trans aCu hk (.inl rfl));have jl:=am (Kd.eU ho0 (by repeat (first|exact HK.out.1|apply kG|apply gT)));clear HK HB HI;have HK:=jq;have HB:=am hb;have HI:=am hi;have H8:=jl;clear jq jl hb hk hi ho0)|((with_reducible refine aD (f:=62) rfl ?_);refine EK (some 20) rfl rfl Tryz.func62 (by kernel_rfl) rfl #[.int .i64 13, .int .i64 3] rfl (by (try simp only [List.map_toArray,List.map_cons,List.map_nil]);first|done|rfl) ?_;(with_reducible refine (xV 13 3 _).mono ?_);rintro e qj ⟨jD,jE,rfl,hb⟩;refine ⟨_,rfl,?_⟩;have jL:=am hb;clear hb)|((with_reducible refine aD (f:=62) rfl ?_);refine EK (some 21) rfl rfl Tryz.func62 (by kernel_rfl) rfl #[.int .i64 0, .int .i64 1] rfl (by (try simp only [List.map_toArray,List.map_cons,List.map_nil]);first|done|rfl) ?_;(with_reducible refine (xV 0 1 _).mono ?_);rintro e jr ⟨jF,jG,rfl,hb⟩;refine ⟨_,rfl,?_⟩;have jM:=am hb;clear hb)|((with_reducible refine aD (f:=136) rfl ?_);refine EK (some 22) rfl rfl Tryz.func136 (by kernel_rfl) rfl #[.int .i64 8, .agg #[.int .i64 13, .int .i64 3, .slice jD 0 jE], .agg #[.int .i64 0, .int .i64 1, .slice jF 0 jG]] rfl (by (try simp only [List.map_toArray,List.map_cons,List.map_nil]);first|done|rfl) ?_;(with_reducible refine (RA 8 13 3 jD jE 0 1 jF jG _).mono ?_);rintro e jH ⟨je,jf,rfl,jj,hb⟩;refine ⟨_,rfl,?_⟩;have jN:=am jj;have jO:=am hb;clear hb jj)|((with_reducible refine cK (N:=9) rfl ?_);refine eO (N:=9) rfl rfl (cs:=#[.int .i64 0, .int .i64 0, .int .i64 0, .int .i64 0, .int .i64 0, .slice none 0 0, .slice none 0 0, .slice none 0 0]) (t:=58) rn_ ?_;intro g9 hg js hbox hb;have jR:=am (Nat.le_of_eq hg.symm);have jI:=am hb;have X9:=am hbox;have z9:=bT hbox 0;have jU:=bT hbox 1;have jV:=bT hbox 2;have jW:=bT hbox 3;have jX:=bT hbox 4;have jY:=bT hbox 5;have jZ:=bT hbox 6;have q8:=bT hbox 7;have q9:=aN hbox 0;have qa:=aN hbox 1;have qb:=aN hbox 2;have qc:=aN hbox 3;have qd:=aN hbox 4;have qe:=aN hbox 5;have qf:=aN hbox 6;have qg:=aN hbox 7;clear hb hg hbox)|fail)
 have jP:Aside0 (Below ji.heap.size ji jH):=⟨aA (aA jL.out jM.out) jO.out⟩
 have jt:=jP.out.size
 have ju:=jI.out.size
 have jv:=jO.out.size
 have jw:=(aA jL.out jM.out).size
 have h9lt:=lK X9.out
 have hg9:=jR.out
 have hw16:=HK.out.1
 have hgw0:=HGW.out
 have b20:Below ji.heap.size ji js:=aA jP.out jI.out
 have HWQ:Aside0 (Below ji.heap.size ji ((((((((js.setCell ⟨g9,0,none⟩ (.int .i64 1)).setCell ⟨g9,1,none⟩ (.int .i64 3)).setCell ⟨g9,2,none⟩ (.int .i64 0)).setCell ⟨g9,3,none⟩ (.int .i64 8)).setCell ⟨g9,4,none⟩ (.int .i64 0)).setCell ⟨g9,5,none⟩ (.slice je 2 jf)).setCell ⟨g9,6,none⟩ (.slice none 0 0)).setCell ⟨g9,7,none⟩ (.slice none 0 0))):=⟨(below_set (j:=7) (v:=(.slice none 0 0)) (below_set (j:=6) (v:=(.slice none 0 0)) (below_set (j:=5) (v:=(.slice je 2 jf)) (below_set (j:=4) (v:=(.int .i64 0)) (below_set (j:=3) (v:=(.int .i64 8)) (below_set (j:=2) (v:=(.int .i64 0)) (below_set (j:=1) (v:=(.int .i64 3)) (below_set (j:=0) (v:=(.int .i64 1)) b20 (by omega)) (by omega)) (by omega)) (by omega)) (by omega)) (by omega)) (by omega)) (by omega))⟩
 have X9':Aside0 (((((((((js.setCell ⟨g9,0,none⟩ (.int .i64 1)).setCell ⟨g9,1,none⟩ (.int .i64 3)).setCell ⟨g9,2,none⟩ (.int .i64 0)).setCell ⟨g9,3,none⟩ (.int .i64 8)).setCell ⟨g9,4,none⟩ (.int .i64 0)).setCell ⟨g9,5,none⟩ (.slice je 2 jf)).setCell ⟨g9,6,none⟩ (.slice none 0 0)).setCell ⟨g9,7,none⟩ (.slice none 0 0)).heap[g9]?=some (.cells #[(.int .i64 1),(.int .i64 3),(.int .i64 0),(.int .i64 8),(.int .i64 0),(.slice je 2 jf),(.slice none 0 0),(.slice none 0 0)] 58 (0,0))):=⟨(aY (cs':=#[(.int .i64 1),(.int .i64 3),(.int .i64 0),(.int .i64 8),(.int .i64 0),(.slice je 2 jf),(.slice none 0 0),(.slice none 0 0)]) (aY (cs':=#[(.int .i64 1),(.int .i64 3),(.int .i64 0),(.int .i64 8),(.int .i64 0),(.slice je 2 jf),(.slice none 0 0),(.slice none 0 0)]) (aY (cs':=#[(.int .i64 1),(.int .i64 3),(.int .i64 0),(.int .i64 8),(.int .i64 0),(.slice je 2 jf),(.slice none 0 0),(.slice none 0 0)]) (aY (cs':=#[(.int .i64 1),(.int .i64 3),(.int .i64 0),(.int .i64 8),(.int .i64 0),(.slice none 0 0),(.slice none 0 0),(.slice none 0 0)]) (aY (cs':=#[(.int .i64 1),(.int .i64 3),(.int .i64 0),(.int .i64 8),(.int .i64 0),(.slice none 0 0),(.slice none 0 0),(.slice none 0 0)]) (aY (cs':=#[(.int .i64 1),(.int .i64 3),(.int .i64 0),(.int .i64 0),(.int .i64 0),(.slice none 0 0),(.slice none 0 0),(.slice none 0 0)]) (aY (cs':=#[(.int .i64 1),(.int .i64 3),(.int .i64 0),(.int .i64 0),(.int .i64 0),(.slice none 0 0),(.slice none 0 0),(.slice none 0 0)]) (aY (cs':=#[(.int .i64 1),(.int .i64 0),(.int .i64 0),(.int .i64 0),(.int .i64 0),(.slice none 0 0),(.slice none 0 0),(.slice none 0 0)]) X9.out 0 (.int .i64 1) rfl) 1 (.int .i64 3) rfl) 2 (.int .i64 0) rfl) 3 (.int .i64 8) rfl) 4 (.int .i64 0) rfl) 5 (.slice je 2 jf) rfl) 6 (.slice none 0 0) rfl) 7 (.slice none 0 0) rfl)⟩
 have N22':Aside0 (Kd.N k56 56 ((((((((js.setCell ⟨g9,0,none⟩ (.int .i64 1)).setCell ⟨g9,1,none⟩ (.int .i64 3)).setCell ⟨g9,2,none⟩ (.int .i64 0)).setCell ⟨g9,3,none⟩ (.int .i64 8)).setCell ⟨g9,4,none⟩ (.int .i64 0)).setCell ⟨g9,5,none⟩ (.slice je 2 jf)).setCell ⟨g9,6,none⟩ (.slice none 0 0)).setCell ⟨g9,7,none⟩ (.slice none 0 0)) jr.heap.size (fun k=>(jr.heap.size≤k∧k < jH.heap.size)∧k≠g9) (.slice je 2 jf) [⟨13,3,[]⟩,⟨0,1,[]⟩]):=⟨(Kd.dB (p:=⟨g9,7,none⟩) (Kd.dB (p:=⟨g9,6,none⟩) (Kd.dB (p:=⟨g9,5,none⟩) (Kd.dB (p:=⟨g9,4,none⟩) (Kd.dB (p:=⟨g9,3,none⟩) (Kd.dB (p:=⟨g9,2,none⟩) (Kd.dB (p:=⟨g9,1,none⟩) (Kd.dB (p:=⟨g9,0,none⟩) (Kd.aW (Kd.kH (Kd.oV jN.out) jI.out) (fun q (hq:jr.heap.size≤q∧q < jH.heap.size)=>(⟨hq,by have:=hq.2;omega⟩:(jr.heap.size≤q∧q < jH.heap.size)∧q≠g9))) (fun q hq=>hq.2) (.int .i64 1)) (fun q hq=>hq.2) (.int .i64 3)) (fun q hq=>hq.2) (.int .i64 0)) (fun q hq=>hq.2) (.int .i64 8)) (fun q hq=>hq.2) (.int .i64 0)) (fun q hq=>hq.2) (.slice je 2 jf)) (fun q hq=>hq.2) (.slice none 0 0)) (fun q hq=>hq.2) (.slice none 0 0))⟩
 clear q9 qa qb qc qd qe qf qg z9 jU jV jW jX jY jZ q8 X9
 generalize ((((((((js.setCell ⟨g9,0,none⟩ (.int .i64 1)).setCell ⟨g9,1,none⟩ (.int .i64 3)).setCell ⟨g9,2,none⟩ (.int .i64 0)).setCell ⟨g9,3,none⟩ (.int .i64 8)).setCell ⟨g9,4,none⟩ (.int .i64 0)).setCell ⟨g9,5,none⟩ (.slice je 2 jf)).setCell ⟨g9,6,none⟩ (.slice none 0 0)).setCell ⟨g9,7,none⟩ (.slice none 0 0))=jJ at HWQ X9' N22' ⊢
 have qh:=HWQ.out.size
 have h27':=lK X9'.out
 refine wp_region_any (by kernel_rfl) ?_
 have B9:=am (dA X9'.out)
 have N22_:=Kd.rF N22'.out
 have H8_:=Kd.rF (Kd.kH (Kd.aW (Kd.oV H8.out) (fun q (hq:jT.heap.size≤q∧q < ji.heap.size)=>(⟨by have:=hq.1;have:=HS15.out;omega,hq.2⟩:w.heap.size≤q∧q < ji.heap.size))) HWQ.out)
 have HI_:=aI.drew (HI.out.below HWQ.out)
 have HB_:=bJ (aA HB.out HWQ.out)
 have HK_:=gT (aC.trans HK.out (aC.of_below HWQ.out g none) (.inl rfl))
 have hsz:jJ.drew.heap.size=jJ.heap.size:=rfl
 show wpAny _ _ _ _ _ _ _ jJ.drew
 generalize jJ.drew=W0 at B9 N22_ H8_ HI_ HB_ HK_ hsz ⊢
 have jN:Aside0 (Kd.N k56 56 W0 jr.heap.size (fun k=>ji.heap.size≤k∧k < W0.heap.size) (.slice je 2 jf) [⟨13,3,[]⟩,⟨0,1,[]⟩]):=⟨Kd.aW N22_ (fun q hq=>⟨by have:=hq.1.1;omega,by have:=hq.1.2;omega⟩)⟩
 have H8':=am H8_
 have HI':=am HI_
 have HB':=am HB_
 have HK':=am HK_
 have H24:Aside0 (ji.heap.size≤W0.heap.size):=⟨by omega⟩
 have HH2:Aside0 (w.heap.size≤ji.heap.size):=⟨hw16⟩
 have NE9:Aside0 (g9≠g):=⟨by omega⟩
 clear N22_ H8_ HI_ HB_ HK_ HI HB HK H8 N22' X9' HWQ b20 jP hsz qh h27' jt ju jv jw h9lt hg9 jL jM jO jI jR HS15 hw16 hgw0
 generalize ji.heap.size=h2 at *
 have H8:=H8'
 clear H8'
 refine OQ (n:=14) (T:=fA.T4) rfl (by kernel_rfl) (by decide) (fun b a W=>L92 w0 w W0 g g9 h2 jh a1 a2 jp jA jk jB v8 jd jD jE jF jG je jf (b 0) (b 1) (b 2) (b 3) (b 4) (b 5) (b 6) (b 7) (b 8) (b 9) (b 10) (b 11) (b 12) (b 13) a W) ?hstep ?hdone _ _ ?hstart
 case hstart=>exact ⟨none,0,none,0,none,0,none,0,none,0,0,rfl,⟨aC.refl _ _ _,HI'.out,HB'.out,(fun e=>Bool.noConfusion e),(fun e=>Bool.noConfusion e),(fun e=>Bool.noConfusion e),(fun e=>Bool.noConfusion e)⟩⟩
 case hstep=>
  intro i b a W hi hbi hneed hcl hI
  have hcase:i=0∨i=1∨i=2∨i=3∨i=4∨i=5∨i=6∨i=7∨i=8∨i=9∨i=10∨i=11∨i=12∨i=13:=by omega
  rcases hcase with rfl|rfl|rfl|rfl|rfl|rfl|rfl|rfl|rfl|rfl|rfl|rfl|rfl|rfl
  ·
   have z1:=zz_ (fun h=>hcl 1 _ h rfl 0 (by decide)) hbi
   have z3:=zz_ (fun h=>hcl 3 _ h rfl 1 (by decide)) z1
   have z4:=zz_ (fun h=>hcl 4 _ h rfl 3 (by decide)) z3
   have z5:=zz_ (fun h=>hcl 5 _ h rfl 3 (by decide)) z3
   have z6:=zz_ (fun h=>hcl 6 _ h rfl 1 (by decide)) z1
   have j9:=zz_ (fun h=>hcl 10 _ h rfl 6 (by decide)) z6
   have ja:=zz_ (fun h=>hcl 11 _ h rfl 6 (by decide)) z6
   have j8:=zz_ (fun h=>hcl 13 _ h rfl 0 (by decide)) hbi
   simp only [hbi,z1,z3,z4,z5,z6,j9,ja,j8] at hI
   obtain ⟨A1,c1,A2,c2,j4,j5,jb,jc,j6,j7,j3,rfl,h⟩:=hI
   have hgw:=HGW.out
   have hh2:=HH2.out
   have jg:=H24.out
   refine wpOp_step rfl (fun K' hK'=>?_)
   simp (decide:=true) only [if_true,if_false,reduceIte,z1,z3,z4,z5,z6,j9,ja,j8] at hK'
   refine iW (W:=W) (w1:=W) (v:=?_) (by rfl) ?_ ?_
   rotate_left
   ·(try simp only [a92,cond_true,cond_false])
    go_simp
    first|with_reducible rfl|rfl
   refine hK' _ _ (⟨A1,c1,A2,c2,j4,j5,jb,jc,j6,j7,j3,?_,h⟩)
   show Act.put _ (some 24) _=_
   simp only [a92,Act.put,List.setIfInBounds_toArray,List.set_cons_zero,List.set_cons_succ,fI,fO]
   rfl
  ·
   have hn_:=hneed _ rfl
   have n0:=hn_ 0 (by decide)
   have z3:=zz_ (fun h=>hcl 3 _ h rfl 1 (by decide)) hbi
   have z4:=zz_ (fun h=>hcl 4 _ h rfl 3 (by decide)) z3
   have z5:=zz_ (fun h=>hcl 5 _ h rfl 3 (by decide)) z3
   have z6:=zz_ (fun h=>hcl 6 _ h rfl 1 (by decide)) hbi
   have j9:=zz_ (fun h=>hcl 10 _ h rfl 6 (by decide)) z6
   have ja:=zz_ (fun h=>hcl 11 _ h rfl 6 (by decide)) z6
   have j8:=zz_ (fun h=>hcl 13 _ h rfl 1 (by decide)) hbi
   simp only [hbi,n0,z3,z4,z5,z6,j9,ja,j8] at hI
   obtain ⟨A1,c1,A2,c2,j4,j5,jb,jc,j6,j7,j3,rfl,h⟩:=hI
   have hgw:=HGW.out
   have hh2:=HH2.out
   have jg:=H24.out
   refine wpOp_step rfl (fun K' hK'=>?_)
   simp (decide:=true) only [if_true,if_false,reduceIte,n0,z3,z4,z5,z6,j9,ja,j8] at hK'
   refine iF Tryz.func62 (by kernel_rfl) rfl #[.int .i64 13, .int .i64 3] (by rfl) rfl rfl (by (try simp only [List.map_toArray,List.map_cons,List.map_nil]);first|done|rfl) ?_
   refine (xV 13 3 _).mono ?_
   rintro e W' ⟨A,c,rfl,hb⟩
   refine ⟨_,rfl,hK' _ _ (⟨A,c,A2,c2,j4,j5,jb,jc,j6,j7,j3,?_,h.ext hb⟩)⟩
   show Act.put _ (some 25) _=_
   simp only [a92,Act.put,List.setIfInBounds_toArray,List.set_cons_zero,List.set_cons_succ]
   rfl
  ·
   have z3:=zz_ (fun h=>hcl 3 _ h rfl 2 (by decide)) hbi
   have z4:=zz_ (fun h=>hcl 4 _ h rfl 3 (by decide)) z3
   have z5:=zz_ (fun h=>hcl 5 _ h rfl 3 (by decide)) z3
   have z6:=zz_ (fun h=>hcl 6 _ h rfl 5 (by decide)) z5
   have j9:=zz_ (fun h=>hcl 10 _ h rfl 6 (by decide)) z6
   have ja:=zz_ (fun h=>hcl 11 _ h rfl 6 (by decide)) z6
   have j8:=zz_ (fun h=>hcl 13 _ h rfl 2 (by decide)) hbi
   simp only [hbi,z3,z4,z5,z6,j9,ja,j8] at hI
   obtain ⟨A1,c1,A2,c2,j4,j5,jb,jc,j6,j7,j3,rfl,h⟩:=hI
   have hgw:=HGW.out
   have hh2:=HH2.out
   have jg:=H24.out
   refine wpOp_step rfl (fun K' hK'=>?_)
   simp (decide:=true) only [if_true,if_false,reduceIte,z3,z4,z5,z6,j9,ja,j8] at hK'
   refine iW (W:=W) (w1:=W) (v:=?_) (by rfl) ?_ ?_
   rotate_left
   ·(try simp only [a92,cond_true,cond_false])
    go_simp
    first|with_reducible rfl|rfl
   refine hK' _ _ (⟨A1,c1,A2,c2,j4,j5,jb,jc,j6,j7,j3,?_,h⟩)
   show Act.put _ (some 26) _=_
   simp only [a92,Act.put,List.setIfInBounds_toArray,List.set_cons_zero,List.set_cons_succ,fI,fO]
   rfl
  ·
   have hn_:=hneed _ rfl
   have n1:=hn_ 1 (by decide)
   have n2:=hn_ 2 (by decide)
   have z4:=zz_ (fun h=>hcl 4 _ h rfl 3 (by decide)) hbi
   have z5:=zz_ (fun h=>hcl 5 _ h rfl 3 (by decide)) hbi
   have z6:=zz_ (fun h=>hcl 6 _ h rfl 5 (by decide)) z5
   have j9:=zz_ (fun h=>hcl 10 _ h rfl 6 (by decide)) z6
   have ja:=zz_ (fun h=>hcl 11 _ h rfl 6 (by decide)) z6
   have j8:=zz_ (fun h=>hcl 13 _ h rfl 3 (by decide)) hbi
   simp only [hbi,n1,n2,z4,z5,z6,j9,ja,j8] at hI
   obtain ⟨A1,c1,A2,c2,j4,j5,jb,jc,j6,j7,j3,rfl,h⟩:=hI
   have hgw:=HGW.out
   have hh2:=HH2.out
   have jg:=H24.out
   refine wpOp_step rfl (fun K' hK'=>?_)
   simp (decide:=true) only [if_true,if_false,reduceIte,n1,n2,z4,z5,z6,j9,ja,j8] at hK'
   refine iF Tryz.func37 (by kernel_rfl) rfl #[.pointer (some ⟨g,0,none⟩), .int .i64 3] (by rfl) rfl rfl (by (try simp only [List.map_toArray,List.map_cons,List.map_nil]);first|done|rfl) ?_
   refine (aG.calls k g jh jA 3 jk jB w0 _ h.hI h.hB jS.out).mono ?_
   rintro e W' ⟨rfl,hi,hb,hk⟩
   have hlt:=h.hK.1
   refine ⟨_,rfl,hK' _ _ (⟨A1,c1,A2,c2,j4,j5,jb,jc,j6,j7,j3,?_,⟨h.hK.trans hk ?_,hi,hb,fun e=>Kd.pF (h.h30 e) hk (fun q hq=>?_),fun e=>Kd.pF (h.h33 e) hk (fun q hq=>?_),fun e=>Kd.pF (h.h34 e) hk (fun q hq=>?_),fun e=>⟨(h.h10 e).1,hk.blk (h.h10 e).2 ?_ (by simp)⟩⟩⟩)⟩
   ·show Act.put _ (some 27) _=_
    simp only [a92,Act.put,List.setIfInBounds_toArray,List.set_cons_zero,List.set_cons_succ]
    rfl
   ·exact .inl rfl
   ·have:=hq.1;omega
   ·have:=hq.1;omega
   ·have:=hq.1;omega
   ·have:=(h.h10 e).1;omega
  ·
   have hn_:=hneed _ rfl
   have n3:=hn_ 3 (by decide)
   have z5:=zz_ (fun h=>hcl 5 _ h rfl 4 (by decide)) hbi
   have z6:=zz_ (fun h=>hcl 6 _ h rfl 5 (by decide)) z5
   have j9:=zz_ (fun h=>hcl 10 _ h rfl 6 (by decide)) z6
   have ja:=zz_ (fun h=>hcl 11 _ h rfl 6 (by decide)) z6
   have j8:=zz_ (fun h=>hcl 13 _ h rfl 4 (by decide)) hbi
   simp only [hbi,n3,z5,z6,j9,ja,j8] at hI
   obtain ⟨A1,c1,A2,c2,j4,j5,jb,jc,j6,j7,j3,rfl,h⟩:=hI
   have hgw:=HGW.out
   have hh2:=HH2.out
   have jg:=H24.out
   refine wpOp_step rfl (fun K' hK'=>?_)
   simp (decide:=true) only [if_true,if_false,reduceIte,n3,z5,z6,j9,ja,j8] at hK'
   refine iW (W:=W) (w1:=W) (v:=?_) (by rfl) ?_ ?_
   rotate_left
   ·(try simp only [a92,cond_true,cond_false])
    go_simp
    first|with_reducible rfl|rfl
   refine hK' _ _ (⟨A1,c1,A2,c2,j4,j5,jb,jc,j6,j7,j3,?_,h⟩)
   show Act.put _ (some 28) _=_
   simp only [a92,Act.put,List.setIfInBounds_toArray,List.set_cons_zero,List.set_cons_succ,fI,fO]
   rfl
  ·
   have hn_:=hneed _ rfl
   have n3:=hn_ 3 (by decide)
   have n4:=hn_ 4 (by decide)
   have z6:=zz_ (fun h=>hcl 6 _ h rfl 5 (by decide)) hbi
   have j9:=zz_ (fun h=>hcl 10 _ h rfl 6 (by decide)) z6
   have ja:=zz_ (fun h=>hcl 11 _ h rfl 6 (by decide)) z6
   have j8:=zz_ (fun h=>hcl 13 _ h rfl 5 (by decide)) hbi
   simp only [hbi,n3,n4,z6,j9,ja,j8] at hI
   obtain ⟨A1,c1,A2,c2,j4,j5,jb,jc,j6,j7,j3,rfl,h⟩:=hI
   have hgw:=HGW.out
   have hh2:=HH2.out
   have jg:=H24.out
   refine wpOp_step rfl (fun K' hK'=>?_)
   simp (decide:=true) only [if_true,if_false,reduceIte,n3,n4,z6,j9,ja,j8] at hK'
   refine iF Tryz.func62 (by kernel_rfl) rfl #[.int .i64 0, .int .i64 (wrap64 (1 + jk))] (by rfl) rfl rfl (by (try simp only [List.map_toArray,List.map_cons,List.map_nil]);first|done|rfl) ?_
   refine (xV 0 (wrap64 (1 + jk)) _).mono ?_
   rintro e W' ⟨A,c,rfl,hb⟩
   refine ⟨_,rfl,hK' _ _ (⟨A1,c1,A,c,j4,j5,jb,jc,j6,j7,j3,?_,h.ext hb⟩)⟩
   show Act.put _ (some 29) _=_
   simp only [a92,Act.put,List.setIfInBounds_toArray,List.set_cons_zero,List.set_cons_succ]
   rfl
  ·
   have hn_:=hneed _ rfl
   have n1:=hn_ 1 (by decide)
   have n5:=hn_ 5 (by decide)
   have j9:=zz_ (fun h=>hcl 10 _ h rfl 6 (by decide)) hbi
   have ja:=zz_ (fun h=>hcl 11 _ h rfl 6 (by decide)) hbi
   have j8:=zz_ (fun h=>hcl 13 _ h rfl 6 (by decide)) hbi
   simp only [hbi,n1,n5,j9,ja,j8] at hI
   obtain ⟨A1,c1,A2,c2,j4,j5,jb,jc,j6,j7,j3,rfl,h⟩:=hI
   have hgw:=HGW.out
   have hh2:=HH2.out
   have jg:=H24.out
   refine wpOp_step rfl (fun K' hK'=>?_)
   simp (decide:=true) only [if_true,if_false,reduceIte,n1,n5,j9,ja,j8] at hK'
   refine iF Tryz.func136 (by kernel_rfl) rfl #[.int .i64 5,(.agg #[.int .i64 13, .int .i64 3, .slice A1 0 c1]),(.agg #[.int .i64 0, .int .i64 (wrap64 (1 + jk)), .slice A2 0 c2])] (by rfl) rfl rfl (by (try simp only [List.map_toArray,List.map_cons,List.map_nil]);first|done|rfl) ?_
   refine (RA 5 13 3 A1 c1 0 (wrap64 (1 + jk)) A2 c2 _).mono ?_
   rintro e W' ⟨A,c,rfl,hn,hb⟩
   have hlt:=h.hK.1
   have h':=h.ext hb
   refine ⟨_,rfl,hK' _ _ (⟨A1,c1,A2,c2,A,c,jb,jc,j6,j7,j3,?_,⟨h'.hK,h'.hI,h'.hB,fun _=>Kd.aW (Kd.eU hn hlt) (fun q hq=>⟨Nat.le_trans hlt hq,fun e=>?_⟩),h'.h33,(fun e=>Bool.noConfusion e),fun e=>⟨(h'.h10 e).1,(h'.h10 e).2⟩⟩⟩)⟩
   ·show Act.put _ (some 30) _=_
    simp only [a92,Act.put,List.setIfInBounds_toArray,List.set_cons_zero,List.set_cons_succ]
    rfl
   ·have:=lK (h.h10 e).2;omega
  ·
   have j9:=zz_ (fun h=>hcl 10 _ h rfl 7 (by decide)) hbi
   have ja:=zz_ (fun h=>hcl 11 _ h rfl 10 (by decide)) j9
   have j8:=zz_ (fun h=>hcl 13 _ h rfl 7 (by decide)) hbi
   simp only [hbi,j9,ja,j8] at hI
   obtain ⟨A1,c1,A2,c2,j4,j5,jb,jc,j6,j7,j3,rfl,h⟩:=hI
   have hgw:=HGW.out
   have hh2:=HH2.out
   have jg:=H24.out
   refine wpOp_step rfl (fun K' hK'=>?_)
   simp (decide:=true) only [if_true,if_false,reduceIte,j9,ja,j8] at hK'
   refine iW (W:=W) (w1:=W) (v:=?_) (by rfl) ?_ ?_
   rotate_left
   ·(try simp only [a92,cond_true,cond_false])
    go_simp
    first|with_reducible rfl|rfl
   refine hK' _ _ (⟨A1,c1,A2,c2,j4,j5,jb,jc,j6,j7,j3,?_,h⟩)
   show Act.put _ (some 31) _=_
   simp only [a92,Act.put,List.setIfInBounds_toArray,List.set_cons_zero,List.set_cons_succ,fI,fO]
   rfl
  ·
   have z9:=zz_ (fun h=>hcl 9 _ h rfl 8 (by decide)) hbi
   have j9:=zz_ (fun h=>hcl 10 _ h rfl 9 (by decide)) z9
   have ja:=zz_ (fun h=>hcl 11 _ h rfl 10 (by decide)) j9
   have j8:=zz_ (fun h=>hcl 13 _ h rfl 8 (by decide)) hbi
   simp only [hbi,z9,j9,ja,j8] at hI
   obtain ⟨A1,c1,A2,c2,j4,j5,jb,jc,j6,j7,j3,rfl,h⟩:=hI
   have hgw:=HGW.out
   have hh2:=HH2.out
   have jg:=H24.out
   refine wpOp_step rfl (fun K' hK'=>?_)
   simp (decide:=true) only [if_true,if_false,reduceIte,z9,j9,ja,j8] at hK'
   have h9:=h.hK.blk B9.out NE9.out (by simp)
   have q0:W.cell? ⟨g9,0,none⟩=some (.int .i64 1):=aN h9 0
   have q1:W.cell? ⟨g9,1,none⟩=some (.int .i64 3):=aN h9 1
   have q2:W.cell? ⟨g9,2,none⟩=some (.int .i64 0):=aN h9 2
   have q3:W.cell? ⟨g9,3,none⟩=some (.int .i64 8):=aN h9 3
   have q4:W.cell? ⟨g9,4,none⟩=some (.int .i64 0):=aN h9 4
   have q5:W.cell? ⟨g9,5,none⟩=some (.slice je 2 jf):=aN h9 5
   have q6:W.cell? ⟨g9,6,none⟩=some (.slice none 0 0):=aN h9 6
   have q7:W.cell? ⟨g9,7,none⟩=some (.slice none 0 0):=aN h9 7
   refine iW (W:=W) (w1:=W) (v:=?_) (by rfl) ?_ ?_
   rotate_left
   ·(try simp only [a92,cond_true,cond_false])
    go_simp
    first|with_reducible rfl|rfl
   refine hK' _ _ (⟨A1,c1,A2,c2,j4,j5,jb,jc,j6,j7,j3,?_,h⟩)
   show Act.put _ (some 32) _=_
   simp only [a92,Act.put,List.setIfInBounds_toArray,List.set_cons_zero,List.set_cons_succ,fI,fO]
   rfl
  ·
   have hn_:=hneed _ rfl
   have n8:=hn_ 8 (by decide)
   have j9:=zz_ (fun h=>hcl 10 _ h rfl 9 (by decide)) hbi
   have ja:=zz_ (fun h=>hcl 11 _ h rfl 10 (by decide)) j9
   have j8:=zz_ (fun h=>hcl 13 _ h rfl 9 (by decide)) hbi
   simp only [hbi,n8,j9,ja,j8] at hI
   obtain ⟨A1,c1,A2,c2,j4,j5,jb,jc,j6,j7,j3,rfl,h⟩:=hI
   have hgw:=HGW.out
   have hh2:=HH2.out
   have jg:=H24.out
   refine wpOp_step rfl (fun K' hK'=>?_)
   simp (decide:=true) only [if_true,if_false,reduceIte,n8,j9,ja,j8] at hK'
   have hlt:=h.hK.1
   have jj:=Kd.pF jN.out (show aC W0 W g none from h.hK) (fun q hq=>by have:=hq.1;omega)
   refine Kd.rZ k58 W.heap.size 58 ?hg (N':=33) ?hd (w0:=W) (xs:=[(⟨1,3,0,⟨8,0,[⟨13,3,[]⟩,⟨0,1,[]⟩]⟩,[],[]⟩:S58)]) (inner:=[.int .i64 1, .int .i64 3, .int .i64 0, .int .i64 8, .int .i64 0, .slice je 2 jf, .slice none 0 0, .slice none 0 0]) (ok:=fun k=>h2≤k∧(b 12=true→k≠j3)) (okp:=fun k=>h2≤k∧k < W0.heap.size) ?hr ?hp ?ho ?hf (Below.refl _ _) (Nat.le_refl _) (by simp) ?_
   case hd=>rfl
   case hg=>rfl
   case hr=>(try simp only [a92,cond_true,cond_false]);first|(go_simp;done)|(go_simp;rfl)
   case hp=>exact dF.c8 (show Kd.FK k58 _ _ ((⟨1,3,0,⟨8,0,[⟨13,3,[]⟩,⟨0,1,[]⟩]⟩,[],[]⟩:S58):S58) [.int .i64 1, .int .i64 3, .int .i64 0, .int .i64 8, .int .i64 0, .slice je 2 jf, .slice none 0 0, .slice none 0 0] from nU _ _ ((⟨1,3,0,⟨8,0,[⟨13,3,[]⟩,⟨0,1,[]⟩]⟩,[],[]⟩:S58):S58) (Kd.eP jj).2.1 (Kd.N_F jj) (Nat.le_refl _) (Kd.nN _ _ _) (Nat.le_refl _) (Kd.nN _ _ _)) (dF.none _ _)
   case ho=>exact fun q hq=>⟨hq.1,fun e=>by have:=(h.h10 e).1;omega⟩
   case hf=>exact ⟨by have:=H24.out;omega,fun e=>by have:=lK (h.h10 e).2;omega⟩
   intro v1 W' hn hb _ _
   obtain ⟨A,c,rfl⟩:=Kd.eF hn
   have h':=h.ext hb
   refine hK' _ _ (⟨A1,c1,A2,c2,j4,j5,A,c,j6,j7,j3,?_,⟨h'.hK,h'.hI,h'.hB,h'.h30,fun _=>Kd.eU hn (by have:=H24.out;omega),h'.h34,h'.h10⟩⟩)
   show Act.put _ (some 33) _=_
   simp only [a92,Act.put,List.setIfInBounds_toArray,List.set_cons_zero,List.set_cons_succ]
   rfl
  ·
   have hn_:=hneed _ rfl
   have n6:=hn_ 6 (by decide)
   have n7:=hn_ 7 (by decide)
   have n9:=hn_ 9 (by decide)
   have ja:=zz_ (fun h=>hcl 11 _ h rfl 10 (by decide)) hbi
   have j8:=zz_ (fun h=>hcl 13 _ h rfl 10 (by decide)) hbi
   simp only [hbi,n6,n7,n9,ja,j8] at hI
   obtain ⟨A1,c1,A2,c2,j4,j5,jb,jc,j6,j7,j3,rfl,h⟩:=hI
   have hgw:=HGW.out
   have hh2:=HH2.out
   have jg:=H24.out
   refine wpOp_step rfl (fun K' hK'=>?_)
   simp (decide:=true) only [if_true,if_false,reduceIte,n6,n7,n9,ja,j8] at hK'
   have hlt:=h.hK.1
   have hK0:aC W0 W g none:=h.hK
   have h8:=Kd.pF H8.out hK0 (fun q hq=>by have:=hq.1;omega)
   have jx:=h.h33 rfl
   have own8:∀ q,v8.ownBlock=some q→w.heap.size≤q∧q < h2:=fun q hq=>H8.out.1 q hq
   refine Kd.pE k58 (w0:=W) w.heap.size (by rfl) (.tmp 31) (.tmp 33) 33 58 (.agg #[.int .i64 0, .int .i64 0, .int .i64 0, .int .i64 0, .int .i64 0, .slice none 0 0, .slice none 0 0, .slice none 0 0]) 112 rfl Tryz.underlying33 KO rfl (by decide) (by omega) v8 jd [(⟨1,3,0,⟨8,0,[⟨13,3,[]⟩,⟨0,1,[]⟩]⟩,[],[]⟩:S58)] jb 1 jc (fun k=>w.heap.size≤k∧(b 12=true→k≠j3)) (fun k=>h2≤k∧(b 12=true→k≠j3)) rfl rfl (Kd.aW h8 ?aO) (Kd.N_F jx) ?aK ?aF ?aB ?aS ?aL ?_
   case aO=>exact fun q hq=>⟨hq.1,fun e=>by have:=(h.h10 e).1;have:=hq.2;have:=H24.out;omega⟩
   case aK=>exact fun q hq=>⟨⟨by have:=HH2.out;have:=hq.1;omega,hq.2⟩,fun e=>by have:=(own8 q e.symm).2;have:=hq.1;omega⟩
   case aF=>exact fun q hq=>⟨by have:=HH2.out;have:=H24.out;omega,fun e=>by have:=lK (h.h10 e).2;omega⟩
   case aB=>exact Below.refl _ _
   case aS=>have:=HH2.out;have:=H24.out;omega
   case aL=>have:=LM.out;omega
   intro v1 W' hn hb hg hat
   obtain ⟨A,c,rfl⟩:=Kd.eF hn
   have ne:∀ q,h2≤q→some q≠v8.ownBlock:=fun q hq e=>by have:=(own8 q e.symm).2;omega
   have neg:some g≠v8.ownBlock:=fun e=>by have:=(own8 g e.symm).1;omega
   refine hK' _ _ (⟨A1,c1,A2,c2,j4,j5,jb,jc,A,c,j3,?_,⟨aC.trans (row:=v8.ownBlock) ⟨hK0.1,fun q hq hq2 _=>hK0.2 q hq hq2 (by simp)⟩ (aC.fV hg g) (.inl rfl),h.hI.grown hg neg,nS h.hB (Nat.le_of_lt (Nat.lt_of_le_of_lt h.hI.ge hgw)) hb,fun e=>Kd.tH (h.h30 e) (fun q hq hl=>hg.block q hl (ne q (by have:=hq.1;omega))),fun _=>Kd.tH jx (fun q hq hl=>hg.block q hl (ne q hq.1)),fun _=>hn,fun e=>⟨(h.h10 e).1,dZ (h.h10 e).2 hg (ne _ (by have:=(h.h10 e).1;have:=H24.out;omega))⟩⟩⟩)
   show Act.put _ (some 34) _=_
   simp only [a92,Act.put,List.setIfInBounds_toArray,List.set_cons_zero,List.set_cons_succ]
   rfl
  ·
   have hn_:=hneed _ rfl
   have n6:=hn_ 6 (by decide)
   have n10:=hn_ 10 (by decide)
   have j8:=zz_ (fun h=>hcl 13 _ h rfl 11 (by decide)) hbi
   simp only [hbi,n6,n10,j8] at hI
   obtain ⟨A1,c1,A2,c2,j4,j5,jb,jc,j6,j7,j3,rfl,h⟩:=hI
   have hgw:=HGW.out
   have hh2:=HH2.out
   have jg:=H24.out
   refine wpOp_step rfl (fun K' hK'=>?_)
   simp (decide:=true) only [if_true,if_false,reduceIte,n6,n10,j8] at hK'
   refine iW (W:=W) (w1:=W) (v:= .agg #[.int .i64 3, .int .i64 0, .int .i64 0, .int .i64 5, .int .i64 0, .slice j4 2 j5, .slice j6 (jd ++ [(⟨1,3,0,⟨8,0,[⟨13,3,[]⟩,⟨0,1,[]⟩]⟩,[],[]⟩:S58)]).length j7, .slice none 0 0]) (by rfl) ?_ ?_
   ·(try simp only [a92,cond_true,cond_false])
    go_simp
    (try rfl)
   refine hK' _ _ (⟨A1,c1,A2,c2,j4,j5,jb,jc,j6,j7,j3,?_,h⟩)
   show Act.put _ (some 35) _=_
   simp only [a92,Act.put,List.setIfInBounds_toArray,List.set_cons_zero,List.set_cons_succ,fI,fO]
   rfl
  ·
   have j8:=zz_ (fun h=>hcl 13 _ h rfl 12 (by decide)) hbi
   simp only [hbi,j8] at hI
   obtain ⟨A1,c1,A2,c2,j4,j5,jb,jc,j6,j7,j3,rfl,h⟩:=hI
   have hgw:=HGW.out
   have hh2:=HH2.out
   have jg:=H24.out
   refine wpOp_step rfl (fun K' hK'=>?_)
   simp (decide:=true) only [if_true,if_false,reduceIte,j8] at hK'
   refine RB ?hg (N:=10) ?hd (cs:=#[.int .i64 0, .int .i64 0, .int .i64 0, .int .i64 0, .int .i64 0, .slice none 0 0, .slice none 0 0, .slice none 0 0]) (t:=58) ?hr ?_
   case hd=>rfl
   case hg=>rfl
   case hr=>(try simp only [a92,cond_true,cond_false]);first|(go_simp;done)|(go_simp;rfl)
   intro gb hgb W' hbox hb
   have hlt:=h.hK.1
   have h':=h.ext hb
   refine hK' _ _ (⟨A1,c1,A2,c2,j4,j5,jb,jc,j6,j7,gb,?_,⟨h'.hK,h'.hI,h'.hB,fun e=>Kd.aW (Kd.kH (Kd.oV (h.h30 e)) hb) (fun q hq=>⟨hq.1.1,fun _=>by have:=hq.2;omega⟩),fun e=>Kd.aW (Kd.kH (Kd.oV (h.h33 e)) hb) (fun q hq=>⟨hq.1.1,fun _=>by have:=hq.2;omega⟩),fun e=>Kd.aW (Kd.kH (Kd.oV (h.h34 e)) hb) (fun q hq=>⟨hq.1.1,fun _=>by have:=hq.2;omega⟩),fun _=>⟨by omega,hbox⟩⟩⟩)
   show Act.put _ (some 10) _=_
   simp only [a92,Act.put,List.setIfInBounds_toArray,List.set_cons_zero,List.set_cons_succ]
   rfl
  ·
   have hn_:=hneed _ rfl
   have n0:=hn_ 0 (by decide)
   have n1:=hn_ 1 (by decide)
   have n2:=hn_ 2 (by decide)
   have n3:=hn_ 3 (by decide)
   have n4:=hn_ 4 (by decide)
   have n5:=hn_ 5 (by decide)
   have n6:=hn_ 6 (by decide)
   have n7:=hn_ 7 (by decide)
   have n8:=hn_ 8 (by decide)
   have n9:=hn_ 9 (by decide)
   have n10:=hn_ 10 (by decide)
   have n11:=hn_ 11 (by decide)
   have n12:=hn_ 12 (by decide)
   simp only [hbi,n0,n1,n2,n3,n4,n5,n6,n7,n8,n9,n10,n11,n12] at hI
   obtain ⟨A1,c1,A2,c2,j4,j5,jb,jc,j6,j7,j3,rfl,h⟩:=hI
   have hgw:=HGW.out
   have hh2:=HH2.out
   have jg:=H24.out
   refine wpOp_step rfl (fun K' hK'=>?_)
   simp (decide:=true) only [if_true,if_false,reduceIte,n0,n1,n2,n3,n4,n5,n6,n7,n8,n9,n10,n11,n12] at hK'
   obtain ⟨hg10,hbx⟩:=h.h10 rfl
   replace hbx:W.heap[j3]?=some (.cells #[.int .i64 0, .int .i64 0, .int .i64 0, .int .i64 0, .int .i64 0, .slice none 0 0, .slice none 0 0, .slice none 0 0] 58 (0,0)):=hbx
   have hlt:=h.hK.1
   have q0:W.cell? ⟨j3,0,none⟩=some (.int .i64 0):=aN hbx 0
   have f0:=bT hbx 0
   have q1:W.cell? ⟨j3,1,none⟩=some (.int .i64 0):=aN hbx 1
   have f1:=bT hbx 1
   have q2:W.cell? ⟨j3,2,none⟩=some (.int .i64 0):=aN hbx 2
   have f2:=bT hbx 2
   have q3:W.cell? ⟨j3,3,none⟩=some (.int .i64 0):=aN hbx 3
   have f3:=bT hbx 3
   have q4:W.cell? ⟨j3,4,none⟩=some (.int .i64 0):=aN hbx 4
   have f4:=bT hbx 4
   have q5:W.cell? ⟨j3,5,none⟩=some (.slice none 0 0):=aN hbx 5
   have f5:=bT hbx 5
   have q6:W.cell? ⟨j3,6,none⟩=some (.slice none 0 0):=aN hbx 6
   have f6:=bT hbx 6
   have q7:W.cell? ⟨j3,7,none⟩=some (.slice none 0 0):=aN hbx 7
   have f7:=bT hbx 7
   refine xZ (w1:=((((((((W.setCell ⟨j3,0,none⟩ (.int .i64 3)).setCell ⟨j3,1,none⟩ (.int .i64 0)).setCell ⟨j3,2,none⟩ (.int .i64 0)).setCell ⟨j3,3,none⟩ (.int .i64 5)).setCell ⟨j3,4,none⟩ (.int .i64 0)).setCell ⟨j3,5,none⟩ (.slice j4 2 j5)).setCell ⟨j3,6,none⟩ (.slice j6 (jd ++ [(⟨1,3,0,⟨8,0,[⟨13,3,[]⟩,⟨0,1,[]⟩]⟩,[],[]⟩:S58)]).length j7)).setCell ⟨j3,7,none⟩ (.slice none 0 0))) (by rfl) rfl ?_ ?_
   ·(try simp only [a92,cond_true,cond_false])
    go_simp
    (try rfl)
   have ng:g≠j3:=by omega
   have hb0:w0.heap.size≤j3:=Nat.le_trans h.hI.ge (by omega)
   refine hK' _ _ (⟨A1,c1,A2,c2,j4,j5,jb,jc,j6,j7,j3,rfl,⟨(gX (p:=⟨j3,7,none⟩) (gX (p:=⟨j3,6,none⟩) (gX (p:=⟨j3,5,none⟩) (gX (p:=⟨j3,4,none⟩) (gX (p:=⟨j3,3,none⟩) (gX (p:=⟨j3,2,none⟩) (gX (p:=⟨j3,1,none⟩) (gX (p:=⟨j3,0,none⟩) h.hK hg10 (.int .i64 3)) hg10 (.int .i64 0)) hg10 (.int .i64 0)) hg10 (.int .i64 5)) hg10 (.int .i64 0)) hg10 (.slice j4 2 j5)) hg10 (.slice j6 (jd ++ [(⟨1,3,0,⟨8,0,[⟨13,3,[]⟩,⟨0,1,[]⟩]⟩,[],[]⟩:S58)]).length j7)) hg10 (.slice none 0 0)),(aI.far (p:=⟨j3,7,none⟩) (aI.far (p:=⟨j3,6,none⟩) (aI.far (p:=⟨j3,5,none⟩) (aI.far (p:=⟨j3,4,none⟩) (aI.far (p:=⟨j3,3,none⟩) (aI.far (p:=⟨j3,2,none⟩) (aI.far (p:=⟨j3,1,none⟩) (aI.far (p:=⟨j3,0,none⟩) h.hI ng (.int .i64 3)) ng (.int .i64 0)) ng (.int .i64 0)) ng (.int .i64 5)) ng (.int .i64 0)) ng (.slice j4 2 j5)) ng (.slice j6 (jd ++ [(⟨1,3,0,⟨8,0,[⟨13,3,[]⟩,⟨0,1,[]⟩]⟩,[],[]⟩:S58)]).length j7)) ng (.slice none 0 0)),(below_set (j:=7) (v:=(.slice none 0 0)) (below_set (j:=6) (v:=(.slice j6 (jd ++ [(⟨1,3,0,⟨8,0,[⟨13,3,[]⟩,⟨0,1,[]⟩]⟩,[],[]⟩:S58)]).length j7)) (below_set (j:=5) (v:=(.slice j4 2 j5)) (below_set (j:=4) (v:=(.int .i64 0)) (below_set (j:=3) (v:=(.int .i64 5)) (below_set (j:=2) (v:=(.int .i64 0)) (below_set (j:=1) (v:=(.int .i64 0)) (below_set (j:=0) (v:=(.int .i64 3)) h.hB hb0) hb0) hb0) hb0) hb0) hb0) hb0) hb0),fun e=>(Kd.dB (p:=⟨j3,7,none⟩) (Kd.dB (p:=⟨j3,6,none⟩) (Kd.dB (p:=⟨j3,5,none⟩) (Kd.dB (p:=⟨j3,4,none⟩) (Kd.dB (p:=⟨j3,3,none⟩) (Kd.dB (p:=⟨j3,2,none⟩) (Kd.dB (p:=⟨j3,1,none⟩) (Kd.dB (p:=⟨j3,0,none⟩) (h.h30 rfl) (fun q hq=>hq.2 rfl) (.int .i64 3)) (fun q hq=>hq.2 rfl) (.int .i64 0)) (fun q hq=>hq.2 rfl) (.int .i64 0)) (fun q hq=>hq.2 rfl) (.int .i64 5)) (fun q hq=>hq.2 rfl) (.int .i64 0)) (fun q hq=>hq.2 rfl) (.slice j4 2 j5)) (fun q hq=>hq.2 rfl) (.slice j6 (jd ++ [(⟨1,3,0,⟨8,0,[⟨13,3,[]⟩,⟨0,1,[]⟩]⟩,[],[]⟩:S58)]).length j7)) (fun q hq=>hq.2 rfl) (.slice none 0 0)),fun e=>(Kd.dB (p:=⟨j3,7,none⟩) (Kd.dB (p:=⟨j3,6,none⟩) (Kd.dB (p:=⟨j3,5,none⟩) (Kd.dB (p:=⟨j3,4,none⟩) (Kd.dB (p:=⟨j3,3,none⟩) (Kd.dB (p:=⟨j3,2,none⟩) (Kd.dB (p:=⟨j3,1,none⟩) (Kd.dB (p:=⟨j3,0,none⟩) (h.h33 rfl) (fun q hq=>hq.2 rfl) (.int .i64 3)) (fun q hq=>hq.2 rfl) (.int .i64 0)) (fun q hq=>hq.2 rfl) (.int .i64 0)) (fun q hq=>hq.2 rfl) (.int .i64 5)) (fun q hq=>hq.2 rfl) (.int .i64 0)) (fun q hq=>hq.2 rfl) (.slice j4 2 j5)) (fun q hq=>hq.2 rfl) (.slice j6 (jd ++ [(⟨1,3,0,⟨8,0,[⟨13,3,[]⟩,⟨0,1,[]⟩]⟩,[],[]⟩:S58)]).length j7)) (fun q hq=>hq.2 rfl) (.slice none 0 0)),fun e=>(Kd.dB (p:=⟨j3,7,none⟩) (Kd.dB (p:=⟨j3,6,none⟩) (Kd.dB (p:=⟨j3,5,none⟩) (Kd.dB (p:=⟨j3,4,none⟩) (Kd.dB (p:=⟨j3,3,none⟩) (Kd.dB (p:=⟨j3,2,none⟩) (Kd.dB (p:=⟨j3,1,none⟩) (Kd.dB (p:=⟨j3,0,none⟩) (h.h34 rfl) (fun q hq=>hq.2 rfl) (.int .i64 3)) (fun q hq=>hq.2 rfl) (.int .i64 0)) (fun q hq=>hq.2 rfl) (.int .i64 0)) (fun q hq=>hq.2 rfl) (.int .i64 5)) (fun q hq=>hq.2 rfl) (.int .i64 0)) (fun q hq=>hq.2 rfl) (.slice j4 2 j5)) (fun q hq=>hq.2 rfl) (.slice j6 (jd ++ [(⟨1,3,0,⟨8,0,[⟨13,3,[]⟩,⟨0,1,[]⟩]⟩,[],[]⟩:S58)]).length j7)) (fun q hq=>hq.2 rfl) (.slice none 0 0)),fun _=>⟨hg10,(aY (cs':=#[(.int .i64 3),(.int .i64 0),(.int .i64 0),(.int .i64 5),(.int .i64 0),(.slice j4 2 j5),(.slice j6 (jd ++ [(⟨1,3,0,⟨8,0,[⟨13,3,[]⟩,⟨0,1,[]⟩]⟩,[],[]⟩:S58)]).length j7),(.slice none 0 0)]) (aY (cs':=#[(.int .i64 3),(.int .i64 0),(.int .i64 0),(.int .i64 5),(.int .i64 0),(.slice j4 2 j5),(.slice j6 (jd ++ [(⟨1,3,0,⟨8,0,[⟨13,3,[]⟩,⟨0,1,[]⟩]⟩,[],[]⟩:S58)]).length j7),(.slice none 0 0)]) (aY (cs':=#[(.int .i64 3),(.int .i64 0),(.int .i64 0),(.int .i64 5),(.int .i64 0),(.slice j4 2 j5),(.slice none 0 0),(.slice none 0 0)]) (aY (cs':=#[(.int .i64 3),(.int .i64 0),(.int .i64 0),(.int .i64 5),(.int .i64 0),(.slice none 0 0),(.slice none 0 0),(.slice none 0 0)]) (aY (cs':=#[(.int .i64 3),(.int .i64 0),(.int .i64 0),(.int .i64 5),(.int .i64 0),(.slice none 0 0),(.slice none 0 0),(.slice none 0 0)]) (aY (cs':=#[(.int .i64 3),(.int .i64 0),(.int .i64 0),(.int .i64 0),(.int .i64 0),(.slice none 0 0),(.slice none 0 0),(.slice none 0 0)]) (aY (cs':=#[(.int .i64 3),(.int .i64 0),(.int .i64 0),(.int .i64 0),(.int .i64 0),(.slice none 0 0),(.slice none 0 0),(.slice none 0 0)]) (aY (cs':=#[(.int .i64 3),(.int .i64 0),(.int .i64 0),(.int .i64 0),(.int .i64 0),(.slice none 0 0),(.slice none 0 0),(.slice none 0 0)]) hbx 0 (.int .i64 3) rfl) 1 (.int .i64 0) rfl) 2 (.int .i64 0) rfl) 3 (.int .i64 5) rfl) 4 (.int .i64 0) rfl) 5 (.slice j4 2 j5) rfl) 6 (.slice j6 (jd ++ [(⟨1,3,0,⟨8,0,[⟨13,3,[]⟩,⟨0,1,[]⟩]⟩,[],[]⟩:S58)]).length j7) rfl) 7 (.slice none 0 0) rfl)⟩⟩⟩)
 case hdone=>
  intro b a W hall hI
  replace hI:L92 w0 w W0 g g9 h2 jh a1 a2 jp jA jk jB v8 jd jD jE jF jG je jf (b 0) (b 1) (b 2) (b 3) (b 4) (b 5) (b 6) (b 7) (b 8) (b 9) (b 10) (b 11) (b 12) (b 13) a W:=hI
  rw [hall 0 (by decide),hall 1 (by decide),hall 2 (by decide),hall 3 (by decide),hall 4 (by decide),hall 5 (by decide),hall 6 (by decide),hall 7 (by decide),hall 8 (by decide),hall 9 (by decide),hall 10 (by decide),hall 11 (by decide),hall 12 (by decide),hall 13 (by decide)] at hI
  obtain ⟨A1,c1,A2,c2,j4,j5,jb,jc,j6,j7,j3,rfl,h⟩:=hI
  simp only [a92,cond_true]
  try go_wp2
  have own8:∀ q,v8.ownBlock=some q→w.heap.size≤q:=fun q hq=>(H8.out.1 q hq).1
  have hh2:=HH2.out
  have jg:=H24.out
  have HKW:Aside0 (aC w W g none):=⟨aC.trans HK'.out h.hK (by cases hv:v8.ownBlock with|none=>exact .inl rfl|some q=>exact .inr ⟨q,rfl,own8 q hv⟩)⟩
  have HN30:=am (Kd.aW (h.h30 rfl) (ok':=fun q=>w.heap.size≤q) (fun q hq=>by have:=hq.1;omega))
  have HN34:=am (Kd.aW (h.h34 rfl) (ok':=fun q=>w.heap.size≤q) (fun q hq=>hq.1))
  have h10':=am (show W.heap[j3]?=some (.cells #[.int .i64 3, .int .i64 0, .int .i64 0, .int .i64 5, .int .i64 0, .slice j4 2 j5, .slice j6 (jd ++ [(⟨1,3,0,⟨8,0,[⟨13,3,[]⟩,⟨0,1,[]⟩]⟩,[],[]⟩:S58)]).length j7, .slice none 0 0] 58 (0,0)) from (h.h10 rfl).2)
  have HIW:=am (show aI w0 W g jh jB from h.hI)
  have HBW:=am h.hB
  clear h hall own8 hh2 jg HI' HB' HK' H24 HH2 H8
  refine kZ (n:=6) (S:=fun w'=>w'.cell? ⟨j3,0,none⟩=some (.int .i64 3)∧w'.cell? ⟨j3,1,none⟩=some (.int .i64 0)∧w'.cell? ⟨j3,2,none⟩=some (.int .i64 0)∧w'.cell? ⟨j3,3,none⟩=some (.int .i64 5)∧w'.cell? ⟨j3,4,none⟩=some (.int .i64 0)∧w'.cell? ⟨j3,5,none⟩=some (.slice j4 2 j5)∧w'.cell? ⟨j3,6,none⟩=some (.slice j6 (jd ++ [(⟨1,3,0,⟨8,0,[⟨13,3,[]⟩,⟨0,1,[]⟩]⟩,[],[]⟩:S58)]).length j7)∧w'.cell? ⟨j3,7,none⟩=some (.slice none 0 0)) (ds:=[]) (bz 6 0) (by kernel_rfl) rfl rfl ⟨(aN h10'.out 0).trans rfl,(aN h10'.out 1).trans rfl,(aN h10'.out 2).trans rfl,(aN h10'.out 3).trans rfl,(aN h10'.out 4).trans rfl,(aN h10'.out 5).trans rfl,(aN h10'.out 6).trans rfl,(aN h10'.out 7).trans rfl⟩ (fun hHeld=>?_)
  have jl:=am (gT HKW.out)
  have jy:=am (Kd.rF HN30.out)
  have jz:=am (Kd.rF HN34.out)
  have jm:=am (dA h10'.out)
  have jn:=am (aI.drew HIW.out)
  have jo:=am (bJ HBW.out)
  clear HKW HN30 HN34 h10' HIW HBW
  have HKW:=jl
  have HN30:=jy
  have HN34:=jz
  have h10':=jm
  have HIW:=jn
  have HBW:=jo
  clear jl jy jz jm jn jo
  generalize W.drew=W1 at HKW HN30 HN34 h10' HIW HBW hHeld ⊢
  refine tO (i:=0) (N:=some 36) (v:=?_) (a':=?_) (bz 6 1) rfl rfl (by kernel_rfl) (fun _ _ _ h=>h) (Or.inl ⟨by rfl,?_⟩) ?_ ?_
  rotate_left
  ·intro w'
   go_simp
   with_reducible rfl
  rotate_left
  ·simp only [Act.put,List.setIfInBounds_toArray,List.set_cons_zero,List.set_cons_succ,fI,fO]
   rfl
  refine uV (i:=3) (N:=some 39) (v:=?_) (a':=?_) (bz 6 9) rfl rfl (by kernel_rfl) (fun _ _ _ h=>h) (Or.inl ⟨by rfl,?_⟩) hHeld ?_ ?_
  rotate_left
  ·rintro w' ⟨s0,s1,s2,s3,s4,s5,s6,s7⟩
   go_simp
   with_reducible rfl
  rotate_left
  ·simp only [Act.put,List.setIfInBounds_toArray,List.set_cons_zero,List.set_cons_succ,fI,fO]
   rfl
  refine gY (i:=1) (N:=some 37) (bz 6 11) rfl rfl (by kernel_rfl) (by decide) (fun K hK=>?_)
  refine iF Tryz.func62 (by kernel_rfl) rfl #[.int .i64 0, .int .i64 0] (by rfl) rfl rfl (by (try simp only [List.map_toArray,List.map_cons,List.map_nil]);first|done|rfl) ?_
  refine (xV 0 0 _).mono ?_
  rintro e W2 ⟨AL,cL,rfl,hb⟩
  refine ⟨_,rfl,?_⟩
  have jl:=am (aC.trans HKW.out (aC.of_below hb g none) (.inl rfl))
  have jy:=am (Kd.kH HN30.out hb)
  have jz:=am (Kd.kH HN34.out hb)
  have jm:=am (kK h10'.out hb)
  have jn:=am (HIW.out.below hb)
  have jo:=am (aA HBW.out hb)
  clear HKW HN30 HN34 h10' HIW HBW
  have HKW:=jl
  have HN30:=jy
  have HN34:=jz
  have h10':=jm
  have HIW:=jn
  have HBW:=jo
  clear jl jy jz jm jn jo hb
  refine hK.out _ _ ⟨(aN h10'.out 0).trans rfl,(aN h10'.out 1).trans rfl,(aN h10'.out 2).trans rfl,(aN h10'.out 3).trans rfl,(aN h10'.out 4).trans rfl,(aN h10'.out 5).trans rfl,(aN h10'.out 6).trans rfl,(aN h10'.out 7).trans rfl⟩ (fun hHeld=>?_)
  clear hK K
  refine eZ (a':=?_) ?_ ?_
  rotate_left
  ·exact ap_ (N:=37)
  refine tO (i:=2) (N:=some 38) (v:=?_) (a':=?_) (bz 6 15) rfl rfl (by kernel_rfl) (fun _ _ _ h=>h) (Or.inl ⟨by rfl,?_⟩) ?_ ?_
  rotate_left
  ·intro w'
   go_simp
   with_reducible rfl
  rotate_left
  ·simp only [Act.put,List.setIfInBounds_toArray,List.set_cons_zero,List.set_cons_succ,fI,fO]
   rfl
  refine gY (i:=4) (N:=some 40) (bz 6 31) rfl rfl (by kernel_rfl) (by decide) (fun K hK=>?_)
  have hkw:=HKW.out.1
  refine Kd.rZ k58 W2.heap.size 58 ?hg (N':=40) ?hd (w0:=W2) (xs:=[(⟨1,3,0,⟨0,0,[]⟩,[],[]⟩:S58),(⟨3,0,0,⟨5,0,[⟨13,3,[]⟩,⟨0,wrap64 (1 + jk),[]⟩]⟩,jd ++ [⟨1,3,0,⟨8,0,[⟨13,3,[]⟩,⟨0,1,[]⟩]⟩,[],[]⟩],[]⟩:S58)]) (inner:=[.int .i64 1, .int .i64 3, .int .i64 0, .int .i64 0, .int .i64 0, .slice AL 0 cL, .slice none 0 0, .slice none 0 0, .int .i64 3, .int .i64 0, .int .i64 0, .int .i64 5, .int .i64 0, .slice j4 2 j5, .slice j6 (jd ++ [(⟨1,3,0,⟨8,0,[⟨13,3,[]⟩,⟨0,1,[]⟩]⟩,[],[]⟩:S58)]).length j7, .slice none 0 0]) (ok:=fun q=>w.heap.size≤q) (okp:=fun q=>w.heap.size≤q) ?hr ?hp (fun _ hq=>hq) ?hf (Below.refl _ _) (Nat.le_refl _) (by simp) ?_
  case hd=>rfl
  case hg=>rfl
  case hr=>first|(go_simp;done)|(go_simp;rfl)
  case hf=>exact hkw
  case hp=>exact dF.c8 (show Kd.FK k58 _ _ (⟨1,3,0,⟨0,0,[]⟩,[],[]⟩:S58) [.int .i64 1, .int .i64 3, .int .i64 0, .int .i64 0, .int .i64 0, .slice AL 0 cL, .slice none 0 0, .slice none 0 0] from nU _ _ (⟨1,3,0,⟨0,0,[]⟩,[],[]⟩:S58) (Nat.zero_le _) (aEz k56 _ _ AL) (Nat.le_refl _) (Kd.nN _ _ _) (Nat.le_refl _) (Kd.nN _ _ _)) (dF.c8 (show Kd.FK k58 _ _ (⟨3,0,0,⟨5,0,[⟨13,3,[]⟩,⟨0,wrap64 (1 + jk),[]⟩]⟩,jd ++ [⟨1,3,0,⟨8,0,[⟨13,3,[]⟩,⟨0,1,[]⟩]⟩,[],[]⟩],[]⟩:S58) [.int .i64 3, .int .i64 0, .int .i64 0, .int .i64 5, .int .i64 0, .slice j4 2 j5, .slice j6 (jd ++ [(⟨1,3,0,⟨8,0,[⟨13,3,[]⟩,⟨0,1,[]⟩]⟩,[],[]⟩:S58)]).length j7, .slice none 0 0] from nU _ _ (⟨3,0,0,⟨5,0,[⟨13,3,[]⟩,⟨0,wrap64 (1 + jk),[]⟩]⟩,jd ++ [⟨1,3,0,⟨8,0,[⟨13,3,[]⟩,⟨0,1,[]⟩]⟩,[],[]⟩],[]⟩:S58) (Kd.eP HN30.out).2.1 (Kd.N_F HN30.out) (Kd.eP HN34.out).2.1 (Kd.N_F HN34.out) (Nat.le_refl _) (Kd.nN _ _ _)) (dF.none _ _))
  intro v1 W3 hn hb _ _
  have jl:=am (aC.trans HKW.out (aC.of_below hb g none) (.inl rfl))
  have jm:=am (kK h10'.out hb)
  have jn:=am (HIW.out.below hb)
  have jo:=am (aA HBW.out hb)
  have qi:=am (Kd.eU hn hkw)
  clear HKW HN30 HN34 h10' HIW HBW hb hn
  have h10':=jm
  refine hK.out _ _ ⟨(aN h10'.out 0).trans rfl,(aN h10'.out 1).trans rfl,(aN h10'.out 2).trans rfl,(aN h10'.out 3).trans rfl,(aN h10'.out 4).trans rfl,(aN h10'.out 5).trans rfl,(aN h10'.out 6).trans rfl,(aN h10'.out 7).trans rfl⟩ (fun hHeld=>?_)
  clear hK K
  refine eZ (a':=?_) ?_ ?_
  rotate_left
  ·exact ap_ (N:=40)
  refine tO (i:=5) (N:=some 6) (v:=?_) (a':=?_) (bz 6 63) rfl rfl (by kernel_rfl) (fun _ _ _ h=>h) (Or.inl ⟨by rfl,?_⟩) ?_ ?_
  rotate_left
  ·intro w'
   go_simp
   with_reducible rfl
  rotate_left
  ·simp only [Act.put,List.setIfInBounds_toArray,List.set_cons_zero,List.set_cons_succ,fI,fO]
   rfl
  refine nA (by kernel_rfl) ?_
  try go_wp2
  go_ret
  exact ⟨_,rfl,HR.out ▸ qi.out,jn.out,jo.out,jl.out⟩
theorem dR.mono_l:∀ k,(∀ y0 y1 y2 y3 y4,LeO (dR.l0 k y0 y1 y2 y3 y4) (dR.l0 (k + 1) y0 y1 y2 y3 y4))
 |0=>fun _ _ _ _ _ r h=>by simp [dR.l0] at h
 |k + 1=>by
  have ih0:=dR.mono_l k
  ·intro y0 y1 y2 y3 y4
   unfold dR.l0
   have m0:=@aG.mono
   exact mo_
theorem dR.mono:∀ a0 a1 k,LeO (dR.f k a0 a1) (dR.f (k + 1) a0 a1):=by
 intro a0 a1 k
 have ih0:=dR.mono_l k
 unfold dR.f
 have m0:=@aG.mono
 exact mo_
theorem dR.calls (k:Nat) (g:Nat) (j3:List Int) (j9:Int) (r1:List Int) (r2:Int) (w0 w:World) (hI:aI w0 w g j3 j9) (hB:Below w0.heap.size w0 w) (h:dR.f k j3 j9=some (r1,r2)):
  Calls Tryz.prog 59 #[.pointer (some ⟨g,0,none⟩)] w fun e w'=>∃ v0_:Value,e= .returned (v0_)∧Kd.R (Kd.int .i64) 3 w' w.heap.size (fun _=>True) v0_ r1∧aI w0 w' g j3 r2∧Below w0.heap.size w0 w'∧aC w w' g none:=by
 have HI0:=am hI
 have HK:=am (aC.refl w g none)
 have HL:=am hB.size
 clear hI
 have HW0:=am hB.size
 have HB:=am hB
 clear hB
 unfold dR.f at h
 have H:=h
 clear h
 obtain ⟨ju,hy_⟩:∃ y_:List Int,y_=(([]:List Int)):=⟨_,rfl⟩
 replace H:((some (([0,1,1,2,2,3]:List Int):List Int)).bind fun jb=>((aG.f k j3 j9 6).bind fun j6=>(if 0≤j6.1 then (if j6.1 < (jb.length:Int) then (dR.l0 k ju (rd jb j6.1) 0 j3 j6.2) else (none)) else (none))))=some (r1,r2):=rx_
 have jk:=am hy_
 clear hy_
 obtain ⟨jb,hy_⟩:∃ y_:List Int,y_=(([0,1,1,2,2,3]:List Int)):=⟨_,rfl⟩
 replace H:((aG.f k j3 j9 6).bind fun j6=>(if 0≤j6.1 then (if j6.1 < (jb.length:Int) then (dR.l0 k ju (rd jb j6.1) 0 j3 j6.2) else (none)) else (none)))=some (r1,r2):=rx_
 have jl:=am hy_
 clear hy_
 obtain ⟨⟨jc,jH⟩,A2,H⟩:=bsa H
 (try dsimp only at H)
 by_cases c3:0≤jc
 ·rw [if_pos c3] at H
  have jv:decide (0≤jc)=true:=decide_eq_true c3
  clear c3
  by_cases c4:jc < (jb.length:Int)
  ·rw [if_pos c4] at H
   have jw:decide (jc < (jb.length:Int))=true:=decide_eq_true c4
   clear c4
   have H':=am H
   clear H
   go_enter Tryz.func59,Tryz.ntmps59
   go_wp2_with (first|((with_reducible refine cK (N:=6) rfl ?_);refine Kd.oP (Kd.int .i64) _ 3 rfl (N:=6) rfl (xs:=([]:List Int)) (inner:=[]) (ok:=fun _=>True) (okp:=fun _=>True) rn_ ?hp (fun _ hk=>hk) trivial (Below.refl _ _) (Nat.le_refl _) (by simp) ?_;(case hp=>exact (dF.none _ _));intro jU w5 ho6 hb hg_ hnew_;clear hg_ hnew_;(first|rw [← jk.out] at ho6|(simp only [Int.reduceToNat] at ho6;rw [← jk.out] at ho6));have jd:=am (Kd.fG ho6 (aM (w:=w) (g:=g) (row:=none) fF));replace HK:=am (aC.trans fF (aC.of_below hb g none) (.inl rfl));replace HB:=am (aA iX hb);replace HI0:=am (aI.below fQ hb);clear hb ho6)|((with_reducible refine cK (N:=7) rfl ?_);refine Kd.oP (Kd.int .i64) _ 3 rfl (N:=7) rfl (xs:=([0,1,1,2,2,3]:List Int)) (inner:=[.int .i64 0, .int .i64 1, .int .i64 1, .int .i64 2, .int .i64 2, .int .i64 3]) (ok:=fun _=>True) (okp:=fun _=>True) rn_ ?hp (fun _ hk=>hk) trivial (Below.refl _ _) (Nat.le_refl _) (by simp) ?_;(case hp=>exact (dF.one (show Kd.M (Kd.int .i64) _ _ _ 0 [.int .i64 0] from rfl) (dF.one (show Kd.M (Kd.int .i64) _ _ _ 1 [.int .i64 1] from rfl) (dF.one (show Kd.M (Kd.int .i64) _ _ _ 1 [.int .i64 1] from rfl) (dF.one (show Kd.M (Kd.int .i64) _ _ _ 2 [.int .i64 2] from rfl) (dF.one (show Kd.M (Kd.int .i64) _ _ _ 2 [.int .i64 2] from rfl) (dF.one (show Kd.M (Kd.int .i64) _ _ _ 3 [.int .i64 3] from rfl) (dF.none _ _))))))));intro jV w7 ho8 hb hg_ hnew_;clear hg_ hnew_;(first|rw [← jl.out] at ho8|(simp only [Int.reduceToNat] at ho8;rw [← jl.out] at ho8));have jf:=am (Kd.fG (Kd.lT ho8 (Kd.iN (aR_ jd.out))) (aM (w:=w) (g:=g) (row:=none) fF));replace jd:=am (Kd.iL (aR_ jd.out) (Kd.iU ho8) hb);replace HK:=am (aC.trans fF (aC.of_below hb g none) (.inl rfl));replace HB:=am (aA iX hb);replace HI0:=am (aI.below fQ hb);clear hb ho8)|((with_reducible refine aD (f:=37) rfl ?_);refine gl_ 9 Tryz.func37 #[.pointer (some ⟨g,0,none⟩), .int .i64 6] ?_;(with_reducible refine (aG.calls k g j3 j9 6 jc jH w0 _ ?side1 ?side2 A2.out).mono ?_);(case side1=>exact fQ);(case side2=>exact iX);rintro e w9 ⟨rfl,hi,hb,hk⟩;refine ⟨_,rfl,?_⟩;replace jd:=am (Kd.bV (Kd.pG (aI.apart (show aI w0 _ g j3 j9 from fQ) (aR_ jd.out) (by decide)) hk (fun _ h=>h.2)) (fun _ h=>h.1));replace jf:=am (Kd.bV (Kd.pG (aI.apart (show aI w0 _ g j3 j9 from fQ) (aR_ jf.out) (by decide)) hk (fun _ h=>h.2)) (fun _ h=>h.1));replace HK:=am (aC.trans fF hk (.inl rfl));replace HB:=am (hb);replace HI0:=am (hi);(try clear hb);(try clear hk);(try clear hi);obtain ⟨jN,jO,jx⟩:=Kd.eY jf.out;subst jx;have jp:0≤(jc:Int):=of_decide_eq_true eB;have jq:jc < (jb.length:Int):=of_decide_eq_true eB;obtain ⟨jP,jQ,ji⟩:=Kd.oF (Kd.eH jf.out).2.2 jc jp jq;cases jQ;replace jp:=eq_true jp;replace jq:=eq_true jq))
   go_loopg [3,5] k (fun kq v3 v5 w'=>∃ (j8:List Int) (j7:Int) (j4:Int),v5= .int .i64 j7∧Aside0 (dR.l0 kq j8 (rd jb jc) j7 j3 j4=some (r1,r2))∧Aside0 (kq≤k)∧Aside0 (Kd.R (Kd.int .i64) 3 w' w.heap.size (fun _=>True) v3 j8)∧Aside0 (aI w0 w' g j3 j4)∧Aside0 (aC w w' g none)∧Aside0 (Below w0.heap.size w0 w'))
   case atStart=>exact ⟨(ju),(0),(jH),sd_,H',⟨Nat.le_refl _⟩,⟨gH (Kd.bV jd.out (fun _ hk=>trivial))⟩,⟨fQ⟩,⟨fF⟩,⟨iX⟩⟩
   case round=>
    clear H'
    try clear c3
    try clear jv
    try clear c4
    try clear jw
    try clear ji
    try clear jp
    try clear jq
    obtain ⟨j8,j7,j4,rfl,HA,jI,j5,HI0,HK,HB⟩:=hrel
    cases gk with
    |zero=>exact absurd HA.out (by simp [dR.l0])
    |succ k1=>
     have H:=HA.out
     clear HA
     simp only [dR.l0] at H
     by_cases jj:j7 < (rd jb jc)
     ·rw [if_pos jj] at H
      have jm:decide (j7 < (rd jb jc))=true:=decide_eq_true jj
      clear jj
      obtain ⟨jg,hy_⟩:∃ y_:List Int,y_=(([1,1,2,3,4]:List Int)):=⟨_,rfl⟩
      replace H:((aG.f k1 j3 j4 5).bind fun jh=>(if 0≤jh.1 then (if jh.1 < (jg.length:Int) then (if j8.length < 17592186044416 then (dR.l0 k1 (j8 ++ [rd jg jh.1]) (rd jb jc) (wrap64 (j7 + 1)) j3 jh.2) else (none)) else (none)) else (none)))=some (r1,r2):=rx_
      have jn:=am hy_
      clear hy_
      obtain ⟨⟨je,jy⟩,jJ,H⟩:=bsm H
      (try dsimp only at H)
      have jR:=am jJ
      clear jJ
      by_cases jr:0≤je
      ·rw [if_pos jr] at H
       have jK:decide (0≤je)=true:=decide_eq_true jr
       clear jr
       by_cases js:je < (jg.length:Int)
       ·rw [if_pos js] at H
        have jL:decide (je < (jg.length:Int))=true:=decide_eq_true js
        clear js
        by_cases jt:j8.length < 17592186044416
        ·rw [if_pos jt] at H
         have jo:=am jt
         clear jt
         obtain ⟨jM,hy_⟩:∃ y_:List Int,y_=(j8 ++ [rd jg je]):=⟨_,rfl⟩
         replace H:(dR.l0 k1 jM (rd jb jc) (wrap64 (j7 + 1)) j3 jy)=some (r1,r2):=rx_
         have jz:=am hy_
         clear hy_
         have H':=am H
         clear H
         go_wp2_with (first|((with_reducible refine cK (N:=18) rfl ?_);refine Kd.oP (Kd.int .i64) _ 3 rfl (N:=18) rfl (xs:=([1,1,2,3,4]:List Int)) (inner:=[.int .i64 1, .int .i64 1, .int .i64 2, .int .i64 3, .int .i64 4]) (ok:=fun _=>True) (okp:=fun _=>True) rn_ ?hp (fun _ hk=>hk) trivial (Below.refl _ _) (Nat.le_refl _) (by simp) ?_;(case hp=>exact (dF.one (show Kd.M (Kd.int .i64) _ _ _ 1 [.int .i64 1] from rfl) (dF.one (show Kd.M (Kd.int .i64) _ _ _ 1 [.int .i64 1] from rfl) (dF.one (show Kd.M (Kd.int .i64) _ _ _ 2 [.int .i64 2] from rfl) (dF.one (show Kd.M (Kd.int .i64) _ _ _ 3 [.int .i64 3] from rfl) (dF.one (show Kd.M (Kd.int .i64) _ _ _ 4 [.int .i64 4] from rfl) (dF.none _ _)))))));intro jW jX ho17 hb hg_ hnew_;clear hg_ hnew_;(first|rw [← jn.out] at ho17|(simp only [Int.reduceToNat] at ho17;rw [← jn.out] at ho17));have ja:=am (Kd.fG (Kd.lT ho17 (Kd.iN (aR_ j5.out))) (aM (w:=w) (g:=g) (row:=none) fF));replace j5:=am (Kd.iL (aR_ j5.out) (Kd.iU ho17) hb);replace HK:=am (aC.trans fF (aC.of_below hb g none) (.inl rfl));replace HB:=am (aA iX hb);replace HI0:=am (aI.below fQ hb);clear hb ho17)|((with_reducible refine aD (f:=37) rfl ?_);refine gl_ 20 Tryz.func37 #[.pointer (some ⟨g,0,none⟩), .int .i64 5] ?_;(with_reducible refine (aG.calls k1 g j3 j4 5 je jy w0 _ ?side1 ?side2 jR.out).mono ?_);(case side1=>exact fQ);(case side2=>exact iX);rintro e jY ⟨rfl,hi,hb,hk⟩;refine ⟨_,rfl,?_⟩;replace j5:=am (Kd.bV (Kd.pG (aI.apart (show aI w0 _ g j3 j4 from fQ) (aR_ j5.out) (by decide)) hk (fun _ h=>h.2)) (fun _ h=>h.1));replace ja:=am (Kd.bV (Kd.pG (aI.apart (show aI w0 _ g j3 j4 from fQ) (aR_ ja.out) (by decide)) hk (fun _ h=>h.2)) (fun _ h=>h.1));replace HK:=am (aC.trans fF hk (.inl rfl));replace HB:=am (hb);replace HI0:=am (hi);(try clear hb);(try clear hk);(try clear hi);obtain ⟨jS,jA,jB⟩:=Kd.eY ja.out;subst jB;have jC:0≤(je:Int):=of_decide_eq_true eB;have jD:je < (jg.length:Int):=of_decide_eq_true eB;obtain ⟨jE,jT,jF⟩:=Kd.oF (Kd.eH ja.out).2.2 je jC jD;cases jT;replace jC:=eq_true jC;replace jD:=eq_true jD)|((with_reducible refine dS (b:= .append) (xs:=#[.tmp 17, .tmp 23]) rfl ?_);at_builtin;refine Kd.kE (Kd.int .i64) w.heap.size rfl (.tmp 17) (.tmp 23) 23 3 (.int .i64 0) 8 rfl Tryz.underlying23 info3 rfl (by decide) (by omega) u3 j8 (rd jg je) [.int .i64 (rd jg je)] (fun k_=>some k_≠(.slice (some jE) jg.length jA:Value).ownBlock) (fun _=>False) rfl rfl ?aP (fun _ hk=>hk.elim) ?aF ?aO (Below.refl _ _) ?aS ?aL ?_;(case aP=>exact rfl);(case aF=>exact (fun k_ hk=>Kd.fresh' (Kd.iN (aR_ ja.out)) k_ hk));(case aO=>exact (gH (Kd.bV j5.out (fun _ hk=>hk.2))));(case aS=>exact (aM (w:=w) (g:=g) (row:=none) fF));(case aL=>have:=jo.out;omega);intro jZ q0 ho hb hg hat;rw [← jz.out] at ho;replace ja:=am (Kd.iM (ok:=(fun _=>True)) (aR_ ja.out) hg hat);replace HB:=am (nS iX HL.out hb);replace HI0:=am (aI.grown fQ hg (aI.own_ne HI0.out j5.out (by decide)));replace HK:=am (aC.trans fF (aC.fV hg g) (Kd.OI j5.out));have jG:=am (ho);clear j5 ho hb hg hat))
         go_roundg k1
         case measure=>have:=jI.out;omega
         case rel=>exact ⟨(jM),(wrap64 (j7 + 1)),(jy),sd_,H',⟨by have:=jI.out;omega⟩,⟨gH (Kd.bV jG.out (fun _ hk=>trivial))⟩,⟨fQ⟩,⟨fF⟩,⟨iX⟩⟩
        rw [if_neg jt] at H
        exact absurd H (by simp)
       rw [if_neg js] at H
       exact absurd H (by simp)
      rw [if_neg jr] at H
      exact absurd H (by simp)
     rw [if_neg jj] at H
     have jm:decide (j7 < (rd jb jc))=false:=decide_eq_false jj
     clear jj
     simp only [Option.some.injEq,Prod.mk.injEq] at H
     obtain ⟨rfl,rfl⟩:=H
     go_wp2
     go_ret
     exact ⟨_,gN,gH j5.out,fQ,iX,fF⟩
  rw [if_neg c4] at H
  exact absurd H (by simp)
 rw [if_neg c3] at H
 exact absurd H (by simp)
end Go.Proofs.YtjamfkpgmkhbnaaGreatDoor.PA

