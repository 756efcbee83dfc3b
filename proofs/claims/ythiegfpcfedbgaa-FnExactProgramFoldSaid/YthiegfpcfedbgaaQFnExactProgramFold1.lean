/- Part 2. -/
import Derived.Test.YthiegfpcfedbgaaQFnExactProgramFold0
import Derived.Test.YthiegfpcfedbgaaProg
import Derived.Below
import Derived.Deep.Draws
import Derived.Deep.AppendLies
import Derived.Maps.AppendAt
import Derived.OwnWalk
import Derived.Laws.BytesArg
import Derived.Laws.MakeOwn
import Derived.Laws.OwnMore
import Derived.Deep.OwnRows
import Derived.Tactics
import Derived.Lib.ConvBytes
import Derived.Laws.Slices
import Derived.WalkKit
import Derived.KernelRfl
import Derived.RowKit3
import Derived.Deep.LoopGhost
import Derived.Deep.QuietTactic
import Derived.BigQuiet
import Derived.WideLaws
import Derived.Deep.DeepCutAuto
import Derived.Deep.CutBlock
import Derived.Deep.RegionHeld3
import Derived.Laws.Rows
import Derived.Lib.AppendStr
import Derived.ArgAppend
import Derived.Laws.IdiomCopy
import Derived.OrdersHeld
import Derived.Laws.BitsLemmas
import Derived.RowKit
import Derived.Lib.SliceRun
import Derived.Deep.Slices
import Derived.ChangeArms
import Derived.ChangeSame
import Derived.WideShapes
set_option maxHeartbeats 8000000
set_option maxRecDepth 100000
namespace Go.Proofs.Ythiegfpcfedbgaa.PA
open Go.RowKit Go.Proofs.YthiegfpcfedbgaaW.PrintWords Go.Proofs.YthiegfpcfedbgaaW.PrintLast Go.Proofs.YthiegfpcfedbgaaW.PrintMore
attribute [local go_sem] max2_int min2_int max_two min_two max_three min_three max_four min_four
set_option linter.unusedVariables false
set_option linter.unusedSimpArgs false
def aCi:Option Int→Value
 |none=> .nilIface
 |some c=> .iface 0 (.int .i64 c)
theorem uK:aCi none= .nilIface:=rfl
theorem uL (c:Int):aCi (some c)= .iface 0 (.int .i64 c):=rfl
theorem info3:(Try.prog.info? 3).map (fun i=>(i.zero,i.size,i.bytes))=some (some (.int .i64 0),1,8):=by kernel_rfl
theorem aBn:(Try.prog.info? 28).map (fun i=>(i.zero,i.size,i.bytes))=some (some (.agg #[(.int .i64 0),(.int .i64 0),(.slice none 0 0)]),3,40):=by kernel_rfl
theorem FX:(Try.prog.info? 37).map (fun i=>(i.zero,i.size,i.bytes))=some (some (.slice none 0 0),1,24):=by kernel_rfl
theorem BL:(Try.prog.info? 70).map (fun i=>(i.zero,i.size,i.bytes))=some (some (.agg #[(.int .i64 0),(.int .i64 0),(.int .i64 0),(.int .i64 0),(.int .i64 0),(.slice none 0 0),(.slice none 0 0),(.slice none 0 0)]),8,112):=by kernel_rfl
structure S24 where
 f0:Int
 f1:Int
 f2:(List S24)
def z24:S24:=⟨(0:Int),(0:Int),([]:List S24)⟩
def F24 (d:Kd S24):Kd S24:=Kd.iso (Kd.pair (Kd.int .i64) (Kd.pair (Kd.int .i64) (Kd.slice 24 d))) (fun x:S24=>(x.f0,x.f1,x.f2))
theorem mono24:Kd.mR F24:=Kd.mono_iso _ (Kd.mono_pair (Kd.mono_const _) (Kd.mono_pair (Kd.mono_const _) (Kd.mono_slice 24 Kd.mono_id)))
theorem aCm:Kd.Sub F24 [24]:=Kd.uR _ (Kd.iI (Kd.sub_const _ (by decide)) (Kd.iI (Kd.sub_const _ (by decide)) (Kd.oN 24 (by decide) Kd.sH)))
theorem aCq:∀ n,(Kd.upto F24 3 [24] n).sz=3:=Kd.uS (fun _=>rfl)
def k24:Kd S24:=Kd.fix F24 3 [24] aCq (Kd.wC aCm)
theorem BM {w:World} {x:S24} {cs:List Value} (h:k24.K w x cs):∃ A2 c2,cs=[.int .i64 x.f0, .int .i64 x.f1, .slice A2 x.f2.length c2]∧x.f2.length≤c2∧k24.C w A2 x.f2.length x.f2:=by
 obtain ⟨n,h⟩:=h
 cases n with
 |zero=>exact h.elim
 |succ n=>
  obtain ⟨_,_,rfl,rfl,⟨_,_,rfl,rfl,⟨A2,c2,rfl,l2,g2⟩⟩⟩:=h
  exact ⟨A2,c2,rfl,l2,Kd.EA g2⟩
theorem TB (w:World) (x:S24) {A2:Option Addr} {c2:Nat} (l2:x.f2.length≤c2) (g2:k24.C w A2 x.f2.length x.f2):k24.K w x [.int .i64 x.f0, .int .i64 x.f1, .slice A2 x.f2.length c2]:=by
 obtain ⟨n2,q2⟩:=Kd.mX mono24 g2
 have r2:=Kd.oO mono24 aCq (show n2≤n2 by omega) q2
 exact ⟨n2 + 1,⟨[.int .i64 x.f0],[.int .i64 x.f1, .slice A2 x.f2.length c2],rfl,rfl,⟨[.int .i64 x.f1],[.slice A2 x.f2.length c2],rfl,rfl,⟨A2,c2,rfl,l2,r2⟩⟩⟩⟩
def iG (xs:List S24) (i:Int):S24:=xs.getD i.toNat z24
theorem LZ {w:World} {A:Option Addr} {n:Nat} {xs:List S24} (h:Kd.C k24 w A n xs) (i:Int) (h0:0≤i) (h1:i < n):∃ ad A2 c2,A=some ad∧w.cell? (ad.add (i.toNat * 3))=some (.int .i64 (iG xs i).f0)∧w.cell? ⟨(ad.add (i.toNat * 3)).block,(ad.add (i.toNat * 3)).off + 1,none⟩=some (.int .i64 (iG xs i).f1)∧w.cell? ⟨(ad.add (i.toNat * 3)).block,(ad.add (i.toNat * 3)).off + 2,none⟩=some (.slice A2 (iG xs i).f2.length c2)∧(iG xs i).f2.length≤c2∧k24.C w A2 (iG xs i).f2.length (iG xs i).f2:=by
 obtain ⟨ad,c,e,_,hK,hc0⟩:=Kd.wE h z24 i h0 h1
 have hc:∀ j u,c[j]?=some u→w.cell? (ad.add (i.toNat * 3 + j))=some u:=hc0
 obtain ⟨A2,c2,rfl,l2,g2⟩:=BM hK
 exact ⟨ad,A2,c2,e,hc 0 _ rfl,by rw [← fO _ _ 1 (by omega)];exact hc 1 _ rfl,by rw [← fO _ _ 2 (by omega)];exact hc 2 _ rfl,l2,g2⟩
structure S28 where
 f0:Int
 f1:Int
 f2:(List S28)
def z28:S28:=⟨(0:Int),(0:Int),([]:List S28)⟩
def F28 (d:Kd S28):Kd S28:=Kd.iso (Kd.pair (Kd.int .i64) (Kd.pair (Kd.int .i64) (Kd.slice 28 d))) (fun x:S28=>(x.f0,x.f1,x.f2))
theorem mono28:Kd.mR F28:=Kd.mono_iso _ (Kd.mono_pair (Kd.mono_const _) (Kd.mono_pair (Kd.mono_const _) (Kd.mono_slice 28 Kd.mono_id)))
theorem aCn:Kd.Sub F28 [28]:=Kd.uR _ (Kd.iI (Kd.sub_const _ (by decide)) (Kd.iI (Kd.sub_const _ (by decide)) (Kd.oN 28 (by decide) Kd.sH)))
theorem aBx:∀ n,(Kd.upto F28 3 [28] n).sz=3:=Kd.uS (fun _=>rfl)
def k28:Kd S28:=Kd.fix F28 3 [28] aBx (Kd.wC aCn)
theorem TD:Kd.Heap k28:=Kd.IZ (fun _ h_=>Kd.KC _ (Kd.mY (Kd.tN .i64) (Kd.mY (Kd.tN .i64) (Kd.vP 28 h_))))
theorem KG {w:World} {x:S28} {cs:List Value} (h:k28.K w x cs):∃ A2 c2,cs=[.int .i64 x.f0, .int .i64 x.f1, .slice A2 x.f2.length c2]∧x.f2.length≤c2∧k28.C w A2 x.f2.length x.f2:=by
 obtain ⟨n,h⟩:=h
 cases n with
 |zero=>exact h.elim
 |succ n=>
  obtain ⟨_,_,rfl,rfl,⟨_,_,rfl,rfl,⟨A2,c2,rfl,l2,g2⟩⟩⟩:=h
  exact ⟨A2,c2,rfl,l2,Kd.EA g2⟩
theorem TF (w:World) (x:S28) {A2:Option Addr} {c2:Nat} (l2:x.f2.length≤c2) (g2:k28.C w A2 x.f2.length x.f2):k28.K w x [.int .i64 x.f0, .int .i64 x.f1, .slice A2 x.f2.length c2]:=by
 obtain ⟨n2,q2⟩:=Kd.mX mono28 g2
 have r2:=Kd.oO mono28 aBx (show n2≤n2 by omega) q2
 exact ⟨n2 + 1,⟨[.int .i64 x.f0],[.int .i64 x.f1, .slice A2 x.f2.length c2],rfl,rfl,⟨[.int .i64 x.f1],[.slice A2 x.f2.length c2],rfl,rfl,⟨A2,c2,rfl,l2,r2⟩⟩⟩⟩
theorem OC (W:World) (ok:Nat→Prop) (x:S28) {A2:Option Addr} {c2:Nat} (l2:x.f2.length≤c2) (g2:Kd.F k28 W ok A2 x.f2.length x.f2):Kd.FK k28 W ok x [.int .i64 x.f0, .int .i64 x.f1, .slice A2 x.f2.length c2]:=fun W2 hW=>TF W2 x l2 (g2 W2 hW)
def bH (xs:List S28) (i:Int):S28:=xs.getD i.toNat z28
theorem kC {w:World} {A:Option Addr} {n:Nat} {xs:List S28} (h:Kd.C k28 w A n xs) (i:Int) (h0:0≤i) (h1:i < n):∃ ad A2 c2,A=some ad∧w.cell? (ad.add (i.toNat * 3))=some (.int .i64 (bH xs i).f0)∧w.cell? ⟨(ad.add (i.toNat * 3)).block,(ad.add (i.toNat * 3)).off + 1,none⟩=some (.int .i64 (bH xs i).f1)∧w.cell? ⟨(ad.add (i.toNat * 3)).block,(ad.add (i.toNat * 3)).off + 2,none⟩=some (.slice A2 (bH xs i).f2.length c2)∧(bH xs i).f2.length≤c2∧k28.C w A2 (bH xs i).f2.length (bH xs i).f2:=by
 obtain ⟨ad,c,e,_,hK,hc0⟩:=Kd.wE h z28 i h0 h1
 have hc:∀ j u,c[j]?=some u→w.cell? (ad.add (i.toNat * 3 + j))=some u:=hc0
 obtain ⟨A2,c2,rfl,l2,g2⟩:=KG hK
 exact ⟨ad,A2,c2,e,hc 0 _ rfl,by rw [← fO _ _ 1 (by omega)];exact hc 1 _ rfl,by rw [← fO _ _ 2 (by omega)];exact hc 2 _ rfl,l2,g2⟩
structure S66 where
 f0:Int
 f1:Int
 f2:Int
 f3:S24
 f4:(List S66)
 f5:(List S66)
def z66:S66:=⟨(0:Int),(0:Int),(0:Int),z24,([]:List S66),([]:List S66)⟩
def F66 (d:Kd S66):Kd S66:=Kd.iso (Kd.pair (Kd.int .i64) (Kd.pair (Kd.int .i64) (Kd.pair (Kd.int .i64) (Kd.pair k24 (Kd.pair (Kd.slice 66 d) (Kd.slice 66 d)))))) (fun x:S66=>(x.f0,x.f1,x.f2,x.f3,x.f4,x.f5))
theorem mono66:Kd.mR F66:=Kd.mono_iso _ (Kd.mono_pair (Kd.mono_const _) (Kd.mono_pair (Kd.mono_const _) (Kd.mono_pair (Kd.mono_const _) (Kd.mono_pair (Kd.mono_const _) (Kd.mono_pair (Kd.mono_slice 66 Kd.mono_id) (Kd.mono_slice 66 Kd.mono_id))))))
theorem aCo:Kd.Sub F66 [24,66]:=Kd.uR _ (Kd.iI (Kd.sub_const _ (by decide)) (Kd.iI (Kd.sub_const _ (by decide)) (Kd.iI (Kd.sub_const _ (by decide)) (Kd.iI (Kd.sub_const _ (by decide)) (Kd.iI (Kd.oN 66 (by decide) Kd.sH) (Kd.oN 66 (by decide) Kd.sH))))))
theorem aBy:∀ n,(Kd.upto F66 8 [24,66] n).sz=8:=Kd.uS (fun _=>rfl)
def k66:Kd S66:=Kd.fix F66 8 [24,66] aBy (Kd.wC aCo)
theorem TG {w:World} {x:S66} {cs:List Value} (h:k66.K w x cs):∃ A5 c5 A6 c6 A7 c7,cs=[.int .i64 x.f0, .int .i64 x.f1, .int .i64 x.f2, .int .i64 x.f3.f0, .int .i64 x.f3.f1, .slice A5 x.f3.f2.length c5, .slice A6 x.f4.length c6, .slice A7 x.f5.length c7]∧x.f3.f2.length≤c5∧k24.C w A5 x.f3.f2.length x.f3.f2∧x.f4.length≤c6∧k66.C w A6 x.f4.length x.f4∧x.f5.length≤c7∧k66.C w A7 x.f5.length x.f5:=by
 obtain ⟨n,h⟩:=h
 cases n with
 |zero=>exact h.elim
 |succ n=>
  obtain ⟨_,_,rfl,rfl,⟨_,_,rfl,rfl,⟨_,_,rfl,rfl,⟨_,_,rfl,s3,⟨_,_,rfl,⟨A6,c6,rfl,l6,g6⟩,⟨A7,c7,rfl,l7,g7⟩⟩⟩⟩⟩⟩:=h
  obtain ⟨A5,c5,rfl,l5,g5⟩:=BM s3
  exact ⟨A5,c5,A6,c6,A7,c7,rfl,l5,g5,l6,Kd.EA g6,l7,Kd.EA g7⟩
theorem aBo (w:World) (x:S66) {A5:Option Addr} {c5:Nat} (l5:x.f3.f2.length≤c5) (g5:k24.C w A5 x.f3.f2.length x.f3.f2) {A6:Option Addr} {c6:Nat} (l6:x.f4.length≤c6) (g6:k66.C w A6 x.f4.length x.f4) {A7:Option Addr} {c7:Nat} (l7:x.f5.length≤c7) (g7:k66.C w A7 x.f5.length x.f5):k66.K w x [.int .i64 x.f0, .int .i64 x.f1, .int .i64 x.f2, .int .i64 x.f3.f0, .int .i64 x.f3.f1, .slice A5 x.f3.f2.length c5, .slice A6 x.f4.length c6, .slice A7 x.f5.length c7]:=by
 obtain ⟨n6,q6⟩:=Kd.mX mono66 g6
 obtain ⟨n7,q7⟩:=Kd.mX mono66 g7
 have r6:=Kd.oO mono66 aBy (show n6≤(max n6 n7) by omega) q6
 have r7:=Kd.oO mono66 aBy (show n7≤(max n6 n7) by omega) q7
 exact ⟨(max n6 n7) + 1,⟨[.int .i64 x.f0],[.int .i64 x.f1, .int .i64 x.f2, .int .i64 x.f3.f0, .int .i64 x.f3.f1, .slice A5 x.f3.f2.length c5, .slice A6 x.f4.length c6, .slice A7 x.f5.length c7],rfl,rfl,⟨[.int .i64 x.f1],[.int .i64 x.f2, .int .i64 x.f3.f0, .int .i64 x.f3.f1, .slice A5 x.f3.f2.length c5, .slice A6 x.f4.length c6, .slice A7 x.f5.length c7],rfl,rfl,⟨[.int .i64 x.f2],[.int .i64 x.f3.f0, .int .i64 x.f3.f1, .slice A5 x.f3.f2.length c5, .slice A6 x.f4.length c6, .slice A7 x.f5.length c7],rfl,rfl,⟨[.int .i64 x.f3.f0, .int .i64 x.f3.f1, .slice A5 x.f3.f2.length c5],[.slice A6 x.f4.length c6, .slice A7 x.f5.length c7],rfl,(TB w x.f3 l5 g5),⟨[.slice A6 x.f4.length c6],[.slice A7 x.f5.length c7],rfl,⟨A6,c6,rfl,l6,r6⟩,⟨A7,c7,rfl,l7,r7⟩⟩⟩⟩⟩⟩⟩
def dU (xs:List S66) (i:Int):S66:=xs.getD i.toNat z66
theorem MB {w:World} {A:Option Addr} {n:Nat} {xs:List S66} (h:Kd.C k66 w A n xs) (i:Int) (h0:0≤i) (h1:i < n):∃ ad A5 c5 A6 c6 A7 c7,A=some ad∧w.cell? (ad.add (i.toNat * 8))=some (.int .i64 (dU xs i).f0)∧w.cell? ⟨(ad.add (i.toNat * 8)).block,(ad.add (i.toNat * 8)).off + 1,none⟩=some (.int .i64 (dU xs i).f1)∧w.cell? ⟨(ad.add (i.toNat * 8)).block,(ad.add (i.toNat * 8)).off + 2,none⟩=some (.int .i64 (dU xs i).f2)∧w.cell? ⟨(ad.add (i.toNat * 8)).block,(ad.add (i.toNat * 8)).off + 3,none⟩=some (.int .i64 (dU xs i).f3.f0)∧w.cell? ⟨(ad.add (i.toNat * 8)).block,(ad.add (i.toNat * 8)).off + 4,none⟩=some (.int .i64 (dU xs i).f3.f1)∧w.cell? ⟨(ad.add (i.toNat * 8)).block,(ad.add (i.toNat * 8)).off + 5,none⟩=some (.slice A5 (dU xs i).f3.f2.length c5)∧w.cell? ⟨(ad.add (i.toNat * 8)).block,(ad.add (i.toNat * 8)).off + 6,none⟩=some (.slice A6 (dU xs i).f4.length c6)∧w.cell? ⟨(ad.add (i.toNat * 8)).block,(ad.add (i.toNat * 8)).off + 7,none⟩=some (.slice A7 (dU xs i).f5.length c7)∧(dU xs i).f3.f2.length≤c5∧k24.C w A5 (dU xs i).f3.f2.length (dU xs i).f3.f2∧(dU xs i).f4.length≤c6∧k66.C w A6 (dU xs i).f4.length (dU xs i).f4∧(dU xs i).f5.length≤c7∧k66.C w A7 (dU xs i).f5.length (dU xs i).f5:=by
 obtain ⟨ad,c,e,_,hK,hc0⟩:=Kd.wE h z66 i h0 h1
 have hc:∀ j u,c[j]?=some u→w.cell? (ad.add (i.toNat * 8 + j))=some u:=hc0
 obtain ⟨A5,c5,A6,c6,A7,c7,rfl,l5,g5,l6,g6,l7,g7⟩:=TG hK
 exact ⟨ad,A5,c5,A6,c6,A7,c7,e,hc 0 _ rfl,by rw [← fO _ _ 1 (by omega)];exact hc 1 _ rfl,by rw [← fO _ _ 2 (by omega)];exact hc 2 _ rfl,by rw [← fO _ _ 3 (by omega)];exact hc 3 _ rfl,by rw [← fO _ _ 4 (by omega)];exact hc 4 _ rfl,by rw [← fO _ _ 5 (by omega)];exact hc 5 _ rfl,by rw [← fO _ _ 6 (by omega)];exact hc 6 _ rfl,by rw [← fO _ _ 7 (by omega)];exact hc 7 _ rfl,l5,g5,l6,g6,l7,g7⟩
structure S70 where
 f0:Int
 f1:Int
 f2:Int
 f3:S28
 f4:(List S70)
 f5:(List S70)
def z70:S70:=⟨(0:Int),(0:Int),(0:Int),z28,([]:List S70),([]:List S70)⟩
def F70 (d:Kd S70):Kd S70:=Kd.iso (Kd.pair (Kd.int .i64) (Kd.pair (Kd.int .i64) (Kd.pair (Kd.int .i64) (Kd.pair k28 (Kd.pair (Kd.slice 70 d) (Kd.slice 70 d)))))) (fun x:S70=>(x.f0,x.f1,x.f2,x.f3,x.f4,x.f5))
theorem mono70:Kd.mR F70:=Kd.mono_iso _ (Kd.mono_pair (Kd.mono_const _) (Kd.mono_pair (Kd.mono_const _) (Kd.mono_pair (Kd.mono_const _) (Kd.mono_pair (Kd.mono_const _) (Kd.mono_pair (Kd.mono_slice 70 Kd.mono_id) (Kd.mono_slice 70 Kd.mono_id))))))
theorem aCp:Kd.Sub F70 [28,70]:=Kd.uR _ (Kd.iI (Kd.sub_const _ (by decide)) (Kd.iI (Kd.sub_const _ (by decide)) (Kd.iI (Kd.sub_const _ (by decide)) (Kd.iI (Kd.sub_const _ (by decide)) (Kd.iI (Kd.oN 70 (by decide) Kd.sH) (Kd.oN 70 (by decide) Kd.sH))))))
theorem TW:∀ n,(Kd.upto F70 8 [28,70] n).sz=8:=Kd.uS (fun _=>rfl)
def k70:Kd S70:=Kd.fix F70 8 [28,70] TW (Kd.wC aCp)
theorem TH:Kd.Heap k70:=Kd.IZ (fun _ h_=>Kd.KC _ (Kd.mY (Kd.tN .i64) (Kd.mY (Kd.tN .i64) (Kd.mY (Kd.tN .i64) (Kd.mY TD (Kd.mY (Kd.vP 70 h_) (Kd.vP 70 h_)))))))
theorem tV {w:World} {x:S70} {cs:List Value} (h:k70.K w x cs):∃ A5 c5 A6 c6 A7 c7,cs=[.int .i64 x.f0, .int .i64 x.f1, .int .i64 x.f2, .int .i64 x.f3.f0, .int .i64 x.f3.f1, .slice A5 x.f3.f2.length c5, .slice A6 x.f4.length c6, .slice A7 x.f5.length c7]∧x.f3.f2.length≤c5∧k28.C w A5 x.f3.f2.length x.f3.f2∧x.f4.length≤c6∧k70.C w A6 x.f4.length x.f4∧x.f5.length≤c7∧k70.C w A7 x.f5.length x.f5:=by
 obtain ⟨n,h⟩:=h
 cases n with
 |zero=>exact h.elim
 |succ n=>
  obtain ⟨_,_,rfl,rfl,⟨_,_,rfl,rfl,⟨_,_,rfl,rfl,⟨_,_,rfl,s3,⟨_,_,rfl,⟨A6,c6,rfl,l6,g6⟩,⟨A7,c7,rfl,l7,g7⟩⟩⟩⟩⟩⟩:=h
  obtain ⟨A5,c5,rfl,l5,g5⟩:=KG s3
  exact ⟨A5,c5,A6,c6,A7,c7,rfl,l5,g5,l6,Kd.EA g6,l7,Kd.EA g7⟩
theorem aBp (w:World) (x:S70) {A5:Option Addr} {c5:Nat} (l5:x.f3.f2.length≤c5) (g5:k28.C w A5 x.f3.f2.length x.f3.f2) {A6:Option Addr} {c6:Nat} (l6:x.f4.length≤c6) (g6:k70.C w A6 x.f4.length x.f4) {A7:Option Addr} {c7:Nat} (l7:x.f5.length≤c7) (g7:k70.C w A7 x.f5.length x.f5):k70.K w x [.int .i64 x.f0, .int .i64 x.f1, .int .i64 x.f2, .int .i64 x.f3.f0, .int .i64 x.f3.f1, .slice A5 x.f3.f2.length c5, .slice A6 x.f4.length c6, .slice A7 x.f5.length c7]:=by
 obtain ⟨n6,q6⟩:=Kd.mX mono70 g6
 obtain ⟨n7,q7⟩:=Kd.mX mono70 g7
 have r6:=Kd.oO mono70 TW (show n6≤(max n6 n7) by omega) q6
 have r7:=Kd.oO mono70 TW (show n7≤(max n6 n7) by omega) q7
 exact ⟨(max n6 n7) + 1,⟨[.int .i64 x.f0],[.int .i64 x.f1, .int .i64 x.f2, .int .i64 x.f3.f0, .int .i64 x.f3.f1, .slice A5 x.f3.f2.length c5, .slice A6 x.f4.length c6, .slice A7 x.f5.length c7],rfl,rfl,⟨[.int .i64 x.f1],[.int .i64 x.f2, .int .i64 x.f3.f0, .int .i64 x.f3.f1, .slice A5 x.f3.f2.length c5, .slice A6 x.f4.length c6, .slice A7 x.f5.length c7],rfl,rfl,⟨[.int .i64 x.f2],[.int .i64 x.f3.f0, .int .i64 x.f3.f1, .slice A5 x.f3.f2.length c5, .slice A6 x.f4.length c6, .slice A7 x.f5.length c7],rfl,rfl,⟨[.int .i64 x.f3.f0, .int .i64 x.f3.f1, .slice A5 x.f3.f2.length c5],[.slice A6 x.f4.length c6, .slice A7 x.f5.length c7],rfl,(TF w x.f3 l5 g5),⟨[.slice A6 x.f4.length c6],[.slice A7 x.f5.length c7],rfl,⟨A6,c6,rfl,l6,r6⟩,⟨A7,c7,rfl,l7,r7⟩⟩⟩⟩⟩⟩⟩
theorem OZ {W:World} {ok:Nat→Prop} {x:S70} {cs:List Value} (h:Kd.FK k70 W ok x cs):∃ A5 c5 A6 c6 A7 c7,cs=[.int .i64 x.f0, .int .i64 x.f1, .int .i64 x.f2, .int .i64 x.f3.f0, .int .i64 x.f3.f1, .slice A5 x.f3.f2.length c5, .slice A6 x.f4.length c6, .slice A7 x.f5.length c7]∧x.f3.f2.length≤c5∧Kd.F k28 W ok A5 x.f3.f2.length x.f3.f2∧x.f4.length≤c6∧Kd.F k70 W ok A6 x.f4.length x.f4∧x.f5.length≤c7∧Kd.F k70 W ok A7 x.f5.length x.f5:=by
 obtain ⟨A5,c5,A6,c6,A7,c7,rfl,l5,_,l6,_,l7,_⟩:=tV (Kd.sW h)
 exact ⟨A5,c5,A6,c6,A7,c7,rfl,l5,(fun W' hW=>by obtain ⟨j3,j4,j5,j6,j7,j8,he,j9,g5_,ja,g6_,jb,g7_⟩:=tV (h W' hW);injection (Option.some.inj (show some (Value.slice A5 x.f3.f2.length c5)=some (Value.slice j3 x.f3.f2.length j4) from congrArg (fun l=>l[5]?) he)) with ha_ _ _;rw [ha_];exact g5_),l6,(fun W' hW=>by obtain ⟨j3,j4,j5,j6,j7,j8,he,j9,g5_,ja,g6_,jb,g7_⟩:=tV (h W' hW);injection (Option.some.inj (show some (Value.slice A6 x.f4.length c6)=some (Value.slice j5 x.f4.length j6) from congrArg (fun l=>l[6]?) he)) with ha_ _ _;rw [ha_];exact g6_),l7,(fun W' hW=>by obtain ⟨j3,j4,j5,j6,j7,j8,he,j9,g5_,ja,g6_,jb,g7_⟩:=tV (h W' hW);injection (Option.some.inj (show some (Value.slice A7 x.f5.length c7)=some (Value.slice j7 x.f5.length j8) from congrArg (fun l=>l[7]?) he)) with ha_ _ _;rw [ha_];exact g7_)⟩
theorem aAf (W:World) (ok:Nat→Prop) (x:S70) {A5:Option Addr} {c5:Nat} (l5:x.f3.f2.length≤c5) (g5:Kd.F k28 W ok A5 x.f3.f2.length x.f3.f2) {A6:Option Addr} {c6:Nat} (l6:x.f4.length≤c6) (g6:Kd.F k70 W ok A6 x.f4.length x.f4) {A7:Option Addr} {c7:Nat} (l7:x.f5.length≤c7) (g7:Kd.F k70 W ok A7 x.f5.length x.f5):Kd.FK k70 W ok x [.int .i64 x.f0, .int .i64 x.f1, .int .i64 x.f2, .int .i64 x.f3.f0, .int .i64 x.f3.f1, .slice A5 x.f3.f2.length c5, .slice A6 x.f4.length c6, .slice A7 x.f5.length c7]:=fun W2 hW=>aBp W2 x l5 (g5 W2 hW) l6 (g6 W2 hW) l7 (g7 W2 hW)
def aG (xs:List S70) (i:Int):S70:=xs.getD i.toNat z70
theorem eY {w:World} {A:Option Addr} {n:Nat} {xs:List S70} (h:Kd.C k70 w A n xs) (i:Int) (h0:0≤i) (h1:i < n):∃ ad A5 c5 A6 c6 A7 c7,A=some ad∧w.cell? (ad.add (i.toNat * 8))=some (.int .i64 (aG xs i).f0)∧w.cell? ⟨(ad.add (i.toNat * 8)).block,(ad.add (i.toNat * 8)).off + 1,none⟩=some (.int .i64 (aG xs i).f1)∧w.cell? ⟨(ad.add (i.toNat * 8)).block,(ad.add (i.toNat * 8)).off + 2,none⟩=some (.int .i64 (aG xs i).f2)∧w.cell? ⟨(ad.add (i.toNat * 8)).block,(ad.add (i.toNat * 8)).off + 3,none⟩=some (.int .i64 (aG xs i).f3.f0)∧w.cell? ⟨(ad.add (i.toNat * 8)).block,(ad.add (i.toNat * 8)).off + 4,none⟩=some (.int .i64 (aG xs i).f3.f1)∧w.cell? ⟨(ad.add (i.toNat * 8)).block,(ad.add (i.toNat * 8)).off + 5,none⟩=some (.slice A5 (aG xs i).f3.f2.length c5)∧w.cell? ⟨(ad.add (i.toNat * 8)).block,(ad.add (i.toNat * 8)).off + 6,none⟩=some (.slice A6 (aG xs i).f4.length c6)∧w.cell? ⟨(ad.add (i.toNat * 8)).block,(ad.add (i.toNat * 8)).off + 7,none⟩=some (.slice A7 (aG xs i).f5.length c7)∧(aG xs i).f3.f2.length≤c5∧k28.C w A5 (aG xs i).f3.f2.length (aG xs i).f3.f2∧(aG xs i).f4.length≤c6∧k70.C w A6 (aG xs i).f4.length (aG xs i).f4∧(aG xs i).f5.length≤c7∧k70.C w A7 (aG xs i).f5.length (aG xs i).f5:=by
 obtain ⟨ad,c,e,_,hK,hc0⟩:=Kd.wE h z70 i h0 h1
 have hc:∀ j u,c[j]?=some u→w.cell? (ad.add (i.toNat * 8 + j))=some u:=hc0
 obtain ⟨A5,c5,A6,c6,A7,c7,rfl,l5,g5,l6,g6,l7,g7⟩:=tV hK
 exact ⟨ad,A5,c5,A6,c6,A7,c7,e,hc 0 _ rfl,by rw [← fO _ _ 1 (by omega)];exact hc 1 _ rfl,by rw [← fO _ _ 2 (by omega)];exact hc 2 _ rfl,by rw [← fO _ _ 3 (by omega)];exact hc 3 _ rfl,by rw [← fO _ _ 4 (by omega)];exact hc 4 _ rfl,by rw [← fO _ _ 5 (by omega)];exact hc 5 _ rfl,by rw [← fO _ _ 6 (by omega)];exact hc 6 _ rfl,by rw [← fO _ _ 7 (by omega)];exact hc 7 _ rfl,l5,g5,l6,g6,l7,g7⟩
def fU (xs:List (List S70)) (i:Int):(List S70):=xs.getD i.toNat ([]:List S70)
theorem nY {w:World} {A:Option Addr} {n:Nat} {xs:List (List S70)} (h:Kd.C (Kd.slice 70 k70) w A n xs) (i:Int) (h0:0≤i) (h1:i < n):∃ ad A0 c0,A=some ad∧w.cell? (ad.add i.toNat)=some (.slice A0 (fU xs i).length c0)∧(fU xs i).length≤c0∧k70.C w A0 (fU xs i).length (fU xs i):=by
 obtain ⟨ad,c,e,_,hK,hc0⟩:=Kd.wE h ([]:List S70) i h0 h1
 have hc:∀ j u,c[j]?=some u→w.cell? (ad.add (i.toNat * 1 + j))=some u:=hc0
 obtain ⟨A0,c0,rfl,l0,g0⟩:=hK
 exact ⟨ad,A0,c0,e,by have hq:=hc 0 _ rfl;rwa [Nat.mul_one,Nat.add_zero] at hq,l0,g0⟩
def rM (xs:List (List S66)) (i:Int):(List S66):=xs.getD i.toNat ([]:List S66)
theorem SF {w:World} {A:Option Addr} {n:Nat} {xs:List (List S66)} (h:Kd.C (Kd.slice 66 k66) w A n xs) (i:Int) (h0:0≤i) (h1:i < n):∃ ad A0 c0,A=some ad∧w.cell? (ad.add i.toNat)=some (.slice A0 (rM xs i).length c0)∧(rM xs i).length≤c0∧k66.C w A0 (rM xs i).length (rM xs i):=by
 obtain ⟨ad,c,e,_,hK,hc0⟩:=Kd.wE h ([]:List S66) i h0 h1
 have hc:∀ j u,c[j]?=some u→w.cell? (ad.add (i.toNat * 1 + j))=some u:=hc0
 obtain ⟨A0,c0,rfl,l0,g0⟩:=hK
 exact ⟨ad,A0,c0,e,by have hq:=hc 0 _ rfl;rwa [Nat.mul_one,Nat.add_zero] at hq,l0,g0⟩
theorem dN {p:Prop} (h:p:=by repeat (first|(with_reducible first|exact HB.out|apply cB|apply bG|apply bX)|exact HB.out)):p:=h
theorem dK {p:Prop} (h:p:=by (try simp only [List.map_toArray,List.map_cons,List.map_nil]);first|done|rfl|(simp only [List.length_drop,List.length_take];rfl)):p:=h
theorem iT {p:Prop} (h:p:=by repeat (first|(with_reducible first|exact HB.out|apply cB|apply bG|apply bX|refine below_set ?_ GE99.out)|exact HB.out)):p:=h
theorem fF {p:Prop} (h:p:=by repeat (first|exact fV.refl _|apply fV.step)):p:=h
theorem nM {p:Prop} (h:p:=by repeat (first|(with_reducible first|exact HB.out|apply cB|apply bG|apply bX|refine below_set ?_ GE23.out)|exact HB.out)):p:=h
theorem sS {p:Prop} (h:p:=by repeat (first|(with_reducible first|exact HB.out|apply cB|apply bG|apply bX|refine below_set ?_ GE94.out|refine below_set ?_ GE95.out|refine below_set ?_ GE107.out|refine below_set ?_ GE111.out)|exact HB.out)):p:=h
theorem kJ {p:Prop} (h:p:=by repeat (first|(with_reducible first|exact HB.out|apply cB|apply bG|apply bX|refine below_set ?_ GE57.out)|exact HB.out)):p:=h
theorem lN {p:Prop} (h:p:=by repeat (first|(with_reducible first|exact HB.out|apply cB|apply bG|apply bX|refine below_set ?_ GE22.out)|exact HB.out)):p:=h
theorem nW {p:Prop} (h:p:=by repeat (first|(with_reducible first|exact HB.out|apply cB|apply bG|apply bX|refine below_set ?_ GE37.out|refine below_set ?_ GE38.out)|exact HB.out)):p:=h
theorem nX {p:Prop} (h:p:=by repeat (first|(with_reducible first|exact HB.out|apply cB|apply bG|apply bX|refine below_set ?_ GE21.out)|exact HB.out)):p:=h
theorem oU {p:Prop} (h:p:=by repeat (first|(with_reducible first|exact HB.out|apply cB|apply bG|apply bX|refine below_set ?_ GE48.out|refine below_set ?_ GE50.out)|exact HB.out)):p:=h
theorem oV {p:Prop} (h:p:=by repeat (first|(with_reducible first|exact HB.out|apply cB|apply bG|apply bX|refine below_set ?_ GE44.out)|exact HB.out)):p:=h
theorem wI {p:Prop} (h:p:=by repeat (first|(with_reducible first|exact HB.out|apply cB|apply bG|apply bX|refine below_set ?_ GE22.out|refine below_set ?_ GE23.out)|exact HB.out)):p:=h
theorem sJ {p:Prop} (h:p:=by first|rfl|(simp [uK,uL] <;> rfl)|(simp [*,uK,uL] <;> rfl)):p:=h
theorem rF {p:Prop} (h:p:=by repeat (first|(with_reducible first|exact HB.out|apply cB|apply bG|apply bX|refine below_set ?_ GE43.out)|exact HB.out)):p:=h
theorem wJ {p:Prop} (h:p:=by repeat (first|(with_reducible first|exact HB.out|apply cB|apply bG|apply bX|refine below_set ?_ GE48.out|refine below_set ?_ GE50.out|refine below_set ?_ GE61.out)|exact HB.out)):p:=h
theorem wK {p:Prop} (h:p:=by repeat (first|(with_reducible first|exact HB.out|apply cB|apply bG|apply bX|refine below_set ?_ GE38.out|refine below_set ?_ GE42.out|refine below_set ?_ GE45.out)|exact HB.out)):p:=h
theorem sK {p:Prop} (h:p:=by repeat (first|(with_reducible first|exact HB.out|apply cB|apply bG|apply bX|refine below_set ?_ GE29.out)|exact HB.out)):p:=h
theorem vC {p:Prop} (h:p:=by repeat (first|(with_reducible first|exact HB.out|apply cB|apply bG|apply bX|refine below_set ?_ GE94.out|refine below_set ?_ GE95.out)|exact HB.out)):p:=h
theorem wL {p:Prop} (h:p:=by repeat (first|(with_reducible first|exact HB.out|apply cB|apply bG|apply bX|refine below_set ?_ GE21.out|refine below_set ?_ GE22.out)|exact HB.out)):p:=h
theorem wM {p:Prop} (h:p:=by repeat (first|(with_reducible first|exact HB.out|apply cB|apply bG|apply bX|refine below_set ?_ GE38.out|refine below_set ?_ GE42.out)|exact HB.out)):p:=h
theorem vD {p:Prop} (h:p:=by repeat (first|(with_reducible first|exact HB.out|apply cB|apply bG|apply bX|refine below_set ?_ GE32.out)|exact HB.out)):p:=h
theorem AZ {p:Prop} (h:p:=by repeat (first|(with_reducible first|exact HB.out|apply cB|apply bG|apply bX|refine below_set ?_ GE94.out|refine below_set ?_ GE95.out|refine below_set ?_ GE107.out)|exact HB.out)):p:=h
theorem DW {p:Prop} (h:p:=by repeat (first|(with_reducible first|exact HB.out|apply cB|apply bG|apply bX|refine below_set ?_ GE94.out)|exact HB.out)):p:=h
theorem NU {p:Prop} (h:p:=by repeat (first|(with_reducible first|exact HB.out|apply cB|apply bG|apply bX|refine below_set ?_ GE21.out|refine below_set ?_ GE22.out|refine below_set ?_ GE23.out)|exact HB.out)):p:=h
theorem NV {p:Prop} (h:p:=by repeat (first|(with_reducible first|exact HK.out|apply Kept.alloc|apply Kept.drewN|apply Kept.drew)|exact HK.out)):p:=h
theorem RX {p:Prop} (h:p:=by repeat (first|(with_reducible first|exact HB.out|apply cB|apply bG|apply bX|refine below_set ?_ GE20.out)|exact HB.out)):p:=h
theorem RY {p:Prop} (h:p:=by repeat (first|(with_reducible first|exact HB.out|apply cB|apply bG|apply bX|refine below_set ?_ GE37.out)|exact HB.out)):p:=h
theorem RZ {p:Prop} (h:p:=by repeat (first|(with_reducible first|exact HB.out|apply cB|apply bG|apply bX|refine below_set ?_ GE48.out)|exact HB.out)):p:=h
theorem SA {p:Prop} (h:p:=by repeat (first|(with_reducible first|exact HB.out|apply cB|apply bG|apply bX|refine below_set ?_ GE38.out)|exact HB.out)):p:=h
theorem aN_ {p q:Prop} (x:q) (h:q→p:=by intro hx_;(with_reducible repeat (first|apply Kd.NI|apply Kd.NJ|apply Kd.AP));exact hx_):p:=h x
theorem aR_ {p q:Prop} (x:q) (h:q→p:=by intro hx_;(with_reducible repeat (first|apply Kd.NM|apply Kd.NQ|apply Kd.tF));exact hx_):p:=h x
theorem aG_ {p q:Prop} (x:q) (h:q→p:=by intro hx_;(with_reducible repeat (first|refine gK ?_ _|refine eH ?_|refine fH ?_ _));exact hx_):p:=h x
theorem rr_ {p:Prop} (h:p:=by first|rfl|(simp [uK,uL] <;> rfl)|(simp [*,uK,uL] <;> rfl)):p:=h
theorem bsm {α β:Type} {o:Option α} {f:α→Option β} {b:β} (h:o.bind f=some b):∃ a,o=some a∧f a=some b:=Option.bind_eq_some_iff.mp h
theorem am {p:Prop} (h:p):Aside0 p:=⟨h⟩
theorem nZ {w:World} {g:Nat} {t:TypeId} {x0:Value} (h:w.heap[g]?=some (.cells #[x0] t (0,0))):w.cell? ⟨g,0,none⟩=some x0∧w.frozen? ⟨g,0,none⟩=false:=⟨(aA h 0).trans rfl,aH h 0⟩
theorem iP {w:World} {g:Nat} {t:TypeId} {x0 x1:Value} (h:w.heap[g]?=some (.cells #[x0,x1] t (0,0))):w.cell? ⟨g,0,none⟩=some x0∧w.cell? ⟨g,1,none⟩=some x1∧w.frozen? ⟨g,0,none⟩=false∧w.frozen? ⟨g,1,none⟩=false:=⟨(aA h 0).trans rfl,(aA h 1).trans rfl,aH h 0,aH h 1⟩
theorem gW {w:World} {g:Nat} {t:TypeId} {x0 x1 x2:Value} (h:w.heap[g]?=some (.cells #[x0,x1,x2] t (0,0))):w.cell? ⟨g,0,none⟩=some x0∧w.cell? ⟨g,1,none⟩=some x1∧w.cell? ⟨g,2,none⟩=some x2∧w.frozen? ⟨g,0,none⟩=false∧w.frozen? ⟨g,1,none⟩=false∧w.frozen? ⟨g,2,none⟩=false:=⟨(aA h 0).trans rfl,(aA h 1).trans rfl,(aA h 2).trans rfl,aH h 0,aH h 1,aH h 2⟩
theorem eF {w:World} {g:Nat} {t:TypeId} {x0 x1 x2 x3 x4 x5 x6 x7:Value} (h:w.heap[g]?=some (.cells #[x0,x1,x2,x3,x4,x5,x6,x7] t (0,0))):w.cell? ⟨g,0,none⟩=some x0∧w.cell? ⟨g,1,none⟩=some x1∧w.cell? ⟨g,2,none⟩=some x2∧w.cell? ⟨g,3,none⟩=some x3∧w.cell? ⟨g,4,none⟩=some x4∧w.cell? ⟨g,5,none⟩=some x5∧w.cell? ⟨g,6,none⟩=some x6∧w.cell? ⟨g,7,none⟩=some x7∧w.frozen? ⟨g,0,none⟩=false∧w.frozen? ⟨g,1,none⟩=false∧w.frozen? ⟨g,2,none⟩=false∧w.frozen? ⟨g,3,none⟩=false∧w.frozen? ⟨g,4,none⟩=false∧w.frozen? ⟨g,5,none⟩=false∧w.frozen? ⟨g,6,none⟩=false∧w.frozen? ⟨g,7,none⟩=false:=⟨(aA h 0).trans rfl,(aA h 1).trans rfl,(aA h 2).trans rfl,(aA h 3).trans rfl,(aA h 4).trans rfl,(aA h 5).trans rfl,(aA h 6).trans rfl,(aA h 7).trans rfl,aH h 0,aH h 1,aH h 2,aH h 3,aH h 4,aH h 5,aH h 6,aH h 7⟩
theorem dX {W0 W W1:World} {g:Nat} {o:Obj} (x:W0.heap[g]?=some o) (hb:Below W.heap.size W W1) (h:W0.heap[g]?=some o→W.heap[g]?=some o:=by intro hx_;(with_reducible repeat (first|refine gK ?_ _|refine eH ?_|refine fH ?_ _));exact hx_):W1.heap[g]?=some o:=aJ (h x) hb
theorem bbP {W0 W W1:World} {g:Nat} {o:Obj} (x:Aside0 (W0.heap[g]?=some o)) (hb:Below W.heap.size W W1) (h:W0.heap[g]?=some o→W.heap[g]?=some o:=by intro hx_;(with_reducible repeat (first|refine gK ?_ _|refine eH ?_|refine fH ?_ _));exact hx_):Aside0 (W1.heap[g]?=some o):=⟨aJ (h x.out) hb⟩
theorem oD {W0 W:World} {g:Nat} {o:Obj} (x:W0.heap[g]?=some o) (h:W0.heap[g]?=some o→W.heap[g]?=some o:=by intro hx_;(with_reducible repeat (first|refine gK ?_ _|refine eH ?_|refine fH ?_ _));exact hx_):g < W.heap.size:=dM (h x)
theorem tL {W0 W:World} {g:Nat} {o:Obj} (x:W0.heap[g]?=some o) (k:Nat) (hk:W.heap.size≤k) (h:W0.heap[g]?=some o→W.heap[g]?=some o:=by intro hx_;(with_reducible repeat (first|refine gK ?_ _|refine eH ?_|refine fH ?_ _));exact hx_):k≠g:=Kd.kQ (h x) k hk
theorem aC_ {p q:Prop} (x:q) (h:q→p:=by intro hx_;repeat (first|exact hx_|(with_reducible refine Kd.ET ?_ _)|(with_reducible refine Kd.wD ?_ _)|(with_reducible refine Kd.AA ?_))):p:=h x
theorem rn_ {p:Prop} (h:p:=by first|(go_simp;done)|(go_simp;rfl)):p:=h
theorem sd_ {p:Prop} (h:p:=by first|rfl|(simp;done)|(simp [*];done)):p:=h
theorem bT {p:Prop} (h:p:=by first|(with_reducible assumption)|assumption):p:=h
theorem nb_ {p q:Prop} (x:q) (h:q→p:=by intro hx_;first|(rw [add_block];exact hx_)|(show (Addr.add _ _).block≠_;rw [add_block];exact hx_)|exact hx_):p:=h x
theorem pr_ (i N:Nat) (l':Array Bool) {P:Program} {md:Region.Mode} {ops:Array Oper} {Q:Exit→Act→World→Prop} {S:World→Prop} {ds:List Nat} {oi:Oper} {v:Value} {fuel:Nat} {l:Array Bool} {a a':Act} {w:World} {T:Bool × List (List Nat × List Nat)} (HT:Aside0 (kZ md ops=T)) (h:dD P md ops Q S ds fuel l' a' w) (hi:ops[i]?=some oi:=by rfl) (hN:oi.dst=some N:=by rfl) (hc:WZ T l.toList l'.toList i=true:=by kernel_rfl) (hQ:∀ c a w,Q (.panic c) (a.put oi.dst v) w→Q (.panic c) a w:=by exact fun _ _ _ h_=>h_) (hg:Region.wanted oi (yielded ops a.tmps)=true:=by rfl) (hy:∀ w,(execOp a.eval oi).run P w= .ok (.value v) w:=by (intro w';go_simp;with_reducible rfl)) (ha:a.put (some N) v=a':=by first|(simp only [Act.put,List.setIfInBounds_toArray,List.set_cons_zero,List.set_cons_succ,gT,gZ];rfl)|rfl):dD P md ops Q S ds (fuel + 1) l a w:=aAv l' hi hN (SC HT.out hc) hQ (Or.inl ⟨hg,hy⟩) ha h
theorem pu_ (i N:Nat) (l':Array Bool) {P:Program} {md:Region.Mode} {ops:Array Oper} {Q:Exit→Act→World→Prop} {S:World→Prop} {ds:List Nat} {oi:Oper} {fuel:Nat} {l:Array Bool} {a a':Act} {w:World} {T:Bool × List (List Nat × List Nat)} (HT:Aside0 (kZ md ops=T)) (h:dD P md ops Q S ds fuel l' a' w) (hi:ops[i]?=some oi:=by rfl) (hN:oi.dst=some N:=by rfl) (hc:WZ T l.toList l'.toList i=true:=by kernel_rfl) (hQ:∀ c a w,Q (.panic c) (a.put oi.dst undef) w→Q (.panic c) a w:=by exact fun _ _ _ h_=>h_) (hg:Region.wanted oi (yielded ops a.tmps)=false:=by rfl) (ha:a.put (some N) undef=a':=by first|(simp only [Act.put,List.setIfInBounds_toArray,List.set_cons_zero,List.set_cons_succ,gT,gZ];rfl)|rfl):dD P md ops Q S ds (fuel + 1) l a w:=aAv (v:=undef) l' hi hN (SC HT.out hc) hQ (Or.inr ⟨hg,rfl⟩) ha h
theorem PW (i N:Nat) (l':Array Bool) {P:Program} {md:Region.Mode} {ops:Array Oper} {Q:Exit→Act→World→Prop} {S:World→Prop} {ds:List Nat} {oi:Oper} {v:Value} {fuel:Nat} {l:Array Bool} {a a':Act} {w:World} {T:Bool × List (List Nat × List Nat)} {B:List Nat} (HT:Aside0 (kZ md ops=T)) (HW:Aside0 (kG T.2 B=true)) (hS:S w) (h:dD P md ops Q S ds fuel l' a' w) (hi:ops[i]?=some oi:=by rfl) (hN:oi.dst=some N:=by rfl) (hc:yI T B ds l.toList l'.toList i=true:=by kernel_rfl) (hQ:∀ c a w,Q (.panic c) (a.put oi.dst v) w→Q (.panic c) a w:=by exact fun _ _ _ h_=>h_) (hg:Region.wanted oi (yielded ops a.tmps)=true:=by rfl) (hy:∀ w,S w→(execOp a.eval oi).run P w= .ok (.value v) w:=by (rintro w' ⟨s0,s1⟩;go_simp;with_reducible rfl)) (ha:a.put (some N) v=a':=by first|(simp only [Act.put,List.setIfInBounds_toArray,List.set_cons_zero,List.set_cons_succ,gT,gZ];rfl)|rfl):dD P md ops Q S ds (fuel + 1) l a w:=yJ l' hi hN (rP HT.out HW.out hc) hQ (Or.inl ⟨hg,hy⟩) hS ha h
theorem aCr (i N:Nat) (l':Array Bool) {P:Program} {md:Region.Mode} {ops:Array Oper} {Q:Exit→Act→World→Prop} {S:World→Prop} {ds:List Nat} {oi:Oper} {v:Value} {fuel:Nat} {l:Array Bool} {a a':Act} {w:World} {T:Bool × List (List Nat × List Nat)} {B:List Nat} (HT:Aside0 (kZ md ops=T)) (HW:Aside0 (kG T.2 B=true)) (hS:S w) (h:dD P md ops Q S ds fuel l' a' w) (hi:ops[i]?=some oi:=by rfl) (hN:oi.dst=some N:=by rfl) (hc:yI T B ds l.toList l'.toList i=true:=by kernel_rfl) (hQ:∀ c a w,Q (.panic c) (a.put oi.dst v) w→Q (.panic c) a w:=by exact fun _ _ _ h_=>h_) (hg:Region.wanted oi (yielded ops a.tmps)=true:=by rfl) (hy:∀ w,S w→(execOp a.eval oi).run P w= .ok (.value v) w:=by (rintro w' ⟨s0,s1,s2⟩;go_simp;with_reducible rfl)) (ha:a.put (some N) v=a':=by first|(simp only [Act.put,List.setIfInBounds_toArray,List.set_cons_zero,List.set_cons_succ,gT,gZ];rfl)|rfl):dD P md ops Q S ds (fuel + 1) l a w:=yJ l' hi hN (rP HT.out HW.out hc) hQ (Or.inl ⟨hg,hy⟩) hS ha h
theorem DR (i N:Nat) (l':Array Bool) {P:Program} {md:Region.Mode} {ops:Array Oper} {Q:Exit→Act→World→Prop} {S:World→Prop} {ds:List Nat} {oi:Oper} {v:Value} {fuel:Nat} {l:Array Bool} {a a':Act} {w:World} {T:Bool × List (List Nat × List Nat)} {B:List Nat} (HT:Aside0 (kZ md ops=T)) (HW:Aside0 (kG T.2 B=true)) (hS:S w) (h:dD P md ops Q S ds fuel l' a' w) (hi:ops[i]?=some oi:=by rfl) (hN:oi.dst=some N:=by rfl) (hc:yI T B ds l.toList l'.toList i=true:=by kernel_rfl) (hQ:∀ c a w,Q (.panic c) (a.put oi.dst v) w→Q (.panic c) a w:=by exact fun _ _ _ h_=>h_) (hg:Region.wanted oi (yielded ops a.tmps)=true:=by rfl) (hy:∀ w,S w→(execOp a.eval oi).run P w= .ok (.value v) w:=by (rintro w' ⟨s0,s1,s2,s3⟩;go_simp;with_reducible rfl)) (ha:a.put (some N) v=a':=by first|(simp only [Act.put,List.setIfInBounds_toArray,List.set_cons_zero,List.set_cons_succ,gT,gZ];rfl)|rfl):dD P md ops Q S ds (fuel + 1) l a w:=yJ l' hi hN (rP HT.out HW.out hc) hQ (Or.inl ⟨hg,hy⟩) hS ha h
theorem aBz (i N:Nat) (l':Array Bool) {P:Program} {md:Region.Mode} {ops:Array Oper} {Q:Exit→Act→World→Prop} {S:World→Prop} {ds:List Nat} {oi:Oper} {v:Value} {fuel:Nat} {l:Array Bool} {a a':Act} {w:World} {T:Bool × List (List Nat × List Nat)} {B:List Nat} (HT:Aside0 (kZ md ops=T)) (HW:Aside0 (kG T.2 B=true)) (hS:S w) (h:dD P md ops Q S ds fuel l' a' w) (hi:ops[i]?=some oi:=by rfl) (hN:oi.dst=some N:=by rfl) (hc:yI T B ds l.toList l'.toList i=true:=by kernel_rfl) (hQ:∀ c a w,Q (.panic c) (a.put oi.dst v) w→Q (.panic c) a w:=by exact fun _ _ _ h_=>h_) (hg:Region.wanted oi (yielded ops a.tmps)=true:=by rfl) (hy:∀ w,S w→(execOp a.eval oi).run P w= .ok (.value v) w:=by (rintro w' ⟨s0,s1,s2,s3,s4⟩;go_simp;with_reducible rfl)) (ha:a.put (some N) v=a':=by first|(simp only [Act.put,List.setIfInBounds_toArray,List.set_cons_zero,List.set_cons_succ,gT,gZ];rfl)|rfl):dD P md ops Q S ds (fuel + 1) l a w:=yJ l' hi hN (rP HT.out HW.out hc) hQ (Or.inl ⟨hg,hy⟩) hS ha h
theorem aAm (i N:Nat) (l':Array Bool) {P:Program} {md:Region.Mode} {ops:Array Oper} {Q:Exit→Act→World→Prop} {S:World→Prop} {ds:List Nat} {oi:Oper} {v:Value} {fuel:Nat} {l:Array Bool} {a a':Act} {w:World} {T:Bool × List (List Nat × List Nat)} {B:List Nat} (HT:Aside0 (kZ md ops=T)) (HW:Aside0 (kG T.2 B=true)) (hS:S w) (h:dD P md ops Q S ds fuel l' a' w) (hi:ops[i]?=some oi:=by rfl) (hN:oi.dst=some N:=by rfl) (hc:yI T B ds l.toList l'.toList i=true:=by kernel_rfl) (hQ:∀ c a w,Q (.panic c) (a.put oi.dst v) w→Q (.panic c) a w:=by exact fun _ _ _ h_=>h_) (hg:Region.wanted oi (yielded ops a.tmps)=true:=by rfl) (hy:∀ w,S w→(execOp a.eval oi).run P w= .ok (.value v) w:=by (rintro w' ⟨s0,s1,s2,s3,s4,s5⟩;go_simp;with_reducible rfl)) (ha:a.put (some N) v=a':=by first|(simp only [Act.put,List.setIfInBounds_toArray,List.set_cons_zero,List.set_cons_succ,gT,gZ];rfl)|rfl):dD P md ops Q S ds (fuel + 1) l a w:=yJ l' hi hN (rP HT.out HW.out hc) hQ (Or.inl ⟨hg,hy⟩) hS ha h
theorem EO (i N:Nat) (l':Array Bool) {P:Program} {md:Region.Mode} {ops:Array Oper} {Q:Exit→Act→World→Prop} {S:World→Prop} {ds:List Nat} {oi:Oper} {v:Value} {fuel:Nat} {l:Array Bool} {a a':Act} {w:World} {T:Bool × List (List Nat × List Nat)} {B:List Nat} (HT:Aside0 (kZ md ops=T)) (HW:Aside0 (kG T.2 B=true)) (hS:S w) (h:dD P md ops Q S ds fuel l' a' w) (hi:ops[i]?=some oi:=by rfl) (hN:oi.dst=some N:=by rfl) (hc:yI T B ds l.toList l'.toList i=true:=by kernel_rfl) (hQ:∀ c a w,Q (.panic c) (a.put oi.dst v) w→Q (.panic c) a w:=by exact fun _ _ _ h_=>h_) (hg:Region.wanted oi (yielded ops a.tmps)=true:=by rfl) (hy:∀ w,S w→(execOp a.eval oi).run P w= .ok (.value v) w:=by (rintro w' ⟨s0,s1,s2,s3,s4,s5,s6,s7,s8,s9,j3,j4,j5,j6,j7,j8⟩;go_simp;with_reducible rfl)) (ha:a.put (some N) v=a':=by first|(simp only [Act.put,List.setIfInBounds_toArray,List.set_cons_zero,List.set_cons_succ,gT,gZ];rfl)|rfl):dD P md ops Q S ds (fuel + 1) l a w:=yJ l' hi hN (rP HT.out HW.out hc) hQ (Or.inl ⟨hg,hy⟩) hS ha h
theorem sQ {α:Type} {d:Kd α} {e:Nat} {W0 W:World} {base:Nat} {ok:Nat→Prop} {v:Value} {xs:List α} (x:Kd.N d e W0 base ok v xs) (h:Kd.N d e W0 base ok v xs→Kd.N d e W base ok v xs:=by intro hx_;(with_reducible repeat (first|apply Kd.NI|apply Kd.NJ|apply Kd.AP));exact hx_):Kd.N d e W base ok v xs:=h x
theorem vL {α:Type} {d:Kd α} {e:Nat} {W0 W:World} {base:Nat} {ok:Nat→Prop} {v:Value} {xs:List α} (x:Kd.R d e W0 base ok v xs) (h:Kd.R d e W0 base ok v xs→Kd.R d e W base ok v xs:=by intro hx_;(with_reducible repeat (first|apply Kd.NM|apply Kd.NQ|apply Kd.tF));exact hx_):Kd.R d e W base ok v xs:=h x
theorem II {w:World} {g:Nat} {t:TypeId} {v0 v1:Value} (h:w.heap[g]?=some (.cells #[v0,v1] t (0,0))):w.cell? ⟨g,0,none⟩=some v0∧w.cell? ⟨g,1,none⟩=some v1:=⟨(aA h 0).trans rfl,(aA h 1).trans rfl⟩
theorem ap_ {a a':Act} {v:Value} {N:Nat} (h:a.put (some N) v=a':=by first|(simp only [Act.put,List.setIfInBounds_toArray,List.set_cons_zero,List.set_cons_succ,gT,gZ];rfl)|rfl):a.put (some N) v=a':=h
def bz (n m:Nat):Array Bool:=((List.range n).map (fun i=>m.testBit i)).toArray
theorem rx_ {p:Prop} (h:p:=by first|(rw [hy_];with_reducible exact H)|(have H2_:=(Option.bind_some _ _).symm.trans H;rw [hy_];with_reducible exact H2_)|(have H2_:=(Option.bind_some _ _).symm.trans H;with_reducible exact H2_)|with_reducible exact H|(rw [hy_];exact H)|exact H):p:=h
theorem bsa {α β:Type} {o:Option α} {f:α→Option β} {b:β} (h:o.bind f=some b):∃ a,Aside0 (o=some a)∧f a=some b:=by
 obtain ⟨a,h1,h2⟩:=Option.bind_eq_some_iff.mp h
 exact ⟨a,⟨h1⟩,h2⟩
theorem mo_ {p:Prop} (h:p:=by repeat' first|(with_reducible exact ih0 ..)|(with_reducible exact ih1 ..)|(with_reducible exact ih2 ..)|(with_reducible exact ih3 ..)|(with_reducible exact ih4 ..)|(with_reducible exact ih5 ..)|(with_reducible exact ih6 ..)|(with_reducible exact ih7 ..)|(with_reducible exact m0 ..)|(with_reducible exact m1 ..)|(with_reducible exact m2 ..)|(with_reducible exact m3 ..)|(with_reducible exact LeO.refl _)|(with_reducible exact LeO.none _)|(with_reducible refine LeO.ite ?_ ?_)|(with_reducible refine LeO.bind ?_ (fun _=>?_))):p:=h
mutual
def bO.l0:Nat→List (S24)→Int→Int→Option (Int)
 |0,_,_,_=>none
 |k + 1,x0,x1,x5=>if x5 < (x0.length:Int) then (if 0≤x5 then ((dS.f k ((iG x0 x5).f0) ((iG x0 x5).f1) ((iG x0 x5).f2) x1).bind fun t102=>(if t102 < 0 then (some (-1)) else (bO.l0 k x0 t102 (wrap64 (x5 + 1))))) else (none)) else (some x1)
def bO.f:Nat→List (S24)→Int→Option (Int)
 |0,_,_=>none
 |k + 1,l0,a1=>if (wrap64 (a1 - (l0.length:Int))) < 0 then (some (-1)) else (bO.l0 k l0 (wrap64 (a1 - (l0.length:Int))) 0)
def dS.f:Nat→Int→Int→List (S24)→Int→Option (Int)
 |0,_,_,_,_=>none
 |k + 1,a0_0,a0_1,l0_2,a1=>(bO.f k l0_2 a1).bind fun t104=>(if t104 < 0 then (some (-1)) else (some t104))
end
def fD.f (a0:Int) (a1:Int) (a2:Int):Option (Bool):=if a0≥a1 then (some (decide (a0≤a2))) else (some false)
def gJ.f (a0:Int):Option (Bool):=(fD.f a0 1 12).bind fun t105=>(some t105)
def gB.f:Nat→Int→Int→List (S28)→Int→Option (Bool)
 |0,_,_,_,_=>none
 |k + 1,a0_0,a0_1,l0_2,a1=>if a1 < 1 then (some false) else (if a0_0=0 then ((fD.f a0_1 0 99999).bind fun t107=>(if t107=true then (some ((l0_2.length:Int) == 0)) else (some false))) else (if a0_0=13 then ((fD.f a0_1 0 3).bind fun t108=>(if t108=true then (some ((l0_2.length:Int) == 0)) else (some false))) else ((gJ.f a0_0).bind fun t109=>(if t109=true then (if a0_1=0 then (if (l0_2.length:Int)=2 then (if 0 < (l0_2.length:Int) then ((gB.f k ((bH l0_2 0).f0) ((bH l0_2 0).f1) ((bH l0_2 0).f2) (wrap64 (a1 - 1))).bind fun t111=>(if t111=true then (if 1 < (l0_2.length:Int) then ((gB.f k ((bH l0_2 1).f0) ((bH l0_2 1).f1) ((bH l0_2 1).f2) (wrap64 (a1 - 1))).bind fun t113=>(some t113)) else (none)) else (some false))) else (none)) else (some false)) else (some false)) else (some false)))))
def dG.f (k:Nat) (a0_0:Int) (a0_1:Int) (l0_2:List (S28)):Option (Bool):=(gB.f k a0_0 a0_1 l0_2 5).bind fun t115=>(some t115)
def mE.f (a0:Int) (a1:Int):Option (Int × Int × (List (S28))):=some (a0,a1,(([]:List (S28))))
def iH.f (a0:Int):Option (Bool):=(fD.f a0 (-2147483648) 2147483647).bind fun t120=>(some t120)
def kU.f (a0:Bool):Option (Int):=if a0=true then (some 1) else (some 0)
def iA.f (a0:Int):Option (Int):=if (Int.tmod a0 4294967296) > 2147483647 then (some (wrap64 ((Int.tmod a0 4294967296) - 4294967296))) else (if (Int.tmod a0 4294967296) < (-2147483648) then (some (wrap64 ((Int.tmod a0 4294967296) + 4294967296))) else (some (Int.tmod a0 4294967296)))
def iV.f (a0:Int) (a1:Int) (a2:Bool):Option (Int):=if a2=true then (if 0≤(Go.bits .and .i64 a1 31) then (some (shr .i64 a0 (Go.bits .and .i64 a1 31))) else (none)) else (if 0≤(Go.bits .and .i64 a1 31) then ((iA.f (shl .i64 a0 (Go.bits .and .i64 a1 31))).bind fun t121=>(some t121)) else (none))
def lU.f (a0:Int) (a1:Int):Option (Int):=if a1=0 then (some (-1)) else ((iA.f (wrap64 (Int.tdiv a0 a1))).bind fun t122=>(some t122))
def lV.f (a0:Int) (a1:Int):Option (Int):=if a1=0 then (some a0) else (some (Int.tmod a0 a1))
def eG.j0:Nat→Int→Int→Int→Bool→Option (Int × Bool)
 |0,_,_,_,_=>none
 |k + 1,x0,x1,x2,x20=>if x20=true then (some (0,false)) else (if x0=1 then (some (Go.bits .or .i64 x1 x2,true)) else (if x0=2 then (some (Go.bits .xor .i64 x1 x2,true)) else (if x0=3 then (some (Go.bits .and .i64 x1 x2,true)) else (if x0=4 then ((kU.f (x1 == x2)).bind fun t126=>(some (t126,true))) else (if x0=5 then ((kU.f (decide (x1 < x2))).bind fun t127=>(some (t127,true))) else (if x0=6 then ((iV.f x1 x2 false).bind fun t128=>(some (t128,true))) else (if x0=7 then ((iV.f x1 x2 true).bind fun t129=>(some (t129,true))) else (if x0=8 then ((iA.f (wrap64 (x1 + x2))).bind fun t130=>(some (t130,true))) else (if x0=9 then ((iA.f (wrap64 (x1 - x2))).bind fun t131=>(some (t131,true))) else (if x0=10 then ((iA.f (wrap64 (x1 * x2))).bind fun t132=>(some (t132,true))) else (if x0=11 then ((lU.f x1 x2).bind fun t133=>(some (t133,true))) else ((lV.f x1 x2).bind fun t134=>(some (t134,true))))))))))))))
def eG.f (k:Nat) (a0:Int) (a1:Int) (a2:Int):Option (Int × Bool):=(gJ.f a0).bind fun t123=>(if t123=true then ((iH.f a1).bind fun t124=>(if t124=true then ((iH.f a2).bind fun t125=>(eG.j0 k a0 a1 a2 (!t125))) else (eG.j0 k a0 a1 a2 true))) else (eG.j0 k a0 a1 a2 true))
def mD.f (a0:Int) (a1_0:Int) (a1_1:Int) (l1_2:List (S28)) (a2_0:Int) (a2_1:Int) (l2_2:List (S28)):Option (Int × Int × (List (S28))):=some (a0,0,(([(⟨a1_0,a1_1,l1_2⟩:S28),(⟨a2_0,a2_1,l2_2⟩:S28)]:List (S28))))
mutual
def dA.j0:Nat→Bool→Int→Int→List (S28)→Int→Int→List (S28)→Int→Int→List (S28)→Option (Int × Int × (List (S28)))
 |0,_,_,_,_,_,_,_,_,_,_=>none
 |k + 1,x33,x142000,x142001,x142002,x155000,x155001,x155002,x162000,x162001,x162002=>if x33=true then ((eG.f k x142000 x155001 x162001).bind fun bt162=>((fD.f bt162.1 0 99999).bind fun t164=>(if t164=true then ((mE.f 0 bt162.1).bind fun bt165=>(some (bt165.1,bt165.2.1,bt165.2.2))) else ((mD.f x142000 x155000 x155001 x155002 x162000 x162001 x162002).bind fun bt170=>(some (bt170.1,bt170.2.1,bt170.2.2)))))) else ((mD.f x142000 x155000 x155001 x155002 x162000 x162001 x162002).bind fun bt175=>(some (bt175.1,bt175.2.1,bt175.2.2)))
def dA.f:Nat→Int→Int→List (S28)→Option (Int × Int × (List (S28)))
 |0,_,_,_=>none
 |k + 1,a0_0,a0_1,l0_2=>if (l0_2.length:Int)=0 then ((mE.f a0_0 a0_1).bind fun bt143=>(some (bt143.1,bt143.2.1,bt143.2.2))) else (if 0 < (l0_2.length:Int) then ((dA.f k ((bH l0_2 0).f0) ((bH l0_2 0).f1) ((bH l0_2 0).f2)).bind fun bt149=>(if 1 < (l0_2.length:Int) then ((dA.f k ((bH l0_2 1).f0) ((bH l0_2 1).f1) ((bH l0_2 1).f2)).bind fun bt156=>(if bt149.1=0 then (dA.j0 k (bt156.1 == 0) a0_0 a0_1 l0_2 bt149.1 bt149.2.1 bt149.2.2 bt156.1 bt156.2.1 bt156.2.2) else (dA.j0 k false a0_0 a0_1 l0_2 bt149.1 bt149.2.1 bt149.2.2 bt156.1 bt156.2.1 bt156.2.2))) else (none))) else (none))
end
def DJ.f (k:Nat) (a0_0:Int) (a0_1:Int) (l0_2:List (S28)):Option (Int × Int × (List (S28)) × Bool):=(dG.f k a0_0 a0_1 l0_2).bind fun t182=>(if t182=true then ((dA.f k a0_0 a0_1 l0_2).bind fun bt183=>(some (bt183.1,bt183.2.1,bt183.2.2,true))) else (some (0,0,([]:List (S28)),false)))
mutual
def dZ.l0:Nat→List (S24)→List (S28)→Int→Option ((List (S28)))
 |0,_,_,_=>none
 |k + 1,x0,x3,x4=>if x4 < (x0.length:Int) then (if 0≤x4 then ((fJ.f k ((iG x0 x4).f0) ((iG x0 x4).f1) ((iG x0 x4).f2)).bind fun bt192=>(if x4 < (x3.length:Int) then (dZ.l0 k x0 (x3.set (x4:Int).toNat (⟨bt192.1,bt192.2.1,bt192.2.2⟩:S28)) (wrap64 (x4 + 1))) else (none))) else (none)) else (some x3)
def dZ.f:Nat→List (S24)→Option ((List (S28)))
 |0,_=>none
 |k + 1,l0=>if 0≤(l0.length:Int) then (if ((l0.length:Int):Int).toNat≤7036874417766 then (dZ.l0 k l0 (List.replicate ((l0.length:Int):Int).toNat z28) 0) else (none)) else (none)
def fJ.f:Nat→Int→Int→List (S24)→Option (Int × Int × (List (S28)))
 |0,_,_,_=>none
 |k + 1,a0_0,a0_1,l0_2=>(dZ.f k l0_2).bind fun t201=>(some (a0_0,a0_1,t201))
end
def iF.f (a0:Int):Option (Bool):=if a0≥1 then (some (decide (a0≤12))) else (some false)
def dP.f:Nat→Int→Int→List (S28)→Int→Option (Bool)
 |0,_,_,_,_=>none
 |k + 1,a0_0,a0_1,l0_2,a1=>if a0_0=0 then (if a0_1≥0 then (if a0_1≤99999 then (if (l0_2.length:Int)=0 then (some (decide (a1 > 0))) else (some false)) else (some false)) else (some false)) else (if a0_0=13 then (if a0_1≥0 then (if a0_1 < 4 then (if (l0_2.length:Int)=0 then (some (decide (a1 > 0))) else (some false)) else (some false)) else (some false)) else ((iF.f a0_0).bind fun t205=>(if t205=true then (if a0_1=0 then (if (l0_2.length:Int)=2 then (if a1 > 1 then (if 0 < (l0_2.length:Int) then ((dP.f k ((bH l0_2 0).f0) ((bH l0_2 0).f1) ((bH l0_2 0).f2) (wrap64 (a1 - 1))).bind fun t207=>(if t207=true then (if 1 < (l0_2.length:Int) then ((dP.f k ((bH l0_2 1).f0) ((bH l0_2 1).f1) ((bH l0_2 1).f2) (wrap64 (a1 - 1))).bind fun t209=>(some t209)) else (none)) else (some false))) else (none)) else (some false)) else (some false)) else (some false)) else (some false))))
def fQ.f (k:Nat) (a0_0:Int) (a0_1:Int) (l0_2:List (S28)):Option (Bool):=(dP.f k a0_0 a0_1 l0_2 5).bind fun t211=>(some t211)
def lI.f (a0:Bool):Option (Int):=if a0=true then (some 1) else (some 0)
def iK.f (a0:Int):Option (Int):=some (wrap64 (wrap32 (a0)))
def iL.f (a0:Int) (a1:Int) (a2:Int):Option (Int):=if a0=1 then (some (Go.bits .or .i64 a1 a2)) else (if a0=2 then (some (Go.bits .xor .i64 a1 a2)) else (if a0=3 then (some (Go.bits .and .i64 a1 a2)) else (if a0=4 then ((lI.f (a1 == a2)).bind fun t212=>(some t212)) else (if a0=5 then ((lI.f (decide (a1 < a2))).bind fun t213=>(some t213)) else (if a0=6 then (if 0≤(Go.bits .and .i64 a2 31) then ((iK.f (shl .i64 a1 (Go.bits .and .i64 a2 31))).bind fun t214=>(some t214)) else (none)) else (if a0=7 then (if 0≤(Go.bits .and .i64 a2 31) then (some (shr .i64 a1 (Go.bits .and .i64 a2 31))) else (none)) else (if a0=8 then ((iK.f (wrap64 (a1 + a2))).bind fun t215=>(some t215)) else (if a0=9 then ((iK.f (wrap64 (a1 - a2))).bind fun t216=>(some t216)) else (if a0=10 then ((iK.f (wrap64 (a1 * a2))).bind fun t217=>(some t217)) else (if a0=11 then (if a2=0 then (some (-1)) else ((iK.f (wrap64 (Int.tdiv a1 a2))).bind fun t218=>(some t218))) else (if a2=0 then (some a1) else (some (Int.tmod a1 a2)))))))))))))
mutual
def bI.j0:Nat→Bool→Int→Int→List (S28)→Int→Int→List (S28)→Int→Int→List (S28)→Option (Int × Int × (List (S28)))
 |0,_,_,_,_,_,_,_,_,_,_=>none
 |k + 1,x32,a0,a1,l,x0,x1,x2,y0,y1,y2=>if x32=true then ((iL.f a0 x1 y1).bind fun n=>(if n≥0 then (if n≤99999 then (some (0,n,([]:List (S28)))) else (some (a0,0,([(⟨x0,x1,x2⟩:S28),(⟨y0,y1,y2⟩:S28)]:List (S28))))) else (some (a0,0,([(⟨x0,x1,x2⟩:S28),(⟨y0,y1,y2⟩:S28)]:List (S28)))))) else (some (a0,0,([(⟨x0,x1,x2⟩:S28),(⟨y0,y1,y2⟩:S28)]:List (S28))))
def bI.f:Nat→Int→Int→List (S28)→Option (Int × Int × (List (S28)))
 |0,_,_,_=>none
 |k + 1,a0,a1,l=>if (l.length:Int)=0 then (some (a0,a1,([]:List (S28)))) else (if 0 < (l.length:Int) then ((bI.f k ((bH l 0).f0) ((bH l 0).f1) ((bH l 0).f2)).bind fun x=>(if 1 < (l.length:Int) then ((bI.f k ((bH l 1).f0) ((bH l 1).f1) ((bH l 1).f2)).bind fun y=>(if x.1=0 then (bI.j0 k (y.1 == 0) a0 a1 l x.1 x.2.1 x.2.2 y.1 y.2.1 y.2.2) else (bI.j0 k false a0 a1 l x.1 x.2.1 x.2.2 y.1 y.2.1 y.2.2))) else (none))) else (none))
end
def CS.f (k:Nat) (a0_0:Int) (a0_1:Int) (l0_2:List (S28)):Option (Int × Int × (List (S28)) × Bool):=(fQ.f k a0_0 a0_1 l0_2).bind fun t221=>(if t221=true then ((bI.f k a0_0 a0_1 l0_2).bind fun bt222=>(some (bt222.1,bt222.2.1,bt222.2.2,true))) else (some (0,0,([]:List (S28)),false)))
mutual
def bC.l0:Nat→List (S28)→List (S28)→Int→Option (Bool)
 |0,_,_,_=>none
 |k + 1,x0,x1,x5=>if x5 < (x0.length:Int) then (if 0≤x5 then (if x5 < (x1.length:Int) then ((dJ.f k ((bH x0 x5).f0) ((bH x0 x5).f1) ((bH x0 x5).f2) ((bH x1 x5).f0) ((bH x1 x5).f1) ((bH x1 x5).f2)).bind fun t229=>(if t229=true then (bC.l0 k x0 x1 (wrap64 (x5 + 1))) else (some false))) else (none)) else (none)) else (some true)
def bC.f:Nat→List (S28)→List (S28)→Option (Bool)
 |0,_,_=>none
 |k + 1,l0,l1=>if (l0.length:Int)=(l1.length:Int) then (bC.l0 k l0 l1 0) else (some false)
def dJ.f:Nat→Int→Int→List (S28)→Int→Int→List (S28)→Option (Bool)
 |0,_,_,_,_,_,_=>none
 |k + 1,a0_0,a0_1,l0_2,a1_0,a1_1,l1_2=>if a0_0=a1_0 then (if a0_1=a1_1 then ((bC.f k l0_2 l1_2).bind fun t232=>(if t232=true then (some true) else (some false))) else (some false)) else (some false)
end
mutual
def bU.l0:Nat→List S28→Int→Int→Option (Int × List S28)
 |0,_,_,_=>none
 |k + 1,xs,n,i=>if i < (xs.length:Int) then (if 0≤i then ((bU.f k (bH xs i).f2 (wrap64 ((wrap64 (n + 1)) + 1))).bind fun t=>bU.l0 k (xs.set i.toNat ⟨n,(wrap64 (n + 1)),t.2⟩) t.1 (wrap64 (i + 1))) else none) else some (n,xs)
def bU.f:Nat→List S28→Int→Option (Int × List S28)
 |0,_,_=>none
 |k + 1,xs,n=>bU.l0 k xs n 0
end
def nJ.f (k:Nat) (a0 a1:Int) (l:List S28) (n:Int):Option (Int × List S28):=bU.f k l n
mutual
def bD.l0:Nat→List (S28)→Int→Int→Option (Int)
 |0,_,_,_=>none
 |k + 1,x0,x1,x5=>if x5 < (x0.length:Int) then (if 0≤x5 then (if ((bH x0 x5).f0)=x1 then (if ((bH x0 x5).f1)=(wrap64 (x1 + 1)) then ((bD.f k ((bH x0 x5).f2) (wrap64 ((wrap64 (x1 + 1)) + 1))).bind fun t236=>(if t236 < 0 then (some (-1)) else (bD.l0 k x0 t236 (wrap64 (x5 + 1))))) else (some (-1))) else (some (-1))) else (none)) else (some x1)
def bD.f:Nat→List (S28)→Int→Option (Int)
 |0,_,_=>none
 |k + 1,l0,a1=>bD.l0 k l0 a1 0
end
def CX.f (k:Nat) (a0_0:Int) (a0_1:Int) (l0_2:List (S28)) (a1:Int):Option (Int):=(bD.f k l0_2 a1).bind fun t238=>(if t238 < 0 then (some (-1)) else (some t238))
def KH.f (k:Nat) (a0 a1:Int) (l:List S24):Option Bool:=(dS.f k a0 a1 l 1048576).bind fun left=>if left < 0 then some true else
 (fJ.f k a0 a1 l).bind fun x=>(DJ.f k x.1 x.2.1 x.2.2).bind fun w=>(CS.f k x.1 x.2.1 x.2.2).bind fun g=>
 (dJ.f k g.1 g.2.1 g.2.2.1 w.1 w.2.1 w.2.2.1).bind fun e1=>if e1=false then none else if g.2.2.2≠w.2.2.2 then none else
 (dJ.f k x.1 x.2.1 x.2.2 x.1 x.2.1 x.2.2).bind fun e2=>if e2=false then none else
 (nJ.f k x.1 x.2.1 x.2.2 1).bind fun m1=>if m1.1 < 0 then none else
 (nJ.f k g.1 g.2.1 g.2.2.1 1).bind fun m=>(CX.f k g.1 g.2.1 m.2 1).bind fun q=>if q < 0 then none else if q≠m.1 then none else some true
mutual
def dO.f:Nat→Int→Int→Int→Int→Int→List (S24)→List (S66)→List (S66)→Int→Option (Int)
 |0,_,_,_,_,_,_,_,_,_=>none
 |k + 1,a0_0,a0_1,a0_2,a0_3,a0_4,l0_5,l0_6,l0_7,a1=>(dS.f k a0_3 a0_4 l0_5 a1).bind fun t240=>(if t240 < 0 then (some (-1)) else ((bP.f k l0_6 t240).bind fun t241=>(if t241 < 0 then (some (-1)) else ((bP.f k l0_7 t241).bind fun t242=>(if t242 < 0 then (some (-1)) else (some t242))))))
def bP.l0:Nat→List (S66)→Int→Int→Option (Int)
 |0,_,_,_=>none
 |k + 1,x0,x1,x5=>if x5 < (x0.length:Int) then (if 0≤x5 then ((dO.f k ((dU x0 x5).f0) ((dU x0 x5).f1) ((dU x0 x5).f2) ((dU x0 x5).f3.f0) ((dU x0 x5).f3.f1) ((dU x0 x5).f3.f2) ((dU x0 x5).f4) ((dU x0 x5).f5) x1).bind fun t244=>(if t244 < 0 then (some (-1)) else (bP.l0 k x0 t244 (wrap64 (x5 + 1))))) else (none)) else (some x1)
def bP.f:Nat→List (S66)→Int→Option (Int)
 |0,_,_=>none
 |k + 1,l0,a1=>if (wrap64 (a1 - (l0.length:Int))) < 0 then (some (-1)) else (bP.l0 k l0 (wrap64 (a1 - (l0.length:Int))) 0)
end
def dW.f (a0_0:Int) (a0_1:Int) (a0_2:Int) (a0_3:Int) (a0_4:Int) (l0_5:List (S28)) (l0_6:List (S70)) (l0_7:List (S70)) (a1:Bool):Option (Bool):=if a1=true then ((fD.f a0_1 0 3).bind fun t246=>(some t246)) else (some (a0_1 == 0))
def eU.f (a0_0:Int) (a0_1:Int) (a0_2:Int) (a0_3:Int) (a0_4:Int) (l0_5:List (S28)) (l0_6:List (S70)) (l0_7:List (S70)) (a1:Bool):Option (Bool):=if a1=true then ((fD.f a0_2 0 2).bind fun t248=>(some t248)) else (some (a0_2 == 0))
def iW.f (a0_0:Int) (a0_1:Int) (l0_2:List (S28)):Option (Bool):=if a0_0=0 then (if a0_1=0 then (some ((l0_2.length:Int) == 0)) else (some false)) else (some false)
def bZ.j0:Nat→Bool→Int→Int→Int→Int→Int→List (S28)→List (S70)→List (S70)→Option (Bool)
 |0,_,_,_,_,_,_,_,_,_=>none
 |k + 1,x12,x251000,x251001,x251002,x251003,x251004,x251005,x251006,x251007=>if x12=true then (some false) else (if x251000=1 then ((dW.f x251000 x251001 x251002 x251003 x251004 x251005 x251006 x251007 true).bind fun t251=>(if t251=true then ((eU.f x251000 x251001 x251002 x251003 x251004 x251005 x251006 x251007 false).bind fun t252=>(if t252=true then ((dG.f k x251003 x251004 x251005).bind fun t253=>(some t253)) else (some false))) else (some false))) else (if x251000=4 then ((dW.f x251000 x251001 x251002 x251003 x251004 x251005 x251006 x251007 false).bind fun t254=>(if t254=true then ((eU.f x251000 x251001 x251002 x251003 x251004 x251005 x251006 x251007 true).bind fun t255=>(if t255=true then ((dG.f k x251003 x251004 x251005).bind fun t256=>(some t256)) else (some false))) else (some false))) else (if x251000=5 then ((dW.f x251000 x251001 x251002 x251003 x251004 x251005 x251006 x251007 true).bind fun t257=>(if t257=true then ((eU.f x251000 x251001 x251002 x251003 x251004 x251005 x251006 x251007 true).bind fun t258=>(if t258=true then ((iW.f x251003 x251004 x251005).bind fun t259=>(some t259)) else (some false))) else (some false))) else (if x251000=6 then ((dW.f x251000 x251001 x251002 x251003 x251004 x251005 x251006 x251007 false).bind fun t260=>(if t260=true then ((eU.f x251000 x251001 x251002 x251003 x251004 x251005 x251006 x251007 false).bind fun t261=>(if t261=true then ((iW.f x251003 x251004 x251005).bind fun t262=>(some t262)) else (some false))) else (some false))) else (if x251000=7 then ((dW.f x251000 x251001 x251002 x251003 x251004 x251005 x251006 x251007 false).bind fun t263=>(if t263=true then ((eU.f x251000 x251001 x251002 x251003 x251004 x251005 x251006 x251007 false).bind fun t264=>(if t264=true then ((dG.f k x251003 x251004 x251005).bind fun t265=>(some t265)) else (some false))) else (some false))) else (some false))))))
def bZ.f (k:Nat) (a0_0:Int) (a0_1:Int) (a0_2:Int) (a0_3:Int) (a0_4:Int) (l0_5:List (S28)) (l0_6:List (S70)) (l0_7:List (S70)):Option (Bool):=if (l0_6.length:Int) > 0 then (bZ.j0 k true a0_0 a0_1 a0_2 a0_3 a0_4 l0_5 l0_6 l0_7) else (bZ.j0 k (decide ((l0_7.length:Int) > 0)) a0_0 a0_1 a0_2 a0_3 a0_4 l0_5 l0_6 l0_7)
mutual
def bK.j0:Nat→Int→Bool→Int→Int→Int→Int→Int→List (S28)→List (S70)→List (S70)→Option (Bool)
 |0,_,_,_,_,_,_,_,_,_,_=>none
 |k + 1,x1,x12,x267000,x267001,x267002,x267003,x267004,x267005,x267006,x267007=>if x12=true then ((bZ.f k x267000 x267001 x267002 x267003 x267004 x267005 x267006 x267007).bind fun t267=>(some t267)) else (if x1 < 1 then (bK.j1 k x1 true x267000 x267001 x267002 x267003 x267004 x267005 x267006 x267007) else (if x267000=3 then (bK.j1 k x1 (decide ((x267007.length:Int) > 0)) x267000 x267001 x267002 x267003 x267004 x267005 x267006 x267007) else (bK.j1 k x1 false x267000 x267001 x267002 x267003 x267004 x267005 x267006 x267007)))
def bK.j1:Nat→Int→Bool→Int→Int→Int→Int→Int→List (S28)→List (S70)→List (S70)→Option (Bool)
 |0,_,_,_,_,_,_,_,_,_,_=>none
 |k + 1,x1,x27,x267000,x267001,x267002,x267003,x267004,x267005,x267006,x267007=>if x27=true then (some false) else ((dW.f x267000 x267001 x267002 x267003 x267004 x267005 x267006 x267007 false).bind fun t268=>(if t268=true then ((eU.f x267000 x267001 x267002 x267003 x267004 x267005 x267006 x267007 false).bind fun t269=>(if t269=true then ((dG.f k x267003 x267004 x267005).bind fun t270=>(if t270=true then ((bE.f k x267006 (wrap64 (x1 - 1))).bind fun t271=>(if t271=true then ((bE.f k x267007 (wrap64 (x1 - 1))).bind fun t272=>(some t272)) else (some false))) else (some false))) else (some false))) else (some false)))
def bK.f:Nat→Int→Int→Int→Int→Int→List (S28)→List (S70)→List (S70)→Int→Option (Bool)
 |0,_,_,_,_,_,_,_,_,_=>none
 |k + 1,a0_0,a0_1,a0_2,a0_3,a0_4,l0_5,l0_6,l0_7,a1=>if a0_0=2 then (bK.j0 k a1 false a0_0 a0_1 a0_2 a0_3 a0_4 l0_5 l0_6 l0_7) else (bK.j0 k a1 (a0_0 != 3) a0_0 a0_1 a0_2 a0_3 a0_4 l0_5 l0_6 l0_7)
def bE.l0:Nat→List (S70)→Int→Int→Option (Bool)
 |0,_,_,_=>none
 |k + 1,x0,x1,x5=>if x5 < (x0.length:Int) then (if 0≤x5 then ((bK.f k ((aG x0 x5).f0) ((aG x0 x5).f1) ((aG x0 x5).f2) ((aG x0 x5).f3.f0) ((aG x0 x5).f3.f1) ((aG x0 x5).f3.f2) ((aG x0 x5).f4) ((aG x0 x5).f5) x1).bind fun t274=>(if t274=true then (bE.l0 k x0 x1 (wrap64 (x5 + 1))) else (some false))) else (none)) else (some true)
def bE.f:Nat→List (S70)→Int→Option (Bool)
 |0,_,_=>none
 |k + 1,l0,a1=>bE.l0 k l0 a1 0
end
mutual
def bF.l0:Nat→List (S70)→Int→Int→Option (Int)
 |0,_,_,_=>none
 |k + 1,x0,x3,x4=>if x4 < (x0.length:Int) then (if 0≤x4 then ((bF.f k ((aG x0 x4).f4)).bind fun t276=>((bF.f k ((aG x0 x4).f5)).bind fun t278=>(bF.l0 k x0 (wrap64 ((wrap64 ((wrap64 (x3 + 1)) + t276)) + t278)) (wrap64 (x4 + 1))))) else (none)) else (some x3)
def bF.f:Nat→List (S70)→Option (Int)
 |0,_=>none
 |k + 1,l0=>bF.l0 k l0 0 0
end
def eO.f (k:Nat) (l0:List (S70)):Option (Bool):=(bE.f k l0 3).bind fun t279=>(if t279=true then ((bF.f k l0).bind fun t280=>(some (decide (t280≤16)))) else (some false))
def ED (x:S70) (op n:Int) (a:List S28) (b l:List S70):List S70:=if (x.f0 == 2 && (op == 0 && n != 0))=true then b else if (x.f0 == 2 && op == 0)=true then l else if (x.f0 == 3 && (op == 0 && n == 0))=true then [] else [⟨x.f0,x.f1,x.f2,⟨op,n,a⟩,b,l⟩]
mutual
def aX.l0:Nat→List S70→List S70→Int→Option (List S70)
 |0,_,_,_=>none
 |k + 1,l0,x3,x4=>if x4 < (l0.length:Int) then (if 0≤x4 then ((fB.f k (aG l0 x4)).bind fun y=>if x3.length + y.length < 1256584717458 then aX.l0 k l0 (x3 ++ y) (wrap64 (x4 + 1)) else none) else none) else some x3
def aX.f:Nat→List S70→Option (List S70)
 |0,_=>none
 |k + 1,l0=>aX.l0 k l0 [] 0
def fB.f:Nat→S70→Option (List S70)
 |0,_=>none
 |k + 1,x=>(dA.f k x.f3.f0 x.f3.f1 x.f3.f2).bind fun e=>(aX.f k x.f4).bind fun b=>(aX.f k x.f5).bind fun l=>some (ED x e.1 e.2.1 e.2.2 b l)
end
def BR.f (k:Nat) (l0:List (S70)):Option ((List (S70)) × Bool):=(eO.f k l0).bind fun t281=>(if t281=true then ((aX.f k l0).bind fun t282=>(some (t282,true))) else (some ((([]:List (S70))),false)))
mutual
def dL.l0:Nat→List S66→List S70→Int→Option (List S70)
 |0,_,_,_=>none
 |k + 1,x0,x3,x4=>if x4 < (x0.length:Int) then (if 0≤x4 then ((gM.f k (dU x0 x4)).bind fun s=>(if x4 < (x3.length:Int) then dL.l0 k x0 (x3.set (x4:Int).toNat s) (wrap64 (x4 + 1)) else none)) else none) else some x3
def dL.f:Nat→List S66→Option (List S70)
 |0,_=>none
 |k + 1,l0=>if l0.length≤2513169434916 then dL.l0 k l0 (List.replicate l0.length z70) 0 else none
def gM.f:Nat→S66→Option S70
 |0,_=>none
 |k + 1,s=>(fJ.f k s.f3.f0 s.f3.f1 s.f3.f2).bind fun e=>(dL.f k s.f4).bind fun b=>(dL.f k s.f5).bind fun c=>some ⟨s.f0,s.f1,s.f2,⟨e.1,e.2.1,e.2.2⟩,b,c⟩
end
def inr (n limit:Int) (needed:Bool):Bool:=(n == 0) || (needed && (decide (n > 0) && decide (n < limit)))
def iQ (k:Nat) (nv nb ne nd no:Bool) (va bx op n:Int) (la:List S28) (lb le:Nat) (boxes:Int):Option Bool:=
  if inr va 4 nv=true then (if inr bx boxes nb=true then (if nb=true∧boxes≤bx then some false else
    (if ne=true then ((fQ.f k op n la).bind fun t=>if t=true then some ((nd || lb == 0) && (no || le == 0)) else some false)
     else (if op=0 then (if n=0 then (if 0 < (la.length:Int) then some false else some ((nd || lb == 0) && (no || le == 0))) else some false) else some false))) else some false) else some false
def dQ.f (k:Nat) (kd va bx op n:Int) (la:List S28) (lb le:Nat) (boxes:Int):Option Bool:=
 if kd=1 then iQ k true false true false false va bx op n la lb le boxes
 else if kd=2 then iQ k false false true true true va bx op n la lb le boxes
 else if kd=3 then iQ k false false true true false va bx op n la lb le boxes
 else if kd=4 then iQ k false true true false false va bx op n la lb le boxes
 else if kd=5 then iQ k true true false false false va bx op n la lb le boxes
 else if kd=7 then iQ k false false true false false va bx op n la lb le boxes
 else if kd=6 then iQ k false false false false false va bx op n la lb le boxes
 else some false
mutual
def bM.f:Nat→List S70→Int→Int→Int→Option (Bool × Int)
 |0,_,_,_,_=>none
 |k + 1,l,boxes,blocks,cnt=>if 16 < wrap64 (cnt + (l.length:Int)) then some (false,wrap64 (cnt + (l.length:Int))) else bM.l0 k l boxes blocks 0 (wrap64 (cnt + (l.length:Int)))
def bM.l0:Nat→List S70→Int→Int→Int→Int→Option (Bool × Int)
 |0,_,_,_,_,_=>none
 | k + 1,l,boxes,blocks,i,cnt=>if i < (l.length:Int) then (if 0≤i then
   ((dQ.f k (aG l i).f0 (aG l i).f1 (aG l i).f2 (aG l i).f3.f0 (aG l i).f3.f1 (aG l i).f3.f2 (aG l i).f4.length (aG l i).f5.length boxes).bind fun t=>
    if t=true then (if 3 < blocks then some (false,cnt) else
     (if (aG l i).f0=2∨(aG l i).f0=3 then (if 3≤blocks then some (false,cnt) else
      ((bM.f k (aG l i).f4 boxes (wrap64 (blocks + 1)) cnt).bind fun p=>if p.1=true then
       ((bM.f k (aG l i).f5 boxes (wrap64 (blocks + 1)) p.2).bind fun q=>if q.1=true then bM.l0 k l boxes blocks (wrap64 (i + 1)) q.2 else some (false,q.2)) else some (false,p.2)))
     else bM.l0 k l boxes blocks (wrap64 (i + 1)) cnt)) else some (false,cnt)) else none) else some (true,cnt)
end
def eZ.f (k:Nat) (l0:List (S70)) (a1:Int):Option Bool:=(bM.f k l0 a1 0 0).bind fun p=>some p.1
def yN.f (k:Nat) (l0:List (S70)):Option (Bool):=(eZ.f k l0 3).bind fun t288=>(some t288)
mutual
def aM.l0:Nat→List (S70)→List (S70)→Int→Int→Option ((List (S70)))
 |0,_,_,_,_=>none
 |k + 1,x3,l,n,i=>if i < n then (if 0≤i then (if i < (l.length:Int) then ((aM.f k ((aG l i).f4)).bind fun yb=>((aM.f k ((aG l i).f5)).bind fun ye=>((bI.f k ((aG l i).f3.f0) ((aG l i).f3.f1) ((aG l i).f3.f2)).bind fun x=>(if ((aG l i).f0)=2 then (if x.1=0 then (aM.j1 k x3 (x.1 == 0) l n i (x.2.1 != 0) ((aG l i).f0) ((aG l i).f1) ((aG l i).f2) x.1 x.2.1 x.2.2 yb ye) else (aM.j1 k x3 (x.1 == 0) l n i false ((aG l i).f0) ((aG l i).f1) ((aG l i).f2) x.1 x.2.1 x.2.2 yb ye)) else (aM.j1 k x3 (x.1 == 0) l n i false ((aG l i).f0) ((aG l i).f1) ((aG l i).f2) x.1 x.2.1 x.2.2 yb ye))))) else (none)) else (none)) else (some x3)
def aM.j1:Nat→List (S70)→Bool→List (S70)→Int→Int→Bool→Int→Int→Int→Int→Int→List (S28)→List (S70)→List (S70)→Option ((List (S70)))
 |0,_,_,_,_,_,_,_,_,_,_,_,_,_,_=>none
 |k + 1,x3,x6,l,n,i,x33,f0,f1,f2,x0,x1,x2,yb,ye=>if x33=true then (if x3.length + yb.length < 1256584717458 then (aM.l0 k (x3 ++ yb) l n (wrap64 (i + 1))) else (none)) else (if f0=2 then (aM.j2 k x3 x6 l n i x6 f0 f1 f2 x0 x1 x2 yb ye) else (aM.j2 k x3 x6 l n i false f0 f1 f2 x0 x1 x2 yb ye))
def aM.j2:Nat→List (S70)→Bool→List (S70)→Int→Int→Bool→Int→Int→Int→Int→Int→List (S28)→List (S70)→List (S70)→Option ((List (S70)))
 |0,_,_,_,_,_,_,_,_,_,_,_,_,_,_=>none
 |k + 1,x3,x6,l,n,i,x50,f0,f1,f2,x0,x1,x2,yb,ye=>if x50=true then (if x3.length + ye.length < 1256584717458 then (aM.l0 k (x3 ++ ye) l n (wrap64 (i + 1))) else (none)) else (if f0=3 then (if x6=true then (if x1=0 then (aM.l0 k x3 l n (wrap64 (i + 1))) else (if x3.length < 1256584717458 then (aM.l0 k (x3 ++ [(⟨f0,f1,f2,(⟨x0,x1,x2⟩:S28),yb,ye⟩:S70)]) l n (wrap64 (i + 1))) else (none))) else (if x3.length < 1256584717458 then (aM.l0 k (x3 ++ [(⟨f0,f1,f2,(⟨x0,x1,x2⟩:S28),yb,ye⟩:S70)]) l n (wrap64 (i + 1))) else (none))) else (if x3.length < 1256584717458 then (aM.l0 k (x3 ++ [(⟨f0,f1,f2,(⟨x0,x1,x2⟩:S28),yb,ye⟩:S70)]) l n (wrap64 (i + 1))) else (none)))
def aM.f:Nat→List (S70)→Option ((List (S70)))
 |0,_=>none
 |k + 1,l=>aM.l0 k ([]:List (S70)) l (l.length:Int) 0
end
def BJ.f (k:Nat) (l0:List (S70)):Option ((List (S70)) × Bool):=(yN.f k l0).bind fun t289=>(if t289=true then ((aM.f k l0).bind fun t290=>(some (t290,true))) else (some (([]:List (S70)),false)))
mutual
def dR.f:Nat→Int→Int→Int→Int→Int→List (S28)→List (S70)→List (S70)→Int→Int→Int→Int→Int→List (S28)→List (S70)→List (S70)→Option (Bool)
 |0,_,_,_,_,_,_,_,_,_,_,_,_,_,_,_,_=>none
 |k + 1,a0_0,a0_1,a0_2,a0_3,a0_4,l0_5,l0_6,l0_7,a1_0,a1_1,a1_2,a1_3,a1_4,l1_5,l1_6,l1_7=>if a0_0=a1_0 then (if a0_1=a1_1 then (if a0_2=a1_2 then ((dJ.f k a0_3 a0_4 l0_5 a1_3 a1_4 l1_5).bind fun t295=>(if t295=true then ((aZ.f k l0_6 l1_6).bind fun t296=>(if t296=true then ((aZ.f k l0_7 l1_7).bind fun t297=>(if t297=true then (some true) else (some false))) else (some false))) else (some false))) else (some false)) else (some false)) else (some false)
def aZ.l0:Nat→List (S70)→List (S70)→Int→Option (Bool)
 |0,_,_,_=>none
 |k + 1,x0,x1,x5=>if x5 < (x0.length:Int) then (if 0≤x5 then (if x5 < (x1.length:Int) then ((dR.f k ((aG x0 x5).f0) ((aG x0 x5).f1) ((aG x0 x5).f2) ((aG x0 x5).f3.f0) ((aG x0 x5).f3.f1) ((aG x0 x5).f3.f2) ((aG x0 x5).f4) ((aG x0 x5).f5) ((aG x1 x5).f0) ((aG x1 x5).f1) ((aG x1 x5).f2) ((aG x1 x5).f3.f0) ((aG x1 x5).f3.f1) ((aG x1 x5).f3.f2) ((aG x1 x5).f4) ((aG x1 x5).f5)).bind fun t300=>(if t300=true then (aZ.l0 k x0 x1 (wrap64 (x5 + 1))) else (some false))) else (none)) else (none)) else (some true)
def aZ.f:Nat→List (S70)→List (S70)→Option (Bool)
 |0,_,_=>none
 |k + 1,l0,l1=>if (l0.length:Int)=(l1.length:Int) then (aZ.l0 k l0 l1 0) else (some false)
end
mutual
def cK.l0:Nat→List S70→Int→Int→Option (Int × List S70)
 |0,_,_,_=>none
 |k + 1,xs,n,i=>if i < (xs.length:Int) then (if 0≤i then ((bU.f k (aG xs i).f3.f2 (wrap64 ((wrap64 ((wrap64 ((wrap64 ((wrap64 (n + 1)) + 1)) + 1)) + 1)) + 1))).bind fun t=>(cK.f k (aG xs i).f4 t.1).bind fun u=>(cK.f k (aG xs i).f5 u.1).bind fun v=>cK.l0 k (xs.set i.toNat ⟨n,(wrap64 (n + 1)),(wrap64 ((wrap64 (n + 1)) + 1)),⟨(wrap64 ((wrap64 ((wrap64 (n + 1)) + 1)) + 1)),(wrap64 ((wrap64 ((wrap64 ((wrap64 (n + 1)) + 1)) + 1)) + 1)),t.2⟩,u.2,v.2⟩) v.1 (wrap64 (i + 1))) else none) else some (n,xs)
def cK.f:Nat→List S70→Int→Option (Int × List S70)
 |0,_,_=>none
 |k + 1,xs,n=>cK.l0 k xs n 0
end
mutual
def bN.l0:Nat→List (S70)→Int→Int→Option (Int)
 |0,_,_,_=>none
 |k + 1,x0,x1,x5=>if x5 < (x0.length:Int) then (if 0≤x5 then (if ((aG x0 x5).f0)=x1 then (if ((aG x0 x5).f1)=(wrap64 (x1 + 1)) then (if ((aG x0 x5).f2)=(wrap64 ((wrap64 (x1 + 1)) + 1)) then (if ((aG x0 x5).f3.f0)=(wrap64 ((wrap64 ((wrap64 (x1 + 1)) + 1)) + 1)) then (if ((aG x0 x5).f3.f1)=(wrap64 ((wrap64 ((wrap64 ((wrap64 (x1 + 1)) + 1)) + 1)) + 1)) then ((bD.f k ((aG x0 x5).f3.f2) (wrap64 ((wrap64 ((wrap64 ((wrap64 ((wrap64 (x1 + 1)) + 1)) + 1)) + 1)) + 1))).bind fun t307=>(if t307 < 0 then (some (-1)) else ((bN.f k ((aG x0 x5).f4) t307).bind fun t309=>(if t309 < 0 then (some (-1)) else ((bN.f k ((aG x0 x5).f5) t309).bind fun t311=>(if t311 < 0 then (some (-1)) else (bN.l0 k x0 t311 (wrap64 (x5 + 1))))))))) else (some (-1))) else (some (-1))) else (some (-1))) else (some (-1))) else (some (-1))) else (none)) else (some x1)
def bN.f:Nat→List (S70)→Int→Option (Int)
 |0,_,_=>none
 |k + 1,l0,a1=>bN.l0 k l0 a1 0
end
def GY.f (k:Nat) (l:List S66):Option Bool:=(bP.f k l 1048576).bind fun left=>if left < 0 then some true else
 (dL.f k l).bind fun x=>(BR.f k x).bind fun w=>(BJ.f k x).bind fun g=>
 (aZ.f k g.1 w.1).bind fun e1=>if e1=false then none else if g.2≠w.2 then none else
 (aZ.f k x x).bind fun e2=>if e2=false then none else
 (cK.f k x 1).bind fun m1=>if m1.1 < 0 then none else
 (cK.f k g.1 1).bind fun m=>(bN.f k m.2 1).bind fun q=>if q < 0 then none else if q≠m.1 then none else some true
def lY.f (l0:List Int) (a1:Int):Option (Int):=if (wrap64 (a1 - (l0.length:Int))) < 0 then (some (-1)) else (some (wrap64 (a1 - (l0.length:Int))))
def dB.l0:Nat→List (List (S66))→Int→Int→Option (Int)
 |0,_,_,_=>none
 |k + 1,x0,x1,x5=>if x5 < (x0.length:Int) then (if 0≤x5 then ((bP.f k (rM x0 x5) x1).bind fun t313=>(if t313 < 0 then (some (-1)) else (dB.l0 k x0 t313 (wrap64 (x5 + 1))))) else (none)) else (some x1)
def dB.f (k:Nat) (l0:List (List (S66))) (a1:Int):Option (Int):=if (wrap64 (a1 - (l0.length:Int))) < 0 then (some (-1)) else (dB.l0 k l0 (wrap64 (a1 - (l0.length:Int))) 0)
def gG.f (k:Nat) (l0_0:List Int) (l0_1:List (List (S66))) (a1:Int):Option (Int):=(lY.f l0_0 a1).bind fun t315=>(if t315 < 0 then (some (-1)) else ((dB.f k l0_1 t315).bind fun t316=>(if t316 < 0 then (some (-1)) else (some t316))))
def cO.l0:Nat→List Int→Int→Option (Bool)
 |0,_,_=>none
 |k + 1,x0,x3=>if x3 < (x0.length:Int) then (if 0≤x3 then ((fD.f (rd x0 x3) 1 4).bind fun t318=>(if t318=true then (cO.l0 k x0 (wrap64 (x3 + 1))) else (some false))) else (none)) else (some (decide ((x0.length:Int)≤3)))
def cO.f (k:Nat) (l0:List Int):Option (Bool):=cO.l0 k l0 0
mutual
def bA.l0:Nat→List (S70)→Int→Int→Option (Bool)
 |0,_,_,_=>none
 |k + 1,x0,x1,x5=>if x5 < (x0.length:Int) then (if 0≤x5 then (if ((aG x0 x5).f0)=4 then (bA.j1 k x0 x1 x5 (decide (((aG x0 x5).f2)≥x1)) ((aG x0 x5).f0) ((aG x0 x5).f1) ((aG x0 x5).f2) ((aG x0 x5).f3.f0) ((aG x0 x5).f3.f1) ((aG x0 x5).f3.f2) ((aG x0 x5).f4) ((aG x0 x5).f5)) else (if ((aG x0 x5).f0)=5 then (bA.j1 k x0 x1 x5 (decide (((aG x0 x5).f2)≥x1)) ((aG x0 x5).f0) ((aG x0 x5).f1) ((aG x0 x5).f2) ((aG x0 x5).f3.f0) ((aG x0 x5).f3.f1) ((aG x0 x5).f3.f2) ((aG x0 x5).f4) ((aG x0 x5).f5)) else (bA.j1 k x0 x1 x5 false ((aG x0 x5).f0) ((aG x0 x5).f1) ((aG x0 x5).f2) ((aG x0 x5).f3.f0) ((aG x0 x5).f3.f1) ((aG x0 x5).f3.f2) ((aG x0 x5).f4) ((aG x0 x5).f5)))) else (none)) else (some true)
def bA.j1:Nat→List (S70)→Int→Int→Bool→Int→Int→Int→Int→Int→List (S28)→List (S70)→List (S70)→Option (Bool)
 |0,_,_,_,_,_,_,_,_,_,_,_,_=>none
 |k + 1,x0,x1,x5,x30,x321000,x321001,x321002,x321003,x321004,x321005,x321006,x321007=>if x30=true then (some false) else ((bA.f k x321006 x1).bind fun t321=>(if t321=true then ((bA.f k x321007 x1).bind fun t322=>(if t322=true then (bA.l0 k x0 x1 (wrap64 (x5 + 1))) else (some false))) else (some false)))
def bA.f:Nat→List (S70)→Int→Option (Bool)
 |0,_,_=>none
 |k + 1,l0,a1=>bA.l0 k l0 a1 0
end
mutual
def aQ.j0:Nat→Bool→List Int→List (List (S70))→Option (Bool)
 |0,_,_,_=>none
 |k + 1,x14,x324000,x324001=>if x14=true then (some false) else (aQ.l0 k 0 x324000 x324001)
def aQ.l0:Nat→Int→List Int→List (List (S70))→Option (Bool)
 |0,_,_,_=>none
 |k + 1,x3,x324000,x324001=>if x3 < (x324001.length:Int) then (if 0≤x3 then ((eO.f k (fU x324001 x3)).bind fun t327=>(if t327=true then ((bA.f k (fU x324001 x3) (x324000.length:Int)).bind fun t329=>(if t329=true then (aQ.l0 k (wrap64 (x3 + 1)) x324000 x324001) else (some false))) else (some false))) else (none)) else (some true)
end
def aQ.f (k:Nat) (l0_0:List Int) (l0_1:List (List (S70))):Option (Bool):=(cO.f k l0_0).bind fun t324=>(if t324=true then ((fD.f (l0_1.length:Int) 1 3).bind fun t325=>(aQ.j0 k (!t325) l0_0 l0_1)) else (aQ.j0 k true l0_0 l0_1))
def aY.l0:Nat→Int→List Int→List (List (S70))→List Int→List (List (S70))→Option (List Int × (List (List (S70))) × Bool)
 |0,_,_,_,_,_=>none
 |k + 1,x5,x331000,x331001,x343000,x343001=>if x5 < (x331001.length:Int) then (if 0≤x5 then ((aX.f k (fU x331001 x5)).bind fun t344=>(if x343001.length < 5864062014805 then (aY.l0 k (wrap64 (x5 + 1)) x331000 x331001 x343000 (x343001 ++ [t344])) else (none))) else (none)) else (some (x343000,x343001,true))
def aY.f (k:Nat) (l0_0:List Int) (l0_1:List (List (S70))):Option (List Int × (List (List (S70))) × Bool):=(aQ.f k l0_0 l0_1).bind fun t332=>(if t332=true then ((some (([]:List Int):List Int)).bind fun y333=>(if y333.length + l0_0.length < 17592186044416 then (aY.l0 k 0 l0_0 l0_1 (y333 ++ l0_0) (([]:List (List (S70))))) else (none))) else (some (([]:List Int),([]:List (List (S70))),false)))
def eB.l0:Nat→List Int→List Int→Int→Option (List Int)
 |0,_,_,_=>none
 |k + 1,x0,x3,x4=>if x4 < (x0.length:Int) then (if 0≤x4 then (if x4 < (x3.length:Int) then (eB.l0 k x0 (x3.set (x4:Int).toNat (rd x0 x4)) (wrap64 (x4 + 1))) else (none)) else (none)) else (some x3)
def eB.f (k:Nat) (l0:List Int):Option (List Int):=if 0≤(l0.length:Int) then (if ((l0.length:Int):Int).toNat≤35184372088832 then (eB.l0 k l0 (List.replicate ((l0.length:Int):Int).toNat 0) 0) else (none)) else (none)
def fK.l0:Nat→List (List (S66))→List (List (S70))→Int→Option ((List (List (S70))))
 |0,_,_,_=>none
 |k + 1,x0,x3,x4=>if x4 < (x0.length:Int) then (if 0≤x4 then ((dL.f k (rM x0 x4)).bind fun t359=>(if x4 < (x3.length:Int) then (fK.l0 k x0 (x3.set (x4:Int).toNat t359) (wrap64 (x4 + 1))) else (none))) else (none)) else (some x3)
def fK.f (k:Nat) (l0:List (List (S66))):Option ((List (List (S70)))):=if 0≤(l0.length:Int) then (if ((l0.length:Int):Int).toNat≤11728124029610 then (fK.l0 k l0 (List.replicate ((l0.length:Int):Int).toNat []) 0) else (none)) else (none)
def gY.f (k:Nat) (l0_0:List Int) (l0_1:List (List (S66))):Option (List Int × (List (List (S70)))):=(eB.f k l0_0).bind fun t366=>((fK.f k l0_1).bind fun t369=>(some (t366,t369)))
def bS.l0:Nat→List Int→List Int→Int→Int→Option (Bool)
 |0,_,_,_,_=>none
 |k + 1,x0,x5,x6,x7=>if x7 < x6 then (if 0≤x7 then (if x7 < (x5.length:Int) then (if (rd x5 x7) < 1 then (some false) else (if (rd x5 x7) > 4 then (some false) else (bS.l0 k x0 x5 x6 (wrap64 (x7 + 1))))) else (none)) else (none)) else (some (decide ((x0.length:Int)≤3)))
def bS.f (k:Nat) (l0:List Int):Option (Bool):=bS.l0 k l0 l0 (l0.length:Int) 0
mutual
def aW.j0:Nat→Bool→List Int→List (List (S70))→Option (Bool)
 |0,_,_,_=>none
 |k + 1,x20,x374000,x374001=>if x20=true then (some false) else (aW.l0 k x374001 (x374001.length:Int) 0 x374000 x374001)
def aW.l0:Nat→List (List (S70))→Int→Int→List Int→List (List (S70))→Option (Bool)
 |0,_,_,_,_,_=>none
 |k + 1,x22,x23,x24,x374000,x374001=>if x24 < x23 then (if 0≤x24 then (if x24 < (x22.length:Int) then ((eZ.f k (fU x22 x24) (x374000.length:Int)).bind fun t376=>(if t376=true then (aW.l0 k x22 x23 (wrap64 (x24 + 1)) x374000 x374001) else (some false))) else (none)) else (none)) else (some true)
end
def aW.f (k:Nat) (l0_0:List Int) (l0_1:List (List (S70))):Option (Bool):=(bS.f k l0_0).bind fun t374=>(if t374=true then (if (l0_1.length:Int) < 1 then (aW.j0 k true l0_0 l0_1) else (aW.j0 k (decide ((l0_1.length:Int) > 3)) l0_0 l0_1)) else (aW.j0 k true l0_0 l0_1))
def gD.f (l0:List Int):Option (List Int):=(some (([]:List Int):List Int)).bind fun y377=>(if y377.length + l0.length < 17592186044416 then (some (y377 ++ l0)) else (none))
def aV.l0:Nat→List (List (S70))→Int→Int→List Int→List (List (S70))→Option (List Int × (List (List (S70))) × Bool)
 |0,_,_,_,_,_=>none
 |k + 1,x16,x17,x18,x390000,x390001=>if x18 < x17 then (if 0≤x18 then (if x18 < (x16.length:Int) then ((aM.f k (fU x16 x18)).bind fun t391=>(if x390001.length < 5864062014805 then (aV.l0 k x16 x17 (wrap64 (x18 + 1)) x390000 (x390001 ++ [t391])) else (none))) else (none)) else (none)) else (some (x390000,x390001,true))
def aV.f (k:Nat) (l0_0:List Int) (l0_1:List (List (S70))):Option (List Int × (List (List (S70))) × Bool):=(aW.f k l0_0 l0_1).bind fun t385=>(if t385=true then ((gD.f l0_0).bind fun t386=>(aV.l0 k l0_1 (l0_1.length:Int) 0 t386 ([]:List (List (S70))))) else (some (([]:List Int),([]:List (List (S70))),false)))
def dV.l0:Nat→List Int→List Int→Int→Option (Bool)
 |0,_,_,_=>none
 |k + 1,x0,x1,x5=>if x5 < (x0.length:Int) then (if 0≤x5 then (if x5 < (x1.length:Int) then (if (rd x0 x5)=(rd x1 x5) then (dV.l0 k x0 x1 (wrap64 (x5 + 1))) else (some false)) else (none)) else (none)) else (some true)
def dV.f (k:Nat) (l0:List Int) (l1:List Int):Option (Bool):=if (l0.length:Int)=(l1.length:Int) then (dV.l0 k l0 l1 0) else (some false)
def bL.l0:Nat→List (List (S70))→List (List (S70))→Int→Option (Bool)
 |0,_,_,_=>none
 |k + 1,x0,x1,x5=>if x5 < (x0.length:Int) then (if 0≤x5 then (if x5 < (x1.length:Int) then ((aZ.f k (fU x0 x5) (fU x1 x5)).bind fun t401=>(if t401=true then (bL.l0 k x0 x1 (wrap64 (x5 + 1))) else (some false))) else (none)) else (none)) else (some true)
def bL.f (k:Nat) (l0:List (List (S70))) (l1:List (List (S70))):Option (Bool):=if (l0.length:Int)=(l1.length:Int) then (bL.l0 k l0 l1 0) else (some false)
def eP.f (k:Nat) (l0_0:List Int) (l0_1:List (List (S70))) (l1_0:List Int) (l1_1:List (List (S70))):Option (Bool):=(dV.f k l0_0 l1_0).bind fun t404=>(if t404=true then ((bL.f k l0_1 l1_1).bind fun t405=>(if t405=true then (some true) else (some false))) else (some false))
def dI.l0:Nat→List Int→Int→Int→Option (Int × List Int)
 |0,_,_,_=>none
 |k + 1,x0,x1,x5=>if x5 < (x0.length:Int) then (if 0≤x5 then (dI.l0 k (x0.set (x5:Int).toNat x1) (wrap64 (x1 + 1)) (wrap64 (x5 + 1))) else (none)) else (some (x1,x0))
def dI.f (k:Nat) (l0:List Int) (a1:Int):Option (Int × List Int):=dI.l0 k l0 a1 0
def fA.l0:Nat→List (List S70)→Int→Int→Option (Int × List (List S70))
 |0,_,_,_=>none
 |k + 1,xs,n,i=>if i < (xs.length:Int) then (if 0≤i then ((cK.f k (fU xs i) n).bind fun t=>fA.l0 k (xs.set i.toNat t.2) t.1 (wrap64 (i + 1))) else none) else some (n,xs)
def fA.f (k:Nat) (xs:List (List S70)) (n:Int):Option (Int × List (List S70)):=fA.l0 k xs n 0
def gQ.f (k:Nat) (a:List Int) (b:List (List S70)) (n:Int):Option (Int × List Int × List (List S70)):=(dI.f k a n).bind fun t=>(fA.f k b t.1).bind fun u=>some (u.1,t.2,u.2)
def dH.l0:Nat→List Int→Int→Int→Option (Int)
 |0,_,_,_=>none
 |k + 1,x0,x1,x5=>if x5 < (x0.length:Int) then (if 0≤x5 then (if (rd x0 x5)=x1 then (dH.l0 k x0 (wrap64 (x1 + 1)) (wrap64 (x5 + 1))) else (some (-1))) else (none)) else (some x1)
def dH.f (k:Nat) (l0:List Int) (a1:Int):Option (Int):=dH.l0 k l0 a1 0
def bW.l0:Nat→List (List (S70))→Int→Int→Option (Int)
 |0,_,_,_=>none
 |k + 1,x0,x1,x5=>if x5 < (x0.length:Int) then (if 0≤x5 then ((bN.f k (fU x0 x5) x1).bind fun t409=>(if t409 < 0 then (some (-1)) else (bW.l0 k x0 t409 (wrap64 (x5 + 1))))) else (none)) else (some x1)
def bW.f (k:Nat) (l0:List (List (S70))) (a1:Int):Option (Int):=bW.l0 k l0 a1 0
def fP.f (k:Nat) (l0_0:List Int) (l0_1:List (List (S70))) (a1:Int):Option (Int):=(dH.f k l0_0 a1).bind fun t411=>(if t411 < 0 then (some (-1)) else ((bW.f k l0_1 t411).bind fun t412=>(if t412 < 0 then (some (-1)) else (some t412))))
def fI.f (k:Nat) (l0:List Int) (l1:List (List S66)):Option Bool:=(gG.f k l0 l1 1048576).bind fun left=>if left < 0 then some true else
 (gY.f k l0 l1).bind fun x=>(aY.f k x.1 x.2).bind fun w=>(aV.f k x.1 x.2).bind fun g=>
 (eP.f k g.1 g.2.1 w.1 w.2.1).bind fun e1=>if e1=false then none else if g.2.2≠w.2.2 then none else
 (eP.f k x.1 x.2 x.1 x.2).bind fun e2=>if e2=false then none else
 (gQ.f k x.1 x.2 1).bind fun m1=>if m1.1 < 0 then none else
 (gQ.f k g.1 g.2.1 1).bind fun m=>(fP.f k m.2.1 m.2.2 1).bind fun q=>if q < 0 then none else if q≠m.1 then none else some true
end Go.Proofs.Ythiegfpcfedbgaa.PA

namespace Go.Proofs.Ythiegfpcfedbgaa.Open
open Go.ChangeShapes Go.WideShapes Go.RowKit Go.Proofs.YthiegfpcfedbgaaW.PrintWords
section
variable {H:Type} {enc:TypeId × Value→H} {P:Program} {w:World} {base:Nat} {spare:Nat→Bool} {held:Bool}
def Opn {α:Type} (enc:TypeId × Value→H) (P:Program) (w:World) (base:Nat) (spare:Nat→Bool) (held:Bool) (F:Nat) (t:TypeId) (d:Kd α) (G:α→Prop):Prop:=
 ∀ f,f≤F→∀ cs x,DataW.trod enc P w base spare held f t cs=some x→∃ a,d.K w a cs∧G a
theorem Opn.le {α:Type} {F F':Nat} {t:TypeId} {d:Kd α} {G:α→Prop} (h:Opn enc P w base spare held F t d G) (hf:F'≤F):Opn enc P w base spare held F' t d G:=
 fun f hl=>h f (Nat.le_trans hl hf)
theorem Opn.int {F:Nat} {t:TypeId} {k:IntKind} (hu:P.underlying t=some (.int k)):Opn enc P w base spare held F t (Kd.int k) (fun n=>(Lit.int k n).wf=true):=by
 intro f _ cs x h
 cases f with
 |zero=>simp [DataW.trod] at h
 |succ n=>
  obtain ⟨m,rfl,hw⟩:∃ m,cs=[.int k m]∧(Lit.int k m).wf=true:=by
   unfold DataW.trod at h
   rw [hu] at h
   split at h <;> simp_all
  exact ⟨m,rfl,hw⟩
theorem collect {α:Type} {Q:Nat→α→Prop}:∀ m,(∀ i,i < m→∃ a,Q i a)→∃ l:List α,l.length=m∧∀ i p,l[i]?=some p→Q i p
 |0,_=>⟨[],rfl,fun i p h=>by simp at h⟩
 |m + 1,h=>by
  obtain ⟨l,hl,hq⟩:=collect m (fun i hi=>h i (by omega))
  obtain ⟨a,ha⟩:=h m (by omega)
  refine ⟨l ++ [a],by simp [hl],fun i p hp=>?_⟩
  rcases Nat.lt_or_ge i l.length with hlt|hge
  ·rw [List.getElem?_append_left hlt] at hp
   exact hq i p hp
  ·rw [List.getElem?_append_right hge] at hp
   have hi:i - l.length=0:=by
    rcases Nat.eq_zero_or_pos (i - l.length) with h0|h0
    ·exact h0
    ·rw [List.getElem?_eq_none (by simp;omega)] at hp
     cases hp
   rw [hi] at hp
   simp at hp
   subst hp
   have:i=m:=by omega
   subst this
   exact ha
theorem Opn.slice {α:Type} {F:Nat} {t e:TypeId} {d:Kd α} {G:α→Prop} (hu:P.underlying t=some (.slice e)) (hc:P.cellsOf e=d.sz) (h:∀ F',F' < F→Opn enc P w base spare held F' e d G):
  Opn enc P w base spare held F t (Kd.slice e d) (fun l=>l.length≤maxLen∧∀ x ∈ l,G x):=by
 intro f hfF cs x hx
 rcases DataW.trod_slice hu hx with ⟨rfl,_⟩|⟨a,len,cap,elems,rest,n,rfl,rfl,_,_,hl,hm,hlen,hel,_,_⟩
 ·exact ⟨[],⟨none,0,rfl,Nat.le_refl _,rfl,by simp,fun hp=>absurd hp (Nat.lt_irrefl 0)⟩,by simp,fun x hx=>by simp at hx⟩
 ·obtain ⟨l,hll,hq⟩:=collect (Q:=fun i p=>(∃ c,c.length=d.sz∧d.K w p c∧∀ j u,c[j]?=some u→w.cell? (a.add (i * d.sz + j))=some u)∧G p) len (fun i hi=>by
   have h1:=hel i hi
   have h2:elems[i]?=some (elems[i]'(by omega)):=List.getElem?_eq_getElem (by omega)
   rw [h2] at h1
   obtain ⟨c,hc1,hc2⟩:=Option.bind_eq_some_iff.1 h1
   obtain ⟨p,hp,hg⟩:=h n (by omega) n (Nat.le_refl _) c _ hc2
   obtain ⟨_,hcl,hat⟩:=World.cells?_some hc1
   refine ⟨p,⟨c,d.K_len hp,hp,fun j u hj=>?_⟩,hg⟩
   have hjl:j < c.length:=(List.getElem?_eq_some_iff.1 hj).1
   have h3:=hat j (by omega)
   rw [hj] at h3
   rw [← hc,← Go.Deep.add_add]
   exact h3)
  have hml:maxLen=9223372036854775807:=rfl
  refine ⟨l,⟨some a,cap,by rw [hll],by omega,rfl,by omega,fun _=>⟨a,rfl,fun j p hj=>(hq j p hj).1⟩⟩,by omega,fun x hx=>?_⟩
  obtain ⟨i,hi,rfl⟩:=List.getElem_of_mem hx
  exact (hq i _ (List.getElem?_eq_getElem hi)).2
theorem field {α:Type} {n o s j:Nat} {t:TypeId} {fs:Array Field} {f:Field} {cs:List Value} {xs:List (DataW H × List MemPlace)} {d:Kd α} {G:α→Prop}
  (hg:∀ (i:Nat) (f:Field),fs[i]?=some f→DataW.trod enc P w base spare held n f.type ((cs.drop f.offset).take (P.cellsOf f.type))=xs[i]?) (hxl:xs.length=fs.size)
  (hj:fs[j]?=some f) (ho:f.offset=o) (hs:P.cellsOf f.type=s) (ht:f.type=t) (h:Opn enc P w base spare held n t d G):∃ a,d.K w a ((cs.drop o).take s)∧G a:=by
 have h1:=hg j f hj
 have hjl:j < fs.size:=(Array.getElem?_eq_some_iff.1 hj).1
 rw [List.getElem?_eq_getElem (by omega),ho,hs,ht] at h1
 exact h n (Nat.le_refl _) _ _ h1
theorem kD {o s o':Nat} {cs c0:List Value} (h:(cs.drop o).take s=c0) (ho:o + s=o'):cs.drop o=c0 ++ cs.drop o':=by
 rw [← h,← ho,← List.drop_drop,List.take_append_drop]
theorem xO {o:Nat} {cs:List Value} (h:cs.length=o):cs.drop o=[]:=by rw [List.drop_eq_nil_iff];omega
end
end Go.Proofs.Ythiegfpcfedbgaa.Open

namespace Go.Proofs.Ythiegfpcfedbgaa.PA
open Go.RowKit Go.Proofs.YthiegfpcfedbgaaW.PrintWords Go.Proofs.Ythiegfpcfedbgaa.Open
set_option linter.unusedVariables false
inductive LY:S24→Prop
 |mk (x:S24) (h0:(Lit.int .i64 x.f0).wf=true) (h1:(Lit.int .i64 x.f1).wf=true) (h2:x.f2.length≤maxLen) (g2:∀ y ∈ x.f2,LY y):LY x
theorem aCj {H:Type} {enc:TypeId × Value→H} {w:World} {base:Nat} {spare:Nat→Bool} {held:Bool} (F:Nat):Opn enc Try.prog w base spare held F 24 k24 LY:=by
 induction F using Nat.strongRecOn with
 | _ F ih=>
 intro f hfF cs x h
 obtain ⟨xs,n,rfl,_,hcs,hxl,hg⟩:=DataW.trod_struct Try.underlying24 h
 replace hcs:cs.length=3:=hcs.trans (by kernel_rfl)
 obtain ⟨a0,K0,G0⟩:=field (j:=0) (o:=0) (s:=1) (t:=3) hg hxl rfl rfl (by kernel_rfl) rfl (Opn.int Try.underlying3)
 have E0:(cs.drop 0).take 1=[.int .i64 a0]:=K0
 obtain ⟨a1,K1,G1⟩:=field (j:=1) (o:=1) (s:=1) (t:=3) hg hxl rfl rfl (by kernel_rfl) rfl (Opn.int Try.underlying3)
 have E1:(cs.drop 1).take 1=[.int .i64 a1]:=K1
 obtain ⟨a2,K2,G2⟩:=field (j:=2) (o:=2) (s:=1) (t:=22) hg hxl rfl rfl (by kernel_rfl) rfl (Opn.slice Try.underlying22 (by kernel_rfl) (fun F' hF'=>(ih F' (by omega))))
 obtain ⟨A2,c2,E2,L2,C2⟩:=K2
 have e:cs=[.int .i64 a0, .int .i64 a1, .slice A2 a2.length c2]:=by
  rw [show cs=cs.drop 0 from rfl,(kD (o':=1) E0 rfl),(kD (o':=2) E1 rfl),(kD (o':=3) E2 rfl),xO hcs]
  rfl
 subst e
 exact ⟨⟨a0,a1,a2⟩,TB w ⟨a0,a1,a2⟩ L2 C2,LY.mk _ G0 G1 G2.1 G2.2⟩
inductive yL:S66→Prop
 |mk (x:S66) (h0:(Lit.int .i64 x.f0).wf=true) (h1:(Lit.int .i64 x.f1).wf=true) (h2:(Lit.int .i64 x.f2).wf=true) (h3:LY x.f3) (h4:x.f4.length≤maxLen) (g4:∀ y ∈ x.f4,yL y) (h5:x.f5.length≤maxLen) (g5:∀ y ∈ x.f5,yL y):yL x
theorem aCk {H:Type} {enc:TypeId × Value→H} {w:World} {base:Nat} {spare:Nat→Bool} {held:Bool} (F:Nat):Opn enc Try.prog w base spare held F 66 k66 yL:=by
 induction F using Nat.strongRecOn with
 | _ F ih=>
 intro f hfF cs x h
 obtain ⟨xs,n,rfl,_,hcs,hxl,hg⟩:=DataW.trod_struct Try.underlying66 h
 replace hcs:cs.length=8:=hcs.trans (by kernel_rfl)
 obtain ⟨a0,K0,G0⟩:=field (j:=0) (o:=0) (s:=1) (t:=3) hg hxl rfl rfl (by kernel_rfl) rfl (Opn.int Try.underlying3)
 have E0:(cs.drop 0).take 1=[.int .i64 a0]:=K0
 obtain ⟨a1,K1,G1⟩:=field (j:=1) (o:=1) (s:=1) (t:=3) hg hxl rfl rfl (by kernel_rfl) rfl (Opn.int Try.underlying3)
 have E1:(cs.drop 1).take 1=[.int .i64 a1]:=K1
 obtain ⟨a2,K2,G2⟩:=field (j:=2) (o:=2) (s:=1) (t:=3) hg hxl rfl rfl (by kernel_rfl) rfl (Opn.int Try.underlying3)
 have E2:(cs.drop 2).take 1=[.int .i64 a2]:=K2
 obtain ⟨a3,K3,G3⟩:=field (j:=3) (o:=3) (s:=3) (t:=24) hg hxl rfl rfl (by kernel_rfl) rfl (aCj _)
 obtain ⟨j3,j4,E3,L3_2,C3_2⟩:=BM K3
 obtain ⟨a4,K4,G4⟩:=field (j:=4) (o:=6) (s:=1) (t:=35) hg hxl rfl rfl (by kernel_rfl) rfl (Opn.slice Try.underlying35 (by kernel_rfl) (fun F' hF'=>(ih F' (by omega))))
 obtain ⟨A4,c4,E4,L4,C4⟩:=K4
 obtain ⟨a5,K5,G5⟩:=field (j:=5) (o:=7) (s:=1) (t:=35) hg hxl rfl rfl (by kernel_rfl) rfl (Opn.slice Try.underlying35 (by kernel_rfl) (fun F' hF'=>(ih F' (by omega))))
 obtain ⟨A5,c5,E5,L5,C5⟩:=K5
 have e:cs=[.int .i64 a0, .int .i64 a1, .int .i64 a2, .int .i64 a3.f0, .int .i64 a3.f1, .slice j3 a3.f2.length j4, .slice A4 a4.length c4, .slice A5 a5.length c5]:=by
  rw [show cs=cs.drop 0 from rfl,(kD (o':=1) E0 rfl),(kD (o':=2) E1 rfl),(kD (o':=3) E2 rfl),(kD (o':=6) E3 rfl),(kD (o':=7) E4 rfl),(kD (o':=8) E5 rfl),xO hcs]
  rfl
 subst e
 exact ⟨⟨a0,a1,a2,a3,a4,a5⟩,aBo w ⟨a0,a1,a2,a3,a4,a5⟩ L3_2 C3_2 L4 C4 L5 C5,yL.mk _ G0 G1 G2 G3 G4.1 G4.2 G5.1 G5.2⟩
def fI.Pure:Prop:=∀ (l0_0:List Int) (l0_1:List (List (S66))),(l0_0.length≤maxLen∧∀ y ∈ l0_0,(Lit.int .i64 y).wf=true)→(l0_1.length≤maxLen∧∀ y ∈ l0_1,(y.length≤maxLen∧∀ yy ∈ y,yL yy))→∃ k,fI.f k l0_0 l0_1=some true
open Go.Proofs.YthiegfpcfedbgaaW.PrintLast Go.Proofs.YthiegfpcfedbgaaW.PrintMore
attribute [local go_sem] max2_int min2_int max_two min_two max_three min_three max_four min_four
set_option linter.unusedVariables false
set_option linter.unusedSimpArgs false
theorem lI.calls (a0:Bool) (r:Int) (w:World) (h:lI.f a0=some r):
  Calls Try.prog 78 #[.bool a0] w fun e w'=>e= .returned (.int .i64 r)∧fV w w':=by
 have H:(if a0=true then (some 1) else (some 0))=some r:=h
 clear h
 by_cases c2:a0=true
 ·subst c2
  rw [if_pos rfl] at H
  obtain rfl:=Option.some.inj H
  go_enter Try.func78,Try.ntmps78
  go_wp2
  go_ret
  exact ⟨sd_,fF⟩
 replace c2:=Bool.eq_false_iff.mpr c2
 subst c2
 rw [if_neg (show ¬ (false=true) by decide)] at H
 obtain rfl:=Option.some.inj H
 go_enter Try.func78,Try.ntmps78
 go_wp2
 go_ret
 exact ⟨sd_,fF⟩
theorem iK.calls (a0:Int) (r:Int) (w:World) (h:iK.f a0=some r):
  Calls Try.prog 79 #[.int .i64 a0] w fun e w'=>e= .returned (.int .i64 r)∧fV w w':=by
 have H:(some (wrap64 (wrap32 (a0))))=some r:=h
 clear h
 obtain rfl:=Option.some.inj H
 go_enter Try.func79,Try.ntmps79
 go_wp2
 go_ret
 exact ⟨sd_,fF⟩
theorem iL.calls (a0:Int) (a1:Int) (a2:Int) (r:Int) (w:World) (h:iL.f a0 a1 a2=some r):
  Calls Try.prog 62 #[.int .i64 a0, .int .i64 a1, .int .i64 a2] w fun e w'=>e= .returned (.int .i64 r)∧fV w w':=by
 unfold iL.f at h
 have H:=h
 clear h
 by_cases c4:a0=1
 ·rw [if_pos c4] at H
  have jt:(a0 == 1)=true:=beq_iff_eq.mpr c4
  have ju:(a0 != 1)=false:=bne_eq_false_iff_eq.mpr c4
  clear c4
  obtain rfl:=Option.some.inj H
  go_enter Try.func62,Try.ntmps62
  go_wp2
  go_ret
  exact ⟨sd_,fF⟩
 rw [if_neg c4] at H
 have jt:(a0 == 1)=false:=beq_eq_false_iff_ne.mpr c4
 have ju:(a0 != 1)=true:=bne_iff_ne.mpr c4
 by_cases c5:a0=2
 ·rw [if_pos c5] at H
  have jv:(a0 == 2)=true:=beq_iff_eq.mpr c5
  have jw:(a0 != 2)=false:=bne_eq_false_iff_eq.mpr c5
  clear c5
  obtain rfl:=Option.some.inj H
  go_enter Try.func62,Try.ntmps62
  go_wp2
  go_ret
  exact ⟨sd_,fF⟩
 rw [if_neg c5] at H
 have jv:(a0 == 2)=false:=beq_eq_false_iff_ne.mpr c5
 have jw:(a0 != 2)=true:=bne_iff_ne.mpr c5
 by_cases c6:a0=3
 ·rw [if_pos c6] at H
  have jx:(a0 == 3)=true:=beq_iff_eq.mpr c6
  have jy:(a0 != 3)=false:=bne_eq_false_iff_eq.mpr c6
  clear c6
  obtain rfl:=Option.some.inj H
  go_enter Try.func62,Try.ntmps62
  go_wp2
  go_ret
  exact ⟨sd_,fF⟩
 rw [if_neg c6] at H
 have jx:(a0 == 3)=false:=beq_eq_false_iff_ne.mpr c6
 have jy:(a0 != 3)=true:=bne_iff_ne.mpr c6
 by_cases c7:a0=4
 ·rw [if_pos c7] at H
  have jz:(a0 == 4)=true:=beq_iff_eq.mpr c7
  have jA:(a0 != 4)=false:=bne_eq_false_iff_eq.mpr c7
  clear c7
  obtain ⟨jN,A8,H⟩:=bsa H
  (try dsimp only at H)
  obtain rfl:=Option.some.inj H
  go_enter Try.func62,Try.ntmps62
  go_wp2_with (first|((with_reducible refine aD (f:=78) rfl ?_);refine aU (some 28) rfl rfl Try.func78 (by kernel_rfl) rfl #[.bool (a1 == a2)] rfl dK ?_;(with_reducible refine (lI.calls (a1 == a2) jN _ A8.out).mono ?_);rintro e w' ⟨rfl,⟨nd,rfl⟩⟩;refine ⟨_,rfl,?_⟩))
  go_ret
  exact ⟨sd_,fF⟩
 rw [if_neg c7] at H
 have jz:(a0 == 4)=false:=beq_eq_false_iff_ne.mpr c7
 have jA:(a0 != 4)=true:=bne_iff_ne.mpr c7
 by_cases c9:a0=5
 ·rw [if_pos c9] at H
  have jB:(a0 == 5)=true:=beq_iff_eq.mpr c9
  have jC:(a0 != 5)=false:=bne_eq_false_iff_eq.mpr c9
  clear c9
  obtain ⟨jO,jE,H⟩:=bsm H
  (try dsimp only at H)
  have jP:=am jE
  clear jE
  obtain rfl:=Option.some.inj H
  go_enter Try.func62,Try.ntmps62
  go_wp2_with (first|((with_reducible refine aD (f:=78) rfl ?_);refine aU (some 34) rfl rfl Try.func78 (by kernel_rfl) rfl #[.bool (decide (a1 < a2))] rfl dK ?_;(with_reducible refine (lI.calls (decide (a1 < a2)) jO _ jP.out).mono ?_);rintro e w' ⟨rfl,⟨nd,rfl⟩⟩;refine ⟨_,rfl,?_⟩))
  go_ret
  exact ⟨sd_,fF⟩
 rw [if_neg c9] at H
 have jB:(a0 == 5)=false:=beq_eq_false_iff_ne.mpr c9
 have jC:(a0 != 5)=true:=bne_iff_ne.mpr c9
 by_cases j3:a0=6
 ·rw [if_pos j3] at H
  have jb:(a0 == 6)=true:=beq_iff_eq.mpr j3
  have jc:(a0 != 6)=false:=bne_eq_false_iff_eq.mpr j3
  clear j3
  by_cases jd:0≤(Go.bits .and .i64 a2 31)
  ·rw [if_pos jd] at H
   have jF:=eq_true jd
   have jG:decide (0≤(Go.bits .and .i64 a2 31))=true:=decide_eq_true jd
   clear jd
   obtain ⟨ji13,hji13⟩:∃ j_:Int,(shl .i64 a1 (Go.bits .and .i64 a2 31))=j_:=⟨_,rfl⟩
   replace H:((iK.f (ji13)).bind fun jD=>(some jD))=some r:=by first|(rw [hji13] at H;exact H)|(simp only [hji13] at H ⊢;exact H)
   have hji13_:(IntKind.i64.wrap (a1 * 2 ^ min (Go.bits .and .i64 a2 31).toNat 64))=ji13:=hji13
   have hji13z:(Go.bits .and .i64 a2 31)≤64→(IntKind.i64.wrap (a1 * 2 ^ (Go.bits .and .i64 a2 31).toNat))=ji13:=EJ hji13
   have hji13y:(wrap64 (a1 * 2 ^ min (Go.bits .and .i64 a2 31).toNat 64))=ji13:=(gT _).symm.trans hji13_
   have hji13x:(Go.bits .and .i64 a2 31)≤64→(wrap64 (a1 * 2 ^ (Go.bits .and .i64 a2 31).toNat))=ji13:=fun h_=>(gT _).symm.trans (hji13z h_)
   obtain ⟨jD,jH,H⟩:=bsm H
   (try dsimp only at H)
   have jQ:=am jH
   clear jH
   obtain rfl:=Option.some.inj H
   go_enter Try.func62,Try.ntmps62
   go_wp2_with (first|((with_reducible refine aD (f:=79) rfl ?_);refine aU (some 41) rfl rfl Try.func79 (by kernel_rfl) rfl #[.int .i64 ji13] rfl (by (try simp only [List.map_toArray,List.map_cons,List.map_nil]);first|done|(simp only [hji13];rfl)|rfl|(simp only [List.length_drop,List.length_take];rfl)) ?_;(with_reducible refine (iK.calls ji13 jD _ jQ.out).mono ?_);rintro e w' ⟨rfl,⟨nd,rfl⟩⟩;refine ⟨_,rfl,?_⟩))
   go_ret
   exact ⟨by first|rfl|(simp;done)|(simp only [← hji13] <;> (first|rfl|simp))|(simp [*];done),fF⟩
  rw [if_neg jd] at H
  exact absurd H (by simp)
 rw [if_neg j3] at H
 have jb:(a0 == 6)=false:=beq_eq_false_iff_ne.mpr j3
 have jc:(a0 != 6)=true:=bne_iff_ne.mpr j3
 by_cases j4:a0=7
 ·rw [if_pos j4] at H
  have je:(a0 == 7)=true:=beq_iff_eq.mpr j4
  have jf:(a0 != 7)=false:=bne_eq_false_iff_eq.mpr j4
  clear j4
  by_cases jg:0≤(Go.bits .and .i64 a2 31)
  ·rw [if_pos jg] at H
   have jI:=eq_true jg
   have jJ:decide (0≤(Go.bits .and .i64 a2 31))=true:=decide_eq_true jg
   clear jg
   obtain ⟨ji17,hji17⟩:∃ j_:Int,(shr .i64 a1 (Go.bits .and .i64 a2 31))=j_:=⟨_,rfl⟩
   replace H:(some ji17)=some r:=by first|(rw [hji17] at H;exact H)|(simp only [hji17] at H ⊢;exact H)
   have hji17_:(a1 / 2 ^ min (Go.bits .and .i64 a2 31).toNat 64)=ji17:=hji17
   have hji17z:(Go.bits .and .i64 a2 31)≤64→(a1 / 2 ^ (Go.bits .and .i64 a2 31).toNat)=ji17:=EK hji17
   obtain rfl:=Option.some.inj H
   go_enter Try.func62,Try.ntmps62
   go_wp2
   go_ret
   exact ⟨by first|rfl|(simp;done)|(simp only [← hji17] <;> (first|rfl|simp))|(simp [*];done),fF⟩
  rw [if_neg jg] at H
  exact absurd H (by simp)
 rw [if_neg j4] at H
 have je:(a0 == 7)=false:=beq_eq_false_iff_ne.mpr j4
 have jf:(a0 != 7)=true:=bne_iff_ne.mpr j4
 by_cases j5:a0=8
 ·rw [if_pos j5] at H
  have jh:(a0 == 8)=true:=beq_iff_eq.mpr j5
  have ji:(a0 != 8)=false:=bne_eq_false_iff_eq.mpr j5
  clear j5
  obtain ⟨jR,jS,H⟩:=bsa H
  (try dsimp only at H)
  obtain rfl:=Option.some.inj H
  go_enter Try.func62,Try.ntmps62
  go_wp2_with (first|((with_reducible refine aD (f:=79) rfl ?_);refine aU (some 53) rfl rfl Try.func79 (by kernel_rfl) rfl #[.int .i64 (wrap64 (a1 + a2))] rfl dK ?_;(with_reducible refine (iK.calls (wrap64 (a1 + a2)) jR _ jS.out).mono ?_);rintro e w' ⟨rfl,⟨nd,rfl⟩⟩;refine ⟨_,rfl,?_⟩))
  go_ret
  exact ⟨sd_,fF⟩
 rw [if_neg j5] at H
 have jh:(a0 == 8)=false:=beq_eq_false_iff_ne.mpr j5
 have ji:(a0 != 8)=true:=bne_iff_ne.mpr j5
 by_cases j6:a0=9
 ·rw [if_pos j6] at H
  have jj:(a0 == 9)=true:=beq_iff_eq.mpr j6
  have jk:(a0 != 9)=false:=bne_eq_false_iff_eq.mpr j6
  clear j6
  obtain ⟨jT,jK,H⟩:=bsm H
  (try dsimp only at H)
  have jU:=am jK
  clear jK
  obtain rfl:=Option.some.inj H
  go_enter Try.func62,Try.ntmps62
  go_wp2_with (first|((with_reducible refine aD (f:=79) rfl ?_);refine aU (some 59) rfl rfl Try.func79 (by kernel_rfl) rfl #[.int .i64 (wrap64 (a1 - a2))] rfl dK ?_;(with_reducible refine (iK.calls (wrap64 (a1 - a2)) jT _ jU.out).mono ?_);rintro e w' ⟨rfl,⟨nd,rfl⟩⟩;refine ⟨_,rfl,?_⟩))
  go_ret
  exact ⟨sd_,fF⟩
 rw [if_neg j6] at H
 have jj:(a0 == 9)=false:=beq_eq_false_iff_ne.mpr j6
 have jk:(a0 != 9)=true:=bne_iff_ne.mpr j6
 by_cases j7:a0=10
 ·rw [if_pos j7] at H
  have jl:(a0 == 10)=true:=beq_iff_eq.mpr j7
  have jm:(a0 != 10)=false:=bne_eq_false_iff_eq.mpr j7
  clear j7
  obtain ⟨jV,jL,H⟩:=bsm H
  (try dsimp only at H)
  have jW:=am jL
  clear jL
  obtain rfl:=Option.some.inj H
  go_enter Try.func62,Try.ntmps62
  go_wp2_with (first|((with_reducible refine aD (f:=79) rfl ?_);refine aU (some 65) rfl rfl Try.func79 (by kernel_rfl) rfl #[.int .i64 (wrap64 (a1 * a2))] rfl dK ?_;(with_reducible refine (iK.calls (wrap64 (a1 * a2)) jV _ jW.out).mono ?_);rintro e w' ⟨rfl,⟨nd,rfl⟩⟩;refine ⟨_,rfl,?_⟩))
  go_ret
  exact ⟨sd_,fF⟩
 rw [if_neg j7] at H
 have jl:(a0 == 10)=false:=beq_eq_false_iff_ne.mpr j7
 have jm:(a0 != 10)=true:=bne_iff_ne.mpr j7
 by_cases j8:a0=11
 ·rw [if_pos j8] at H
  have jn:(a0 == 11)=true:=beq_iff_eq.mpr j8
  have jo:(a0 != 11)=false:=bne_eq_false_iff_eq.mpr j8
  clear j8
  by_cases j9:a2=0
  ·rw [if_pos j9] at H
   have jp:(a2 == 0)=true:=beq_iff_eq.mpr j9
   have jq:(a2 != 0)=false:=bne_eq_false_iff_eq.mpr j9
   clear j9
   obtain rfl:=Option.some.inj H
   go_enter Try.func62,Try.ntmps62
   go_wp2
   go_ret
   exact ⟨sd_,fF⟩
  rw [if_neg j9] at H
  have jp:(a2 == 0)=false:=beq_eq_false_iff_ne.mpr j9
  have jq:(a2 != 0)=true:=bne_iff_ne.mpr j9
  obtain ⟨jX,jM,H⟩:=bsm H
  (try dsimp only at H)
  have jY:=am jM
  clear jM
  obtain rfl:=Option.some.inj H
  go_enter Try.func62,Try.ntmps62
  go_wp2_with (first|((with_reducible refine aD (f:=79) rfl ?_);refine aU (some 73) rfl rfl Try.func79 (by kernel_rfl) rfl #[.int .i64 (wrap64 (Int.tdiv a1 a2))] rfl dK ?_;(with_reducible refine (iK.calls (wrap64 (Int.tdiv a1 a2)) jX _ jY.out).mono ?_);rintro e w' ⟨rfl,⟨nd,rfl⟩⟩;refine ⟨_,rfl,?_⟩))
  go_ret
  exact ⟨sd_,fF⟩
 rw [if_neg j8] at H
 have jn:(a0 == 11)=false:=beq_eq_false_iff_ne.mpr j8
 have jo:(a0 != 11)=true:=bne_iff_ne.mpr j8
 by_cases ja:a2=0
 ·rw [if_pos ja] at H
  have jr:(a2 == 0)=true:=beq_iff_eq.mpr ja
  have js:(a2 != 0)=false:=bne_eq_false_iff_eq.mpr ja
  clear ja
  obtain rfl:=Option.some.inj H
  go_enter Try.func62,Try.ntmps62
  go_wp2
  go_ret
  exact ⟨sd_,fF⟩
 rw [if_neg ja] at H
 have jr:(a2 == 0)=false:=beq_eq_false_iff_ne.mpr ja
 have js:(a2 != 0)=true:=bne_iff_ne.mpr ja
 obtain rfl:=Option.some.inj H
 go_enter Try.func62,Try.ntmps62
 go_wp2
 go_ret
 exact ⟨sd_,fF⟩
theorem bI.mono_l:∀ k,(∀ y0 y1 y2,LeO (bI.f k y0 y1 y2) (bI.f (k + 1) y0 y1 y2))∧(∀ y0 y1 y2 y3 y4 y5 y6 y7 y8 y9,LeO (bI.j0 k y0 y1 y2 y3 y4 y5 y6 y7 y8 y9) (bI.j0 (k + 1) y0 y1 y2 y3 y4 y5 y6 y7 y8 y9))
 |0=>⟨fun _ _ _ r h=>by simp [bI.f] at h,fun _ _ _ _ _ _ _ _ _ _ r h=>by simp [bI.j0] at h⟩
 |k + 1=>by
  obtain ⟨ih0,ih1⟩:=bI.mono_l k
  refine ⟨?_,?_⟩
  ·intro y0 y1 y2
   unfold bI.f
   exact mo_
  ·intro y0 y1 y2 y3 y4 y5 y6 y7 y8 y9
   unfold bI.j0
   exact mo_
theorem bI.mono:∀ a0 a1 a2 k,LeO (bI.f k a0 a1 a2) (bI.f (k + 1) a0 a1 a2):=by
 intro a0 a1 a2 k
 obtain ⟨ih0,ih1⟩:=bI.mono_l k
 exact ih0 a0 a1 a2
def RB (d:Kd S28):Kd S28:=Kd.iso (Kd.pair (Kd.int .i64) (Kd.pair (Kd.int .i64) (xU 28 d))) (fun x:S28=>(x.f0,x.f1,x.f2))
theorem monoS28:Kd.mR RB:=Kd.mono_iso _ (Kd.mono_pair (Kd.mono_const _) (Kd.mono_pair (Kd.mono_const _) (mono_sliceS 28 Kd.mono_id)))
theorem aBv:Kd.Sub RB [28]:=Kd.uR _ (Kd.iI (Kd.sub_const _ (by decide)) (Kd.iI (Kd.sub_const _ (by decide)) (vY 28 (by decide) Kd.sH)))
theorem aAy:∀ n,(Kd.upto RB 3 [28] n).sz=3:=Kd.uS (fun _=>rfl)
def mF:Kd S28:=Kd.fix RB 3 [28] aAy (Kd.wC aBv)
theorem rZ {w:World} {base:Nat} {ok:Nat→Prop} {x:S28} {cs:List Value} (h:mF.M w base ok x cs):∃ v2,cs=[.int .i64 x.f0, .int .i64 x.f1,v2]∧Kd.S mF 28 w base ok v2 x.f2:=by
 obtain ⟨n,h⟩:=h
 cases n with
 |zero=>exact h.elim
 |succ n=>
  obtain ⟨_,_,rfl,rfl,⟨_,_,rfl,rfl,⟨v2,rfl,g2⟩⟩⟩:=h
  exact ⟨v2,rfl,SQ g2⟩
theorem kF (w:World) (base:Nat) (ok:Nat→Prop) (x:S28) {v2:Value} (g2:Kd.S mF 28 w base ok v2 x.f2):mF.M w base ok x [.int .i64 x.f0, .int .i64 x.f1,v2]:=by
 obtain ⟨n2,r2⟩:=vN monoS28 g2
 exact ⟨n2 + 1,⟨[.int .i64 x.f0],[.int .i64 x.f1,v2],rfl,rfl,⟨[.int .i64 x.f1],[v2],rfl,rfl,⟨v2,rfl,r2⟩⟩⟩⟩
theorem BN:∀ n {w base ok x cs},(Kd.upto RB 3 [28] n).M w base ok x cs→(Kd.upto F28 3 [28] n).M w base ok x cs
 |0,_,_,_,_,_,h=>h.elim
 |n + 1,w,base,ok,x,cs,h=>by
  obtain ⟨_,_,rfl,rfl,⟨_,_,rfl,rfl,⟨v2,rfl,g2⟩⟩⟩:=h
  exact ⟨_,_,rfl,rfl,⟨_,_,rfl,rfl,⟨v2,rfl,Kd.xZ (by rw [aAy n,aBx n]) (fun _ _ _ _ _ hp=>BN n hp) (Kd.S_R g2)⟩⟩⟩
theorem aBq {w:World} {base:Nat} {ok:Nat→Prop} {v:Value} {xs:List S28} (h:Kd.S mF 28 w base ok v xs):k28.R 28 w base ok v xs:=
 Kd.xZ (d:=mF) (d':=k28) rfl (fun w base ok x cs hp=>by obtain ⟨n,hp⟩:=hp;exact ⟨n,BN n hp⟩) (Kd.S_R h)
structure FXF (w W0:World) (x0 x1:Int) (x2:List S28) (y0 y1:Int) (y2:List S28) (A19:Option Addr) (c19:Nat) (A24:Option Addr) (c24:Nat) (g3 g4 hA:Nat) (b4 b9 b10 b11 b12 b13:Bool) (W:World):Prop where
 hB:Below W0.heap.size W0 W
 hA_:b4=true→hA≤W.heap.size
 h4:b4=true→Kd.S mF 28 W W0.heap.size (fun q=>q < hA∧(b10=true→q≠g3)∧(b11=true→q≠g4)) (.slice A19 x2.length c19) x2
 h9:b9=true→Kd.S mF 28 W W0.heap.size (fun q=>hA≤q∧(b10=true→q≠g3)∧(b11=true→q≠g4)) (.slice A24 y2.length c24) y2
 h10:b10=true→W0.heap.size≤g3∧W.heap[g3]?=some (.cells (cond b12 #[(.int .i64 x0),(.int .i64 x1),(.slice A19 x2.length c19)] #[(.int .i64 0),(.int .i64 0),(.slice none 0 0)]) 28 (0,0))
 h11:b11=true→W0.heap.size≤g4∧W.heap[g4]?=some (.cells (cond b13 #[(.int .i64 y0),(.int .i64 y1),(.slice A24 y2.length c24)] #[(.int .i64 0),(.int .i64 0),(.slice none 0 0)]) 28 (0,0))
 hne:b10=true→b11=true→g3≠g4
def aXF (w W0:World) (g1 g2:Nat) (a0 a1:Int) (ad:Addr) (c0:Nat) (l:List S28) (p0 p1:Int) (Ap:Option Addr) (cp:Nat) (p2:List S28) (q0 q1:Int) (Aq:Option Addr) (cq:Nat) (q2:List S28) (x0 x1:Int) (x2:List S28) (y0 y1:Int) (y2:List S28) (A19:Option Addr) (c19:Nat) (A24:Option Addr) (c24:Nat) (g3:Nat) (g4:Nat) (hA:Nat) (b0 b1 b2 b3 b4 b5 b6 b7 b8 b9 b10 b11 b12 b13:Bool):Act:=
 { tmps:=#[(.agg #[(.int .i64 a0),(.int .i64 a1),(.slice (some ad) l.length c0)]),(.pointer (some ⟨g1,0,none⟩)),(.pointer (some ⟨g2,0,none⟩)),cond b10 (.pointer (some ⟨g3,0,none⟩)) undef,cond b11 (.pointer (some ⟨g4,0,none⟩)) undef,undef,(.pointer (some ⟨g1,2,none⟩)),(.slice (some ad) l.length c0),(.int .i64 (l.length:Int)),(.bool false),undef,undef,undef,undef,undef,cond b0 (.pointer (some ⟨g1,2,none⟩)) undef,cond b1 (.slice (some ad) l.length c0) undef,cond b2 (.pointer (some ad)) undef,cond b3 (.agg #[(.int .i64 p0),(.int .i64 p1),(.slice Ap p2.length cp)]) undef,cond b4 (.agg #[(.int .i64 x0),(.int .i64 x1),(.slice A19 x2.length c19)]) undef,cond b5 (.pointer (some ⟨g1,2,none⟩)) undef,cond b6 (.slice (some ad) l.length c0) undef,cond b7 (.pointer (some ⟨ad.block,ad.off + 3,none⟩)) undef,cond b8 (.agg #[(.int .i64 q0),(.int .i64 q1),(.slice Aq q2.length cq)]) undef,cond b9 (.agg #[(.int .i64 y0),(.int .i64 y1),(.slice A24 y2.length c24)]) undef,undef,undef,undef,undef,undef,undef,undef,undef,undef,undef,undef,undef,undef,undef,undef,undef,undef,undef,undef,undef,undef,undef,undef,undef,undef,undef,undef,undef,undef],defers:=[] }
def LXF (w W0:World) (g1 g2:Nat) (a0 a1:Int) (ad:Addr) (c0:Nat) (l:List S28) (p0 p1:Int) (Ap:Option Addr) (cp:Nat) (p2:List S28) (q0 q1:Int) (Aq:Option Addr) (cq:Nat) (q2:List S28) (x0 x1:Int) (x2:List S28) (y0 y1:Int) (y2:List S28) (b0 b1 b2 b3 b4 b5 b6 b7 b8 b9 b10 b11 b12 b13:Bool) (a:Act) (W:World):Prop:=
 ∃ (A19:Option Addr) (c19:Nat) (A24:Option Addr) (c24:Nat) (g3:Nat) (g4:Nat) (hA:Nat),a=aXF w W0 g1 g2 a0 a1 ad c0 l p0 p1 Ap cp p2 q0 q1 Aq cq q2 x0 x1 x2 y0 y1 y2 A19 c19 A24 c24 g3 g4 hA b0 b1 b2 b3 b4 b5 b6 b7 b8 b9 b10 b11 b12 b13∧FXF w W0 x0 x1 x2 y0 y1 y2 A19 c19 A24 c24 g3 g4 hA b4 b9 b10 b11 b12 b13 W
theorem bI.tail {k:Nat} {a0 a1:Int} {l:List S28} {x0 x1:Int} {x2:List S28} {y0 y1:Int} {y2:List S28} {r1 r2:Int} {r3:List S28} (h:(if x0=0 then bI.j0 k (y0 == 0) a0 a1 l x0 x1 x2 y0 y1 y2 else bI.j0 k false a0 a1 l x0 x1 x2 y0 y1 y2)=some (r1,r2,r3)):
  (x0=0∧y0=0∧∃ n,iL.f a0 x1 y1=some n∧((0≤n∧n≤99999∧(0,n,([]:List S28))=(r1,r2,r3))∨(¬ (0≤n∧n≤99999)∧(a0,0,[(⟨x0,x1,x2⟩:S28),⟨y0,y1,y2⟩])=(r1,r2,r3))))∨(¬ (x0=0∧y0=0)∧(a0,0,[(⟨x0,x1,x2⟩:S28),⟨y0,y1,y2⟩])=(r1,r2,r3)):=by
 cases k with
 |zero=>revert h;split <;> simp [bI.j0]
 |succ k=>
  simp only [bI.j0] at h
  by_cases h0:x0=0
  ·rw [if_pos h0] at h
   by_cases h1:y0=0
   ·rw [if_pos (beq_iff_eq.mpr h1)] at h
    obtain ⟨n,hn,h⟩:=Option.bind_eq_some_iff.mp h
    refine .inl ⟨h0,h1,n,hn,?_⟩
    by_cases h2:n≥0
    ·rw [if_pos h2] at h
     by_cases h3:n≤99999
     ·rw [if_pos h3] at h
      exact .inl ⟨h2,h3,Option.some.inj h⟩
     rw [if_neg h3] at h
     exact .inr ⟨fun e=>h3 e.2,Option.some.inj h⟩
    rw [if_neg h2] at h
    exact .inr ⟨fun e=>h2 e.1,Option.some.inj h⟩
   rw [if_neg (fun e=>h1 (beq_iff_eq.mp e))] at h
   exact .inr ⟨fun e=>h1 e.2,Option.some.inj h⟩
  rw [if_neg h0,if_neg Bool.false_ne_true] at h
  exact .inr ⟨fun e=>h0 e.1,Option.some.inj h⟩
theorem iL.callsB (a b c r:Int) (w:World) (h:iL.f a b c=some r):Calls Try.prog 62 #[.int .i64 a, .int .i64 b, .int .i64 c] w fun e w'=>e= .returned (.int .i64 r)∧Below w.heap.size w w':=by
 refine (iL.calls a b c r w h).mono ?_
 rintro e w' ⟨rfl,⟨nd,rfl⟩⟩
 exact ⟨rfl,bG (Below.refl _ _) nd⟩
theorem bQ {w:World} {g:Nat} {o:Obj} {p:Addr} (h:w.heap[g]?=some o) (hne:g≠p.block) (u:Value):(w.setCell p u).heap[g]?=some o:=(Below.heap_setCell w p u g hne).trans h
theorem bI.callsS (k:Nat):∀ (a0 a1:Int) (A0:Option Addr) (c0:Nat) (l:List (S28)) (r1 r2:Int) (r3:List (S28)) (w:World) (hr0:Kd.C k28 w A0 l.length l) (hc0:l.length≤c0) (h:bI.f k a0 a1 l=some (r1,r2,r3)),
  Calls Try.prog 32 #[.agg #[.int .i64 a0, .int .i64 a1, .slice A0 l.length c0]] w fun e w'=>∃ v2_:Value,e= .returned (.agg #[.int .i64 r1, .int .i64 r2,v2_])∧Kd.S mF 28 w' w.heap.size (fun q=>w.heap.size≤q) v2_ r3∧Below w.heap.size w w':=by
 induction k using Nat.strongRecOn with
 | _ k ih=>
 intro a0 a1 A0 c0 l r1 r2 r3 w hr0 hc0 h
 cases k with
 |zero=>exact absurd h (by simp [bI.f])
 |succ k=>
 simp only [bI.f] at h
 have jh:=am hr0
 have jk:=am hc0
 have HB:=am (Below.refl w.heap.size w)
 have HH:=am h
 clear hr0 hc0 h
 go_enter Try.func32,Try.ntmps32
 go_upto_region 1 with (first|((with_reducible refine bJ (N:=1) rfl ?_);refine bR (N:=1) rfl rfl (cs:=#[.int .i64 a0, .int .i64 a1, .slice A0 l.length c0]) (t:=28) rn_ ?_;intro g1 hg w2 hbox hb;have B1:=am hbox;have G1:=am (hg:_=_);have ja:=am hb;clear hbox hg hb)|((with_reducible refine bJ (N:=2) rfl ?_);refine bR (N:=2) rfl rfl (cs:=#[.int .i64 0, .int .i64 0, .slice none 0 0]) (t:=28) rn_ ?_;intro g2 hg w3 hbox hb;have B2:=am hbox;have G2:=am (hg:_=_);have j9:=am (show w.heap.size≤g2 from Nat.le_trans ja.out.size (Nat.le_of_eq G2.out.symm));replace B1:=am (aJ B1.out hb);replace HB:=am (aC ja.out hb);clear hbox hg hb ja)|fail)
 have z2:w3.cell? ⟨g1,2,none⟩=some (.slice A0 l.length c0):=aA B1.out 2
 have h:=HH.out
 clear HH
 by_cases c2:(l.length:Int)=0
 ·rw [if_pos c2] at h
  have jb:((l.length:Int) == 0)=true:=beq_iff_eq.mpr c2
  have jc:((l.length:Int) != 0)=false:=bne_eq_false_iff_eq.mpr c2
  clear c2
  simp only [Option.some.injEq,Prod.mk.injEq] at h
  obtain ⟨rfl,rfl,rfl⟩:=h
  have z0:w3.cell? ⟨g1,0,none⟩=some (.int .i64 a0):=aA B1.out 0
  have z1:w3.cell? ⟨g1,1,none⟩=some (.int .i64 a1):=aA B1.out 1
  have u0:w3.cell? ⟨g2,0,none⟩=some (.int .i64 0):=aA B2.out 0
  have u1:w3.cell? ⟨g2,1,none⟩=some (.int .i64 0):=aA B2.out 1
  have u2:w3.cell? ⟨g2,2,none⟩=some (.slice none 0 0):=aA B2.out 2
  have f0:=aH B2.out 0
  have f1:=aH B2.out 1
  have f2:=aH B2.out 2
  go_wp2
  refine bodyPost_ret (results_cell_row rfl _ _ g2 28 #[.int .i64 a0, .int .i64 a1, .slice none 0 0] (0,0) _ rfl (aT (aT (aT B2.out 0 _ rfl) 1 _ rfl) 2 _ rfl) Try.underlying28 rfl (by kernel_rfl)) rfl ?_
  exact ⟨_,rfl,Kd.oP _ _ _ _ _,below_set (below_set (below_set HB.out j9.out) j9.out) j9.out⟩
 rw [if_neg c2] at h
 have jb:((l.length:Int) == 0)=false:=beq_eq_false_iff_ne.mpr c2
 have jc:((l.length:Int) != 0)=true:=bne_iff_ne.mpr c2
 clear c2
 by_cases c8:0 < (l.length:Int)
 case neg=>rw [if_neg c8] at h;exact absurd h (by simp)
 rw [if_pos c8] at h
 replace h:=Option.bind_eq_some_iff.mp h
 obtain ⟨⟨x0,x1,x2⟩,h1,h⟩:=h
 by_cases c10:1 < (l.length:Int)
 case neg=>rw [if_neg c10] at h;exact absurd h (by simp)
 rw [if_pos c10] at h
 replace h:=Option.bind_eq_some_iff.mp h
 obtain ⟨⟨y0,y1,y2⟩,h2,h⟩:=h
 (try dsimp only at h1 h2 h)
 obtain ⟨ad,Ap,cp,e0,P0,P1,P2,LP,CP⟩:=kC jh.out 0 (by omega) c8
 obtain ⟨ad',Aq,cq,e1,Q0,Q1,Q2,LQ,CQ⟩:=kC jh.out 1 (by omega) c10
 subst e0
 injection e1 with e1
 subst e1
 rcases hrp:bH l 0 with ⟨p0,p1,p2⟩
 rcases hrq:bH l 1 with ⟨q0,q1,q2⟩
 rw [hrp] at h1 P0 P1 P2 LP CP
 rw [hrq] at h2 Q0 Q1 Q2 LQ CQ
 dsimp only at h1 h2 P0 P1 P2 Q0 Q1 Q2 LP LQ CP CQ
 have HE1:=am h1
 have HE2:=am h2
 have HT:=am h
 clear h h1 h2 hrp hrq
 rw [show ((0:Int)).toNat * 3=0 from rfl,Addr.add_zero'] at P0 P1 P2
 rw [show ((1:Int)).toNat * 3=3 from rfl] at Q0 Q1 Q2
 simp only [Go.Addr.add,Nat.reduceEqDiff,↓reduceIte] at Q0 Q1 Q2
 replace P0:=am P0
 replace P1:=am P1
 replace P2:=am P2
 replace Q0:=am Q0
 replace Q1:=am Q1
 replace Q2:=am Q2
 replace LP:=am LP
 replace LQ:=am LQ
 replace CP:=am CP
 replace CQ:=am CQ
 have i0:(0:Int) < (l.length:Int):=c8
 have i1:(1:Int) < (l.length:Int):=c10
 have i0b:(0 < l.length)=True:=eq_true (by omega)
 have i1b:(1 < l.length)=True:=eq_true (by omega)
 have i0c:decide ((0:Int) < (l.length:Int))=true:=decide_eq_true c8
 have i1c:decide ((1:Int) < (l.length:Int))=true:=decide_eq_true c10
 clear c8 c10
 go_upto_region 3 with fail
 refine wp_region_any (by kernel_rfl) ?_
 have b_:=am (bX HB.out)
 have jd:=am (eH B1.out)
 have je:=am (eH B2.out)
 show wpAny _ _ _ _ _ _ _ w3.drew
 clear z2 B1 B2 HB
 generalize w3.drew=W0 at b_ jd je ⊢
 have HB:=b_
 have B1:=jd
 have B2:=je
 clear b_ jd je
 refine FC (n:=14) (T:=(true,[([],[]),([0],[0]),([1],[1]),([2],[2]),([3],[3]),([],[]),([5],[5]),([6],[6]),([7],[7]),([8,4],[8]),([],[]),([],[]),([10,4,9,0,1,2,3,4,10,11],[4,10]),([11,9,12,0,1,2,3,4,5,6,7,8,9,10,11,12],[9,11])])) rfl (by kernel_rfl) (by decide) (fun b a W=>LXF w W0 g1 g2 a0 a1 ad c0 l p0 p1 Ap cp p2 q0 q1 Aq cq q2 x0 x1 x2 y0 y1 y2 (b 0) (b 1) (b 2) (b 3) (b 4) (b 5) (b 6) (b 7) (b 8) (b 9) (b 10) (b 11) (b 12) (b 13) a W) ?hstep ?hdone _ _ ?hstart
 case hstart=>exact ⟨none,0,none,0,0,0,0,rfl,⟨Below.refl _ _,(fun e=>Bool.noConfusion e),(fun e=>Bool.noConfusion e),(fun e=>Bool.noConfusion e),(fun e=>Bool.noConfusion e),(fun e=>Bool.noConfusion e),(fun e=>Bool.noConfusion e)⟩⟩
 case hstep=>
  intro i b a W hi hbi hneed hcl hI
  have hcase:i=0∨i=1∨i=2∨i=3∨i=4∨i=5∨i=6∨i=7∨i=8∨i=9∨i=10∨i=11∨i=12∨i=13:=by omega
  rcases hcase with rfl|rfl|rfl|rfl|rfl|rfl|rfl|rfl|rfl|rfl|rfl|rfl|rfl|rfl
  ·
   have z1:=zz_ (fun h=>hcl 1 _ h rfl 0 (by decide)) hbi
   have z2:=zz_ (fun h=>hcl 2 _ h rfl 1 (by decide)) z1
   have z3:=zz_ (fun h=>hcl 3 _ h rfl 2 (by decide)) z2
   have z4:=zz_ (fun h=>hcl 4 _ h rfl 3 (by decide)) z3
   have z9:=zz_ (fun h=>hcl 9 _ h rfl 4 (by decide)) z4
   have j8:=zz_ (fun h=>hcl 12 _ h rfl 4 (by decide)) z4
   have j7:=zz_ (fun h=>hcl 13 _ h rfl 0 (by decide)) hbi
   simp only [hbi,z1,z2,z3,z4,z9,j8,j7] at hI
   obtain ⟨j3,j4,j5,j6,g3,g4,hA,rfl,h⟩:=hI
   refine wpOp_step rfl (fun K' hK'=>?_)
   simp (decide:=true) only [if_true,if_false,reduceIte,z1,z2,z3,z4,z9,j8,j7] at hK'
   refine fT (W:=W) (w1:=W) (v:=?_) (by rfl) ?_ ?_
   rotate_left
   ·(try simp only [aXF,cond_true,cond_false])
    go_simp
    first|with_reducible rfl|rfl
   refine hK' _ _ (⟨j3,j4,j5,j6,g3,g4,hA,?_,h⟩)
   show Act.put _ (some 15) _=_
   simp only [aXF,Act.put,List.setIfInBounds_toArray,List.set_cons_zero,List.set_cons_succ,gT,gZ]
   rfl
  ·
   have hn_:=hneed _ rfl
   have n0:=hn_ 0 (by decide)
   have z2:=zz_ (fun h=>hcl 2 _ h rfl 1 (by decide)) hbi
   have z3:=zz_ (fun h=>hcl 3 _ h rfl 2 (by decide)) z2
   have z4:=zz_ (fun h=>hcl 4 _ h rfl 3 (by decide)) z3
   have z9:=zz_ (fun h=>hcl 9 _ h rfl 4 (by decide)) z4
   have j8:=zz_ (fun h=>hcl 12 _ h rfl 4 (by decide)) z4
   have j7:=zz_ (fun h=>hcl 13 _ h rfl 1 (by decide)) hbi
   simp only [hbi,n0,z2,z3,z4,z9,j8,j7] at hI
   obtain ⟨j3,j4,j5,j6,g3,g4,hA,rfl,h⟩:=hI
   refine wpOp_step rfl (fun K' hK'=>?_)
   simp (decide:=true) only [if_true,if_false,reduceIte,n0,z2,z3,z4,z9,j8,j7] at hK'
   have jf:=aJ B1.out h.hB
   have z2:W.cell? ⟨g1,2,none⟩=some (.slice (some ad) l.length c0):=aA jf 2
   refine fT (W:=W) (w1:=W) (v:=?_) (by rfl) ?_ ?_
   rotate_left
   ·(try simp only [aXF,cond_true,cond_false])
    go_simp
    first|with_reducible rfl|rfl
   refine hK' _ _ (⟨j3,j4,j5,j6,g3,g4,hA,?_,h⟩)
   show Act.put _ (some 16) _=_
   simp only [aXF,Act.put,List.setIfInBounds_toArray,List.set_cons_zero,List.set_cons_succ,gT,gZ]
   rfl
  ·
   have hn_:=hneed _ rfl
   have n1:=hn_ 1 (by decide)
   have n0:=hcl 1 _ n1 rfl 0 (by decide)
   have z3:=zz_ (fun h=>hcl 3 _ h rfl 2 (by decide)) hbi
   have z4:=zz_ (fun h=>hcl 4 _ h rfl 3 (by decide)) z3
   have z9:=zz_ (fun h=>hcl 9 _ h rfl 4 (by decide)) z4
   have j8:=zz_ (fun h=>hcl 12 _ h rfl 4 (by decide)) z4
   have j7:=zz_ (fun h=>hcl 13 _ h rfl 2 (by decide)) hbi
   simp only [hbi,n0,n1,z3,z4,z9,j8,j7] at hI
   obtain ⟨j3,j4,j5,j6,g3,g4,hA,rfl,h⟩:=hI
   refine wpOp_step rfl (fun K' hK'=>?_)
   simp (decide:=true) only [if_true,if_false,reduceIte,n0,n1,z3,z4,z9,j8,j7] at hK'
   refine fT (W:=W) (w1:=W) (v:=(.pointer (some ad))) (by rfl) ?_ ?_
   ·(try simp only [aXF,cond_true,cond_false])
    go_simp
    (try rfl)
   refine hK' _ _ (⟨j3,j4,j5,j6,g3,g4,hA,?_,h⟩)
   show Act.put _ (some 17) _=_
   simp only [aXF,Act.put,List.setIfInBounds_toArray,List.set_cons_zero,List.set_cons_succ,gT,gZ]
   rfl
  ·
   have hn_:=hneed _ rfl
   have n2:=hn_ 2 (by decide)
   have n1:=hcl 2 _ n2 rfl 1 (by decide)
   have n0:=hcl 1 _ n1 rfl 0 (by decide)
   have z4:=zz_ (fun h=>hcl 4 _ h rfl 3 (by decide)) hbi
   have z9:=zz_ (fun h=>hcl 9 _ h rfl 4 (by decide)) z4
   have j8:=zz_ (fun h=>hcl 12 _ h rfl 4 (by decide)) z4
   have j7:=zz_ (fun h=>hcl 13 _ h rfl 3 (by decide)) hbi
   simp only [hbi,n0,n1,n2,z4,z9,j8,j7] at hI
   obtain ⟨j3,j4,j5,j6,g3,g4,hA,rfl,h⟩:=hI
   refine wpOp_step rfl (fun K' hK'=>?_)
   simp (decide:=true) only [if_true,if_false,reduceIte,n0,n1,n2,z4,z9,j8,j7] at hK'
   have z0:W.cell? ad=some (.int .i64 p0):=((aC HB.out h.hB).cell (World.block_lt_of_cell? w _ P0.out)).trans P0.out
   have z1:W.cell? ⟨ad.block,ad.off + 1,none⟩=some (.int .i64 p1):=((aC HB.out h.hB).cell (World.block_lt_of_cell? w _ P1.out)).trans P1.out
   have z2:W.cell? ⟨ad.block,ad.off + 2,none⟩=some (.slice Ap p2.length cp):=((aC HB.out h.hB).cell (World.block_lt_of_cell? w _ P2.out)).trans P2.out
   refine fT (W:=W) (w1:=W) (v:=(.agg #[(.int .i64 p0),(.int .i64 p1),(.slice Ap p2.length cp)])) (by rfl) ?_ ?_
   ·(try simp only [aXF,cond_true,cond_false])
    go_simp
    (try rfl)
   refine hK' _ _ (⟨j3,j4,j5,j6,g3,g4,hA,?_,h⟩)
   show Act.put _ (some 18) _=_
   simp only [aXF,Act.put,List.setIfInBounds_toArray,List.set_cons_zero,List.set_cons_succ,gT,gZ]
   rfl
  ·
   have hn_:=hneed _ rfl
   have n3:=hn_ 3 (by decide)
   have n2:=hcl 3 _ n3 rfl 2 (by decide)
   have n1:=hcl 2 _ n2 rfl 1 (by decide)
   have n0:=hcl 1 _ n1 rfl 0 (by decide)
   have z9:=zz_ (fun h=>hcl 9 _ h rfl 4 (by decide)) hbi
   have j8:=zz_ (fun h=>hcl 12 _ h rfl 4 (by decide)) hbi
   have j7:=zz_ (fun h=>hcl 13 _ h rfl 4 (by decide)) hbi
   simp only [hbi,n0,n1,n2,n3,z9,j8,j7] at hI
   obtain ⟨j3,j4,j5,j6,g3,g4,hA,rfl,h⟩:=hI
   refine wpOp_step rfl (fun K' hK'=>?_)
   simp (decide:=true) only [if_true,if_false,reduceIte,n0,n1,n2,n3,z9,j8,j7] at hK'
   refine lH Try.func32 (by kernel_rfl) rfl #[(.agg #[(.int .i64 p0),(.int .i64 p1),(.slice Ap p2.length cp)])] (by rfl) rfl rfl (by (try simp only [List.map_toArray,List.map_cons,List.map_nil]);first|done|rfl) ?_
   refine (ih k (Nat.lt_succ_self k) _ _ _ _ _ x0 x1 x2 _ (Kd.aI CP.out (aC HB.out h.hB)) LP.out HE1.out).mono ?_
   rintro e W' ⟨v,rfl,hn,hb⟩
   obtain ⟨B_,d_,rfl⟩:=Kd.gI hn
   have hlt:=h.hB.size
   have hle:=hb.size
   have jg:=Kd.iD hn
   refine ⟨_,rfl,hK' _ _ (⟨B_,d_,j5,j6,g3,g4,W'.heap.size,?_,⟨aC h.hB hb,fun _=>Nat.le_refl _,fun _=>Kd.fE (Kd.iR jg hlt) (fun q hq=>⟨hq.2.2.1,⟨fun e=>by have:=dM (h.h10 e).2;have:=hq.2.1;omega,fun e=>by have:=dM (h.h11 e).2;have:=hq.2.1;omega⟩⟩),(fun e=>Bool.noConfusion e),fun e=>⟨(h.h10 e).1,aJ (h.h10 e).2 hb⟩,fun e=>⟨(h.h11 e).1,aJ (h.h11 e).2 hb⟩,h.hne⟩⟩)⟩
   show Act.put _ (some 19) _=_
   simp only [aXF,Act.put,List.setIfInBounds_toArray,List.set_cons_zero,List.set_cons_succ]
   rfl
  ·
   have z6:=zz_ (fun h=>hcl 6 _ h rfl 5 (by decide)) hbi
   have z7:=zz_ (fun h=>hcl 7 _ h rfl 6 (by decide)) z6
   have z8:=zz_ (fun h=>hcl 8 _ h rfl 7 (by decide)) z7
   have z9:=zz_ (fun h=>hcl 9 _ h rfl 8 (by decide)) z8
   have j8:=zz_ (fun h=>hcl 12 _ h rfl 9 (by decide)) z9
   have j7:=zz_ (fun h=>hcl 13 _ h rfl 5 (by decide)) hbi
   simp only [hbi,z6,z7,z8,z9,j8,j7] at hI
   obtain ⟨j3,j4,j5,j6,g3,g4,hA,rfl,h⟩:=hI
   refine wpOp_step rfl (fun K' hK'=>?_)
   simp (decide:=true) only [if_true,if_false,reduceIte,z6,z7,z8,z9,j8,j7] at hK'
   refine fT (W:=W) (w1:=W) (v:=?_) (by rfl) ?_ ?_
   rotate_left
   ·(try simp only [aXF,cond_true,cond_false])
    go_simp
    first|with_reducible rfl|rfl
   refine hK' _ _ (⟨j3,j4,j5,j6,g3,g4,hA,?_,h⟩)
   show Act.put _ (some 20) _=_
   simp only [aXF,Act.put,List.setIfInBounds_toArray,List.set_cons_zero,List.set_cons_succ,gT,gZ]
   rfl
  ·
   have hn_:=hneed _ rfl
   have n5:=hn_ 5 (by decide)
   have z7:=zz_ (fun h=>hcl 7 _ h rfl 6 (by decide)) hbi
   have z8:=zz_ (fun h=>hcl 8 _ h rfl 7 (by decide)) z7
   have z9:=zz_ (fun h=>hcl 9 _ h rfl 8 (by decide)) z8
   have j8:=zz_ (fun h=>hcl 12 _ h rfl 9 (by decide)) z9
   have j7:=zz_ (fun h=>hcl 13 _ h rfl 6 (by decide)) hbi
   simp only [hbi,n5,z7,z8,z9,j8,j7] at hI
   obtain ⟨j3,j4,j5,j6,g3,g4,hA,rfl,h⟩:=hI
   refine wpOp_step rfl (fun K' hK'=>?_)
   simp (decide:=true) only [if_true,if_false,reduceIte,n5,z7,z8,z9,j8,j7] at hK'
   have jf:=aJ B1.out h.hB
   have z2:W.cell? ⟨g1,2,none⟩=some (.slice (some ad) l.length c0):=aA jf 2
   refine fT (W:=W) (w1:=W) (v:=?_) (by rfl) ?_ ?_
   rotate_left
   ·(try simp only [aXF,cond_true,cond_false])
    go_simp
    first|with_reducible rfl|rfl
   refine hK' _ _ (⟨j3,j4,j5,j6,g3,g4,hA,?_,h⟩)
   show Act.put _ (some 21) _=_
   simp only [aXF,Act.put,List.setIfInBounds_toArray,List.set_cons_zero,List.set_cons_succ,gT,gZ]
   rfl
  ·
   have hn_:=hneed _ rfl
   have n6:=hn_ 6 (by decide)
   have n5:=hcl 6 _ n6 rfl 5 (by decide)
   have z8:=zz_ (fun h=>hcl 8 _ h rfl 7 (by decide)) hbi
   have z9:=zz_ (fun h=>hcl 9 _ h rfl 8 (by decide)) z8
   have j8:=zz_ (fun h=>hcl 12 _ h rfl 9 (by decide)) z9
   have j7:=zz_ (fun h=>hcl 13 _ h rfl 7 (by decide)) hbi
   simp only [hbi,n5,n6,z8,z9,j8,j7] at hI
   obtain ⟨j3,j4,j5,j6,g3,g4,hA,rfl,h⟩:=hI
   refine wpOp_step rfl (fun K' hK'=>?_)
   simp (decide:=true) only [if_true,if_false,reduceIte,n5,n6,z8,z9,j8,j7] at hK'
   refine fT (W:=W) (w1:=W) (v:=(.pointer (some ⟨ad.block,ad.off + 3,none⟩))) (by rfl) ?_ ?_
   ·(try simp only [aXF,cond_true,cond_false])
    go_simp
    (try rfl)
   refine hK' _ _ (⟨j3,j4,j5,j6,g3,g4,hA,?_,h⟩)
   show Act.put _ (some 22) _=_
   simp only [aXF,Act.put,List.setIfInBounds_toArray,List.set_cons_zero,List.set_cons_succ,gT,gZ]
   rfl
  ·
   have hn_:=hneed _ rfl
   have n7:=hn_ 7 (by decide)
   have n6:=hcl 7 _ n7 rfl 6 (by decide)
   have n5:=hcl 6 _ n6 rfl 5 (by decide)
   have z9:=zz_ (fun h=>hcl 9 _ h rfl 8 (by decide)) hbi
   have j8:=zz_ (fun h=>hcl 12 _ h rfl 9 (by decide)) z9
   have j7:=zz_ (fun h=>hcl 13 _ h rfl 8 (by decide)) hbi
   simp only [hbi,n5,n6,n7,z9,j8,j7] at hI
   obtain ⟨j3,j4,j5,j6,g3,g4,hA,rfl,h⟩:=hI
   refine wpOp_step rfl (fun K' hK'=>?_)
   simp (decide:=true) only [if_true,if_false,reduceIte,n5,n6,n7,z9,j8,j7] at hK'
   have z0:W.cell? ⟨ad.block,ad.off + 3,none⟩=some (.int .i64 q0):=((aC HB.out h.hB).cell (World.block_lt_of_cell? w _ Q0.out)).trans Q0.out
   have z1:W.cell? ⟨ad.block,ad.off + 3 + 1,none⟩=some (.int .i64 q1):=((aC HB.out h.hB).cell (World.block_lt_of_cell? w _ Q1.out)).trans Q1.out
   have z2:W.cell? ⟨ad.block,ad.off + 3 + 2,none⟩=some (.slice Aq q2.length cq):=((aC HB.out h.hB).cell (World.block_lt_of_cell? w _ Q2.out)).trans Q2.out
   refine fT (W:=W) (w1:=W) (v:=(.agg #[(.int .i64 q0),(.int .i64 q1),(.slice Aq q2.length cq)])) (by rfl) ?_ ?_
   ·(try simp only [aXF,cond_true,cond_false])
    go_simp
    (try rfl)
   refine hK' _ _ (⟨j3,j4,j5,j6,g3,g4,hA,?_,h⟩)
   show Act.put _ (some 23) _=_
   simp only [aXF,Act.put,List.setIfInBounds_toArray,List.set_cons_zero,List.set_cons_succ,gT,gZ]
   rfl
  ·
   have hn_:=hneed _ rfl
   have n4:=hn_ 4 (by decide)
   have n8:=hn_ 8 (by decide)
   have n3:=hcl 4 _ n4 rfl 3 (by decide)
   have n7:=hcl 8 _ n8 rfl 7 (by decide)
   have n2:=hcl 3 _ n3 rfl 2 (by decide)
   have n6:=hcl 7 _ n7 rfl 6 (by decide)
   have n1:=hcl 2 _ n2 rfl 1 (by decide)
   have n5:=hcl 6 _ n6 rfl 5 (by decide)
   have n0:=hcl 1 _ n1 rfl 0 (by decide)
   have j8:=zz_ (fun h=>hcl 12 _ h rfl 9 (by decide)) hbi
   have j7:=zz_ (fun h=>hcl 13 _ h rfl 9 (by decide)) hbi
   simp only [hbi,n0,n1,n2,n3,n4,n5,n6,n7,n8,j8,j7] at hI
   obtain ⟨j3,j4,j5,j6,g3,g4,hA,rfl,h⟩:=hI
   refine wpOp_step rfl (fun K' hK'=>?_)
   simp (decide:=true) only [if_true,if_false,reduceIte,n0,n1,n2,n3,n4,n5,n6,n7,n8,j8,j7] at hK'
   refine lH Try.func32 (by kernel_rfl) rfl #[(.agg #[(.int .i64 q0),(.int .i64 q1),(.slice Aq q2.length cq)])] (by rfl) rfl rfl (by (try simp only [List.map_toArray,List.map_cons,List.map_nil]);first|done|rfl) ?_
   refine (ih k (Nat.lt_succ_self k) _ _ _ _ _ y0 y1 y2 _ (Kd.aI CQ.out (aC HB.out h.hB)) LQ.out HE2.out).mono ?_
   rintro e W' ⟨v,rfl,hn,hb⟩
   obtain ⟨B_,d_,rfl⟩:=Kd.gI hn
   have hlt:=h.hB.size
   have hle:=hb.size
   have jg:=Kd.iD hn
   refine ⟨_,rfl,hK' _ _ (⟨j3,j4,B_,d_,g3,g4,hA,?_,⟨aC h.hB hb,fun e=>Nat.le_trans (h.hA_ e) hle,fun e=>Kd.fC (h.h4 e) hb,fun _=>Kd.fE (Kd.iR jg hlt) (fun q hq=>⟨Nat.le_trans (h.hA_ rfl) hq.1,⟨fun e=>by have:=dM (h.h10 e).2;have:=hq.2.1;omega,fun e=>by have:=dM (h.h11 e).2;have:=hq.2.1;omega⟩⟩),fun e=>⟨(h.h10 e).1,aJ (h.h10 e).2 hb⟩,fun e=>⟨(h.h11 e).1,aJ (h.h11 e).2 hb⟩,h.hne⟩⟩)⟩
   show Act.put _ (some 24) _=_
   simp only [aXF,Act.put,List.setIfInBounds_toArray,List.set_cons_zero,List.set_cons_succ]
   rfl
  ·
   have j8:=zz_ (fun h=>hcl 12 _ h rfl 10 (by decide)) hbi
   have j7:=zz_ (fun h=>hcl 13 _ h rfl 10 (by decide)) hbi
   simp only [hbi,j8,j7] at hI
   obtain ⟨j3,j4,j5,j6,g3,g4,hA,rfl,h⟩:=hI
   refine wpOp_step rfl (fun K' hK'=>?_)
   simp (decide:=true) only [if_true,if_false,reduceIte,j8,j7] at hK'
   refine IJ ?hg (N:=3) ?hd (cs:=#[(.int .i64 0),(.int .i64 0),(.slice none 0 0)]) (t:=28) ?hr ?_
   case hd=>rfl
   case hg=>rfl
   case hr=>(try simp only [aXF,cond_true,cond_false]);first|(go_simp;done)|(go_simp;rfl)
   intro gb hgb W' hbox hb
   have hlt:=h.hB.size
   have hle:=hb.size
   refine hK' _ _ (⟨j3,j4,j5,j6,gb,g4,hA,?_,⟨aC h.hB hb,fun e=>Nat.le_trans (h.hA_ e) hle,fun e=>Kd.fE (Kd.fC (Kd.iD (h.h4 e)) hb) (fun q hq=>⟨hq.1.1,fun _=>by have:=hq.2.2.1;omega,hq.1.2.2⟩),fun e=>Kd.fE (Kd.fC (Kd.iD (h.h9 e)) hb) (fun q hq=>⟨hq.1.1,fun _=>by have:=hq.2.2.1;omega,hq.1.2.2⟩),fun _=>⟨by omega,hbox⟩,fun e=>⟨(h.h11 e).1,aJ (h.h11 e).2 hb⟩,fun _ e2 e3=>by have:=dM (h.h11 e2).2;omega⟩⟩)
   show Act.put _ (some 3) _=_
   simp only [aXF,Act.put,List.setIfInBounds_toArray,List.set_cons_zero,List.set_cons_succ]
   rfl
  ·
   have j8:=zz_ (fun h=>hcl 12 _ h rfl 11 (by decide)) hbi
   have j7:=zz_ (fun h=>hcl 13 _ h rfl 11 (by decide)) hbi
   simp only [hbi,j8,j7] at hI
   obtain ⟨j3,j4,j5,j6,g3,g4,hA,rfl,h⟩:=hI
   refine wpOp_step rfl (fun K' hK'=>?_)
   simp (decide:=true) only [if_true,if_false,reduceIte,j8,j7] at hK'
   refine IJ ?hg (N:=4) ?hd (cs:=#[(.int .i64 0),(.int .i64 0),(.slice none 0 0)]) (t:=28) ?hr ?_
   case hd=>rfl
   case hg=>rfl
   case hr=>(try simp only [aXF,cond_true,cond_false]);first|(go_simp;done)|(go_simp;rfl)
   intro gb hgb W' hbox hb
   have hlt:=h.hB.size
   have hle:=hb.size
   refine hK' _ _ (⟨j3,j4,j5,j6,g3,gb,hA,?_,⟨aC h.hB hb,fun e=>Nat.le_trans (h.hA_ e) hle,fun e=>Kd.fE (Kd.fC (Kd.iD (h.h4 e)) hb) (fun q hq=>⟨hq.1.1,hq.1.2.1,fun _=>by have:=hq.2.2.1;omega⟩),fun e=>Kd.fE (Kd.fC (Kd.iD (h.h9 e)) hb) (fun q hq=>⟨hq.1.1,hq.1.2.1,fun _=>by have:=hq.2.2.1;omega⟩),fun e=>⟨(h.h10 e).1,aJ (h.h10 e).2 hb⟩,fun _=>⟨by omega,hbox⟩,fun e2 _ e3=>by have:=dM (h.h10 e2).2;omega⟩⟩)
   show Act.put _ (some 4) _=_
   simp only [aXF,Act.put,List.setIfInBounds_toArray,List.set_cons_zero,List.set_cons_succ]
   rfl
  ·
   have hn_:=hneed _ rfl
   have n4:=hn_ 4 (by decide)
   have n9:=hn_ 9 (by decide)
   have n10:=hn_ 10 (by decide)
   have n11:=hn_ 11 (by decide)
   have n3:=hcl 4 _ n4 rfl 3 (by decide)
   have n8:=hcl 9 _ n9 rfl 8 (by decide)
   have n2:=hcl 3 _ n3 rfl 2 (by decide)
   have n7:=hcl 8 _ n8 rfl 7 (by decide)
   have n1:=hcl 2 _ n2 rfl 1 (by decide)
   have n6:=hcl 7 _ n7 rfl 6 (by decide)
   have n0:=hcl 1 _ n1 rfl 0 (by decide)
   have n5:=hcl 6 _ n6 rfl 5 (by decide)
   have j7:=zz_ (fun h=>hcl 13 _ h rfl 12 (by decide)) hbi
   simp only [hbi,n0,n1,n2,n3,n4,n5,n6,n7,n8,n9,n10,n11,j7] at hI
   obtain ⟨j3,j4,j5,j6,g3,g4,hA,rfl,h⟩:=hI
   refine wpOp_step rfl (fun K' hK'=>?_)
   simp (decide:=true) only [if_true,if_false,reduceIte,n0,n1,n2,n3,n4,n5,n6,n7,n8,n9,n10,n11,j7] at hK'
   obtain ⟨hg6,hbx⟩:=h.h10 rfl
   replace hbx:W.heap[g3]?=some (.cells #[(.int .i64 0),(.int .i64 0),(.slice none 0 0)] 28 (0,0)):=hbx
   have q0:W.cell? ⟨g3,0,none⟩=some (.int .i64 0):=aA hbx 0
   have f0:=aH hbx 0
   have q1:W.cell? ⟨g3,1,none⟩=some (.int .i64 0):=aA hbx 1
   have f1:=aH hbx 1
   have q2:W.cell? ⟨g3,2,none⟩=some (.slice none 0 0):=aA hbx 2
   have f2:=aH hbx 2
   refine yG (w1:=(((W.setCell ⟨g3,0,none⟩ (.int .i64 x0)).setCell ⟨g3,1,none⟩ (.int .i64 x1)).setCell ⟨g3,2,none⟩ (.slice j3 x2.length j4))) (by rfl) rfl ?_ ?_
   ·(try simp only [aXF,cond_true,cond_false])
    go_simp
    (try rfl)
   refine hK' _ _ (⟨j3,j4,j5,j6,g3,g4,hA,rfl,⟨(below_set (j:=2) (v:=(.slice j3 x2.length j4)) (below_set (j:=1) (v:=(.int .i64 x1)) (below_set (j:=0) (v:=(.int .i64 x0)) h.hB hg6) hg6) hg6),fun e=>Nat.le_trans (h.hA_ e) (by simp [World.setCell]),fun _=>(Kd.eD (p:=⟨g3,2,none⟩) (Kd.eD (p:=⟨g3,1,none⟩) (Kd.eD (p:=⟨g3,0,none⟩) (h.h4 rfl) (fun q hq=>hq.2.1 rfl) (.int .i64 x0)) (fun q hq=>hq.2.1 rfl) (.int .i64 x1)) (fun q hq=>hq.2.1 rfl) (.slice j3 x2.length j4)),fun _=>(Kd.eD (p:=⟨g3,2,none⟩) (Kd.eD (p:=⟨g3,1,none⟩) (Kd.eD (p:=⟨g3,0,none⟩) (h.h9 rfl) (fun q hq=>hq.2.1 rfl) (.int .i64 x0)) (fun q hq=>hq.2.1 rfl) (.int .i64 x1)) (fun q hq=>hq.2.1 rfl) (.slice j3 x2.length j4)),fun _=>⟨hg6,(aT (cs':=#[(.int .i64 x0),(.int .i64 x1),(.slice j3 x2.length j4)]) (aT (cs':=#[(.int .i64 x0),(.int .i64 x1),(.slice none 0 0)]) (aT (cs':=#[(.int .i64 x0),(.int .i64 0),(.slice none 0 0)]) hbx 0 (.int .i64 x0) rfl) 1 (.int .i64 x1) rfl) 2 (.slice j3 x2.length j4) rfl)⟩,fun _=>⟨(h.h11 rfl).1,(bQ (p:=⟨g3,2,none⟩) (bQ (p:=⟨g3,1,none⟩) (bQ (p:=⟨g3,0,none⟩) (h.h11 rfl).2 (h.hne rfl rfl).symm (.int .i64 x0)) (h.hne rfl rfl).symm (.int .i64 x1)) (h.hne rfl rfl).symm (.slice j3 x2.length j4))⟩,h.hne⟩⟩)
  ·
   have hn_:=hneed _ rfl
   have n0:=hn_ 0 (by decide)
   have n1:=hn_ 1 (by decide)
   have n2:=hn_ 2 (by decide)
   have n3:=hn_ 3 (by decide)
   have n4:=hn_ 4 (by decide)
   have n5:=hn_ 5 (by decide)
   have n6:=hn_ 6 (by decide)
   have n7:=hn_ 7 (by decide)
   have n8:=hn_ 8 (by decide)
   have n9:=hn_ 9 (by decide)
   have n10:=hn_ 10 (by decide)
   have n11:=hn_ 11 (by decide)
   have n12:=hn_ 12 (by decide)
   simp only [hbi,n0,n1,n2,n3,n4,n5,n6,n7,n8,n9,n10,n11,n12] at hI
   obtain ⟨j3,j4,j5,j6,g3,g4,hA,rfl,h⟩:=hI
   refine wpOp_step rfl (fun K' hK'=>?_)
   simp (decide:=true) only [if_true,if_false,reduceIte,n0,n1,n2,n3,n4,n5,n6,n7,n8,n9,n10,n11,n12] at hK'
   obtain ⟨hg6,hbx⟩:=h.h11 rfl
   replace hbx:W.heap[g4]?=some (.cells #[(.int .i64 0),(.int .i64 0),(.slice none 0 0)] 28 (0,0)):=hbx
   have q0:W.cell? ⟨g4,0,none⟩=some (.int .i64 0):=aA hbx 0
   have f0:=aH hbx 0
   have q1:W.cell? ⟨g4,1,none⟩=some (.int .i64 0):=aA hbx 1
   have f1:=aH hbx 1
   have q2:W.cell? ⟨g4,2,none⟩=some (.slice none 0 0):=aA hbx 2
   have f2:=aH hbx 2
   refine yG (w1:=(((W.setCell ⟨g4,0,none⟩ (.int .i64 y0)).setCell ⟨g4,1,none⟩ (.int .i64 y1)).setCell ⟨g4,2,none⟩ (.slice j5 y2.length j6))) (by rfl) rfl ?_ ?_
   ·(try simp only [aXF,cond_true,cond_false])
    go_simp
    (try rfl)
   refine hK' _ _ (⟨j3,j4,j5,j6,g3,g4,hA,rfl,⟨(below_set (j:=2) (v:=(.slice j5 y2.length j6)) (below_set (j:=1) (v:=(.int .i64 y1)) (below_set (j:=0) (v:=(.int .i64 y0)) h.hB hg6) hg6) hg6),fun e=>Nat.le_trans (h.hA_ e) (by simp [World.setCell]),fun _=>(Kd.eD (p:=⟨g4,2,none⟩) (Kd.eD (p:=⟨g4,1,none⟩) (Kd.eD (p:=⟨g4,0,none⟩) (h.h4 rfl) (fun q hq=>hq.2.2 rfl) (.int .i64 y0)) (fun q hq=>hq.2.2 rfl) (.int .i64 y1)) (fun q hq=>hq.2.2 rfl) (.slice j5 y2.length j6)),fun _=>(Kd.eD (p:=⟨g4,2,none⟩) (Kd.eD (p:=⟨g4,1,none⟩) (Kd.eD (p:=⟨g4,0,none⟩) (h.h9 rfl) (fun q hq=>hq.2.2 rfl) (.int .i64 y0)) (fun q hq=>hq.2.2 rfl) (.int .i64 y1)) (fun q hq=>hq.2.2 rfl) (.slice j5 y2.length j6)),fun _=>⟨(h.h10 rfl).1,(bQ (p:=⟨g4,2,none⟩) (bQ (p:=⟨g4,1,none⟩) (bQ (p:=⟨g4,0,none⟩) (h.h10 rfl).2 (h.hne rfl rfl) (.int .i64 y0)) (h.hne rfl rfl) (.int .i64 y1)) (h.hne rfl rfl) (.slice j5 y2.length j6))⟩,fun _=>⟨hg6,(aT (cs':=#[(.int .i64 y0),(.int .i64 y1),(.slice j5 y2.length j6)]) (aT (cs':=#[(.int .i64 y0),(.int .i64 y1),(.slice none 0 0)]) (aT (cs':=#[(.int .i64 y0),(.int .i64 0),(.slice none 0 0)]) hbx 0 (.int .i64 y0) rfl) 1 (.int .i64 y1) rfl) 2 (.slice j5 y2.length j6) rfl)⟩,h.hne⟩⟩)
 case hdone=>
  intro b a W1 hall hI
  replace hI:LXF w W0 g1 g2 a0 a1 ad c0 l p0 p1 Ap cp p2 q0 q1 Aq cq q2 x0 x1 x2 y0 y1 y2 (b 0) (b 1) (b 2) (b 3) (b 4) (b 5) (b 6) (b 7) (b 8) (b 9) (b 10) (b 11) (b 12) (b 13) a W1:=hI
  rw [hall 0 (by decide),hall 1 (by decide),hall 2 (by decide),hall 3 (by decide),hall 4 (by decide),hall 5 (by decide),hall 6 (by decide),hall 7 (by decide),hall 8 (by decide),hall 9 (by decide),hall 10 (by decide),hall 11 (by decide),hall 12 (by decide),hall 13 (by decide)] at hI
  obtain ⟨j3,j4,j5,j6,g3,g4,hA,rfl,h⟩:=hI
  simp only [aXF,cond_true]
  have S4:=am (Kd.fE (ok':=fun q=>q < hA∧(w.heap.size≤q∧q≠g2)) (Kd.iR (Kd.iD (h.h4 rfl)) HB.out.size) (fun q hq=>⟨hq.1.1,Nat.le_trans HB.out.size hq.2.1,by have:=dM B2.out;have:=hq.2.1;omega⟩))
  have S9:=am (Kd.fE (ok':=fun q=>hA≤q∧(w.heap.size≤q∧q≠g2)) (Kd.iR (Kd.iD (h.h9 rfl)) HB.out.size) (fun q hq=>⟨hq.1.1,Nat.le_trans HB.out.size hq.2.1,by have:=dM B2.out;have:=hq.2.1;omega⟩))
  have X3:Aside0 (W1.heap[g3]?=some (.cells #[(.int .i64 x0),(.int .i64 x1),(.slice j3 x2.length j4)] 28 (0,0))):=⟨(h.h10 rfl).2⟩
  have X4:Aside0 (W1.heap[g4]?=some (.cells #[(.int .i64 y0),(.int .i64 y1),(.slice j5 y2.length j6)] 28 (0,0))):=⟨(h.h11 rfl).2⟩
  replace B1:=am (aJ B1.out h.hB)
  replace B2:=am (aJ B2.out h.hB)
  replace HB:=am (aC HB.out h.hB)
  clear h hall
  have z0:W1.cell? ⟨g1,0,none⟩=some (.int .i64 a0):=aA B1.out 0
  have x_0:W1.cell? ⟨g3,0,none⟩=some (.int .i64 x0):=aA X3.out 0
  have x_1:W1.cell? ⟨g3,1,none⟩=some (.int .i64 x1):=aA X3.out 1
  have x_2:W1.cell? ⟨g3,2,none⟩=some (.slice j3 x2.length j4):=aA X3.out 2
  have y_0:W1.cell? ⟨g4,0,none⟩=some (.int .i64 y0):=aA X4.out 0
  have y_1:W1.cell? ⟨g4,1,none⟩=some (.int .i64 y1):=aA X4.out 1
  have y_2:W1.cell? ⟨g4,2,none⟩=some (.slice j5 y2.length j6):=aA X4.out 2
  have u0:W1.cell? ⟨g2,0,none⟩=some (.int .i64 0):=aA B2.out 0
  have u1:W1.cell? ⟨g2,1,none⟩=some (.int .i64 0):=aA B2.out 1
  have u2:W1.cell? ⟨g2,2,none⟩=some (.slice none 0 0):=aA B2.out 2
  have f0:=aH B2.out 0
  have f1:=aH B2.out 1
  have f2:=aH B2.out 2
  rcases bI.tail HT.out with ⟨ha,hb,n,hn,h3⟩|⟨h4,h3⟩
  ·have HN:=am hn
   have e0:(x0 == 0)=true:=beq_iff_eq.mpr ha
   have e1:(y0 == 0)=true:=beq_iff_eq.mpr hb
   clear hn ha hb
   rcases h3 with ⟨h1,h2,h3⟩|⟨h4,h3⟩
   ·have ji:decide (0≤n)=true:=decide_eq_true h1
    have jj:decide (n≤99999)=true:=decide_eq_true h2
    clear h1 h2
    simp only [Prod.mk.injEq] at h3
    obtain ⟨rfl,rfl,rfl⟩:=h3
    go_wp2_with (first|((with_reducible refine aD (f:=62) rfl ?_);refine aU (some 39) rfl rfl Try.func62 (by kernel_rfl) rfl #[.int .i64 a0, .int .i64 x1, .int .i64 y1] rfl (by (try simp only [List.map_toArray,List.map_cons,List.map_nil]);first|done|rfl) ?_;(with_reducible refine (iL.callsB a0 x1 y1 n _ HN.out).mono ?_);rintro e W5 ⟨rfl,hb⟩;refine ⟨_,rfl,?_⟩;replace S4:=am (Kd.fC S4.out hb);replace S9:=am (Kd.fC S9.out hb);replace X3:=am (aJ X3.out hb);replace X4:=am (aJ X4.out hb);replace B1:=am (aJ B1.out hb);replace B2:=am (aJ B2.out hb);replace HB:=am (aC HB.out hb);clear hb z0 x_0 x_1 x_2 y_0 y_1 y_2 u0 u1 u2 f0 f1 f2;have z0:W5.cell? ⟨g1,0,none⟩=some (.int .i64 a0):=aA B1.out 0;have x_0:W5.cell? ⟨g3,0,none⟩=some (.int .i64 x0):=aA X3.out 0;have x_1:W5.cell? ⟨g3,1,none⟩=some (.int .i64 x1):=aA X3.out 1;have x_2:W5.cell? ⟨g3,2,none⟩=some (.slice j3 x2.length j4):=aA X3.out 2;have y_0:W5.cell? ⟨g4,0,none⟩=some (.int .i64 y0):=aA X4.out 0;have y_1:W5.cell? ⟨g4,1,none⟩=some (.int .i64 y1):=aA X4.out 1;have y_2:W5.cell? ⟨g4,2,none⟩=some (.slice j5 y2.length j6):=aA X4.out 2;have u0:W5.cell? ⟨g2,0,none⟩=some (.int .i64 0):=aA B2.out 0;have u1:W5.cell? ⟨g2,1,none⟩=some (.int .i64 0):=aA B2.out 1;have u2:W5.cell? ⟨g2,2,none⟩=some (.slice none 0 0):=aA B2.out 2;have f0:=aH B2.out 0;have f1:=aH B2.out 1;have f2:=aH B2.out 2)|fail)
    refine bodyPost_ret (results_cell_row rfl _ _ g2 28 #[(.int .i64 0),(.int .i64 n), .slice none 0 0] (0,0) _ rfl (aT (aT (aT B2.out 0 _ rfl) 1 _ rfl) 2 _ rfl) Try.underlying28 rfl (by kernel_rfl)) rfl ?_
    exact ⟨_,rfl,Kd.oP _ _ _ _ _,below_set (below_set (below_set HB.out j9.out) j9.out) j9.out⟩
   ·by_cases h1:0≤n
    ·have ji:decide (0≤n)=true:=decide_eq_true h1
     have jj:decide (n≤99999)=false:=decide_eq_false (fun h2=>h4 ⟨h1,h2⟩)
     clear h1 h4
     simp only [Prod.mk.injEq] at h3
     obtain ⟨rfl,rfl,rfl⟩:=h3
     go_wp2_with (first|((with_reducible refine aD (f:=62) rfl ?_);refine aU (some 39) rfl rfl Try.func62 (by kernel_rfl) rfl #[.int .i64 a0, .int .i64 x1, .int .i64 y1] rfl (by (try simp only [List.map_toArray,List.map_cons,List.map_nil]);first|done|rfl) ?_;(with_reducible refine (iL.callsB a0 x1 y1 n _ HN.out).mono ?_);rintro e W5 ⟨rfl,hb⟩;refine ⟨_,rfl,?_⟩;replace S4:=am (Kd.fC S4.out hb);replace S9:=am (Kd.fC S9.out hb);replace X3:=am (aJ X3.out hb);replace X4:=am (aJ X4.out hb);replace B1:=am (aJ B1.out hb);replace B2:=am (aJ B2.out hb);replace HB:=am (aC HB.out hb);clear hb z0 x_0 x_1 x_2 y_0 y_1 y_2 u0 u1 u2 f0 f1 f2;have z0:W5.cell? ⟨g1,0,none⟩=some (.int .i64 a0):=aA B1.out 0;have x_0:W5.cell? ⟨g3,0,none⟩=some (.int .i64 x0):=aA X3.out 0;have x_1:W5.cell? ⟨g3,1,none⟩=some (.int .i64 x1):=aA X3.out 1;have x_2:W5.cell? ⟨g3,2,none⟩=some (.slice j3 x2.length j4):=aA X3.out 2;have y_0:W5.cell? ⟨g4,0,none⟩=some (.int .i64 y0):=aA X4.out 0;have y_1:W5.cell? ⟨g4,1,none⟩=some (.int .i64 y1):=aA X4.out 1;have y_2:W5.cell? ⟨g4,2,none⟩=some (.slice j5 y2.length j6):=aA X4.out 2;have u0:W5.cell? ⟨g2,0,none⟩=some (.int .i64 0):=aA B2.out 0;have u1:W5.cell? ⟨g2,1,none⟩=some (.int .i64 0):=aA B2.out 1;have u2:W5.cell? ⟨g2,2,none⟩=some (.slice none 0 0):=aA B2.out 2;have f0:=aH B2.out 0;have f1:=aH B2.out 1;have f2:=aH B2.out 2)|((with_reducible refine bJ (N:=52) rfl ?_);refine Kd.AU mF w.heap.size 28 rfl (N:=52) rfl (w0:=w) (xs:=[(⟨x0,x1,x2⟩:S28),(⟨y0,y1,y2⟩:S28)]) (inner:=[(.int .i64 x0),(.int .i64 x1),(.slice j3 x2.length j4),(.int .i64 y0),(.int .i64 y1),(.slice j5 y2.length j6)]) (ok:=fun q=>w.heap.size≤q∧q≠g2) (fun j q=>((j=0∧q < hA)∨(j=1∧hA≤q))∧w.heap.size≤q∧q≠g2) ?hr rfl ?hrep ?hap (fun j q hq=>hq.2) ?hfr HB.out HB.out.size (by simp) ?_;(case hr=>first|(go_simp;done)|(go_simp;rfl));(case hrep=>(intro j x hj;rcases j with _| _|j;(obtain rfl:=Option.some.inj hj;exact kF _ _ _ (⟨x0,x1,x2⟩:S28) (Kd.fE S4.out (fun q hq=>⟨.inl ⟨rfl,hq.1⟩,hq.2⟩)));(obtain rfl:=Option.some.inj hj;exact kF _ _ _ (⟨y0,y1,y2⟩:S28) (Kd.fE S9.out (fun q hq=>⟨.inr ⟨rfl,hq.1⟩,hq.2⟩)));exact absurd hj (by simp)));(case hap=>(intro i j q h1 h2;rcases h1.1 with ⟨rfl,a⟩|⟨rfl,a⟩ <;> rcases h2.1 with ⟨rfl,b⟩|⟨rfl,b⟩ <;> omega));(case hfr=>exact ⟨HB.out.size,by have:=dM B2.out;omega⟩);intro v9 W9 hs hb9 hg9 _;obtain ⟨B9,d9,e9⟩:=Kd.gI hs;replace e9:v9= .slice B9 2 d9:=e9;subst e9;have SR:=am hs;replace HB:=am hb9;replace B2:=am (iM B2.out hg9 (by simp));clear hs hb9 hg9 z0 x_0 x_1 x_2 y_0 y_1 y_2 u0 u1 u2 f0 f1 f2 X3 X4 B1 S4 S9;have u0:W9.cell? ⟨g2,0,none⟩=some (.int .i64 0):=aA B2.out 0;have u1:W9.cell? ⟨g2,1,none⟩=some (.int .i64 0):=aA B2.out 1;have u2:W9.cell? ⟨g2,2,none⟩=some (.slice none 0 0):=aA B2.out 2;have f0:=aH B2.out 0;have f1:=aH B2.out 1;have f2:=aH B2.out 2)|fail)
     refine bodyPost_ret (results_cell_row rfl _ _ g2 28 #[(.int .i64 a0),(.int .i64 0), .slice B9 2 d9] (0,0) _ rfl (aT (aT (aT B2.out 0 _ rfl) 1 _ rfl) 2 _ rfl) Try.underlying28 rfl (by kernel_rfl)) rfl ?_
     exact ⟨_,rfl,Kd.fE (Kd.eD (p:=⟨g2,2,none⟩) (Kd.eD (p:=⟨g2,1,none⟩) (Kd.eD (p:=⟨g2,0,none⟩) SR.out (fun q hq=>hq.2) _) (fun q hq=>hq.2) _) (fun q hq=>hq.2) _) (fun q hq=>hq.1),below_set (below_set (below_set HB.out j9.out) j9.out) j9.out⟩
    ·have ji:decide (0≤n)=false:=decide_eq_false h1
     clear h1 h4
     simp only [Prod.mk.injEq] at h3
     obtain ⟨rfl,rfl,rfl⟩:=h3
     go_wp2_with (first|((with_reducible refine aD (f:=62) rfl ?_);refine aU (some 39) rfl rfl Try.func62 (by kernel_rfl) rfl #[.int .i64 a0, .int .i64 x1, .int .i64 y1] rfl (by (try simp only [List.map_toArray,List.map_cons,List.map_nil]);first|done|rfl) ?_;(with_reducible refine (iL.callsB a0 x1 y1 n _ HN.out).mono ?_);rintro e W5 ⟨rfl,hb⟩;refine ⟨_,rfl,?_⟩;replace S4:=am (Kd.fC S4.out hb);replace S9:=am (Kd.fC S9.out hb);replace X3:=am (aJ X3.out hb);replace X4:=am (aJ X4.out hb);replace B1:=am (aJ B1.out hb);replace B2:=am (aJ B2.out hb);replace HB:=am (aC HB.out hb);clear hb z0 x_0 x_1 x_2 y_0 y_1 y_2 u0 u1 u2 f0 f1 f2;have z0:W5.cell? ⟨g1,0,none⟩=some (.int .i64 a0):=aA B1.out 0;have x_0:W5.cell? ⟨g3,0,none⟩=some (.int .i64 x0):=aA X3.out 0;have x_1:W5.cell? ⟨g3,1,none⟩=some (.int .i64 x1):=aA X3.out 1;have x_2:W5.cell? ⟨g3,2,none⟩=some (.slice j3 x2.length j4):=aA X3.out 2;have y_0:W5.cell? ⟨g4,0,none⟩=some (.int .i64 y0):=aA X4.out 0;have y_1:W5.cell? ⟨g4,1,none⟩=some (.int .i64 y1):=aA X4.out 1;have y_2:W5.cell? ⟨g4,2,none⟩=some (.slice j5 y2.length j6):=aA X4.out 2;have u0:W5.cell? ⟨g2,0,none⟩=some (.int .i64 0):=aA B2.out 0;have u1:W5.cell? ⟨g2,1,none⟩=some (.int .i64 0):=aA B2.out 1;have u2:W5.cell? ⟨g2,2,none⟩=some (.slice none 0 0):=aA B2.out 2;have f0:=aH B2.out 0;have f1:=aH B2.out 1;have f2:=aH B2.out 2)|((with_reducible refine bJ (N:=52) rfl ?_);refine Kd.AU mF w.heap.size 28 rfl (N:=52) rfl (w0:=w) (xs:=[(⟨x0,x1,x2⟩:S28),(⟨y0,y1,y2⟩:S28)]) (inner:=[(.int .i64 x0),(.int .i64 x1),(.slice j3 x2.length j4),(.int .i64 y0),(.int .i64 y1),(.slice j5 y2.length j6)]) (ok:=fun q=>w.heap.size≤q∧q≠g2) (fun j q=>((j=0∧q < hA)∨(j=1∧hA≤q))∧w.heap.size≤q∧q≠g2) ?hr rfl ?hrep ?hap (fun j q hq=>hq.2) ?hfr HB.out HB.out.size (by simp) ?_;(case hr=>first|(go_simp;done)|(go_simp;rfl));(case hrep=>(intro j x hj;rcases j with _| _|j;(obtain rfl:=Option.some.inj hj;exact kF _ _ _ (⟨x0,x1,x2⟩:S28) (Kd.fE S4.out (fun q hq=>⟨.inl ⟨rfl,hq.1⟩,hq.2⟩)));(obtain rfl:=Option.some.inj hj;exact kF _ _ _ (⟨y0,y1,y2⟩:S28) (Kd.fE S9.out (fun q hq=>⟨.inr ⟨rfl,hq.1⟩,hq.2⟩)));exact absurd hj (by simp)));(case hap=>(intro i j q h1 h2;rcases h1.1 with ⟨rfl,a⟩|⟨rfl,a⟩ <;> rcases h2.1 with ⟨rfl,b⟩|⟨rfl,b⟩ <;> omega));(case hfr=>exact ⟨HB.out.size,by have:=dM B2.out;omega⟩);intro v9 W9 hs hb9 hg9 _;obtain ⟨B9,d9,e9⟩:=Kd.gI hs;replace e9:v9= .slice B9 2 d9:=e9;subst e9;have SR:=am hs;replace HB:=am hb9;replace B2:=am (iM B2.out hg9 (by simp));clear hs hb9 hg9 z0 x_0 x_1 x_2 y_0 y_1 y_2 u0 u1 u2 f0 f1 f2 X3 X4 B1 S4 S9;have u0:W9.cell? ⟨g2,0,none⟩=some (.int .i64 0):=aA B2.out 0;have u1:W9.cell? ⟨g2,1,none⟩=some (.int .i64 0):=aA B2.out 1;have u2:W9.cell? ⟨g2,2,none⟩=some (.slice none 0 0):=aA B2.out 2;have f0:=aH B2.out 0;have f1:=aH B2.out 1;have f2:=aH B2.out 2)|fail)
     refine bodyPost_ret (results_cell_row rfl _ _ g2 28 #[(.int .i64 a0),(.int .i64 0), .slice B9 2 d9] (0,0) _ rfl (aT (aT (aT B2.out 0 _ rfl) 1 _ rfl) 2 _ rfl) Try.underlying28 rfl (by kernel_rfl)) rfl ?_
     exact ⟨_,rfl,Kd.fE (Kd.eD (p:=⟨g2,2,none⟩) (Kd.eD (p:=⟨g2,1,none⟩) (Kd.eD (p:=⟨g2,0,none⟩) SR.out (fun q hq=>hq.2) _) (fun q hq=>hq.2) _) (fun q hq=>hq.2) _) (fun q hq=>hq.1),below_set (below_set (below_set HB.out j9.out) j9.out) j9.out⟩
  ·by_cases h1:x0=0
   ·have e0:(x0 == 0)=true:=beq_iff_eq.mpr h1
    have e1:(y0 == 0)=false:=beq_eq_false_iff_ne.mpr (fun h2=>h4 ⟨h1,h2⟩)
    clear h1 h4
    simp only [Prod.mk.injEq] at h3
    obtain ⟨rfl,rfl,rfl⟩:=h3
    go_wp2_with (first|((with_reducible refine bJ (N:=52) rfl ?_);refine Kd.AU mF w.heap.size 28 rfl (N:=52) rfl (w0:=w) (xs:=[(⟨x0,x1,x2⟩:S28),(⟨y0,y1,y2⟩:S28)]) (inner:=[(.int .i64 x0),(.int .i64 x1),(.slice j3 x2.length j4),(.int .i64 y0),(.int .i64 y1),(.slice j5 y2.length j6)]) (ok:=fun q=>w.heap.size≤q∧q≠g2) (fun j q=>((j=0∧q < hA)∨(j=1∧hA≤q))∧w.heap.size≤q∧q≠g2) ?hr rfl ?hrep ?hap (fun j q hq=>hq.2) ?hfr HB.out HB.out.size (by simp) ?_;(case hr=>first|(go_simp;done)|(go_simp;rfl));(case hrep=>(intro j x hj;rcases j with _| _|j;(obtain rfl:=Option.some.inj hj;exact kF _ _ _ (⟨x0,x1,x2⟩:S28) (Kd.fE S4.out (fun q hq=>⟨.inl ⟨rfl,hq.1⟩,hq.2⟩)));(obtain rfl:=Option.some.inj hj;exact kF _ _ _ (⟨y0,y1,y2⟩:S28) (Kd.fE S9.out (fun q hq=>⟨.inr ⟨rfl,hq.1⟩,hq.2⟩)));exact absurd hj (by simp)));(case hap=>(intro i j q h1 h2;rcases h1.1 with ⟨rfl,a⟩|⟨rfl,a⟩ <;> rcases h2.1 with ⟨rfl,b⟩|⟨rfl,b⟩ <;> omega));(case hfr=>exact ⟨HB.out.size,by have:=dM B2.out;omega⟩);intro v9 W9 hs hb9 hg9 _;obtain ⟨B9,d9,e9⟩:=Kd.gI hs;replace e9:v9= .slice B9 2 d9:=e9;subst e9;have SR:=am hs;replace HB:=am hb9;replace B2:=am (iM B2.out hg9 (by simp));clear hs hb9 hg9 z0 x_0 x_1 x_2 y_0 y_1 y_2 u0 u1 u2 f0 f1 f2 X3 X4 B1 S4 S9;have u0:W9.cell? ⟨g2,0,none⟩=some (.int .i64 0):=aA B2.out 0;have u1:W9.cell? ⟨g2,1,none⟩=some (.int .i64 0):=aA B2.out 1;have u2:W9.cell? ⟨g2,2,none⟩=some (.slice none 0 0):=aA B2.out 2;have f0:=aH B2.out 0;have f1:=aH B2.out 1;have f2:=aH B2.out 2)|fail)
    refine bodyPost_ret (results_cell_row rfl _ _ g2 28 #[(.int .i64 a0),(.int .i64 0), .slice B9 2 d9] (0,0) _ rfl (aT (aT (aT B2.out 0 _ rfl) 1 _ rfl) 2 _ rfl) Try.underlying28 rfl (by kernel_rfl)) rfl ?_
    exact ⟨_,rfl,Kd.fE (Kd.eD (p:=⟨g2,2,none⟩) (Kd.eD (p:=⟨g2,1,none⟩) (Kd.eD (p:=⟨g2,0,none⟩) SR.out (fun q hq=>hq.2) _) (fun q hq=>hq.2) _) (fun q hq=>hq.2) _) (fun q hq=>hq.1),below_set (below_set (below_set HB.out j9.out) j9.out) j9.out⟩
   ·have e0:(x0 == 0)=false:=beq_eq_false_iff_ne.mpr h1
    clear h1 h4
    simp only [Prod.mk.injEq] at h3
    obtain ⟨rfl,rfl,rfl⟩:=h3
    go_wp2_with (first|((with_reducible refine bJ (N:=52) rfl ?_);refine Kd.AU mF w.heap.size 28 rfl (N:=52) rfl (w0:=w) (xs:=[(⟨x0,x1,x2⟩:S28),(⟨y0,y1,y2⟩:S28)]) (inner:=[(.int .i64 x0),(.int .i64 x1),(.slice j3 x2.length j4),(.int .i64 y0),(.int .i64 y1),(.slice j5 y2.length j6)]) (ok:=fun q=>w.heap.size≤q∧q≠g2) (fun j q=>((j=0∧q < hA)∨(j=1∧hA≤q))∧w.heap.size≤q∧q≠g2) ?hr rfl ?hrep ?hap (fun j q hq=>hq.2) ?hfr HB.out HB.out.size (by simp) ?_;(case hr=>first|(go_simp;done)|(go_simp;rfl));(case hrep=>(intro j x hj;rcases j with _| _|j;(obtain rfl:=Option.some.inj hj;exact kF _ _ _ (⟨x0,x1,x2⟩:S28) (Kd.fE S4.out (fun q hq=>⟨.inl ⟨rfl,hq.1⟩,hq.2⟩)));(obtain rfl:=Option.some.inj hj;exact kF _ _ _ (⟨y0,y1,y2⟩:S28) (Kd.fE S9.out (fun q hq=>⟨.inr ⟨rfl,hq.1⟩,hq.2⟩)));exact absurd hj (by simp)));(case hap=>(intro i j q h1 h2;rcases h1.1 with ⟨rfl,a⟩|⟨rfl,a⟩ <;> rcases h2.1 with ⟨rfl,b⟩|⟨rfl,b⟩ <;> omega));(case hfr=>exact ⟨HB.out.size,by have:=dM B2.out;omega⟩);intro v9 W9 hs hb9 hg9 _;obtain ⟨B9,d9,e9⟩:=Kd.gI hs;replace e9:v9= .slice B9 2 d9:=e9;subst e9;have SR:=am hs;replace HB:=am hb9;replace B2:=am (iM B2.out hg9 (by simp));clear hs hb9 hg9 z0 x_0 x_1 x_2 y_0 y_1 y_2 u0 u1 u2 f0 f1 f2 X3 X4 B1 S4 S9;have u0:W9.cell? ⟨g2,0,none⟩=some (.int .i64 0):=aA B2.out 0;have u1:W9.cell? ⟨g2,1,none⟩=some (.int .i64 0):=aA B2.out 1;have u2:W9.cell? ⟨g2,2,none⟩=some (.slice none 0 0):=aA B2.out 2;have f0:=aH B2.out 0;have f1:=aH B2.out 1;have f2:=aH B2.out 2)|fail)
    refine bodyPost_ret (results_cell_row rfl _ _ g2 28 #[(.int .i64 a0),(.int .i64 0), .slice B9 2 d9] (0,0) _ rfl (aT (aT (aT B2.out 0 _ rfl) 1 _ rfl) 2 _ rfl) Try.underlying28 rfl (by kernel_rfl)) rfl ?_
    exact ⟨_,rfl,Kd.fE (Kd.eD (p:=⟨g2,2,none⟩) (Kd.eD (p:=⟨g2,1,none⟩) (Kd.eD (p:=⟨g2,0,none⟩) SR.out (fun q hq=>hq.2) _) (fun q hq=>hq.2) _) (fun q hq=>hq.2) _) (fun q hq=>hq.1),below_set (below_set (below_set HB.out j9.out) j9.out) j9.out⟩
theorem bI.calls (k:Nat):∀ (j4:Int) (j5:Int) (j6:Option Addr) (j7:Nat) (j3:List (S28)) (r1:Int) (r2:Int) (r3:List (S28)) (w:World) (hr0_2:Kd.C k28 w j6 j3.length j3) (hc0_2:j3.length≤j7) (h:bI.f k j4 j5 j3=some (r1,r2,r3)),
  Calls Try.prog 32 #[.agg #[.int .i64 j4, .int .i64 j5, .slice j6 j3.length j7]] w fun e w'=>∃ v2_:Value,e= .returned (.agg #[.int .i64 r1, .int .i64 r2,v2_])∧Kd.N k28 28 w' w.heap.size (fun k_=>(w.heap.size≤k_)) v2_ r3∧Below w.heap.size w w':=by
 intro a0 a1 A0 c0 l r1 r2 r3 w hr hc h
 refine (bI.callsS k a0 a1 A0 c0 l r1 r2 r3 w hr hc h).mono ?_
 rintro e w' ⟨v,rfl,hs,hb⟩
 exact ⟨v,rfl,Kd.R_N (aBq hs),hb⟩
theorem aM.mono_l:∀ k,(∀ y0,LeO (aM.f k y0) (aM.f (k + 1) y0))∧(∀ y0 y1 y2 y3,LeO (aM.l0 k y0 y1 y2 y3) (aM.l0 (k + 1) y0 y1 y2 y3))∧(∀ y0 y1 y2 y3 y4 y5 y6 y7 y8 y9 j3 j4 j5 j6,LeO (aM.j1 k y0 y1 y2 y3 y4 y5 y6 y7 y8 y9 j3 j4 j5 j6) (aM.j1 (k + 1) y0 y1 y2 y3 y4 y5 y6 y7 y8 y9 j3 j4 j5 j6))∧(∀ y0 y1 y2 y3 y4 y5 y6 y7 y8 y9 j3 j4 j5 j6,LeO (aM.j2 k y0 y1 y2 y3 y4 y5 y6 y7 y8 y9 j3 j4 j5 j6) (aM.j2 (k + 1) y0 y1 y2 y3 y4 y5 y6 y7 y8 y9 j3 j4 j5 j6))
 |0=>⟨fun _ r h=>by simp [aM.f] at h,fun _ _ _ _ r h=>by simp [aM.l0] at h,fun _ _ _ _ _ _ _ _ _ _ _ _ _ _ r h=>by simp [aM.j1] at h,fun _ _ _ _ _ _ _ _ _ _ _ _ _ _ r h=>by simp [aM.j2] at h⟩
 |k + 1=>by
  obtain ⟨ih0,ih1,ih2,ih3⟩:=aM.mono_l k
  refine ⟨?_,?_,?_,?_⟩
  ·intro y0
   unfold aM.f
   have m0:=@bI.mono
   exact mo_
  ·intro y0 y1 y2 y3
   unfold aM.l0
   have m0:=@bI.mono
   exact mo_
  ·intro y0 y1 y2 y3 y4 y5 y6 y7 y8 y9 j3 j4 j5 j6
   unfold aM.j1
   have m0:=@bI.mono
   exact mo_
  ·intro y0 y1 y2 y3 y4 y5 y6 y7 y8 y9 j3 j4 j5 j6
   unfold aM.j2
   have m0:=@bI.mono
   exact mo_
theorem aM.mono:∀ a0 k,LeO (aM.f k a0) (aM.f (k + 1) a0):=by
 intro a0 k
 obtain ⟨ih0,ih1,ih2,ih3⟩:=aM.mono_l k
 exact ih0 a0
def RD (d:Kd S70):Kd S70:=Kd.iso (Kd.pair (Kd.int .i64) (Kd.pair (Kd.int .i64) (Kd.pair (Kd.int .i64) (OD mF (OD (xU 70 d) (xU 70 d)))))) (fun x:S70=>(x.f0,x.f1,x.f2,x.f3,x.f4,x.f5))
theorem monoS70:Kd.mR RD:=Kd.mono_iso _ (Kd.mono_pair (Kd.mono_const _) (Kd.mono_pair (Kd.mono_const _) (Kd.mono_pair (Kd.mono_const _) (mono_pairS (Kd.mono_const _) (mono_pairS (mono_sliceS 70 Kd.mono_id) (mono_sliceS 70 Kd.mono_id))))))
theorem aBw:Kd.Sub RD [28,70]:=Kd.uR _ (Kd.iI (Kd.sub_const _ (by decide)) (Kd.iI (Kd.sub_const _ (by decide)) (Kd.iI (Kd.sub_const _ (by decide)) (EN (Kd.sub_const _ (by decide)) (EN (vY 70 (by decide) Kd.sH) (vY 70 (by decide) Kd.sH))))))
theorem LA:∀ n,(Kd.upto RD 8 [28,70] n).sz=8:=Kd.uS (fun _=>rfl)
def lS:Kd S70:=Kd.fix RD 8 [28,70] LA (Kd.wC aBw)
theorem nA {w:World} {base:Nat} {ok:Nat→Prop} {x:S70} {cs:List Value} (h:lS.M w base ok x cs):∃ v5 v6 v7 p5 p6 p7,cs=[.int .i64 x.f0, .int .i64 x.f1, .int .i64 x.f2, .int .i64 x.f3.f0, .int .i64 x.f3.f1,v5,v6,v7]∧Kd.S mF 28 w base p5 v5 x.f3.f2∧Kd.S lS 70 w base p6 v6 x.f4∧Kd.S lS 70 w base p7 v7 x.f5∧(∀ k,p5 k∨p6 k∨p7 k→ok k)∧(∀ k,(p5 k→¬ p6 k∧¬ p7 k)∧(p6 k→¬ p7 k)):=by
 obtain ⟨n,h⟩:=h
 cases n with
 |zero=>exact h.elim
 |succ n=>
  obtain ⟨_,_,rfl,rfl,⟨_,_,rfl,rfl,⟨_,_,rfl,rfl,⟨p,_,_,rfl,hM,⟨q,_,_,rfl,⟨v6,rfl,g6⟩,⟨v7,rfl,g7⟩⟩⟩⟩⟩⟩:=h
  obtain ⟨v5,rfl,g5⟩:=rZ hM
  exact ⟨v5,v6,v7,_,_,_,rfl,g5,SQ g6,SQ g7,fun k hk=>by rcases hk with hk|hk|hk;exact hk.1;exact hk.1.1;exact hk.1.1,fun k=>⟨fun h=>⟨fun h2=>h2.1.2 h.2,fun h2=>h2.1.2 h.2⟩,fun h h2=>h2.2 h.2⟩⟩
theorem mO (w:World) (base:Nat) (ok p5 p6 p7:Nat→Prop) (x:S70) {v5 v6 v7:Value} (g5:Kd.S mF 28 w base p5 v5 x.f3.f2) (g6:Kd.S lS 70 w base p6 v6 x.f4) (g7:Kd.S lS 70 w base p7 v7 x.f5) (h:∀ k,p5 k∨p6 k∨p7 k→ok k) (ha:∀ k,(p5 k→¬ p6 k∧¬ p7 k)∧(p6 k→¬ p7 k)):
  lS.M w base ok x [.int .i64 x.f0, .int .i64 x.f1, .int .i64 x.f2, .int .i64 x.f3.f0, .int .i64 x.f3.f1,v5,v6,v7]:=by
 obtain ⟨n6,r6⟩:=vN monoS70 g6
 obtain ⟨n7,r7⟩:=vN monoS70 g7
 replace r6:=ES monoS70 LA (show n6≤n6 + n7 by omega) r6
 replace r7:=ES monoS70 LA (show n7≤n6 + n7 by omega) r7
 have hE:=kF w base _ x.f3 (Kd.fE g5 (fun k hk=>(⟨h k (.inl hk),hk⟩:ok k∧p5 k)))
 exact ⟨n6 + n7 + 1,[.int .i64 x.f0],_,rfl,rfl,[.int .i64 x.f1],_,rfl,rfl,[.int .i64 x.f2],_,rfl,rfl,p5,[.int .i64 x.f3.f0, .int .i64 x.f3.f1,v5],[v6,v7],rfl,hE,p6,[v6],[v7],rfl,⟨v6,rfl,Kd.fE r6 (fun k hk=>⟨⟨h k (.inr (.inl hk)),fun e=>((ha k).1 e).1 hk⟩,hk⟩)⟩,⟨v7,rfl,Kd.fE r7 (fun k hk=>⟨⟨h k (.inr (.inr hk)),fun e=>((ha k).1 e).2 hk⟩,fun e=>(ha k).2 e hk⟩)⟩⟩
theorem BO:∀ n {w base ok x cs},(Kd.upto RD 8 [28,70] n).M w base ok x cs→(Kd.upto F70 8 [28,70] n).M w base ok x cs
 |0,_,_,_,_,_,h=>h.elim
 |n + 1,w,base,ok,x,cs,h=>by
  obtain ⟨_,_,rfl,h0,⟨_,_,rfl,h1,⟨_,_,rfl,h2,⟨p,c5,_,rfl,g5,⟨q,_,_,rfl,⟨v6,rfl,g6⟩,⟨v7,rfl,g7⟩⟩⟩⟩⟩⟩:=h
  obtain ⟨m,g5⟩:=g5
  exact ⟨_,_,rfl,h0,_,_,rfl,h1,_,_,rfl,h2,c5,[v6,v7],rfl,⟨m,Kd.M_mono _ (fun k hk=>hk.1) (BN m g5)⟩,[v6],[v7],rfl,⟨v6,rfl,Kd.xZ (by rw [LA n,TW n]) (fun _ _ _ _ _ hp=>BO n hp) (Kd.gL (Kd.S_R g6) (fun k hk=>hk.1.1))⟩,⟨v7,rfl,Kd.xZ (by rw [LA n,TW n]) (fun _ _ _ _ _ hp=>BO n hp) (Kd.gL (Kd.S_R g7) (fun k hk=>hk.1.1))⟩⟩
theorem TI {w:World} {base:Nat} {ok:Nat→Prop} {v:Value} {xs:List S70} (h:Kd.S lS 70 w base ok v xs):k70.R 70 w base ok v xs:=
 Kd.xZ (d:=lS) (d':=k70) rfl (fun w base ok x cs hp=>by obtain ⟨n,hp⟩:=hp;exact ⟨n,BO n hp⟩) (Kd.S_R h)
structure FSF (w W0:World) (gb:Nat) (B3:Option Addr) (d3:Nat) (x3:List S70) (f0 f1 f2 e0 e1:Int) (e2:List S28) (A5:Option Addr) (c5:Nat) (bd:List S70) (A6:Option Addr) (c6:Nat) (el:List S70) (A7:Option Addr) (c7:Nat) (x0 x1:Int) (x2:List S28) (yb ye:List S70) (B5:Option Addr) (d5:Nat) (B6:Option Addr) (d6:Nat) (B7:Option Addr) (d7 h1 h2:Nat) (b2 b5 b8 b10 b12 b14:Bool) (W:World):Prop where
 hB:Below w.heap.size w W
 hs:W0.heap.size≤W.heap.size
 hO:Kd.S lS 70 W w.heap.size (fun q=>(w.heap.size≤q∧q≠gb)∧q < W0.heap.size) (.slice B3 x3.length d3) x3
 h1_:b2=true→W0.heap.size≤h1∧h1≤W.heap.size
 h2_:b5=true→h1≤h2∧h2≤W.heap.size
 h6:b2=true→Kd.S lS 70 W w.heap.size (fun q=>W0.heap.size≤q∧q < h1) (.slice B6 yb.length d6) yb
 h7:b5=true→Kd.S lS 70 W w.heap.size (fun q=>h1≤q∧q < h2) (.slice B7 ye.length d7) ye
 h5:b8=true→Kd.S mF 28 W w.heap.size (fun q=>h2≤q) (.slice B5 x2.length d5) x2
 hX:W.heap[gb]?=some (.cells (cond b14 #[(.int .i64 f0),(.int .i64 f1),(.int .i64 f2),(.int .i64 x0),(.int .i64 x1),(.slice B5 x2.length d5),(.slice B6 yb.length d6),(.slice B7 ye.length d7)] (cond b12 #[(.int .i64 f0),(.int .i64 f1),(.int .i64 f2),(.int .i64 e0),(.int .i64 e1),(.slice A5 e2.length c5),(.slice B6 yb.length d6),(.slice B7 ye.length d7)] (cond b10 #[(.int .i64 f0),(.int .i64 f1),(.int .i64 f2),(.int .i64 e0),(.int .i64 e1),(.slice A5 e2.length c5),(.slice B6 yb.length d6),(.slice A7 el.length c7)] #[(.int .i64 f0),(.int .i64 f1),(.int .i64 f2),(.int .i64 e0),(.int .i64 e1),(.slice A5 e2.length c5),(.slice A6 bd.length c6),(.slice A7 el.length c7)]))) 70 (0,0))
def aSF (w W0:World) (gb:Nat) (ad:Addr) (c0:Nat) (l:List S70) (x9:Int) (B3:Option Addr) (d3:Nat) (x3:List S70) (f0 f1 f2 e0 e1:Int) (e2:List S28) (A5:Option Addr) (c5:Nat) (bd:List S70) (A6:Option Addr) (c6:Nat) (el:List S70) (A7:Option Addr) (c7:Nat) (x0 x1:Int) (x2:List S28) (yb ye:List S70) (u6 u13 u14 u15 u16 u17 u18 u19 u20 u21 u22 u23 u24 u25 u26 u27 u28 u29 u30 u31 u32 u33 u34 u35 u36 u37 u38 u39 u40 u41 u42 u43 u44 u45 u46 u47 u48 u49 u50 u51 u52 u53 u54 u55 u56 u57 u58 u59 u60 u61 u62 u63 u64 u65 u66 u67 u68 u69 u70 u71 u72 u73 u74:Value) (B5:Option Addr) (d5:Nat) (B6:Option Addr) (d6:Nat) (B7:Option Addr) (d7:Nat) (h1:Nat) (h2:Nat) (b0 b1 b2 b3 b4 b5 b6 b7 b8 b9 b10 b11 b12 b13 b14:Bool):Act:=
 { tmps:=#[(.slice (some ad) l.length c0),undef,(.slice none 0 0),(.slice B3 x3.length d3),undef,(.pointer (some ⟨gb,0,none⟩)),u6,(.slice (some ad) l.length c0),(.int .i64 (l.length:Int)),(.int .i64 x9),(.bool true),(.pointer (some (ad.add (x9.toNat * 8)))),(.agg #[(.int .i64 f0),(.int .i64 f1),(.int .i64 f2),(.int .i64 e0),(.int .i64 e1),(.slice A5 e2.length c5),(.slice A6 bd.length c6),(.slice A7 el.length c7)]),cond b0 (.pointer (some ⟨gb,6,none⟩)) u13,cond b1 (.slice A6 bd.length c6) u14,cond b2 (.slice B6 yb.length d6) u15,cond b3 (.pointer (some ⟨gb,7,none⟩)) u16,cond b4 (.slice A7 el.length c7) u17,cond b5 (.slice B7 ye.length d7) u18,cond b6 (.pointer (some ⟨gb,3,none⟩)) u19,cond b7 (.agg #[(.int .i64 e0),(.int .i64 e1),(.slice A5 e2.length c5)]) u20,cond b8 (.agg #[(.int .i64 x0),(.int .i64 x1),(.slice B5 x2.length d5)]) u21,cond b9 (.pointer (some ⟨gb,6,none⟩)) u22,cond b11 (.pointer (some ⟨gb,7,none⟩)) u23,cond b13 (.pointer (some ⟨gb,3,none⟩)) u24,u25,u26,u27,u28,u29,u30,u31,u32,u33,u34,u35,u36,u37,u38,u39,u40,u41,u42,u43,u44,u45,u46,u47,u48,u49,u50,u51,u52,u53,u54,u55,u56,u57,u58,u59,u60,u61,u62,u63,u64,u65,u66,u67,u68,u69,u70,u71,u72,u73,u74,undef],defers:=[] }
def LSF (w W0:World) (gb:Nat) (ad:Addr) (c0:Nat) (l:List S70) (x9:Int) (B3:Option Addr) (d3:Nat) (x3:List S70) (f0 f1 f2 e0 e1:Int) (e2:List S28) (A5:Option Addr) (c5:Nat) (bd:List S70) (A6:Option Addr) (c6:Nat) (el:List S70) (A7:Option Addr) (c7:Nat) (x0 x1:Int) (x2:List S28) (yb ye:List S70) (u6 u13 u14 u15 u16 u17 u18 u19 u20 u21 u22 u23 u24 u25 u26 u27 u28 u29 u30 u31 u32 u33 u34 u35 u36 u37 u38 u39 u40 u41 u42 u43 u44 u45 u46 u47 u48 u49 u50 u51 u52 u53 u54 u55 u56 u57 u58 u59 u60 u61 u62 u63 u64 u65 u66 u67 u68 u69 u70 u71 u72 u73 u74:Value) (b0 b1 b2 b3 b4 b5 b6 b7 b8 b9 b10 b11 b12 b13 b14:Bool) (a:Act) (W:World):Prop:=
 ∃ (B5:Option Addr) (d5:Nat) (B6:Option Addr) (d6:Nat) (B7:Option Addr) (d7:Nat) (h1:Nat) (h2:Nat),a=aSF w W0 gb ad c0 l x9 B3 d3 x3 f0 f1 f2 e0 e1 e2 A5 c5 bd A6 c6 el A7 c7 x0 x1 x2 yb ye u6 u13 u14 u15 u16 u17 u18 u19 u20 u21 u22 u23 u24 u25 u26 u27 u28 u29 u30 u31 u32 u33 u34 u35 u36 u37 u38 u39 u40 u41 u42 u43 u44 u45 u46 u47 u48 u49 u50 u51 u52 u53 u54 u55 u56 u57 u58 u59 u60 u61 u62 u63 u64 u65 u66 u67 u68 u69 u70 u71 u72 u73 u74 B5 d5 B6 d6 B7 d7 h1 h2 b0 b1 b2 b3 b4 b5 b6 b7 b8 b9 b10 b11 b12 b13 b14∧FSF w W0 gb B3 d3 x3 f0 f1 f2 e0 e1 e2 A5 c5 bd A6 c6 el A7 c7 x0 x1 x2 yb ye B5 d5 B6 d6 B7 d7 h1 h2 b2 b5 b8 b10 b12 b14 W
theorem aM.tail {k:Nat} {x3 l:List S70} {n i f0 f1 f2 x0 x1:Int} {x2:List S28} {yb ye r:List S70} (h:(if f0=2 then (if x0=0 then (aM.j1 k x3 (x0 == 0) l n i (x1 != 0) f0 f1 f2 x0 x1 x2 yb ye) else (aM.j1 k x3 (x0 == 0) l n i false f0 f1 f2 x0 x1 x2 yb ye)) else (aM.j1 k x3 (x0 == 0) l n i false f0 f1 f2 x0 x1 x2 yb ye))=some r):
  ∃ k',k' < k∧(((f0 == 2)=true∧(x0 == 0)=true∧(x1 != 0)=true∧x3.length + yb.length < 1256584717458∧aM.l0 k' (x3 ++ yb) l n (wrap64 (i + 1))=some r)∨((f0 == 2)=true∧(x0 == 0)=true∧(x1 != 0)=false∧x3.length + ye.length < 1256584717458∧aM.l0 k' (x3 ++ ye) l n (wrap64 (i + 1))=some r)
   ∨((f0 == 2)=false∧(f0 == 3)=true∧(x0 == 0)=true∧(x1 == 0)=true∧aM.l0 k' x3 l n (wrap64 (i + 1))=some r)
   ∨(x3.length < 1256584717458∧aM.l0 k' (x3 ++ [(⟨f0,f1,f2,(⟨x0,x1,x2⟩:S28),yb,ye⟩:S70)]) l n (wrap64 (i + 1))=some r∧(((f0 == 2)=true∧(f0 == 3)=false∧(x0 == 0)=false)∨((f0 == 2)=false∧(f0 == 3)=true∧(x0 == 0)=true∧(x1 == 0)=false)∨((f0 == 2)=false∧(f0 == 3)=true∧(x0 == 0)=false)∨((f0 == 2)=false∧(f0 == 3)=false∧(x0 == 0)=true)∨((f0 == 2)=false∧(f0 == 3)=false∧(x0 == 0)=false)))):=by
 cases k with
 |zero=>revert h;(repeat' split) <;> simp [aM.j1]
 |succ k=>
  cases k with
  |zero=>
   by_cases h2:f0=2 <;> by_cases h0:x0=0 <;> by_cases h1:x1=0 <;> simp [aM.j1,aM.j2,aM.l0,h2,h0,h1] at h
  |succ k=>
   by_cases h2:f0=2
   ·have h3:¬ f0=3:=by omega
    by_cases h0:x0=0
    ·by_cases h1:x1=0
     ·simp only [aM.j1,aM.j2,h2,h0,h1,if_true,bne_self_eq_false,Bool.false_eq_true,if_false,beq_self_eq_true] at h
      by_cases c:x3.length + ye.length < 1256584717458
      ·rw [if_pos c] at h
       exact ⟨k,by omega, .inr (.inl ⟨by simp [h2],by simp [h0],by simp [h1],c,h⟩)⟩
      rw [if_neg c] at h
      cases h
     ·have h1':(x1 != 0)=true:=bne_iff_ne.mpr h1
      simp only [aM.j1,h2,h0,h1',if_true] at h
      by_cases c:x3.length + yb.length < 1256584717458
      ·rw [if_pos c] at h
       exact ⟨k + 1,by omega, .inl ⟨by simp [h2],by simp [h0],h1',c,h⟩⟩
      rw [if_neg c] at h
      cases h
    have h0':(x0 == 0)=false:=beq_eq_false_iff_ne.mpr h0
    have j3:¬ ((2:Int)=3):=by decide
    simp only [aM.j1,aM.j2,h2,h0,h0',if_true,if_false,Bool.false_eq_true,j3] at h
    by_cases c:x3.length < 1256584717458
    ·rw [if_pos c] at h
     exact ⟨k,by omega, .inr (.inr (.inr ⟨c,by rw [h2];exact h, .inl ⟨by simp [h2],by simp [h3],h0'⟩⟩))⟩
    rw [if_neg c] at h
    cases h
   have h2':(f0 == 2)=false:=beq_eq_false_iff_ne.mpr h2
   simp only [aM.j1,aM.j2,h2,if_false,Bool.false_eq_true] at h
   by_cases h3:f0=3
   ·rw [if_pos h3] at h
    by_cases h0:x0=0
    ·rw [if_pos (by simp [h0])] at h
     by_cases h1:x1=0
     ·rw [if_pos h1] at h
      exact ⟨k,by omega, .inr (.inr (.inl ⟨h2',by simp [h3],by simp [h0],by simp [h1],h⟩))⟩
     rw [if_neg h1] at h
     by_cases c:x3.length < 1256584717458
     ·rw [if_pos c] at h
      exact ⟨k,by omega, .inr (.inr (.inr ⟨c,h, .inr (.inl ⟨h2',by simp [h3],by simp [h0],by simp [h1]⟩)⟩))⟩
     rw [if_neg c] at h
     cases h
    rw [if_neg (by simp [h0])] at h
    by_cases c:x3.length < 1256584717458
    ·rw [if_pos c] at h
     exact ⟨k,by omega, .inr (.inr (.inr ⟨c,h, .inr (.inr (.inl ⟨h2',by simp [h3],by simp [h0]⟩))⟩))⟩
    rw [if_neg c] at h
    cases h
   rw [if_neg h3] at h
   by_cases c:x3.length < 1256584717458
   ·rw [if_pos c] at h
    refine ⟨k,by omega, .inr (.inr (.inr ⟨c,h,?_⟩))⟩
    by_cases h0:x0=0
    ·exact .inr (.inr (.inr (.inl ⟨h2',by simp [h3],by simp [h0]⟩)))
    exact .inr (.inr (.inr (.inr ⟨h2',by simp [h3],by simp [h0]⟩)))
   rw [if_neg c] at h
   cases h
theorem aM.callsS (k:Nat):∀ (A0:Option Addr) (c0:Nat) (l:List (S70)) (r:List (S70)) (w:World) (hr0:Kd.C k70 w A0 l.length l) (hc0:l.length≤c0) (h:aM.f k l=some r),
  Calls Try.prog 41 #[.slice A0 l.length c0] w fun e w'=>∃ v0_:Value,e= .returned (v0_)∧Kd.S lS 70 w' w.heap.size (fun q=>w.heap.size≤q) v0_ r∧Below w.heap.size w w':=by
 induction k using Nat.strongRecOn with
 | _ k ih=>
 intro A0 c0 l r w hr0 hc0 h
 cases k with
 |zero=>exact absurd h (by simp [aM.f])
 |succ k=>
 simp only [aM.f] at h
 have jg:=am hr0
 have ji:=am hc0
 have H':=am h
 have HB:=am (Below.refl w.heap.size w)
 clear hr0 hc0 h
 go_enter Try.func41,Try.ntmps41
 go_wp2
 go_loopg [3,9] k (fun kq v3 v9 w'=>∃ (x3:List S70) (x9:Int),v9= .int .i64 x9∧Aside0 (aM.l0 kq x3 l (l.length:Int) x9=some r)∧Aside0 (kq≤k)∧Aside0 (Kd.S lS 70 w' w.heap.size (fun q=>w.heap.size≤q) v3 x3)∧Aside0 (Below w.heap.size w w'))
 case atStart=>exact ⟨[],0,(by first|rfl|(simp;done)),H',⟨Nat.le_refl _⟩,⟨Kd.oP _ _ _ _ _⟩,HB⟩
 case round=>
  clear H' HB
  obtain ⟨x3,x9,rfl,HA,j8,HO,HB⟩:=hrel
  obtain ⟨B3,d3,rfl⟩:=Kd.gI HO.out
  cases gk with
  |zero=>exact absurd HA.out (by simp [aM.l0])
  |succ k1=>
   have H:=HA.out
   clear HA
   simp only [aM.l0] at H
   by_cases hlt:x9 < (l.length:Int)
   case neg=>
    rw [if_neg hlt] at H
    have jc:decide (x9 < (l.length:Int))=false:=decide_eq_false hlt
    clear hlt
    obtain rfl:=Option.some.inj H
    go_wp2
    go_ret
    exact ⟨_,rfl,HO.out,HB.out⟩
   rw [if_pos hlt] at H
   by_cases hge:0≤x9
   case neg=>rw [if_neg hge] at H;exact absurd H (by simp)
   rw [if_pos hge,if_pos hlt] at H
   obtain ⟨ad,A5,c5,A6,c6,A7,c7,e0_,m0,m1,m2,m3,m4,m5,m6,m7,l5,g5,l6,g6,l7,g7⟩:=eY jg.out x9 hge hlt
   cases e0_
   rcases hx:aG l x9 with ⟨f0,f1,f2,⟨e0,e1,e2⟩,bd,el⟩
   rw [hx] at H m0 m1 m2 m3 m4 m5 m6 m7 l5 g5 l6 g6 l7 g7
   dsimp only at H m0 m1 m2 m3 m4 m5 m6 m7 l5 g5 l6 g6 l7 g7
   clear hx
   obtain ⟨yb,hb1,H⟩:=bsm H
   obtain ⟨ye,hb2,H⟩:=bsm H
   obtain ⟨⟨x0,x1,x2⟩,hb3,H⟩:=bsm H
   dsimp only at hb3 H
   have HBD:=am hb1
   have HEL:=am hb2
   have HEX:=am hb3
   have HT:=am H
   have hb_:=HB.out
   replace m0:=(hb_.cell (World.block_lt_of_cell? w _ m0)).trans m0
   replace m1:=(hb_.cell (World.block_lt_of_cell? w _ m1)).trans m1
   replace m2:=(hb_.cell (World.block_lt_of_cell? w _ m2)).trans m2
   replace m3:=(hb_.cell (World.block_lt_of_cell? w _ m3)).trans m3
   replace m4:=(hb_.cell (World.block_lt_of_cell? w _ m4)).trans m4
   replace m5:=(hb_.cell (World.block_lt_of_cell? w _ m5)).trans m5
   replace m6:=(hb_.cell (World.block_lt_of_cell? w _ m6)).trans m6
   replace m7:=(hb_.cell (World.block_lt_of_cell? w _ m7)).trans m7
   have G5:=am g5
   have G6:=am g6
   have G7:=am g7
   have L5:=am l5
   have L6:=am l6
   have L7:=am l7
   have jc:decide (x9 < (l.length:Int))=true:=decide_eq_true hlt
   have q0:=eq_true hge
   have q1:=eq_true hlt
   clear g5 g6 g7 l5 l6 l7 hlt hge hb1 hb2 hb3 H hb_
   go_upto_region 5 with fail
   have hb:Below wr.heap.size wr (wr.alloc (.cells #[(.int .i64 f0),(.int .i64 f1),(.int .i64 f2),(.int .i64 e0),(.int .i64 e1),(.slice A5 e2.length c5),(.slice A6 bd.length c6),(.slice A7 el.length c7)] 70)):=cB (Below.refl _ _) _
   have tX:=am (rT wr (.cells #[(.int .i64 f0),(.int .i64 f1),(.int .i64 f2),(.int .i64 e0),(.int .i64 e1),(.slice A5 e2.length c5),(.slice A6 bd.length c6),(.slice A7 el.length c7)] 70))
   have GW:Aside0 (w.heap.size≤wr.heap.size):=⟨HB.out.size⟩
   have tO:=am (Kd.fC (Kd.RS HO.out wr.heap.size (Nat.le_refl _)) hb)
   have tB:=am (aC HB.out hb)
   clear hb HB HO m0 m1 m2 m3 m4 m5 m6 m7 q0 q1 jc
   generalize wr.alloc (.cells #[(.int .i64 f0),(.int .i64 f1),(.int .i64 f2),(.int .i64 e0),(.int .i64 e1),(.slice A5 e2.length c5),(.slice A6 bd.length c6),(.slice A7 el.length c7)] 70)=w6 at tX tO tB ⊢
   generalize wr.heap.size=gb at tX tO GW ⊢
   refine wp_region_any (by kernel_rfl) ?_
   have HB:=am (bX tB.out)
   have HO:=am (Kd.FB tO.out)
   have X:=am (eH tX.out)
   show wpAny _ _ _ _ _ _ _ w6.drew
   clear tB tO tX
   generalize w6.drew=W0 at HB HO X ⊢
   have GL:=am (dM X.out)
   refine FC (n:=15) (T:=(true,[([],[]),([0],[0]),([1],[1]),([],[]),([3],[3]),([4,2],[4]),([],[]),([6],[6]),([7,5],[7]),([0,1,2,3,4,6,7],[]),([9,2,8,0,1,2,3,4,6,7],[2,9]),([0,1,2,3,4,5,6,7,9,10],[]),([11,5,10,0,1,2,3,4,5,6,7,9,10],[5,11]),([0,1,2,3,4,5,6,7,8,9,10,11,12],[]),([13,8,12,0,1,2,3,4,5,6,7,8,9,10,11,12],[8,13])])) rfl (by kernel_rfl) (by decide) (fun b a W=>LSF w W0 gb ad c0 l x9 B3 d3 x3 f0 f1 f2 e0 e1 e2 A5 c5 bd A6 c6 el A7 c7 x0 x1 x2 yb ye u6 u13 u14 u15 u16 u17 u18 u19 u20 u21 u22 u23 u24 u25 u26 u27 u28 u29 u30 u31 u32 u33 u34 u35 u36 u37 u38 u39 u40 u41 u42 u43 u44 u45 u46 u47 u48 u49 u50 u51 u52 u53 u54 u55 u56 u57 u58 u59 u60 u61 u62 u63 u64 u65 u66 u67 u68 u69 u70 u71 u72 u73 u74 (b 0) (b 1) (b 2) (b 3) (b 4) (b 5) (b 6) (b 7) (b 8) (b 9) (b 10) (b 11) (b 12) (b 13) (b 14) a W) ?hstep ?hdone _ _ ?hstart
   case hstart=>exact ⟨none,0,none,0,none,0,0,0,rfl,⟨HB.out,Nat.le_refl _,Kd.fE (Kd.iD HO.out) (fun q hq=>⟨hq.1,hq.2.2.1⟩),(fun e=>Bool.noConfusion e),(fun e=>Bool.noConfusion e),(fun e=>Bool.noConfusion e),(fun e=>Bool.noConfusion e),(fun e=>Bool.noConfusion e),X.out⟩⟩
   case hstep=>
    intro i b a W hi hbi hneed hcl hI
    have hcase:i=0∨i=1∨i=2∨i=3∨i=4∨i=5∨i=6∨i=7∨i=8∨i=9∨i=10∨i=11∨i=12∨i=13∨i=14:=by omega
    rcases hcase with rfl|rfl|rfl|rfl|rfl|rfl|rfl|rfl|rfl|rfl|rfl|rfl|rfl|rfl|rfl
    ·
     have z1:=zz_ (fun h=>hcl 1 _ h rfl 0 (by decide)) hbi
     have z2:=zz_ (fun h=>hcl 2 _ h rfl 1 (by decide)) z1
     have z5:=zz_ (fun h=>hcl 5 _ h rfl 2 (by decide)) z2
     have z8:=zz_ (fun h=>hcl 8 _ h rfl 5 (by decide)) z5
     have z9:=zz_ (fun h=>hcl 9 _ h rfl 0 (by decide)) hbi
     have j6:=zz_ (fun h=>hcl 10 _ h rfl 8 (by decide)) z8
     have j7:=zz_ (fun h=>hcl 11 _ h rfl 5 (by decide)) z5
     have j5:=zz_ (fun h=>hcl 12 _ h rfl 5 (by decide)) z5
     have j3:=zz_ (fun h=>hcl 13 _ h rfl 8 (by decide)) z8
     have j4:=zz_ (fun h=>hcl 14 _ h rfl 13 (by decide)) j3
     simp only [hbi,z1,z2,z5,z8,z9,j6,j7,j5,j3,j4] at hI
     obtain ⟨B5,d5,B6,d6,B7,d7,h1,h2,rfl,h⟩:=hI
     refine wpOp_step rfl (fun K' hK'=>?_)
     simp (decide:=true) only [if_true,if_false,reduceIte,z1,z2,z5,z8,z9,j6,j7,j5,j3,j4] at hK'
     refine fT (W:=W) (w1:=W) (v:=?_) (by rfl) ?_ ?_
     rotate_left
     ·(try simp only [aSF,cond_true,cond_false])
      go_simp
      first|with_reducible rfl|rfl
     refine hK' _ _ (⟨B5,d5,B6,d6,B7,d7,h1,h2,?_,h⟩)
     show Act.put _ (some 13) _=_
     simp only [aSF,Act.put,List.setIfInBounds_toArray,List.set_cons_zero,List.set_cons_succ,gT,gZ]
     rfl
    ·
     have hn_:=hneed _ rfl
     have n0:=hn_ 0 (by decide)
     have z2:=zz_ (fun h=>hcl 2 _ h rfl 1 (by decide)) hbi
     have z5:=zz_ (fun h=>hcl 5 _ h rfl 2 (by decide)) z2
     have z8:=zz_ (fun h=>hcl 8 _ h rfl 5 (by decide)) z5
     have z9:=zz_ (fun h=>hcl 9 _ h rfl 1 (by decide)) hbi
     have j6:=zz_ (fun h=>hcl 10 _ h rfl 8 (by decide)) z8
     have j7:=zz_ (fun h=>hcl 11 _ h rfl 5 (by decide)) z5
     have j5:=zz_ (fun h=>hcl 12 _ h rfl 5 (by decide)) z5
     have j3:=zz_ (fun h=>hcl 13 _ h rfl 8 (by decide)) z8
     have j4:=zz_ (fun h=>hcl 14 _ h rfl 13 (by decide)) j3
     simp only [hbi,n0,z2,z5,z8,z9,j6,j7,j5,j3,j4] at hI
     obtain ⟨B5,d5,B6,d6,B7,d7,h1,h2,rfl,h⟩:=hI
     refine wpOp_step rfl (fun K' hK'=>?_)
     simp (decide:=true) only [if_true,if_false,reduceIte,n0,z2,z5,z8,z9,j6,j7,j5,j3,j4] at hK'
     have z6:W.cell? ⟨gb,6,none⟩=some (.slice A6 bd.length c6):=aA (show W.heap[gb]?=some (.cells #[(.int .i64 f0),(.int .i64 f1),(.int .i64 f2),(.int .i64 e0),(.int .i64 e1),(.slice A5 e2.length c5),(.slice A6 bd.length c6),(.slice A7 el.length c7)] 70 (0,0)) from h.hX) 6
     refine fT (W:=W) (w1:=W) (v:=?_) (by rfl) ?_ ?_
     rotate_left
     ·(try simp only [aSF,cond_true,cond_false])
      go_simp
      first|with_reducible rfl|rfl
     refine hK' _ _ (⟨B5,d5,B6,d6,B7,d7,h1,h2,?_,h⟩)
     show Act.put _ (some 14) _=_
     simp only [aSF,Act.put,List.setIfInBounds_toArray,List.set_cons_zero,List.set_cons_succ,gT,gZ]
     rfl
    ·
     have hn_:=hneed _ rfl
     have n1:=hn_ 1 (by decide)
     have n0:=hcl 1 _ n1 rfl 0 (by decide)
     have z5:=zz_ (fun h=>hcl 5 _ h rfl 2 (by decide)) hbi
     have z8:=zz_ (fun h=>hcl 8 _ h rfl 5 (by decide)) z5
     have z9:=zz_ (fun h=>hcl 9 _ h rfl 2 (by decide)) hbi
     have j6:=zz_ (fun h=>hcl 10 _ h rfl 8 (by decide)) z8
     have j7:=zz_ (fun h=>hcl 11 _ h rfl 5 (by decide)) z5
     have j5:=zz_ (fun h=>hcl 12 _ h rfl 5 (by decide)) z5
     have j3:=zz_ (fun h=>hcl 13 _ h rfl 8 (by decide)) z8
     have j4:=zz_ (fun h=>hcl 14 _ h rfl 13 (by decide)) j3
     simp only [hbi,n0,n1,z5,z8,z9,j6,j7,j5,j3,j4] at hI
     obtain ⟨B5,d5,B6,d6,B7,d7,h1,h2,rfl,h⟩:=hI
     refine wpOp_step rfl (fun K' hK'=>?_)
     simp (decide:=true) only [if_true,if_false,reduceIte,n0,n1,z5,z8,z9,j6,j7,j5,j3,j4] at hK'
     refine lH Try.func41 (by kernel_rfl) rfl #[(.slice A6 bd.length c6)] (by rfl) rfl rfl (by (try simp only [List.map_toArray,List.map_cons,List.map_nil]);first|done|rfl) ?_
     refine (ih k1 (by have:=j8.out;omega) _ _ bd yb _ (Kd.aI G6.out h.hB) L6.out HBD.out).mono ?_
     rintro e W' ⟨v,rfl,hn,hb⟩
     obtain ⟨B_,d_,rfl⟩:=Kd.gI hn
     have hle:=hb.size
     have hwl:=h.hB.size
     have ja:=Kd.iR (Kd.iD hn) hwl
     refine ⟨_,rfl,hK' _ _ (⟨B5,d5,B_,d_,B7,d7,W'.heap.size,h2,?_,⟨aC h.hB hb,Nat.le_trans h.hs hle,Kd.fC h.hO hb,(fun _=>⟨Nat.le_trans h.hs hle,Nat.le_refl _⟩),(fun e=>Bool.noConfusion e),(fun _=>Kd.fE ja (fun q hq=>⟨Nat.le_trans h.hs hq.1,hq.2.2.1⟩)),(fun e=>Bool.noConfusion e),(fun e=>Bool.noConfusion e),aJ h.hX hb⟩⟩)⟩
     show Act.put _ (some 15) _=_
     simp only [aSF,Act.put,List.setIfInBounds_toArray,List.set_cons_zero,List.set_cons_succ]
     rfl
    ·
     have z4:=zz_ (fun h=>hcl 4 _ h rfl 3 (by decide)) hbi
     have z5:=zz_ (fun h=>hcl 5 _ h rfl 4 (by decide)) z4
     have z8:=zz_ (fun h=>hcl 8 _ h rfl 5 (by decide)) z5
     have z9:=zz_ (fun h=>hcl 9 _ h rfl 3 (by decide)) hbi
     have j6:=zz_ (fun h=>hcl 10 _ h rfl 8 (by decide)) z8
     have j7:=zz_ (fun h=>hcl 11 _ h rfl 5 (by decide)) z5
     have j5:=zz_ (fun h=>hcl 12 _ h rfl 5 (by decide)) z5
     have j3:=zz_ (fun h=>hcl 13 _ h rfl 8 (by decide)) z8
     have j4:=zz_ (fun h=>hcl 14 _ h rfl 13 (by decide)) j3
     simp only [hbi,z4,z5,z8,z9,j6,j7,j5,j3,j4] at hI
     obtain ⟨B5,d5,B6,d6,B7,d7,h1,h2,rfl,h⟩:=hI
     refine wpOp_step rfl (fun K' hK'=>?_)
     simp (decide:=true) only [if_true,if_false,reduceIte,z4,z5,z8,z9,j6,j7,j5,j3,j4] at hK'
     refine fT (W:=W) (w1:=W) (v:=?_) (by rfl) ?_ ?_
     rotate_left
     ·(try simp only [aSF,cond_true,cond_false])
      go_simp
      first|with_reducible rfl|rfl
     refine hK' _ _ (⟨B5,d5,B6,d6,B7,d7,h1,h2,?_,h⟩)
     show Act.put _ (some 16) _=_
     simp only [aSF,Act.put,List.setIfInBounds_toArray,List.set_cons_zero,List.set_cons_succ,gT,gZ]
     rfl
    ·
     have hn_:=hneed _ rfl
     have n3:=hn_ 3 (by decide)
     have z5:=zz_ (fun h=>hcl 5 _ h rfl 4 (by decide)) hbi
     have z8:=zz_ (fun h=>hcl 8 _ h rfl 5 (by decide)) z5
     have z9:=zz_ (fun h=>hcl 9 _ h rfl 4 (by decide)) hbi
     have j6:=zz_ (fun h=>hcl 10 _ h rfl 8 (by decide)) z8
     have j7:=zz_ (fun h=>hcl 11 _ h rfl 5 (by decide)) z5
     have j5:=zz_ (fun h=>hcl 12 _ h rfl 5 (by decide)) z5
     have j3:=zz_ (fun h=>hcl 13 _ h rfl 8 (by decide)) z8
     have j4:=zz_ (fun h=>hcl 14 _ h rfl 13 (by decide)) j3
     simp only [hbi,n3,z5,z8,z9,j6,j7,j5,j3,j4] at hI
     obtain ⟨B5,d5,B6,d6,B7,d7,h1,h2,rfl,h⟩:=hI
     refine wpOp_step rfl (fun K' hK'=>?_)
     simp (decide:=true) only [if_true,if_false,reduceIte,n3,z5,z8,z9,j6,j7,j5,j3,j4] at hK'
     have z7:W.cell? ⟨gb,7,none⟩=some (.slice A7 el.length c7):=aA (show W.heap[gb]?=some (.cells #[(.int .i64 f0),(.int .i64 f1),(.int .i64 f2),(.int .i64 e0),(.int .i64 e1),(.slice A5 e2.length c5),(.slice A6 bd.length c6),(.slice A7 el.length c7)] 70 (0,0)) from h.hX) 7
     refine fT (W:=W) (w1:=W) (v:=?_) (by rfl) ?_ ?_
     rotate_left
     ·(try simp only [aSF,cond_true,cond_false])
      go_simp
      first|with_reducible rfl|rfl
     refine hK' _ _ (⟨B5,d5,B6,d6,B7,d7,h1,h2,?_,h⟩)
     show Act.put _ (some 17) _=_
     simp only [aSF,Act.put,List.setIfInBounds_toArray,List.set_cons_zero,List.set_cons_succ,gT,gZ]
     rfl
    ·
     have hn_:=hneed _ rfl
     have n2:=hn_ 2 (by decide)
     have n4:=hn_ 4 (by decide)
     have n1:=hcl 2 _ n2 rfl 1 (by decide)
     have n3:=hcl 4 _ n4 rfl 3 (by decide)
     have n0:=hcl 1 _ n1 rfl 0 (by decide)
     have z8:=zz_ (fun h=>hcl 8 _ h rfl 5 (by decide)) hbi
     have j6:=zz_ (fun h=>hcl 10 _ h rfl 8 (by decide)) z8
     have j7:=zz_ (fun h=>hcl 11 _ h rfl 5 (by decide)) hbi
     have j5:=zz_ (fun h=>hcl 12 _ h rfl 5 (by decide)) hbi
     have j3:=zz_ (fun h=>hcl 13 _ h rfl 8 (by decide)) z8
     have j4:=zz_ (fun h=>hcl 14 _ h rfl 13 (by decide)) j3
     simp only [hbi,n0,n1,n2,n3,n4,z8,j6,j7,j5,j3,j4] at hI
     obtain ⟨B5,d5,B6,d6,B7,d7,h1,h2,rfl,h⟩:=hI
     refine wpOp_step rfl (fun K' hK'=>?_)
     simp (decide:=true) only [if_true,if_false,reduceIte,n0,n1,n2,n3,n4,z8,j6,j7,j5,j3,j4] at hK'
     refine lH Try.func41 (by kernel_rfl) rfl #[(.slice A7 el.length c7)] (by rfl) rfl rfl (by (try simp only [List.map_toArray,List.map_cons,List.map_nil]);first|done|rfl) ?_
     refine (ih k1 (by have:=j8.out;omega) _ _ el ye _ (Kd.aI G7.out h.hB) L7.out HEL.out).mono ?_
     rintro e W' ⟨v,rfl,hn,hb⟩
     obtain ⟨B_,d_,rfl⟩:=Kd.gI hn
     have hle:=hb.size
     have hwl:=h.hB.size
     have ja:=Kd.iR (Kd.iD hn) hwl
     refine ⟨_,rfl,hK' _ _ (⟨B5,d5,B6,d6,B_,d_,h1,W'.heap.size,?_,⟨aC h.hB hb,Nat.le_trans h.hs hle,Kd.fC h.hO hb,(fun e=>⟨(h.h1_ e).1,Nat.le_trans (h.h1_ e).2 hle⟩),(fun _=>⟨Nat.le_trans (h.h1_ rfl).2 hle,Nat.le_refl _⟩),(fun e=>Kd.fC (h.h6 e) hb),(fun _=>Kd.fE ja (fun q hq=>⟨Nat.le_trans (h.h1_ rfl).2 hq.1,hq.2.2.1⟩)),(fun e=>Bool.noConfusion e),aJ h.hX hb⟩⟩)⟩
     show Act.put _ (some 18) _=_
     simp only [aSF,Act.put,List.setIfInBounds_toArray,List.set_cons_zero,List.set_cons_succ]
     rfl
    ·
     have z7:=zz_ (fun h=>hcl 7 _ h rfl 6 (by decide)) hbi
     have z8:=zz_ (fun h=>hcl 8 _ h rfl 7 (by decide)) z7
     have z9:=zz_ (fun h=>hcl 9 _ h rfl 6 (by decide)) hbi
     have j6:=zz_ (fun h=>hcl 10 _ h rfl 8 (by decide)) z8
     have j7:=zz_ (fun h=>hcl 11 _ h rfl 10 (by decide)) j6
     have j5:=zz_ (fun h=>hcl 12 _ h rfl 10 (by decide)) j6
     have j3:=zz_ (fun h=>hcl 13 _ h rfl 8 (by decide)) z8
     have j4:=zz_ (fun h=>hcl 14 _ h rfl 13 (by decide)) j3
     simp only [hbi,z7,z8,z9,j6,j7,j5,j3,j4] at hI
     obtain ⟨B5,d5,B6,d6,B7,d7,h1,h2,rfl,h⟩:=hI
     refine wpOp_step rfl (fun K' hK'=>?_)
     simp (decide:=true) only [if_true,if_false,reduceIte,z7,z8,z9,j6,j7,j5,j3,j4] at hK'
     refine fT (W:=W) (w1:=W) (v:=?_) (by rfl) ?_ ?_
     rotate_left
     ·(try simp only [aSF,cond_true,cond_false])
      go_simp
      first|with_reducible rfl|rfl
     refine hK' _ _ (⟨B5,d5,B6,d6,B7,d7,h1,h2,?_,h⟩)
     show Act.put _ (some 19) _=_
     simp only [aSF,Act.put,List.setIfInBounds_toArray,List.set_cons_zero,List.set_cons_succ,gT,gZ]
     rfl
    ·
     have hn_:=hneed _ rfl
     have n6:=hn_ 6 (by decide)
     have z8:=zz_ (fun h=>hcl 8 _ h rfl 7 (by decide)) hbi
     have z9:=zz_ (fun h=>hcl 9 _ h rfl 7 (by decide)) hbi
     have j6:=zz_ (fun h=>hcl 10 _ h rfl 8 (by decide)) z8
     have j7:=zz_ (fun h=>hcl 11 _ h rfl 10 (by decide)) j6
     have j5:=zz_ (fun h=>hcl 12 _ h rfl 10 (by decide)) j6
     have j3:=zz_ (fun h=>hcl 13 _ h rfl 8 (by decide)) z8
     have j4:=zz_ (fun h=>hcl 14 _ h rfl 13 (by decide)) j3
     simp only [hbi,n6,z8,z9,j6,j7,j5,j3,j4] at hI
     obtain ⟨B5,d5,B6,d6,B7,d7,h1,h2,rfl,h⟩:=hI
     refine wpOp_step rfl (fun K' hK'=>?_)
     simp (decide:=true) only [if_true,if_false,reduceIte,n6,z8,z9,j6,j7,j5,j3,j4] at hK'
     have z3:W.cell? ⟨gb,3,none⟩=some (.int .i64 e0):=aA (show W.heap[gb]?=some (.cells #[(.int .i64 f0),(.int .i64 f1),(.int .i64 f2),(.int .i64 e0),(.int .i64 e1),(.slice A5 e2.length c5),(.slice A6 bd.length c6),(.slice A7 el.length c7)] 70 (0,0)) from h.hX) 3
     have z4:W.cell? ⟨gb,4,none⟩=some (.int .i64 e1):=aA (show W.heap[gb]?=some (.cells #[(.int .i64 f0),(.int .i64 f1),(.int .i64 f2),(.int .i64 e0),(.int .i64 e1),(.slice A5 e2.length c5),(.slice A6 bd.length c6),(.slice A7 el.length c7)] 70 (0,0)) from h.hX) 4
     have z5:W.cell? ⟨gb,5,none⟩=some (.slice A5 e2.length c5):=aA (show W.heap[gb]?=some (.cells #[(.int .i64 f0),(.int .i64 f1),(.int .i64 f2),(.int .i64 e0),(.int .i64 e1),(.slice A5 e2.length c5),(.slice A6 bd.length c6),(.slice A7 el.length c7)] 70 (0,0)) from h.hX) 5
     refine fT (W:=W) (w1:=W) (v:=(.agg #[(.int .i64 e0),(.int .i64 e1),(.slice A5 e2.length c5)])) (by rfl) ?_ ?_
     ·(try simp only [aSF,cond_true,cond_false])
      go_simp
      (try rfl)
     refine hK' _ _ (⟨B5,d5,B6,d6,B7,d7,h1,h2,?_,h⟩)
     show Act.put _ (some 20) _=_
     simp only [aSF,Act.put,List.setIfInBounds_toArray,List.set_cons_zero,List.set_cons_succ,gT,gZ]
     rfl
    ·
     have hn_:=hneed _ rfl
     have n5:=hn_ 5 (by decide)
     have n7:=hn_ 7 (by decide)
     have n2:=hcl 5 _ n5 rfl 2 (by decide)
     have n4:=hcl 5 _ n5 rfl 4 (by decide)
     have n6:=hcl 7 _ n7 rfl 6 (by decide)
     have n1:=hcl 2 _ n2 rfl 1 (by decide)
     have n3:=hcl 4 _ n4 rfl 3 (by decide)
     have n0:=hcl 1 _ n1 rfl 0 (by decide)
     have j6:=zz_ (fun h=>hcl 10 _ h rfl 8 (by decide)) hbi
     have j7:=zz_ (fun h=>hcl 11 _ h rfl 10 (by decide)) j6
     have j5:=zz_ (fun h=>hcl 12 _ h rfl 10 (by decide)) j6
     have j3:=zz_ (fun h=>hcl 13 _ h rfl 8 (by decide)) hbi
     have j4:=zz_ (fun h=>hcl 14 _ h rfl 13 (by decide)) j3
     simp only [hbi,n0,n1,n2,n3,n4,n5,n6,n7,j6,j7,j5,j3,j4] at hI
     obtain ⟨B5,d5,B6,d6,B7,d7,h1,h2,rfl,h⟩:=hI
     refine wpOp_step rfl (fun K' hK'=>?_)
     simp (decide:=true) only [if_true,if_false,reduceIte,n0,n1,n2,n3,n4,n5,n6,n7,j6,j7,j5,j3,j4] at hK'
     refine lH Try.func32 (by kernel_rfl) rfl #[(.agg #[(.int .i64 e0),(.int .i64 e1),(.slice A5 e2.length c5)])] (by rfl) rfl rfl (by (try simp only [List.map_toArray,List.map_cons,List.map_nil]);first|done|rfl) ?_
     refine (bI.callsS k1 e0 e1 _ _ e2 x0 x1 x2 _ (Kd.aI G5.out h.hB) L5.out HEX.out).mono ?_
     rintro e W' ⟨v,rfl,hn,hb⟩
     obtain ⟨B_,d_,rfl⟩:=Kd.gI hn
     have hle:=hb.size
     have hwl:=h.hB.size
     have ja:=Kd.iR (Kd.iD hn) hwl
     refine ⟨_,rfl,hK' _ _ (⟨B_,d_,B6,d6,B7,d7,h1,h2,?_,⟨aC h.hB hb,Nat.le_trans h.hs hle,Kd.fC h.hO hb,(fun e=>⟨(h.h1_ e).1,Nat.le_trans (h.h1_ e).2 hle⟩),(fun e=>⟨(h.h2_ e).1,Nat.le_trans (h.h2_ e).2 hle⟩),(fun e=>Kd.fC (h.h6 e) hb),(fun e=>Kd.fC (h.h7 e) hb),(fun _=>Kd.fE ja (fun q hq=>Nat.le_trans (h.h2_ rfl).2 hq.1)),aJ h.hX hb⟩⟩)⟩
     show Act.put _ (some 21) _=_
     simp only [aSF,Act.put,List.setIfInBounds_toArray,List.set_cons_zero,List.set_cons_succ]
     rfl
    ·
     have hn_:=hneed _ rfl
     have n0:=hn_ 0 (by decide)
     have n1:=hn_ 1 (by decide)
     have n2:=hn_ 2 (by decide)
     have n3:=hn_ 3 (by decide)
     have n4:=hn_ 4 (by decide)
     have n6:=hn_ 6 (by decide)
     have n7:=hn_ 7 (by decide)
     have j6:=zz_ (fun h=>hcl 10 _ h rfl 9 (by decide)) hbi
     have j7:=zz_ (fun h=>hcl 11 _ h rfl 10 (by decide)) j6
     have j5:=zz_ (fun h=>hcl 12 _ h rfl 10 (by decide)) j6
     have j3:=zz_ (fun h=>hcl 13 _ h rfl 12 (by decide)) j5
     have j4:=zz_ (fun h=>hcl 14 _ h rfl 13 (by decide)) j3
     simp only [hbi,n0,n1,n2,n3,n4,n6,n7,j6,j7,j5,j3,j4] at hI
     obtain ⟨B5,d5,B6,d6,B7,d7,h1,h2,rfl,h⟩:=hI
     refine wpOp_step rfl (fun K' hK'=>?_)
     simp (decide:=true) only [if_true,if_false,reduceIte,n0,n1,n2,n3,n4,n6,n7,j6,j7,j5,j3,j4] at hK'
     refine fT (W:=W) (w1:=W) (v:=?_) (by rfl) ?_ ?_
     rotate_left
     ·(try simp only [aSF,cond_true,cond_false])
      go_simp
      first|with_reducible rfl|rfl
     refine hK' _ _ (⟨B5,d5,B6,d6,B7,d7,h1,h2,?_,h⟩)
     show Act.put _ (some 22) _=_
     simp only [aSF,Act.put,List.setIfInBounds_toArray,List.set_cons_zero,List.set_cons_succ,gT,gZ]
     rfl
    ·
     have hn_:=hneed _ rfl
     have n8:=hn_ 8 (by decide)
     have n9:=hn_ 9 (by decide)
     have n0:=hcl 9 _ n9 rfl 0 (by decide)
     have n1:=hcl 9 _ n9 rfl 1 (by decide)
     have n2:=hcl 9 _ n9 rfl 2 (by decide)
     have n3:=hcl 9 _ n9 rfl 3 (by decide)
     have n4:=hcl 9 _ n9 rfl 4 (by decide)
     have n5:=hcl 8 _ n8 rfl 5 (by decide)
     have n6:=hcl 9 _ n9 rfl 6 (by decide)
     have n7:=hcl 8 _ n8 rfl 7 (by decide)
     have j7:=zz_ (fun h=>hcl 11 _ h rfl 10 (by decide)) hbi
     have j5:=zz_ (fun h=>hcl 12 _ h rfl 10 (by decide)) hbi
     have j3:=zz_ (fun h=>hcl 13 _ h rfl 12 (by decide)) j5
     have j4:=zz_ (fun h=>hcl 14 _ h rfl 13 (by decide)) j3
     simp only [hbi,n0,n1,n2,n3,n4,n5,n6,n7,n8,n9,j7,j5,j3,j4] at hI
     obtain ⟨B5,d5,B6,d6,B7,d7,h1,h2,rfl,h⟩:=hI
     refine wpOp_step rfl (fun K' hK'=>?_)
     simp (decide:=true) only [if_true,if_false,reduceIte,n0,n1,n2,n3,n4,n5,n6,n7,n8,n9,j7,j5,j3,j4] at hK'
     have hgl:=GL.out
     have g1_:=(h.h1_ rfl).1
     have g2_:=(h.h2_ rfl).1
     have hbx:W.heap[gb]?=some (.cells #[(.int .i64 f0),(.int .i64 f1),(.int .i64 f2),(.int .i64 e0),(.int .i64 e1),(.slice A5 e2.length c5),(.slice A6 bd.length c6),(.slice A7 el.length c7)] 70 (0,0)):=h.hX
     have q6:W.cell? ⟨gb,6,none⟩=some (.slice A6 bd.length c6):=aA hbx 6
     have f6_:=aH hbx 6
     refine yG (w1:=(W.setCell ⟨gb,6,none⟩ (.slice B6 yb.length d6))) (by rfl) rfl ?_ ?_
     ·(try simp only [aSF,cond_true,cond_false])
      go_simp
      (try rfl)
     refine hK' _ _ (⟨B5,d5,B6,d6,B7,d7,h1,h2,rfl,⟨(below_set (j:=6) (v:=(.slice B6 yb.length d6)) h.hB GW.out),Nat.le_trans h.hs (by simp [World.setCell]),(Kd.eD (p:=⟨gb,6,none⟩) h.hO (fun q hq=>hq.1.2) (.slice B6 yb.length d6)),(fun e=>⟨(h.h1_ e).1,Nat.le_trans (h.h1_ e).2 (by simp [World.setCell])⟩),(fun e=>⟨(h.h2_ e).1,Nat.le_trans (h.h2_ e).2 (by simp [World.setCell])⟩),fun _=>(Kd.eD (p:=⟨gb,6,none⟩) (h.h6 rfl) (fun q hq=>show q≠gb by have:=hq.1;omega) (.slice B6 yb.length d6)),fun _=>(Kd.eD (p:=⟨gb,6,none⟩) (h.h7 rfl) (fun q hq=>show q≠gb by have:=hq.1;omega) (.slice B6 yb.length d6)),fun _=>(Kd.eD (p:=⟨gb,6,none⟩) (h.h5 rfl) (fun q hq=>show q≠gb by omega) (.slice B6 yb.length d6)),(aT (cs':=#[(.int .i64 f0),(.int .i64 f1),(.int .i64 f2),(.int .i64 e0),(.int .i64 e1),(.slice A5 e2.length c5),(.slice B6 yb.length d6),(.slice A7 el.length c7)]) hbx 6 (.slice B6 yb.length d6) rfl)⟩⟩)
    ·
     have hn_:=hneed _ rfl
     have n5:=hn_ 5 (by decide)
     have n10:=hn_ 10 (by decide)
     have n2:=hcl 5 _ n5 rfl 2 (by decide)
     have n4:=hcl 5 _ n5 rfl 4 (by decide)
     have n8:=hcl 10 _ n10 rfl 8 (by decide)
     have n9:=hcl 10 _ n10 rfl 9 (by decide)
     have n0:=hcl 9 _ n9 rfl 0 (by decide)
     have n1:=hcl 2 _ n2 rfl 1 (by decide)
     have n3:=hcl 4 _ n4 rfl 3 (by decide)
     have n6:=hcl 9 _ n9 rfl 6 (by decide)
     have n7:=hcl 8 _ n8 rfl 7 (by decide)
     have j5:=zz_ (fun h=>hcl 12 _ h rfl 11 (by decide)) hbi
     have j3:=zz_ (fun h=>hcl 13 _ h rfl 12 (by decide)) j5
     have j4:=zz_ (fun h=>hcl 14 _ h rfl 13 (by decide)) j3
     simp only [hbi,n0,n1,n2,n3,n4,n5,n6,n7,n8,n9,n10,j5,j3,j4] at hI
     obtain ⟨B5,d5,B6,d6,B7,d7,h1,h2,rfl,h⟩:=hI
     refine wpOp_step rfl (fun K' hK'=>?_)
     simp (decide:=true) only [if_true,if_false,reduceIte,n0,n1,n2,n3,n4,n5,n6,n7,n8,n9,n10,j5,j3,j4] at hK'
     refine fT (W:=W) (w1:=W) (v:=?_) (by rfl) ?_ ?_
     rotate_left
     ·(try simp only [aSF,cond_true,cond_false])
      go_simp
      first|with_reducible rfl|rfl
     refine hK' _ _ (⟨B5,d5,B6,d6,B7,d7,h1,h2,?_,h⟩)
     show Act.put _ (some 23) _=_
     simp only [aSF,Act.put,List.setIfInBounds_toArray,List.set_cons_zero,List.set_cons_succ,gT,gZ]
     rfl
    ·
     have hn_:=hneed _ rfl
     have n5:=hn_ 5 (by decide)
     have n10:=hn_ 10 (by decide)
     have n11:=hn_ 11 (by decide)
     have n2:=hcl 5 _ n5 rfl 2 (by decide)
     have n4:=hcl 5 _ n5 rfl 4 (by decide)
     have n8:=hcl 10 _ n10 rfl 8 (by decide)
     have n9:=hcl 10 _ n10 rfl 9 (by decide)
     have n0:=hcl 9 _ n9 rfl 0 (by decide)
     have n1:=hcl 2 _ n2 rfl 1 (by decide)
     have n3:=hcl 4 _ n4 rfl 3 (by decide)
     have n6:=hcl 9 _ n9 rfl 6 (by decide)
     have n7:=hcl 8 _ n8 rfl 7 (by decide)
     have j3:=zz_ (fun h=>hcl 13 _ h rfl 12 (by decide)) hbi
     have j4:=zz_ (fun h=>hcl 14 _ h rfl 13 (by decide)) j3
     simp only [hbi,n0,n1,n2,n3,n4,n5,n6,n7,n8,n9,n10,n11,j3,j4] at hI
     obtain ⟨B5,d5,B6,d6,B7,d7,h1,h2,rfl,h⟩:=hI
     refine wpOp_step rfl (fun K' hK'=>?_)
     simp (decide:=true) only [if_true,if_false,reduceIte,n0,n1,n2,n3,n4,n5,n6,n7,n8,n9,n10,n11,j3,j4] at hK'
     have hgl:=GL.out
     have g1_:=(h.h1_ rfl).1
     have g2_:=(h.h2_ rfl).1
     have hbx:W.heap[gb]?=some (.cells #[(.int .i64 f0),(.int .i64 f1),(.int .i64 f2),(.int .i64 e0),(.int .i64 e1),(.slice A5 e2.length c5),(.slice B6 yb.length d6),(.slice A7 el.length c7)] 70 (0,0)):=h.hX
     have q7:W.cell? ⟨gb,7,none⟩=some (.slice A7 el.length c7):=aA hbx 7
     have f7_:=aH hbx 7
     refine yG (w1:=(W.setCell ⟨gb,7,none⟩ (.slice B7 ye.length d7))) (by rfl) rfl ?_ ?_
     ·(try simp only [aSF,cond_true,cond_false])
      go_simp
      (try rfl)
     refine hK' _ _ (⟨B5,d5,B6,d6,B7,d7,h1,h2,rfl,⟨(below_set (j:=7) (v:=(.slice B7 ye.length d7)) h.hB GW.out),Nat.le_trans h.hs (by simp [World.setCell]),(Kd.eD (p:=⟨gb,7,none⟩) h.hO (fun q hq=>hq.1.2) (.slice B7 ye.length d7)),(fun e=>⟨(h.h1_ e).1,Nat.le_trans (h.h1_ e).2 (by simp [World.setCell])⟩),(fun e=>⟨(h.h2_ e).1,Nat.le_trans (h.h2_ e).2 (by simp [World.setCell])⟩),fun _=>(Kd.eD (p:=⟨gb,7,none⟩) (h.h6 rfl) (fun q hq=>show q≠gb by have:=hq.1;omega) (.slice B7 ye.length d7)),fun _=>(Kd.eD (p:=⟨gb,7,none⟩) (h.h7 rfl) (fun q hq=>show q≠gb by have:=hq.1;omega) (.slice B7 ye.length d7)),fun _=>(Kd.eD (p:=⟨gb,7,none⟩) (h.h5 rfl) (fun q hq=>show q≠gb by omega) (.slice B7 ye.length d7)),(aT (cs':=#[(.int .i64 f0),(.int .i64 f1),(.int .i64 f2),(.int .i64 e0),(.int .i64 e1),(.slice A5 e2.length c5),(.slice B6 yb.length d6),(.slice B7 ye.length d7)]) hbx 7 (.slice B7 ye.length d7) rfl)⟩⟩)
    ·
     have hn_:=hneed _ rfl
     have n8:=hn_ 8 (by decide)
     have n12:=hn_ 12 (by decide)
     have n5:=hcl 8 _ n8 rfl 5 (by decide)
     have n7:=hcl 8 _ n8 rfl 7 (by decide)
     have n10:=hcl 12 _ n12 rfl 10 (by decide)
     have n11:=hcl 12 _ n12 rfl 11 (by decide)
     have n2:=hcl 5 _ n5 rfl 2 (by decide)
     have n4:=hcl 5 _ n5 rfl 4 (by decide)
     have n6:=hcl 7 _ n7 rfl 6 (by decide)
     have n9:=hcl 10 _ n10 rfl 9 (by decide)
     have n0:=hcl 9 _ n9 rfl 0 (by decide)
     have n1:=hcl 2 _ n2 rfl 1 (by decide)
     have n3:=hcl 4 _ n4 rfl 3 (by decide)
     have j4:=zz_ (fun h=>hcl 14 _ h rfl 13 (by decide)) hbi
     simp only [hbi,n0,n1,n2,n3,n4,n5,n6,n7,n8,n9,n10,n11,n12,j4] at hI
     obtain ⟨B5,d5,B6,d6,B7,d7,h1,h2,rfl,h⟩:=hI
     refine wpOp_step rfl (fun K' hK'=>?_)
     simp (decide:=true) only [if_true,if_false,reduceIte,n0,n1,n2,n3,n4,n5,n6,n7,n8,n9,n10,n11,n12,j4] at hK'
     refine fT (W:=W) (w1:=W) (v:=?_) (by rfl) ?_ ?_
     rotate_left
     ·(try simp only [aSF,cond_true,cond_false])
      go_simp
      first|with_reducible rfl|rfl
     refine hK' _ _ (⟨B5,d5,B6,d6,B7,d7,h1,h2,?_,h⟩)
     show Act.put _ (some 24) _=_
     simp only [aSF,Act.put,List.setIfInBounds_toArray,List.set_cons_zero,List.set_cons_succ,gT,gZ]
     rfl
    ·
     have hn_:=hneed _ rfl
     have n13:=hn_ 13 (by decide)
     have n8:=hcl 13 _ n13 rfl 8 (by decide)
     have n12:=hcl 13 _ n13 rfl 12 (by decide)
     have n5:=hcl 8 _ n8 rfl 5 (by decide)
     have n7:=hcl 8 _ n8 rfl 7 (by decide)
     have n10:=hcl 12 _ n12 rfl 10 (by decide)
     have n11:=hcl 12 _ n12 rfl 11 (by decide)
     have n2:=hcl 5 _ n5 rfl 2 (by decide)
     have n4:=hcl 5 _ n5 rfl 4 (by decide)
     have n6:=hcl 7 _ n7 rfl 6 (by decide)
     have n9:=hcl 10 _ n10 rfl 9 (by decide)
     have n0:=hcl 9 _ n9 rfl 0 (by decide)
     have n1:=hcl 2 _ n2 rfl 1 (by decide)
     have n3:=hcl 4 _ n4 rfl 3 (by decide)
     simp only [hbi,n0,n1,n2,n3,n4,n5,n6,n7,n8,n9,n10,n11,n12,n13] at hI
     obtain ⟨B5,d5,B6,d6,B7,d7,h1,h2,rfl,h⟩:=hI
     refine wpOp_step rfl (fun K' hK'=>?_)
     simp (decide:=true) only [if_true,if_false,reduceIte,n0,n1,n2,n3,n4,n5,n6,n7,n8,n9,n10,n11,n12,n13] at hK'
     have hgl:=GL.out
     have g1_:=(h.h1_ rfl).1
     have g2_:=(h.h2_ rfl).1
     have hbx:W.heap[gb]?=some (.cells #[(.int .i64 f0),(.int .i64 f1),(.int .i64 f2),(.int .i64 e0),(.int .i64 e1),(.slice A5 e2.length c5),(.slice B6 yb.length d6),(.slice B7 ye.length d7)] 70 (0,0)):=h.hX
     have q3:W.cell? ⟨gb,3,none⟩=some (.int .i64 e0):=aA hbx 3
     have f3_:=aH hbx 3
     have q4:W.cell? ⟨gb,4,none⟩=some (.int .i64 e1):=aA hbx 4
     have f4_:=aH hbx 4
     have q5:W.cell? ⟨gb,5,none⟩=some (.slice A5 e2.length c5):=aA hbx 5
     have f5_:=aH hbx 5
     refine yG (w1:=(((W.setCell ⟨gb,3,none⟩ (.int .i64 x0)).setCell ⟨gb,4,none⟩ (.int .i64 x1)).setCell ⟨gb,5,none⟩ (.slice B5 x2.length d5))) (by rfl) rfl ?_ ?_
     ·(try simp only [aSF,cond_true,cond_false])
      go_simp
      (try rfl)
     refine hK' _ _ (⟨B5,d5,B6,d6,B7,d7,h1,h2,rfl,⟨(below_set (j:=5) (v:=(.slice B5 x2.length d5)) (below_set (j:=4) (v:=(.int .i64 x1)) (below_set (j:=3) (v:=(.int .i64 x0)) h.hB GW.out) GW.out) GW.out),Nat.le_trans h.hs (by simp [World.setCell]),(Kd.eD (p:=⟨gb,5,none⟩) (Kd.eD (p:=⟨gb,4,none⟩) (Kd.eD (p:=⟨gb,3,none⟩) h.hO (fun q hq=>hq.1.2) (.int .i64 x0)) (fun q hq=>hq.1.2) (.int .i64 x1)) (fun q hq=>hq.1.2) (.slice B5 x2.length d5)),(fun e=>⟨(h.h1_ e).1,Nat.le_trans (h.h1_ e).2 (by simp [World.setCell])⟩),(fun e=>⟨(h.h2_ e).1,Nat.le_trans (h.h2_ e).2 (by simp [World.setCell])⟩),fun _=>(Kd.eD (p:=⟨gb,5,none⟩) (Kd.eD (p:=⟨gb,4,none⟩) (Kd.eD (p:=⟨gb,3,none⟩) (h.h6 rfl) (fun q hq=>show q≠gb by have:=hq.1;omega) (.int .i64 x0)) (fun q hq=>show q≠gb by have:=hq.1;omega) (.int .i64 x1)) (fun q hq=>show q≠gb by have:=hq.1;omega) (.slice B5 x2.length d5)),fun _=>(Kd.eD (p:=⟨gb,5,none⟩) (Kd.eD (p:=⟨gb,4,none⟩) (Kd.eD (p:=⟨gb,3,none⟩) (h.h7 rfl) (fun q hq=>show q≠gb by have:=hq.1;omega) (.int .i64 x0)) (fun q hq=>show q≠gb by have:=hq.1;omega) (.int .i64 x1)) (fun q hq=>show q≠gb by have:=hq.1;omega) (.slice B5 x2.length d5)),fun _=>(Kd.eD (p:=⟨gb,5,none⟩) (Kd.eD (p:=⟨gb,4,none⟩) (Kd.eD (p:=⟨gb,3,none⟩) (h.h5 rfl) (fun q hq=>show q≠gb by omega) (.int .i64 x0)) (fun q hq=>show q≠gb by omega) (.int .i64 x1)) (fun q hq=>show q≠gb by omega) (.slice B5 x2.length d5)),(aT (cs':=#[(.int .i64 f0),(.int .i64 f1),(.int .i64 f2),(.int .i64 x0),(.int .i64 x1),(.slice B5 x2.length d5),(.slice B6 yb.length d6),(.slice B7 ye.length d7)]) (aT (cs':=#[(.int .i64 f0),(.int .i64 f1),(.int .i64 f2),(.int .i64 x0),(.int .i64 x1),(.slice A5 e2.length c5),(.slice B6 yb.length d6),(.slice B7 ye.length d7)]) (aT (cs':=#[(.int .i64 f0),(.int .i64 f1),(.int .i64 f2),(.int .i64 x0),(.int .i64 e1),(.slice A5 e2.length c5),(.slice B6 yb.length d6),(.slice B7 ye.length d7)]) hbx 3 (.int .i64 x0) rfl) 4 (.int .i64 x1) rfl) 5 (.slice B5 x2.length d5) rfl)⟩⟩)
   case hdone=>
    intro b a W1 hall hI
    replace hI:LSF w W0 gb ad c0 l x9 B3 d3 x3 f0 f1 f2 e0 e1 e2 A5 c5 bd A6 c6 el A7 c7 x0 x1 x2 yb ye u6 u13 u14 u15 u16 u17 u18 u19 u20 u21 u22 u23 u24 u25 u26 u27 u28 u29 u30 u31 u32 u33 u34 u35 u36 u37 u38 u39 u40 u41 u42 u43 u44 u45 u46 u47 u48 u49 u50 u51 u52 u53 u54 u55 u56 u57 u58 u59 u60 u61 u62 u63 u64 u65 u66 u67 u68 u69 u70 u71 u72 u73 u74 (b 0) (b 1) (b 2) (b 3) (b 4) (b 5) (b 6) (b 7) (b 8) (b 9) (b 10) (b 11) (b 12) (b 13) (b 14) a W1:=hI
    rw [hall 0 (by decide),hall 1 (by decide),hall 2 (by decide),hall 3 (by decide),hall 4 (by decide),hall 5 (by decide),hall 6 (by decide),hall 7 (by decide),hall 8 (by decide),hall 9 (by decide),hall 10 (by decide),hall 11 (by decide),hall 12 (by decide),hall 13 (by decide),hall 14 (by decide)] at hI
    obtain ⟨B5,d5,B6,d6,B7,d7,h1,h2,rfl,h⟩:=hI
    simp only [aSF,cond_true]
    replace X:=am (show W1.heap[gb]?=some (.cells #[(.int .i64 f0),(.int .i64 f1),(.int .i64 f2),(.int .i64 x0),(.int .i64 x1),(.slice B5 x2.length d5),(.slice B6 yb.length d6),(.slice B7 ye.length d7)] 70 (0,0)) from h.hX)
    have SB:=am (h.h6 rfl)
    have SE:=am (h.h7 rfl)
    have SX:=am (h.h5 rfl)
    have WW:=am HB.out.size
    have WS:=am h.hs
    replace HB:=am h.hB
    have O:=am h.hO
    have H1:=am (h.h1_ rfl)
    have H2:=am (h.h2_ rfl)
    clear h hall HO
    have z0:W1.cell? ⟨gb,0,none⟩=some (.int .i64 f0):=aA X.out 0
    have z1:W1.cell? ⟨gb,1,none⟩=some (.int .i64 f1):=aA X.out 1
    have z2:W1.cell? ⟨gb,2,none⟩=some (.int .i64 f2):=aA X.out 2
    have z3:W1.cell? ⟨gb,3,none⟩=some (.int .i64 x0):=aA X.out 3
    have z4:W1.cell? ⟨gb,4,none⟩=some (.int .i64 x1):=aA X.out 4
    have z5:W1.cell? ⟨gb,5,none⟩=some (.slice B5 x2.length d5):=aA X.out 5
    have z6:W1.cell? ⟨gb,6,none⟩=some (.slice B6 yb.length d6):=aA X.out 6
    have z7:W1.cell? ⟨gb,7,none⟩=some (.slice B7 ye.length d7):=aA X.out 7
    obtain ⟨k2,hk2,hT⟩:=aM.tail HT.out
    have j9:=am hk2
    clear hk2 HT
    rcases hT with ⟨t1,t2,t3,hlen,hl⟩|⟨t1,t2,t3,hlen,hl⟩|⟨t1,t2,t3,t4,hl⟩|⟨hlen,hl,hc⟩
    ·have HL:=am hl
     have LEN:=am hlen
     clear hl hlen
     go_wp2_with (first|((with_reducible refine bJ (N:=49) rfl ?_);refine rC lS (w0:=w) w.heap.size rfl (.tmp 46) (.tmp 48) 37 70 (.agg #[(.int .i64 0),(.int .i64 0),(.int .i64 0),(.int .i64 0),(.int .i64 0),(.slice none 0 0),(.slice none 0 0),(.slice none 0 0)]) 112 rfl Try.underlying37 BL rfl (by decide) (by omega) (.slice B3 x3.length d3) x3 yb B6 yb.length d6 (fun q=>w.heap.size≤q) (fun q=>W0.heap.size≤q) rfl rfl (Kd.fE O.out (fun q hq=>⟨hq.1.1,fun e=>by have:=hq.2;omega⟩)) (Kd.fE SB.out (fun q hq=>hq.1)) ?aK (fun q hq=>Nat.le_trans HB.out.size hq) HB.out HB.out.size ?aL ?_;(case aK=>exact fun q hq=>⟨Nat.le_trans WW.out hq,fun e=>by have:=((Kd.S_R O.out).1 q e.symm).2;omega⟩);(case aL=>(have:=LEN.out;omega));intro jd W2 hn hb _ _;have HO:=am hn;replace HB:=am hb;clear hn hb)|fail)
     go_roundg k2
     case measure=>have:=j8.out;have:=j9.out;omega
     case rel=>exact ⟨_,wrap64 (x9 + 1),sd_,HL,⟨by have:=j8.out;have:=j9.out;omega⟩,HO,HB⟩
    ·have HL:=am hl
     have LEN:=am hlen
     clear hl hlen
     go_wp2_with (first|((with_reducible refine bJ (N:=60) rfl ?_);refine rC lS (w0:=w) w.heap.size rfl (.tmp 57) (.tmp 59) 37 70 (.agg #[(.int .i64 0),(.int .i64 0),(.int .i64 0),(.int .i64 0),(.int .i64 0),(.slice none 0 0),(.slice none 0 0),(.slice none 0 0)]) 112 rfl Try.underlying37 BL rfl (by decide) (by omega) (.slice B3 x3.length d3) x3 ye B7 ye.length d7 (fun q=>w.heap.size≤q) (fun q=>W0.heap.size≤q) rfl rfl (Kd.fE O.out (fun q hq=>⟨hq.1.1,fun e=>by have:=hq.2;omega⟩)) (Kd.fE SE.out (fun q hq=>Nat.le_trans H1.out.1 hq.1)) ?aK (fun q hq=>Nat.le_trans HB.out.size hq) HB.out HB.out.size ?aL ?_;(case aK=>exact fun q hq=>⟨Nat.le_trans WW.out hq,fun e=>by have:=((Kd.S_R O.out).1 q e.symm).2;omega⟩);(case aL=>(have:=LEN.out;omega));intro jd W2 hn hb _ _;have HO:=am hn;replace HB:=am hb;clear hn hb)|fail)
     go_roundg k2
     case measure=>have:=j8.out;have:=j9.out;omega
     case rel=>exact ⟨_,wrap64 (x9 + 1),sd_,HL,⟨by have:=j8.out;have:=j9.out;omega⟩,HO,HB⟩
    ·have HL:=am hl
     have HO:=am (Kd.fE O.out (fun q hq=>hq.1.1))
     clear hl
     go_wp2
     go_roundg k2
     case measure=>have:=j8.out;have:=j9.out;omega
     case rel=>exact ⟨_,wrap64 (x9 + 1),sd_,HL,⟨by have:=j8.out;have:=j9.out;omega⟩,HO,HB⟩
    ·have HL:=am hl
     have LEN:=am hlen
     clear hl hlen
     rcases hc with ⟨t1,t2,t3⟩|⟨t1,t2,t3,t4⟩|⟨t1,t2,t3⟩|⟨t1,t2,t3⟩|⟨t1,t2,t3⟩
     all_goals
      go_wp2_with (first|((with_reducible refine bJ (N:=31) rfl ?_);refine Kd.AU lS w.heap.size 70 rfl (N:=31) rfl (w0:=w) (xs:=[(⟨f0,f1,f2,(⟨x0,x1,x2⟩:S28),yb,ye⟩:S70)]) (inner:=[(.int .i64 f0),(.int .i64 f1),(.int .i64 f2),(.int .i64 x0),(.int .i64 x1),(.slice B5 x2.length d5),(.slice B6 yb.length d6),(.slice B7 ye.length d7)]) (ok:=fun q=>W0.heap.size≤q) (fun j q=>j=0∧W0.heap.size≤q) ?hr rfl ?hrep (fun i j q a b=>a.1.trans b.1.symm) (fun j q hq=>hq.2) WS.out HB.out HB.out.size (by simp) ?_;(case hr=>first|(go_simp;done)|(go_simp;rfl));(case hrep=>(intro j x hj;rcases j with _|j;(obtain rfl:=Option.some.inj hj;exact mO _ _ _ _ _ _ (⟨f0,f1,f2,(⟨x0,x1,x2⟩:S28),yb,ye⟩:S70) SX.out SB.out SE.out (fun q hq=>⟨rfl,by have:=H1.out;have:=H2.out;omega⟩) (fun q=>⟨fun hp=>⟨fun hr=>by have:=H2.out;omega,fun hr=>by omega⟩,fun hp hr=>by omega⟩));exact absurd hj (by simp)));intro jh W3 hs hb hg _;obtain ⟨je,jf,jb⟩:=Kd.gI hs;replace jb:jh= .slice je 1 jf:=jb;subst jb;have SL:=am hs;replace O:=am (Kd.WU O.out hg (fun _ _=>by simp));replace HB:=am hb;clear hs hb hg)|((with_reducible refine bJ (N:=32) rfl ?_);refine rC lS (w0:=w) w.heap.size rfl (.tmp 29) (.tmp 31) 37 70 (.agg #[(.int .i64 0),(.int .i64 0),(.int .i64 0),(.int .i64 0),(.int .i64 0),(.slice none 0 0),(.slice none 0 0),(.slice none 0 0)]) 112 rfl Try.underlying37 BL rfl (by decide) (by omega) (.slice B3 x3.length d3) x3 [(⟨f0,f1,f2,(⟨x0,x1,x2⟩:S28),yb,ye⟩:S70)] je 1 jf (fun q=>w.heap.size≤q) (fun q=>W0.heap.size≤q) rfl rfl (Kd.fE O.out (fun q hq=>⟨hq.1.1,fun e=>by have:=hq.2;omega⟩)) SL.out ?aK (fun q hq=>Nat.le_trans HB.out.size hq) HB.out HB.out.size ?aL ?_;(case aK=>exact fun q hq=>⟨Nat.le_trans WW.out hq,fun e=>by have:=((Kd.S_R O.out).1 q e.symm).2;omega⟩);(case aL=>(have:=LEN.out;omega));intro jd W2 hn hb _ _;have HO:=am hn;replace HB:=am hb;clear hn hb)|fail)
      go_roundg k2
      case measure=>have:=j8.out;have:=j9.out;omega
      case rel=>exact ⟨_,wrap64 (x9 + 1),sd_,HL,⟨by have:=j8.out;have:=j9.out;omega⟩,HO,HB⟩
theorem aM.calls (k:Nat):∀ (A0:Option Addr) (c0:Nat) (l0:List (S70)) (r:List (S70)) (w:World) (hr0:Kd.C k70 w A0 l0.length l0) (hc0:l0.length≤c0) (h:aM.f k l0=some r),
  Calls Try.prog 41 #[.slice A0 l0.length c0] w fun e w'=>∃ v0_:Value,e= .returned (v0_)∧Kd.N k70 70 w' w.heap.size (fun k_=>(w.heap.size≤k_)) v0_ r∧Below w.heap.size w w':=by
 intro A0 c0 l r w hr hc h
 refine (aM.callsS k A0 c0 l r w hr hc h).mono ?_
 rintro e w' ⟨v,rfl,hs,hb⟩
 exact ⟨v,rfl,Kd.R_N (TI hs),hb⟩
theorem iF.calls (a0:Int) (r:Bool) (w:World) (h:iF.f a0=some r):
  Calls Try.prog 77 #[.int .i64 a0] w fun e w'=>e= .returned (.bool r)∧fV w w':=by
 have H:(if a0≥1 then (some (decide (a0≤12))) else (some false))=some r:=h
 clear h
 by_cases c2:a0≥1
 ·rw [if_pos c2] at H
  have j3:decide (1≤a0)=true:=decide_eq_true c2
  clear c2
  obtain rfl:=Option.some.inj H
  go_enter Try.func77,Try.ntmps77
  go_wp2
  go_ret
  exact ⟨sd_,fF⟩
 rw [if_neg c2] at H
 have j3:decide (1≤a0)=false:=decide_eq_false c2
 clear c2
 obtain rfl:=Option.some.inj H
 go_enter Try.func77,Try.ntmps77
 go_wp2
 go_ret
 exact ⟨sd_,fF⟩
theorem dP.mono_l:∀ k,(∀ y0 y1 y2 y3,LeO (dP.f k y0 y1 y2 y3) (dP.f (k + 1) y0 y1 y2 y3))
 |0=>fun _ _ _ _ r h=>by simp [dP.f] at h
 |k + 1=>by
  have ih0:=dP.mono_l k
  ·intro y0 y1 y2 y3
   unfold dP.f
   exact mo_
theorem dP.mono:∀ a0 a1 a2 a3 k,LeO (dP.f k a0 a1 a2 a3) (dP.f (k + 1) a0 a1 a2 a3):=by
 intro a0 a1 a2 a3 k
 have ih0:=dP.mono_l k
 exact ih0 a0 a1 a2 a3
theorem dP.calls (k:Nat):∀ (j7:Int) (j8:Int) (jg:Option Addr) (jh:Nat) (j3:List (S28)) (a1:Int) (r:Bool) (w:World) (hr0_2:Kd.C k28 w jg j3.length j3) (hc0_2:j3.length≤jh) (h:dP.f k j7 j8 j3 a1=some r),
  Calls Try.prog 61 #[.agg #[.int .i64 j7, .int .i64 j8, .slice jg j3.length jh], .int .i64 a1] w fun e w'=>e= .returned (.bool r)∧Below w.heap.size w w':=by
 induction k using Nat.strongRecOn with
 | _ k ih=>
 intro j7 j8 jg jh j3 a1 r w hr0_2 hc0_2 h
 cases k with
 |zero=>exact absurd h (by simp [dP.f])
 |succ k=>
 simp only [dP.f] at h
 have hu28:=Try.underlying28
 have jf:=am hr0_2
 have qa:=am hc0_2
 clear hr0_2 hc0_2
 have HB:=am (Below.refl w.heap.size w)
 have H:=h
 clear h
 have HH_:=am H
 clear H
 go_enter Try.func61,Try.ntmps61
 go_upto_region 1 with (first|((with_reducible refine bJ (N:=2) rfl ?_);(try (refine lW (by rfl) ?_;dsimp only));refine bR rfl (N:=2) rfl (cs:=#[.int .i64 j7, .int .i64 j8, .slice jg j3.length jh]) (t:=28) rn_ ?_;intro ju hg w7 hbox hb;have jc:=am (hbox);have qm:=am ((by rw [hg];exact (aN dN):w.heap.size≤ju));have GE23:=am ((by rw [hg];exact (aN dN):w.heap.size≤ju));replace HB:=am (aC dN hb);clear hb hbox hg;obtain ⟨jT,jU,jV,jW,jX,jY⟩:=gW jc.out))
 have H:=HH_.out
 clear HH_
 by_cases c3:j7=0
 ·rw [if_pos c3] at H
  have jZ:(j7 == 0)=true:=beq_iff_eq.mpr c3
  have q0:(j7 != 0)=false:=bne_eq_false_iff_eq.mpr c3
  clear c3
  by_cases c4:j8≥0
  ·rw [if_pos c4] at H
   have q1:decide (0≤j8)=true:=decide_eq_true c4
   clear c4
   by_cases c5:j8≤99999
   ·rw [if_pos c5] at H
    have q2:decide (j8≤99999)=true:=decide_eq_true c5
    clear c5
    by_cases c6:(j3.length:Int)=0
    ·rw [if_pos c6] at H
     have q3:((j3.length:Int) == 0)=true:=beq_iff_eq.mpr c6
     have q4:((j3.length:Int) != 0)=false:=bne_eq_false_iff_eq.mpr c6
     clear c6
     obtain rfl:=Option.some.inj H
     go_wp2
     go_ret
     exact ⟨rr_,nM⟩
    rw [if_neg c6] at H
    have q3:((j3.length:Int) == 0)=false:=beq_eq_false_iff_ne.mpr c6
    have q4:((j3.length:Int) != 0)=true:=bne_iff_ne.mpr c6
    have qn:¬ (j3=[]):=fun h_=>c6 (by rw [h_];rfl)
    obtain rfl:=Option.some.inj H
    go_wp2
    go_ret
    exact ⟨rr_,nM⟩
   rw [if_neg c5] at H
   have q2:decide (j8≤99999)=false:=decide_eq_false c5
   clear c5
   obtain rfl:=Option.some.inj H
   go_wp2
   go_ret
   exact ⟨rr_,nM⟩
  rw [if_neg c4] at H
  have q1:decide (0≤j8)=false:=decide_eq_false c4
  clear c4
  obtain rfl:=Option.some.inj H
  go_wp2
  go_ret
  exact ⟨rr_,nM⟩
 rw [if_neg c3] at H
 have jZ:(j7 == 0)=false:=beq_eq_false_iff_ne.mpr c3
 have q0:(j7 != 0)=true:=bne_iff_ne.mpr c3
 by_cases jj:j7=13
 ·rw [if_pos jj] at H
  have jv:(j7 == 13)=true:=beq_iff_eq.mpr jj
  have jw:(j7 != 13)=false:=bne_eq_false_iff_eq.mpr jj
  clear jj
  by_cases jq:j8≥0
  ·rw [if_pos jq] at H
   have jx:decide (0≤j8)=true:=decide_eq_true jq
   clear jq
   by_cases jr:j8 < 4
   ·rw [if_pos jr] at H
    have jy:decide (j8 < 4)=true:=decide_eq_true jr
    clear jr
    by_cases ji:(j3.length:Int)=0
    ·rw [if_pos ji] at H
     have jz:((j3.length:Int) == 0)=true:=beq_iff_eq.mpr ji
     have jA:((j3.length:Int) != 0)=false:=bne_eq_false_iff_eq.mpr ji
     clear ji
     obtain rfl:=Option.some.inj H
     go_wp2
     go_ret
     exact ⟨rr_,nM⟩
    rw [if_neg ji] at H
    have jz:((j3.length:Int) == 0)=false:=beq_eq_false_iff_ne.mpr ji
    have jA:((j3.length:Int) != 0)=true:=bne_iff_ne.mpr ji
    have qb:¬ (j3=[]):=fun h_=>ji (by rw [h_];rfl)
    obtain rfl:=Option.some.inj H
    go_wp2
    go_ret
    exact ⟨rr_,nM⟩
   rw [if_neg jr] at H
   have jy:decide (j8 < 4)=false:=decide_eq_false jr
   clear jr
   obtain rfl:=Option.some.inj H
   go_wp2
   go_ret
   exact ⟨rr_,nM⟩
  rw [if_neg jq] at H
  have jx:decide (0≤j8)=false:=decide_eq_false jq
  clear jq
  obtain rfl:=Option.some.inj H
  go_wp2
  go_ret
  exact ⟨rr_,nM⟩
 rw [if_neg jj] at H
 have jv:(j7 == 13)=false:=beq_eq_false_iff_ne.mpr jj
 have jw:(j7 != 13)=true:=bne_iff_ne.mpr jj
 obtain ⟨qo,qc,H⟩:=bsm H
 (try dsimp only at H)
 have js:=am qc
 clear qc
 by_cases jJ:qo=true
 ·subst jJ
  rw [if_pos rfl] at H
  by_cases jk:j8=0
  ·rw [if_pos jk] at H
   have jB:(j8 == 0)=true:=beq_iff_eq.mpr jk
   have jC:(j8 != 0)=false:=bne_eq_false_iff_eq.mpr jk
   clear jk
   by_cases jl:(j3.length:Int)=2
   ·rw [if_pos jl] at H
    have jD:((j3.length:Int) == 2)=true:=beq_iff_eq.mpr jl
    have jE:((j3.length:Int) != 2)=false:=bne_eq_false_iff_eq.mpr jl
    clear jl
    by_cases jt:a1 > 1
    ·rw [if_pos jt] at H
     have jF:decide (1 < a1)=true:=decide_eq_true jt
     clear jt
     by_cases jK:0 < (j3.length:Int)
     ·rw [if_pos jK] at H
      have qd:decide (0 < (j3.length:Int))=true:=decide_eq_true jK
      have qe:decide (0 < j3.length)=true:=decide_eq_true (by omega)
      clear jK
      obtain ⟨qp,qf,H⟩:=bsm H
      (try dsimp only at H)
      have qg:=am qf
      clear qf
      by_cases jL:qp=true
      ·subst jL
       rw [if_pos rfl] at H
       by_cases jM:1 < (j3.length:Int)
       ·rw [if_pos jM] at H
        have qh:decide (1 < (j3.length:Int))=true:=decide_eq_true jM
        have qi:decide (1 < j3.length)=true:=decide_eq_true (by omega)
        clear jM
        obtain ⟨qq,qj,H⟩:=bsm H
        (try dsimp only at H)
        have qr:=am qj
        clear qj
        obtain rfl:=Option.some.inj H
        go_wp2_with (first|((with_reducible refine aD (f:=77) rfl ?_);refine aU (some 51) rfl rfl Try.func77 (by kernel_rfl) rfl #[.int .i64 j7] rfl dK ?_;(with_reducible refine (iF.calls j7 true _ js.out).mono ?_);rintro e w' ⟨rfl,⟨nd,rfl⟩⟩;refine ⟨_,rfl,?_⟩;have jm:0≤(0:Int):=(by omega);have jn:0 < (j3.length:Int):=of_decide_eq_true bT;obtain ⟨jG,jH,jI,q5,j4,j5,j6,hl37_2,hi37_2⟩:=kC jf.out 0 jm jn;cases q5;have q6:(0 < j3.length)=True:=eq_true (by omega);(try rw [show ((0:Int)).toNat=0 from rfl] at j4);(try rw [show 0 * 3=0 from rfl] at j4);(try rw [Addr.add_zero'] at j4);(try rw [show ((0:Int)).toNat=0 from rfl] at j5);(try rw [show 0 * 3=0 from rfl] at j5);(try rw [Addr.add_zero'] at j5);(try rw [show ((0:Int)).toNat=0 from rfl] at j6);(try rw [show 0 * 3=0 from rfl] at j6);(try rw [Addr.add_zero'] at j6);replace j4:=(HB.out.cell (World.block_lt_of_cell? w _ j4)).trans j4;replace j5:=(HB.out.cell (World.block_lt_of_cell? w _ j5)).trans j5;replace j6:=(HB.out.cell (World.block_lt_of_cell? w _ j6)).trans j6;have jd:=am hi37_2;have je:=am hl37_2;clear hi37_2 hl37_2;replace jm:=eq_true jm;replace jn:=eq_true jn)|(go_at_call 61;(with_reducible refine (ih k (by omega) ((bH j3 0).f0) ((bH j3 0).f1) _ _ ((bH j3 0).f2) (wrap64 (a1 - 1)) true _ (aC_ (Kd.aI jd.out nM)) je.out qg.out).mono ?_);rintro e qu ⟨rfl,hb⟩;replace jc:=bbP jc hb;replace HB:=am (aC nM hb);(try clear hb);obtain ⟨jN,jO,jP,jQ,jR,jS⟩:=gW jc.out;have q7:0≤(1:Int):=(by omega);have q8:1 < (j3.length:Int):=of_decide_eq_true bT;obtain ⟨q9,qk,ql,qs,j9,ja,jb,hl38_2,hi38_2⟩:=kC jf.out 1 q7 q8;obtain rfl:jG=q9:=(by injection qs);(try simp only [show (1:Int).toNat=1 from rfl,Nat.reduceMul,Nat.reduceEqDiff,Go.Addr.add,↓reduceIte] at j9);(try simp only [show (1:Int).toNat=1 from rfl,Nat.reduceMul,Nat.reduceEqDiff,Go.Addr.add,↓reduceIte] at ja);(try simp only [show (1:Int).toNat=1 from rfl,Nat.reduceMul,Nat.reduceEqDiff,Go.Addr.add,↓reduceIte] at jb);have qt:(1 < j3.length)=True:=eq_true (by omega);(try rw [show ((1:Int)).toNat=1 from rfl] at j9);(try rw [show 1 * 3=3 from rfl] at j9);(try rw [show ((1:Int)).toNat=1 from rfl] at ja);(try rw [show 1 * 3=3 from rfl] at ja);(try rw [show ((1:Int)).toNat=1 from rfl] at jb);(try rw [show 1 * 3=3 from rfl] at jb);replace j9:=(HB.out.cell (World.block_lt_of_cell? w _ j9)).trans j9;replace ja:=(HB.out.cell (World.block_lt_of_cell? w _ ja)).trans ja;replace jb:=(HB.out.cell (World.block_lt_of_cell? w _ jb)).trans jb;have jo:=am hi38_2;have jp:=am hl38_2;clear hi38_2 hl38_2;replace q7:=eq_true q7;replace q8:=eq_true q8)|(go_at_call 61;(with_reducible refine (ih k (by omega) ((bH j3 1).f0) ((bH j3 1).f1) _ _ ((bH j3 1).f2) (wrap64 (a1 - 1)) qq _ (aC_ (Kd.aI jo.out HB.out)) jp.out qr.out).mono ?_);rintro e qv ⟨rfl,hb⟩;replace jc:=bbP jc hb;replace HB:=am (aC nM hb);(try clear hb)))
        go_ret
        exact ⟨rr_,nM⟩
       rw [if_neg jM] at H
       exact absurd H (by simp)
      replace jL:=Bool.eq_false_iff.mpr jL
      subst jL
      rw [if_neg (show ¬ (false=true) by decide)] at H
      obtain rfl:=Option.some.inj H
      go_wp2_with (first|((with_reducible refine aD (f:=77) rfl ?_);refine aU (some 51) rfl rfl Try.func77 (by kernel_rfl) rfl #[.int .i64 j7] rfl dK ?_;(with_reducible refine (iF.calls j7 true _ js.out).mono ?_);rintro e w' ⟨rfl,⟨nd,rfl⟩⟩;refine ⟨_,rfl,?_⟩;have jm:0≤(0:Int):=(by omega);have jn:0 < (j3.length:Int):=of_decide_eq_true bT;obtain ⟨jG,jH,jI,q5,j4,j5,j6,hl37_2,hi37_2⟩:=kC jf.out 0 jm jn;cases q5;have q6:(0 < j3.length)=True:=eq_true (by omega);(try rw [show ((0:Int)).toNat=0 from rfl] at j4);(try rw [show 0 * 3=0 from rfl] at j4);(try rw [Addr.add_zero'] at j4);(try rw [show ((0:Int)).toNat=0 from rfl] at j5);(try rw [show 0 * 3=0 from rfl] at j5);(try rw [Addr.add_zero'] at j5);(try rw [show ((0:Int)).toNat=0 from rfl] at j6);(try rw [show 0 * 3=0 from rfl] at j6);(try rw [Addr.add_zero'] at j6);replace j4:=(HB.out.cell (World.block_lt_of_cell? w _ j4)).trans j4;replace j5:=(HB.out.cell (World.block_lt_of_cell? w _ j5)).trans j5;replace j6:=(HB.out.cell (World.block_lt_of_cell? w _ j6)).trans j6;have jd:=am hi37_2;have je:=am hl37_2;clear hi37_2 hl37_2;replace jm:=eq_true jm;replace jn:=eq_true jn)|(go_at_call 61;(with_reducible refine (ih k (by omega) ((bH j3 0).f0) ((bH j3 0).f1) _ _ ((bH j3 0).f2) (wrap64 (a1 - 1)) false _ (aC_ (Kd.aI jd.out nM)) je.out qg.out).mono ?_);rintro e qw ⟨rfl,hb⟩;replace jc:=bbP jc hb;replace HB:=am (aC nM hb);(try clear hb)))
      go_ret
      exact ⟨rr_,nM⟩
     rw [if_neg jK] at H
     exact absurd H (by simp)
    rw [if_neg jt] at H
    have jF:decide (1 < a1)=false:=decide_eq_false jt
    clear jt
    obtain rfl:=Option.some.inj H
    go_wp2_with (first|((with_reducible refine aD (f:=77) rfl ?_);refine aU (some 51) rfl rfl Try.func77 (by kernel_rfl) rfl #[.int .i64 j7] rfl dK ?_;(with_reducible refine (iF.calls j7 true _ js.out).mono ?_);rintro e w' ⟨rfl,⟨nd,rfl⟩⟩;refine ⟨_,rfl,?_⟩))
    go_ret
    exact ⟨rr_,nM⟩
   rw [if_neg jl] at H
   have jD:((j3.length:Int) == 2)=false:=beq_eq_false_iff_ne.mpr jl
   have jE:((j3.length:Int) != 2)=true:=bne_iff_ne.mpr jl
   obtain rfl:=Option.some.inj H
   go_wp2_with (first|((with_reducible refine aD (f:=77) rfl ?_);refine aU (some 51) rfl rfl Try.func77 (by kernel_rfl) rfl #[.int .i64 j7] rfl dK ?_;(with_reducible refine (iF.calls j7 true _ js.out).mono ?_);rintro e w' ⟨rfl,⟨nd,rfl⟩⟩;refine ⟨_,rfl,?_⟩))
   go_ret
   exact ⟨rr_,nM⟩
  rw [if_neg jk] at H
  have jB:(j8 == 0)=false:=beq_eq_false_iff_ne.mpr jk
  have jC:(j8 != 0)=true:=bne_iff_ne.mpr jk
  obtain rfl:=Option.some.inj H
  go_wp2_with (first|((with_reducible refine aD (f:=77) rfl ?_);refine aU (some 51) rfl rfl Try.func77 (by kernel_rfl) rfl #[.int .i64 j7] rfl dK ?_;(with_reducible refine (iF.calls j7 true _ js.out).mono ?_);rintro e w' ⟨rfl,⟨nd,rfl⟩⟩;refine ⟨_,rfl,?_⟩))
  go_ret
  exact ⟨rr_,nM⟩
 replace jJ:=Bool.eq_false_iff.mpr jJ
 subst jJ
 rw [if_neg (show ¬ (false=true) by decide)] at H
 obtain rfl:=Option.some.inj H
 go_wp2_with (first|((with_reducible refine aD (f:=77) rfl ?_);refine aU (some 51) rfl rfl Try.func77 (by kernel_rfl) rfl #[.int .i64 j7] rfl dK ?_;(with_reducible refine (iF.calls j7 false _ js.out).mono ?_);rintro e w' ⟨rfl,⟨nd,rfl⟩⟩;refine ⟨_,rfl,?_⟩))
 go_ret
 exact ⟨rr_,nM⟩
theorem fQ.mono:∀ a0 a1 a2 k,LeO (fQ.f k a0 a1 a2) (fQ.f (k + 1) a0 a1 a2):=by
 intro a0 a1 a2 k
 unfold fQ.f
 have m0:=@dP.mono
 exact mo_
theorem fQ.calls (k:Nat) (j4:Int) (j5:Int) (j6:Option Addr) (j7:Nat) (j3:List (S28)) (r:Bool) (w:World) (hr0_2:Kd.C k28 w j6 j3.length j3) (hc0_2:j3.length≤j7) (h:fQ.f k j4 j5 j3=some r):
  Calls Try.prog 31 #[.agg #[.int .i64 j4, .int .i64 j5, .slice j6 j3.length j7]] w fun e w'=>e= .returned (.bool r)∧Below w.heap.size w w':=by
 have hu28:=Try.underlying28
 have j9:=am hr0_2
 have ja:=am hc0_2
 clear hr0_2 hc0_2
 have HB:=am (Below.refl w.heap.size w)
 have H:((dP.f k j4 j5 j3 5).bind fun jc=>(some jc))=some r:=h
 clear h
 obtain ⟨jc,A2,H⟩:=bsa H
 (try dsimp only at H)
 obtain rfl:=Option.some.inj H
 go_enter Try.func31,Try.ntmps31
 go_wp2_with (first|((with_reducible refine bJ (N:=1) rfl ?_);refine bR rfl (N:=1) rfl (cs:=#[.int .i64 j4, .int .i64 j5, .slice j6 j3.length j7]) (t:=28) rn_ ?_;intro jb hg w3 hbox hb;have j8:=am (hbox);have jj:=am ((by rw [hg];exact (aN dN):w.heap.size≤jb));have GE22:=am ((by rw [hg];exact (aN dN):w.heap.size≤jb));replace HB:=am (aC dN hb);clear hb hbox hg;obtain ⟨jd,je,jf,jg,jh,ji⟩:=gW j8.out)|((with_reducible refine aD (f:=61) rfl ?_);refine aU (some 4) rfl rfl Try.func61 (by kernel_rfl) rfl #[.agg #[.int .i64 j4, .int .i64 j5, .slice j6 j3.length j7], .int .i64 5] rfl dK ?_;(with_reducible refine (dP.calls k j4 j5 _ _ j3 5 jc _ (aC_ (Kd.aI j9.out HB.out)) ja.out A2.out).mono ?_);rintro e w5 ⟨rfl,hb⟩;refine ⟨_,rfl,?_⟩;replace j8:=bbP j8 hb;replace HB:=am (aC lN hb);(try clear hb)))
 go_ret
 exact ⟨rr_,lN⟩
theorem xM.calls (n limit:Int) (needed:Bool) (w:World):
  Calls Try.prog 87 #[.int .i64 n, .int .i64 limit, .bool needed] w fun e w'=>e= .returned (.bool (inr n limit needed))∧fV w w':=by
 by_cases h0:n=0
 ·subst h0
  go_enter Try.func87,Try.ntmps87
  go_wp2
  go_ret
  exact ⟨by simp [inr],fF⟩
 have h0b:(n == 0)=false:=beq_eq_false_iff_ne.mpr h0
 cases needed with
 |false=>
  go_enter Try.func87,Try.ntmps87
  go_wp2
  go_ret
  exact ⟨by simp [inr,h0],fF⟩
 |true=>
  by_cases h1:0 < n
  ·have h1b:decide (0 < n)=true:=decide_eq_true h1
   by_cases h2:n < limit
   ·have h2b:decide (n < limit)=true:=decide_eq_true h2
    go_enter Try.func87,Try.ntmps87
    go_wp2
    go_ret
    exact ⟨by simp [inr,h0];omega,fF⟩
   have h2b:decide (n < limit)=false:=decide_eq_false h2
   go_enter Try.func87,Try.ntmps87
   go_wp2
   go_ret
   exact ⟨by simp [inr,h0];omega,fF⟩
  have h1b:decide (0 < n)=false:=decide_eq_false h1
  go_enter Try.func87,Try.ntmps87
  go_wp2
  go_ret
  exact ⟨by simp [inr,h0];omega,fF⟩
theorem lK {n limit:Int} {needed b:Bool} (w:World) (h:inr n limit needed=b):
  Calls Try.prog 87 #[.int .i64 n, .int .i64 limit, .bool needed] w fun e w'=>e= .returned (.bool b)∧fV w w':=h ▸ xM.calls n limit needed w
theorem iQ.mono:∀ nv nb ne nd no va bx op n la lb le boxes k,LeO (iQ k nv nb ne nd no va bx op n la lb le boxes) (iQ (k + 1) nv nb ne nd no va bx op n la lb le boxes):=by
 intro nv nb ne nd no va bx op n la lb le boxes k
 unfold iQ
 have m0:=@fQ.mono
 exact mo_
theorem dQ.mono:∀ kd va bx op n la lb le boxes k,LeO (dQ.f k kd va bx op n la lb le boxes) (dQ.f (k + 1) kd va bx op n la lb le boxes):=by
 intro kd va bx op n la lb le boxes k
 unfold dQ.f
 have m0:=@iQ.mono
 exact mo_
attribute [local irreducible] inr
theorem dQ.callsP (k:Nat) (g:Addr) (kd va bx op n:Int) (Aa:Option Addr) (ca:Nat) (la:List S28) (Ab:Option Addr) (lb cb:Nat) (Ae:Option Addr) (le ce:Nat) (boxes:Int) (r:Bool) (w:World)
  (hg0:w.cell? g=some (.int .i64 kd)) (hg1:w.cell? ⟨g.block,g.off + 1,none⟩=some (.int .i64 va)) (hg2:w.cell? ⟨g.block,g.off + 2,none⟩=some (.int .i64 bx))
  (hg3:w.cell? ⟨g.block,g.off + 3,none⟩=some (.int .i64 op)) (hg4:w.cell? ⟨g.block,g.off + 4,none⟩=some (.int .i64 n)) (hg5:w.cell? ⟨g.block,g.off + 5,none⟩=some (.slice Aa la.length ca))
  (hg6:w.cell? ⟨g.block,g.off + 6,none⟩=some (.slice Ab lb cb)) (hg7:w.cell? ⟨g.block,g.off + 7,none⟩=some (.slice Ae le ce))
  (hr:Kd.C k28 w Aa la.length la) (hc:la.length≤ca) (h:dQ.f k kd va bx op n la lb le boxes=some r):
  Calls Try.prog 85 #[.pointer (some g), .int .i64 boxes] w fun e w'=>e= .returned (.bool r)∧Below w.heap.size w w':=by
 have HR:=am hr
 have HC:=am hc
 have HH:=am h
 clear hr hc h
 go_enter Try.func85,Try.ntmps85
 go_upto_region 2 with (first|((with_reducible refine bJ (N:=5) rfl ?_);refine bR (N:=5) rfl rfl (cs:=#[.bool false, .bool false, .bool false, .bool false, .bool false]) (t:=104) rn_ ?_;intro gb hg w1 hbox hb)|fail)
 have k0:=bB hb hg0
 have z0:=aA hbox 0
 have z1:=aA hbox 1
 have z2:=aA hbox 2
 have z3:=aA hbox 3
 have z4:=aA hbox 4
 have f0:=aH hbox 0
 have f1:=aH hbox 1
 have f2:=aH hbox 2
 have f3:=aH hbox 3
 have f4:=aH hbox 4
 have HBX:=am hbox
 have HB:=am hb
 have HG:=am (Nat.le_of_eq hg.symm)
 clear hbox hb hg
 go_upto_block 0 with fail
 go_cut [4,5] from 7 (fun v4 v5 wc=>∃ nv nb ne nd no,v5= .pointer (some ⟨gb,0,none⟩)∧Aside0 (iQ k nv nb ne nd no va bx op n la lb le boxes=some r)∧Aside0 (wc.heap[gb]?=some (.cells #[.bool nv, .bool nb, .bool ne, .bool nd, .bool no] 104 (0,0)))∧Aside0 (Below w.heap.size w wc))
 case first=>
  have H:=HH.out
  clear HH
  unfold dQ.f at H
  by_cases c1:kd=1
  ·rw [if_pos c1] at H
   subst c1
   have H':=am H
   clear H
   go_wp2
   go_meet
   case rel=>exact ⟨true,false,true,false,false,rfl,H',⟨(aT (aT HBX.out 0 (.bool true) (by rfl)) 2 (.bool true) (by rfl))⟩,⟨(below_set (below_set HB.out HG.out) HG.out)⟩⟩
  rw [if_neg c1] at H
  have d1:(kd == 1)=false:=beq_eq_false_iff_ne.mpr c1
  by_cases c2:kd=2
  ·rw [if_pos c2] at H
   subst c2
   have H':=am H
   clear H
   go_wp2
   go_meet
   case rel=>exact ⟨false,false,true,true,true,rfl,H',⟨(aT (aT (aT HBX.out 2 (.bool true) (by rfl)) 3 (.bool true) (by rfl)) 4 (.bool true) (by rfl))⟩,⟨(below_set (below_set (below_set HB.out HG.out) HG.out) HG.out)⟩⟩
  rw [if_neg c2] at H
  have d2:(kd == 2)=false:=beq_eq_false_iff_ne.mpr c2
  by_cases c3:kd=3
  ·rw [if_pos c3] at H
   subst c3
   have H':=am H
   clear H
   go_wp2
   go_meet
   case rel=>exact ⟨false,false,true,true,false,rfl,H',⟨(aT (aT HBX.out 2 (.bool true) (by rfl)) 3 (.bool true) (by rfl))⟩,⟨(below_set (below_set HB.out HG.out) HG.out)⟩⟩
  rw [if_neg c3] at H
  have d3:(kd == 3)=false:=beq_eq_false_iff_ne.mpr c3
  by_cases c4:kd=4
  ·rw [if_pos c4] at H
   subst c4
   have H':=am H
   clear H
   go_wp2
   go_meet
   case rel=>exact ⟨false,true,true,false,false,rfl,H',⟨(aT (aT HBX.out 1 (.bool true) (by rfl)) 2 (.bool true) (by rfl))⟩,⟨(below_set (below_set HB.out HG.out) HG.out)⟩⟩
  rw [if_neg c4] at H
  have d4:(kd == 4)=false:=beq_eq_false_iff_ne.mpr c4
  by_cases c5:kd=5
  ·rw [if_pos c5] at H
   subst c5
   have H':=am H
   clear H
   go_wp2
   go_meet
   case rel=>exact ⟨true,true,false,false,false,rfl,H',⟨(aT (aT HBX.out 1 (.bool true) (by rfl)) 0 (.bool true) (by rfl))⟩,⟨(below_set (below_set HB.out HG.out) HG.out)⟩⟩
  rw [if_neg c5] at H
  have d5:(kd == 5)=false:=beq_eq_false_iff_ne.mpr c5
  by_cases c7:kd=7
  ·rw [if_pos c7] at H
   subst c7
   have H':=am H
   clear H
   go_wp2
   go_meet
   case rel=>exact ⟨false,false,true,false,false,rfl,H',⟨(aT HBX.out 2 (.bool true) (by rfl))⟩,⟨(below_set HB.out HG.out)⟩⟩
  rw [if_neg c7] at H
  have d7:(kd == 7)=false:=beq_eq_false_iff_ne.mpr c7
  by_cases c6:kd=6
  ·rw [if_pos c6] at H
   subst c6
   have H':=am H
   clear H
   go_wp2
   go_meet
   case rel=>exact ⟨false,false,false,false,false,rfl,H',⟨HBX.out⟩,⟨HB.out⟩⟩
  rw [if_neg c6] at H
  have d6:(kd == 6)=false:=beq_eq_false_iff_ne.mpr c6
  obtain rfl:=Option.some.inj H
  go_wp2
  go_ret
  exact ⟨rfl,HB.out⟩
 case rest=>
  obtain ⟨nv,nb,ne,nd,no,rfl,HA,HX,HW⟩:=hcut
  have k1:=bB HW.out hg1
  have k2:=bB HW.out hg2
  have k3:=bB HW.out hg3
  have k4:=bB HW.out hg4
  have k5:=bB HW.out hg5
  have k6:=bB HW.out hg6
  have k7:=bB HW.out hg7
  have y0:wc.cell? ⟨gb,0,none⟩=some (.bool nv):=aA HX.out 0
  have y1:wc.cell? ⟨gb,1,none⟩=some (.bool nb):=aA HX.out 1
  have y2:wc.cell? ⟨gb,2,none⟩=some (.bool ne):=aA HX.out 2
  have y3:wc.cell? ⟨gb,3,none⟩=some (.bool nd):=aA HX.out 3
  have y4:wc.cell? ⟨gb,4,none⟩=some (.bool no):=aA HX.out 4
  clear k0 z0 z1 z2 z3 z4 f0 f1 f2 f3 f4 HBX HB hg0 hg1 hg2 hg3 hg4 hg5 hg6 hg7 HH
  go_upto_region 18 with fail
  (try simp only [Act.put,List.setIfInBounds_toArray,List.set_cons_zero,List.set_cons_succ])
  go_cut [69] from 37 (fun j6 wc_=>∃ (x:Bool),j6= .bool x∧Aside0 (∃ m,wc_=wc.drewN m)∧Aside0 (if x=true then r=false else (if ne=true then ((fQ.f k op n la).bind fun t=>if t=true then some ((nd || lb == 0) && (no || le == 0)) else some false) else (if op=0 then (if n=0 then (if 0 < (la.length:Int) then some false else some ((nd || lb == 0) && (no || le == 0))) else some false) else some false))=some r))
  case first=>
   have H:=HA.out
   clear HA
   unfold iQ at H
   by_cases i1:inr va 4 nv=true
   ·rw [if_pos i1] at H
    by_cases i2:inr bx boxes nb=true
    ·rw [if_pos i2] at H
     have I1:=am i1
     have I2:=am i2
     clear i1 i2
     by_cases i3:nb=true∧boxes≤bx
     ·rw [if_pos i3] at H
      obtain ⟨i4,i5⟩:=i3
      subst i4
      have i6:=eq_true i5
      have H':=am (Option.some.inj H)
      clear H i5
      go_big_quiet (first|(with_reducible refine Calls.quiet_of ((lK _ I1.out).mono (fun e w' hq=>⟨hq.1,hq.2.out⟩)))|(with_reducible refine Calls.quiet_of ((lK _ I2.out).mono (fun e w' hq=>⟨hq.1,hq.2.out⟩))))
      go_wp2
      go_meet
      case rel=>exact ⟨true,rfl,⟨_,rfl⟩,⟨by rw [if_pos rfl];exact H'.out.symm⟩⟩
     rw [if_neg i3] at H
     have H':=am H
     clear H
     cases nb with
     |false=>
      clear i3
      go_big_quiet (first|(with_reducible refine Calls.quiet_of ((lK _ I1.out).mono (fun e w' hq=>⟨hq.1,hq.2.out⟩)))|(with_reducible refine Calls.quiet_of ((lK _ I2.out).mono (fun e w' hq=>⟨hq.1,hq.2.out⟩))))
      go_wp2
      go_meet
      case rel=>exact ⟨false,rfl,⟨_,rfl⟩,⟨by rw [if_neg (by decide)];exact H'.out⟩⟩
     |true=>
      have i5:¬ boxes≤bx:=fun h=>i3 ⟨rfl,h⟩
      have i6:=eq_false i5
      clear i3 i5
      go_big_quiet (first|(with_reducible refine Calls.quiet_of ((lK _ I1.out).mono (fun e w' hq=>⟨hq.1,hq.2.out⟩)))|(with_reducible refine Calls.quiet_of ((lK _ I2.out).mono (fun e w' hq=>⟨hq.1,hq.2.out⟩))))
      go_wp2
      go_meet
      case rel=>exact ⟨false,rfl,⟨_,rfl⟩,⟨by rw [if_neg (by decide)];exact H'.out⟩⟩
    rw [if_neg i2] at H
    have I1:=am i1
    have I2:=am (Bool.eq_false_iff.mpr i2)
    clear i1 i2
    have H':=am (Option.some.inj H)
    clear H
    go_big_quiet (first|(with_reducible refine Calls.quiet_of ((lK _ I1.out).mono (fun e w' hq=>⟨hq.1,hq.2.out⟩)))|(with_reducible refine Calls.quiet_of ((lK _ I2.out).mono (fun e w' hq=>⟨hq.1,hq.2.out⟩))))
    go_wp2
    go_meet
    case rel=>exact ⟨true,rfl,⟨_,rfl⟩,⟨by rw [if_pos rfl];exact H'.out.symm⟩⟩
   rw [if_neg i1] at H
   have I1:=am (Bool.eq_false_iff.mpr i1)
   clear i1
   have H':=am (Option.some.inj H)
   clear H
   go_big_quiet (first|(with_reducible refine Calls.quiet_of ((lK _ I1.out).mono (fun e w' hq=>⟨hq.1,hq.2.out⟩))))
   go_wp2
   go_meet
   case rel=>exact ⟨true,rfl,⟨_,rfl⟩,⟨by rw [if_pos rfl];exact H'.out.symm⟩⟩
  case rest=>
   clear HA
   obtain ⟨x,rfl,⟨m,rfl⟩,HA⟩:=hcut
   cases x with
   |true=>
    have HA':=HA.out
    rw [if_pos rfl] at HA'
    subst HA'
    clear HA
    go_wp2
    go_ret
    exact ⟨rfl,bG HW.out _⟩
   |false=>
    have H:=HA.out
    rw [if_neg (by decide)] at H
    clear HA
    go_upto_region 20 with fail
    (try simp only [Act.put,List.setIfInBounds_toArray,List.set_cons_zero,List.set_cons_succ])
    go_cut [109] from 70 (fun j7 wd=>∃ (x:Bool),j7= .bool x∧Aside0 (Below w.heap.size w wd)∧Aside0 (Below wc.heap.size wc wd)∧Aside0 (if x=true then r=false else ((nd || lb == 0) && (no || le == 0))=r))
    case first=>
     cases ne with
     |true=>
      rw [if_pos rfl] at H
      obtain ⟨t,ht,H⟩:=bsm H
      have HE:=am ht
      have j5:=am (Kd.aI HR.out HW.out)
      clear ht
      cases t with
      |true=>
       rw [if_pos rfl] at H
       have H':=am (Option.some.inj H)
       clear H
       go_wp2_with (first|((with_reducible refine (fQ.calls k op n Aa ca la _ _ ?side1 HC.out HE.out).mono ?_);(case side1=>repeat (first|exact j5.out|(with_reducible refine Kd.wD ?_ _)|(with_reducible refine Kd.AA ?_)));rintro e wq ⟨rfl,hb⟩;have y2q:wq.cell? ⟨gb,2,none⟩=some (.bool true):=bB (w:=wc.drewN m) hb y2;have HBE:=am (show Below wc.heap.size wc wq from (bG (Below.refl _ _) m).trans hb);clear hb;(try dsimp only))|fail)
       go_meet
       case rel=>exact ⟨false,rfl,⟨aC HW.out HBE.out⟩,⟨HBE.out⟩,⟨by rw [if_neg (by decide)];exact H'.out⟩⟩
      |false=>
       rw [if_neg (by decide)] at H
       have H':=am (Option.some.inj H)
       clear H
       go_wp2_with (first|((with_reducible refine (fQ.calls k op n Aa ca la _ _ ?side1 HC.out HE.out).mono ?_);(case side1=>repeat (first|exact j5.out|(with_reducible refine Kd.wD ?_ _)|(with_reducible refine Kd.AA ?_)));rintro e wq ⟨rfl,hb⟩;have y2q:wq.cell? ⟨gb,2,none⟩=some (.bool true):=bB (w:=wc.drewN m) hb y2;have HBE:=am (show Below wc.heap.size wc wq from (bG (Below.refl _ _) m).trans hb);clear hb;(try dsimp only))|fail)
       go_meet
       case rel=>exact ⟨true,rfl,⟨aC HW.out HBE.out⟩,⟨HBE.out⟩,⟨by rw [if_pos rfl];exact H'.out.symm⟩⟩
     |false=>
      rw [if_neg (by decide)] at H
      by_cases j0:op=0
      ·rw [if_pos j0] at H
       by_cases j1:n=0
       ·rw [if_pos j1] at H
        subst j0
        subst j1
        by_cases j2:0 < (la.length:Int)
        ·rw [if_pos j2] at H
         have H':=am (Option.some.inj H)
         clear H
         have j3:=eq_true j2
         have j4:(0 < la.length)=True:=eq_true (by omega)
         clear j2
         go_wp2
         go_meet
         case rel=>exact ⟨true,sd_,⟨bG HW.out _⟩,⟨bG (Below.refl _ _) _⟩,⟨by rw [if_pos rfl];exact H'.out.symm⟩⟩
        rw [if_neg j2] at H
        have H':=am (Option.some.inj H)
        clear H
        have j3:=eq_false j2
        have j4:(0 < la.length)=False:=eq_false (by omega)
        clear j2
        go_wp2
        go_meet
        case rel=>exact ⟨false,sd_,⟨bG HW.out _⟩,⟨bG (Below.refl _ _) _⟩,⟨by rw [if_neg (by decide)];exact H'.out⟩⟩
       rw [if_neg j1] at H
       have H':=am (Option.some.inj H)
       clear H
       subst j0
       have j2:(n != 0)=true:=bne_iff_ne.mpr j1
       clear j1
       go_wp2
       go_meet
       case rel=>exact ⟨true,sd_,⟨bG HW.out _⟩,⟨bG (Below.refl _ _) _⟩,⟨by rw [if_pos rfl];exact H'.out.symm⟩⟩
      rw [if_neg j0] at H
      have H':=am (Option.some.inj H)
      clear H
      have j2:(op != 0)=true:=bne_iff_ne.mpr j0
      clear j0
      go_wp2
      go_meet
      case rel=>exact ⟨true,sd_,⟨bG HW.out _⟩,⟨bG (Below.refl _ _) _⟩,⟨by rw [if_pos rfl];exact H'.out.symm⟩⟩
    case rest=>
     clear H
     obtain ⟨x,rfl,HW2,HW3,HA⟩:=hcut
     cases x with
     |true=>
      have HA':=HA.out
      rw [if_pos rfl] at HA'
      subst HA'
      clear HA
      go_wp2
      go_ret
      exact ⟨rfl,HW2.out⟩
     |false=>
      have H:=HA.out
      rw [if_neg (by decide)] at H
      subst H
      have k6':=bB HW3.out k6
      have k7':=bB HW3.out k7
      have y3':=bB HW3.out y3
      have y4':=bB HW3.out y4
      clear HA k1 k2 k3 k4 k5 k6 k7 y0 y1 y2 y3 y4
      by_cases q6:lb=0
      ·have p6:((lb:Int) == 0)=true:=by rw [q6];rfl
       by_cases q7:le=0
       ·have p7:((le:Int) == 0)=true:=by rw [q7];rfl
        have Q6:=am q6
        have Q7:=am q7
        clear q6 q7
        cases nd <;> cases no <;> (go_wp2;go_ret;exact ⟨by simp [Q6.out,Q7.out],HW2.out⟩)
       have p7:((le:Int) == 0)=false:=beq_eq_false_iff_ne.mpr (by omega)
       have Q6:=am q6
       have Q7:=am q7
       clear q6 q7
       cases nd <;> cases no <;> (go_wp2;go_ret;exact ⟨by simp [Q6.out,Q7.out],HW2.out⟩)
      have p6:((lb:Int) == 0)=false:=beq_eq_false_iff_ne.mpr (by omega)
      have Q6:=am q6
      clear q6
      cases nd with
      |false=>
       go_wp2
       go_ret
       exact ⟨by simp [Q6.out],HW2.out⟩
      |true=>
       by_cases q7:le=0
       ·have p7:((le:Int) == 0)=true:=by rw [q7];rfl
        have Q7:=am q7
        clear q7
        cases no <;> (go_wp2;go_ret;exact ⟨by simp [p7,Q7.out],HW2.out⟩)
       have p7:((le:Int) == 0)=false:=beq_eq_false_iff_ne.mpr (by omega)
       have Q7:=am q7
       clear q7
       cases no <;> (go_wp2;go_ret;exact ⟨by simp [p7,Q7.out],HW2.out⟩)
theorem bM.mono_l:∀ k,(∀ y0 y1 y2 y3,LeO (bM.f k y0 y1 y2 y3) (bM.f (k + 1) y0 y1 y2 y3))∧(∀ y0 y1 y2 y3 y4,LeO (bM.l0 k y0 y1 y2 y3 y4) (bM.l0 (k + 1) y0 y1 y2 y3 y4))
 |0=>⟨fun _ _ _ _ r h=>by simp [bM.f] at h,fun _ _ _ _ _ r h=>by simp [bM.l0] at h⟩
 |k + 1=>by
  obtain ⟨ih0,ih1⟩:=bM.mono_l k
  refine ⟨?_,?_⟩
  ·intro y0 y1 y2 y3
   unfold bM.f
   have m0:=@dQ.mono
   exact mo_
  ·intro y0 y1 y2 y3 y4
   unfold bM.l0
   have m0:=@dQ.mono
   exact mo_
theorem bM.mono:∀ a0 a1 a2 a3 k,LeO (bM.f k a0 a1 a2 a3) (bM.f (k + 1) a0 a1 a2 a3):=by
 intro a0 a1 a2 a3 k
 obtain ⟨ih0,ih1⟩:=bM.mono_l k
 exact ih0 a0 a1 a2 a3
theorem aAa {w:World} {ok:Nat→Prop} {A:Option Addr} {n:Nat} {xs:List S70} (h:Kd.F k70 w ok A n xs) (i:Int) (h0:0≤i) (h1:i < n):
  ∃ ad A5 c5 A6 c6 A7 c7,A=some ad∧w.cell? (ad.add (i.toNat * 8))=some (.int .i64 (aG xs i).f0)∧w.cell? ⟨(ad.add (i.toNat * 8)).block,(ad.add (i.toNat * 8)).off + 1,none⟩=some (.int .i64 (aG xs i).f1)∧w.cell? ⟨(ad.add (i.toNat * 8)).block,(ad.add (i.toNat * 8)).off + 2,none⟩=some (.int .i64 (aG xs i).f2)∧w.cell? ⟨(ad.add (i.toNat * 8)).block,(ad.add (i.toNat * 8)).off + 3,none⟩=some (.int .i64 (aG xs i).f3.f0)∧w.cell? ⟨(ad.add (i.toNat * 8)).block,(ad.add (i.toNat * 8)).off + 4,none⟩=some (.int .i64 (aG xs i).f3.f1)∧w.cell? ⟨(ad.add (i.toNat * 8)).block,(ad.add (i.toNat * 8)).off + 5,none⟩=some (.slice A5 (aG xs i).f3.f2.length c5)∧w.cell? ⟨(ad.add (i.toNat * 8)).block,(ad.add (i.toNat * 8)).off + 6,none⟩=some (.slice A6 (aG xs i).f4.length c6)∧w.cell? ⟨(ad.add (i.toNat * 8)).block,(ad.add (i.toNat * 8)).off + 7,none⟩=some (.slice A7 (aG xs i).f5.length c7)∧(aG xs i).f3.f2.length≤c5∧Kd.F k28 w ok A5 (aG xs i).f3.f2.length (aG xs i).f3.f2∧(aG xs i).f4.length≤c6∧Kd.F k70 w ok A6 (aG xs i).f4.length (aG xs i).f4∧(aG xs i).f5.length≤c7∧Kd.F k70 w ok A7 (aG xs i).f5.length (aG xs i).f5:=by
 obtain ⟨ad,c,e,_,hK,hc0,_⟩:=Kd.RH h z70 i h0 h1
 have hc:∀ j u,c[j]?=some u→w.cell? (ad.add (i.toNat * 8 + j))=some u:=hc0
 obtain ⟨A5,c5,A6,c6,A7,c7,rfl,l5,g5,l6,g6,l7,g7⟩:=OZ hK
 exact ⟨ad,A5,c5,A6,c6,A7,c7,e,hc 0 _ rfl,by rw [← fO _ _ 1 (by omega)];exact hc 1 _ rfl,by rw [← fO _ _ 2 (by omega)];exact hc 2 _ rfl,by rw [← fO _ _ 3 (by omega)];exact hc 3 _ rfl,by rw [← fO _ _ 4 (by omega)];exact hc 4 _ rfl,by rw [← fO _ _ 5 (by omega)];exact hc 5 _ rfl,by rw [← fO _ _ 6 (by omega)];exact hc 6 _ rfl,by rw [← fO _ _ 7 (by omega)];exact hc 7 _ rfl,l5,g5,l6,g6,l7,g7⟩
theorem oL {w w1:World} {g:Nat} {a:Addr} {v:Value} (hk:dY w w1 g none) (h:w.cell? a=some v) (hne:a.block≠g):w1.cell? a=some v:=
 (World.cell?_of_block (w:=w) (hk.2 a.block (World.block_lt_of_cell? w a h) hne (by simp))).trans h
theorem bM.callsP (k:Nat):∀ (A:Option Addr) (c:Nat) (l:List S70) (boxes blocks cnt:Int) (gc B:Nat) (ok:Nat→Prop) (r:Bool) (cnt':Int) (w:World)
  (hF:Kd.F k70 w ok A l.length l) (hc:l.length≤c) (hno:¬ ok gc) (hB:B≤gc) (hb:w.heap[gc]?=some (.cells #[.int .i64 cnt] 3 (0,0))) (h:bM.f k l boxes blocks cnt=some (r,cnt')),
  Calls Try.prog 81 #[.slice A l.length c, .int .i64 boxes, .int .i64 blocks, .pointer (some ⟨gc,0,none⟩)] w fun e w'=>e= .returned (.bool r)∧w'.heap[gc]?=some (.cells #[.int .i64 cnt'] 3 (0,0))∧dY w w' gc none∧Below B w w':=by
 induction k using Nat.strongRecOn with
 | _ k ih=>
 intro A c l boxes blocks cnt gc B ok r cnt' w hF hc hno hB hb h
 cases k with
 |zero=>exact absurd h (by simp [bM.f])
 |succ k=>
 simp only [bM.f] at h
 have HF:=am hF
 have HC:=am hc
 have HNO:=am hno
 have HGB:=am hB
 have HBX:=am hb
 have z0:w.cell? ⟨gc,0,none⟩=some (.int .i64 cnt):=aA hb 0
 have f0:=aH hb 0
 have j4:=am (aT (cs':=#[.int .i64 (wrap64 (cnt + (l.length:Int)))]) hb 0 (.int .i64 (wrap64 (cnt + (l.length:Int)))) rfl)
 have j5:=am (dY.aCl (dY.refl w gc none) 0 (.int .i64 (wrap64 (cnt + (l.length:Int)))))
 have HW1:=am (Below.setCell (p:=⟨gc,0,none⟩) (Below.refl B w) hB (.int .i64 (wrap64 (cnt + (l.length:Int)))))
 clear hF hc hno hb hB
 by_cases c0:16 < wrap64 (cnt + (l.length:Int))
 ·rw [if_pos c0] at h
  have h1:=Option.some.inj h
  injection h1 with h1 h2
  subst h1
  subst h2
  have j7:decide (16 < wrap64 (cnt + (l.length:Int)))=true:=decide_eq_true c0
  clear h
  go_enter Try.func81,Try.ntmps81
  go_wp2
  go_ret
  exact ⟨rfl,j4.out,j5.out,HW1.out⟩
 rw [if_neg c0] at h
 have j7:decide (16 < wrap64 (cnt + (l.length:Int)))=false:=decide_eq_false c0
 have H':=am h
 clear h
 go_enter Try.func81,Try.ntmps81
 go_wp2
 go_loopg [24] k (fun kq j8 w'=>∃ (i cq:Int),j8= .int .i64 i∧Aside0 (bM.l0 kq l boxes blocks i cq=some (r,cnt'))∧Aside0 (kq≤k)∧Aside0 (w'.heap[gc]?=some (.cells #[.int .i64 cq] 3 (0,0)))∧Aside0 (dY w w' gc none)∧Aside0 (Below B w w'))
 case atStart=>exact ⟨0,_,rfl,H',⟨Nat.le_refl _⟩,j4,j5,HW1⟩
 case round=>
  obtain ⟨i,cq,rfl,HA,HK,HBQ,HKQ,HWQ⟩:=hrel
  cases gk with
  |zero=>exact absurd HA.out (by simp [bM.l0])
  |succ k1=>
   have H:=HA.out
   clear HA
   simp only [bM.l0] at H
   by_cases c1:i < (l.length:Int)
   ·rw [if_pos c1] at H
    by_cases c2:0≤i
    ·rw [if_pos c2] at H
     obtain ⟨t,ht,H⟩:=bsm H
     have hF':=Kd.sZ HF.out (fun q hq hlt=>HKQ.out.2 q hlt (fun e=>HNO.out (e ▸ hq)) (by simp))
     obtain ⟨ad,A5,c5,A6,c6,A7,c7,rfl,x0,x1,x2,x3,x4,x5,x6,x7,l5,g5,l6,g6,l7,g7⟩:=aAa hF' i c2 c1
     obtain ⟨ad_,cs_,e_,_,_,_,okad⟩:=Kd.RH hF' z70 i c2 c1
     cases e_
     have NE7:=am (show (ad.add (i.toNat * 8)).block≠gc from fun e=>HNO.out (e ▸ (add_block ad _).symm ▸ okad (by decide)))
     clear okad
     have HT:=am ht
     have j9:decide (i < (l.length:Int))=true:=decide_eq_true c1
     have p0:=eq_true c2
     have p1:=eq_true c1
     have G5:=am (Kd.NH g5)
     have L5:=am l5
     have G6:=am g6
     have L6:=am l6
     have G7:=am g7
     have L7:=am l7
     clear ht hF' g5 l5 g6 l6 g7 l7 c1 c2 z0 f0
     cases t with
     |false=>
      rw [if_neg (by decide)] at H
      have h1:=Option.some.inj H
      injection h1 with h1 h2
      subst h1
      subst h2
      clear H
      go_wp2_with (first|((with_reducible refine (dQ.callsP k1 (ad.add (i.toNat * 8)) _ _ _ _ _ A5 c5 _ A6 _ c6 A7 _ c7 _ _ _ x0 x1 x2 x3 x4 x5 x6 x7 G5.out L5.out HT.out).mono ?_);rintro e wa ⟨rfl,hb⟩;have y0:=bB hb x0;have y6:=bB hb x6;have y7:=bB hb x7;have BXA:=am (aJ HBQ.out hb);have KA:=am (dY.trans HKQ.out (dY.of_below hb gc none) (.inl rfl));have WA:=am (HWQ.out.trans (hb.mono (Nat.le_of_lt (Nat.lt_of_le_of_lt HGB.out (dM HBQ.out)))));have G6A:=am (Kd.gP G6.out hb);have G7A:=am (Kd.gP G7.out hb);clear hb;(try dsimp only)))
      go_ret
      exact ⟨rfl,BXA.out,KA.out,WA.out⟩
     |true=>
      rw [if_pos rfl] at H
      by_cases c3:3 < blocks
      ·rw [if_pos c3] at H
       have ja:decide (3 < blocks)=true:=decide_eq_true c3
       have h1:=Option.some.inj H
       injection h1 with h1 h2
       subst h1
       subst h2
       clear H
       go_wp2_with (first|((with_reducible refine (dQ.callsP k1 (ad.add (i.toNat * 8)) _ _ _ _ _ A5 c5 _ A6 _ c6 A7 _ c7 _ _ _ x0 x1 x2 x3 x4 x5 x6 x7 G5.out L5.out HT.out).mono ?_);rintro e wa ⟨rfl,hb⟩;have y0:=bB hb x0;have y6:=bB hb x6;have y7:=bB hb x7;have BXA:=am (aJ HBQ.out hb);have KA:=am (dY.trans HKQ.out (dY.of_below hb gc none) (.inl rfl));have WA:=am (HWQ.out.trans (hb.mono (Nat.le_of_lt (Nat.lt_of_le_of_lt HGB.out (dM HBQ.out)))));have G6A:=am (Kd.gP G6.out hb);have G7A:=am (Kd.gP G7.out hb);clear hb;(try dsimp only)))
       go_ret
       exact ⟨rfl,BXA.out,KA.out,WA.out⟩
      rw [if_neg c3] at H
      have ja:decide (3 < blocks)=false:=decide_eq_false c3
      by_cases c4:(aG l i).f0=2∨(aG l i).f0=3
      ·rw [if_pos c4] at H
       by_cases j3:3≤blocks
       ·rw [if_pos j3] at H
        have jb:decide (3≤blocks)=true:=decide_eq_true j3
        clear c3 j3
        have h1:=Option.some.inj H
        injection h1 with h1 h2
        subst h1
        subst h2
        clear H
        rcases c4 with c4|c4
        ·have d2:((aG l i).f0 != 2)=false:=bne_eq_false_iff_eq.mpr c4
         clear c4
         go_wp2_with (first|((with_reducible refine (dQ.callsP k1 (ad.add (i.toNat * 8)) _ _ _ _ _ A5 c5 _ A6 _ c6 A7 _ c7 _ _ _ x0 x1 x2 x3 x4 x5 x6 x7 G5.out L5.out HT.out).mono ?_);rintro e wa ⟨rfl,hb⟩;have y0:=bB hb x0;have y6:=bB hb x6;have y7:=bB hb x7;have BXA:=am (aJ HBQ.out hb);have KA:=am (dY.trans HKQ.out (dY.of_below hb gc none) (.inl rfl));have WA:=am (HWQ.out.trans (hb.mono (Nat.le_of_lt (Nat.lt_of_le_of_lt HGB.out (dM HBQ.out)))));have G6A:=am (Kd.gP G6.out hb);have G7A:=am (Kd.gP G7.out hb);clear hb;(try dsimp only)))
         go_ret
         exact ⟨rfl,BXA.out,KA.out,WA.out⟩
        ·have d2:((aG l i).f0 != 2)=true:=bne_iff_ne.mpr (by omega)
         have d3:((aG l i).f0 != 3)=false:=bne_eq_false_iff_eq.mpr c4
         clear c4
         go_wp2_with (first|((with_reducible refine (dQ.callsP k1 (ad.add (i.toNat * 8)) _ _ _ _ _ A5 c5 _ A6 _ c6 A7 _ c7 _ _ _ x0 x1 x2 x3 x4 x5 x6 x7 G5.out L5.out HT.out).mono ?_);rintro e wa ⟨rfl,hb⟩;have y0:=bB hb x0;have y6:=bB hb x6;have y7:=bB hb x7;have BXA:=am (aJ HBQ.out hb);have KA:=am (dY.trans HKQ.out (dY.of_below hb gc none) (.inl rfl));have WA:=am (HWQ.out.trans (hb.mono (Nat.le_of_lt (Nat.lt_of_le_of_lt HGB.out (dM HBQ.out)))));have G6A:=am (Kd.gP G6.out hb);have G7A:=am (Kd.gP G7.out hb);clear hb;(try dsimp only)))
         go_ret
         exact ⟨rfl,BXA.out,KA.out,WA.out⟩
       rw [if_neg j3] at H
       have jb:decide (3≤blocks)=false:=decide_eq_false j3
       clear c3 j3
       obtain ⟨⟨r1,jc⟩,hp,H⟩:=bsm H
       have HP:=am hp
       clear hp
       cases r1 with
       |false=>
        rw [if_neg Bool.false_ne_true] at H
        have h1:=Option.some.inj H
        injection h1 with h1 h2
        subst h1
        subst h2
        clear H
        rcases c4 with c4|c4
        ·have d2:((aG l i).f0 != 2)=false:=bne_eq_false_iff_eq.mpr c4
         clear c4
         go_wp2_with (first|((with_reducible refine (dQ.callsP k1 (ad.add (i.toNat * 8)) _ _ _ _ _ A5 c5 _ A6 _ c6 A7 _ c7 _ _ _ x0 x1 x2 x3 x4 x5 x6 x7 G5.out L5.out HT.out).mono ?_);rintro e wa ⟨rfl,hb⟩;have y0:=bB hb x0;have y6:=bB hb x6;have y7:=bB hb x7;have BXA:=am (aJ HBQ.out hb);have KA:=am (dY.trans HKQ.out (dY.of_below hb gc none) (.inl rfl));have WA:=am (HWQ.out.trans (hb.mono (Nat.le_of_lt (Nat.lt_of_le_of_lt HGB.out (dM HBQ.out)))));have G6A:=am (Kd.gP G6.out hb);have G7A:=am (Kd.gP G7.out hb);clear hb;(try dsimp only))|((with_reducible refine (ih k1 (by have:=HK.out;omega) A6 c6 _ boxes (wrap64 (blocks + 1)) cq gc B ok _ _ _ G6A.out L6.out HNO.out HGB.out BXA.out HP.out).mono ?_);rintro e wb ⟨rfl,hx,hk,hw⟩;have ne7:=am hk;have u7:=oL hk y7 NE7.out;have G7B:=am (Kd.sZ G7A.out (fun q hq hlt=>hk.2 q hlt (fun e=>HNO.out (e ▸ hq)) (by simp)));have BXB:=am hx;have KB:=am (dY.trans KA.out hk (.inl rfl));have WB:=am (WA.out.trans hw);clear hx hk hw;(try dsimp only)))
         go_ret
         exact ⟨rfl,BXB.out,KB.out,WB.out⟩
        ·have d2:((aG l i).f0 != 2)=true:=bne_iff_ne.mpr (by omega)
         have d3:((aG l i).f0 != 3)=false:=bne_eq_false_iff_eq.mpr c4
         clear c4
         go_wp2_with (first|((with_reducible refine (dQ.callsP k1 (ad.add (i.toNat * 8)) _ _ _ _ _ A5 c5 _ A6 _ c6 A7 _ c7 _ _ _ x0 x1 x2 x3 x4 x5 x6 x7 G5.out L5.out HT.out).mono ?_);rintro e wa ⟨rfl,hb⟩;have y0:=bB hb x0;have y6:=bB hb x6;have y7:=bB hb x7;have BXA:=am (aJ HBQ.out hb);have KA:=am (dY.trans HKQ.out (dY.of_below hb gc none) (.inl rfl));have WA:=am (HWQ.out.trans (hb.mono (Nat.le_of_lt (Nat.lt_of_le_of_lt HGB.out (dM HBQ.out)))));have G6A:=am (Kd.gP G6.out hb);have G7A:=am (Kd.gP G7.out hb);clear hb;(try dsimp only))|((with_reducible refine (ih k1 (by have:=HK.out;omega) A6 c6 _ boxes (wrap64 (blocks + 1)) cq gc B ok _ _ _ G6A.out L6.out HNO.out HGB.out BXA.out HP.out).mono ?_);rintro e wb ⟨rfl,hx,hk,hw⟩;have ne7:=am hk;have u7:=oL hk y7 NE7.out;have G7B:=am (Kd.sZ G7A.out (fun q hq hlt=>hk.2 q hlt (fun e=>HNO.out (e ▸ hq)) (by simp)));have BXB:=am hx;have KB:=am (dY.trans KA.out hk (.inl rfl));have WB:=am (WA.out.trans hw);clear hx hk hw;(try dsimp only)))
         go_ret
         exact ⟨rfl,BXB.out,KB.out,WB.out⟩
       |true=>
        rw [if_pos rfl] at H
        obtain ⟨⟨r2,j6⟩,hq,H⟩:=bsm H
        have HQ:=am hq
        clear hq
        cases r2 with
        |false=>
         rw [if_neg Bool.false_ne_true] at H
         have h1:=Option.some.inj H
         injection h1 with h1 h2
         subst h1
         subst h2
         clear H
         rcases c4 with c4|c4
         ·have d2:((aG l i).f0 != 2)=false:=bne_eq_false_iff_eq.mpr c4
          clear c4
          go_wp2_with (first|((with_reducible refine (dQ.callsP k1 (ad.add (i.toNat * 8)) _ _ _ _ _ A5 c5 _ A6 _ c6 A7 _ c7 _ _ _ x0 x1 x2 x3 x4 x5 x6 x7 G5.out L5.out HT.out).mono ?_);rintro e wa ⟨rfl,hb⟩;have y0:=bB hb x0;have y6:=bB hb x6;have y7:=bB hb x7;have BXA:=am (aJ HBQ.out hb);have KA:=am (dY.trans HKQ.out (dY.of_below hb gc none) (.inl rfl));have WA:=am (HWQ.out.trans (hb.mono (Nat.le_of_lt (Nat.lt_of_le_of_lt HGB.out (dM HBQ.out)))));have G6A:=am (Kd.gP G6.out hb);have G7A:=am (Kd.gP G7.out hb);clear hb;(try dsimp only))|((with_reducible refine (ih k1 (by have:=HK.out;omega) A6 c6 _ boxes (wrap64 (blocks + 1)) cq gc B ok _ _ _ G6A.out L6.out HNO.out HGB.out BXA.out HP.out).mono ?_);rintro e wb ⟨rfl,hx,hk,hw⟩;have ne7:=am hk;have u7:=oL hk y7 NE7.out;have G7B:=am (Kd.sZ G7A.out (fun q hq hlt=>hk.2 q hlt (fun e=>HNO.out (e ▸ hq)) (by simp)));have BXB:=am hx;have KB:=am (dY.trans KA.out hk (.inl rfl));have WB:=am (WA.out.trans hw);clear hx hk hw;(try dsimp only))|((with_reducible refine (ih k1 (by have:=HK.out;omega) A7 c7 _ boxes (wrap64 (blocks + 1)) _ gc B ok _ _ _ G7B.out L7.out HNO.out HGB.out BXB.out HQ.out).mono ?_);rintro e wd ⟨rfl,hx,hk,hw⟩;have BXD:=am hx;have KD:=am (dY.trans KB.out hk (.inl rfl));have WD:=am (WB.out.trans hw);clear hx hk hw;(try dsimp only)))
          go_ret
          exact ⟨rfl,BXD.out,KD.out,WD.out⟩
         ·have d2:((aG l i).f0 != 2)=true:=bne_iff_ne.mpr (by omega)
          have d3:((aG l i).f0 != 3)=false:=bne_eq_false_iff_eq.mpr c4
          clear c4
          go_wp2_with (first|((with_reducible refine (dQ.callsP k1 (ad.add (i.toNat * 8)) _ _ _ _ _ A5 c5 _ A6 _ c6 A7 _ c7 _ _ _ x0 x1 x2 x3 x4 x5 x6 x7 G5.out L5.out HT.out).mono ?_);rintro e wa ⟨rfl,hb⟩;have y0:=bB hb x0;have y6:=bB hb x6;have y7:=bB hb x7;have BXA:=am (aJ HBQ.out hb);have KA:=am (dY.trans HKQ.out (dY.of_below hb gc none) (.inl rfl));have WA:=am (HWQ.out.trans (hb.mono (Nat.le_of_lt (Nat.lt_of_le_of_lt HGB.out (dM HBQ.out)))));have G6A:=am (Kd.gP G6.out hb);have G7A:=am (Kd.gP G7.out hb);clear hb;(try dsimp only))|((with_reducible refine (ih k1 (by have:=HK.out;omega) A6 c6 _ boxes (wrap64 (blocks + 1)) cq gc B ok _ _ _ G6A.out L6.out HNO.out HGB.out BXA.out HP.out).mono ?_);rintro e wb ⟨rfl,hx,hk,hw⟩;have ne7:=am hk;have u7:=oL hk y7 NE7.out;have G7B:=am (Kd.sZ G7A.out (fun q hq hlt=>hk.2 q hlt (fun e=>HNO.out (e ▸ hq)) (by simp)));have BXB:=am hx;have KB:=am (dY.trans KA.out hk (.inl rfl));have WB:=am (WA.out.trans hw);clear hx hk hw;(try dsimp only))|((with_reducible refine (ih k1 (by have:=HK.out;omega) A7 c7 _ boxes (wrap64 (blocks + 1)) _ gc B ok _ _ _ G7B.out L7.out HNO.out HGB.out BXB.out HQ.out).mono ?_);rintro e wd ⟨rfl,hx,hk,hw⟩;have BXD:=am hx;have KD:=am (dY.trans KB.out hk (.inl rfl));have WD:=am (WB.out.trans hw);clear hx hk hw;(try dsimp only)))
          go_ret
          exact ⟨rfl,BXD.out,KD.out,WD.out⟩
        |true=>
         rw [if_pos rfl] at H
         have H':=am H
         clear H
         rcases c4 with c4|c4
         ·have d2:((aG l i).f0 != 2)=false:=bne_eq_false_iff_eq.mpr c4
          clear c4
          go_wp2_with (first|((with_reducible refine (dQ.callsP k1 (ad.add (i.toNat * 8)) _ _ _ _ _ A5 c5 _ A6 _ c6 A7 _ c7 _ _ _ x0 x1 x2 x3 x4 x5 x6 x7 G5.out L5.out HT.out).mono ?_);rintro e wa ⟨rfl,hb⟩;have y0:=bB hb x0;have y6:=bB hb x6;have y7:=bB hb x7;have BXA:=am (aJ HBQ.out hb);have KA:=am (dY.trans HKQ.out (dY.of_below hb gc none) (.inl rfl));have WA:=am (HWQ.out.trans (hb.mono (Nat.le_of_lt (Nat.lt_of_le_of_lt HGB.out (dM HBQ.out)))));have G6A:=am (Kd.gP G6.out hb);have G7A:=am (Kd.gP G7.out hb);clear hb;(try dsimp only))|((with_reducible refine (ih k1 (by have:=HK.out;omega) A6 c6 _ boxes (wrap64 (blocks + 1)) cq gc B ok _ _ _ G6A.out L6.out HNO.out HGB.out BXA.out HP.out).mono ?_);rintro e wb ⟨rfl,hx,hk,hw⟩;have ne7:=am hk;have u7:=oL hk y7 NE7.out;have G7B:=am (Kd.sZ G7A.out (fun q hq hlt=>hk.2 q hlt (fun e=>HNO.out (e ▸ hq)) (by simp)));have BXB:=am hx;have KB:=am (dY.trans KA.out hk (.inl rfl));have WB:=am (WA.out.trans hw);clear hx hk hw;(try dsimp only))|((with_reducible refine (ih k1 (by have:=HK.out;omega) A7 c7 _ boxes (wrap64 (blocks + 1)) _ gc B ok _ _ _ G7B.out L7.out HNO.out HGB.out BXB.out HQ.out).mono ?_);rintro e wd ⟨rfl,hx,hk,hw⟩;have BXD:=am hx;have KD:=am (dY.trans KB.out hk (.inl rfl));have WD:=am (WB.out.trans hw);clear hx hk hw;(try dsimp only)))
          go_roundg k1
          case measure=>have:=HK.out;omega
          case rel=>exact ⟨wrap64 (i + 1),j6,sd_,H',⟨by have:=HK.out;omega⟩,BXD,KD,WD⟩
         ·have d2:((aG l i).f0 != 2)=true:=bne_iff_ne.mpr (by omega)
          have d3:((aG l i).f0 != 3)=false:=bne_eq_false_iff_eq.mpr c4
          clear c4
          go_wp2_with (first|((with_reducible refine (dQ.callsP k1 (ad.add (i.toNat * 8)) _ _ _ _ _ A5 c5 _ A6 _ c6 A7 _ c7 _ _ _ x0 x1 x2 x3 x4 x5 x6 x7 G5.out L5.out HT.out).mono ?_);rintro e wa ⟨rfl,hb⟩;have y0:=bB hb x0;have y6:=bB hb x6;have y7:=bB hb x7;have BXA:=am (aJ HBQ.out hb);have KA:=am (dY.trans HKQ.out (dY.of_below hb gc none) (.inl rfl));have WA:=am (HWQ.out.trans (hb.mono (Nat.le_of_lt (Nat.lt_of_le_of_lt HGB.out (dM HBQ.out)))));have G6A:=am (Kd.gP G6.out hb);have G7A:=am (Kd.gP G7.out hb);clear hb;(try dsimp only))|((with_reducible refine (ih k1 (by have:=HK.out;omega) A6 c6 _ boxes (wrap64 (blocks + 1)) cq gc B ok _ _ _ G6A.out L6.out HNO.out HGB.out BXA.out HP.out).mono ?_);rintro e wb ⟨rfl,hx,hk,hw⟩;have ne7:=am hk;have u7:=oL hk y7 NE7.out;have G7B:=am (Kd.sZ G7A.out (fun q hq hlt=>hk.2 q hlt (fun e=>HNO.out (e ▸ hq)) (by simp)));have BXB:=am hx;have KB:=am (dY.trans KA.out hk (.inl rfl));have WB:=am (WA.out.trans hw);clear hx hk hw;(try dsimp only))|((with_reducible refine (ih k1 (by have:=HK.out;omega) A7 c7 _ boxes (wrap64 (blocks + 1)) _ gc B ok _ _ _ G7B.out L7.out HNO.out HGB.out BXB.out HQ.out).mono ?_);rintro e wd ⟨rfl,hx,hk,hw⟩;have BXD:=am hx;have KD:=am (dY.trans KB.out hk (.inl rfl));have WD:=am (WB.out.trans hw);clear hx hk hw;(try dsimp only)))
          go_roundg k1
          case measure=>have:=HK.out;omega
          case rel=>exact ⟨wrap64 (i + 1),j6,sd_,H',⟨by have:=HK.out;omega⟩,BXD,KD,WD⟩
      rw [if_neg c4] at H
      have d2:((aG l i).f0 != 2)=true:=bne_iff_ne.mpr (fun e=>c4 (.inl e))
      have d3:((aG l i).f0 != 3)=true:=bne_iff_ne.mpr (fun e=>c4 (.inr e))
      have H':=am H
      clear H c3 c4
      go_wp2_with (first|((with_reducible refine (dQ.callsP k1 (ad.add (i.toNat * 8)) _ _ _ _ _ A5 c5 _ A6 _ c6 A7 _ c7 _ _ _ x0 x1 x2 x3 x4 x5 x6 x7 G5.out L5.out HT.out).mono ?_);rintro e wa ⟨rfl,hb⟩;have y0:=bB hb x0;have y6:=bB hb x6;have y7:=bB hb x7;have BXA:=am (aJ HBQ.out hb);have KA:=am (dY.trans HKQ.out (dY.of_below hb gc none) (.inl rfl));have WA:=am (HWQ.out.trans (hb.mono (Nat.le_of_lt (Nat.lt_of_le_of_lt HGB.out (dM HBQ.out)))));have G6A:=am (Kd.gP G6.out hb);have G7A:=am (Kd.gP G7.out hb);clear hb;(try dsimp only)))
      go_roundg k1
      case measure=>have:=HK.out;omega
      case rel=>exact ⟨wrap64 (i + 1),cq,sd_,H',⟨by have:=HK.out;omega⟩,BXA,KA,WA⟩
    rw [if_neg c2] at H
    exact absurd H (by simp)
   rw [if_neg c1] at H
   have j9:decide (i < (l.length:Int))=false:=decide_eq_false c1
   have h1:=Option.some.inj H
   injection h1 with h1 h2
   subst h1
   subst h2
   clear H
   go_wp2
   go_ret
   exact ⟨rfl,HBQ.out,HKQ.out,HWQ.out⟩
theorem eZ.mono:∀ l0 a1 k,LeO (eZ.f k l0 a1) (eZ.f (k + 1) l0 a1):=by
 intro l0 a1 k
 unfold eZ.f
 exact LeO.bind (bM.mono _ _ _ _ _) (fun _=>LeO.refl _)
theorem eZ.calls (k:Nat) (A0:Option Addr) (c0:Nat) (l0:List (S70)) (a1:Int) (r:Bool) (w:World) (hr0:Kd.C k70 w A0 l0.length l0) (hc0:l0.length≤c0) (h:eZ.f k l0 a1=some r):
  Calls Try.prog 66 #[.slice A0 l0.length c0, .int .i64 a1] w fun e w'=>e= .returned (.bool r)∧Below w.heap.size w w':=by
 unfold eZ.f at h
 replace h:=Option.bind_eq_some_iff.mp h
 obtain ⟨⟨r',cnt'⟩,hv,h⟩:=h
 obtain rfl:=Option.some.inj h
 have HV:=am hv
 have HF:=am (Kd.C_F TH hr0)
 have j3:=am hc0
 clear hr0 hc0 h hv
 go_enter Try.func66,Try.ntmps66
 go_upto_region 2 with (first|((with_reducible refine bJ (N:=5) rfl ?_);refine bR (N:=5) rfl rfl (cs:=#[.int .i64 0]) (t:=3) rn_ ?_;intro gb hg w1 hbox hb;have z0:w1.cell? ⟨gb,0,none⟩=some (.int .i64 0):=aA hbox 0;have f0:=aH hbox 0;have HG:=am (Nat.le_of_eq hg.symm);have HBX:=am (aT (cs':=#[.int .i64 0]) hbox 0 (.int .i64 0) rfl);have HB:=am (below_set (j:=0) (v:= .int .i64 0) hb (Nat.le_of_eq hg.symm));clear hbox hb hg)|fail)
 go_wp2_with (first|((with_reducible refine (bM.callsP k A0 c0 l0 a1 0 0 _ w.heap.size (fun q=>q < w.heap.size) r' cnt' _ (Kd.gP HF.out HB.out) j3.out (Nat.not_lt.mpr HG.out) HG.out HBX.out HV.out).mono ?_);rintro e w2 ⟨rfl,_,_,hw⟩;have HW:=am (HB.out.trans hw);clear hw;(try dsimp only))|fail)
 go_ret
 exact ⟨rfl,HW.out⟩
theorem bS.mono_l:∀ k,(∀ y0 y1 y2 y3,LeO (bS.l0 k y0 y1 y2 y3) (bS.l0 (k + 1) y0 y1 y2 y3))
 |0=>fun _ _ _ _ r h=>by simp [bS.l0] at h
 |k + 1=>by
  have ih0:=bS.mono_l k
  ·intro y0 y1 y2 y3
   unfold bS.l0
   exact mo_
theorem bS.mono:∀ a0 k,LeO (bS.f k a0) (bS.f (k + 1) a0):=by
 intro a0 k
 have ih0:=bS.mono_l k
 unfold bS.f
 exact mo_
theorem bS.calls (k:Nat) (A0:Option Addr) (c0:Nat) (l0:List Int) (r:Bool) (w:World) (hr0:Kd.C (Kd.int .i64) w A0 l0.length l0) (hc0:l0.length≤c0) (h:bS.f k l0=some r):
  Calls Try.prog 69 #[.slice A0 l0.length c0] w fun e w'=>e= .returned (.bool r)∧fV w w':=by
 have j9:=am hr0
 have jg:=am hc0
 clear hr0 hc0
 have H:(bS.l0 k l0 l0 (l0.length:Int) 0)=some r:=h
 clear h
 have H':=am H
 clear H
 go_enter Try.func69,Try.ntmps69
 go_wp2
 go_loopg [7] k (fun kq v7 w'=>∃ (j3:Int),v7= .int .i64 j3∧Aside0 (bS.l0 kq l0 l0 (l0.length:Int) j3=some r)∧Aside0 (kq≤k)∧fV w w')
 case atStart=>exact ⟨(0),sd_,H',⟨Nat.le_refl _⟩,fF⟩
 case round=>
  clear H'
  obtain ⟨j3,rfl,HA,jd,⟨m1,rfl⟩⟩:=hrel
  cases gk with
  |zero=>exact absurd HA.out (by simp [bS.l0])
  |succ k1=>
   have H:=HA.out
   clear HA
   simp only [bS.l0] at H
   by_cases c2:j3 < (l0.length:Int)
   ·rw [if_pos c2] at H
    have ja:decide (j3 < (l0.length:Int))=true:=decide_eq_true c2
    clear c2
    by_cases c3:0≤j3
    ·rw [if_pos c3] at H
     have je:decide (0≤j3)=true:=decide_eq_true c3
     clear c3
     by_cases c4:j3 < (l0.length:Int)
     ·rw [if_pos c4] at H
      have jf:decide (j3 < (l0.length:Int))=true:=decide_eq_true c4
      clear c4
      by_cases c5:(rd l0 j3) < 1
      ·rw [if_pos c5] at H
       have jb:decide ((rd l0 j3) < 1)=true:=decide_eq_true c5
       clear c5
       obtain rfl:=Option.some.inj H
       have j4:0≤(j3:Int):=of_decide_eq_true bT
       have j5:j3 < (l0.length:Int):=of_decide_eq_true bT
       obtain ⟨j7,j8,j6⟩:=Kd.nR j9.out j3 j4 j5
       cases j8
       replace j4:=eq_true j4
       replace j5:=eq_true j5
       go_wp2
       go_ret
       exact ⟨sd_,fF⟩
      rw [if_neg c5] at H
      have jb:decide ((rd l0 j3) < 1)=false:=decide_eq_false c5
      clear c5
      by_cases c6:(rd l0 j3) > 4
      ·rw [if_pos c6] at H
       have jc:decide (4 < (rd l0 j3))=true:=decide_eq_true c6
       clear c6
       obtain rfl:=Option.some.inj H
       have j4:0≤(j3:Int):=of_decide_eq_true bT
       have j5:j3 < (l0.length:Int):=of_decide_eq_true bT
       obtain ⟨j7,j8,j6⟩:=Kd.nR j9.out j3 j4 j5
       cases j8
       replace j4:=eq_true j4
       replace j5:=eq_true j5
       go_wp2
       go_ret
       exact ⟨sd_,fF⟩
      rw [if_neg c6] at H
      have jc:decide (4 < (rd l0 j3))=false:=decide_eq_false c6
      clear c6
      have H':=am H
      clear H
      have j4:0≤(j3:Int):=of_decide_eq_true bT
      have j5:j3 < (l0.length:Int):=of_decide_eq_true bT
      obtain ⟨j7,j8,j6⟩:=Kd.nR j9.out j3 j4 j5
      cases j8
      replace j4:=eq_true j4
      replace j5:=eq_true j5
      go_wp2
      go_roundg k1
      case measure=>have:=jd.out;omega
      case rel=>exact ⟨(wrap64 (j3 + 1)),sd_,H',⟨by have:=jd.out;omega⟩,fF⟩
     rw [if_neg c4] at H
     exact absurd H (by simp)
    rw [if_neg c3] at H
    exact absurd H (by simp)
   rw [if_neg c2] at H
   have ja:decide (j3 < (l0.length:Int))=false:=decide_eq_false c2
   clear c2
   obtain rfl:=Option.some.inj H
   go_wp2
   go_ret
   exact ⟨sd_,fF⟩
theorem aW.mono_l:∀ k,(∀ y0 y1 y2,LeO (aW.j0 k y0 y1 y2) (aW.j0 (k + 1) y0 y1 y2))∧(∀ y0 y1 y2 y3 y4,LeO (aW.l0 k y0 y1 y2 y3 y4) (aW.l0 (k + 1) y0 y1 y2 y3 y4))
 |0=>⟨fun _ _ _ r h=>by simp [aW.j0] at h,fun _ _ _ _ _ r h=>by simp [aW.l0] at h⟩
 |k + 1=>by
  obtain ⟨ih0,ih1⟩:=aW.mono_l k
  refine ⟨?_,?_⟩
  ·intro y0 y1 y2
   unfold aW.j0
   have m0:=@bS.mono
   have m1:=@eZ.mono
   exact mo_
  ·intro y0 y1 y2 y3 y4
   unfold aW.l0
   have m0:=@bS.mono
   have m1:=@eZ.mono
   exact mo_
theorem aW.mono:∀ a0 a1 k,LeO (aW.f k a0 a1) (aW.f (k + 1) a0 a1):=by
 intro a0 a1 k
 obtain ⟨ih0,ih1⟩:=aW.mono_l k
 unfold aW.f
 have m0:=@bS.mono
 have m1:=@eZ.mono
 exact mo_
theorem aW.calls (k:Nat) (j8:Option Addr) (j9:Nat) (j5:List Int) (jd:Option Addr) (je:Nat) (j4:List (List (S70))) (r:Bool) (w:World) (hr0_0:Kd.C (Kd.int .i64) w j8 j5.length j5) (hc0_0:j5.length≤j9) (hr0_1:Kd.C (Kd.slice 70 k70) w jd j4.length j4) (hc0_1:j4.length≤je) (h:aW.f k j5 j4=some r):
  Calls Try.prog 48 #[.agg #[.slice j8 j5.length j9, .slice jd j4.length je]] w fun e w'=>e= .returned (.bool r)∧Below w.heap.size w w':=by
 have hu51:=Try.underlying51
 have jf:=am hr0_0
 have jg:=am hc0_0
 clear hr0_0 hc0_0
 have jp:=am hr0_1
 have jV:=am hc0_1
 clear hr0_1 hc0_1
 have HB:=am (Below.refl w.heap.size w)
 unfold aW.f at h
 have H:=h
 clear h
 have jF:=am H
 clear H
 go_enter Try.func48,Try.ntmps48
 go_upto_region 1 with (first|((with_reducible refine bJ (N:=1) rfl ?_);(try (refine lW (by rfl) ?_;dsimp only));refine bR rfl (N:=1) rfl (cs:=#[.slice j8 j5.length j9, .slice jd j4.length je]) (t:=51) rn_ ?_;intro jk hg w3 hbox hb;have j6:=am (hbox);have q2:=am ((by rw [hg];exact (aN dN):w.heap.size≤jk));have GE22:=am ((by rw [hg];exact (aN dN):w.heap.size≤jk));replace HB:=am (aC dN hb);clear hb hbox hg))
 (try simp only [Act.put,List.setIfInBounds_toArray,List.set_cons_zero,List.set_cons_succ])
 go_cut [20] (fun q3 wc=>∃ (kq:Nat) (jc:Bool),q3= .bool jc∧Aside0 (aW.j0 kq jc j5 j4=some r)∧Aside0 (kq≤k)∧Aside0 (wc.heap[jk]?=some (.cells #[(.slice j8 j5.length j9),(.slice jd j4.length je)] 51 (0,0)))∧Aside0 (Below w.heap.size w wc))
 case first=>
  have H:=jF.out
  clear jF
  obtain ⟨q4,A4,H⟩:=bsa H
  (try dsimp only at H)
  by_cases c5:q4=true
  ·subst c5
   rw [if_pos rfl] at H
   by_cases c6:(j4.length:Int) < 1
   ·rw [if_pos c6] at H
    have jh:decide ((j4.length:Int) < 1)=true:=decide_eq_true c6
    have jG:decide (j4.length < 1)=true:=decide_eq_true (by omega)
    clear c6
    (first|rw [jh]|(simp only [gT,gZ];rw [jh])|skip)
    have H':=am H
    clear H
    obtain ⟨jH,jI,jJ,jK⟩:=iP j6.out
    go_wp2_with (first|((with_reducible refine aD (f:=69) rfl ?_);refine aU (some 7) rfl rfl Try.func69 (by kernel_rfl) rfl #[.slice j8 j5.length j9] rfl dK ?_;(with_reducible refine (bS.calls k _ _ j5 true _ (aC_ (Kd.aI jf.out HB.out)) jg.out A4.out).mono ?_);rintro e w' ⟨rfl,⟨nd,rfl⟩⟩;refine ⟨_,rfl,?_⟩))
    go_meet
    case rel=>exact ⟨_,(true),sd_,H',⟨by first|omega|exact Nat.le_refl _⟩,⟨by (with_reducible repeat (first|refine gK ?_ _|refine eH ?_|refine fH ?_ _));exact j6.out⟩,⟨lN⟩⟩
   rw [if_neg c6] at H
   have jh:decide ((j4.length:Int) < 1)=false:=decide_eq_false c6
   have jG:decide (j4.length < 1)=false:=decide_eq_false (by omega)
   clear c6
   (first|rw [jh]|(simp only [gT,gZ];rw [jh])|skip)
   have H':=am H
   clear H
   obtain ⟨jL,jM,jN,jO⟩:=iP j6.out
   go_wp2_with (first|((with_reducible refine aD (f:=69) rfl ?_);refine aU (some 7) rfl rfl Try.func69 (by kernel_rfl) rfl #[.slice j8 j5.length j9] rfl dK ?_;(with_reducible refine (bS.calls k _ _ j5 true _ (aC_ (Kd.aI jf.out HB.out)) jg.out A4.out).mono ?_);rintro e w' ⟨rfl,⟨nd,rfl⟩⟩;refine ⟨_,rfl,?_⟩))
   go_meet
   case rel=>exact ⟨_,(decide ((j4.length:Int) > 3)),sd_,H',⟨by first|omega|exact Nat.le_refl _⟩,⟨by (with_reducible repeat (first|refine gK ?_ _|refine eH ?_|refine fH ?_ _));exact j6.out⟩,⟨lN⟩⟩
  replace c5:=Bool.eq_false_iff.mpr c5
  subst c5
  rw [if_neg (show ¬ (false=true) by decide)] at H
  have H':=am H
  clear H
  obtain ⟨jP,jQ,jR,jS⟩:=iP j6.out
  go_wp2_with (first|((with_reducible refine aD (f:=69) rfl ?_);refine aU (some 7) rfl rfl Try.func69 (by kernel_rfl) rfl #[.slice j8 j5.length j9] rfl dK ?_;(with_reducible refine (bS.calls k _ _ j5 false _ (aC_ (Kd.aI jf.out HB.out)) jg.out A4.out).mono ?_);rintro e w' ⟨rfl,⟨nd,rfl⟩⟩;refine ⟨_,rfl,?_⟩))
  go_meet
  case rel=>exact ⟨_,(true),sd_,H',⟨by first|omega|exact Nat.le_refl _⟩,⟨by (with_reducible repeat (first|refine gK ?_ _|refine eH ?_|refine fH ?_ _));exact j6.out⟩,⟨lN⟩⟩
 case rest=>
  clear jF
  obtain ⟨kq,jc,rfl,HA,HJ1,j6,HB⟩:=hcut
  cases kq with
  |zero=>exact absurd HA.out (by simp [aW.j0])
  |succ jW=>
   have H:=HA.out
   clear HA
   simp only [aW.j0] at H
   by_cases c10:jc=true
   ·subst c10
    rw [if_pos rfl] at H
    obtain rfl:=Option.some.inj H
    go_wp2
    go_ret
    exact ⟨rr_,lN⟩
   replace c10:=Bool.eq_false_iff.mpr c10
   subst c10
   rw [if_neg (show ¬ (false=true) by decide)] at H
   have H':=am H
   clear H
   obtain ⟨jl,jm,jn,jo⟩:=iP j6.out
   go_wp2
   go_loopg [24] jW (fun kq q5 w'=>∃ (j3:Int),q5= .int .i64 j3∧Aside0 (aW.l0 kq j4 (j4.length:Int) j3 j5 j4=some r)∧Aside0 (kq≤jW)∧Aside0 (w'.heap[jk]?=some (.cells #[(.slice j8 j5.length j9),(.slice jd j4.length je)] 51 (0,0)))∧Aside0 (Below w.heap.size w w'))
   case atStart=>exact ⟨(0),sd_,H',⟨Nat.le_refl _⟩,⟨by (with_reducible repeat (first|refine gK ?_ _|refine eH ?_|refine fH ?_ _));exact j6.out⟩,⟨lN⟩⟩
   case round=>
    clear H'
    try clear c10
    try clear jl
    try clear jm
    try clear jn
    try clear jo
    obtain ⟨j3,rfl,HA,jX,j6,HB⟩:=hrel
    cases gk with
    |zero=>exact absurd HA.out (by simp [aW.l0])
    |succ k2=>
     have H:=HA.out
     clear HA
     simp only [aW.l0] at H
     by_cases js:j3 < (j4.length:Int)
     ·rw [if_pos js] at H
      have jt:decide (j3 < (j4.length:Int))=true:=decide_eq_true js
      clear js
      by_cases ju:0≤j3
      ·rw [if_pos ju] at H
       have jY:decide (0≤j3)=true:=decide_eq_true ju
       clear ju
       by_cases jv:j3 < (j4.length:Int)
       ·rw [if_pos jv] at H
        have jZ:decide (j3 < (j4.length:Int))=true:=decide_eq_true jv
        clear jv
        obtain ⟨q6,q0,H⟩:=bsm H
        (try dsimp only at H)
        have q1:=am q0
        clear q0
        by_cases jw:q6=true
        ·subst jw
         rw [if_pos rfl] at H
         have H':=am H
         clear H
         have jq:0≤(j3:Int):=of_decide_eq_true bT
         have jr:j3 < (j4.length:Int):=of_decide_eq_true bT
         obtain ⟨jT,ji,jj,jU,j7,hl26_0,hi26_0⟩:=nY jp.out j3 jq jr
         cases jU
         replace j7:=(HB.out.cell (World.block_lt_of_cell? w _ j7)).trans j7
         have ja:=am hi26_0
         have jb:=am hl26_0
         clear hi26_0 hl26_0
         replace jq:=eq_true jq
         replace jr:=eq_true jr
         obtain ⟨jx,jy,jz,jA⟩:=iP j6.out
         go_wp2_with (first|((with_reducible refine aD (f:=66) rfl ?_);refine aU (some 32) rfl rfl Try.func66 (by kernel_rfl) rfl #[.slice ji (fU j4 j3).length jj, .int .i64 (j5.length:Int)] rfl dK ?_;(with_reducible refine (eZ.calls k2 _ _ (fU j4 j3) (j5.length:Int) true _ (aC_ (Kd.aI ja.out HB.out)) jb.out q1.out).mono ?_);rintro e q7 ⟨rfl,hb⟩;refine ⟨_,rfl,?_⟩;replace j6:=bbP j6 hb;replace HB:=am (aC lN hb);(try clear hb)))
         go_roundg k2
         case measure=>have:=HJ1.out;have:=jX.out;omega
         case rel=>exact ⟨(wrap64 (j3 + 1)),sd_,H',⟨by have:=HJ1.out;have:=jX.out;omega⟩,⟨by (with_reducible repeat (first|refine gK ?_ _|refine eH ?_|refine fH ?_ _));exact j6.out⟩,⟨lN⟩⟩
        replace jw:=Bool.eq_false_iff.mpr jw
        subst jw
        rw [if_neg (show ¬ (false=true) by decide)] at H
        obtain rfl:=Option.some.inj H
        have jq:0≤(j3:Int):=of_decide_eq_true bT
        have jr:j3 < (j4.length:Int):=of_decide_eq_true bT
        obtain ⟨jT,ji,jj,jU,j7,hl26_0,hi26_0⟩:=nY jp.out j3 jq jr
        cases jU
        replace j7:=(HB.out.cell (World.block_lt_of_cell? w _ j7)).trans j7
        have ja:=am hi26_0
        have jb:=am hl26_0
        clear hi26_0 hl26_0
        replace jq:=eq_true jq
        replace jr:=eq_true jr
        obtain ⟨jB,jC,jD,jE⟩:=iP j6.out
        go_wp2_with (first|((with_reducible refine aD (f:=66) rfl ?_);refine aU (some 32) rfl rfl Try.func66 (by kernel_rfl) rfl #[.slice ji (fU j4 j3).length jj, .int .i64 (j5.length:Int)] rfl dK ?_;(with_reducible refine (eZ.calls k2 _ _ (fU j4 j3) (j5.length:Int) false _ (aC_ (Kd.aI ja.out HB.out)) jb.out q1.out).mono ?_);rintro e q8 ⟨rfl,hb⟩;refine ⟨_,rfl,?_⟩;replace j6:=bbP j6 hb;replace HB:=am (aC lN hb);(try clear hb)))
        go_ret
        exact ⟨rr_,lN⟩
       rw [if_neg jv] at H
       exact absurd H (by simp)
      rw [if_neg ju] at H
      exact absurd H (by simp)
     rw [if_neg js] at H
     have jt:decide (j3 < (j4.length:Int))=false:=decide_eq_false js
     clear js
     obtain rfl:=Option.some.inj H
     go_wp2
     go_ret
     exact ⟨rr_,lN⟩
theorem gD.calls (A0:Option Addr) (c0:Nat) (l0:List Int) (r:List Int) (w:World) (hr0:Kd.C (Kd.int .i64) w A0 l0.length l0) (hc0:l0.length≤c0) (h:gD.f l0=some r):
  Calls Try.prog 49 #[.slice A0 l0.length c0] w fun e w'=>∃ v0_:Value,e= .returned (v0_)∧Kd.R (Kd.int .i64) 3 w' w.heap.size (fun _=>True) v0_ r∧Below w.heap.size w w':=by
 have j9:=am hr0
 have jc:=am hc0
 clear hr0 hc0
 have HB:=am (Below.refl w.heap.size w)
 unfold gD.f at h
 have H:=h
 clear h
 obtain ⟨j4,hy_⟩:∃ y_:List Int,y_=(([]:List Int)):=⟨_,rfl⟩
 replace H:(if j4.length + l0.length < 17592186044416 then (some (j4 ++ l0)) else (none))=some r:=rx_
 have j3:=am hy_
 clear hy_
 by_cases c2:j4.length + l0.length < 17592186044416
 ·rw [if_pos c2] at H
  have j7:=am c2
  clear c2
  obtain ⟨ja,hy_⟩:∃ y_:List Int,y_=(j4 ++ l0):=⟨_,rfl⟩
  replace H:(some ja)=some r:=rx_
  have j5:=am hy_
  clear hy_
  obtain rfl:=Option.some.inj H
  cases A0 with
  |none=>
   have hl:l0=[]:=by
    have hr:=j9.out
    rcases Nat.eq_zero_or_pos l0.length with h0|h0
    ·exact List.eq_nil_of_length_eq_zero h0
    ·obtain ⟨ad,e,_⟩:=hr.2.2 h0
     cases e
   have hy:ja=[]:=by rw [j5.out,j3.out,hl];rfl
   rw [hy]
   have hnl:=fun (w:World) (n c n' c':Nat)=>Lib.run_eql_slice_nil (P:=Try.prog) w 44 3 none n c n' c' Try.underlying44
   go_enter Try.func49,Try.ntmps49
   go_wp2
   go_ret
   exact ⟨_,rfl,Kd.uZ _ _ _ _ _,HB.out⟩
  |some ad=>
   have hnl:=fun (w:World) (n c n' c':Nat)=>Lib.run_eql_slice_nil (P:=Try.prog) w 44 3 (some ad) n c n' c' Try.underlying44
   go_enter Try.func49,Try.ntmps49
   go_wp2_with (first|((with_reducible refine bJ (N:=5) rfl ?_);refine Kd.DV (Kd.int .i64) _ 3 rfl (N:=5) rfl (xs:=([]:List Int)) (inner:=[]) (ok:=fun _=>True) (okp:=fun _=>True) rn_ ?hp (fun _ hk=>hk) trivial (Below.refl _ _) (Nat.le_refl _) (by simp) ?_;(case hp=>exact (fZ.none _ _));intro jb w3 ho4 hb hg_ hnew_;clear hg_ hnew_;(first|rw [← j3.out] at ho4|(simp only [Int.reduceToNat] at ho4;rw [← j3.out] at ho4));have j6:=am (Kd.lC ho4 (aN dN));replace HB:=am (aC dN hb);clear hb ho4)|((with_reducible refine wQ (b:= .append) (xs:=#[.tmp 5, .tmp 6]) rfl ?_);at_builtin;refine Kd.nH (Kd.int .i64) (w0:=w) w.heap.size rfl (.tmp 5) (.tmp 6) 44 3 (.int .i64 0) 8 rfl Try.underlying44 info3 rfl (by decide) (by omega) jb j4 l0 _ _ _ (fun _=>True) (fun _=>False) rfl rfl ?aO ?aR (fun _ _ h=>h) (fun _ h=>h.elim) ?aF ?aB ?aS ?aL ?_;(case aR=>repeat (first|exact (Kd.aI j9.out HB.out)|(with_reducible refine Kd.ET ?_ _)|(with_reducible refine Kd.wD ?_ _)|(with_reducible refine Kd.AA ?_)));(case aB=>exact dN);(case aF=>exact (fun _ _=>trivial));(case aO=>exact (aR_ j6.out));(case aS=>exact (aN dN));(case aL=>have:=j7.out;omega);intro jd w5 ho hb hg hat;rw [← j5.out] at ho;replace HB:=am (hb);have j8:=am (ho);clear j6 ho hb hg hat))
   go_ret
   exact ⟨_,sJ,vL j8.out,dN⟩
 rw [if_neg c2] at H
 exact absurd H (by simp)
theorem aV.mono_l:∀ k,(∀ y0 y1 y2 y3 y4,LeO (aV.l0 k y0 y1 y2 y3 y4) (aV.l0 (k + 1) y0 y1 y2 y3 y4))
 |0=>fun _ _ _ _ _ r h=>by simp [aV.l0] at h
 |k + 1=>by
  have ih0:=aV.mono_l k
  ·intro y0 y1 y2 y3 y4
   unfold aV.l0
   have m0:=@aW.mono
   have m1:=@aM.mono
   exact mo_
theorem aV.mono:∀ a0 a1 k,LeO (aV.f k a0 a1) (aV.f (k + 1) a0 a1):=by
 intro a0 a1 k
 have ih0:=aV.mono_l k
 unfold aV.f
 have m0:=@aW.mono
 have m1:=@aM.mono
 exact mo_
def aV.T7:Bool × List (List Nat × List Nat):=(true,[([],[]),([0],[0]),([],[]),([2],[2]),([3],[3]),([1,4,3],[1,4]),([0,1,2,3,4,5],[]),([6,5,5,0,1,2,3,4,5],[5,6])])
def aV.B7:List Nat:=[0,1,0,4,12,31,63,127]
theorem aV.aAk:kZ .any (opsOf Try.f23 7)=aV.T7:=by kernel_rfl
theorem aV.NW:kG aV.T7.2 aV.B7=true:=by kernel_rfl
theorem aV.calls (k:Nat) (jm:Option Addr) (jn:Nat) (je:List Int) (js:Option Addr) (jo:Nat) (j6:List (List (S70))) (r1:List Int) (r2:List (List (S70))) (r3:Bool) (w:World) (hr0_0:Kd.C (Kd.int .i64) w jm je.length je) (hc0_0:je.length≤jn) (hr0_1:Kd.C (Kd.slice 70 k70) w js j6.length j6) (hc0_1:j6.length≤jo) (h:aV.f k je j6=some (r1,r2,r3)):
  Calls Try.prog 23 #[.agg #[.slice jm je.length jn, .slice js j6.length jo]] w fun e w'=>∃ v0_ v1_:Value,e= .returned (.tuple #[.agg #[v0_,v1_], .bool r3])∧Kd.R (Kd.int .i64) 3 w' w.heap.size (fun k_=>(w.heap.size≤k_)) v0_ r1∧Kd.N (Kd.slice 70 k70) 37 w' w.heap.size (fun k_=>(w.heap.size≤k_)∧some k_≠(v0_:Value).ownBlock) v1_ r2∧Below w.heap.size w w':=by
 have hu51:=Try.underlying51
 have jt:=am hr0_0
 have ju:=am hc0_0
 clear hr0_0 hc0_0
 have jv:=am hr0_1
 have jK:=am hc0_1
 clear hr0_1 hc0_1
 have HB:=am (Below.refl w.heap.size w)
 unfold aV.f at h
 have H:=h
 clear h
 obtain ⟨qG,A2,H⟩:=bsa H
 (try dsimp only at H)
 have HH_:=am H
 clear H
 go_enter Try.func23,Try.ntmps23
 go_upto_region 1 with (first|((with_reducible refine bJ (N:=1) rfl ?_);refine bR rfl (N:=1) rfl (cs:=#[.slice jm je.length jn, .slice js j6.length jo]) (t:=51) rn_ ?_;intro jf hg w5 hbox hb;have j3:=am (hbox);have qH:=am ((by rw [hg];exact (aN dN):w.heap.size≤jf));have GE38:=am ((by rw [hg];exact (aN dN):w.heap.size≤jf));replace HB:=am (aC dN hb);clear hb hbox hg)|((with_reducible refine bJ (N:=2) rfl ?_);refine bR rfl (N:=2) rfl (cs:=#[.slice none 0 0, .slice none 0 0]) (t:=51) rn_ ?_;intro ja hg w6 hbox hb;have j4:=am (hbox);have qI:=am ((by rw [hg];exact (aN SA):w.heap.size≤ja));have GE42:=am ((by rw [hg];exact (aN SA):w.heap.size≤ja));replace HB:=am (aC SA hb);have jq:=am ((by rw [hg];exact Nat.ne_of_lt (oD j3.out):jf≠ja));have jr:=am ((by rw [hg];exact Nat.ne_of_gt (oD j3.out):ja≠jf));replace j3:=bbP j3 hb;clear hb hbox hg;have qJ:=jq.out;have qK:=jr.out;obtain ⟨jL,jM,jN,jO⟩:=iP j3.out))
 have H:=HH_.out
 clear HH_
 by_cases c3:qG=true
 ·subst c3
  rw [if_pos rfl] at H
  obtain ⟨jl,A4,H⟩:=bsa H
  (try dsimp only at H)
  have H':=am H
  clear H
  go_wp2_with (first|((with_reducible refine aD (f:=48) rfl ?_);refine aU (some 8) rfl rfl Try.func48 (by kernel_rfl) rfl #[.agg #[.slice jm je.length jn, .slice js j6.length jo]] rfl dK ?_;(with_reducible refine (aW.calls k _ _ je _ _ j6 true _ (aC_ (Kd.aI jt.out HB.out)) ju.out (aC_ (Kd.aI jv.out HB.out)) jK.out A2.out).mono ?_);rintro e w9 ⟨rfl,hb⟩;refine ⟨_,rfl,?_⟩;replace j3:=bbP j3 hb;replace j4:=bbP j4 hb;replace HB:=am (aC wM hb);(try clear hb);obtain ⟨jw,jx,jy,jz⟩:=iP j3.out)|((with_reducible refine aD (f:=49) rfl ?_);refine aU (some 13) rfl rfl Try.func49 (by kernel_rfl) rfl #[.slice jm je.length jn] rfl dK ?_;(with_reducible refine (gD.calls _ _ je jl _ (aC_ (Kd.aI jt.out HB.out)) ju.out A4.out).mono ?_);rintro e qR ⟨qS,rfl,ho0,hb⟩;refine ⟨_,rfl,?_⟩;have jA:=am (Kd.lC (Kd.RN (M:=fun k_=>(w.heap.size≤k_)) ho0 (aN wM) (fun k_ h_=>h_)) (aN wM));replace j3:=bbP j3 hb;replace j4:=bbP j4 hb;replace HB:=am (aC wM hb);(try clear hb);(try clear ho0);obtain ⟨jg,jh,qk⟩:=Kd.nI jA.out;subst qk)|((with_reducible refine bJ (N:=4) rfl ?_);refine bR rfl (N:=4) rfl (cs:=#[.slice none 0 0, .slice none 0 0]) (t:=51) rn_ ?_;intro j8 hg qT hbox hb;replace jA:=am (Kd.eT (aR_ jA.out) hb);have j7:=am (hbox);have qL:=am ((by rw [hg];exact (aN wM):w.heap.size≤j8));have GE45:=am ((by rw [hg];exact (aN wM):w.heap.size≤j8));replace HB:=am (aC wM hb);have jc:=am ((by rw [hg];exact Nat.ne_of_lt (oD j3.out):jf≠j8));have jj:=am ((by rw [hg];exact Nat.ne_of_gt (oD j3.out):j8≠jf));replace j3:=bbP j3 hb;have jd:=am ((by rw [hg];exact Nat.ne_of_lt (oD j4.out):ja≠j8));have jk:=am ((by rw [hg];exact Nat.ne_of_gt (oD j4.out):j8≠ja));replace j4:=bbP j4 hb;clear hb hbox hg;have qs:=jj.out;have qt:=jc.out;have qu:=jk.out;have qv:=jd.out;obtain ⟨jB,jC,jD,jE⟩:=iP j7.out;obtain ⟨jF,jG,jH,jI⟩:=iP j3.out))
  go_loopg [18] k (fun kq qM w'=>∃ (j5:Int) (ji:List (List (S70))) (u46:Value),qM= .int .i64 j5∧Aside0 (aV.l0 kq j6 (j6.length:Int) j5 jl ji=some (r1,r2,r3))∧Aside0 (kq≤k)∧Aside0 (Kd.R (Kd.int .i64) 3 w' w.heap.size (fun k_=>(w.heap.size≤k_)) (.slice jg jl.length jh) jl)∧Aside0 (Kd.N (Kd.slice 70 k70) 37 w' w.heap.size (fun k_=>(w.heap.size≤k_)∧some k_≠((.slice jg jl.length jh):Value).ownBlock∧k_≠jf∧k_≠ja∧k_≠j8) u46 ji)∧Aside0 (w'.heap[jf]?=some (.cells #[(.slice jm je.length jn),(.slice js j6.length jo)] 51 (0,0)))∧Aside0 (w'.heap[ja]?=some (.cells #[(.slice none 0 0),(.slice none 0 0)] 51 (0,0)))∧Aside0 (w'.heap[j8]?=some (.cells #[(.slice jg jl.length jh),u46] 51 (0,0)))∧Aside0 (Below w.heap.size w w'))
  case atStart=>exact ⟨(0),(([]:List (List (S70)))),(.slice none 0 0),sd_,H',⟨Nat.le_refl _⟩,⟨vL (Kd.gL (Kd.lM (p:=⟨j8,1,none⟩) (Kd.lM (p:=⟨j8,0,none⟩) (Kd.uG jA.out j7.out (by decide)) (fun _ hk=>hk.2) (.slice jg jl.length jh)) (fun _ hk=>hk.2) (.slice none 0 0)) (fun _ hk=>hk.1.1))⟩,⟨by first|exact Kd.uZ _ _ _ _ _|exact Kd.HZ _ _ _ _ _|exact Kd.IE _ _ _ _ _|exact Kd.IB _ _ _ _ _|exact Kd.oP _ _ _ _ _⟩,⟨(bQ (bQ j3.out jc.out _) jc.out _)⟩,⟨(bQ (bQ j4.out jd.out _) jd.out _)⟩,⟨(aT (aT j7.out 0 _ rfl) 1 _ rfl)⟩,⟨wK⟩⟩
  case round=>
   clear H'
   try clear c3
   try clear jw
   try clear jx
   try clear jB
   try clear jC
   try clear jF
   try clear jG
   try clear jL
   try clear jM
   try clear jy
   try clear jz
   try clear jD
   try clear jE
   try clear jH
   try clear jI
   try clear jN
   try clear jO
   obtain ⟨j5,ji,u46,rfl,HA,qw,jb,j9,j3,j4,j7,HB⟩:=hrel
   cases gk with
   |zero=>exact absurd HA.out (by simp [aV.l0])
   |succ k1=>
    have H:=HA.out
    clear HA
    simp only [aV.l0] at H
    by_cases jV:j5 < (j6.length:Int)
    ·rw [if_pos jV] at H
     have jW:decide (j5 < (j6.length:Int))=true:=decide_eq_true jV
     clear jV
     by_cases q4:0≤j5
     ·rw [if_pos q4] at H
      have qx:decide (0≤j5)=true:=decide_eq_true q4
      clear q4
      by_cases q5:j5 < (j6.length:Int)
      ·rw [if_pos q5] at H
       have qy:decide (j5 < (j6.length:Int))=true:=decide_eq_true q5
       clear q5
       obtain ⟨q6,qz,H⟩:=bsm H
       (try dsimp only at H)
       have qN:=am qz
       clear qz
       by_cases q7:ji.length < 5864062014805
       ·rw [if_pos q7] at H
        have jX:=am q7
        clear q7
        obtain ⟨jY,hy_⟩:∃ y_:List (List (S70)),y_=(ji ++ [q6]):=⟨_,rfl⟩
        replace H:(aV.l0 k1 j6 (j6.length:Int) (wrap64 (j5 + 1)) jl jY)=some (r1,r2,r3):=rx_
        have ql:=am hy_
        clear hy_
        have H':=am H
        clear H
        have qm:0≤(j5:Int):=of_decide_eq_true bT
        have qn:j5 < (j6.length:Int):=of_decide_eq_true bT
        obtain ⟨qo,jZ,q0,qO,jp,hl54_0,hi54_0⟩:=nY jv.out j5 qm qn
        cases qO
        replace jp:=(HB.out.cell (World.block_lt_of_cell? w _ jp)).trans jp
        have jP:=am hi54_0
        have jQ:=am hl54_0
        clear hi54_0 hl54_0
        replace qm:=eq_true qm
        replace qn:=eq_true qn
        try go_wp2
        replace jb:=am (Kd.tF jb.out)
        replace j9:=am (Kd.AP j9.out)
        replace j3:=am (eH j3.out)
        replace j4:=am (eH j4.out)
        replace j7:=am (eH j7.out)
        replace HB:=am (bX HB.out)
        refine nD (n:=8) (S:=fun w'=>w'.cell? ⟨j8,0,none⟩=some (.slice jg jl.length jh)∧w'.cell? ⟨j8,1,none⟩=some (u46)) (ds:=[7]) (bz 8 0) (by kernel_rfl) rfl rfl (II j7.out) (fun hHeld=>?_);refine iY aV.aAk aV.NW (fun HT_ HW_=>?_)
        generalize wr.drew=qU at jb j9 j3 j4 j7 HB hHeld ⊢
        refine pr_ 0 22 (bz 8 1) HT_ ?_
        refine pr_ 2 24 (bz 8 5) HT_ ?_
        refine PW 1 23 (bz 8 7) HT_ HW_ hHeld ?_
        refine pI (i:=3) (N:=some 25) (bz 8 15) rfl rfl (iO HT_.out (by kernel_rfl)) (by decide) (fun K hK=>?_)
        refine lH Try.func41 (by kernel_rfl) rfl #[.slice jZ (fU j6 j5).length q0] (by rfl) rfl rfl dK ?_
        with_reducible refine (aM.calls k1 _ _ (fU j6 j5) q6 _ (aC_ (Kd.aI jP.out HB.out)) jQ.out qN.out).mono ?_
        rintro e qV ⟨qW,rfl,ho0,hb⟩
        refine ⟨_,rfl,?_⟩
        have jJ:=am (Kd.kK (Kd.eX (ok':=fun k_=>(w.heap.size≤k_)∧some k_≠(.slice jg jl.length jh:Value).ownBlock∧some k_≠(u46:Value).ownBlock∧k_≠jf∧k_≠ja∧k_≠j8) ho0 (fun k_ hk_=>⟨(Nat.le_trans (aN wK) hk_),(Kd.fresh' (Kd.OQ (aR_ jb.out)) k_ hk_),(Kd.fresh' (Kd.LK (aN_ j9.out)) k_ hk_),(tL j3.out k_ hk_),(tL j4.out k_ hk_),(tL j7.out k_ hk_)⟩)) (aN wK))
        replace jb:=am (Kd.eT (aR_ jb.out) hb)
        replace j9:=am (Kd.mH (aN_ j9.out) (by first|exact Kd.kL ho0|exact Kd.kL (Kd.R_N ho0)) hb)
        replace j3:=bbP j3 hb
        replace j4:=bbP j4 hb
        replace j7:=bbP j7 hb
        replace HB:=am (aC wK hb)
        (try clear hb)
        (try clear hb2)
        (try clear hk)
        (try clear hi)
        (try clear ho0)
        obtain ⟨qp,qq,q1⟩:=Kd.iB jJ.out
        (first|subst q1|(injection q1 with f1_ f2_ f3_;have f4_:=f1_.symm;have f5_:=f3_.symm;clear f1_ f2_ f3_;subst f4_;subst f5_))
        refine hK.out _ _ (II j7.out) (fun hHeld=>?_)
        clear hK K
        refine lQ (a':=?_) ?_ ?_
        rotate_left
        ·exact ap_ (N:=25)
        refine pI (i:=4) (N:=some 26) (bz 8 31) rfl rfl (iO HT_.out (by kernel_rfl)) (by decide) (fun K hK=>?_)
        refine NC (w1:=?_) (v:=?_) (by rfl) rfl ?_ ?_
        rotate_left 2
        ·go_simp
         constructor
         ·rfl
         ·rfl
        refine hK.out _ _ (II (fH j7.out _)) (fun hHeld=>?_)
        clear hK K
        refine lQ (a':=?_) ?_ ?_
        rotate_left
        ·exact ap_ (N:=26)
        refine pI (i:=5) (N:=some 27) (bz 8 63) rfl rfl (iO HT_.out (by kernel_rfl)) (by decide) (fun K hK=>?_)
        refine Kd.uY (Kd.slice 70 k70) (w0:=w) w.heap.size (by rfl) (.tmp 23) (.tmp 26) 49 37 (.slice none 0 0) 24 rfl Try.underlying49 FX rfl (by decide) (by omega) u46 ji q6 [.slice qp q6.length qq] (fun k_=>(w.heap.size≤k_)∧some k_≠(.slice jg jl.length jh:Value).ownBlock∧k_≠jf∧k_≠ja∧k_≠j8) (fun k_=>((fun k_=>(w.heap.size≤k_)∧some k_≠(.slice jg jl.length jh:Value).ownBlock∧k_≠jf∧k_≠ja∧k_≠j8)) k_∧some k_≠(u46:Value).ownBlock) rfl rfl ?aP (fun _ hk=>hk) ?aF ?aO ?aB ?aS ?aL ?_
        (case aP=>exact (Kd.xY (Kd.kM (Kd.eX (ok':=(fun k_=>((fun k_=>(w.heap.size≤k_)∧some k_≠(.slice jg jl.length jh:Value).ownBlock∧k_≠jf∧k_≠ja∧k_≠j8)) k_∧some k_≠(u46:Value).ownBlock)) (jJ.out) (fun k_ hk=>⟨⟨hk.1,⟨hk.2.1,⟨hk.2.2.2.1,⟨hk.2.2.2.2.1,hk.2.2.2.2.2⟩⟩⟩⟩,hk.2.2.1⟩))).2.1 (Kd.N_F (Kd.eX (ok':=(fun k_=>((fun k_=>(w.heap.size≤k_)∧some k_≠(.slice jg jl.length jh:Value).ownBlock∧k_≠jf∧k_≠ja∧k_≠j8)) k_∧some k_≠(u46:Value).ownBlock)) (jJ.out) (fun k_ hk=>⟨⟨hk.1,⟨hk.2.1,⟨hk.2.2.2.1,⟨hk.2.2.2.2.1,hk.2.2.2.2.2⟩⟩⟩⟩,hk.2.2.1⟩)))))
        (case aB=>exact wK)
        (case aF=>exact (fun k_ hk=>⟨(Nat.le_trans (aN wK) hk),Kd.fresh' (Kd.OQ (aR_ jb.out)) k_ hk,tL j3.out k_ hk,tL j4.out k_ hk,tL j7.out k_ hk⟩))
        (case aO=>exact (sQ (Kd.eX j9.out (fun _ hk=>⟨hk.1.1,⟨hk.1.2.1,⟨hk.1.2.2.1,⟨hk.1.2.2.2.1,hk.1.2.2.2.2⟩⟩⟩⟩))))
        (case aS=>exact (aN wK))
        (case aL=>have:=jX.out;omega)
        intro qX qP ho hb hg hat
        rw [← ql.out] at ho
        replace jb:=am (Kd.NR (aR_ jb.out) (Kd.NK (aN_ j9.out)) (by decide) hg)
        replace j3:=am (iM (g:=jf) (o:= .cells #[.slice jm je.length jn, .slice (some qo) j6.length jo] 51 (0,0)) (aG_ j3.out) hg (Kd.OP j9.out j3.out (by decide)))
        replace j4:=am (iM (g:=ja) (o:= .cells #[.slice none 0 0, .slice none 0 0] 51 (0,0)) (aG_ j4.out) hg (Kd.OP j9.out j4.out (by decide)))
        replace j7:=am (iM (g:=j8) (o:= .cells #[.slice jg jl.length jh,u46] 51 (0,0)) (aG_ j7.out) hg (Kd.OP j9.out j7.out (by decide)))
        replace HB:=am (hb)
        have q2:=am (ho)
        clear j9 jJ
        clear ho hb hg hat
        obtain ⟨jR,jS,q3⟩:=Kd.iB q2.out
        (first|subst q3|(injection q3 with f1_ f2_ f3_;have f4_:=f1_.symm;have f5_:=f3_.symm;clear f1_ f2_ f3_;subst f4_;subst f5_))
        refine hK.out _ _ (II j7.out) (fun hHeld=>?_)
        clear hK K
        refine lQ (a':=?_) ?_ ?_
        rotate_left
        ·exact ap_ (N:=27)
        refine pr_ 6 28 (bz 8 127) HT_ ?_
        refine TJ (i:=7) (N:=none) (bz 8 255) rfl rfl (iO HT_.out (by kernel_rfl)) (by decide) (fun K hK=>?_)
        have qQ:qP.cell? ⟨j8,1,none⟩=some (u46):=(aA j7.out 1).trans rfl
        have hfs28:=aH j7.out 1
        have hns28_0:=jc.out
        have hns28_1:=jd.out
        have hms28_0:=jj.out
        have hms28_1:=jk.out
        refine yG (w1:=?_) (by rfl) rfl ?_ ?_
        rotate_left
        ·go_simp
         rfl
        refine hK.out _ _ ?_
        clear hK K
        refine rG (lJ HT_.out (by kernel_rfl)) ?_
        try go_wp2
        go_roundg k1
        case measure=>have:=qw.out;omega
        case rel=>exact ⟨(wrap64 (j5 + 1)),(jY),(.slice jR jY.length jS),sd_,H',⟨by have:=qw.out;omega⟩,⟨vL (Kd.gL (Kd.lM (p:=⟨j8,1,none⟩) (Kd.uG jb.out j7.out (by decide)) (fun _ hk=>hk.2) (.slice jR jY.length jS)) (fun _ hk=>hk.1))⟩,⟨sQ (Kd.eX (Kd.gH (p:=⟨j8,1,none⟩) (Kd.eX q2.out (fun k_ hk=>(⟨hk,hk.2.2.2.2⟩:_∧k_≠j8))) (fun _ hk=>hk.2) (.slice jR jY.length jS)) (fun _ hk=>⟨hk.1.1,⟨hk.1.2.1,⟨hk.1.2.2.1,⟨hk.1.2.2.2.1,hk.1.2.2.2.2⟩⟩⟩⟩))⟩,⟨(bQ j3.out jc.out _)⟩,⟨(bQ j4.out jd.out _)⟩,⟨(aT j7.out 1 _ rfl)⟩,⟨wK⟩⟩
       rw [if_neg q7] at H
       exact absurd H (by simp)
      rw [if_neg q5] at H
      exact absurd H (by simp)
     rw [if_neg q4] at H
     exact absurd H (by simp)
    rw [if_neg jV] at H
    have jW:decide (j5 < (j6.length:Int))=false:=decide_eq_false jV
    clear jV
    simp only [Option.some.injEq,Prod.mk.injEq] at H
    obtain ⟨rfl,rfl,rfl⟩:=H
    have qA:=jj.out
    have qB:=jc.out
    have qC:=jk.out
    have qD:=jd.out
    obtain ⟨q8,q9,qa,qb⟩:=iP j7.out
    have qE:=jr.out
    have qF:=jq.out
    obtain ⟨qc,qd,qe,qf⟩:=iP j4.out
    obtain ⟨jT,jU,qr⟩:=Kd.iB j9.out
    subst qr
    go_wp2
    refine bodyPost_ret (nC rfl _ _ ja 51 #[.slice jg jl.length jh, .slice jT ji.length jU] (0,0) _ rfl (aT (aT j4.out 0 _ rfl) 1 _ rfl) Try.underlying51 rfl (by kernel_rfl)) rfl ?_
    exact ⟨_,_,sJ,vL (Kd.gL (Kd.lM (p:=⟨ja,1,none⟩) (Kd.lM (p:=⟨ja,0,none⟩) (Kd.uG jb.out j4.out (by decide)) (fun _ hk=>hk.2) (.slice jg jl.length jh)) (fun _ hk=>hk.2) (.slice jT ji.length jU)) (fun _ hk=>hk.1)),sQ (Kd.eX (Kd.gH (p:=⟨ja,1,none⟩) (Kd.gH (p:=⟨ja,0,none⟩) (Kd.eX j9.out (fun k_ hk=>(⟨hk,hk.2.2.2.1⟩:_∧k_≠ja))) (fun _ hk=>hk.2) (.slice jg jl.length jh)) (fun _ hk=>hk.2) (.slice jT ji.length jU)) (fun _ hk=>⟨hk.1.1,hk.1.2.1⟩)),wK⟩
 replace c3:=Bool.eq_false_iff.mpr c3
 subst c3
 rw [if_neg (show ¬ (false=true) by decide)] at H
 simp only [Option.some.injEq,Prod.mk.injEq] at H
 obtain ⟨rfl,rfl,rfl⟩:=H
 go_wp2_with (first|((with_reducible refine aD (f:=48) rfl ?_);refine aU (some 8) rfl rfl Try.func48 (by kernel_rfl) rfl #[.agg #[.slice jm je.length jn, .slice js j6.length jo]] rfl dK ?_;(with_reducible refine (aW.calls k _ _ je _ _ j6 false _ (aC_ (Kd.aI jt.out HB.out)) ju.out (aC_ (Kd.aI jv.out HB.out)) jK.out A2.out).mono ?_);rintro e qY ⟨rfl,hb⟩;refine ⟨_,rfl,?_⟩;replace j3:=bbP j3 hb;replace j4:=bbP j4 hb;replace HB:=am (aC wM hb);(try clear hb);obtain ⟨qg,qh,qi,qj⟩:=iP j4.out))
 refine bodyPost_ret (nC rfl _ _ ja 51 #[.slice none 0 0, .slice none 0 0] (0,0) _ rfl (aT (aT j4.out 0 _ rfl) 1 _ rfl) Try.underlying51 rfl (by kernel_rfl)) rfl ?_
 exact ⟨_,_,sJ,by first|exact Kd.uZ _ _ _ _ _|exact Kd.HZ _ _ _ _ _|exact Kd.IE _ _ _ _ _|exact Kd.IB _ _ _ _ _|exact Kd.oP _ _ _ _ _,by first|exact Kd.uZ _ _ _ _ _|exact Kd.HZ _ _ _ _ _|exact Kd.IE _ _ _ _ _|exact Kd.IB _ _ _ _ _|exact Kd.oP _ _ _ _ _,wM⟩
set_option linter.unusedVariables false
abbrev kP:Kd (List S70):=xU 70 lS
theorem rJ {w:World} {base:Nat} {ok:Nat→Prop} {v:Value} {xs:List (List S70)} (h:Kd.S kP 37 w base ok v xs):(Kd.slice 70 k70).R 37 w base ok v xs:=
 Kd.xZ (d:=kP) (d':=Kd.slice 70 k70) rfl (fun w base ok x cs hp=>by obtain ⟨u,e,hp⟩:=hp;exact ⟨u,e,TI hp⟩) (Kd.S_R h)
end Go.Proofs.Ythiegfpcfedbgaa.PA

