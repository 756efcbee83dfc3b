/- Part 2. -/
import Derived.Test.YthiegfpcfedbgaaQFnExactStmtsFold0
import Derived.Test.YthiegfpcfedbgaaProg
import Derived.Below
import Derived.Deep.Draws
import Derived.Deep.AppendLies
import Derived.Maps.AppendAt
import Derived.OwnWalk
import Derived.Laws.BytesArg
import Derived.Laws.MakeOwn
import Derived.Laws.OwnMore
import Derived.Deep.OwnRows
import Derived.Tactics
import Derived.Lib.ConvBytes
import Derived.Laws.Slices
import Derived.WalkKit
import Derived.KernelRfl
import Derived.RowKit3
import Derived.Deep.LoopGhost
import Derived.Deep.QuietTactic
import Derived.BigQuiet
import Derived.WideLaws
import Derived.Deep.DeepCutAuto
import Derived.Deep.CutBlock
import Derived.Deep.RegionHeld3
import Derived.Laws.Rows
import Derived.Lib.AppendStr
import Derived.ArgAppend
import Derived.Laws.IdiomCopy
import Derived.OrdersHeld
import Derived.Laws.BitsLemmas
import Derived.RowKit
import Derived.Lib.SliceRun
import Derived.Deep.Slices
import Derived.ChangeArms
import Derived.ChangeSame
import Derived.WideShapes
set_option maxHeartbeats 8000000
set_option maxRecDepth 100000
namespace Go.Proofs.Ythiegfpcfedbgaa.PA
open Go.RowKit Go.Proofs.YthiegfpcfedbgaaW.PrintWords Go.Proofs.YthiegfpcfedbgaaW.PrintLast Go.Proofs.YthiegfpcfedbgaaW.PrintMore
attribute [local go_sem] max2_int min2_int max_two min_two max_three min_three max_four min_four
set_option linter.unusedVariables false
set_option linter.unusedSimpArgs false
def OY:Option Int→Value
 |none=> .nilIface
 |some c=> .iface 0 (.int .i64 c)
theorem pK:OY none= .nilIface:=rfl
theorem pO (c:Int):OY (some c)= .iface 0 (.int .i64 c):=rfl
theorem OA:(Try.prog.info? 28).map (fun i=>(i.zero,i.size,i.bytes))=some (some (.agg #[(.int .i64 0),(.int .i64 0),(.slice none 0 0)]),3,40):=by kernel_rfl
theorem wE:(Try.prog.info? 70).map (fun i=>(i.zero,i.size,i.bytes))=some (some (.agg #[(.int .i64 0),(.int .i64 0),(.int .i64 0),(.int .i64 0),(.int .i64 0),(.slice none 0 0),(.slice none 0 0),(.slice none 0 0)]),8,112):=by kernel_rfl
structure S24 where
 f0:Int
 f1:Int
 f2:(List S24)
def z24:S24:=⟨(0:Int),(0:Int),([]:List S24)⟩
def F24 (d:Kd S24):Kd S24:=Kd.iso (Kd.pair (Kd.int .i64) (Kd.pair (Kd.int .i64) (Kd.slice 24 d))) (fun x:S24=>(x.f0,x.f1,x.f2))
theorem mono24:Kd.kP F24:=Kd.mono_iso _ (Kd.mono_pair (Kd.mono_const _) (Kd.mono_pair (Kd.mono_const _) (Kd.mono_slice 24 Kd.mono_id)))
theorem PI:Kd.Sub F24 [24]:=Kd.pX _ (Kd.fQ (Kd.sub_const _ (by decide)) (Kd.fQ (Kd.sub_const _ (by decide)) (Kd.mE 24 (by decide) Kd.oI)))
theorem PO:∀ n,(Kd.upto F24 3 [24] n).sz=3:=Kd.pY (fun _=>rfl)
def k24:Kd S24:=Kd.fix F24 3 [24] PO (Kd.sK PI)
theorem wF {w:World} {x:S24} {cs:List Value} (h:k24.K w x cs):∃ A2 c2,cs=[.int .i64 x.f0, .int .i64 x.f1, .slice A2 x.f2.length c2]∧x.f2.length≤c2∧k24.C w A2 x.f2.length x.f2:=by
 obtain ⟨n,h⟩:=h
 cases n with
 |zero=>exact h.elim
 |succ n=>
  obtain ⟨_,_,rfl,rfl,⟨_,_,rfl,rfl,⟨A2,c2,rfl,l2,g2⟩⟩⟩:=h
  exact ⟨A2,c2,rfl,l2,Kd.xK g2⟩
theorem KG (w:World) (x:S24) {A2:Option Addr} {c2:Nat} (l2:x.f2.length≤c2) (g2:k24.C w A2 x.f2.length x.f2):k24.K w x [.int .i64 x.f0, .int .i64 x.f1, .slice A2 x.f2.length c2]:=by
 obtain ⟨n2,q2⟩:=Kd.kT mono24 g2
 have r2:=Kd.mF mono24 PO (show n2≤n2 by omega) q2
 exact ⟨n2 + 1,⟨[.int .i64 x.f0],[.int .i64 x.f1, .slice A2 x.f2.length c2],rfl,rfl,⟨[.int .i64 x.f1],[.slice A2 x.f2.length c2],rfl,rfl,⟨A2,c2,rfl,l2,r2⟩⟩⟩⟩
def fM (xs:List S24) (i:Int):S24:=xs.getD i.toNat z24
theorem DR {w:World} {A:Option Addr} {n:Nat} {xs:List S24} (h:Kd.C k24 w A n xs) (i:Int) (h0:0≤i) (h1:i < n):∃ ad A2 c2,A=some ad∧w.cell? (ad.add (i.toNat * 3))=some (.int .i64 (fM xs i).f0)∧w.cell? ⟨(ad.add (i.toNat * 3)).block,(ad.add (i.toNat * 3)).off + 1,none⟩=some (.int .i64 (fM xs i).f1)∧w.cell? ⟨(ad.add (i.toNat * 3)).block,(ad.add (i.toNat * 3)).off + 2,none⟩=some (.slice A2 (fM xs i).f2.length c2)∧(fM xs i).f2.length≤c2∧k24.C w A2 (fM xs i).f2.length (fM xs i).f2:=by
 obtain ⟨ad,c,e,_,hK,hc0⟩:=Kd.vP h z24 i h0 h1
 have hc:∀ j u,c[j]?=some u→w.cell? (ad.add (i.toNat * 3 + j))=some u:=hc0
 obtain ⟨A2,c2,rfl,l2,g2⟩:=wF hK
 exact ⟨ad,A2,c2,e,hc 0 _ rfl,by rw [← dS _ _ 1 (by omega)];exact hc 1 _ rfl,by rw [← dS _ _ 2 (by omega)];exact hc 2 _ rfl,l2,g2⟩
structure S28 where
 f0:Int
 f1:Int
 f2:(List S28)
def z28:S28:=⟨(0:Int),(0:Int),([]:List S28)⟩
def F28 (d:Kd S28):Kd S28:=Kd.iso (Kd.pair (Kd.int .i64) (Kd.pair (Kd.int .i64) (Kd.slice 28 d))) (fun x:S28=>(x.f0,x.f1,x.f2))
theorem mono28:Kd.kP F28:=Kd.mono_iso _ (Kd.mono_pair (Kd.mono_const _) (Kd.mono_pair (Kd.mono_const _) (Kd.mono_slice 28 Kd.mono_id)))
theorem PK:Kd.Sub F28 [28]:=Kd.pX _ (Kd.fQ (Kd.sub_const _ (by decide)) (Kd.fQ (Kd.sub_const _ (by decide)) (Kd.mE 28 (by decide) Kd.oI)))
theorem OP:∀ n,(Kd.upto F28 3 [28] n).sz=3:=Kd.pY (fun _=>rfl)
def k28:Kd S28:=Kd.fix F28 3 [28] OP (Kd.sK PK)
theorem KH:Kd.Heap k28:=Kd.BQ (fun _ h_=>Kd.BR _ (Kd.kU (Kd.oU .i64) (Kd.kU (Kd.oU .i64) (Kd.rT 28 h_))))
theorem BS {w:World} {x:S28} {cs:List Value} (h:k28.K w x cs):∃ A2 c2,cs=[.int .i64 x.f0, .int .i64 x.f1, .slice A2 x.f2.length c2]∧x.f2.length≤c2∧k28.C w A2 x.f2.length x.f2:=by
 obtain ⟨n,h⟩:=h
 cases n with
 |zero=>exact h.elim
 |succ n=>
  obtain ⟨_,_,rfl,rfl,⟨_,_,rfl,rfl,⟨A2,c2,rfl,l2,g2⟩⟩⟩:=h
  exact ⟨A2,c2,rfl,l2,Kd.xK g2⟩
theorem KI (w:World) (x:S28) {A2:Option Addr} {c2:Nat} (l2:x.f2.length≤c2) (g2:k28.C w A2 x.f2.length x.f2):k28.K w x [.int .i64 x.f0, .int .i64 x.f1, .slice A2 x.f2.length c2]:=by
 obtain ⟨n2,q2⟩:=Kd.kT mono28 g2
 have r2:=Kd.mF mono28 OP (show n2≤n2 by omega) q2
 exact ⟨n2 + 1,⟨[.int .i64 x.f0],[.int .i64 x.f1, .slice A2 x.f2.length c2],rfl,rfl,⟨[.int .i64 x.f1],[.slice A2 x.f2.length c2],rfl,rfl,⟨A2,c2,rfl,l2,r2⟩⟩⟩⟩
theorem FI (W:World) (ok:Nat→Prop) (x:S28) {A2:Option Addr} {c2:Nat} (l2:x.f2.length≤c2) (g2:Kd.F k28 W ok A2 x.f2.length x.f2):Kd.FK k28 W ok x [.int .i64 x.f0, .int .i64 x.f1, .slice A2 x.f2.length c2]:=fun W2 hW=>KI W2 x l2 (g2 W2 hW)
def aW (xs:List S28) (i:Int):S28:=xs.getD i.toNat z28
theorem gJ {w:World} {A:Option Addr} {n:Nat} {xs:List S28} (h:Kd.C k28 w A n xs) (i:Int) (h0:0≤i) (h1:i < n):∃ ad A2 c2,A=some ad∧w.cell? (ad.add (i.toNat * 3))=some (.int .i64 (aW xs i).f0)∧w.cell? ⟨(ad.add (i.toNat * 3)).block,(ad.add (i.toNat * 3)).off + 1,none⟩=some (.int .i64 (aW xs i).f1)∧w.cell? ⟨(ad.add (i.toNat * 3)).block,(ad.add (i.toNat * 3)).off + 2,none⟩=some (.slice A2 (aW xs i).f2.length c2)∧(aW xs i).f2.length≤c2∧k28.C w A2 (aW xs i).f2.length (aW xs i).f2:=by
 obtain ⟨ad,c,e,_,hK,hc0⟩:=Kd.vP h z28 i h0 h1
 have hc:∀ j u,c[j]?=some u→w.cell? (ad.add (i.toNat * 3 + j))=some u:=hc0
 obtain ⟨A2,c2,rfl,l2,g2⟩:=BS hK
 exact ⟨ad,A2,c2,e,hc 0 _ rfl,by rw [← dS _ _ 1 (by omega)];exact hc 1 _ rfl,by rw [← dS _ _ 2 (by omega)];exact hc 2 _ rfl,l2,g2⟩
structure S66 where
 f0:Int
 f1:Int
 f2:Int
 f3:S24
 f4:(List S66)
 f5:(List S66)
def z66:S66:=⟨(0:Int),(0:Int),(0:Int),z24,([]:List S66),([]:List S66)⟩
def F66 (d:Kd S66):Kd S66:=Kd.iso (Kd.pair (Kd.int .i64) (Kd.pair (Kd.int .i64) (Kd.pair (Kd.int .i64) (Kd.pair k24 (Kd.pair (Kd.slice 66 d) (Kd.slice 66 d)))))) (fun x:S66=>(x.f0,x.f1,x.f2,x.f3,x.f4,x.f5))
theorem mono66:Kd.kP F66:=Kd.mono_iso _ (Kd.mono_pair (Kd.mono_const _) (Kd.mono_pair (Kd.mono_const _) (Kd.mono_pair (Kd.mono_const _) (Kd.mono_pair (Kd.mono_const _) (Kd.mono_pair (Kd.mono_slice 66 Kd.mono_id) (Kd.mono_slice 66 Kd.mono_id))))))
theorem PL:Kd.Sub F66 [24,66]:=Kd.pX _ (Kd.fQ (Kd.sub_const _ (by decide)) (Kd.fQ (Kd.sub_const _ (by decide)) (Kd.fQ (Kd.sub_const _ (by decide)) (Kd.fQ (Kd.sub_const _ (by decide)) (Kd.fQ (Kd.mE 66 (by decide) Kd.oI) (Kd.mE 66 (by decide) Kd.oI))))))
theorem OQ:∀ n,(Kd.upto F66 8 [24,66] n).sz=8:=Kd.pY (fun _=>rfl)
def k66:Kd S66:=Kd.fix F66 8 [24,66] OQ (Kd.sK PL)
theorem KJ {w:World} {x:S66} {cs:List Value} (h:k66.K w x cs):∃ A5 c5 A6 c6 A7 c7,cs=[.int .i64 x.f0, .int .i64 x.f1, .int .i64 x.f2, .int .i64 x.f3.f0, .int .i64 x.f3.f1, .slice A5 x.f3.f2.length c5, .slice A6 x.f4.length c6, .slice A7 x.f5.length c7]∧x.f3.f2.length≤c5∧k24.C w A5 x.f3.f2.length x.f3.f2∧x.f4.length≤c6∧k66.C w A6 x.f4.length x.f4∧x.f5.length≤c7∧k66.C w A7 x.f5.length x.f5:=by
 obtain ⟨n,h⟩:=h
 cases n with
 |zero=>exact h.elim
 |succ n=>
  obtain ⟨_,_,rfl,rfl,⟨_,_,rfl,rfl,⟨_,_,rfl,rfl,⟨_,_,rfl,s3,⟨_,_,rfl,⟨A6,c6,rfl,l6,g6⟩,⟨A7,c7,rfl,l7,g7⟩⟩⟩⟩⟩⟩:=h
  obtain ⟨A5,c5,rfl,l5,g5⟩:=wF s3
  exact ⟨A5,c5,A6,c6,A7,c7,rfl,l5,g5,l6,Kd.xK g6,l7,Kd.xK g7⟩
theorem OB (w:World) (x:S66) {A5:Option Addr} {c5:Nat} (l5:x.f3.f2.length≤c5) (g5:k24.C w A5 x.f3.f2.length x.f3.f2) {A6:Option Addr} {c6:Nat} (l6:x.f4.length≤c6) (g6:k66.C w A6 x.f4.length x.f4) {A7:Option Addr} {c7:Nat} (l7:x.f5.length≤c7) (g7:k66.C w A7 x.f5.length x.f5):k66.K w x [.int .i64 x.f0, .int .i64 x.f1, .int .i64 x.f2, .int .i64 x.f3.f0, .int .i64 x.f3.f1, .slice A5 x.f3.f2.length c5, .slice A6 x.f4.length c6, .slice A7 x.f5.length c7]:=by
 obtain ⟨n6,q6⟩:=Kd.kT mono66 g6
 obtain ⟨n7,q7⟩:=Kd.kT mono66 g7
 have r6:=Kd.mF mono66 OQ (show n6≤(max n6 n7) by omega) q6
 have r7:=Kd.mF mono66 OQ (show n7≤(max n6 n7) by omega) q7
 exact ⟨(max n6 n7) + 1,⟨[.int .i64 x.f0],[.int .i64 x.f1, .int .i64 x.f2, .int .i64 x.f3.f0, .int .i64 x.f3.f1, .slice A5 x.f3.f2.length c5, .slice A6 x.f4.length c6, .slice A7 x.f5.length c7],rfl,rfl,⟨[.int .i64 x.f1],[.int .i64 x.f2, .int .i64 x.f3.f0, .int .i64 x.f3.f1, .slice A5 x.f3.f2.length c5, .slice A6 x.f4.length c6, .slice A7 x.f5.length c7],rfl,rfl,⟨[.int .i64 x.f2],[.int .i64 x.f3.f0, .int .i64 x.f3.f1, .slice A5 x.f3.f2.length c5, .slice A6 x.f4.length c6, .slice A7 x.f5.length c7],rfl,rfl,⟨[.int .i64 x.f3.f0, .int .i64 x.f3.f1, .slice A5 x.f3.f2.length c5],[.slice A6 x.f4.length c6, .slice A7 x.f5.length c7],rfl,(KG w x.f3 l5 g5),⟨[.slice A6 x.f4.length c6],[.slice A7 x.f5.length c7],rfl,⟨A6,c6,rfl,l6,r6⟩,⟨A7,c7,rfl,l7,r7⟩⟩⟩⟩⟩⟩⟩
def bW (xs:List S66) (i:Int):S66:=xs.getD i.toNat z66
theorem DT {w:World} {A:Option Addr} {n:Nat} {xs:List S66} (h:Kd.C k66 w A n xs) (i:Int) (h0:0≤i) (h1:i < n):∃ ad A5 c5 A6 c6 A7 c7,A=some ad∧w.cell? (ad.add (i.toNat * 8))=some (.int .i64 (bW xs i).f0)∧w.cell? ⟨(ad.add (i.toNat * 8)).block,(ad.add (i.toNat * 8)).off + 1,none⟩=some (.int .i64 (bW xs i).f1)∧w.cell? ⟨(ad.add (i.toNat * 8)).block,(ad.add (i.toNat * 8)).off + 2,none⟩=some (.int .i64 (bW xs i).f2)∧w.cell? ⟨(ad.add (i.toNat * 8)).block,(ad.add (i.toNat * 8)).off + 3,none⟩=some (.int .i64 (bW xs i).f3.f0)∧w.cell? ⟨(ad.add (i.toNat * 8)).block,(ad.add (i.toNat * 8)).off + 4,none⟩=some (.int .i64 (bW xs i).f3.f1)∧w.cell? ⟨(ad.add (i.toNat * 8)).block,(ad.add (i.toNat * 8)).off + 5,none⟩=some (.slice A5 (bW xs i).f3.f2.length c5)∧w.cell? ⟨(ad.add (i.toNat * 8)).block,(ad.add (i.toNat * 8)).off + 6,none⟩=some (.slice A6 (bW xs i).f4.length c6)∧w.cell? ⟨(ad.add (i.toNat * 8)).block,(ad.add (i.toNat * 8)).off + 7,none⟩=some (.slice A7 (bW xs i).f5.length c7)∧(bW xs i).f3.f2.length≤c5∧k24.C w A5 (bW xs i).f3.f2.length (bW xs i).f3.f2∧(bW xs i).f4.length≤c6∧k66.C w A6 (bW xs i).f4.length (bW xs i).f4∧(bW xs i).f5.length≤c7∧k66.C w A7 (bW xs i).f5.length (bW xs i).f5:=by
 obtain ⟨ad,c,e,_,hK,hc0⟩:=Kd.vP h z66 i h0 h1
 have hc:∀ j u,c[j]?=some u→w.cell? (ad.add (i.toNat * 8 + j))=some u:=hc0
 obtain ⟨A5,c5,A6,c6,A7,c7,rfl,l5,g5,l6,g6,l7,g7⟩:=KJ hK
 exact ⟨ad,A5,c5,A6,c6,A7,c7,e,hc 0 _ rfl,by rw [← dS _ _ 1 (by omega)];exact hc 1 _ rfl,by rw [← dS _ _ 2 (by omega)];exact hc 2 _ rfl,by rw [← dS _ _ 3 (by omega)];exact hc 3 _ rfl,by rw [← dS _ _ 4 (by omega)];exact hc 4 _ rfl,by rw [← dS _ _ 5 (by omega)];exact hc 5 _ rfl,by rw [← dS _ _ 6 (by omega)];exact hc 6 _ rfl,by rw [← dS _ _ 7 (by omega)];exact hc 7 _ rfl,l5,g5,l6,g6,l7,g7⟩
structure S70 where
 f0:Int
 f1:Int
 f2:Int
 f3:S28
 f4:(List S70)
 f5:(List S70)
def z70:S70:=⟨(0:Int),(0:Int),(0:Int),z28,([]:List S70),([]:List S70)⟩
def F70 (d:Kd S70):Kd S70:=Kd.iso (Kd.pair (Kd.int .i64) (Kd.pair (Kd.int .i64) (Kd.pair (Kd.int .i64) (Kd.pair k28 (Kd.pair (Kd.slice 70 d) (Kd.slice 70 d)))))) (fun x:S70=>(x.f0,x.f1,x.f2,x.f3,x.f4,x.f5))
theorem mono70:Kd.kP F70:=Kd.mono_iso _ (Kd.mono_pair (Kd.mono_const _) (Kd.mono_pair (Kd.mono_const _) (Kd.mono_pair (Kd.mono_const _) (Kd.mono_pair (Kd.mono_const _) (Kd.mono_pair (Kd.mono_slice 70 Kd.mono_id) (Kd.mono_slice 70 Kd.mono_id))))))
theorem PN:Kd.Sub F70 [28,70]:=Kd.pX _ (Kd.fQ (Kd.sub_const _ (by decide)) (Kd.fQ (Kd.sub_const _ (by decide)) (Kd.fQ (Kd.sub_const _ (by decide)) (Kd.fQ (Kd.sub_const _ (by decide)) (Kd.fQ (Kd.mE 70 (by decide) Kd.oI) (Kd.mE 70 (by decide) Kd.oI))))))
theorem KV:∀ n,(Kd.upto F70 8 [28,70] n).sz=8:=Kd.pY (fun _=>rfl)
def k70:Kd S70:=Kd.fix F70 8 [28,70] KV (Kd.sK PN)
theorem KL:Kd.Heap k70:=Kd.BQ (fun _ h_=>Kd.BR _ (Kd.kU (Kd.oU .i64) (Kd.kU (Kd.oU .i64) (Kd.kU (Kd.oU .i64) (Kd.kU KH (Kd.kU (Kd.rT 70 h_) (Kd.rT 70 h_)))))))
theorem oV {w:World} {x:S70} {cs:List Value} (h:k70.K w x cs):∃ A5 c5 A6 c6 A7 c7,cs=[.int .i64 x.f0, .int .i64 x.f1, .int .i64 x.f2, .int .i64 x.f3.f0, .int .i64 x.f3.f1, .slice A5 x.f3.f2.length c5, .slice A6 x.f4.length c6, .slice A7 x.f5.length c7]∧x.f3.f2.length≤c5∧k28.C w A5 x.f3.f2.length x.f3.f2∧x.f4.length≤c6∧k70.C w A6 x.f4.length x.f4∧x.f5.length≤c7∧k70.C w A7 x.f5.length x.f5:=by
 obtain ⟨n,h⟩:=h
 cases n with
 |zero=>exact h.elim
 |succ n=>
  obtain ⟨_,_,rfl,rfl,⟨_,_,rfl,rfl,⟨_,_,rfl,rfl,⟨_,_,rfl,s3,⟨_,_,rfl,⟨A6,c6,rfl,l6,g6⟩,⟨A7,c7,rfl,l7,g7⟩⟩⟩⟩⟩⟩:=h
  obtain ⟨A5,c5,rfl,l5,g5⟩:=BS s3
  exact ⟨A5,c5,A6,c6,A7,c7,rfl,l5,g5,l6,Kd.xK g6,l7,Kd.xK g7⟩
theorem OC (w:World) (x:S70) {A5:Option Addr} {c5:Nat} (l5:x.f3.f2.length≤c5) (g5:k28.C w A5 x.f3.f2.length x.f3.f2) {A6:Option Addr} {c6:Nat} (l6:x.f4.length≤c6) (g6:k70.C w A6 x.f4.length x.f4) {A7:Option Addr} {c7:Nat} (l7:x.f5.length≤c7) (g7:k70.C w A7 x.f5.length x.f5):k70.K w x [.int .i64 x.f0, .int .i64 x.f1, .int .i64 x.f2, .int .i64 x.f3.f0, .int .i64 x.f3.f1, .slice A5 x.f3.f2.length c5, .slice A6 x.f4.length c6, .slice A7 x.f5.length c7]:=by
 obtain ⟨n6,q6⟩:=Kd.kT mono70 g6
 obtain ⟨n7,q7⟩:=Kd.kT mono70 g7
 have r6:=Kd.mF mono70 KV (show n6≤(max n6 n7) by omega) q6
 have r7:=Kd.mF mono70 KV (show n7≤(max n6 n7) by omega) q7
 exact ⟨(max n6 n7) + 1,⟨[.int .i64 x.f0],[.int .i64 x.f1, .int .i64 x.f2, .int .i64 x.f3.f0, .int .i64 x.f3.f1, .slice A5 x.f3.f2.length c5, .slice A6 x.f4.length c6, .slice A7 x.f5.length c7],rfl,rfl,⟨[.int .i64 x.f1],[.int .i64 x.f2, .int .i64 x.f3.f0, .int .i64 x.f3.f1, .slice A5 x.f3.f2.length c5, .slice A6 x.f4.length c6, .slice A7 x.f5.length c7],rfl,rfl,⟨[.int .i64 x.f2],[.int .i64 x.f3.f0, .int .i64 x.f3.f1, .slice A5 x.f3.f2.length c5, .slice A6 x.f4.length c6, .slice A7 x.f5.length c7],rfl,rfl,⟨[.int .i64 x.f3.f0, .int .i64 x.f3.f1, .slice A5 x.f3.f2.length c5],[.slice A6 x.f4.length c6, .slice A7 x.f5.length c7],rfl,(KI w x.f3 l5 g5),⟨[.slice A6 x.f4.length c6],[.slice A7 x.f5.length c7],rfl,⟨A6,c6,rfl,l6,r6⟩,⟨A7,c7,rfl,l7,r7⟩⟩⟩⟩⟩⟩⟩
theorem FY {W:World} {ok:Nat→Prop} {x:S70} {cs:List Value} (h:Kd.FK k70 W ok x cs):∃ A5 c5 A6 c6 A7 c7,cs=[.int .i64 x.f0, .int .i64 x.f1, .int .i64 x.f2, .int .i64 x.f3.f0, .int .i64 x.f3.f1, .slice A5 x.f3.f2.length c5, .slice A6 x.f4.length c6, .slice A7 x.f5.length c7]∧x.f3.f2.length≤c5∧Kd.F k28 W ok A5 x.f3.f2.length x.f3.f2∧x.f4.length≤c6∧Kd.F k70 W ok A6 x.f4.length x.f4∧x.f5.length≤c7∧Kd.F k70 W ok A7 x.f5.length x.f5:=by
 obtain ⟨A5,c5,A6,c6,A7,c7,rfl,l5,_,l6,_,l7,_⟩:=oV (Kd.uE h)
 exact ⟨A5,c5,A6,c6,A7,c7,rfl,l5,(fun W' hW=>by obtain ⟨j3,j4,j5,j6,j7,j8,he,j9,g5_,ja,g6_,jb,g7_⟩:=oV (h W' hW);injection (Option.some.inj (show some (Value.slice A5 x.f3.f2.length c5)=some (Value.slice j3 x.f3.f2.length j4) from congrArg (fun l=>l[5]?) he)) with ha_ _ _;rw [ha_];exact g5_),l6,(fun W' hW=>by obtain ⟨j3,j4,j5,j6,j7,j8,he,j9,g5_,ja,g6_,jb,g7_⟩:=oV (h W' hW);injection (Option.some.inj (show some (Value.slice A6 x.f4.length c6)=some (Value.slice j5 x.f4.length j6) from congrArg (fun l=>l[6]?) he)) with ha_ _ _;rw [ha_];exact g6_),l7,(fun W' hW=>by obtain ⟨j3,j4,j5,j6,j7,j8,he,j9,g5_,ja,g6_,jb,g7_⟩:=oV (h W' hW);injection (Option.some.inj (show some (Value.slice A7 x.f5.length c7)=some (Value.slice j7 x.f5.length j8) from congrArg (fun l=>l[7]?) he)) with ha_ _ _;rw [ha_];exact g7_)⟩
theorem MI (W:World) (ok:Nat→Prop) (x:S70) {A5:Option Addr} {c5:Nat} (l5:x.f3.f2.length≤c5) (g5:Kd.F k28 W ok A5 x.f3.f2.length x.f3.f2) {A6:Option Addr} {c6:Nat} (l6:x.f4.length≤c6) (g6:Kd.F k70 W ok A6 x.f4.length x.f4) {A7:Option Addr} {c7:Nat} (l7:x.f5.length≤c7) (g7:Kd.F k70 W ok A7 x.f5.length x.f5):Kd.FK k70 W ok x [.int .i64 x.f0, .int .i64 x.f1, .int .i64 x.f2, .int .i64 x.f3.f0, .int .i64 x.f3.f1, .slice A5 x.f3.f2.length c5, .slice A6 x.f4.length c6, .slice A7 x.f5.length c7]:=fun W2 hW=>OC W2 x l5 (g5 W2 hW) l6 (g6 W2 hW) l7 (g7 W2 hW)
def aC (xs:List S70) (i:Int):S70:=xs.getD i.toNat z70
theorem dJ {w:World} {A:Option Addr} {n:Nat} {xs:List S70} (h:Kd.C k70 w A n xs) (i:Int) (h0:0≤i) (h1:i < n):∃ ad A5 c5 A6 c6 A7 c7,A=some ad∧w.cell? (ad.add (i.toNat * 8))=some (.int .i64 (aC xs i).f0)∧w.cell? ⟨(ad.add (i.toNat * 8)).block,(ad.add (i.toNat * 8)).off + 1,none⟩=some (.int .i64 (aC xs i).f1)∧w.cell? ⟨(ad.add (i.toNat * 8)).block,(ad.add (i.toNat * 8)).off + 2,none⟩=some (.int .i64 (aC xs i).f2)∧w.cell? ⟨(ad.add (i.toNat * 8)).block,(ad.add (i.toNat * 8)).off + 3,none⟩=some (.int .i64 (aC xs i).f3.f0)∧w.cell? ⟨(ad.add (i.toNat * 8)).block,(ad.add (i.toNat * 8)).off + 4,none⟩=some (.int .i64 (aC xs i).f3.f1)∧w.cell? ⟨(ad.add (i.toNat * 8)).block,(ad.add (i.toNat * 8)).off + 5,none⟩=some (.slice A5 (aC xs i).f3.f2.length c5)∧w.cell? ⟨(ad.add (i.toNat * 8)).block,(ad.add (i.toNat * 8)).off + 6,none⟩=some (.slice A6 (aC xs i).f4.length c6)∧w.cell? ⟨(ad.add (i.toNat * 8)).block,(ad.add (i.toNat * 8)).off + 7,none⟩=some (.slice A7 (aC xs i).f5.length c7)∧(aC xs i).f3.f2.length≤c5∧k28.C w A5 (aC xs i).f3.f2.length (aC xs i).f3.f2∧(aC xs i).f4.length≤c6∧k70.C w A6 (aC xs i).f4.length (aC xs i).f4∧(aC xs i).f5.length≤c7∧k70.C w A7 (aC xs i).f5.length (aC xs i).f5:=by
 obtain ⟨ad,c,e,_,hK,hc0⟩:=Kd.vP h z70 i h0 h1
 have hc:∀ j u,c[j]?=some u→w.cell? (ad.add (i.toNat * 8 + j))=some u:=hc0
 obtain ⟨A5,c5,A6,c6,A7,c7,rfl,l5,g5,l6,g6,l7,g7⟩:=oV hK
 exact ⟨ad,A5,c5,A6,c6,A7,c7,e,hc 0 _ rfl,by rw [← dS _ _ 1 (by omega)];exact hc 1 _ rfl,by rw [← dS _ _ 2 (by omega)];exact hc 2 _ rfl,by rw [← dS _ _ 3 (by omega)];exact hc 3 _ rfl,by rw [← dS _ _ 4 (by omega)];exact hc 4 _ rfl,by rw [← dS _ _ 5 (by omega)];exact hc 5 _ rfl,by rw [← dS _ _ 6 (by omega)];exact hc 6 _ rfl,by rw [← dS _ _ 7 (by omega)];exact hc 7 _ rfl,l5,g5,l6,g6,l7,g7⟩
def tN (xs:List (List S70)) (i:Int):(List S70):=xs.getD i.toNat ([]:List S70)
def ND (xs:List (List S66)) (i:Int):(List S66):=xs.getD i.toNat ([]:List S66)
theorem dK {p:Prop} (h:p:=by repeat (first|(with_reducible first|exact HB.out|apply cZ|apply bD|apply dF)|exact HB.out)):p:=h
theorem dB {p:Prop} (h:p:=by (try simp only [List.map_toArray,List.map_cons,List.map_nil]);first|done|rfl|(simp only [List.length_drop,List.length_take];rfl)):p:=h
theorem gF {p:Prop} (h:p:=by repeat (first|(with_reducible first|exact HB.out|apply cZ|apply bD|apply dF|refine below_set ?_ GE99.out)|exact HB.out)):p:=h
theorem eO {p:Prop} (h:p:=by repeat (first|exact fC.refl _|apply fC.step)):p:=h
theorem nS {p:Prop} (h:p:=by repeat (first|(with_reducible first|exact HB.out|apply cZ|apply bD|apply dF|refine below_set ?_ GE23.out)|exact HB.out)):p:=h
theorem oM {p:Prop} (h:p:=by repeat (first|(with_reducible first|exact HB.out|apply cZ|apply bD|apply dF|refine below_set ?_ GE94.out|refine below_set ?_ GE95.out|refine below_set ?_ GE107.out|refine below_set ?_ GE111.out)|exact HB.out)):p:=h
theorem gU {p:Prop} (h:p:=by repeat (first|(with_reducible first|exact HB.out|apply cZ|apply bD|apply dF|refine below_set ?_ GE57.out)|exact HB.out)):p:=h
theorem EY {p:Prop} (h:p:=by repeat (first|(with_reducible first|exact HB.out|apply cZ|apply bD|apply dF|refine below_set ?_ GE22.out)|exact HB.out)):p:=h
theorem lS {p:Prop} (h:p:=by repeat (first|(with_reducible first|exact HB.out|apply cZ|apply bD|apply dF|refine below_set ?_ GE37.out|refine below_set ?_ GE38.out)|exact HB.out)):p:=h
theorem lT {p:Prop} (h:p:=by repeat (first|(with_reducible first|exact HB.out|apply cZ|apply bD|apply dF|refine below_set ?_ GE21.out)|exact HB.out)):p:=h
theorem mJ {p:Prop} (h:p:=by repeat (first|(with_reducible first|exact HB.out|apply cZ|apply bD|apply dF|refine below_set ?_ GE44.out)|exact HB.out)):p:=h
theorem uW {p:Prop} (h:p:=by first|rfl|(simp [pK,pO] <;> rfl)|(simp [*,pK,pO] <;> rfl)):p:=h
theorem rE {p:Prop} (h:p:=by repeat (first|(with_reducible first|exact HB.out|apply cZ|apply bD|apply dF|refine below_set ?_ GE94.out|refine below_set ?_ GE95.out)|exact HB.out)):p:=h
theorem sO {p:Prop} (h:p:=by repeat (first|(with_reducible first|exact HB.out|apply cZ|apply bD|apply dF|refine below_set ?_ GE21.out|refine below_set ?_ GE22.out)|exact HB.out)):p:=h
theorem rF {p:Prop} (h:p:=by repeat (first|(with_reducible first|exact HB.out|apply cZ|apply bD|apply dF|refine below_set ?_ GE32.out)|exact HB.out)):p:=h
theorem vX {p:Prop} (h:p:=by repeat (first|(with_reducible first|exact HB.out|apply cZ|apply bD|apply dF|refine below_set ?_ GE94.out|refine below_set ?_ GE95.out|refine below_set ?_ GE107.out)|exact HB.out)):p:=h
theorem xH {p:Prop} (h:p:=by repeat (first|(with_reducible first|exact HB.out|apply cZ|apply bD|apply dF|refine below_set ?_ GE94.out)|exact HB.out)):p:=h
theorem EZ {p:Prop} (h:p:=by repeat (first|(with_reducible first|exact HB.out|apply cZ|apply bD|apply dF|refine below_set ?_ GE21.out|refine below_set ?_ GE22.out|refine below_set ?_ GE23.out)|exact HB.out)):p:=h
theorem IV {p:Prop} (h:p:=by repeat (first|(with_reducible first|exact HB.out|apply cZ|apply bD|apply dF|refine below_set ?_ GE20.out)|exact HB.out)):p:=h
theorem IW {p:Prop} (h:p:=by repeat (first|(with_reducible first|exact HB.out|apply cZ|apply bD|apply dF|refine below_set ?_ GE37.out)|exact HB.out)):p:=h
theorem aN_ {p q:Prop} (x:q) (h:q→p:=by intro hx_;(with_reducible repeat (first|apply Kd.EU|apply Kd.EW|apply Kd.IC));exact hx_):p:=h x
theorem aG_ {p q:Prop} (x:q) (h:q→p:=by intro hx_;(with_reducible repeat (first|refine gZ ?_ _|refine gM ?_|refine gY ?_ _));exact hx_):p:=h x
theorem rr_ {p:Prop} (h:p:=by first|rfl|(simp [pK,pO] <;> rfl)|(simp [*,pK,pO] <;> rfl)):p:=h
theorem bsm {α β:Type} {o:Option α} {f:α→Option β} {b:β} (h:o.bind f=some b):∃ a,o=some a∧f a=some b:=Option.bind_eq_some_iff.mp h
theorem am {p:Prop} (h:p):Aside0 p:=⟨h⟩
theorem lU {w:World} {g:Nat} {t:TypeId} {x0:Value} (h:w.heap[g]?=some (.cells #[x0] t (0,0))):w.cell? ⟨g,0,none⟩=some x0∧w.frozen? ⟨g,0,none⟩=false:=⟨(aA h 0).trans rfl,aG h 0⟩
theorem fA {w:World} {g:Nat} {t:TypeId} {x0 x1 x2:Value} (h:w.heap[g]?=some (.cells #[x0,x1,x2] t (0,0))):w.cell? ⟨g,0,none⟩=some x0∧w.cell? ⟨g,1,none⟩=some x1∧w.cell? ⟨g,2,none⟩=some x2∧w.frozen? ⟨g,0,none⟩=false∧w.frozen? ⟨g,1,none⟩=false∧w.frozen? ⟨g,2,none⟩=false:=⟨(aA h 0).trans rfl,(aA h 1).trans rfl,(aA h 2).trans rfl,aG h 0,aG h 1,aG h 2⟩
theorem dH {w:World} {g:Nat} {t:TypeId} {x0 x1 x2 x3 x4 x5 x6 x7:Value} (h:w.heap[g]?=some (.cells #[x0,x1,x2,x3,x4,x5,x6,x7] t (0,0))):w.cell? ⟨g,0,none⟩=some x0∧w.cell? ⟨g,1,none⟩=some x1∧w.cell? ⟨g,2,none⟩=some x2∧w.cell? ⟨g,3,none⟩=some x3∧w.cell? ⟨g,4,none⟩=some x4∧w.cell? ⟨g,5,none⟩=some x5∧w.cell? ⟨g,6,none⟩=some x6∧w.cell? ⟨g,7,none⟩=some x7∧w.frozen? ⟨g,0,none⟩=false∧w.frozen? ⟨g,1,none⟩=false∧w.frozen? ⟨g,2,none⟩=false∧w.frozen? ⟨g,3,none⟩=false∧w.frozen? ⟨g,4,none⟩=false∧w.frozen? ⟨g,5,none⟩=false∧w.frozen? ⟨g,6,none⟩=false∧w.frozen? ⟨g,7,none⟩=false:=⟨(aA h 0).trans rfl,(aA h 1).trans rfl,(aA h 2).trans rfl,(aA h 3).trans rfl,(aA h 4).trans rfl,(aA h 5).trans rfl,(aA h 6).trans rfl,(aA h 7).trans rfl,aG h 0,aG h 1,aG h 2,aG h 3,aG h 4,aG h 5,aG h 6,aG h 7⟩
theorem dR {W0 W W1:World} {g:Nat} {o:Obj} (x:W0.heap[g]?=some o) (hb:Below W.heap.size W W1) (h:W0.heap[g]?=some o→W.heap[g]?=some o:=by intro hx_;(with_reducible repeat (first|refine gZ ?_ _|refine gM ?_|refine gY ?_ _));exact hx_):W1.heap[g]?=some o:=aN (h x) hb
theorem bbP {W0 W W1:World} {g:Nat} {o:Obj} (x:Aside0 (W0.heap[g]?=some o)) (hb:Below W.heap.size W W1) (h:W0.heap[g]?=some o→W.heap[g]?=some o:=by intro hx_;(with_reducible repeat (first|refine gZ ?_ _|refine gM ?_|refine gY ?_ _));exact hx_):Aside0 (W1.heap[g]?=some o):=⟨aN (h x.out) hb⟩
theorem wU {W0 W:World} {g:Nat} {o:Obj} (x:W0.heap[g]?=some o) (h:W0.heap[g]?=some o→W.heap[g]?=some o:=by intro hx_;(with_reducible repeat (first|refine gZ ?_ _|refine gM ?_|refine gY ?_ _));exact hx_):g < W.heap.size:=cK (h x)
theorem NZ {W0 W:World} {g:Nat} {o:Obj} (x:W0.heap[g]?=some o) (k:Nat) (hk:W.heap.size≤k) (h:W0.heap[g]?=some o→W.heap[g]?=some o:=by intro hx_;(with_reducible repeat (first|refine gZ ?_ _|refine gM ?_|refine gY ?_ _));exact hx_):k≠g:=Kd.iA (h x) k hk
theorem aC_ {p q:Prop} (x:q) (h:q→p:=by intro hx_;repeat (first|exact hx_|(with_reducible refine Kd.LD ?_ _)|(with_reducible refine Kd.yD ?_ _)|(with_reducible refine Kd.CZ ?_))):p:=h x
theorem rn_ {p:Prop} (h:p:=by first|(go_simp;done)|(go_simp;rfl)):p:=h
theorem sd_ {p:Prop} (h:p:=by first|rfl|(simp;done)|(simp [*];done)):p:=h
theorem bR {p:Prop} (h:p:=by first|(with_reducible assumption)|assumption):p:=h
theorem nb_ {p q:Prop} (x:q) (h:q→p:=by intro hx_;first|(rw [add_block];exact hx_)|(show (Addr.add _ _).block≠_;rw [add_block];exact hx_)|exact hx_):p:=h x
theorem pr_ (i N:Nat) (l':Array Bool) {P:Program} {md:Region.Mode} {ops:Array Oper} {Q:Exit→Act→World→Prop} {S:World→Prop} {ds:List Nat} {oi:Oper} {v:Value} {fuel:Nat} {l:Array Bool} {a a':Act} {w:World} {T:Bool × List (List Nat × List Nat)} (HT:Aside0 (kQ md ops=T)) (h:dD P md ops Q S ds fuel l' a' w) (hi:ops[i]?=some oi:=by rfl) (hN:oi.dst=some N:=by rfl) (hc:NU T l.toList l'.toList i=true:=by kernel_rfl) (hQ:∀ c a w,Q (.panic c) (a.put oi.dst v) w→Q (.panic c) a w:=by exact fun _ _ _ h_=>h_) (hg:Region.wanted oi (yielded ops a.tmps)=true:=by rfl) (hy:∀ w,(execOp a.eval oi).run P w= .ok (.value v) w:=by (intro w';go_simp;with_reducible rfl)) (ha:a.put (some N) v=a':=by first|(simp only [Act.put,List.setIfInBounds_toArray,List.set_cons_zero,List.set_cons_succ,gB,gN];rfl)|rfl):dD P md ops Q S ds (fuel + 1) l a w:=PE l' hi hN (NV HT.out hc) hQ (Or.inl ⟨hg,hy⟩) ha h
theorem MP (i N:Nat) (l':Array Bool) {P:Program} {md:Region.Mode} {ops:Array Oper} {Q:Exit→Act→World→Prop} {S:World→Prop} {ds:List Nat} {oi:Oper} {v:Value} {fuel:Nat} {l:Array Bool} {a a':Act} {w:World} {T:Bool × List (List Nat × List Nat)} {B:List Nat} (HT:Aside0 (kQ md ops=T)) (HW:Aside0 (lZ T.2 B=true)) (hS:S w) (h:dD P md ops Q S ds fuel l' a' w) (hi:ops[i]?=some oi:=by rfl) (hN:oi.dst=some N:=by rfl) (hc:FN T B ds l.toList l'.toList i=true:=by kernel_rfl) (hQ:∀ c a w,Q (.panic c) (a.put oi.dst v) w→Q (.panic c) a w:=by exact fun _ _ _ h_=>h_) (hg:Region.wanted oi (yielded ops a.tmps)=true:=by rfl) (hy:∀ w,S w→(execOp a.eval oi).run P w= .ok (.value v) w:=by (rintro w' ⟨s0,s1,s2,s3,s4,s5⟩;go_simp;with_reducible rfl)) (ha:a.put (some N) v=a':=by first|(simp only [Act.put,List.setIfInBounds_toArray,List.set_cons_zero,List.set_cons_succ,gB,gN];rfl)|rfl):dD P md ops Q S ds (fuel + 1) l a w:=FP l' hi hN (CY HT.out HW.out hc) hQ (Or.inl ⟨hg,hy⟩) hS ha h
theorem xZ (i N:Nat) (l':Array Bool) {P:Program} {md:Region.Mode} {ops:Array Oper} {Q:Exit→Act→World→Prop} {S:World→Prop} {ds:List Nat} {oi:Oper} {v:Value} {fuel:Nat} {l:Array Bool} {a a':Act} {w:World} {T:Bool × List (List Nat × List Nat)} {B:List Nat} (HT:Aside0 (kQ md ops=T)) (HW:Aside0 (lZ T.2 B=true)) (hS:S w) (h:dD P md ops Q S ds fuel l' a' w) (hi:ops[i]?=some oi:=by rfl) (hN:oi.dst=some N:=by rfl) (hc:FN T B ds l.toList l'.toList i=true:=by kernel_rfl) (hQ:∀ c a w,Q (.panic c) (a.put oi.dst v) w→Q (.panic c) a w:=by exact fun _ _ _ h_=>h_) (hg:Region.wanted oi (yielded ops a.tmps)=true:=by rfl) (hy:∀ w,S w→(execOp a.eval oi).run P w= .ok (.value v) w:=by (rintro w' ⟨s0,s1,s2,s3,s4,s5,s6,s7,s8,s9,j3,j4,j5,j6,j7,j8⟩;go_simp;with_reducible rfl)) (ha:a.put (some N) v=a':=by first|(simp only [Act.put,List.setIfInBounds_toArray,List.set_cons_zero,List.set_cons_succ,gB,gN];rfl)|rfl):dD P md ops Q S ds (fuel + 1) l a w:=FP l' hi hN (CY HT.out HW.out hc) hQ (Or.inl ⟨hg,hy⟩) hS ha h
theorem uG {α:Type} {d:Kd α} {e:Nat} {W0 W:World} {base:Nat} {ok:Nat→Prop} {v:Value} {xs:List α} (x:Kd.N d e W0 base ok v xs) (h:Kd.N d e W0 base ok v xs→Kd.N d e W base ok v xs:=by intro hx_;(with_reducible repeat (first|apply Kd.EU|apply Kd.EW|apply Kd.IC));exact hx_):Kd.N d e W base ok v xs:=h x
theorem PV {α:Type} {d:Kd α} {e:Nat} {W0 W:World} {base:Nat} {ok:Nat→Prop} {v:Value} {xs:List α} (x:Kd.R d e W0 base ok v xs) (h:Kd.R d e W0 base ok v xs→Kd.R d e W base ok v xs:=by intro hx_;(with_reducible repeat (first|apply Kd.LU|apply Kd.LV|apply Kd.NK));exact hx_):Kd.R d e W base ok v xs:=h x
theorem ap_ {a a':Act} {v:Value} {N:Nat} (h:a.put (some N) v=a':=by first|(simp only [Act.put,List.setIfInBounds_toArray,List.set_cons_zero,List.set_cons_succ,gB,gN];rfl)|rfl):a.put (some N) v=a':=h
def bz (n m:Nat):Array Bool:=((List.range n).map (fun i=>m.testBit i)).toArray
theorem rx_ {p:Prop} (h:p:=by first|(rw [hy_];with_reducible exact H)|(have H2_:=(Option.bind_some _ _).symm.trans H;rw [hy_];with_reducible exact H2_)|(have H2_:=(Option.bind_some _ _).symm.trans H;with_reducible exact H2_)|with_reducible exact H|(rw [hy_];exact H)|exact H):p:=h
theorem bsa {α β:Type} {o:Option α} {f:α→Option β} {b:β} (h:o.bind f=some b):∃ a,Aside0 (o=some a)∧f a=some b:=by
 obtain ⟨a,h1,h2⟩:=Option.bind_eq_some_iff.mp h
 exact ⟨a,⟨h1⟩,h2⟩
theorem mo_ {p:Prop} (h:p:=by repeat' first|(with_reducible exact ih0 ..)|(with_reducible exact ih1 ..)|(with_reducible exact ih2 ..)|(with_reducible exact ih3 ..)|(with_reducible exact ih4 ..)|(with_reducible exact ih5 ..)|(with_reducible exact ih6 ..)|(with_reducible exact ih7 ..)|(with_reducible exact m0 ..)|(with_reducible exact m1 ..)|(with_reducible exact m2 ..)|(with_reducible exact m3 ..)|(with_reducible exact LeO.refl _)|(with_reducible exact LeO.none _)|(with_reducible refine LeO.ite ?_ ?_)|(with_reducible refine LeO.bind ?_ (fun _=>?_))):p:=h
mutual
def bB.l0:Nat→List (S24)→Int→Int→Option (Int)
 |0,_,_,_=>none
 |k + 1,x0,x1,x5=>if x5 < (x0.length:Int) then (if 0≤x5 then ((bV.f k ((fM x0 x5).f0) ((fM x0 x5).f1) ((fM x0 x5).f2) x1).bind fun t102=>(if t102 < 0 then (some (-1)) else (bB.l0 k x0 t102 (wrap64 (x5 + 1))))) else (none)) else (some x1)
def bB.f:Nat→List (S24)→Int→Option (Int)
 |0,_,_=>none
 |k + 1,l0,a1=>if (wrap64 (a1 - (l0.length:Int))) < 0 then (some (-1)) else (bB.l0 k l0 (wrap64 (a1 - (l0.length:Int))) 0)
def bV.f:Nat→Int→Int→List (S24)→Int→Option (Int)
 |0,_,_,_,_=>none
 |k + 1,a0_0,a0_1,l0_2,a1=>(bB.f k l0_2 a1).bind fun t104=>(if t104 < 0 then (some (-1)) else (some t104))
end
def dL.f (a0:Int) (a1:Int) (a2:Int):Option (Bool):=if a0≥a1 then (some (decide (a0≤a2))) else (some false)
def eH.f (a0:Int):Option (Bool):=(dL.f a0 1 12).bind fun t105=>(some t105)
def dZ.f:Nat→Int→Int→List (S28)→Int→Option (Bool)
 |0,_,_,_,_=>none
 |k + 1,a0_0,a0_1,l0_2,a1=>if a1 < 1 then (some false) else (if a0_0=0 then ((dL.f a0_1 0 99999).bind fun t107=>(if t107=true then (some ((l0_2.length:Int) == 0)) else (some false))) else (if a0_0=13 then ((dL.f a0_1 0 3).bind fun t108=>(if t108=true then (some ((l0_2.length:Int) == 0)) else (some false))) else ((eH.f a0_0).bind fun t109=>(if t109=true then (if a0_1=0 then (if (l0_2.length:Int)=2 then (if 0 < (l0_2.length:Int) then ((dZ.f k ((aW l0_2 0).f0) ((aW l0_2 0).f1) ((aW l0_2 0).f2) (wrap64 (a1 - 1))).bind fun t111=>(if t111=true then (if 1 < (l0_2.length:Int) then ((dZ.f k ((aW l0_2 1).f0) ((aW l0_2 1).f1) ((aW l0_2 1).f2) (wrap64 (a1 - 1))).bind fun t113=>(some t113)) else (none)) else (some false))) else (none)) else (some false)) else (some false)) else (some false)))))
def bM.f (k:Nat) (a0_0:Int) (a0_1:Int) (l0_2:List (S28)):Option (Bool):=(dZ.f k a0_0 a0_1 l0_2 5).bind fun t115=>(some t115)
def kG.f (a0:Int) (a1:Int):Option (Int × Int × (List (S28))):=some (a0,a1,(([]:List (S28))))
def fP.f (a0:Int):Option (Bool):=(dL.f a0 (-2147483648) 2147483647).bind fun t120=>(some t120)
def iD.f (a0:Bool):Option (Int):=if a0=true then (some 1) else (some 0)
def fF.f (a0:Int):Option (Int):=if (Int.tmod a0 4294967296) > 2147483647 then (some (wrap64 ((Int.tmod a0 4294967296) - 4294967296))) else (if (Int.tmod a0 4294967296) < (-2147483648) then (some (wrap64 ((Int.tmod a0 4294967296) + 4294967296))) else (some (Int.tmod a0 4294967296)))
def gH.f (a0:Int) (a1:Int) (a2:Bool):Option (Int):=if a2=true then (if 0≤(Go.bits .and .i64 a1 31) then (some (shr .i64 a0 (Go.bits .and .i64 a1 31))) else (none)) else (if 0≤(Go.bits .and .i64 a1 31) then ((fF.f (shl .i64 a0 (Go.bits .and .i64 a1 31))).bind fun t121=>(some t121)) else (none))
def iW.f (a0:Int) (a1:Int):Option (Int):=if a1=0 then (some (-1)) else ((fF.f (wrap64 (Int.tdiv a0 a1))).bind fun t122=>(some t122))
def iX.f (a0:Int) (a1:Int):Option (Int):=if a1=0 then (some a0) else (some (Int.tmod a0 a1))
def dA.j0:Nat→Int→Int→Int→Bool→Option (Int × Bool)
 |0,_,_,_,_=>none
 |k + 1,x0,x1,x2,x20=>if x20=true then (some (0,false)) else (if x0=1 then (some (Go.bits .or .i64 x1 x2,true)) else (if x0=2 then (some (Go.bits .xor .i64 x1 x2,true)) else (if x0=3 then (some (Go.bits .and .i64 x1 x2,true)) else (if x0=4 then ((iD.f (x1 == x2)).bind fun t126=>(some (t126,true))) else (if x0=5 then ((iD.f (decide (x1 < x2))).bind fun t127=>(some (t127,true))) else (if x0=6 then ((gH.f x1 x2 false).bind fun t128=>(some (t128,true))) else (if x0=7 then ((gH.f x1 x2 true).bind fun t129=>(some (t129,true))) else (if x0=8 then ((fF.f (wrap64 (x1 + x2))).bind fun t130=>(some (t130,true))) else (if x0=9 then ((fF.f (wrap64 (x1 - x2))).bind fun t131=>(some (t131,true))) else (if x0=10 then ((fF.f (wrap64 (x1 * x2))).bind fun t132=>(some (t132,true))) else (if x0=11 then ((iW.f x1 x2).bind fun t133=>(some (t133,true))) else ((iX.f x1 x2).bind fun t134=>(some (t134,true))))))))))))))
def dA.f (k:Nat) (a0:Int) (a1:Int) (a2:Int):Option (Int × Bool):=(eH.f a0).bind fun t123=>(if t123=true then ((fP.f a1).bind fun t124=>(if t124=true then ((fP.f a2).bind fun t125=>(dA.j0 k a0 a1 a2 (!t125))) else (dA.j0 k a0 a1 a2 true))) else (dA.j0 k a0 a1 a2 true))
def kF.f (a0:Int) (a1_0:Int) (a1_1:Int) (l1_2:List (S28)) (a2_0:Int) (a2_1:Int) (l2_2:List (S28)):Option (Int × Int × (List (S28))):=some (a0,0,(([(⟨a1_0,a1_1,l1_2⟩:S28),(⟨a2_0,a2_1,l2_2⟩:S28)]:List (S28))))
mutual
def bK.j0:Nat→Bool→Int→Int→List (S28)→Int→Int→List (S28)→Int→Int→List (S28)→Option (Int × Int × (List (S28)))
 |0,_,_,_,_,_,_,_,_,_,_=>none
 |k + 1,x33,x142000,x142001,x142002,x155000,x155001,x155002,x162000,x162001,x162002=>if x33=true then ((dA.f k x142000 x155001 x162001).bind fun bt162=>((dL.f bt162.1 0 99999).bind fun t164=>(if t164=true then ((kG.f 0 bt162.1).bind fun bt165=>(some (bt165.1,bt165.2.1,bt165.2.2))) else ((kF.f x142000 x155000 x155001 x155002 x162000 x162001 x162002).bind fun bt170=>(some (bt170.1,bt170.2.1,bt170.2.2)))))) else ((kF.f x142000 x155000 x155001 x155002 x162000 x162001 x162002).bind fun bt175=>(some (bt175.1,bt175.2.1,bt175.2.2)))
def bK.f:Nat→Int→Int→List (S28)→Option (Int × Int × (List (S28)))
 |0,_,_,_=>none
 |k + 1,a0_0,a0_1,l0_2=>if (l0_2.length:Int)=0 then ((kG.f a0_0 a0_1).bind fun bt143=>(some (bt143.1,bt143.2.1,bt143.2.2))) else (if 0 < (l0_2.length:Int) then ((bK.f k ((aW l0_2 0).f0) ((aW l0_2 0).f1) ((aW l0_2 0).f2)).bind fun bt149=>(if 1 < (l0_2.length:Int) then ((bK.f k ((aW l0_2 1).f0) ((aW l0_2 1).f1) ((aW l0_2 1).f2)).bind fun bt156=>(if bt149.1=0 then (bK.j0 k (bt156.1 == 0) a0_0 a0_1 l0_2 bt149.1 bt149.2.1 bt149.2.2 bt156.1 bt156.2.1 bt156.2.2) else (bK.j0 k false a0_0 a0_1 l0_2 bt149.1 bt149.2.1 bt149.2.2 bt156.1 bt156.2.1 bt156.2.2))) else (none))) else (none))
end
def xC.f (k:Nat) (a0_0:Int) (a0_1:Int) (l0_2:List (S28)):Option (Int × Int × (List (S28)) × Bool):=(bM.f k a0_0 a0_1 l0_2).bind fun t182=>(if t182=true then ((bK.f k a0_0 a0_1 l0_2).bind fun bt183=>(some (bt183.1,bt183.2.1,bt183.2.2,true))) else (some (0,0,([]:List (S28)),false)))
mutual
def bZ.l0:Nat→List (S24)→List (S28)→Int→Option ((List (S28)))
 |0,_,_,_=>none
 |k + 1,x0,x3,x4=>if x4 < (x0.length:Int) then (if 0≤x4 then ((dP.f k ((fM x0 x4).f0) ((fM x0 x4).f1) ((fM x0 x4).f2)).bind fun bt192=>(if x4 < (x3.length:Int) then (bZ.l0 k x0 (x3.set (x4:Int).toNat (⟨bt192.1,bt192.2.1,bt192.2.2⟩:S28)) (wrap64 (x4 + 1))) else (none))) else (none)) else (some x3)
def bZ.f:Nat→List (S24)→Option ((List (S28)))
 |0,_=>none
 |k + 1,l0=>if 0≤(l0.length:Int) then (if ((l0.length:Int):Int).toNat≤7036874417766 then (bZ.l0 k l0 (List.replicate ((l0.length:Int):Int).toNat z28) 0) else (none)) else (none)
def dP.f:Nat→Int→Int→List (S24)→Option (Int × Int × (List (S28)))
 |0,_,_,_=>none
 |k + 1,a0_0,a0_1,l0_2=>(bZ.f k l0_2).bind fun t201=>(some (a0_0,a0_1,t201))
end
def fK.f (a0:Int):Option (Bool):=if a0≥1 then (some (decide (a0≤12))) else (some false)
def bS.f:Nat→Int→Int→List (S28)→Int→Option (Bool)
 |0,_,_,_,_=>none
 |k + 1,a0_0,a0_1,l0_2,a1=>if a0_0=0 then (if a0_1≥0 then (if a0_1≤99999 then (if (l0_2.length:Int)=0 then (some (decide (a1 > 0))) else (some false)) else (some false)) else (some false)) else (if a0_0=13 then (if a0_1≥0 then (if a0_1 < 4 then (if (l0_2.length:Int)=0 then (some (decide (a1 > 0))) else (some false)) else (some false)) else (some false)) else ((fK.f a0_0).bind fun t205=>(if t205=true then (if a0_1=0 then (if (l0_2.length:Int)=2 then (if a1 > 1 then (if 0 < (l0_2.length:Int) then ((bS.f k ((aW l0_2 0).f0) ((aW l0_2 0).f1) ((aW l0_2 0).f2) (wrap64 (a1 - 1))).bind fun t207=>(if t207=true then (if 1 < (l0_2.length:Int) then ((bS.f k ((aW l0_2 1).f0) ((aW l0_2 1).f1) ((aW l0_2 1).f2) (wrap64 (a1 - 1))).bind fun t209=>(some t209)) else (none)) else (some false))) else (none)) else (some false)) else (some false)) else (some false)) else (some false))))
def dV.f (k:Nat) (a0_0:Int) (a0_1:Int) (l0_2:List (S28)):Option (Bool):=(bS.f k a0_0 a0_1 l0_2 5).bind fun t211=>(some t211)
def iN.f (a0:Bool):Option (Int):=if a0=true then (some 1) else (some 0)
def fU.f (a0:Int):Option (Int):=some (wrap64 (wrap32 (a0)))
def fV.f (a0:Int) (a1:Int) (a2:Int):Option (Int):=if a0=1 then (some (Go.bits .or .i64 a1 a2)) else (if a0=2 then (some (Go.bits .xor .i64 a1 a2)) else (if a0=3 then (some (Go.bits .and .i64 a1 a2)) else (if a0=4 then ((iN.f (a1 == a2)).bind fun t212=>(some t212)) else (if a0=5 then ((iN.f (decide (a1 < a2))).bind fun t213=>(some t213)) else (if a0=6 then (if 0≤(Go.bits .and .i64 a2 31) then ((fU.f (shl .i64 a1 (Go.bits .and .i64 a2 31))).bind fun t214=>(some t214)) else (none)) else (if a0=7 then (if 0≤(Go.bits .and .i64 a2 31) then (some (shr .i64 a1 (Go.bits .and .i64 a2 31))) else (none)) else (if a0=8 then ((fU.f (wrap64 (a1 + a2))).bind fun t215=>(some t215)) else (if a0=9 then ((fU.f (wrap64 (a1 - a2))).bind fun t216=>(some t216)) else (if a0=10 then ((fU.f (wrap64 (a1 * a2))).bind fun t217=>(some t217)) else (if a0=11 then (if a2=0 then (some (-1)) else ((fU.f (wrap64 (Int.tdiv a1 a2))).bind fun t218=>(some t218))) else (if a2=0 then (some a1) else (some (Int.tmod a1 a2)))))))))))))
mutual
def aX.j0:Nat→Bool→Int→Int→List (S28)→Int→Int→List (S28)→Int→Int→List (S28)→Option (Int × Int × (List (S28)))
 |0,_,_,_,_,_,_,_,_,_,_=>none
 |k + 1,x32,a0,a1,l,x0,x1,x2,y0,y1,y2=>if x32=true then ((fV.f a0 x1 y1).bind fun n=>(if n≥0 then (if n≤99999 then (some (0,n,([]:List (S28)))) else (some (a0,0,([(⟨x0,x1,x2⟩:S28),(⟨y0,y1,y2⟩:S28)]:List (S28))))) else (some (a0,0,([(⟨x0,x1,x2⟩:S28),(⟨y0,y1,y2⟩:S28)]:List (S28)))))) else (some (a0,0,([(⟨x0,x1,x2⟩:S28),(⟨y0,y1,y2⟩:S28)]:List (S28))))
def aX.f:Nat→Int→Int→List (S28)→Option (Int × Int × (List (S28)))
 |0,_,_,_=>none
 |k + 1,a0,a1,l=>if (l.length:Int)=0 then (some (a0,a1,([]:List (S28)))) else (if 0 < (l.length:Int) then ((aX.f k ((aW l 0).f0) ((aW l 0).f1) ((aW l 0).f2)).bind fun x=>(if 1 < (l.length:Int) then ((aX.f k ((aW l 1).f0) ((aW l 1).f1) ((aW l 1).f2)).bind fun y=>(if x.1=0 then (aX.j0 k (y.1 == 0) a0 a1 l x.1 x.2.1 x.2.2 y.1 y.2.1 y.2.2) else (aX.j0 k false a0 a1 l x.1 x.2.1 x.2.2 y.1 y.2.1 y.2.2))) else (none))) else (none))
end
def wW.f (k:Nat) (a0_0:Int) (a0_1:Int) (l0_2:List (S28)):Option (Int × Int × (List (S28)) × Bool):=(dV.f k a0_0 a0_1 l0_2).bind fun t221=>(if t221=true then ((aX.f k a0_0 a0_1 l0_2).bind fun bt222=>(some (bt222.1,bt222.2.1,bt222.2.2,true))) else (some (0,0,([]:List (S28)),false)))
mutual
def aR.l0:Nat→List (S28)→List (S28)→Int→Option (Bool)
 |0,_,_,_=>none
 |k + 1,x0,x1,x5=>if x5 < (x0.length:Int) then (if 0≤x5 then (if x5 < (x1.length:Int) then ((bN.f k ((aW x0 x5).f0) ((aW x0 x5).f1) ((aW x0 x5).f2) ((aW x1 x5).f0) ((aW x1 x5).f1) ((aW x1 x5).f2)).bind fun t229=>(if t229=true then (aR.l0 k x0 x1 (wrap64 (x5 + 1))) else (some false))) else (none)) else (none)) else (some true)
def aR.f:Nat→List (S28)→List (S28)→Option (Bool)
 |0,_,_=>none
 |k + 1,l0,l1=>if (l0.length:Int)=(l1.length:Int) then (aR.l0 k l0 l1 0) else (some false)
def bN.f:Nat→Int→Int→List (S28)→Int→Int→List (S28)→Option (Bool)
 |0,_,_,_,_,_,_=>none
 |k + 1,a0_0,a0_1,l0_2,a1_0,a1_1,l1_2=>if a0_0=a1_0 then (if a0_1=a1_1 then ((aR.f k l0_2 l1_2).bind fun t232=>(if t232=true then (some true) else (some false))) else (some false)) else (some false)
end
mutual
def bE.l0:Nat→List S28→Int→Int→Option (Int × List S28)
 |0,_,_,_=>none
 |k + 1,xs,n,i=>if i < (xs.length:Int) then (if 0≤i then ((bE.f k (aW xs i).f2 (wrap64 ((wrap64 (n + 1)) + 1))).bind fun t=>bE.l0 k (xs.set i.toNat ⟨n,(wrap64 (n + 1)),t.2⟩) t.1 (wrap64 (i + 1))) else none) else some (n,xs)
def bE.f:Nat→List S28→Int→Option (Int × List S28)
 |0,_,_=>none
 |k + 1,xs,n=>bE.l0 k xs n 0
end
def kZ.f (k:Nat) (a0 a1:Int) (l:List S28) (n:Int):Option (Int × List S28):=bE.f k l n
mutual
def aT.l0:Nat→List (S28)→Int→Int→Option (Int)
 |0,_,_,_=>none
 |k + 1,x0,x1,x5=>if x5 < (x0.length:Int) then (if 0≤x5 then (if ((aW x0 x5).f0)=x1 then (if ((aW x0 x5).f1)=(wrap64 (x1 + 1)) then ((aT.f k ((aW x0 x5).f2) (wrap64 ((wrap64 (x1 + 1)) + 1))).bind fun t236=>(if t236 < 0 then (some (-1)) else (aT.l0 k x0 t236 (wrap64 (x5 + 1))))) else (some (-1))) else (some (-1))) else (none)) else (some x1)
def aT.f:Nat→List (S28)→Int→Option (Int)
 |0,_,_=>none
 |k + 1,l0,a1=>aT.l0 k l0 a1 0
end
def wY.f (k:Nat) (a0_0:Int) (a0_1:Int) (l0_2:List (S28)) (a1:Int):Option (Int):=(aT.f k l0_2 a1).bind fun t238=>(if t238 < 0 then (some (-1)) else (some t238))
def BU.f (k:Nat) (a0 a1:Int) (l:List S24):Option Bool:=(bV.f k a0 a1 l 1048576).bind fun left=>if left < 0 then some true else
 (dP.f k a0 a1 l).bind fun x=>(xC.f k x.1 x.2.1 x.2.2).bind fun w=>(wW.f k x.1 x.2.1 x.2.2).bind fun g=>
 (bN.f k g.1 g.2.1 g.2.2.1 w.1 w.2.1 w.2.2.1).bind fun e1=>if e1=false then none else if g.2.2.2≠w.2.2.2 then none else
 (bN.f k x.1 x.2.1 x.2.2 x.1 x.2.1 x.2.2).bind fun e2=>if e2=false then none else
 (kZ.f k x.1 x.2.1 x.2.2 1).bind fun m1=>if m1.1 < 0 then none else
 (kZ.f k g.1 g.2.1 g.2.2.1 1).bind fun m=>(wY.f k g.1 g.2.1 m.2 1).bind fun q=>if q < 0 then none else if q≠m.1 then none else some true
mutual
def bQ.f:Nat→Int→Int→Int→Int→Int→List (S24)→List (S66)→List (S66)→Int→Option (Int)
 |0,_,_,_,_,_,_,_,_,_=>none
 |k + 1,a0_0,a0_1,a0_2,a0_3,a0_4,l0_5,l0_6,l0_7,a1=>(bV.f k a0_3 a0_4 l0_5 a1).bind fun t240=>(if t240 < 0 then (some (-1)) else ((bC.f k l0_6 t240).bind fun t241=>(if t241 < 0 then (some (-1)) else ((bC.f k l0_7 t241).bind fun t242=>(if t242 < 0 then (some (-1)) else (some t242))))))
def bC.l0:Nat→List (S66)→Int→Int→Option (Int)
 |0,_,_,_=>none
 |k + 1,x0,x1,x5=>if x5 < (x0.length:Int) then (if 0≤x5 then ((bQ.f k ((bW x0 x5).f0) ((bW x0 x5).f1) ((bW x0 x5).f2) ((bW x0 x5).f3.f0) ((bW x0 x5).f3.f1) ((bW x0 x5).f3.f2) ((bW x0 x5).f4) ((bW x0 x5).f5) x1).bind fun t244=>(if t244 < 0 then (some (-1)) else (bC.l0 k x0 t244 (wrap64 (x5 + 1))))) else (none)) else (some x1)
def bC.f:Nat→List (S66)→Int→Option (Int)
 |0,_,_=>none
 |k + 1,l0,a1=>if (wrap64 (a1 - (l0.length:Int))) < 0 then (some (-1)) else (bC.l0 k l0 (wrap64 (a1 - (l0.length:Int))) 0)
end
def bX.f (a0_0:Int) (a0_1:Int) (a0_2:Int) (a0_3:Int) (a0_4:Int) (l0_5:List (S28)) (l0_6:List (S70)) (l0_7:List (S70)) (a1:Bool):Option (Bool):=if a1=true then ((dL.f a0_1 0 3).bind fun t246=>(some t246)) else (some (a0_1 == 0))
def dG.f (a0_0:Int) (a0_1:Int) (a0_2:Int) (a0_3:Int) (a0_4:Int) (l0_5:List (S28)) (l0_6:List (S70)) (l0_7:List (S70)) (a1:Bool):Option (Bool):=if a1=true then ((dL.f a0_2 0 2).bind fun t248=>(some t248)) else (some (a0_2 == 0))
def gI.f (a0_0:Int) (a0_1:Int) (l0_2:List (S28)):Option (Bool):=if a0_0=0 then (if a0_1=0 then (some ((l0_2.length:Int) == 0)) else (some false)) else (some false)
def bG.j0:Nat→Bool→Int→Int→Int→Int→Int→List (S28)→List (S70)→List (S70)→Option (Bool)
 |0,_,_,_,_,_,_,_,_,_=>none
 |k + 1,x12,x251000,x251001,x251002,x251003,x251004,x251005,x251006,x251007=>if x12=true then (some false) else (if x251000=1 then ((bX.f x251000 x251001 x251002 x251003 x251004 x251005 x251006 x251007 true).bind fun t251=>(if t251=true then ((dG.f x251000 x251001 x251002 x251003 x251004 x251005 x251006 x251007 false).bind fun t252=>(if t252=true then ((bM.f k x251003 x251004 x251005).bind fun t253=>(some t253)) else (some false))) else (some false))) else (if x251000=4 then ((bX.f x251000 x251001 x251002 x251003 x251004 x251005 x251006 x251007 false).bind fun t254=>(if t254=true then ((dG.f x251000 x251001 x251002 x251003 x251004 x251005 x251006 x251007 true).bind fun t255=>(if t255=true then ((bM.f k x251003 x251004 x251005).bind fun t256=>(some t256)) else (some false))) else (some false))) else (if x251000=5 then ((bX.f x251000 x251001 x251002 x251003 x251004 x251005 x251006 x251007 true).bind fun t257=>(if t257=true then ((dG.f x251000 x251001 x251002 x251003 x251004 x251005 x251006 x251007 true).bind fun t258=>(if t258=true then ((gI.f x251003 x251004 x251005).bind fun t259=>(some t259)) else (some false))) else (some false))) else (if x251000=6 then ((bX.f x251000 x251001 x251002 x251003 x251004 x251005 x251006 x251007 false).bind fun t260=>(if t260=true then ((dG.f x251000 x251001 x251002 x251003 x251004 x251005 x251006 x251007 false).bind fun t261=>(if t261=true then ((gI.f x251003 x251004 x251005).bind fun t262=>(some t262)) else (some false))) else (some false))) else (if x251000=7 then ((bX.f x251000 x251001 x251002 x251003 x251004 x251005 x251006 x251007 false).bind fun t263=>(if t263=true then ((dG.f x251000 x251001 x251002 x251003 x251004 x251005 x251006 x251007 false).bind fun t264=>(if t264=true then ((bM.f k x251003 x251004 x251005).bind fun t265=>(some t265)) else (some false))) else (some false))) else (some false))))))
def bG.f (k:Nat) (a0_0:Int) (a0_1:Int) (a0_2:Int) (a0_3:Int) (a0_4:Int) (l0_5:List (S28)) (l0_6:List (S70)) (l0_7:List (S70)):Option (Bool):=if (l0_6.length:Int) > 0 then (bG.j0 k true a0_0 a0_1 a0_2 a0_3 a0_4 l0_5 l0_6 l0_7) else (bG.j0 k (decide ((l0_7.length:Int) > 0)) a0_0 a0_1 a0_2 a0_3 a0_4 l0_5 l0_6 l0_7)
mutual
def aY.j0:Nat→Int→Bool→Int→Int→Int→Int→Int→List (S28)→List (S70)→List (S70)→Option (Bool)
 |0,_,_,_,_,_,_,_,_,_,_=>none
 |k + 1,x1,x12,x267000,x267001,x267002,x267003,x267004,x267005,x267006,x267007=>if x12=true then ((bG.f k x267000 x267001 x267002 x267003 x267004 x267005 x267006 x267007).bind fun t267=>(some t267)) else (if x1 < 1 then (aY.j1 k x1 true x267000 x267001 x267002 x267003 x267004 x267005 x267006 x267007) else (if x267000=3 then (aY.j1 k x1 (decide ((x267007.length:Int) > 0)) x267000 x267001 x267002 x267003 x267004 x267005 x267006 x267007) else (aY.j1 k x1 false x267000 x267001 x267002 x267003 x267004 x267005 x267006 x267007)))
def aY.j1:Nat→Int→Bool→Int→Int→Int→Int→Int→List (S28)→List (S70)→List (S70)→Option (Bool)
 |0,_,_,_,_,_,_,_,_,_,_=>none
 |k + 1,x1,x27,x267000,x267001,x267002,x267003,x267004,x267005,x267006,x267007=>if x27=true then (some false) else ((bX.f x267000 x267001 x267002 x267003 x267004 x267005 x267006 x267007 false).bind fun t268=>(if t268=true then ((dG.f x267000 x267001 x267002 x267003 x267004 x267005 x267006 x267007 false).bind fun t269=>(if t269=true then ((bM.f k x267003 x267004 x267005).bind fun t270=>(if t270=true then ((aU.f k x267006 (wrap64 (x1 - 1))).bind fun t271=>(if t271=true then ((aU.f k x267007 (wrap64 (x1 - 1))).bind fun t272=>(some t272)) else (some false))) else (some false))) else (some false))) else (some false)))
def aY.f:Nat→Int→Int→Int→Int→Int→List (S28)→List (S70)→List (S70)→Int→Option (Bool)
 |0,_,_,_,_,_,_,_,_,_=>none
 |k + 1,a0_0,a0_1,a0_2,a0_3,a0_4,l0_5,l0_6,l0_7,a1=>if a0_0=2 then (aY.j0 k a1 false a0_0 a0_1 a0_2 a0_3 a0_4 l0_5 l0_6 l0_7) else (aY.j0 k a1 (a0_0 != 3) a0_0 a0_1 a0_2 a0_3 a0_4 l0_5 l0_6 l0_7)
def aU.l0:Nat→List (S70)→Int→Int→Option (Bool)
 |0,_,_,_=>none
 |k + 1,x0,x1,x5=>if x5 < (x0.length:Int) then (if 0≤x5 then ((aY.f k ((aC x0 x5).f0) ((aC x0 x5).f1) ((aC x0 x5).f2) ((aC x0 x5).f3.f0) ((aC x0 x5).f3.f1) ((aC x0 x5).f3.f2) ((aC x0 x5).f4) ((aC x0 x5).f5) x1).bind fun t274=>(if t274=true then (aU.l0 k x0 x1 (wrap64 (x5 + 1))) else (some false))) else (none)) else (some true)
def aU.f:Nat→List (S70)→Int→Option (Bool)
 |0,_,_=>none
 |k + 1,l0,a1=>aU.l0 k l0 a1 0
end
mutual
def aV.l0:Nat→List (S70)→Int→Int→Option (Int)
 |0,_,_,_=>none
 |k + 1,x0,x3,x4=>if x4 < (x0.length:Int) then (if 0≤x4 then ((aV.f k ((aC x0 x4).f4)).bind fun t276=>((aV.f k ((aC x0 x4).f5)).bind fun t278=>(aV.l0 k x0 (wrap64 ((wrap64 ((wrap64 (x3 + 1)) + t276)) + t278)) (wrap64 (x4 + 1))))) else (none)) else (some x3)
def aV.f:Nat→List (S70)→Option (Int)
 |0,_=>none
 |k + 1,l0=>aV.l0 k l0 0 0
end
def dO.f (k:Nat) (l0:List (S70)):Option (Bool):=(aU.f k l0 3).bind fun t279=>(if t279=true then ((aV.f k l0).bind fun t280=>(some (decide (t280≤16)))) else (some false))
def xR (x:S70) (op n:Int) (a:List S28) (b l:List S70):List S70:=if (x.f0 == 2 && (op == 0 && n != 0))=true then b else if (x.f0 == 2 && op == 0)=true then l else if (x.f0 == 3 && (op == 0 && n == 0))=true then [] else [⟨x.f0,x.f1,x.f2,⟨op,n,a⟩,b,l⟩]
mutual
def aJ.l0:Nat→List S70→List S70→Int→Option (List S70)
 |0,_,_,_=>none
 |k + 1,l0,x3,x4=>if x4 < (l0.length:Int) then (if 0≤x4 then ((dI.f k (aC l0 x4)).bind fun y=>if x3.length + y.length < 1256584717458 then aJ.l0 k l0 (x3 ++ y) (wrap64 (x4 + 1)) else none) else none) else some x3
def aJ.f:Nat→List S70→Option (List S70)
 |0,_=>none
 |k + 1,l0=>aJ.l0 k l0 [] 0
def dI.f:Nat→S70→Option (List S70)
 |0,_=>none
 |k + 1,x=>(bK.f k x.f3.f0 x.f3.f1 x.f3.f2).bind fun e=>(aJ.f k x.f4).bind fun b=>(aJ.f k x.f5).bind fun l=>some (xR x e.1 e.2.1 e.2.2 b l)
end
def dW.f (k:Nat) (l0:List (S70)):Option ((List (S70)) × Bool):=(dO.f k l0).bind fun t281=>(if t281=true then ((aJ.f k l0).bind fun t282=>(some (t282,true))) else (some ((([]:List (S70))),false)))
mutual
def bJ.l0:Nat→List S66→List S70→Int→Option (List S70)
 |0,_,_,_=>none
 |k + 1,x0,x3,x4=>if x4 < (x0.length:Int) then (if 0≤x4 then ((eX.f k (bW x0 x4)).bind fun s=>(if x4 < (x3.length:Int) then bJ.l0 k x0 (x3.set (x4:Int).toNat s) (wrap64 (x4 + 1)) else none)) else none) else some x3
def bJ.f:Nat→List S66→Option (List S70)
 |0,_=>none
 |k + 1,l0=>if l0.length≤2513169434916 then bJ.l0 k l0 (List.replicate l0.length z70) 0 else none
def eX.f:Nat→S66→Option S70
 |0,_=>none
 |k + 1,s=>(dP.f k s.f3.f0 s.f3.f1 s.f3.f2).bind fun e=>(bJ.f k s.f4).bind fun b=>(bJ.f k s.f5).bind fun c=>some ⟨s.f0,s.f1,s.f2,⟨e.1,e.2.1,e.2.2⟩,b,c⟩
end
def inr (n limit:Int) (needed:Bool):Bool:=(n == 0) || (needed && (decide (n > 0) && decide (n < limit)))
def gD (k:Nat) (nv nb ne nd no:Bool) (va bx op n:Int) (la:List S28) (lb le:Nat) (boxes:Int):Option Bool:=
  if inr va 4 nv=true then (if inr bx boxes nb=true then (if nb=true∧boxes≤bx then some false else
    (if ne=true then ((dV.f k op n la).bind fun t=>if t=true then some ((nd || lb == 0) && (no || le == 0)) else some false)
     else (if op=0 then (if n=0 then (if 0 < (la.length:Int) then some false else some ((nd || lb == 0) && (no || le == 0))) else some false) else some false))) else some false) else some false
def bT.f (k:Nat) (kd va bx op n:Int) (la:List S28) (lb le:Nat) (boxes:Int):Option Bool:=
 if kd=1 then gD k true false true false false va bx op n la lb le boxes
 else if kd=2 then gD k false false true true true va bx op n la lb le boxes
 else if kd=3 then gD k false false true true false va bx op n la lb le boxes
 else if kd=4 then gD k false true true false false va bx op n la lb le boxes
 else if kd=5 then gD k true true false false false va bx op n la lb le boxes
 else if kd=7 then gD k false false true false false va bx op n la lb le boxes
 else if kd=6 then gD k false false false false false va bx op n la lb le boxes
 else some false
mutual
def aZ.f:Nat→List S70→Int→Int→Int→Option (Bool × Int)
 |0,_,_,_,_=>none
 |k + 1,l,boxes,blocks,cnt=>if 16 < wrap64 (cnt + (l.length:Int)) then some (false,wrap64 (cnt + (l.length:Int))) else aZ.l0 k l boxes blocks 0 (wrap64 (cnt + (l.length:Int)))
def aZ.l0:Nat→List S70→Int→Int→Int→Int→Option (Bool × Int)
 |0,_,_,_,_,_=>none
 | k + 1,l,boxes,blocks,i,cnt=>if i < (l.length:Int) then (if 0≤i then
   ((bT.f k (aC l i).f0 (aC l i).f1 (aC l i).f2 (aC l i).f3.f0 (aC l i).f3.f1 (aC l i).f3.f2 (aC l i).f4.length (aC l i).f5.length boxes).bind fun t=>
    if t=true then (if 3 < blocks then some (false,cnt) else
     (if (aC l i).f0=2∨(aC l i).f0=3 then (if 3≤blocks then some (false,cnt) else
      ((aZ.f k (aC l i).f4 boxes (wrap64 (blocks + 1)) cnt).bind fun p=>if p.1=true then
       ((aZ.f k (aC l i).f5 boxes (wrap64 (blocks + 1)) p.2).bind fun q=>if q.1=true then aZ.l0 k l boxes blocks (wrap64 (i + 1)) q.2 else some (false,q.2)) else some (false,p.2)))
     else aZ.l0 k l boxes blocks (wrap64 (i + 1)) cnt)) else some (false,cnt)) else none) else some (true,cnt)
end
def dN.f (k:Nat) (l0:List (S70)) (a1:Int):Option Bool:=(aZ.f k l0 a1 0 0).bind fun p=>some p.1
def eF.f (k:Nat) (l0:List (S70)):Option (Bool):=(dN.f k l0 3).bind fun t288=>(some t288)
mutual
def aI.l0:Nat→List (S70)→List (S70)→Int→Int→Option ((List (S70)))
 |0,_,_,_,_=>none
 |k + 1,x3,l,n,i=>if i < n then (if 0≤i then (if i < (l.length:Int) then ((aI.f k ((aC l i).f4)).bind fun yb=>((aI.f k ((aC l i).f5)).bind fun ye=>((aX.f k ((aC l i).f3.f0) ((aC l i).f3.f1) ((aC l i).f3.f2)).bind fun x=>(if ((aC l i).f0)=2 then (if x.1=0 then (aI.j1 k x3 (x.1 == 0) l n i (x.2.1 != 0) ((aC l i).f0) ((aC l i).f1) ((aC l i).f2) x.1 x.2.1 x.2.2 yb ye) else (aI.j1 k x3 (x.1 == 0) l n i false ((aC l i).f0) ((aC l i).f1) ((aC l i).f2) x.1 x.2.1 x.2.2 yb ye)) else (aI.j1 k x3 (x.1 == 0) l n i false ((aC l i).f0) ((aC l i).f1) ((aC l i).f2) x.1 x.2.1 x.2.2 yb ye))))) else (none)) else (none)) else (some x3)
def aI.j1:Nat→List (S70)→Bool→List (S70)→Int→Int→Bool→Int→Int→Int→Int→Int→List (S28)→List (S70)→List (S70)→Option ((List (S70)))
 |0,_,_,_,_,_,_,_,_,_,_,_,_,_,_=>none
 |k + 1,x3,x6,l,n,i,x33,f0,f1,f2,x0,x1,x2,yb,ye=>if x33=true then (if x3.length + yb.length < 1256584717458 then (aI.l0 k (x3 ++ yb) l n (wrap64 (i + 1))) else (none)) else (if f0=2 then (aI.j2 k x3 x6 l n i x6 f0 f1 f2 x0 x1 x2 yb ye) else (aI.j2 k x3 x6 l n i false f0 f1 f2 x0 x1 x2 yb ye))
def aI.j2:Nat→List (S70)→Bool→List (S70)→Int→Int→Bool→Int→Int→Int→Int→Int→List (S28)→List (S70)→List (S70)→Option ((List (S70)))
 |0,_,_,_,_,_,_,_,_,_,_,_,_,_,_=>none
 |k + 1,x3,x6,l,n,i,x50,f0,f1,f2,x0,x1,x2,yb,ye=>if x50=true then (if x3.length + ye.length < 1256584717458 then (aI.l0 k (x3 ++ ye) l n (wrap64 (i + 1))) else (none)) else (if f0=3 then (if x6=true then (if x1=0 then (aI.l0 k x3 l n (wrap64 (i + 1))) else (if x3.length < 1256584717458 then (aI.l0 k (x3 ++ [(⟨f0,f1,f2,(⟨x0,x1,x2⟩:S28),yb,ye⟩:S70)]) l n (wrap64 (i + 1))) else (none))) else (if x3.length < 1256584717458 then (aI.l0 k (x3 ++ [(⟨f0,f1,f2,(⟨x0,x1,x2⟩:S28),yb,ye⟩:S70)]) l n (wrap64 (i + 1))) else (none))) else (if x3.length < 1256584717458 then (aI.l0 k (x3 ++ [(⟨f0,f1,f2,(⟨x0,x1,x2⟩:S28),yb,ye⟩:S70)]) l n (wrap64 (i + 1))) else (none)))
def aI.f:Nat→List (S70)→Option ((List (S70)))
 |0,_=>none
 |k + 1,l=>aI.l0 k ([]:List (S70)) l (l.length:Int) 0
end
def eU.f (k:Nat) (l0:List (S70)):Option ((List (S70)) × Bool):=(eF.f k l0).bind fun t289=>(if t289=true then ((aI.f k l0).bind fun t290=>(some (t290,true))) else (some (([]:List (S70)),false)))
mutual
def bU.f:Nat→Int→Int→Int→Int→Int→List (S28)→List (S70)→List (S70)→Int→Int→Int→Int→Int→List (S28)→List (S70)→List (S70)→Option (Bool)
 |0,_,_,_,_,_,_,_,_,_,_,_,_,_,_,_,_=>none
 |k + 1,a0_0,a0_1,a0_2,a0_3,a0_4,l0_5,l0_6,l0_7,a1_0,a1_1,a1_2,a1_3,a1_4,l1_5,l1_6,l1_7=>if a0_0=a1_0 then (if a0_1=a1_1 then (if a0_2=a1_2 then ((bN.f k a0_3 a0_4 l0_5 a1_3 a1_4 l1_5).bind fun t295=>(if t295=true then ((aO.f k l0_6 l1_6).bind fun t296=>(if t296=true then ((aO.f k l0_7 l1_7).bind fun t297=>(if t297=true then (some true) else (some false))) else (some false))) else (some false))) else (some false)) else (some false)) else (some false)
def aO.l0:Nat→List (S70)→List (S70)→Int→Option (Bool)
 |0,_,_,_=>none
 |k + 1,x0,x1,x5=>if x5 < (x0.length:Int) then (if 0≤x5 then (if x5 < (x1.length:Int) then ((bU.f k ((aC x0 x5).f0) ((aC x0 x5).f1) ((aC x0 x5).f2) ((aC x0 x5).f3.f0) ((aC x0 x5).f3.f1) ((aC x0 x5).f3.f2) ((aC x0 x5).f4) ((aC x0 x5).f5) ((aC x1 x5).f0) ((aC x1 x5).f1) ((aC x1 x5).f2) ((aC x1 x5).f3.f0) ((aC x1 x5).f3.f1) ((aC x1 x5).f3.f2) ((aC x1 x5).f4) ((aC x1 x5).f5)).bind fun t300=>(if t300=true then (aO.l0 k x0 x1 (wrap64 (x5 + 1))) else (some false))) else (none)) else (none)) else (some true)
def aO.f:Nat→List (S70)→List (S70)→Option (Bool)
 |0,_,_=>none
 |k + 1,l0,l1=>if (l0.length:Int)=(l1.length:Int) then (aO.l0 k l0 l1 0) else (some false)
end
mutual
def bH.l0:Nat→List S70→Int→Int→Option (Int × List S70)
 |0,_,_,_=>none
 |k + 1,xs,n,i=>if i < (xs.length:Int) then (if 0≤i then ((bE.f k (aC xs i).f3.f2 (wrap64 ((wrap64 ((wrap64 ((wrap64 ((wrap64 (n + 1)) + 1)) + 1)) + 1)) + 1))).bind fun t=>(bH.f k (aC xs i).f4 t.1).bind fun u=>(bH.f k (aC xs i).f5 u.1).bind fun v=>bH.l0 k (xs.set i.toNat ⟨n,(wrap64 (n + 1)),(wrap64 ((wrap64 (n + 1)) + 1)),⟨(wrap64 ((wrap64 ((wrap64 (n + 1)) + 1)) + 1)),(wrap64 ((wrap64 ((wrap64 ((wrap64 (n + 1)) + 1)) + 1)) + 1)),t.2⟩,u.2,v.2⟩) v.1 (wrap64 (i + 1))) else none) else some (n,xs)
def bH.f:Nat→List S70→Int→Option (Int × List S70)
 |0,_,_=>none
 |k + 1,xs,n=>bH.l0 k xs n 0
end
mutual
def bA.l0:Nat→List (S70)→Int→Int→Option (Int)
 |0,_,_,_=>none
 |k + 1,x0,x1,x5=>if x5 < (x0.length:Int) then (if 0≤x5 then (if ((aC x0 x5).f0)=x1 then (if ((aC x0 x5).f1)=(wrap64 (x1 + 1)) then (if ((aC x0 x5).f2)=(wrap64 ((wrap64 (x1 + 1)) + 1)) then (if ((aC x0 x5).f3.f0)=(wrap64 ((wrap64 ((wrap64 (x1 + 1)) + 1)) + 1)) then (if ((aC x0 x5).f3.f1)=(wrap64 ((wrap64 ((wrap64 ((wrap64 (x1 + 1)) + 1)) + 1)) + 1)) then ((aT.f k ((aC x0 x5).f3.f2) (wrap64 ((wrap64 ((wrap64 ((wrap64 ((wrap64 (x1 + 1)) + 1)) + 1)) + 1)) + 1))).bind fun t307=>(if t307 < 0 then (some (-1)) else ((bA.f k ((aC x0 x5).f4) t307).bind fun t309=>(if t309 < 0 then (some (-1)) else ((bA.f k ((aC x0 x5).f5) t309).bind fun t311=>(if t311 < 0 then (some (-1)) else (bA.l0 k x0 t311 (wrap64 (x5 + 1))))))))) else (some (-1))) else (some (-1))) else (some (-1))) else (some (-1))) else (some (-1))) else (none)) else (some x1)
def bA.f:Nat→List (S70)→Int→Option (Int)
 |0,_,_=>none
 |k + 1,l0,a1=>bA.l0 k l0 a1 0
end
def dX.f (k:Nat) (l:List S66):Option Bool:=(bC.f k l 1048576).bind fun left=>if left < 0 then some true else
 (bJ.f k l).bind fun x=>(dW.f k x).bind fun w=>(eU.f k x).bind fun g=>
 (aO.f k g.1 w.1).bind fun e1=>if e1=false then none else if g.2≠w.2 then none else
 (aO.f k x x).bind fun e2=>if e2=false then none else
 (bH.f k x 1).bind fun m1=>if m1.1 < 0 then none else
 (bH.f k g.1 1).bind fun m=>(bA.f k m.2 1).bind fun q=>if q < 0 then none else if q≠m.1 then none else some true
def BX.f (l0:List Int) (a1:Int):Option (Int):=if (wrap64 (a1 - (l0.length:Int))) < 0 then (some (-1)) else (some (wrap64 (a1 - (l0.length:Int))))
def lD.l0:Nat→List (List (S66))→Int→Int→Option (Int)
 |0,_,_,_=>none
 |k + 1,x0,x1,x5=>if x5 < (x0.length:Int) then (if 0≤x5 then ((bC.f k (ND x0 x5) x1).bind fun t313=>(if t313 < 0 then (some (-1)) else (lD.l0 k x0 t313 (wrap64 (x5 + 1))))) else (none)) else (some x1)
def lD.f (k:Nat) (l0:List (List (S66))) (a1:Int):Option (Int):=if (wrap64 (a1 - (l0.length:Int))) < 0 then (some (-1)) else (lD.l0 k l0 (wrap64 (a1 - (l0.length:Int))) 0)
def wI.f (k:Nat) (l0_0:List Int) (l0_1:List (List (S66))) (a1:Int):Option (Int):=(BX.f l0_0 a1).bind fun t315=>(if t315 < 0 then (some (-1)) else ((lD.f k l0_1 t315).bind fun t316=>(if t316 < 0 then (some (-1)) else (some t316))))
def lH.l0:Nat→List Int→Int→Option (Bool)
 |0,_,_=>none
 |k + 1,x0,x3=>if x3 < (x0.length:Int) then (if 0≤x3 then ((dL.f (rd x0 x3) 1 4).bind fun t318=>(if t318=true then (lH.l0 k x0 (wrap64 (x3 + 1))) else (some false))) else (none)) else (some (decide ((x0.length:Int)≤3)))
def lH.f (k:Nat) (l0:List Int):Option (Bool):=lH.l0 k l0 0
mutual
def fH.l0:Nat→List (S70)→Int→Int→Option (Bool)
 |0,_,_,_=>none
 |k + 1,x0,x1,x5=>if x5 < (x0.length:Int) then (if 0≤x5 then (if ((aC x0 x5).f0)=4 then (fH.j1 k x0 x1 x5 (decide (((aC x0 x5).f2)≥x1)) ((aC x0 x5).f0) ((aC x0 x5).f1) ((aC x0 x5).f2) ((aC x0 x5).f3.f0) ((aC x0 x5).f3.f1) ((aC x0 x5).f3.f2) ((aC x0 x5).f4) ((aC x0 x5).f5)) else (if ((aC x0 x5).f0)=5 then (fH.j1 k x0 x1 x5 (decide (((aC x0 x5).f2)≥x1)) ((aC x0 x5).f0) ((aC x0 x5).f1) ((aC x0 x5).f2) ((aC x0 x5).f3.f0) ((aC x0 x5).f3.f1) ((aC x0 x5).f3.f2) ((aC x0 x5).f4) ((aC x0 x5).f5)) else (fH.j1 k x0 x1 x5 false ((aC x0 x5).f0) ((aC x0 x5).f1) ((aC x0 x5).f2) ((aC x0 x5).f3.f0) ((aC x0 x5).f3.f1) ((aC x0 x5).f3.f2) ((aC x0 x5).f4) ((aC x0 x5).f5)))) else (none)) else (some true)
def fH.j1:Nat→List (S70)→Int→Int→Bool→Int→Int→Int→Int→Int→List (S28)→List (S70)→List (S70)→Option (Bool)
 |0,_,_,_,_,_,_,_,_,_,_,_,_=>none
 |k + 1,x0,x1,x5,x30,x321000,x321001,x321002,x321003,x321004,x321005,x321006,x321007=>if x30=true then (some false) else ((fH.f k x321006 x1).bind fun t321=>(if t321=true then ((fH.f k x321007 x1).bind fun t322=>(if t322=true then (fH.l0 k x0 x1 (wrap64 (x5 + 1))) else (some false))) else (some false)))
def fH.f:Nat→List (S70)→Int→Option (Bool)
 |0,_,_=>none
 |k + 1,l0,a1=>fH.l0 k l0 a1 0
end
mutual
def fO.j0:Nat→Bool→List Int→List (List (S70))→Option (Bool)
 |0,_,_,_=>none
 |k + 1,x14,x324000,x324001=>if x14=true then (some false) else (fO.l0 k 0 x324000 x324001)
def fO.l0:Nat→Int→List Int→List (List (S70))→Option (Bool)
 |0,_,_,_=>none
 |k + 1,x3,x324000,x324001=>if x3 < (x324001.length:Int) then (if 0≤x3 then ((dO.f k (tN x324001 x3)).bind fun t327=>(if t327=true then ((fH.f k (tN x324001 x3) (x324000.length:Int)).bind fun t329=>(if t329=true then (fO.l0 k (wrap64 (x3 + 1)) x324000 x324001) else (some false))) else (some false))) else (none)) else (some true)
end
def fO.f (k:Nat) (l0_0:List Int) (l0_1:List (List (S70))):Option (Bool):=(lH.f k l0_0).bind fun t324=>(if t324=true then ((dL.f (l0_1.length:Int) 1 3).bind fun t325=>(fO.j0 k (!t325) l0_0 l0_1)) else (fO.j0 k true l0_0 l0_1))
def iR.l0:Nat→Int→List Int→List (List (S70))→List Int→List (List (S70))→Option (List Int × (List (List (S70))) × Bool)
 |0,_,_,_,_,_=>none
 |k + 1,x5,x331000,x331001,x343000,x343001=>if x5 < (x331001.length:Int) then (if 0≤x5 then ((aJ.f k (tN x331001 x5)).bind fun t344=>(if x343001.length < 5864062014805 then (iR.l0 k (wrap64 (x5 + 1)) x331000 x331001 x343000 (x343001 ++ [t344])) else (none))) else (none)) else (some (x343000,x343001,true))
def iR.f (k:Nat) (l0_0:List Int) (l0_1:List (List (S70))):Option (List Int × (List (List (S70))) × Bool):=(fO.f k l0_0 l0_1).bind fun t332=>(if t332=true then ((some (([]:List Int):List Int)).bind fun y333=>(if y333.length + l0_0.length < 17592186044416 then (iR.l0 k 0 l0_0 l0_1 (y333 ++ l0_0) (([]:List (List (S70))))) else (none))) else (some (([]:List Int),([]:List (List (S70))),false)))
def nC.l0:Nat→List Int→List Int→Int→Option (List Int)
 |0,_,_,_=>none
 |k + 1,x0,x3,x4=>if x4 < (x0.length:Int) then (if 0≤x4 then (if x4 < (x3.length:Int) then (nC.l0 k x0 (x3.set (x4:Int).toNat (rd x0 x4)) (wrap64 (x4 + 1))) else (none)) else (none)) else (some x3)
def nC.f (k:Nat) (l0:List Int):Option (List Int):=if 0≤(l0.length:Int) then (if ((l0.length:Int):Int).toNat≤35184372088832 then (nC.l0 k l0 (List.replicate ((l0.length:Int):Int).toNat 0) 0) else (none)) else (none)
def lF.l0:Nat→List (List (S66))→List (List (S70))→Int→Option ((List (List (S70))))
 |0,_,_,_=>none
 |k + 1,x0,x3,x4=>if x4 < (x0.length:Int) then (if 0≤x4 then ((bJ.f k (ND x0 x4)).bind fun t359=>(if x4 < (x3.length:Int) then (lF.l0 k x0 (x3.set (x4:Int).toNat t359) (wrap64 (x4 + 1))) else (none))) else (none)) else (some x3)
def lF.f (k:Nat) (l0:List (List (S66))):Option ((List (List (S70)))):=if 0≤(l0.length:Int) then (if ((l0.length:Int):Int).toNat≤11728124029610 then (lF.l0 k l0 (List.replicate ((l0.length:Int):Int).toNat []) 0) else (none)) else (none)
def wJ.f (k:Nat) (l0_0:List Int) (l0_1:List (List (S66))):Option (List Int × (List (List (S70)))):=(nC.f k l0_0).bind fun t366=>((lF.f k l0_1).bind fun t369=>(some (t366,t369)))
def iY.l0:Nat→List Int→List Int→Int→Int→Option (Bool)
 |0,_,_,_,_=>none
 |k + 1,x0,x5,x6,x7=>if x7 < x6 then (if 0≤x7 then (if x7 < (x5.length:Int) then (if (rd x5 x7) < 1 then (some false) else (if (rd x5 x7) > 4 then (some false) else (iY.l0 k x0 x5 x6 (wrap64 (x7 + 1))))) else (none)) else (none)) else (some (decide ((x0.length:Int)≤3)))
def iY.f (k:Nat) (l0:List Int):Option (Bool):=iY.l0 k l0 l0 (l0.length:Int) 0
mutual
def eZ.j0:Nat→Bool→List Int→List (List (S70))→Option (Bool)
 |0,_,_,_=>none
 |k + 1,x20,x374000,x374001=>if x20=true then (some false) else (eZ.l0 k x374001 (x374001.length:Int) 0 x374000 x374001)
def eZ.l0:Nat→List (List (S70))→Int→Int→List Int→List (List (S70))→Option (Bool)
 |0,_,_,_,_,_=>none
 |k + 1,x22,x23,x24,x374000,x374001=>if x24 < x23 then (if 0≤x24 then (if x24 < (x22.length:Int) then ((dN.f k (tN x22 x24) (x374000.length:Int)).bind fun t376=>(if t376=true then (eZ.l0 k x22 x23 (wrap64 (x24 + 1)) x374000 x374001) else (some false))) else (none)) else (none)) else (some true)
end
def eZ.f (k:Nat) (l0_0:List Int) (l0_1:List (List (S70))):Option (Bool):=(iY.f k l0_0).bind fun t374=>(if t374=true then (if (l0_1.length:Int) < 1 then (eZ.j0 k true l0_0 l0_1) else (eZ.j0 k (decide ((l0_1.length:Int) > 3)) l0_0 l0_1)) else (eZ.j0 k true l0_0 l0_1))
def pF.f (l0:List Int):Option (List Int):=(some (([]:List Int):List Int)).bind fun y377=>(if y377.length + l0.length < 17592186044416 then (some (y377 ++ l0)) else (none))
def iP.l0:Nat→List (List (S70))→Int→Int→List Int→List (List (S70))→Option (List Int × (List (List (S70))) × Bool)
 |0,_,_,_,_,_=>none
 |k + 1,x16,x17,x18,x390000,x390001=>if x18 < x17 then (if 0≤x18 then (if x18 < (x16.length:Int) then ((aI.f k (tN x16 x18)).bind fun t391=>(if x390001.length < 5864062014805 then (iP.l0 k x16 x17 (wrap64 (x18 + 1)) x390000 (x390001 ++ [t391])) else (none))) else (none)) else (none)) else (some (x390000,x390001,true))
def iP.f (k:Nat) (l0_0:List Int) (l0_1:List (List (S70))):Option (List Int × (List (List (S70))) × Bool):=(eZ.f k l0_0 l0_1).bind fun t385=>(if t385=true then ((pF.f l0_0).bind fun t386=>(iP.l0 k l0_1 (l0_1.length:Int) 0 t386 ([]:List (List (S70))))) else (some (([]:List Int),([]:List (List (S70))),false)))
def nA.l0:Nat→List Int→List Int→Int→Option (Bool)
 |0,_,_,_=>none
 |k + 1,x0,x1,x5=>if x5 < (x0.length:Int) then (if 0≤x5 then (if x5 < (x1.length:Int) then (if (rd x0 x5)=(rd x1 x5) then (nA.l0 k x0 x1 (wrap64 (x5 + 1))) else (some false)) else (none)) else (none)) else (some true)
def nA.f (k:Nat) (l0:List Int) (l1:List Int):Option (Bool):=if (l0.length:Int)=(l1.length:Int) then (nA.l0 k l0 l1 0) else (some false)
def kX.l0:Nat→List (List (S70))→List (List (S70))→Int→Option (Bool)
 |0,_,_,_=>none
 |k + 1,x0,x1,x5=>if x5 < (x0.length:Int) then (if 0≤x5 then (if x5 < (x1.length:Int) then ((aO.f k (tN x0 x5) (tN x1 x5)).bind fun t401=>(if t401=true then (kX.l0 k x0 x1 (wrap64 (x5 + 1))) else (some false))) else (none)) else (none)) else (some true)
def kX.f (k:Nat) (l0:List (List (S70))) (l1:List (List (S70))):Option (Bool):=if (l0.length:Int)=(l1.length:Int) then (kX.l0 k l0 l1 0) else (some false)
def oW.f (k:Nat) (l0_0:List Int) (l0_1:List (List (S70))) (l1_0:List Int) (l1_1:List (List (S70))):Option (Bool):=(nA.f k l0_0 l1_0).bind fun t404=>(if t404=true then ((kX.f k l0_1 l1_1).bind fun t405=>(if t405=true then (some true) else (some false))) else (some false))
def lC.l0:Nat→List Int→Int→Int→Option (Int × List Int)
 |0,_,_,_=>none
 |k + 1,x0,x1,x5=>if x5 < (x0.length:Int) then (if 0≤x5 then (lC.l0 k (x0.set (x5:Int).toNat x1) (wrap64 (x1 + 1)) (wrap64 (x5 + 1))) else (none)) else (some (x1,x0))
def lC.f (k:Nat) (l0:List Int) (a1:Int):Option (Int × List Int):=lC.l0 k l0 a1 0
def kC.l0:Nat→List (List S70)→Int→Int→Option (Int × List (List S70))
 |0,_,_,_=>none
 |k + 1,xs,n,i=>if i < (xs.length:Int) then (if 0≤i then ((bH.f k (tN xs i) n).bind fun t=>kC.l0 k (xs.set i.toNat t.2) t.1 (wrap64 (i + 1))) else none) else some (n,xs)
def kC.f (k:Nat) (xs:List (List S70)) (n:Int):Option (Int × List (List S70)):=kC.l0 k xs n 0
def nP.f (k:Nat) (a:List Int) (b:List (List S70)) (n:Int):Option (Int × List Int × List (List S70)):=(lC.f k a n).bind fun t=>(kC.f k b t.1).bind fun u=>some (u.1,t.2,u.2)
def kY.l0:Nat→List Int→Int→Int→Option (Int)
 |0,_,_,_=>none
 |k + 1,x0,x1,x5=>if x5 < (x0.length:Int) then (if 0≤x5 then (if (rd x0 x5)=x1 then (kY.l0 k x0 (wrap64 (x1 + 1)) (wrap64 (x5 + 1))) else (some (-1))) else (none)) else (some x1)
def kY.f (k:Nat) (l0:List Int) (a1:Int):Option (Int):=kY.l0 k l0 a1 0
def iZ.l0:Nat→List (List (S70))→Int→Int→Option (Int)
 |0,_,_,_=>none
 |k + 1,x0,x1,x5=>if x5 < (x0.length:Int) then (if 0≤x5 then ((bA.f k (tN x0 x5) x1).bind fun t409=>(if t409 < 0 then (some (-1)) else (iZ.l0 k x0 t409 (wrap64 (x5 + 1))))) else (none)) else (some x1)
def iZ.f (k:Nat) (l0:List (List (S70))) (a1:Int):Option (Int):=iZ.l0 k l0 a1 0
def uP.f (k:Nat) (l0_0:List Int) (l0_1:List (List (S70))) (a1:Int):Option (Int):=(kY.f k l0_0 a1).bind fun t411=>(if t411 < 0 then (some (-1)) else ((iZ.f k l0_1 t411).bind fun t412=>(if t412 < 0 then (some (-1)) else (some t412))))
def xM.f (k:Nat) (l0:List Int) (l1:List (List S66)):Option Bool:=(wI.f k l0 l1 1048576).bind fun left=>if left < 0 then some true else
 (wJ.f k l0 l1).bind fun x=>(iR.f k x.1 x.2).bind fun w=>(iP.f k x.1 x.2).bind fun g=>
 (oW.f k g.1 g.2.1 w.1 w.2.1).bind fun e1=>if e1=false then none else if g.2.2≠w.2.2 then none else
 (oW.f k x.1 x.2 x.1 x.2).bind fun e2=>if e2=false then none else
 (nP.f k x.1 x.2 1).bind fun m1=>if m1.1 < 0 then none else
 (nP.f k g.1 g.2.1 1).bind fun m=>(uP.f k m.2.1 m.2.2 1).bind fun q=>if q < 0 then none else if q≠m.1 then none else some true
end Go.Proofs.Ythiegfpcfedbgaa.PA

namespace Go.Proofs.Ythiegfpcfedbgaa.Open
open Go.ChangeShapes Go.WideShapes Go.RowKit Go.Proofs.YthiegfpcfedbgaaW.PrintWords
section
variable {H:Type} {enc:TypeId × Value→H} {P:Program} {w:World} {base:Nat} {spare:Nat→Bool} {held:Bool}
def Opn {α:Type} (enc:TypeId × Value→H) (P:Program) (w:World) (base:Nat) (spare:Nat→Bool) (held:Bool) (F:Nat) (t:TypeId) (d:Kd α) (G:α→Prop):Prop:=
 ∀ f,f≤F→∀ cs x,DataW.trod enc P w base spare held f t cs=some x→∃ a,d.K w a cs∧G a
theorem Opn.le {α:Type} {F F':Nat} {t:TypeId} {d:Kd α} {G:α→Prop} (h:Opn enc P w base spare held F t d G) (hf:F'≤F):Opn enc P w base spare held F' t d G:=
 fun f hl=>h f (Nat.le_trans hl hf)
theorem Opn.int {F:Nat} {t:TypeId} {k:IntKind} (hu:P.underlying t=some (.int k)):Opn enc P w base spare held F t (Kd.int k) (fun n=>(Lit.int k n).wf=true):=by
 intro f _ cs x h
 cases f with
 |zero=>simp [DataW.trod] at h
 |succ n=>
  obtain ⟨m,rfl,hw⟩:∃ m,cs=[.int k m]∧(Lit.int k m).wf=true:=by
   unfold DataW.trod at h
   rw [hu] at h
   split at h <;> simp_all
  exact ⟨m,rfl,hw⟩
theorem collect {α:Type} {Q:Nat→α→Prop}:∀ m,(∀ i,i < m→∃ a,Q i a)→∃ l:List α,l.length=m∧∀ i p,l[i]?=some p→Q i p
 |0,_=>⟨[],rfl,fun i p h=>by simp at h⟩
 |m + 1,h=>by
  obtain ⟨l,hl,hq⟩:=collect m (fun i hi=>h i (by omega))
  obtain ⟨a,ha⟩:=h m (by omega)
  refine ⟨l ++ [a],by simp [hl],fun i p hp=>?_⟩
  rcases Nat.lt_or_ge i l.length with hlt|hge
  ·rw [List.getElem?_append_left hlt] at hp
   exact hq i p hp
  ·rw [List.getElem?_append_right hge] at hp
   have hi:i - l.length=0:=by
    rcases Nat.eq_zero_or_pos (i - l.length) with h0|h0
    ·exact h0
    ·rw [List.getElem?_eq_none (by simp;omega)] at hp
     cases hp
   rw [hi] at hp
   simp at hp
   subst hp
   have:i=m:=by omega
   subst this
   exact ha
theorem Opn.slice {α:Type} {F:Nat} {t e:TypeId} {d:Kd α} {G:α→Prop} (hu:P.underlying t=some (.slice e)) (hc:P.cellsOf e=d.sz) (h:∀ F',F' < F→Opn enc P w base spare held F' e d G):
  Opn enc P w base spare held F t (Kd.slice e d) (fun l=>l.length≤maxLen∧∀ x ∈ l,G x):=by
 intro f hfF cs x hx
 rcases DataW.trod_slice hu hx with ⟨rfl,_⟩|⟨a,len,cap,elems,rest,n,rfl,rfl,_,_,hl,hm,hlen,hel,_,_⟩
 ·exact ⟨[],⟨none,0,rfl,Nat.le_refl _,rfl,by simp,fun hp=>absurd hp (Nat.lt_irrefl 0)⟩,by simp,fun x hx=>by simp at hx⟩
 ·obtain ⟨l,hll,hq⟩:=collect (Q:=fun i p=>(∃ c,c.length=d.sz∧d.K w p c∧∀ j u,c[j]?=some u→w.cell? (a.add (i * d.sz + j))=some u)∧G p) len (fun i hi=>by
   have h1:=hel i hi
   have h2:elems[i]?=some (elems[i]'(by omega)):=List.getElem?_eq_getElem (by omega)
   rw [h2] at h1
   obtain ⟨c,hc1,hc2⟩:=Option.bind_eq_some_iff.1 h1
   obtain ⟨p,hp,hg⟩:=h n (by omega) n (Nat.le_refl _) c _ hc2
   obtain ⟨_,hcl,hat⟩:=World.cells?_some hc1
   refine ⟨p,⟨c,d.K_len hp,hp,fun j u hj=>?_⟩,hg⟩
   have hjl:j < c.length:=(List.getElem?_eq_some_iff.1 hj).1
   have h3:=hat j (by omega)
   rw [hj] at h3
   rw [← hc,← Go.Deep.add_add]
   exact h3)
  have hml:maxLen=9223372036854775807:=rfl
  refine ⟨l,⟨some a,cap,by rw [hll],by omega,rfl,by omega,fun _=>⟨a,rfl,fun j p hj=>(hq j p hj).1⟩⟩,by omega,fun x hx=>?_⟩
  obtain ⟨i,hi,rfl⟩:=List.getElem_of_mem hx
  exact (hq i _ (List.getElem?_eq_getElem hi)).2
theorem field {α:Type} {n o s j:Nat} {t:TypeId} {fs:Array Field} {f:Field} {cs:List Value} {xs:List (DataW H × List MemPlace)} {d:Kd α} {G:α→Prop}
  (hg:∀ (i:Nat) (f:Field),fs[i]?=some f→DataW.trod enc P w base spare held n f.type ((cs.drop f.offset).take (P.cellsOf f.type))=xs[i]?) (hxl:xs.length=fs.size)
  (hj:fs[j]?=some f) (ho:f.offset=o) (hs:P.cellsOf f.type=s) (ht:f.type=t) (h:Opn enc P w base spare held n t d G):∃ a,d.K w a ((cs.drop o).take s)∧G a:=by
 have h1:=hg j f hj
 have hjl:j < fs.size:=(Array.getElem?_eq_some_iff.1 hj).1
 rw [List.getElem?_eq_getElem (by omega),ho,hs,ht] at h1
 exact h n (Nat.le_refl _) _ _ h1
theorem iH {o s o':Nat} {cs c0:List Value} (h:(cs.drop o).take s=c0) (ho:o + s=o'):cs.drop o=c0 ++ cs.drop o':=by
 rw [← h,← ho,← List.drop_drop,List.take_append_drop]
theorem xQ {o:Nat} {cs:List Value} (h:cs.length=o):cs.drop o=[]:=by rw [List.drop_eq_nil_iff];omega
end
end Go.Proofs.Ythiegfpcfedbgaa.Open

namespace Go.Proofs.Ythiegfpcfedbgaa.PA
open Go.RowKit Go.Proofs.YthiegfpcfedbgaaW.PrintWords Go.Proofs.Ythiegfpcfedbgaa.Open
set_option linter.unusedVariables false
inductive DN:S24→Prop
 |mk (x:S24) (h0:(Lit.int .i64 x.f0).wf=true) (h1:(Lit.int .i64 x.f1).wf=true) (h2:x.f2.length≤maxLen) (g2:∀ y ∈ x.f2,DN y):DN x
theorem OZ {H:Type} {enc:TypeId × Value→H} {w:World} {base:Nat} {spare:Nat→Bool} {held:Bool} (F:Nat):Opn enc Try.prog w base spare held F 24 k24 DN:=by
 induction F using Nat.strongRecOn with
 | _ F ih=>
 intro f hfF cs x h
 obtain ⟨xs,n,rfl,_,hcs,hxl,hg⟩:=DataW.trod_struct Try.underlying24 h
 replace hcs:cs.length=3:=hcs.trans (by kernel_rfl)
 obtain ⟨a0,K0,G0⟩:=field (j:=0) (o:=0) (s:=1) (t:=3) hg hxl rfl rfl (by kernel_rfl) rfl (Opn.int Try.underlying3)
 have E0:(cs.drop 0).take 1=[.int .i64 a0]:=K0
 obtain ⟨a1,K1,G1⟩:=field (j:=1) (o:=1) (s:=1) (t:=3) hg hxl rfl rfl (by kernel_rfl) rfl (Opn.int Try.underlying3)
 have E1:(cs.drop 1).take 1=[.int .i64 a1]:=K1
 obtain ⟨a2,K2,G2⟩:=field (j:=2) (o:=2) (s:=1) (t:=22) hg hxl rfl rfl (by kernel_rfl) rfl (Opn.slice Try.underlying22 (by kernel_rfl) (fun F' hF'=>(ih F' (by omega))))
 obtain ⟨A2,c2,E2,L2,C2⟩:=K2
 have e:cs=[.int .i64 a0, .int .i64 a1, .slice A2 a2.length c2]:=by
  rw [show cs=cs.drop 0 from rfl,(iH (o':=1) E0 rfl),(iH (o':=2) E1 rfl),(iH (o':=3) E2 rfl),xQ hcs]
  rfl
 subst e
 exact ⟨⟨a0,a1,a2⟩,KG w ⟨a0,a1,a2⟩ L2 C2,DN.mk _ G0 G1 G2.1 G2.2⟩
inductive yK:S66→Prop
 |mk (x:S66) (h0:(Lit.int .i64 x.f0).wf=true) (h1:(Lit.int .i64 x.f1).wf=true) (h2:(Lit.int .i64 x.f2).wf=true) (h3:DN x.f3) (h4:x.f4.length≤maxLen) (g4:∀ y ∈ x.f4,yK y) (h5:x.f5.length≤maxLen) (g5:∀ y ∈ x.f5,yK y):yK x
theorem PD {H:Type} {enc:TypeId × Value→H} {w:World} {base:Nat} {spare:Nat→Bool} {held:Bool} (F:Nat):Opn enc Try.prog w base spare held F 66 k66 yK:=by
 induction F using Nat.strongRecOn with
 | _ F ih=>
 intro f hfF cs x h
 obtain ⟨xs,n,rfl,_,hcs,hxl,hg⟩:=DataW.trod_struct Try.underlying66 h
 replace hcs:cs.length=8:=hcs.trans (by kernel_rfl)
 obtain ⟨a0,K0,G0⟩:=field (j:=0) (o:=0) (s:=1) (t:=3) hg hxl rfl rfl (by kernel_rfl) rfl (Opn.int Try.underlying3)
 have E0:(cs.drop 0).take 1=[.int .i64 a0]:=K0
 obtain ⟨a1,K1,G1⟩:=field (j:=1) (o:=1) (s:=1) (t:=3) hg hxl rfl rfl (by kernel_rfl) rfl (Opn.int Try.underlying3)
 have E1:(cs.drop 1).take 1=[.int .i64 a1]:=K1
 obtain ⟨a2,K2,G2⟩:=field (j:=2) (o:=2) (s:=1) (t:=3) hg hxl rfl rfl (by kernel_rfl) rfl (Opn.int Try.underlying3)
 have E2:(cs.drop 2).take 1=[.int .i64 a2]:=K2
 obtain ⟨a3,K3,G3⟩:=field (j:=3) (o:=3) (s:=3) (t:=24) hg hxl rfl rfl (by kernel_rfl) rfl (OZ _)
 obtain ⟨j3,j4,E3,L3_2,C3_2⟩:=wF K3
 obtain ⟨a4,K4,G4⟩:=field (j:=4) (o:=6) (s:=1) (t:=35) hg hxl rfl rfl (by kernel_rfl) rfl (Opn.slice Try.underlying35 (by kernel_rfl) (fun F' hF'=>(ih F' (by omega))))
 obtain ⟨A4,c4,E4,L4,C4⟩:=K4
 obtain ⟨a5,K5,G5⟩:=field (j:=5) (o:=7) (s:=1) (t:=35) hg hxl rfl rfl (by kernel_rfl) rfl (Opn.slice Try.underlying35 (by kernel_rfl) (fun F' hF'=>(ih F' (by omega))))
 obtain ⟨A5,c5,E5,L5,C5⟩:=K5
 have e:cs=[.int .i64 a0, .int .i64 a1, .int .i64 a2, .int .i64 a3.f0, .int .i64 a3.f1, .slice j3 a3.f2.length j4, .slice A4 a4.length c4, .slice A5 a5.length c5]:=by
  rw [show cs=cs.drop 0 from rfl,(iH (o':=1) E0 rfl),(iH (o':=2) E1 rfl),(iH (o':=3) E2 rfl),(iH (o':=6) E3 rfl),(iH (o':=7) E4 rfl),(iH (o':=8) E5 rfl),xQ hcs]
  rfl
 subst e
 exact ⟨⟨a0,a1,a2,a3,a4,a5⟩,OB w ⟨a0,a1,a2,a3,a4,a5⟩ L3_2 C3_2 L4 C4 L5 C5,yK.mk _ G0 G1 G2 G3 G4.1 G4.2 G5.1 G5.2⟩
def dX.Pure:Prop:=∀ (l0:List (S66)),(l0.length≤maxLen∧∀ y ∈ l0,yK y)→∃ k,dX.f k l0=some true
open Go.Proofs.YthiegfpcfedbgaaW.PrintLast Go.Proofs.YthiegfpcfedbgaaW.PrintMore
attribute [local go_sem] max2_int min2_int max_two min_two max_three min_three max_four min_four
set_option linter.unusedVariables false
set_option linter.unusedSimpArgs false
theorem fK.calls (a0:Int) (r:Bool) (w:World) (h:fK.f a0=some r):
  Calls Try.prog 77 #[.int .i64 a0] w fun e w'=>e= .returned (.bool r)∧fC w w':=by
 have H:(if a0≥1 then (some (decide (a0≤12))) else (some false))=some r:=h
 clear h
 by_cases c2:a0≥1
 ·rw [if_pos c2] at H
  have j3:decide (1≤a0)=true:=decide_eq_true c2
  clear c2
  obtain rfl:=Option.some.inj H
  go_enter Try.func77,Try.ntmps77
  go_wp2
  go_ret
  exact ⟨sd_,eO⟩
 rw [if_neg c2] at H
 have j3:decide (1≤a0)=false:=decide_eq_false c2
 clear c2
 obtain rfl:=Option.some.inj H
 go_enter Try.func77,Try.ntmps77
 go_wp2
 go_ret
 exact ⟨sd_,eO⟩
theorem bS.mono_l:∀ k,(∀ y0 y1 y2 y3,LeO (bS.f k y0 y1 y2 y3) (bS.f (k + 1) y0 y1 y2 y3))
 |0=>fun _ _ _ _ r h=>by simp [bS.f] at h
 |k + 1=>by
  have ih0:=bS.mono_l k
  ·intro y0 y1 y2 y3
   unfold bS.f
   exact mo_
theorem bS.mono:∀ a0 a1 a2 a3 k,LeO (bS.f k a0 a1 a2 a3) (bS.f (k + 1) a0 a1 a2 a3):=by
 intro a0 a1 a2 a3 k
 have ih0:=bS.mono_l k
 exact ih0 a0 a1 a2 a3
theorem bS.calls (k:Nat):∀ (j7:Int) (j8:Int) (jg:Option Addr) (jh:Nat) (j3:List (S28)) (a1:Int) (r:Bool) (w:World) (hr0_2:Kd.C k28 w jg j3.length j3) (hc0_2:j3.length≤jh) (h:bS.f k j7 j8 j3 a1=some r),
  Calls Try.prog 61 #[.agg #[.int .i64 j7, .int .i64 j8, .slice jg j3.length jh], .int .i64 a1] w fun e w'=>e= .returned (.bool r)∧Below w.heap.size w w':=by
 induction k using Nat.strongRecOn with
 | _ k ih=>
 intro j7 j8 jg jh j3 a1 r w hr0_2 hc0_2 h
 cases k with
 |zero=>exact absurd h (by simp [bS.f])
 |succ k=>
 simp only [bS.f] at h
 have hu28:=Try.underlying28
 have jf:=am hr0_2
 have qa:=am hc0_2
 clear hr0_2 hc0_2
 have HB:=am (Below.refl w.heap.size w)
 have H:=h
 clear h
 have HH_:=am H
 clear H
 go_enter Try.func61,Try.ntmps61
 go_upto_region 1 with (first|((with_reducible refine bL (N:=2) rfl ?_);(try (refine mO (by rfl) ?_;dsimp only));refine cB rfl (N:=2) rfl (cs:=#[.int .i64 j7, .int .i64 j8, .slice jg j3.length jh]) (t:=28) rn_ ?_;intro ju hg w7 hbox hb;have jc:=am (hbox);have qm:=am ((by rw [hg];exact (aQ dK):w.heap.size≤ju));have GE23:=am ((by rw [hg];exact (aQ dK):w.heap.size≤ju));replace HB:=am (aB dK hb);clear hb hbox hg;obtain ⟨jT,jU,jV,jW,jX,jY⟩:=fA jc.out))
 have H:=HH_.out
 clear HH_
 by_cases c3:j7=0
 ·rw [if_pos c3] at H
  have jZ:(j7 == 0)=true:=beq_iff_eq.mpr c3
  have q0:(j7 != 0)=false:=bne_eq_false_iff_eq.mpr c3
  clear c3
  by_cases c4:j8≥0
  ·rw [if_pos c4] at H
   have q1:decide (0≤j8)=true:=decide_eq_true c4
   clear c4
   by_cases c5:j8≤99999
   ·rw [if_pos c5] at H
    have q2:decide (j8≤99999)=true:=decide_eq_true c5
    clear c5
    by_cases c6:(j3.length:Int)=0
    ·rw [if_pos c6] at H
     have q3:((j3.length:Int) == 0)=true:=beq_iff_eq.mpr c6
     have q4:((j3.length:Int) != 0)=false:=bne_eq_false_iff_eq.mpr c6
     clear c6
     obtain rfl:=Option.some.inj H
     go_wp2
     go_ret
     exact ⟨rr_,nS⟩
    rw [if_neg c6] at H
    have q3:((j3.length:Int) == 0)=false:=beq_eq_false_iff_ne.mpr c6
    have q4:((j3.length:Int) != 0)=true:=bne_iff_ne.mpr c6
    have qn:¬ (j3=[]):=fun h_=>c6 (by rw [h_];rfl)
    obtain rfl:=Option.some.inj H
    go_wp2
    go_ret
    exact ⟨rr_,nS⟩
   rw [if_neg c5] at H
   have q2:decide (j8≤99999)=false:=decide_eq_false c5
   clear c5
   obtain rfl:=Option.some.inj H
   go_wp2
   go_ret
   exact ⟨rr_,nS⟩
  rw [if_neg c4] at H
  have q1:decide (0≤j8)=false:=decide_eq_false c4
  clear c4
  obtain rfl:=Option.some.inj H
  go_wp2
  go_ret
  exact ⟨rr_,nS⟩
 rw [if_neg c3] at H
 have jZ:(j7 == 0)=false:=beq_eq_false_iff_ne.mpr c3
 have q0:(j7 != 0)=true:=bne_iff_ne.mpr c3
 by_cases jj:j7=13
 ·rw [if_pos jj] at H
  have jv:(j7 == 13)=true:=beq_iff_eq.mpr jj
  have jw:(j7 != 13)=false:=bne_eq_false_iff_eq.mpr jj
  clear jj
  by_cases jq:j8≥0
  ·rw [if_pos jq] at H
   have jx:decide (0≤j8)=true:=decide_eq_true jq
   clear jq
   by_cases jr:j8 < 4
   ·rw [if_pos jr] at H
    have jy:decide (j8 < 4)=true:=decide_eq_true jr
    clear jr
    by_cases ji:(j3.length:Int)=0
    ·rw [if_pos ji] at H
     have jz:((j3.length:Int) == 0)=true:=beq_iff_eq.mpr ji
     have jA:((j3.length:Int) != 0)=false:=bne_eq_false_iff_eq.mpr ji
     clear ji
     obtain rfl:=Option.some.inj H
     go_wp2
     go_ret
     exact ⟨rr_,nS⟩
    rw [if_neg ji] at H
    have jz:((j3.length:Int) == 0)=false:=beq_eq_false_iff_ne.mpr ji
    have jA:((j3.length:Int) != 0)=true:=bne_iff_ne.mpr ji
    have qb:¬ (j3=[]):=fun h_=>ji (by rw [h_];rfl)
    obtain rfl:=Option.some.inj H
    go_wp2
    go_ret
    exact ⟨rr_,nS⟩
   rw [if_neg jr] at H
   have jy:decide (j8 < 4)=false:=decide_eq_false jr
   clear jr
   obtain rfl:=Option.some.inj H
   go_wp2
   go_ret
   exact ⟨rr_,nS⟩
  rw [if_neg jq] at H
  have jx:decide (0≤j8)=false:=decide_eq_false jq
  clear jq
  obtain rfl:=Option.some.inj H
  go_wp2
  go_ret
  exact ⟨rr_,nS⟩
 rw [if_neg jj] at H
 have jv:(j7 == 13)=false:=beq_eq_false_iff_ne.mpr jj
 have jw:(j7 != 13)=true:=bne_iff_ne.mpr jj
 obtain ⟨qo,qc,H⟩:=bsm H
 (try dsimp only at H)
 have js:=am qc
 clear qc
 by_cases jJ:qo=true
 ·subst jJ
  rw [if_pos rfl] at H
  by_cases jk:j8=0
  ·rw [if_pos jk] at H
   have jB:(j8 == 0)=true:=beq_iff_eq.mpr jk
   have jC:(j8 != 0)=false:=bne_eq_false_iff_eq.mpr jk
   clear jk
   by_cases jl:(j3.length:Int)=2
   ·rw [if_pos jl] at H
    have jD:((j3.length:Int) == 2)=true:=beq_iff_eq.mpr jl
    have jE:((j3.length:Int) != 2)=false:=bne_eq_false_iff_eq.mpr jl
    clear jl
    by_cases jt:a1 > 1
    ·rw [if_pos jt] at H
     have jF:decide (1 < a1)=true:=decide_eq_true jt
     clear jt
     by_cases jK:0 < (j3.length:Int)
     ·rw [if_pos jK] at H
      have qd:decide (0 < (j3.length:Int))=true:=decide_eq_true jK
      have qe:decide (0 < j3.length)=true:=decide_eq_true (by omega)
      clear jK
      obtain ⟨qp,qf,H⟩:=bsm H
      (try dsimp only at H)
      have qg:=am qf
      clear qf
      by_cases jL:qp=true
      ·subst jL
       rw [if_pos rfl] at H
       by_cases jM:1 < (j3.length:Int)
       ·rw [if_pos jM] at H
        have qh:decide (1 < (j3.length:Int))=true:=decide_eq_true jM
        have qi:decide (1 < j3.length)=true:=decide_eq_true (by omega)
        clear jM
        obtain ⟨qq,qj,H⟩:=bsm H
        (try dsimp only at H)
        have qr:=am qj
        clear qj
        obtain rfl:=Option.some.inj H
        go_wp2_with (first|((with_reducible refine aD (f:=77) rfl ?_);refine aM (some 51) rfl rfl Try.func77 (by kernel_rfl) rfl #[.int .i64 j7] rfl dB ?_;(with_reducible refine (fK.calls j7 true _ js.out).mono ?_);rintro e w' ⟨rfl,⟨nd,rfl⟩⟩;refine ⟨_,rfl,?_⟩;have jm:0≤(0:Int):=(by omega);have jn:0 < (j3.length:Int):=of_decide_eq_true bR;obtain ⟨jG,jH,jI,q5,j4,j5,j6,hl37_2,hi37_2⟩:=gJ jf.out 0 jm jn;cases q5;have q6:(0 < j3.length)=True:=eq_true (by omega);(try rw [show ((0:Int)).toNat=0 from rfl] at j4);(try rw [show 0 * 3=0 from rfl] at j4);(try rw [Addr.add_zero'] at j4);(try rw [show ((0:Int)).toNat=0 from rfl] at j5);(try rw [show 0 * 3=0 from rfl] at j5);(try rw [Addr.add_zero'] at j5);(try rw [show ((0:Int)).toNat=0 from rfl] at j6);(try rw [show 0 * 3=0 from rfl] at j6);(try rw [Addr.add_zero'] at j6);replace j4:=(HB.out.cell (World.block_lt_of_cell? w _ j4)).trans j4;replace j5:=(HB.out.cell (World.block_lt_of_cell? w _ j5)).trans j5;replace j6:=(HB.out.cell (World.block_lt_of_cell? w _ j6)).trans j6;have jd:=am hi37_2;have je:=am hl37_2;clear hi37_2 hl37_2;replace jm:=eq_true jm;replace jn:=eq_true jn)|(go_at_call 61;(with_reducible refine (ih k (by omega) ((aW j3 0).f0) ((aW j3 0).f1) _ _ ((aW j3 0).f2) (wrap64 (a1 - 1)) true _ (aC_ (Kd.aH jd.out nS)) je.out qg.out).mono ?_);rintro e qu ⟨rfl,hb⟩;replace jc:=bbP jc hb;replace HB:=am (aB nS hb);(try clear hb);obtain ⟨jN,jO,jP,jQ,jR,jS⟩:=fA jc.out;have q7:0≤(1:Int):=(by omega);have q8:1 < (j3.length:Int):=of_decide_eq_true bR;obtain ⟨q9,qk,ql,qs,j9,ja,jb,hl38_2,hi38_2⟩:=gJ jf.out 1 q7 q8;obtain rfl:jG=q9:=(by injection qs);(try simp only [show (1:Int).toNat=1 from rfl,Nat.reduceMul,Nat.reduceEqDiff,Go.Addr.add,↓reduceIte] at j9);(try simp only [show (1:Int).toNat=1 from rfl,Nat.reduceMul,Nat.reduceEqDiff,Go.Addr.add,↓reduceIte] at ja);(try simp only [show (1:Int).toNat=1 from rfl,Nat.reduceMul,Nat.reduceEqDiff,Go.Addr.add,↓reduceIte] at jb);have qt:(1 < j3.length)=True:=eq_true (by omega);(try rw [show ((1:Int)).toNat=1 from rfl] at j9);(try rw [show 1 * 3=3 from rfl] at j9);(try rw [show ((1:Int)).toNat=1 from rfl] at ja);(try rw [show 1 * 3=3 from rfl] at ja);(try rw [show ((1:Int)).toNat=1 from rfl] at jb);(try rw [show 1 * 3=3 from rfl] at jb);replace j9:=(HB.out.cell (World.block_lt_of_cell? w _ j9)).trans j9;replace ja:=(HB.out.cell (World.block_lt_of_cell? w _ ja)).trans ja;replace jb:=(HB.out.cell (World.block_lt_of_cell? w _ jb)).trans jb;have jo:=am hi38_2;have jp:=am hl38_2;clear hi38_2 hl38_2;replace q7:=eq_true q7;replace q8:=eq_true q8)|(go_at_call 61;(with_reducible refine (ih k (by omega) ((aW j3 1).f0) ((aW j3 1).f1) _ _ ((aW j3 1).f2) (wrap64 (a1 - 1)) qq _ (aC_ (Kd.aH jo.out HB.out)) jp.out qr.out).mono ?_);rintro e qv ⟨rfl,hb⟩;replace jc:=bbP jc hb;replace HB:=am (aB nS hb);(try clear hb)))
        go_ret
        exact ⟨rr_,nS⟩
       rw [if_neg jM] at H
       exact absurd H (by simp)
      replace jL:=Bool.eq_false_iff.mpr jL
      subst jL
      rw [if_neg (show ¬ (false=true) by decide)] at H
      obtain rfl:=Option.some.inj H
      go_wp2_with (first|((with_reducible refine aD (f:=77) rfl ?_);refine aM (some 51) rfl rfl Try.func77 (by kernel_rfl) rfl #[.int .i64 j7] rfl dB ?_;(with_reducible refine (fK.calls j7 true _ js.out).mono ?_);rintro e w' ⟨rfl,⟨nd,rfl⟩⟩;refine ⟨_,rfl,?_⟩;have jm:0≤(0:Int):=(by omega);have jn:0 < (j3.length:Int):=of_decide_eq_true bR;obtain ⟨jG,jH,jI,q5,j4,j5,j6,hl37_2,hi37_2⟩:=gJ jf.out 0 jm jn;cases q5;have q6:(0 < j3.length)=True:=eq_true (by omega);(try rw [show ((0:Int)).toNat=0 from rfl] at j4);(try rw [show 0 * 3=0 from rfl] at j4);(try rw [Addr.add_zero'] at j4);(try rw [show ((0:Int)).toNat=0 from rfl] at j5);(try rw [show 0 * 3=0 from rfl] at j5);(try rw [Addr.add_zero'] at j5);(try rw [show ((0:Int)).toNat=0 from rfl] at j6);(try rw [show 0 * 3=0 from rfl] at j6);(try rw [Addr.add_zero'] at j6);replace j4:=(HB.out.cell (World.block_lt_of_cell? w _ j4)).trans j4;replace j5:=(HB.out.cell (World.block_lt_of_cell? w _ j5)).trans j5;replace j6:=(HB.out.cell (World.block_lt_of_cell? w _ j6)).trans j6;have jd:=am hi37_2;have je:=am hl37_2;clear hi37_2 hl37_2;replace jm:=eq_true jm;replace jn:=eq_true jn)|(go_at_call 61;(with_reducible refine (ih k (by omega) ((aW j3 0).f0) ((aW j3 0).f1) _ _ ((aW j3 0).f2) (wrap64 (a1 - 1)) false _ (aC_ (Kd.aH jd.out nS)) je.out qg.out).mono ?_);rintro e qw ⟨rfl,hb⟩;replace jc:=bbP jc hb;replace HB:=am (aB nS hb);(try clear hb)))
      go_ret
      exact ⟨rr_,nS⟩
     rw [if_neg jK] at H
     exact absurd H (by simp)
    rw [if_neg jt] at H
    have jF:decide (1 < a1)=false:=decide_eq_false jt
    clear jt
    obtain rfl:=Option.some.inj H
    go_wp2_with (first|((with_reducible refine aD (f:=77) rfl ?_);refine aM (some 51) rfl rfl Try.func77 (by kernel_rfl) rfl #[.int .i64 j7] rfl dB ?_;(with_reducible refine (fK.calls j7 true _ js.out).mono ?_);rintro e w' ⟨rfl,⟨nd,rfl⟩⟩;refine ⟨_,rfl,?_⟩))
    go_ret
    exact ⟨rr_,nS⟩
   rw [if_neg jl] at H
   have jD:((j3.length:Int) == 2)=false:=beq_eq_false_iff_ne.mpr jl
   have jE:((j3.length:Int) != 2)=true:=bne_iff_ne.mpr jl
   obtain rfl:=Option.some.inj H
   go_wp2_with (first|((with_reducible refine aD (f:=77) rfl ?_);refine aM (some 51) rfl rfl Try.func77 (by kernel_rfl) rfl #[.int .i64 j7] rfl dB ?_;(with_reducible refine (fK.calls j7 true _ js.out).mono ?_);rintro e w' ⟨rfl,⟨nd,rfl⟩⟩;refine ⟨_,rfl,?_⟩))
   go_ret
   exact ⟨rr_,nS⟩
  rw [if_neg jk] at H
  have jB:(j8 == 0)=false:=beq_eq_false_iff_ne.mpr jk
  have jC:(j8 != 0)=true:=bne_iff_ne.mpr jk
  obtain rfl:=Option.some.inj H
  go_wp2_with (first|((with_reducible refine aD (f:=77) rfl ?_);refine aM (some 51) rfl rfl Try.func77 (by kernel_rfl) rfl #[.int .i64 j7] rfl dB ?_;(with_reducible refine (fK.calls j7 true _ js.out).mono ?_);rintro e w' ⟨rfl,⟨nd,rfl⟩⟩;refine ⟨_,rfl,?_⟩))
  go_ret
  exact ⟨rr_,nS⟩
 replace jJ:=Bool.eq_false_iff.mpr jJ
 subst jJ
 rw [if_neg (show ¬ (false=true) by decide)] at H
 obtain rfl:=Option.some.inj H
 go_wp2_with (first|((with_reducible refine aD (f:=77) rfl ?_);refine aM (some 51) rfl rfl Try.func77 (by kernel_rfl) rfl #[.int .i64 j7] rfl dB ?_;(with_reducible refine (fK.calls j7 false _ js.out).mono ?_);rintro e w' ⟨rfl,⟨nd,rfl⟩⟩;refine ⟨_,rfl,?_⟩))
 go_ret
 exact ⟨rr_,nS⟩
theorem dV.mono:∀ a0 a1 a2 k,LeO (dV.f k a0 a1 a2) (dV.f (k + 1) a0 a1 a2):=by
 intro a0 a1 a2 k
 unfold dV.f
 have m0:=@bS.mono
 exact mo_
theorem dV.calls (k:Nat) (j4:Int) (j5:Int) (j6:Option Addr) (j7:Nat) (j3:List (S28)) (r:Bool) (w:World) (hr0_2:Kd.C k28 w j6 j3.length j3) (hc0_2:j3.length≤j7) (h:dV.f k j4 j5 j3=some r):
  Calls Try.prog 31 #[.agg #[.int .i64 j4, .int .i64 j5, .slice j6 j3.length j7]] w fun e w'=>e= .returned (.bool r)∧Below w.heap.size w w':=by
 have hu28:=Try.underlying28
 have j9:=am hr0_2
 have ja:=am hc0_2
 clear hr0_2 hc0_2
 have HB:=am (Below.refl w.heap.size w)
 have H:((bS.f k j4 j5 j3 5).bind fun jc=>(some jc))=some r:=h
 clear h
 obtain ⟨jc,A2,H⟩:=bsa H
 (try dsimp only at H)
 obtain rfl:=Option.some.inj H
 go_enter Try.func31,Try.ntmps31
 go_wp2_with (first|((with_reducible refine bL (N:=1) rfl ?_);refine cB rfl (N:=1) rfl (cs:=#[.int .i64 j4, .int .i64 j5, .slice j6 j3.length j7]) (t:=28) rn_ ?_;intro jb hg w3 hbox hb;have j8:=am (hbox);have jj:=am ((by rw [hg];exact (aQ dK):w.heap.size≤jb));have GE22:=am ((by rw [hg];exact (aQ dK):w.heap.size≤jb));replace HB:=am (aB dK hb);clear hb hbox hg;obtain ⟨jd,je,jf,jg,jh,ji⟩:=fA j8.out)|((with_reducible refine aD (f:=61) rfl ?_);refine aM (some 4) rfl rfl Try.func61 (by kernel_rfl) rfl #[.agg #[.int .i64 j4, .int .i64 j5, .slice j6 j3.length j7], .int .i64 5] rfl dB ?_;(with_reducible refine (bS.calls k j4 j5 _ _ j3 5 jc _ (aC_ (Kd.aH j9.out HB.out)) ja.out A2.out).mono ?_);rintro e w5 ⟨rfl,hb⟩;refine ⟨_,rfl,?_⟩;replace j8:=bbP j8 hb;replace HB:=am (aB EY hb);(try clear hb)))
 go_ret
 exact ⟨rr_,EY⟩
theorem uO.calls (n limit:Int) (needed:Bool) (w:World):
  Calls Try.prog 87 #[.int .i64 n, .int .i64 limit, .bool needed] w fun e w'=>e= .returned (.bool (inr n limit needed))∧fC w w':=by
 by_cases h0:n=0
 ·subst h0
  go_enter Try.func87,Try.ntmps87
  go_wp2
  go_ret
  exact ⟨by simp [inr],eO⟩
 have h0b:(n == 0)=false:=beq_eq_false_iff_ne.mpr h0
 cases needed with
 |false=>
  go_enter Try.func87,Try.ntmps87
  go_wp2
  go_ret
  exact ⟨by simp [inr,h0],eO⟩
 |true=>
  by_cases h1:0 < n
  ·have h1b:decide (0 < n)=true:=decide_eq_true h1
   by_cases h2:n < limit
   ·have h2b:decide (n < limit)=true:=decide_eq_true h2
    go_enter Try.func87,Try.ntmps87
    go_wp2
    go_ret
    exact ⟨by simp [inr,h0];omega,eO⟩
   have h2b:decide (n < limit)=false:=decide_eq_false h2
   go_enter Try.func87,Try.ntmps87
   go_wp2
   go_ret
   exact ⟨by simp [inr,h0];omega,eO⟩
  have h1b:decide (0 < n)=false:=decide_eq_false h1
  go_enter Try.func87,Try.ntmps87
  go_wp2
  go_ret
  exact ⟨by simp [inr,h0];omega,eO⟩
theorem iQ {n limit:Int} {needed b:Bool} (w:World) (h:inr n limit needed=b):
  Calls Try.prog 87 #[.int .i64 n, .int .i64 limit, .bool needed] w fun e w'=>e= .returned (.bool b)∧fC w w':=h ▸ uO.calls n limit needed w
theorem gD.mono:∀ nv nb ne nd no va bx op n la lb le boxes k,LeO (gD k nv nb ne nd no va bx op n la lb le boxes) (gD (k + 1) nv nb ne nd no va bx op n la lb le boxes):=by
 intro nv nb ne nd no va bx op n la lb le boxes k
 unfold gD
 have m0:=@dV.mono
 exact mo_
theorem bT.mono:∀ kd va bx op n la lb le boxes k,LeO (bT.f k kd va bx op n la lb le boxes) (bT.f (k + 1) kd va bx op n la lb le boxes):=by
 intro kd va bx op n la lb le boxes k
 unfold bT.f
 have m0:=@gD.mono
 exact mo_
attribute [local irreducible] inr
theorem bT.callsP (k:Nat) (g:Addr) (kd va bx op n:Int) (Aa:Option Addr) (ca:Nat) (la:List S28) (Ab:Option Addr) (lb cb:Nat) (Ae:Option Addr) (le ce:Nat) (boxes:Int) (r:Bool) (w:World)
  (hg0:w.cell? g=some (.int .i64 kd)) (hg1:w.cell? ⟨g.block,g.off + 1,none⟩=some (.int .i64 va)) (hg2:w.cell? ⟨g.block,g.off + 2,none⟩=some (.int .i64 bx))
  (hg3:w.cell? ⟨g.block,g.off + 3,none⟩=some (.int .i64 op)) (hg4:w.cell? ⟨g.block,g.off + 4,none⟩=some (.int .i64 n)) (hg5:w.cell? ⟨g.block,g.off + 5,none⟩=some (.slice Aa la.length ca))
  (hg6:w.cell? ⟨g.block,g.off + 6,none⟩=some (.slice Ab lb cb)) (hg7:w.cell? ⟨g.block,g.off + 7,none⟩=some (.slice Ae le ce))
  (hr:Kd.C k28 w Aa la.length la) (hc:la.length≤ca) (h:bT.f k kd va bx op n la lb le boxes=some r):
  Calls Try.prog 85 #[.pointer (some g), .int .i64 boxes] w fun e w'=>e= .returned (.bool r)∧Below w.heap.size w w':=by
 have HR:=am hr
 have HC:=am hc
 have HH:=am h
 clear hr hc h
 go_enter Try.func85,Try.ntmps85
 go_upto_region 2 with (first|((with_reducible refine bL (N:=5) rfl ?_);refine cB (N:=5) rfl rfl (cs:=#[.bool false, .bool false, .bool false, .bool false, .bool false]) (t:=104) rn_ ?_;intro gb hg w1 hbox hb)|fail)
 have k0:=aP hb hg0
 have z0:=aA hbox 0
 have z1:=aA hbox 1
 have z2:=aA hbox 2
 have z3:=aA hbox 3
 have z4:=aA hbox 4
 have f0:=aG hbox 0
 have f1:=aG hbox 1
 have f2:=aG hbox 2
 have f3:=aG hbox 3
 have f4:=aG hbox 4
 have HBX:=am hbox
 have HB:=am hb
 have HG:=am (Nat.le_of_eq hg.symm)
 clear hbox hb hg
 go_upto_block 0 with fail
 go_cut [4,5] from 7 (fun v4 v5 wc=>∃ nv nb ne nd no,v5= .pointer (some ⟨gb,0,none⟩)∧Aside0 (gD k nv nb ne nd no va bx op n la lb le boxes=some r)∧Aside0 (wc.heap[gb]?=some (.cells #[.bool nv, .bool nb, .bool ne, .bool nd, .bool no] 104 (0,0)))∧Aside0 (Below w.heap.size w wc))
 case first=>
  have H:=HH.out
  clear HH
  unfold bT.f at H
  by_cases c1:kd=1
  ·rw [if_pos c1] at H
   subst c1
   have H':=am H
   clear H
   go_wp2
   go_meet
   case rel=>exact ⟨true,false,true,false,false,rfl,H',⟨(aS (aS HBX.out 0 (.bool true) (by rfl)) 2 (.bool true) (by rfl))⟩,⟨(below_set (below_set HB.out HG.out) HG.out)⟩⟩
  rw [if_neg c1] at H
  have d1:(kd == 1)=false:=beq_eq_false_iff_ne.mpr c1
  by_cases c2:kd=2
  ·rw [if_pos c2] at H
   subst c2
   have H':=am H
   clear H
   go_wp2
   go_meet
   case rel=>exact ⟨false,false,true,true,true,rfl,H',⟨(aS (aS (aS HBX.out 2 (.bool true) (by rfl)) 3 (.bool true) (by rfl)) 4 (.bool true) (by rfl))⟩,⟨(below_set (below_set (below_set HB.out HG.out) HG.out) HG.out)⟩⟩
  rw [if_neg c2] at H
  have d2:(kd == 2)=false:=beq_eq_false_iff_ne.mpr c2
  by_cases c3:kd=3
  ·rw [if_pos c3] at H
   subst c3
   have H':=am H
   clear H
   go_wp2
   go_meet
   case rel=>exact ⟨false,false,true,true,false,rfl,H',⟨(aS (aS HBX.out 2 (.bool true) (by rfl)) 3 (.bool true) (by rfl))⟩,⟨(below_set (below_set HB.out HG.out) HG.out)⟩⟩
  rw [if_neg c3] at H
  have d3:(kd == 3)=false:=beq_eq_false_iff_ne.mpr c3
  by_cases c4:kd=4
  ·rw [if_pos c4] at H
   subst c4
   have H':=am H
   clear H
   go_wp2
   go_meet
   case rel=>exact ⟨false,true,true,false,false,rfl,H',⟨(aS (aS HBX.out 1 (.bool true) (by rfl)) 2 (.bool true) (by rfl))⟩,⟨(below_set (below_set HB.out HG.out) HG.out)⟩⟩
  rw [if_neg c4] at H
  have d4:(kd == 4)=false:=beq_eq_false_iff_ne.mpr c4
  by_cases c5:kd=5
  ·rw [if_pos c5] at H
   subst c5
   have H':=am H
   clear H
   go_wp2
   go_meet
   case rel=>exact ⟨true,true,false,false,false,rfl,H',⟨(aS (aS HBX.out 1 (.bool true) (by rfl)) 0 (.bool true) (by rfl))⟩,⟨(below_set (below_set HB.out HG.out) HG.out)⟩⟩
  rw [if_neg c5] at H
  have d5:(kd == 5)=false:=beq_eq_false_iff_ne.mpr c5
  by_cases c7:kd=7
  ·rw [if_pos c7] at H
   subst c7
   have H':=am H
   clear H
   go_wp2
   go_meet
   case rel=>exact ⟨false,false,true,false,false,rfl,H',⟨(aS HBX.out 2 (.bool true) (by rfl))⟩,⟨(below_set HB.out HG.out)⟩⟩
  rw [if_neg c7] at H
  have d7:(kd == 7)=false:=beq_eq_false_iff_ne.mpr c7
  by_cases c6:kd=6
  ·rw [if_pos c6] at H
   subst c6
   have H':=am H
   clear H
   go_wp2
   go_meet
   case rel=>exact ⟨false,false,false,false,false,rfl,H',⟨HBX.out⟩,⟨HB.out⟩⟩
  rw [if_neg c6] at H
  have d6:(kd == 6)=false:=beq_eq_false_iff_ne.mpr c6
  obtain rfl:=Option.some.inj H
  go_wp2
  go_ret
  exact ⟨rfl,HB.out⟩
 case rest=>
  obtain ⟨nv,nb,ne,nd,no,rfl,HA,HX,HW⟩:=hcut
  have k1:=aP HW.out hg1
  have k2:=aP HW.out hg2
  have k3:=aP HW.out hg3
  have k4:=aP HW.out hg4
  have k5:=aP HW.out hg5
  have k6:=aP HW.out hg6
  have k7:=aP HW.out hg7
  have y0:wc.cell? ⟨gb,0,none⟩=some (.bool nv):=aA HX.out 0
  have y1:wc.cell? ⟨gb,1,none⟩=some (.bool nb):=aA HX.out 1
  have y2:wc.cell? ⟨gb,2,none⟩=some (.bool ne):=aA HX.out 2
  have y3:wc.cell? ⟨gb,3,none⟩=some (.bool nd):=aA HX.out 3
  have y4:wc.cell? ⟨gb,4,none⟩=some (.bool no):=aA HX.out 4
  clear k0 z0 z1 z2 z3 z4 f0 f1 f2 f3 f4 HBX HB hg0 hg1 hg2 hg3 hg4 hg5 hg6 hg7 HH
  go_upto_region 18 with fail
  (try simp only [Act.put,List.setIfInBounds_toArray,List.set_cons_zero,List.set_cons_succ])
  go_cut [69] from 37 (fun j6 wc_=>∃ (x:Bool),j6= .bool x∧Aside0 (∃ m,wc_=wc.drewN m)∧Aside0 (if x=true then r=false else (if ne=true then ((dV.f k op n la).bind fun t=>if t=true then some ((nd || lb == 0) && (no || le == 0)) else some false) else (if op=0 then (if n=0 then (if 0 < (la.length:Int) then some false else some ((nd || lb == 0) && (no || le == 0))) else some false) else some false))=some r))
  case first=>
   have H:=HA.out
   clear HA
   unfold gD at H
   by_cases i1:inr va 4 nv=true
   ·rw [if_pos i1] at H
    by_cases i2:inr bx boxes nb=true
    ·rw [if_pos i2] at H
     have I1:=am i1
     have I2:=am i2
     clear i1 i2
     by_cases i3:nb=true∧boxes≤bx
     ·rw [if_pos i3] at H
      obtain ⟨i4,i5⟩:=i3
      subst i4
      have i6:=eq_true i5
      have H':=am (Option.some.inj H)
      clear H i5
      go_big_quiet (first|(with_reducible refine Calls.quiet_of ((iQ _ I1.out).mono (fun e w' hq=>⟨hq.1,hq.2.out⟩)))|(with_reducible refine Calls.quiet_of ((iQ _ I2.out).mono (fun e w' hq=>⟨hq.1,hq.2.out⟩))))
      go_wp2
      go_meet
      case rel=>exact ⟨true,rfl,⟨_,rfl⟩,⟨by rw [if_pos rfl];exact H'.out.symm⟩⟩
     rw [if_neg i3] at H
     have H':=am H
     clear H
     cases nb with
     |false=>
      clear i3
      go_big_quiet (first|(with_reducible refine Calls.quiet_of ((iQ _ I1.out).mono (fun e w' hq=>⟨hq.1,hq.2.out⟩)))|(with_reducible refine Calls.quiet_of ((iQ _ I2.out).mono (fun e w' hq=>⟨hq.1,hq.2.out⟩))))
      go_wp2
      go_meet
      case rel=>exact ⟨false,rfl,⟨_,rfl⟩,⟨by rw [if_neg (by decide)];exact H'.out⟩⟩
     |true=>
      have i5:¬ boxes≤bx:=fun h=>i3 ⟨rfl,h⟩
      have i6:=eq_false i5
      clear i3 i5
      go_big_quiet (first|(with_reducible refine Calls.quiet_of ((iQ _ I1.out).mono (fun e w' hq=>⟨hq.1,hq.2.out⟩)))|(with_reducible refine Calls.quiet_of ((iQ _ I2.out).mono (fun e w' hq=>⟨hq.1,hq.2.out⟩))))
      go_wp2
      go_meet
      case rel=>exact ⟨false,rfl,⟨_,rfl⟩,⟨by rw [if_neg (by decide)];exact H'.out⟩⟩
    rw [if_neg i2] at H
    have I1:=am i1
    have I2:=am (Bool.eq_false_iff.mpr i2)
    clear i1 i2
    have H':=am (Option.some.inj H)
    clear H
    go_big_quiet (first|(with_reducible refine Calls.quiet_of ((iQ _ I1.out).mono (fun e w' hq=>⟨hq.1,hq.2.out⟩)))|(with_reducible refine Calls.quiet_of ((iQ _ I2.out).mono (fun e w' hq=>⟨hq.1,hq.2.out⟩))))
    go_wp2
    go_meet
    case rel=>exact ⟨true,rfl,⟨_,rfl⟩,⟨by rw [if_pos rfl];exact H'.out.symm⟩⟩
   rw [if_neg i1] at H
   have I1:=am (Bool.eq_false_iff.mpr i1)
   clear i1
   have H':=am (Option.some.inj H)
   clear H
   go_big_quiet (first|(with_reducible refine Calls.quiet_of ((iQ _ I1.out).mono (fun e w' hq=>⟨hq.1,hq.2.out⟩))))
   go_wp2
   go_meet
   case rel=>exact ⟨true,rfl,⟨_,rfl⟩,⟨by rw [if_pos rfl];exact H'.out.symm⟩⟩
  case rest=>
   clear HA
   obtain ⟨x,rfl,⟨m,rfl⟩,HA⟩:=hcut
   cases x with
   |true=>
    have HA':=HA.out
    rw [if_pos rfl] at HA'
    subst HA'
    clear HA
    go_wp2
    go_ret
    exact ⟨rfl,bD HW.out _⟩
   |false=>
    have H:=HA.out
    rw [if_neg (by decide)] at H
    clear HA
    go_upto_region 20 with fail
    (try simp only [Act.put,List.setIfInBounds_toArray,List.set_cons_zero,List.set_cons_succ])
    go_cut [109] from 70 (fun j7 wd=>∃ (x:Bool),j7= .bool x∧Aside0 (Below w.heap.size w wd)∧Aside0 (Below wc.heap.size wc wd)∧Aside0 (if x=true then r=false else ((nd || lb == 0) && (no || le == 0))=r))
    case first=>
     cases ne with
     |true=>
      rw [if_pos rfl] at H
      obtain ⟨t,ht,H⟩:=bsm H
      have HE:=am ht
      have j5:=am (Kd.aH HR.out HW.out)
      clear ht
      cases t with
      |true=>
       rw [if_pos rfl] at H
       have H':=am (Option.some.inj H)
       clear H
       go_wp2_with (first|((with_reducible refine (dV.calls k op n Aa ca la _ _ ?side1 HC.out HE.out).mono ?_);(case side1=>repeat (first|exact j5.out|(with_reducible refine Kd.yD ?_ _)|(with_reducible refine Kd.CZ ?_)));rintro e wq ⟨rfl,hb⟩;have y2q:wq.cell? ⟨gb,2,none⟩=some (.bool true):=aP (w:=wc.drewN m) hb y2;have HBE:=am (show Below wc.heap.size wc wq from (bD (Below.refl _ _) m).trans hb);clear hb;(try dsimp only))|fail)
       go_meet
       case rel=>exact ⟨false,rfl,⟨aB HW.out HBE.out⟩,⟨HBE.out⟩,⟨by rw [if_neg (by decide)];exact H'.out⟩⟩
      |false=>
       rw [if_neg (by decide)] at H
       have H':=am (Option.some.inj H)
       clear H
       go_wp2_with (first|((with_reducible refine (dV.calls k op n Aa ca la _ _ ?side1 HC.out HE.out).mono ?_);(case side1=>repeat (first|exact j5.out|(with_reducible refine Kd.yD ?_ _)|(with_reducible refine Kd.CZ ?_)));rintro e wq ⟨rfl,hb⟩;have y2q:wq.cell? ⟨gb,2,none⟩=some (.bool true):=aP (w:=wc.drewN m) hb y2;have HBE:=am (show Below wc.heap.size wc wq from (bD (Below.refl _ _) m).trans hb);clear hb;(try dsimp only))|fail)
       go_meet
       case rel=>exact ⟨true,rfl,⟨aB HW.out HBE.out⟩,⟨HBE.out⟩,⟨by rw [if_pos rfl];exact H'.out.symm⟩⟩
     |false=>
      rw [if_neg (by decide)] at H
      by_cases j0:op=0
      ·rw [if_pos j0] at H
       by_cases j1:n=0
       ·rw [if_pos j1] at H
        subst j0
        subst j1
        by_cases j2:0 < (la.length:Int)
        ·rw [if_pos j2] at H
         have H':=am (Option.some.inj H)
         clear H
         have j3:=eq_true j2
         have j4:(0 < la.length)=True:=eq_true (by omega)
         clear j2
         go_wp2
         go_meet
         case rel=>exact ⟨true,sd_,⟨bD HW.out _⟩,⟨bD (Below.refl _ _) _⟩,⟨by rw [if_pos rfl];exact H'.out.symm⟩⟩
        rw [if_neg j2] at H
        have H':=am (Option.some.inj H)
        clear H
        have j3:=eq_false j2
        have j4:(0 < la.length)=False:=eq_false (by omega)
        clear j2
        go_wp2
        go_meet
        case rel=>exact ⟨false,sd_,⟨bD HW.out _⟩,⟨bD (Below.refl _ _) _⟩,⟨by rw [if_neg (by decide)];exact H'.out⟩⟩
       rw [if_neg j1] at H
       have H':=am (Option.some.inj H)
       clear H
       subst j0
       have j2:(n != 0)=true:=bne_iff_ne.mpr j1
       clear j1
       go_wp2
       go_meet
       case rel=>exact ⟨true,sd_,⟨bD HW.out _⟩,⟨bD (Below.refl _ _) _⟩,⟨by rw [if_pos rfl];exact H'.out.symm⟩⟩
      rw [if_neg j0] at H
      have H':=am (Option.some.inj H)
      clear H
      have j2:(op != 0)=true:=bne_iff_ne.mpr j0
      clear j0
      go_wp2
      go_meet
      case rel=>exact ⟨true,sd_,⟨bD HW.out _⟩,⟨bD (Below.refl _ _) _⟩,⟨by rw [if_pos rfl];exact H'.out.symm⟩⟩
    case rest=>
     clear H
     obtain ⟨x,rfl,HW2,HW3,HA⟩:=hcut
     cases x with
     |true=>
      have HA':=HA.out
      rw [if_pos rfl] at HA'
      subst HA'
      clear HA
      go_wp2
      go_ret
      exact ⟨rfl,HW2.out⟩
     |false=>
      have H:=HA.out
      rw [if_neg (by decide)] at H
      subst H
      have k6':=aP HW3.out k6
      have k7':=aP HW3.out k7
      have y3':=aP HW3.out y3
      have y4':=aP HW3.out y4
      clear HA k1 k2 k3 k4 k5 k6 k7 y0 y1 y2 y3 y4
      by_cases q6:lb=0
      ·have p6:((lb:Int) == 0)=true:=by rw [q6];rfl
       by_cases q7:le=0
       ·have p7:((le:Int) == 0)=true:=by rw [q7];rfl
        have Q6:=am q6
        have Q7:=am q7
        clear q6 q7
        cases nd <;> cases no <;> (go_wp2;go_ret;exact ⟨by simp [Q6.out,Q7.out],HW2.out⟩)
       have p7:((le:Int) == 0)=false:=beq_eq_false_iff_ne.mpr (by omega)
       have Q6:=am q6
       have Q7:=am q7
       clear q6 q7
       cases nd <;> cases no <;> (go_wp2;go_ret;exact ⟨by simp [Q6.out,Q7.out],HW2.out⟩)
      have p6:((lb:Int) == 0)=false:=beq_eq_false_iff_ne.mpr (by omega)
      have Q6:=am q6
      clear q6
      cases nd with
      |false=>
       go_wp2
       go_ret
       exact ⟨by simp [Q6.out],HW2.out⟩
      |true=>
       by_cases q7:le=0
       ·have p7:((le:Int) == 0)=true:=by rw [q7];rfl
        have Q7:=am q7
        clear q7
        cases no <;> (go_wp2;go_ret;exact ⟨by simp [p7,Q7.out],HW2.out⟩)
       have p7:((le:Int) == 0)=false:=beq_eq_false_iff_ne.mpr (by omega)
       have Q7:=am q7
       clear q7
       cases no <;> (go_wp2;go_ret;exact ⟨by simp [p7,Q7.out],HW2.out⟩)
theorem aZ.mono_l:∀ k,(∀ y0 y1 y2 y3,LeO (aZ.f k y0 y1 y2 y3) (aZ.f (k + 1) y0 y1 y2 y3))∧(∀ y0 y1 y2 y3 y4,LeO (aZ.l0 k y0 y1 y2 y3 y4) (aZ.l0 (k + 1) y0 y1 y2 y3 y4))
 |0=>⟨fun _ _ _ _ r h=>by simp [aZ.f] at h,fun _ _ _ _ _ r h=>by simp [aZ.l0] at h⟩
 |k + 1=>by
  obtain ⟨ih0,ih1⟩:=aZ.mono_l k
  refine ⟨?_,?_⟩
  ·intro y0 y1 y2 y3
   unfold aZ.f
   have m0:=@bT.mono
   exact mo_
  ·intro y0 y1 y2 y3 y4
   unfold aZ.l0
   have m0:=@bT.mono
   exact mo_
theorem aZ.mono:∀ a0 a1 a2 a3 k,LeO (aZ.f k a0 a1 a2 a3) (aZ.f (k + 1) a0 a1 a2 a3):=by
 intro a0 a1 a2 a3 k
 obtain ⟨ih0,ih1⟩:=aZ.mono_l k
 exact ih0 a0 a1 a2 a3
theorem ME {w:World} {ok:Nat→Prop} {A:Option Addr} {n:Nat} {xs:List S70} (h:Kd.F k70 w ok A n xs) (i:Int) (h0:0≤i) (h1:i < n):
  ∃ ad A5 c5 A6 c6 A7 c7,A=some ad∧w.cell? (ad.add (i.toNat * 8))=some (.int .i64 (aC xs i).f0)∧w.cell? ⟨(ad.add (i.toNat * 8)).block,(ad.add (i.toNat * 8)).off + 1,none⟩=some (.int .i64 (aC xs i).f1)∧w.cell? ⟨(ad.add (i.toNat * 8)).block,(ad.add (i.toNat * 8)).off + 2,none⟩=some (.int .i64 (aC xs i).f2)∧w.cell? ⟨(ad.add (i.toNat * 8)).block,(ad.add (i.toNat * 8)).off + 3,none⟩=some (.int .i64 (aC xs i).f3.f0)∧w.cell? ⟨(ad.add (i.toNat * 8)).block,(ad.add (i.toNat * 8)).off + 4,none⟩=some (.int .i64 (aC xs i).f3.f1)∧w.cell? ⟨(ad.add (i.toNat * 8)).block,(ad.add (i.toNat * 8)).off + 5,none⟩=some (.slice A5 (aC xs i).f3.f2.length c5)∧w.cell? ⟨(ad.add (i.toNat * 8)).block,(ad.add (i.toNat * 8)).off + 6,none⟩=some (.slice A6 (aC xs i).f4.length c6)∧w.cell? ⟨(ad.add (i.toNat * 8)).block,(ad.add (i.toNat * 8)).off + 7,none⟩=some (.slice A7 (aC xs i).f5.length c7)∧(aC xs i).f3.f2.length≤c5∧Kd.F k28 w ok A5 (aC xs i).f3.f2.length (aC xs i).f3.f2∧(aC xs i).f4.length≤c6∧Kd.F k70 w ok A6 (aC xs i).f4.length (aC xs i).f4∧(aC xs i).f5.length≤c7∧Kd.F k70 w ok A7 (aC xs i).f5.length (aC xs i).f5:=by
 obtain ⟨ad,c,e,_,hK,hc0,_⟩:=Kd.HZ h z70 i h0 h1
 have hc:∀ j u,c[j]?=some u→w.cell? (ad.add (i.toNat * 8 + j))=some u:=hc0
 obtain ⟨A5,c5,A6,c6,A7,c7,rfl,l5,g5,l6,g6,l7,g7⟩:=FY hK
 exact ⟨ad,A5,c5,A6,c6,A7,c7,e,hc 0 _ rfl,by rw [← dS _ _ 1 (by omega)];exact hc 1 _ rfl,by rw [← dS _ _ 2 (by omega)];exact hc 2 _ rfl,by rw [← dS _ _ 3 (by omega)];exact hc 3 _ rfl,by rw [← dS _ _ 4 (by omega)];exact hc 4 _ rfl,by rw [← dS _ _ 5 (by omega)];exact hc 5 _ rfl,by rw [← dS _ _ 6 (by omega)];exact hc 6 _ rfl,by rw [← dS _ _ 7 (by omega)];exact hc 7 _ rfl,l5,g5,l6,g6,l7,g7⟩
theorem mD {w w1:World} {g:Nat} {a:Addr} {v:Value} (hk:bY w w1 g none) (h:w.cell? a=some v) (hne:a.block≠g):w1.cell? a=some v:=
 (World.cell?_of_block (w:=w) (hk.2 a.block (World.block_lt_of_cell? w a h) hne (by simp))).trans h
theorem aZ.callsP (k:Nat):∀ (A:Option Addr) (c:Nat) (l:List S70) (boxes blocks cnt:Int) (gc B:Nat) (ok:Nat→Prop) (r:Bool) (cnt':Int) (w:World)
  (hF:Kd.F k70 w ok A l.length l) (hc:l.length≤c) (hno:¬ ok gc) (hB:B≤gc) (hb:w.heap[gc]?=some (.cells #[.int .i64 cnt] 3 (0,0))) (h:aZ.f k l boxes blocks cnt=some (r,cnt')),
  Calls Try.prog 81 #[.slice A l.length c, .int .i64 boxes, .int .i64 blocks, .pointer (some ⟨gc,0,none⟩)] w fun e w'=>e= .returned (.bool r)∧w'.heap[gc]?=some (.cells #[.int .i64 cnt'] 3 (0,0))∧bY w w' gc none∧Below B w w':=by
 induction k using Nat.strongRecOn with
 | _ k ih=>
 intro A c l boxes blocks cnt gc B ok r cnt' w hF hc hno hB hb h
 cases k with
 |zero=>exact absurd h (by simp [aZ.f])
 |succ k=>
 simp only [aZ.f] at h
 have HF:=am hF
 have HC:=am hc
 have HNO:=am hno
 have HGB:=am hB
 have HBX:=am hb
 have z0:w.cell? ⟨gc,0,none⟩=some (.int .i64 cnt):=aA hb 0
 have f0:=aG hb 0
 have j4:=am (aS (cs':=#[.int .i64 (wrap64 (cnt + (l.length:Int)))]) hb 0 (.int .i64 (wrap64 (cnt + (l.length:Int)))) rfl)
 have j5:=am (bY.PG (bY.refl w gc none) 0 (.int .i64 (wrap64 (cnt + (l.length:Int)))))
 have HW1:=am (Below.setCell (p:=⟨gc,0,none⟩) (Below.refl B w) hB (.int .i64 (wrap64 (cnt + (l.length:Int)))))
 clear hF hc hno hb hB
 by_cases c0:16 < wrap64 (cnt + (l.length:Int))
 ·rw [if_pos c0] at h
  have h1:=Option.some.inj h
  injection h1 with h1 h2
  subst h1
  subst h2
  have j7:decide (16 < wrap64 (cnt + (l.length:Int)))=true:=decide_eq_true c0
  clear h
  go_enter Try.func81,Try.ntmps81
  go_wp2
  go_ret
  exact ⟨rfl,j4.out,j5.out,HW1.out⟩
 rw [if_neg c0] at h
 have j7:decide (16 < wrap64 (cnt + (l.length:Int)))=false:=decide_eq_false c0
 have H':=am h
 clear h
 go_enter Try.func81,Try.ntmps81
 go_wp2
 go_loopg [24] k (fun kq j8 w'=>∃ (i cq:Int),j8= .int .i64 i∧Aside0 (aZ.l0 kq l boxes blocks i cq=some (r,cnt'))∧Aside0 (kq≤k)∧Aside0 (w'.heap[gc]?=some (.cells #[.int .i64 cq] 3 (0,0)))∧Aside0 (bY w w' gc none)∧Aside0 (Below B w w'))
 case atStart=>exact ⟨0,_,rfl,H',⟨Nat.le_refl _⟩,j4,j5,HW1⟩
 case round=>
  obtain ⟨i,cq,rfl,HA,HK,HBQ,HKQ,HWQ⟩:=hrel
  cases gk with
  |zero=>exact absurd HA.out (by simp [aZ.l0])
  |succ k1=>
   have H:=HA.out
   clear HA
   simp only [aZ.l0] at H
   by_cases c1:i < (l.length:Int)
   ·rw [if_pos c1] at H
    by_cases c2:0≤i
    ·rw [if_pos c2] at H
     obtain ⟨t,ht,H⟩:=bsm H
     have hF':=Kd.oN HF.out (fun q hq hlt=>HKQ.out.2 q hlt (fun e=>HNO.out (e ▸ hq)) (by simp))
     obtain ⟨ad,A5,c5,A6,c6,A7,c7,rfl,x0,x1,x2,x3,x4,x5,x6,x7,l5,g5,l6,g6,l7,g7⟩:=ME hF' i c2 c1
     obtain ⟨ad_,cs_,e_,_,_,_,okad⟩:=Kd.HZ hF' z70 i c2 c1
     cases e_
     have NE7:=am (show (ad.add (i.toNat * 8)).block≠gc from fun e=>HNO.out (e ▸ (add_block ad _).symm ▸ okad (by decide)))
     clear okad
     have HT:=am ht
     have j9:decide (i < (l.length:Int))=true:=decide_eq_true c1
     have p0:=eq_true c2
     have p1:=eq_true c1
     have G5:=am (Kd.ER g5)
     have L5:=am l5
     have G6:=am g6
     have L6:=am l6
     have G7:=am g7
     have L7:=am l7
     clear ht hF' g5 l5 g6 l6 g7 l7 c1 c2 z0 f0
     cases t with
     |false=>
      rw [if_neg (by decide)] at H
      have h1:=Option.some.inj H
      injection h1 with h1 h2
      subst h1
      subst h2
      clear H
      go_wp2_with (first|((with_reducible refine (bT.callsP k1 (ad.add (i.toNat * 8)) _ _ _ _ _ A5 c5 _ A6 _ c6 A7 _ c7 _ _ _ x0 x1 x2 x3 x4 x5 x6 x7 G5.out L5.out HT.out).mono ?_);rintro e wa ⟨rfl,hb⟩;have y0:=aP hb x0;have y6:=aP hb x6;have y7:=aP hb x7;have BXA:=am (aN HBQ.out hb);have KA:=am (bY.trans HKQ.out (bY.of_below hb gc none) (.inl rfl));have WA:=am (HWQ.out.trans (hb.mono (Nat.le_of_lt (Nat.lt_of_le_of_lt HGB.out (cK HBQ.out)))));have G6A:=am (Kd.eY G6.out hb);have G7A:=am (Kd.eY G7.out hb);clear hb;(try dsimp only)))
      go_ret
      exact ⟨rfl,BXA.out,KA.out,WA.out⟩
     |true=>
      rw [if_pos rfl] at H
      by_cases c3:3 < blocks
      ·rw [if_pos c3] at H
       have ja:decide (3 < blocks)=true:=decide_eq_true c3
       have h1:=Option.some.inj H
       injection h1 with h1 h2
       subst h1
       subst h2
       clear H
       go_wp2_with (first|((with_reducible refine (bT.callsP k1 (ad.add (i.toNat * 8)) _ _ _ _ _ A5 c5 _ A6 _ c6 A7 _ c7 _ _ _ x0 x1 x2 x3 x4 x5 x6 x7 G5.out L5.out HT.out).mono ?_);rintro e wa ⟨rfl,hb⟩;have y0:=aP hb x0;have y6:=aP hb x6;have y7:=aP hb x7;have BXA:=am (aN HBQ.out hb);have KA:=am (bY.trans HKQ.out (bY.of_below hb gc none) (.inl rfl));have WA:=am (HWQ.out.trans (hb.mono (Nat.le_of_lt (Nat.lt_of_le_of_lt HGB.out (cK HBQ.out)))));have G6A:=am (Kd.eY G6.out hb);have G7A:=am (Kd.eY G7.out hb);clear hb;(try dsimp only)))
       go_ret
       exact ⟨rfl,BXA.out,KA.out,WA.out⟩
      rw [if_neg c3] at H
      have ja:decide (3 < blocks)=false:=decide_eq_false c3
      by_cases c4:(aC l i).f0=2∨(aC l i).f0=3
      ·rw [if_pos c4] at H
       by_cases j3:3≤blocks
       ·rw [if_pos j3] at H
        have jb:decide (3≤blocks)=true:=decide_eq_true j3
        clear c3 j3
        have h1:=Option.some.inj H
        injection h1 with h1 h2
        subst h1
        subst h2
        clear H
        rcases c4 with c4|c4
        ·have d2:((aC l i).f0 != 2)=false:=bne_eq_false_iff_eq.mpr c4
         clear c4
         go_wp2_with (first|((with_reducible refine (bT.callsP k1 (ad.add (i.toNat * 8)) _ _ _ _ _ A5 c5 _ A6 _ c6 A7 _ c7 _ _ _ x0 x1 x2 x3 x4 x5 x6 x7 G5.out L5.out HT.out).mono ?_);rintro e wa ⟨rfl,hb⟩;have y0:=aP hb x0;have y6:=aP hb x6;have y7:=aP hb x7;have BXA:=am (aN HBQ.out hb);have KA:=am (bY.trans HKQ.out (bY.of_below hb gc none) (.inl rfl));have WA:=am (HWQ.out.trans (hb.mono (Nat.le_of_lt (Nat.lt_of_le_of_lt HGB.out (cK HBQ.out)))));have G6A:=am (Kd.eY G6.out hb);have G7A:=am (Kd.eY G7.out hb);clear hb;(try dsimp only)))
         go_ret
         exact ⟨rfl,BXA.out,KA.out,WA.out⟩
        ·have d2:((aC l i).f0 != 2)=true:=bne_iff_ne.mpr (by omega)
         have d3:((aC l i).f0 != 3)=false:=bne_eq_false_iff_eq.mpr c4
         clear c4
         go_wp2_with (first|((with_reducible refine (bT.callsP k1 (ad.add (i.toNat * 8)) _ _ _ _ _ A5 c5 _ A6 _ c6 A7 _ c7 _ _ _ x0 x1 x2 x3 x4 x5 x6 x7 G5.out L5.out HT.out).mono ?_);rintro e wa ⟨rfl,hb⟩;have y0:=aP hb x0;have y6:=aP hb x6;have y7:=aP hb x7;have BXA:=am (aN HBQ.out hb);have KA:=am (bY.trans HKQ.out (bY.of_below hb gc none) (.inl rfl));have WA:=am (HWQ.out.trans (hb.mono (Nat.le_of_lt (Nat.lt_of_le_of_lt HGB.out (cK HBQ.out)))));have G6A:=am (Kd.eY G6.out hb);have G7A:=am (Kd.eY G7.out hb);clear hb;(try dsimp only)))
         go_ret
         exact ⟨rfl,BXA.out,KA.out,WA.out⟩
       rw [if_neg j3] at H
       have jb:decide (3≤blocks)=false:=decide_eq_false j3
       clear c3 j3
       obtain ⟨⟨r1,jc⟩,hp,H⟩:=bsm H
       have HP:=am hp
       clear hp
       cases r1 with
       |false=>
        rw [if_neg Bool.false_ne_true] at H
        have h1:=Option.some.inj H
        injection h1 with h1 h2
        subst h1
        subst h2
        clear H
        rcases c4 with c4|c4
        ·have d2:((aC l i).f0 != 2)=false:=bne_eq_false_iff_eq.mpr c4
         clear c4
         go_wp2_with (first|((with_reducible refine (bT.callsP k1 (ad.add (i.toNat * 8)) _ _ _ _ _ A5 c5 _ A6 _ c6 A7 _ c7 _ _ _ x0 x1 x2 x3 x4 x5 x6 x7 G5.out L5.out HT.out).mono ?_);rintro e wa ⟨rfl,hb⟩;have y0:=aP hb x0;have y6:=aP hb x6;have y7:=aP hb x7;have BXA:=am (aN HBQ.out hb);have KA:=am (bY.trans HKQ.out (bY.of_below hb gc none) (.inl rfl));have WA:=am (HWQ.out.trans (hb.mono (Nat.le_of_lt (Nat.lt_of_le_of_lt HGB.out (cK HBQ.out)))));have G6A:=am (Kd.eY G6.out hb);have G7A:=am (Kd.eY G7.out hb);clear hb;(try dsimp only))|((with_reducible refine (ih k1 (by have:=HK.out;omega) A6 c6 _ boxes (wrap64 (blocks + 1)) cq gc B ok _ _ _ G6A.out L6.out HNO.out HGB.out BXA.out HP.out).mono ?_);rintro e wb ⟨rfl,hx,hk,hw⟩;have ne7:=am hk;have u7:=mD hk y7 NE7.out;have G7B:=am (Kd.oN G7A.out (fun q hq hlt=>hk.2 q hlt (fun e=>HNO.out (e ▸ hq)) (by simp)));have BXB:=am hx;have KB:=am (bY.trans KA.out hk (.inl rfl));have WB:=am (WA.out.trans hw);clear hx hk hw;(try dsimp only)))
         go_ret
         exact ⟨rfl,BXB.out,KB.out,WB.out⟩
        ·have d2:((aC l i).f0 != 2)=true:=bne_iff_ne.mpr (by omega)
         have d3:((aC l i).f0 != 3)=false:=bne_eq_false_iff_eq.mpr c4
         clear c4
         go_wp2_with (first|((with_reducible refine (bT.callsP k1 (ad.add (i.toNat * 8)) _ _ _ _ _ A5 c5 _ A6 _ c6 A7 _ c7 _ _ _ x0 x1 x2 x3 x4 x5 x6 x7 G5.out L5.out HT.out).mono ?_);rintro e wa ⟨rfl,hb⟩;have y0:=aP hb x0;have y6:=aP hb x6;have y7:=aP hb x7;have BXA:=am (aN HBQ.out hb);have KA:=am (bY.trans HKQ.out (bY.of_below hb gc none) (.inl rfl));have WA:=am (HWQ.out.trans (hb.mono (Nat.le_of_lt (Nat.lt_of_le_of_lt HGB.out (cK HBQ.out)))));have G6A:=am (Kd.eY G6.out hb);have G7A:=am (Kd.eY G7.out hb);clear hb;(try dsimp only))|((with_reducible refine (ih k1 (by have:=HK.out;omega) A6 c6 _ boxes (wrap64 (blocks + 1)) cq gc B ok _ _ _ G6A.out L6.out HNO.out HGB.out BXA.out HP.out).mono ?_);rintro e wb ⟨rfl,hx,hk,hw⟩;have ne7:=am hk;have u7:=mD hk y7 NE7.out;have G7B:=am (Kd.oN G7A.out (fun q hq hlt=>hk.2 q hlt (fun e=>HNO.out (e ▸ hq)) (by simp)));have BXB:=am hx;have KB:=am (bY.trans KA.out hk (.inl rfl));have WB:=am (WA.out.trans hw);clear hx hk hw;(try dsimp only)))
         go_ret
         exact ⟨rfl,BXB.out,KB.out,WB.out⟩
       |true=>
        rw [if_pos rfl] at H
        obtain ⟨⟨r2,j6⟩,hq,H⟩:=bsm H
        have HQ:=am hq
        clear hq
        cases r2 with
        |false=>
         rw [if_neg Bool.false_ne_true] at H
         have h1:=Option.some.inj H
         injection h1 with h1 h2
         subst h1
         subst h2
         clear H
         rcases c4 with c4|c4
         ·have d2:((aC l i).f0 != 2)=false:=bne_eq_false_iff_eq.mpr c4
          clear c4
          go_wp2_with (first|((with_reducible refine (bT.callsP k1 (ad.add (i.toNat * 8)) _ _ _ _ _ A5 c5 _ A6 _ c6 A7 _ c7 _ _ _ x0 x1 x2 x3 x4 x5 x6 x7 G5.out L5.out HT.out).mono ?_);rintro e wa ⟨rfl,hb⟩;have y0:=aP hb x0;have y6:=aP hb x6;have y7:=aP hb x7;have BXA:=am (aN HBQ.out hb);have KA:=am (bY.trans HKQ.out (bY.of_below hb gc none) (.inl rfl));have WA:=am (HWQ.out.trans (hb.mono (Nat.le_of_lt (Nat.lt_of_le_of_lt HGB.out (cK HBQ.out)))));have G6A:=am (Kd.eY G6.out hb);have G7A:=am (Kd.eY G7.out hb);clear hb;(try dsimp only))|((with_reducible refine (ih k1 (by have:=HK.out;omega) A6 c6 _ boxes (wrap64 (blocks + 1)) cq gc B ok _ _ _ G6A.out L6.out HNO.out HGB.out BXA.out HP.out).mono ?_);rintro e wb ⟨rfl,hx,hk,hw⟩;have ne7:=am hk;have u7:=mD hk y7 NE7.out;have G7B:=am (Kd.oN G7A.out (fun q hq hlt=>hk.2 q hlt (fun e=>HNO.out (e ▸ hq)) (by simp)));have BXB:=am hx;have KB:=am (bY.trans KA.out hk (.inl rfl));have WB:=am (WA.out.trans hw);clear hx hk hw;(try dsimp only))|((with_reducible refine (ih k1 (by have:=HK.out;omega) A7 c7 _ boxes (wrap64 (blocks + 1)) _ gc B ok _ _ _ G7B.out L7.out HNO.out HGB.out BXB.out HQ.out).mono ?_);rintro e wd ⟨rfl,hx,hk,hw⟩;have BXD:=am hx;have KD:=am (bY.trans KB.out hk (.inl rfl));have WD:=am (WB.out.trans hw);clear hx hk hw;(try dsimp only)))
          go_ret
          exact ⟨rfl,BXD.out,KD.out,WD.out⟩
         ·have d2:((aC l i).f0 != 2)=true:=bne_iff_ne.mpr (by omega)
          have d3:((aC l i).f0 != 3)=false:=bne_eq_false_iff_eq.mpr c4
          clear c4
          go_wp2_with (first|((with_reducible refine (bT.callsP k1 (ad.add (i.toNat * 8)) _ _ _ _ _ A5 c5 _ A6 _ c6 A7 _ c7 _ _ _ x0 x1 x2 x3 x4 x5 x6 x7 G5.out L5.out HT.out).mono ?_);rintro e wa ⟨rfl,hb⟩;have y0:=aP hb x0;have y6:=aP hb x6;have y7:=aP hb x7;have BXA:=am (aN HBQ.out hb);have KA:=am (bY.trans HKQ.out (bY.of_below hb gc none) (.inl rfl));have WA:=am (HWQ.out.trans (hb.mono (Nat.le_of_lt (Nat.lt_of_le_of_lt HGB.out (cK HBQ.out)))));have G6A:=am (Kd.eY G6.out hb);have G7A:=am (Kd.eY G7.out hb);clear hb;(try dsimp only))|((with_reducible refine (ih k1 (by have:=HK.out;omega) A6 c6 _ boxes (wrap64 (blocks + 1)) cq gc B ok _ _ _ G6A.out L6.out HNO.out HGB.out BXA.out HP.out).mono ?_);rintro e wb ⟨rfl,hx,hk,hw⟩;have ne7:=am hk;have u7:=mD hk y7 NE7.out;have G7B:=am (Kd.oN G7A.out (fun q hq hlt=>hk.2 q hlt (fun e=>HNO.out (e ▸ hq)) (by simp)));have BXB:=am hx;have KB:=am (bY.trans KA.out hk (.inl rfl));have WB:=am (WA.out.trans hw);clear hx hk hw;(try dsimp only))|((with_reducible refine (ih k1 (by have:=HK.out;omega) A7 c7 _ boxes (wrap64 (blocks + 1)) _ gc B ok _ _ _ G7B.out L7.out HNO.out HGB.out BXB.out HQ.out).mono ?_);rintro e wd ⟨rfl,hx,hk,hw⟩;have BXD:=am hx;have KD:=am (bY.trans KB.out hk (.inl rfl));have WD:=am (WB.out.trans hw);clear hx hk hw;(try dsimp only)))
          go_ret
          exact ⟨rfl,BXD.out,KD.out,WD.out⟩
        |true=>
         rw [if_pos rfl] at H
         have H':=am H
         clear H
         rcases c4 with c4|c4
         ·have d2:((aC l i).f0 != 2)=false:=bne_eq_false_iff_eq.mpr c4
          clear c4
          go_wp2_with (first|((with_reducible refine (bT.callsP k1 (ad.add (i.toNat * 8)) _ _ _ _ _ A5 c5 _ A6 _ c6 A7 _ c7 _ _ _ x0 x1 x2 x3 x4 x5 x6 x7 G5.out L5.out HT.out).mono ?_);rintro e wa ⟨rfl,hb⟩;have y0:=aP hb x0;have y6:=aP hb x6;have y7:=aP hb x7;have BXA:=am (aN HBQ.out hb);have KA:=am (bY.trans HKQ.out (bY.of_below hb gc none) (.inl rfl));have WA:=am (HWQ.out.trans (hb.mono (Nat.le_of_lt (Nat.lt_of_le_of_lt HGB.out (cK HBQ.out)))));have G6A:=am (Kd.eY G6.out hb);have G7A:=am (Kd.eY G7.out hb);clear hb;(try dsimp only))|((with_reducible refine (ih k1 (by have:=HK.out;omega) A6 c6 _ boxes (wrap64 (blocks + 1)) cq gc B ok _ _ _ G6A.out L6.out HNO.out HGB.out BXA.out HP.out).mono ?_);rintro e wb ⟨rfl,hx,hk,hw⟩;have ne7:=am hk;have u7:=mD hk y7 NE7.out;have G7B:=am (Kd.oN G7A.out (fun q hq hlt=>hk.2 q hlt (fun e=>HNO.out (e ▸ hq)) (by simp)));have BXB:=am hx;have KB:=am (bY.trans KA.out hk (.inl rfl));have WB:=am (WA.out.trans hw);clear hx hk hw;(try dsimp only))|((with_reducible refine (ih k1 (by have:=HK.out;omega) A7 c7 _ boxes (wrap64 (blocks + 1)) _ gc B ok _ _ _ G7B.out L7.out HNO.out HGB.out BXB.out HQ.out).mono ?_);rintro e wd ⟨rfl,hx,hk,hw⟩;have BXD:=am hx;have KD:=am (bY.trans KB.out hk (.inl rfl));have WD:=am (WB.out.trans hw);clear hx hk hw;(try dsimp only)))
          go_roundg k1
          case measure=>have:=HK.out;omega
          case rel=>exact ⟨wrap64 (i + 1),j6,sd_,H',⟨by have:=HK.out;omega⟩,BXD,KD,WD⟩
         ·have d2:((aC l i).f0 != 2)=true:=bne_iff_ne.mpr (by omega)
          have d3:((aC l i).f0 != 3)=false:=bne_eq_false_iff_eq.mpr c4
          clear c4
          go_wp2_with (first|((with_reducible refine (bT.callsP k1 (ad.add (i.toNat * 8)) _ _ _ _ _ A5 c5 _ A6 _ c6 A7 _ c7 _ _ _ x0 x1 x2 x3 x4 x5 x6 x7 G5.out L5.out HT.out).mono ?_);rintro e wa ⟨rfl,hb⟩;have y0:=aP hb x0;have y6:=aP hb x6;have y7:=aP hb x7;have BXA:=am (aN HBQ.out hb);have KA:=am (bY.trans HKQ.out (bY.of_below hb gc none) (.inl rfl));have WA:=am (HWQ.out.trans (hb.mono (Nat.le_of_lt (Nat.lt_of_le_of_lt HGB.out (cK HBQ.out)))));have G6A:=am (Kd.eY G6.out hb);have G7A:=am (Kd.eY G7.out hb);clear hb;(try dsimp only))|((with_reducible refine (ih k1 (by have:=HK.out;omega) A6 c6 _ boxes (wrap64 (blocks + 1)) cq gc B ok _ _ _ G6A.out L6.out HNO.out HGB.out BXA.out HP.out).mono ?_);rintro e wb ⟨rfl,hx,hk,hw⟩;have ne7:=am hk;have u7:=mD hk y7 NE7.out;have G7B:=am (Kd.oN G7A.out (fun q hq hlt=>hk.2 q hlt (fun e=>HNO.out (e ▸ hq)) (by simp)));have BXB:=am hx;have KB:=am (bY.trans KA.out hk (.inl rfl));have WB:=am (WA.out.trans hw);clear hx hk hw;(try dsimp only))|((with_reducible refine (ih k1 (by have:=HK.out;omega) A7 c7 _ boxes (wrap64 (blocks + 1)) _ gc B ok _ _ _ G7B.out L7.out HNO.out HGB.out BXB.out HQ.out).mono ?_);rintro e wd ⟨rfl,hx,hk,hw⟩;have BXD:=am hx;have KD:=am (bY.trans KB.out hk (.inl rfl));have WD:=am (WB.out.trans hw);clear hx hk hw;(try dsimp only)))
          go_roundg k1
          case measure=>have:=HK.out;omega
          case rel=>exact ⟨wrap64 (i + 1),j6,sd_,H',⟨by have:=HK.out;omega⟩,BXD,KD,WD⟩
      rw [if_neg c4] at H
      have d2:((aC l i).f0 != 2)=true:=bne_iff_ne.mpr (fun e=>c4 (.inl e))
      have d3:((aC l i).f0 != 3)=true:=bne_iff_ne.mpr (fun e=>c4 (.inr e))
      have H':=am H
      clear H c3 c4
      go_wp2_with (first|((with_reducible refine (bT.callsP k1 (ad.add (i.toNat * 8)) _ _ _ _ _ A5 c5 _ A6 _ c6 A7 _ c7 _ _ _ x0 x1 x2 x3 x4 x5 x6 x7 G5.out L5.out HT.out).mono ?_);rintro e wa ⟨rfl,hb⟩;have y0:=aP hb x0;have y6:=aP hb x6;have y7:=aP hb x7;have BXA:=am (aN HBQ.out hb);have KA:=am (bY.trans HKQ.out (bY.of_below hb gc none) (.inl rfl));have WA:=am (HWQ.out.trans (hb.mono (Nat.le_of_lt (Nat.lt_of_le_of_lt HGB.out (cK HBQ.out)))));have G6A:=am (Kd.eY G6.out hb);have G7A:=am (Kd.eY G7.out hb);clear hb;(try dsimp only)))
      go_roundg k1
      case measure=>have:=HK.out;omega
      case rel=>exact ⟨wrap64 (i + 1),cq,sd_,H',⟨by have:=HK.out;omega⟩,BXA,KA,WA⟩
    rw [if_neg c2] at H
    exact absurd H (by simp)
   rw [if_neg c1] at H
   have j9:decide (i < (l.length:Int))=false:=decide_eq_false c1
   have h1:=Option.some.inj H
   injection h1 with h1 h2
   subst h1
   subst h2
   clear H
   go_wp2
   go_ret
   exact ⟨rfl,HBQ.out,HKQ.out,HWQ.out⟩
theorem dN.mono:∀ l0 a1 k,LeO (dN.f k l0 a1) (dN.f (k + 1) l0 a1):=by
 intro l0 a1 k
 unfold dN.f
 exact LeO.bind (aZ.mono _ _ _ _ _) (fun _=>LeO.refl _)
theorem dN.calls (k:Nat) (A0:Option Addr) (c0:Nat) (l0:List (S70)) (a1:Int) (r:Bool) (w:World) (hr0:Kd.C k70 w A0 l0.length l0) (hc0:l0.length≤c0) (h:dN.f k l0 a1=some r):
  Calls Try.prog 66 #[.slice A0 l0.length c0, .int .i64 a1] w fun e w'=>e= .returned (.bool r)∧Below w.heap.size w w':=by
 unfold dN.f at h
 replace h:=Option.bind_eq_some_iff.mp h
 obtain ⟨⟨r',cnt'⟩,hv,h⟩:=h
 obtain rfl:=Option.some.inj h
 have HV:=am hv
 have HF:=am (Kd.C_F KL hr0)
 have j3:=am hc0
 clear hr0 hc0 h hv
 go_enter Try.func66,Try.ntmps66
 go_upto_region 2 with (first|((with_reducible refine bL (N:=5) rfl ?_);refine cB (N:=5) rfl rfl (cs:=#[.int .i64 0]) (t:=3) rn_ ?_;intro gb hg w1 hbox hb;have z0:w1.cell? ⟨gb,0,none⟩=some (.int .i64 0):=aA hbox 0;have f0:=aG hbox 0;have HG:=am (Nat.le_of_eq hg.symm);have HBX:=am (aS (cs':=#[.int .i64 0]) hbox 0 (.int .i64 0) rfl);have HB:=am (below_set (j:=0) (v:= .int .i64 0) hb (Nat.le_of_eq hg.symm));clear hbox hb hg)|fail)
 go_wp2_with (first|((with_reducible refine (aZ.callsP k A0 c0 l0 a1 0 0 _ w.heap.size (fun q=>q < w.heap.size) r' cnt' _ (Kd.eY HF.out HB.out) j3.out (Nat.not_lt.mpr HG.out) HG.out HBX.out HV.out).mono ?_);rintro e w2 ⟨rfl,_,_,hw⟩;have HW:=am (HB.out.trans hw);clear hw;(try dsimp only))|fail)
 go_ret
 exact ⟨rfl,HW.out⟩
theorem eF.mono:∀ a0 k,LeO (eF.f k a0) (eF.f (k + 1) a0):=by
 intro a0 k
 unfold eF.f
 have m0:=@dN.mono
 exact mo_
theorem eF.calls (k:Nat) (A0:Option Addr) (c0:Nat) (l0:List (S70)) (r:Bool) (w:World) (hr0:Kd.C k70 w A0 l0.length l0) (hc0:l0.length≤c0) (h:eF.f k l0=some r):
  Calls Try.prog 40 #[.slice A0 l0.length c0] w fun e w'=>e= .returned (.bool r)∧Below w.heap.size w w':=by
 have j4:=am hr0
 have j5:=am hc0
 clear hr0 hc0
 have HB:=am (Below.refl w.heap.size w)
 have H:((dN.f k l0 3).bind fun j3=>(some j3))=some r:=h
 clear h
 obtain ⟨j3,A2,H⟩:=bsa H
 (try dsimp only at H)
 obtain rfl:=Option.some.inj H
 go_enter Try.func40,Try.ntmps40
 go_wp2_with (first|((with_reducible refine aD (f:=66) rfl ?_);refine aM (some 4) rfl rfl Try.func66 (by kernel_rfl) rfl #[.slice A0 l0.length c0, .int .i64 3] rfl dB ?_;(with_reducible refine (dN.calls k _ _ l0 3 j3 _ (aC_ j4.out) j5.out A2.out).mono ?_);rintro e w3 ⟨rfl,hb⟩;refine ⟨_,rfl,?_⟩;replace HB:=am (aB dK hb);(try clear hb)))
 go_ret
 exact ⟨rr_,dK⟩
theorem iN.calls (a0:Bool) (r:Int) (w:World) (h:iN.f a0=some r):
  Calls Try.prog 78 #[.bool a0] w fun e w'=>e= .returned (.int .i64 r)∧fC w w':=by
 have H:(if a0=true then (some 1) else (some 0))=some r:=h
 clear h
 by_cases c2:a0=true
 ·subst c2
  rw [if_pos rfl] at H
  obtain rfl:=Option.some.inj H
  go_enter Try.func78,Try.ntmps78
  go_wp2
  go_ret
  exact ⟨sd_,eO⟩
 replace c2:=Bool.eq_false_iff.mpr c2
 subst c2
 rw [if_neg (show ¬ (false=true) by decide)] at H
 obtain rfl:=Option.some.inj H
 go_enter Try.func78,Try.ntmps78
 go_wp2
 go_ret
 exact ⟨sd_,eO⟩
theorem fU.calls (a0:Int) (r:Int) (w:World) (h:fU.f a0=some r):
  Calls Try.prog 79 #[.int .i64 a0] w fun e w'=>e= .returned (.int .i64 r)∧fC w w':=by
 have H:(some (wrap64 (wrap32 (a0))))=some r:=h
 clear h
 obtain rfl:=Option.some.inj H
 go_enter Try.func79,Try.ntmps79
 go_wp2
 go_ret
 exact ⟨sd_,eO⟩
theorem fV.calls (a0:Int) (a1:Int) (a2:Int) (r:Int) (w:World) (h:fV.f a0 a1 a2=some r):
  Calls Try.prog 62 #[.int .i64 a0, .int .i64 a1, .int .i64 a2] w fun e w'=>e= .returned (.int .i64 r)∧fC w w':=by
 unfold fV.f at h
 have H:=h
 clear h
 by_cases c4:a0=1
 ·rw [if_pos c4] at H
  have jt:(a0 == 1)=true:=beq_iff_eq.mpr c4
  have ju:(a0 != 1)=false:=bne_eq_false_iff_eq.mpr c4
  clear c4
  obtain rfl:=Option.some.inj H
  go_enter Try.func62,Try.ntmps62
  go_wp2
  go_ret
  exact ⟨sd_,eO⟩
 rw [if_neg c4] at H
 have jt:(a0 == 1)=false:=beq_eq_false_iff_ne.mpr c4
 have ju:(a0 != 1)=true:=bne_iff_ne.mpr c4
 by_cases c5:a0=2
 ·rw [if_pos c5] at H
  have jv:(a0 == 2)=true:=beq_iff_eq.mpr c5
  have jw:(a0 != 2)=false:=bne_eq_false_iff_eq.mpr c5
  clear c5
  obtain rfl:=Option.some.inj H
  go_enter Try.func62,Try.ntmps62
  go_wp2
  go_ret
  exact ⟨sd_,eO⟩
 rw [if_neg c5] at H
 have jv:(a0 == 2)=false:=beq_eq_false_iff_ne.mpr c5
 have jw:(a0 != 2)=true:=bne_iff_ne.mpr c5
 by_cases c6:a0=3
 ·rw [if_pos c6] at H
  have jx:(a0 == 3)=true:=beq_iff_eq.mpr c6
  have jy:(a0 != 3)=false:=bne_eq_false_iff_eq.mpr c6
  clear c6
  obtain rfl:=Option.some.inj H
  go_enter Try.func62,Try.ntmps62
  go_wp2
  go_ret
  exact ⟨sd_,eO⟩
 rw [if_neg c6] at H
 have jx:(a0 == 3)=false:=beq_eq_false_iff_ne.mpr c6
 have jy:(a0 != 3)=true:=bne_iff_ne.mpr c6
 by_cases c7:a0=4
 ·rw [if_pos c7] at H
  have jz:(a0 == 4)=true:=beq_iff_eq.mpr c7
  have jA:(a0 != 4)=false:=bne_eq_false_iff_eq.mpr c7
  clear c7
  obtain ⟨jN,A8,H⟩:=bsa H
  (try dsimp only at H)
  obtain rfl:=Option.some.inj H
  go_enter Try.func62,Try.ntmps62
  go_wp2_with (first|((with_reducible refine aD (f:=78) rfl ?_);refine aM (some 28) rfl rfl Try.func78 (by kernel_rfl) rfl #[.bool (a1 == a2)] rfl dB ?_;(with_reducible refine (iN.calls (a1 == a2) jN _ A8.out).mono ?_);rintro e w' ⟨rfl,⟨nd,rfl⟩⟩;refine ⟨_,rfl,?_⟩))
  go_ret
  exact ⟨sd_,eO⟩
 rw [if_neg c7] at H
 have jz:(a0 == 4)=false:=beq_eq_false_iff_ne.mpr c7
 have jA:(a0 != 4)=true:=bne_iff_ne.mpr c7
 by_cases c9:a0=5
 ·rw [if_pos c9] at H
  have jB:(a0 == 5)=true:=beq_iff_eq.mpr c9
  have jC:(a0 != 5)=false:=bne_eq_false_iff_eq.mpr c9
  clear c9
  obtain ⟨jO,jE,H⟩:=bsm H
  (try dsimp only at H)
  have jP:=am jE
  clear jE
  obtain rfl:=Option.some.inj H
  go_enter Try.func62,Try.ntmps62
  go_wp2_with (first|((with_reducible refine aD (f:=78) rfl ?_);refine aM (some 34) rfl rfl Try.func78 (by kernel_rfl) rfl #[.bool (decide (a1 < a2))] rfl dB ?_;(with_reducible refine (iN.calls (decide (a1 < a2)) jO _ jP.out).mono ?_);rintro e w' ⟨rfl,⟨nd,rfl⟩⟩;refine ⟨_,rfl,?_⟩))
  go_ret
  exact ⟨sd_,eO⟩
 rw [if_neg c9] at H
 have jB:(a0 == 5)=false:=beq_eq_false_iff_ne.mpr c9
 have jC:(a0 != 5)=true:=bne_iff_ne.mpr c9
 by_cases j3:a0=6
 ·rw [if_pos j3] at H
  have jb:(a0 == 6)=true:=beq_iff_eq.mpr j3
  have jc:(a0 != 6)=false:=bne_eq_false_iff_eq.mpr j3
  clear j3
  by_cases jd:0≤(Go.bits .and .i64 a2 31)
  ·rw [if_pos jd] at H
   have jF:=eq_true jd
   have jG:decide (0≤(Go.bits .and .i64 a2 31))=true:=decide_eq_true jd
   clear jd
   obtain ⟨ji13,hji13⟩:∃ j_:Int,(shl .i64 a1 (Go.bits .and .i64 a2 31))=j_:=⟨_,rfl⟩
   replace H:((fU.f (ji13)).bind fun jD=>(some jD))=some r:=by first|(rw [hji13] at H;exact H)|(simp only [hji13] at H ⊢;exact H)
   have hji13_:(IntKind.i64.wrap (a1 * 2 ^ min (Go.bits .and .i64 a2 31).toNat 64))=ji13:=hji13
   have hji13z:(Go.bits .and .i64 a2 31)≤64→(IntKind.i64.wrap (a1 * 2 ^ (Go.bits .and .i64 a2 31).toNat))=ji13:=xV hji13
   have hji13y:(wrap64 (a1 * 2 ^ min (Go.bits .and .i64 a2 31).toNat 64))=ji13:=(gB _).symm.trans hji13_
   have hji13x:(Go.bits .and .i64 a2 31)≤64→(wrap64 (a1 * 2 ^ (Go.bits .and .i64 a2 31).toNat))=ji13:=fun h_=>(gB _).symm.trans (hji13z h_)
   obtain ⟨jD,jH,H⟩:=bsm H
   (try dsimp only at H)
   have jQ:=am jH
   clear jH
   obtain rfl:=Option.some.inj H
   go_enter Try.func62,Try.ntmps62
   go_wp2_with (first|((with_reducible refine aD (f:=79) rfl ?_);refine aM (some 41) rfl rfl Try.func79 (by kernel_rfl) rfl #[.int .i64 ji13] rfl (by (try simp only [List.map_toArray,List.map_cons,List.map_nil]);first|done|(simp only [hji13];rfl)|rfl|(simp only [List.length_drop,List.length_take];rfl)) ?_;(with_reducible refine (fU.calls ji13 jD _ jQ.out).mono ?_);rintro e w' ⟨rfl,⟨nd,rfl⟩⟩;refine ⟨_,rfl,?_⟩))
   go_ret
   exact ⟨by first|rfl|(simp;done)|(simp only [← hji13] <;> (first|rfl|simp))|(simp [*];done),eO⟩
  rw [if_neg jd] at H
  exact absurd H (by simp)
 rw [if_neg j3] at H
 have jb:(a0 == 6)=false:=beq_eq_false_iff_ne.mpr j3
 have jc:(a0 != 6)=true:=bne_iff_ne.mpr j3
 by_cases j4:a0=7
 ·rw [if_pos j4] at H
  have je:(a0 == 7)=true:=beq_iff_eq.mpr j4
  have jf:(a0 != 7)=false:=bne_eq_false_iff_eq.mpr j4
  clear j4
  by_cases jg:0≤(Go.bits .and .i64 a2 31)
  ·rw [if_pos jg] at H
   have jI:=eq_true jg
   have jJ:decide (0≤(Go.bits .and .i64 a2 31))=true:=decide_eq_true jg
   clear jg
   obtain ⟨ji17,hji17⟩:∃ j_:Int,(shr .i64 a1 (Go.bits .and .i64 a2 31))=j_:=⟨_,rfl⟩
   replace H:(some ji17)=some r:=by first|(rw [hji17] at H;exact H)|(simp only [hji17] at H ⊢;exact H)
   have hji17_:(a1 / 2 ^ min (Go.bits .and .i64 a2 31).toNat 64)=ji17:=hji17
   have hji17z:(Go.bits .and .i64 a2 31)≤64→(a1 / 2 ^ (Go.bits .and .i64 a2 31).toNat)=ji17:=xW hji17
   obtain rfl:=Option.some.inj H
   go_enter Try.func62,Try.ntmps62
   go_wp2
   go_ret
   exact ⟨by first|rfl|(simp;done)|(simp only [← hji17] <;> (first|rfl|simp))|(simp [*];done),eO⟩
  rw [if_neg jg] at H
  exact absurd H (by simp)
 rw [if_neg j4] at H
 have je:(a0 == 7)=false:=beq_eq_false_iff_ne.mpr j4
 have jf:(a0 != 7)=true:=bne_iff_ne.mpr j4
 by_cases j5:a0=8
 ·rw [if_pos j5] at H
  have jh:(a0 == 8)=true:=beq_iff_eq.mpr j5
  have ji:(a0 != 8)=false:=bne_eq_false_iff_eq.mpr j5
  clear j5
  obtain ⟨jR,jS,H⟩:=bsa H
  (try dsimp only at H)
  obtain rfl:=Option.some.inj H
  go_enter Try.func62,Try.ntmps62
  go_wp2_with (first|((with_reducible refine aD (f:=79) rfl ?_);refine aM (some 53) rfl rfl Try.func79 (by kernel_rfl) rfl #[.int .i64 (wrap64 (a1 + a2))] rfl dB ?_;(with_reducible refine (fU.calls (wrap64 (a1 + a2)) jR _ jS.out).mono ?_);rintro e w' ⟨rfl,⟨nd,rfl⟩⟩;refine ⟨_,rfl,?_⟩))
  go_ret
  exact ⟨sd_,eO⟩
 rw [if_neg j5] at H
 have jh:(a0 == 8)=false:=beq_eq_false_iff_ne.mpr j5
 have ji:(a0 != 8)=true:=bne_iff_ne.mpr j5
 by_cases j6:a0=9
 ·rw [if_pos j6] at H
  have jj:(a0 == 9)=true:=beq_iff_eq.mpr j6
  have jk:(a0 != 9)=false:=bne_eq_false_iff_eq.mpr j6
  clear j6
  obtain ⟨jT,jK,H⟩:=bsm H
  (try dsimp only at H)
  have jU:=am jK
  clear jK
  obtain rfl:=Option.some.inj H
  go_enter Try.func62,Try.ntmps62
  go_wp2_with (first|((with_reducible refine aD (f:=79) rfl ?_);refine aM (some 59) rfl rfl Try.func79 (by kernel_rfl) rfl #[.int .i64 (wrap64 (a1 - a2))] rfl dB ?_;(with_reducible refine (fU.calls (wrap64 (a1 - a2)) jT _ jU.out).mono ?_);rintro e w' ⟨rfl,⟨nd,rfl⟩⟩;refine ⟨_,rfl,?_⟩))
  go_ret
  exact ⟨sd_,eO⟩
 rw [if_neg j6] at H
 have jj:(a0 == 9)=false:=beq_eq_false_iff_ne.mpr j6
 have jk:(a0 != 9)=true:=bne_iff_ne.mpr j6
 by_cases j7:a0=10
 ·rw [if_pos j7] at H
  have jl:(a0 == 10)=true:=beq_iff_eq.mpr j7
  have jm:(a0 != 10)=false:=bne_eq_false_iff_eq.mpr j7
  clear j7
  obtain ⟨jV,jL,H⟩:=bsm H
  (try dsimp only at H)
  have jW:=am jL
  clear jL
  obtain rfl:=Option.some.inj H
  go_enter Try.func62,Try.ntmps62
  go_wp2_with (first|((with_reducible refine aD (f:=79) rfl ?_);refine aM (some 65) rfl rfl Try.func79 (by kernel_rfl) rfl #[.int .i64 (wrap64 (a1 * a2))] rfl dB ?_;(with_reducible refine (fU.calls (wrap64 (a1 * a2)) jV _ jW.out).mono ?_);rintro e w' ⟨rfl,⟨nd,rfl⟩⟩;refine ⟨_,rfl,?_⟩))
  go_ret
  exact ⟨sd_,eO⟩
 rw [if_neg j7] at H
 have jl:(a0 == 10)=false:=beq_eq_false_iff_ne.mpr j7
 have jm:(a0 != 10)=true:=bne_iff_ne.mpr j7
 by_cases j8:a0=11
 ·rw [if_pos j8] at H
  have jn:(a0 == 11)=true:=beq_iff_eq.mpr j8
  have jo:(a0 != 11)=false:=bne_eq_false_iff_eq.mpr j8
  clear j8
  by_cases j9:a2=0
  ·rw [if_pos j9] at H
   have jp:(a2 == 0)=true:=beq_iff_eq.mpr j9
   have jq:(a2 != 0)=false:=bne_eq_false_iff_eq.mpr j9
   clear j9
   obtain rfl:=Option.some.inj H
   go_enter Try.func62,Try.ntmps62
   go_wp2
   go_ret
   exact ⟨sd_,eO⟩
  rw [if_neg j9] at H
  have jp:(a2 == 0)=false:=beq_eq_false_iff_ne.mpr j9
  have jq:(a2 != 0)=true:=bne_iff_ne.mpr j9
  obtain ⟨jX,jM,H⟩:=bsm H
  (try dsimp only at H)
  have jY:=am jM
  clear jM
  obtain rfl:=Option.some.inj H
  go_enter Try.func62,Try.ntmps62
  go_wp2_with (first|((with_reducible refine aD (f:=79) rfl ?_);refine aM (some 73) rfl rfl Try.func79 (by kernel_rfl) rfl #[.int .i64 (wrap64 (Int.tdiv a1 a2))] rfl dB ?_;(with_reducible refine (fU.calls (wrap64 (Int.tdiv a1 a2)) jX _ jY.out).mono ?_);rintro e w' ⟨rfl,⟨nd,rfl⟩⟩;refine ⟨_,rfl,?_⟩))
  go_ret
  exact ⟨sd_,eO⟩
 rw [if_neg j8] at H
 have jn:(a0 == 11)=false:=beq_eq_false_iff_ne.mpr j8
 have jo:(a0 != 11)=true:=bne_iff_ne.mpr j8
 by_cases ja:a2=0
 ·rw [if_pos ja] at H
  have jr:(a2 == 0)=true:=beq_iff_eq.mpr ja
  have js:(a2 != 0)=false:=bne_eq_false_iff_eq.mpr ja
  clear ja
  obtain rfl:=Option.some.inj H
  go_enter Try.func62,Try.ntmps62
  go_wp2
  go_ret
  exact ⟨sd_,eO⟩
 rw [if_neg ja] at H
 have jr:(a2 == 0)=false:=beq_eq_false_iff_ne.mpr ja
 have js:(a2 != 0)=true:=bne_iff_ne.mpr ja
 obtain rfl:=Option.some.inj H
 go_enter Try.func62,Try.ntmps62
 go_wp2
 go_ret
 exact ⟨sd_,eO⟩
theorem aX.mono_l:∀ k,(∀ y0 y1 y2,LeO (aX.f k y0 y1 y2) (aX.f (k + 1) y0 y1 y2))∧(∀ y0 y1 y2 y3 y4 y5 y6 y7 y8 y9,LeO (aX.j0 k y0 y1 y2 y3 y4 y5 y6 y7 y8 y9) (aX.j0 (k + 1) y0 y1 y2 y3 y4 y5 y6 y7 y8 y9))
 |0=>⟨fun _ _ _ r h=>by simp [aX.f] at h,fun _ _ _ _ _ _ _ _ _ _ r h=>by simp [aX.j0] at h⟩
 |k + 1=>by
  obtain ⟨ih0,ih1⟩:=aX.mono_l k
  refine ⟨?_,?_⟩
  ·intro y0 y1 y2
   unfold aX.f
   exact mo_
  ·intro y0 y1 y2 y3 y4 y5 y6 y7 y8 y9
   unfold aX.j0
   exact mo_
theorem aX.mono:∀ a0 a1 a2 k,LeO (aX.f k a0 a1 a2) (aX.f (k + 1) a0 a1 a2):=by
 intro a0 a1 a2 k
 obtain ⟨ih0,ih1⟩:=aX.mono_l k
 exact ih0 a0 a1 a2
def GV (d:Kd S28):Kd S28:=Kd.iso (Kd.pair (Kd.int .i64) (Kd.pair (Kd.int .i64) (wL 28 d))) (fun x:S28=>(x.f0,x.f1,x.f2))
theorem monoS28:Kd.kP GV:=Kd.mono_iso _ (Kd.mono_pair (Kd.mono_const _) (Kd.mono_pair (Kd.mono_const _) (mono_sliceS 28 Kd.mono_id)))
theorem OM:Kd.Sub GV [28]:=Kd.pX _ (Kd.fQ (Kd.sub_const _ (by decide)) (Kd.fQ (Kd.sub_const _ (by decide)) (sH 28 (by decide) Kd.oI)))
theorem NG:∀ n,(Kd.upto GV 3 [28] n).sz=3:=Kd.pY (fun _=>rfl)
def kH:Kd S28:=Kd.fix GV 3 [28] NG (Kd.sK OM)
theorem nY {w:World} {base:Nat} {ok:Nat→Prop} {x:S28} {cs:List Value} (h:kH.M w base ok x cs):∃ v2,cs=[.int .i64 x.f0, .int .i64 x.f1,v2]∧Kd.S kH 28 w base ok v2 x.f2:=by
 obtain ⟨n,h⟩:=h
 cases n with
 |zero=>exact h.elim
 |succ n=>
  obtain ⟨_,_,rfl,rfl,⟨_,_,rfl,rfl,⟨v2,rfl,g2⟩⟩⟩:=h
  exact ⟨v2,rfl,IZ g2⟩
theorem gP (w:World) (base:Nat) (ok:Nat→Prop) (x:S28) {v2:Value} (g2:Kd.S kH 28 w base ok v2 x.f2):kH.M w base ok x [.int .i64 x.f0, .int .i64 x.f1,v2]:=by
 obtain ⟨n2,r2⟩:=rQ monoS28 g2
 exact ⟨n2 + 1,⟨[.int .i64 x.f0],[.int .i64 x.f1,v2],rfl,rfl,⟨[.int .i64 x.f1],[v2],rfl,rfl,⟨v2,rfl,r2⟩⟩⟩⟩
theorem wG:∀ n {w base ok x cs},(Kd.upto GV 3 [28] n).M w base ok x cs→(Kd.upto F28 3 [28] n).M w base ok x cs
 |0,_,_,_,_,_,h=>h.elim
 |n + 1,w,base,ok,x,cs,h=>by
  obtain ⟨_,_,rfl,rfl,⟨_,_,rfl,rfl,⟨v2,rfl,g2⟩⟩⟩:=h
  exact ⟨_,_,rfl,rfl,⟨_,_,rfl,rfl,⟨v2,rfl,Kd.vT (by rw [NG n,OP n]) (fun _ _ _ _ _ hp=>wG n hp) (Kd.S_R g2)⟩⟩⟩
theorem OD {w:World} {base:Nat} {ok:Nat→Prop} {v:Value} {xs:List S28} (h:Kd.S kH 28 w base ok v xs):k28.R 28 w base ok v xs:=
 Kd.vT (d:=kH) (d':=k28) rfl (fun w base ok x cs hp=>by obtain ⟨n,hp⟩:=hp;exact ⟨n,wG n hp⟩) (Kd.S_R h)
structure FXF (w W0:World) (x0 x1:Int) (x2:List S28) (y0 y1:Int) (y2:List S28) (A19:Option Addr) (c19:Nat) (A24:Option Addr) (c24:Nat) (g3 g4 hA:Nat) (b4 b9 b10 b11 b12 b13:Bool) (W:World):Prop where
 hB:Below W0.heap.size W0 W
 hA_:b4=true→hA≤W.heap.size
 h4:b4=true→Kd.S kH 28 W W0.heap.size (fun q=>q < hA∧(b10=true→q≠g3)∧(b11=true→q≠g4)) (.slice A19 x2.length c19) x2
 h9:b9=true→Kd.S kH 28 W W0.heap.size (fun q=>hA≤q∧(b10=true→q≠g3)∧(b11=true→q≠g4)) (.slice A24 y2.length c24) y2
 h10:b10=true→W0.heap.size≤g3∧W.heap[g3]?=some (.cells (cond b12 #[(.int .i64 x0),(.int .i64 x1),(.slice A19 x2.length c19)] #[(.int .i64 0),(.int .i64 0),(.slice none 0 0)]) 28 (0,0))
 h11:b11=true→W0.heap.size≤g4∧W.heap[g4]?=some (.cells (cond b13 #[(.int .i64 y0),(.int .i64 y1),(.slice A24 y2.length c24)] #[(.int .i64 0),(.int .i64 0),(.slice none 0 0)]) 28 (0,0))
 hne:b10=true→b11=true→g3≠g4
def aXF (w W0:World) (g1 g2:Nat) (a0 a1:Int) (ad:Addr) (c0:Nat) (l:List S28) (p0 p1:Int) (Ap:Option Addr) (cp:Nat) (p2:List S28) (q0 q1:Int) (Aq:Option Addr) (cq:Nat) (q2:List S28) (x0 x1:Int) (x2:List S28) (y0 y1:Int) (y2:List S28) (A19:Option Addr) (c19:Nat) (A24:Option Addr) (c24:Nat) (g3:Nat) (g4:Nat) (hA:Nat) (b0 b1 b2 b3 b4 b5 b6 b7 b8 b9 b10 b11 b12 b13:Bool):Act:=
 { tmps:=#[(.agg #[(.int .i64 a0),(.int .i64 a1),(.slice (some ad) l.length c0)]),(.pointer (some ⟨g1,0,none⟩)),(.pointer (some ⟨g2,0,none⟩)),cond b10 (.pointer (some ⟨g3,0,none⟩)) undef,cond b11 (.pointer (some ⟨g4,0,none⟩)) undef,undef,(.pointer (some ⟨g1,2,none⟩)),(.slice (some ad) l.length c0),(.int .i64 (l.length:Int)),(.bool false),undef,undef,undef,undef,undef,cond b0 (.pointer (some ⟨g1,2,none⟩)) undef,cond b1 (.slice (some ad) l.length c0) undef,cond b2 (.pointer (some ad)) undef,cond b3 (.agg #[(.int .i64 p0),(.int .i64 p1),(.slice Ap p2.length cp)]) undef,cond b4 (.agg #[(.int .i64 x0),(.int .i64 x1),(.slice A19 x2.length c19)]) undef,cond b5 (.pointer (some ⟨g1,2,none⟩)) undef,cond b6 (.slice (some ad) l.length c0) undef,cond b7 (.pointer (some ⟨ad.block,ad.off + 3,none⟩)) undef,cond b8 (.agg #[(.int .i64 q0),(.int .i64 q1),(.slice Aq q2.length cq)]) undef,cond b9 (.agg #[(.int .i64 y0),(.int .i64 y1),(.slice A24 y2.length c24)]) undef,undef,undef,undef,undef,undef,undef,undef,undef,undef,undef,undef,undef,undef,undef,undef,undef,undef,undef,undef,undef,undef,undef,undef,undef,undef,undef,undef,undef,undef],defers:=[] }
def LXF (w W0:World) (g1 g2:Nat) (a0 a1:Int) (ad:Addr) (c0:Nat) (l:List S28) (p0 p1:Int) (Ap:Option Addr) (cp:Nat) (p2:List S28) (q0 q1:Int) (Aq:Option Addr) (cq:Nat) (q2:List S28) (x0 x1:Int) (x2:List S28) (y0 y1:Int) (y2:List S28) (b0 b1 b2 b3 b4 b5 b6 b7 b8 b9 b10 b11 b12 b13:Bool) (a:Act) (W:World):Prop:=
 ∃ (A19:Option Addr) (c19:Nat) (A24:Option Addr) (c24:Nat) (g3:Nat) (g4:Nat) (hA:Nat),a=aXF w W0 g1 g2 a0 a1 ad c0 l p0 p1 Ap cp p2 q0 q1 Aq cq q2 x0 x1 x2 y0 y1 y2 A19 c19 A24 c24 g3 g4 hA b0 b1 b2 b3 b4 b5 b6 b7 b8 b9 b10 b11 b12 b13∧FXF w W0 x0 x1 x2 y0 y1 y2 A19 c19 A24 c24 g3 g4 hA b4 b9 b10 b11 b12 b13 W
theorem aX.tail {k:Nat} {a0 a1:Int} {l:List S28} {x0 x1:Int} {x2:List S28} {y0 y1:Int} {y2:List S28} {r1 r2:Int} {r3:List S28} (h:(if x0=0 then aX.j0 k (y0 == 0) a0 a1 l x0 x1 x2 y0 y1 y2 else aX.j0 k false a0 a1 l x0 x1 x2 y0 y1 y2)=some (r1,r2,r3)):
  (x0=0∧y0=0∧∃ n,fV.f a0 x1 y1=some n∧((0≤n∧n≤99999∧(0,n,([]:List S28))=(r1,r2,r3))∨(¬ (0≤n∧n≤99999)∧(a0,0,[(⟨x0,x1,x2⟩:S28),⟨y0,y1,y2⟩])=(r1,r2,r3))))∨(¬ (x0=0∧y0=0)∧(a0,0,[(⟨x0,x1,x2⟩:S28),⟨y0,y1,y2⟩])=(r1,r2,r3)):=by
 cases k with
 |zero=>revert h;split <;> simp [aX.j0]
 |succ k=>
  simp only [aX.j0] at h
  by_cases h0:x0=0
  ·rw [if_pos h0] at h
   by_cases h1:y0=0
   ·rw [if_pos (beq_iff_eq.mpr h1)] at h
    obtain ⟨n,hn,h⟩:=Option.bind_eq_some_iff.mp h
    refine .inl ⟨h0,h1,n,hn,?_⟩
    by_cases h2:n≥0
    ·rw [if_pos h2] at h
     by_cases h3:n≤99999
     ·rw [if_pos h3] at h
      exact .inl ⟨h2,h3,Option.some.inj h⟩
     rw [if_neg h3] at h
     exact .inr ⟨fun e=>h3 e.2,Option.some.inj h⟩
    rw [if_neg h2] at h
    exact .inr ⟨fun e=>h2 e.1,Option.some.inj h⟩
   rw [if_neg (fun e=>h1 (beq_iff_eq.mp e))] at h
   exact .inr ⟨fun e=>h1 e.2,Option.some.inj h⟩
  rw [if_neg h0,if_neg Bool.false_ne_true] at h
  exact .inr ⟨fun e=>h0 e.1,Option.some.inj h⟩
theorem fV.callsB (a b c r:Int) (w:World) (h:fV.f a b c=some r):Calls Try.prog 62 #[.int .i64 a, .int .i64 b, .int .i64 c] w fun e w'=>e= .returned (.int .i64 r)∧Below w.heap.size w w':=by
 refine (fV.calls a b c r w h).mono ?_
 rintro e w' ⟨rfl,⟨nd,rfl⟩⟩
 exact ⟨rfl,bD (Below.refl _ _) nd⟩
theorem bI {w:World} {g:Nat} {o:Obj} {p:Addr} (h:w.heap[g]?=some o) (hne:g≠p.block) (u:Value):(w.setCell p u).heap[g]?=some o:=(Below.heap_setCell w p u g hne).trans h
theorem aX.callsS (k:Nat):∀ (a0 a1:Int) (A0:Option Addr) (c0:Nat) (l:List (S28)) (r1 r2:Int) (r3:List (S28)) (w:World) (hr0:Kd.C k28 w A0 l.length l) (hc0:l.length≤c0) (h:aX.f k a0 a1 l=some (r1,r2,r3)),
  Calls Try.prog 32 #[.agg #[.int .i64 a0, .int .i64 a1, .slice A0 l.length c0]] w fun e w'=>∃ v2_:Value,e= .returned (.agg #[.int .i64 r1, .int .i64 r2,v2_])∧Kd.S kH 28 w' w.heap.size (fun q=>w.heap.size≤q) v2_ r3∧Below w.heap.size w w':=by
 induction k using Nat.strongRecOn with
 | _ k ih=>
 intro a0 a1 A0 c0 l r1 r2 r3 w hr0 hc0 h
 cases k with
 |zero=>exact absurd h (by simp [aX.f])
 |succ k=>
 simp only [aX.f] at h
 have jh:=am hr0
 have jk:=am hc0
 have HB:=am (Below.refl w.heap.size w)
 have HH:=am h
 clear hr0 hc0 h
 go_enter Try.func32,Try.ntmps32
 go_upto_region 1 with (first|((with_reducible refine bL (N:=1) rfl ?_);refine cB (N:=1) rfl rfl (cs:=#[.int .i64 a0, .int .i64 a1, .slice A0 l.length c0]) (t:=28) rn_ ?_;intro g1 hg w2 hbox hb;have B1:=am hbox;have G1:=am (hg:_=_);have ja:=am hb;clear hbox hg hb)|((with_reducible refine bL (N:=2) rfl ?_);refine cB (N:=2) rfl rfl (cs:=#[.int .i64 0, .int .i64 0, .slice none 0 0]) (t:=28) rn_ ?_;intro g2 hg w3 hbox hb;have B2:=am hbox;have G2:=am (hg:_=_);have j9:=am (show w.heap.size≤g2 from Nat.le_trans ja.out.size (Nat.le_of_eq G2.out.symm));replace B1:=am (aN B1.out hb);replace HB:=am (aB ja.out hb);clear hbox hg hb ja)|fail)
 have z2:w3.cell? ⟨g1,2,none⟩=some (.slice A0 l.length c0):=aA B1.out 2
 have h:=HH.out
 clear HH
 by_cases c2:(l.length:Int)=0
 ·rw [if_pos c2] at h
  have jb:((l.length:Int) == 0)=true:=beq_iff_eq.mpr c2
  have jc:((l.length:Int) != 0)=false:=bne_eq_false_iff_eq.mpr c2
  clear c2
  simp only [Option.some.injEq,Prod.mk.injEq] at h
  obtain ⟨rfl,rfl,rfl⟩:=h
  have z0:w3.cell? ⟨g1,0,none⟩=some (.int .i64 a0):=aA B1.out 0
  have z1:w3.cell? ⟨g1,1,none⟩=some (.int .i64 a1):=aA B1.out 1
  have u0:w3.cell? ⟨g2,0,none⟩=some (.int .i64 0):=aA B2.out 0
  have u1:w3.cell? ⟨g2,1,none⟩=some (.int .i64 0):=aA B2.out 1
  have u2:w3.cell? ⟨g2,2,none⟩=some (.slice none 0 0):=aA B2.out 2
  have f0:=aG B2.out 0
  have f1:=aG B2.out 1
  have f2:=aG B2.out 2
  go_wp2
  refine bodyPost_ret (results_cell_row rfl _ _ g2 28 #[.int .i64 a0, .int .i64 a1, .slice none 0 0] (0,0) _ rfl (aS (aS (aS B2.out 0 _ rfl) 1 _ rfl) 2 _ rfl) Try.underlying28 rfl (by kernel_rfl)) rfl ?_
  exact ⟨_,rfl,Kd.uV _ _ _ _ _,below_set (below_set (below_set HB.out j9.out) j9.out) j9.out⟩
 rw [if_neg c2] at h
 have jb:((l.length:Int) == 0)=false:=beq_eq_false_iff_ne.mpr c2
 have jc:((l.length:Int) != 0)=true:=bne_iff_ne.mpr c2
 clear c2
 by_cases c8:0 < (l.length:Int)
 case neg=>rw [if_neg c8] at h;exact absurd h (by simp)
 rw [if_pos c8] at h
 replace h:=Option.bind_eq_some_iff.mp h
 obtain ⟨⟨x0,x1,x2⟩,h1,h⟩:=h
 by_cases c10:1 < (l.length:Int)
 case neg=>rw [if_neg c10] at h;exact absurd h (by simp)
 rw [if_pos c10] at h
 replace h:=Option.bind_eq_some_iff.mp h
 obtain ⟨⟨y0,y1,y2⟩,h2,h⟩:=h
 (try dsimp only at h1 h2 h)
 obtain ⟨ad,Ap,cp,e0,P0,P1,P2,LP,CP⟩:=gJ jh.out 0 (by omega) c8
 obtain ⟨ad',Aq,cq,e1,Q0,Q1,Q2,LQ,CQ⟩:=gJ jh.out 1 (by omega) c10
 subst e0
 injection e1 with e1
 subst e1
 rcases hrp:aW l 0 with ⟨p0,p1,p2⟩
 rcases hrq:aW l 1 with ⟨q0,q1,q2⟩
 rw [hrp] at h1 P0 P1 P2 LP CP
 rw [hrq] at h2 Q0 Q1 Q2 LQ CQ
 dsimp only at h1 h2 P0 P1 P2 Q0 Q1 Q2 LP LQ CP CQ
 have HE1:=am h1
 have HE2:=am h2
 have HT:=am h
 clear h h1 h2 hrp hrq
 rw [show ((0:Int)).toNat * 3=0 from rfl,Addr.add_zero'] at P0 P1 P2
 rw [show ((1:Int)).toNat * 3=3 from rfl] at Q0 Q1 Q2
 simp only [Go.Addr.add,Nat.reduceEqDiff,↓reduceIte] at Q0 Q1 Q2
 replace P0:=am P0
 replace P1:=am P1
 replace P2:=am P2
 replace Q0:=am Q0
 replace Q1:=am Q1
 replace Q2:=am Q2
 replace LP:=am LP
 replace LQ:=am LQ
 replace CP:=am CP
 replace CQ:=am CQ
 have i0:(0:Int) < (l.length:Int):=c8
 have i1:(1:Int) < (l.length:Int):=c10
 have i0b:(0 < l.length)=True:=eq_true (by omega)
 have i1b:(1 < l.length)=True:=eq_true (by omega)
 have i0c:decide ((0:Int) < (l.length:Int))=true:=decide_eq_true c8
 have i1c:decide ((1:Int) < (l.length:Int))=true:=decide_eq_true c10
 clear c8 c10
 go_upto_region 3 with fail
 refine wp_region_any (by kernel_rfl) ?_
 have b_:=am (dF HB.out)
 have jd:=am (gM B1.out)
 have je:=am (gM B2.out)
 show wpAny _ _ _ _ _ _ _ w3.drew
 clear z2 B1 B2 HB
 generalize w3.drew=W0 at b_ jd je ⊢
 have HB:=b_
 have B1:=jd
 have B2:=je
 clear b_ jd je
 refine FB (n:=14) (T:=(true,[([],[]),([0],[0]),([1],[1]),([2],[2]),([3],[3]),([],[]),([5],[5]),([6],[6]),([7],[7]),([8,4],[8]),([],[]),([],[]),([10,4,9,0,1,2,3,4,10,11],[4,10]),([11,9,12,0,1,2,3,4,5,6,7,8,9,10,11,12],[9,11])])) rfl (by kernel_rfl) (by decide) (fun b a W=>LXF w W0 g1 g2 a0 a1 ad c0 l p0 p1 Ap cp p2 q0 q1 Aq cq q2 x0 x1 x2 y0 y1 y2 (b 0) (b 1) (b 2) (b 3) (b 4) (b 5) (b 6) (b 7) (b 8) (b 9) (b 10) (b 11) (b 12) (b 13) a W) ?hstep ?hdone _ _ ?hstart
 case hstart=>exact ⟨none,0,none,0,0,0,0,rfl,⟨Below.refl _ _,(fun e=>Bool.noConfusion e),(fun e=>Bool.noConfusion e),(fun e=>Bool.noConfusion e),(fun e=>Bool.noConfusion e),(fun e=>Bool.noConfusion e),(fun e=>Bool.noConfusion e)⟩⟩
 case hstep=>
  intro i b a W hi hbi hneed hcl hI
  have hcase:i=0∨i=1∨i=2∨i=3∨i=4∨i=5∨i=6∨i=7∨i=8∨i=9∨i=10∨i=11∨i=12∨i=13:=by omega
  rcases hcase with rfl|rfl|rfl|rfl|rfl|rfl|rfl|rfl|rfl|rfl|rfl|rfl|rfl|rfl
  ·
   have z1:=zz_ (fun h=>hcl 1 _ h rfl 0 (by decide)) hbi
   have z2:=zz_ (fun h=>hcl 2 _ h rfl 1 (by decide)) z1
   have z3:=zz_ (fun h=>hcl 3 _ h rfl 2 (by decide)) z2
   have z4:=zz_ (fun h=>hcl 4 _ h rfl 3 (by decide)) z3
   have z9:=zz_ (fun h=>hcl 9 _ h rfl 4 (by decide)) z4
   have j8:=zz_ (fun h=>hcl 12 _ h rfl 4 (by decide)) z4
   have j7:=zz_ (fun h=>hcl 13 _ h rfl 0 (by decide)) hbi
   simp only [hbi,z1,z2,z3,z4,z9,j8,j7] at hI
   obtain ⟨j3,j4,j5,j6,g3,g4,hA,rfl,h⟩:=hI
   refine wpOp_step rfl (fun K' hK'=>?_)
   simp (decide:=true) only [if_true,if_false,reduceIte,z1,z2,z3,z4,z9,j8,j7] at hK'
   refine eG (W:=W) (w1:=W) (v:=?_) (by rfl) ?_ ?_
   rotate_left
   ·(try simp only [aXF,cond_true,cond_false])
    go_simp
    first|with_reducible rfl|rfl
   refine hK' _ _ (⟨j3,j4,j5,j6,g3,g4,hA,?_,h⟩)
   show Act.put _ (some 15) _=_
   simp only [aXF,Act.put,List.setIfInBounds_toArray,List.set_cons_zero,List.set_cons_succ,gB,gN]
   rfl
  ·
   have hn_:=hneed _ rfl
   have n0:=hn_ 0 (by decide)
   have z2:=zz_ (fun h=>hcl 2 _ h rfl 1 (by decide)) hbi
   have z3:=zz_ (fun h=>hcl 3 _ h rfl 2 (by decide)) z2
   have z4:=zz_ (fun h=>hcl 4 _ h rfl 3 (by decide)) z3
   have z9:=zz_ (fun h=>hcl 9 _ h rfl 4 (by decide)) z4
   have j8:=zz_ (fun h=>hcl 12 _ h rfl 4 (by decide)) z4
   have j7:=zz_ (fun h=>hcl 13 _ h rfl 1 (by decide)) hbi
   simp only [hbi,n0,z2,z3,z4,z9,j8,j7] at hI
   obtain ⟨j3,j4,j5,j6,g3,g4,hA,rfl,h⟩:=hI
   refine wpOp_step rfl (fun K' hK'=>?_)
   simp (decide:=true) only [if_true,if_false,reduceIte,n0,z2,z3,z4,z9,j8,j7] at hK'
   have jf:=aN B1.out h.hB
   have z2:W.cell? ⟨g1,2,none⟩=some (.slice (some ad) l.length c0):=aA jf 2
   refine eG (W:=W) (w1:=W) (v:=?_) (by rfl) ?_ ?_
   rotate_left
   ·(try simp only [aXF,cond_true,cond_false])
    go_simp
    first|with_reducible rfl|rfl
   refine hK' _ _ (⟨j3,j4,j5,j6,g3,g4,hA,?_,h⟩)
   show Act.put _ (some 16) _=_
   simp only [aXF,Act.put,List.setIfInBounds_toArray,List.set_cons_zero,List.set_cons_succ,gB,gN]
   rfl
  ·
   have hn_:=hneed _ rfl
   have n1:=hn_ 1 (by decide)
   have n0:=hcl 1 _ n1 rfl 0 (by decide)
   have z3:=zz_ (fun h=>hcl 3 _ h rfl 2 (by decide)) hbi
   have z4:=zz_ (fun h=>hcl 4 _ h rfl 3 (by decide)) z3
   have z9:=zz_ (fun h=>hcl 9 _ h rfl 4 (by decide)) z4
   have j8:=zz_ (fun h=>hcl 12 _ h rfl 4 (by decide)) z4
   have j7:=zz_ (fun h=>hcl 13 _ h rfl 2 (by decide)) hbi
   simp only [hbi,n0,n1,z3,z4,z9,j8,j7] at hI
   obtain ⟨j3,j4,j5,j6,g3,g4,hA,rfl,h⟩:=hI
   refine wpOp_step rfl (fun K' hK'=>?_)
   simp (decide:=true) only [if_true,if_false,reduceIte,n0,n1,z3,z4,z9,j8,j7] at hK'
   refine eG (W:=W) (w1:=W) (v:=(.pointer (some ad))) (by rfl) ?_ ?_
   ·(try simp only [aXF,cond_true,cond_false])
    go_simp
    (try rfl)
   refine hK' _ _ (⟨j3,j4,j5,j6,g3,g4,hA,?_,h⟩)
   show Act.put _ (some 17) _=_
   simp only [aXF,Act.put,List.setIfInBounds_toArray,List.set_cons_zero,List.set_cons_succ,gB,gN]
   rfl
  ·
   have hn_:=hneed _ rfl
   have n2:=hn_ 2 (by decide)
   have n1:=hcl 2 _ n2 rfl 1 (by decide)
   have n0:=hcl 1 _ n1 rfl 0 (by decide)
   have z4:=zz_ (fun h=>hcl 4 _ h rfl 3 (by decide)) hbi
   have z9:=zz_ (fun h=>hcl 9 _ h rfl 4 (by decide)) z4
   have j8:=zz_ (fun h=>hcl 12 _ h rfl 4 (by decide)) z4
   have j7:=zz_ (fun h=>hcl 13 _ h rfl 3 (by decide)) hbi
   simp only [hbi,n0,n1,n2,z4,z9,j8,j7] at hI
   obtain ⟨j3,j4,j5,j6,g3,g4,hA,rfl,h⟩:=hI
   refine wpOp_step rfl (fun K' hK'=>?_)
   simp (decide:=true) only [if_true,if_false,reduceIte,n0,n1,n2,z4,z9,j8,j7] at hK'
   have z0:W.cell? ad=some (.int .i64 p0):=((aB HB.out h.hB).cell (World.block_lt_of_cell? w _ P0.out)).trans P0.out
   have z1:W.cell? ⟨ad.block,ad.off + 1,none⟩=some (.int .i64 p1):=((aB HB.out h.hB).cell (World.block_lt_of_cell? w _ P1.out)).trans P1.out
   have z2:W.cell? ⟨ad.block,ad.off + 2,none⟩=some (.slice Ap p2.length cp):=((aB HB.out h.hB).cell (World.block_lt_of_cell? w _ P2.out)).trans P2.out
   refine eG (W:=W) (w1:=W) (v:=(.agg #[(.int .i64 p0),(.int .i64 p1),(.slice Ap p2.length cp)])) (by rfl) ?_ ?_
   ·(try simp only [aXF,cond_true,cond_false])
    go_simp
    (try rfl)
   refine hK' _ _ (⟨j3,j4,j5,j6,g3,g4,hA,?_,h⟩)
   show Act.put _ (some 18) _=_
   simp only [aXF,Act.put,List.setIfInBounds_toArray,List.set_cons_zero,List.set_cons_succ,gB,gN]
   rfl
  ·
   have hn_:=hneed _ rfl
   have n3:=hn_ 3 (by decide)
   have n2:=hcl 3 _ n3 rfl 2 (by decide)
   have n1:=hcl 2 _ n2 rfl 1 (by decide)
   have n0:=hcl 1 _ n1 rfl 0 (by decide)
   have z9:=zz_ (fun h=>hcl 9 _ h rfl 4 (by decide)) hbi
   have j8:=zz_ (fun h=>hcl 12 _ h rfl 4 (by decide)) hbi
   have j7:=zz_ (fun h=>hcl 13 _ h rfl 4 (by decide)) hbi
   simp only [hbi,n0,n1,n2,n3,z9,j8,j7] at hI
   obtain ⟨j3,j4,j5,j6,g3,g4,hA,rfl,h⟩:=hI
   refine wpOp_step rfl (fun K' hK'=>?_)
   simp (decide:=true) only [if_true,if_false,reduceIte,n0,n1,n2,n3,z9,j8,j7] at hK'
   refine oQ Try.func32 (by kernel_rfl) rfl #[(.agg #[(.int .i64 p0),(.int .i64 p1),(.slice Ap p2.length cp)])] (by rfl) rfl rfl (by (try simp only [List.map_toArray,List.map_cons,List.map_nil]);first|done|rfl) ?_
   refine (ih k (Nat.lt_succ_self k) _ _ _ _ _ x0 x1 x2 _ (Kd.aH CP.out (aB HB.out h.hB)) LP.out HE1.out).mono ?_
   rintro e W' ⟨v,rfl,hn,hb⟩
   obtain ⟨B_,d_,rfl⟩:=Kd.eP hn
   have hlt:=h.hB.size
   have hle:=hb.size
   have jg:=Kd.fZ hn
   refine ⟨_,rfl,hK' _ _ (⟨B_,d_,j5,j6,g3,g4,W'.heap.size,?_,⟨aB h.hB hb,fun _=>Nat.le_refl _,fun _=>Kd.dU (Kd.gL jg hlt) (fun q hq=>⟨hq.2.2.1,⟨fun e=>by have:=cK (h.h10 e).2;have:=hq.2.1;omega,fun e=>by have:=cK (h.h11 e).2;have:=hq.2.1;omega⟩⟩),(fun e=>Bool.noConfusion e),fun e=>⟨(h.h10 e).1,aN (h.h10 e).2 hb⟩,fun e=>⟨(h.h11 e).1,aN (h.h11 e).2 hb⟩,h.hne⟩⟩)⟩
   show Act.put _ (some 19) _=_
   simp only [aXF,Act.put,List.setIfInBounds_toArray,List.set_cons_zero,List.set_cons_succ]
   rfl
  ·
   have z6:=zz_ (fun h=>hcl 6 _ h rfl 5 (by decide)) hbi
   have z7:=zz_ (fun h=>hcl 7 _ h rfl 6 (by decide)) z6
   have z8:=zz_ (fun h=>hcl 8 _ h rfl 7 (by decide)) z7
   have z9:=zz_ (fun h=>hcl 9 _ h rfl 8 (by decide)) z8
   have j8:=zz_ (fun h=>hcl 12 _ h rfl 9 (by decide)) z9
   have j7:=zz_ (fun h=>hcl 13 _ h rfl 5 (by decide)) hbi
   simp only [hbi,z6,z7,z8,z9,j8,j7] at hI
   obtain ⟨j3,j4,j5,j6,g3,g4,hA,rfl,h⟩:=hI
   refine wpOp_step rfl (fun K' hK'=>?_)
   simp (decide:=true) only [if_true,if_false,reduceIte,z6,z7,z8,z9,j8,j7] at hK'
   refine eG (W:=W) (w1:=W) (v:=?_) (by rfl) ?_ ?_
   rotate_left
   ·(try simp only [aXF,cond_true,cond_false])
    go_simp
    first|with_reducible rfl|rfl
   refine hK' _ _ (⟨j3,j4,j5,j6,g3,g4,hA,?_,h⟩)
   show Act.put _ (some 20) _=_
   simp only [aXF,Act.put,List.setIfInBounds_toArray,List.set_cons_zero,List.set_cons_succ,gB,gN]
   rfl
  ·
   have hn_:=hneed _ rfl
   have n5:=hn_ 5 (by decide)
   have z7:=zz_ (fun h=>hcl 7 _ h rfl 6 (by decide)) hbi
   have z8:=zz_ (fun h=>hcl 8 _ h rfl 7 (by decide)) z7
   have z9:=zz_ (fun h=>hcl 9 _ h rfl 8 (by decide)) z8
   have j8:=zz_ (fun h=>hcl 12 _ h rfl 9 (by decide)) z9
   have j7:=zz_ (fun h=>hcl 13 _ h rfl 6 (by decide)) hbi
   simp only [hbi,n5,z7,z8,z9,j8,j7] at hI
   obtain ⟨j3,j4,j5,j6,g3,g4,hA,rfl,h⟩:=hI
   refine wpOp_step rfl (fun K' hK'=>?_)
   simp (decide:=true) only [if_true,if_false,reduceIte,n5,z7,z8,z9,j8,j7] at hK'
   have jf:=aN B1.out h.hB
   have z2:W.cell? ⟨g1,2,none⟩=some (.slice (some ad) l.length c0):=aA jf 2
   refine eG (W:=W) (w1:=W) (v:=?_) (by rfl) ?_ ?_
   rotate_left
   ·(try simp only [aXF,cond_true,cond_false])
    go_simp
    first|with_reducible rfl|rfl
   refine hK' _ _ (⟨j3,j4,j5,j6,g3,g4,hA,?_,h⟩)
   show Act.put _ (some 21) _=_
   simp only [aXF,Act.put,List.setIfInBounds_toArray,List.set_cons_zero,List.set_cons_succ,gB,gN]
   rfl
  ·
   have hn_:=hneed _ rfl
   have n6:=hn_ 6 (by decide)
   have n5:=hcl 6 _ n6 rfl 5 (by decide)
   have z8:=zz_ (fun h=>hcl 8 _ h rfl 7 (by decide)) hbi
   have z9:=zz_ (fun h=>hcl 9 _ h rfl 8 (by decide)) z8
   have j8:=zz_ (fun h=>hcl 12 _ h rfl 9 (by decide)) z9
   have j7:=zz_ (fun h=>hcl 13 _ h rfl 7 (by decide)) hbi
   simp only [hbi,n5,n6,z8,z9,j8,j7] at hI
   obtain ⟨j3,j4,j5,j6,g3,g4,hA,rfl,h⟩:=hI
   refine wpOp_step rfl (fun K' hK'=>?_)
   simp (decide:=true) only [if_true,if_false,reduceIte,n5,n6,z8,z9,j8,j7] at hK'
   refine eG (W:=W) (w1:=W) (v:=(.pointer (some ⟨ad.block,ad.off + 3,none⟩))) (by rfl) ?_ ?_
   ·(try simp only [aXF,cond_true,cond_false])
    go_simp
    (try rfl)
   refine hK' _ _ (⟨j3,j4,j5,j6,g3,g4,hA,?_,h⟩)
   show Act.put _ (some 22) _=_
   simp only [aXF,Act.put,List.setIfInBounds_toArray,List.set_cons_zero,List.set_cons_succ,gB,gN]
   rfl
  ·
   have hn_:=hneed _ rfl
   have n7:=hn_ 7 (by decide)
   have n6:=hcl 7 _ n7 rfl 6 (by decide)
   have n5:=hcl 6 _ n6 rfl 5 (by decide)
   have z9:=zz_ (fun h=>hcl 9 _ h rfl 8 (by decide)) hbi
   have j8:=zz_ (fun h=>hcl 12 _ h rfl 9 (by decide)) z9
   have j7:=zz_ (fun h=>hcl 13 _ h rfl 8 (by decide)) hbi
   simp only [hbi,n5,n6,n7,z9,j8,j7] at hI
   obtain ⟨j3,j4,j5,j6,g3,g4,hA,rfl,h⟩:=hI
   refine wpOp_step rfl (fun K' hK'=>?_)
   simp (decide:=true) only [if_true,if_false,reduceIte,n5,n6,n7,z9,j8,j7] at hK'
   have z0:W.cell? ⟨ad.block,ad.off + 3,none⟩=some (.int .i64 q0):=((aB HB.out h.hB).cell (World.block_lt_of_cell? w _ Q0.out)).trans Q0.out
   have z1:W.cell? ⟨ad.block,ad.off + 3 + 1,none⟩=some (.int .i64 q1):=((aB HB.out h.hB).cell (World.block_lt_of_cell? w _ Q1.out)).trans Q1.out
   have z2:W.cell? ⟨ad.block,ad.off + 3 + 2,none⟩=some (.slice Aq q2.length cq):=((aB HB.out h.hB).cell (World.block_lt_of_cell? w _ Q2.out)).trans Q2.out
   refine eG (W:=W) (w1:=W) (v:=(.agg #[(.int .i64 q0),(.int .i64 q1),(.slice Aq q2.length cq)])) (by rfl) ?_ ?_
   ·(try simp only [aXF,cond_true,cond_false])
    go_simp
    (try rfl)
   refine hK' _ _ (⟨j3,j4,j5,j6,g3,g4,hA,?_,h⟩)
   show Act.put _ (some 23) _=_
   simp only [aXF,Act.put,List.setIfInBounds_toArray,List.set_cons_zero,List.set_cons_succ,gB,gN]
   rfl
  ·
   have hn_:=hneed _ rfl
   have n4:=hn_ 4 (by decide)
   have n8:=hn_ 8 (by decide)
   have n3:=hcl 4 _ n4 rfl 3 (by decide)
   have n7:=hcl 8 _ n8 rfl 7 (by decide)
   have n2:=hcl 3 _ n3 rfl 2 (by decide)
   have n6:=hcl 7 _ n7 rfl 6 (by decide)
   have n1:=hcl 2 _ n2 rfl 1 (by decide)
   have n5:=hcl 6 _ n6 rfl 5 (by decide)
   have n0:=hcl 1 _ n1 rfl 0 (by decide)
   have j8:=zz_ (fun h=>hcl 12 _ h rfl 9 (by decide)) hbi
   have j7:=zz_ (fun h=>hcl 13 _ h rfl 9 (by decide)) hbi
   simp only [hbi,n0,n1,n2,n3,n4,n5,n6,n7,n8,j8,j7] at hI
   obtain ⟨j3,j4,j5,j6,g3,g4,hA,rfl,h⟩:=hI
   refine wpOp_step rfl (fun K' hK'=>?_)
   simp (decide:=true) only [if_true,if_false,reduceIte,n0,n1,n2,n3,n4,n5,n6,n7,n8,j8,j7] at hK'
   refine oQ Try.func32 (by kernel_rfl) rfl #[(.agg #[(.int .i64 q0),(.int .i64 q1),(.slice Aq q2.length cq)])] (by rfl) rfl rfl (by (try simp only [List.map_toArray,List.map_cons,List.map_nil]);first|done|rfl) ?_
   refine (ih k (Nat.lt_succ_self k) _ _ _ _ _ y0 y1 y2 _ (Kd.aH CQ.out (aB HB.out h.hB)) LQ.out HE2.out).mono ?_
   rintro e W' ⟨v,rfl,hn,hb⟩
   obtain ⟨B_,d_,rfl⟩:=Kd.eP hn
   have hlt:=h.hB.size
   have hle:=hb.size
   have jg:=Kd.fZ hn
   refine ⟨_,rfl,hK' _ _ (⟨j3,j4,B_,d_,g3,g4,hA,?_,⟨aB h.hB hb,fun e=>Nat.le_trans (h.hA_ e) hle,fun e=>Kd.dM (h.h4 e) hb,fun _=>Kd.dU (Kd.gL jg hlt) (fun q hq=>⟨Nat.le_trans (h.hA_ rfl) hq.1,⟨fun e=>by have:=cK (h.h10 e).2;have:=hq.2.1;omega,fun e=>by have:=cK (h.h11 e).2;have:=hq.2.1;omega⟩⟩),fun e=>⟨(h.h10 e).1,aN (h.h10 e).2 hb⟩,fun e=>⟨(h.h11 e).1,aN (h.h11 e).2 hb⟩,h.hne⟩⟩)⟩
   show Act.put _ (some 24) _=_
   simp only [aXF,Act.put,List.setIfInBounds_toArray,List.set_cons_zero,List.set_cons_succ]
   rfl
  ·
   have j8:=zz_ (fun h=>hcl 12 _ h rfl 10 (by decide)) hbi
   have j7:=zz_ (fun h=>hcl 13 _ h rfl 10 (by decide)) hbi
   simp only [hbi,j8,j7] at hI
   obtain ⟨j3,j4,j5,j6,g3,g4,hA,rfl,h⟩:=hI
   refine wpOp_step rfl (fun K' hK'=>?_)
   simp (decide:=true) only [if_true,if_false,reduceIte,j8,j7] at hK'
   refine BJ ?hg (N:=3) ?hd (cs:=#[(.int .i64 0),(.int .i64 0),(.slice none 0 0)]) (t:=28) ?hr ?_
   case hd=>rfl
   case hg=>rfl
   case hr=>(try simp only [aXF,cond_true,cond_false]);first|(go_simp;done)|(go_simp;rfl)
   intro gb hgb W' hbox hb
   have hlt:=h.hB.size
   have hle:=hb.size
   refine hK' _ _ (⟨j3,j4,j5,j6,gb,g4,hA,?_,⟨aB h.hB hb,fun e=>Nat.le_trans (h.hA_ e) hle,fun e=>Kd.dU (Kd.dM (Kd.fZ (h.h4 e)) hb) (fun q hq=>⟨hq.1.1,fun _=>by have:=hq.2.2.1;omega,hq.1.2.2⟩),fun e=>Kd.dU (Kd.dM (Kd.fZ (h.h9 e)) hb) (fun q hq=>⟨hq.1.1,fun _=>by have:=hq.2.2.1;omega,hq.1.2.2⟩),fun _=>⟨by omega,hbox⟩,fun e=>⟨(h.h11 e).1,aN (h.h11 e).2 hb⟩,fun _ e2 e3=>by have:=cK (h.h11 e2).2;omega⟩⟩)
   show Act.put _ (some 3) _=_
   simp only [aXF,Act.put,List.setIfInBounds_toArray,List.set_cons_zero,List.set_cons_succ]
   rfl
  ·
   have j8:=zz_ (fun h=>hcl 12 _ h rfl 11 (by decide)) hbi
   have j7:=zz_ (fun h=>hcl 13 _ h rfl 11 (by decide)) hbi
   simp only [hbi,j8,j7] at hI
   obtain ⟨j3,j4,j5,j6,g3,g4,hA,rfl,h⟩:=hI
   refine wpOp_step rfl (fun K' hK'=>?_)
   simp (decide:=true) only [if_true,if_false,reduceIte,j8,j7] at hK'
   refine BJ ?hg (N:=4) ?hd (cs:=#[(.int .i64 0),(.int .i64 0),(.slice none 0 0)]) (t:=28) ?hr ?_
   case hd=>rfl
   case hg=>rfl
   case hr=>(try simp only [aXF,cond_true,cond_false]);first|(go_simp;done)|(go_simp;rfl)
   intro gb hgb W' hbox hb
   have hlt:=h.hB.size
   have hle:=hb.size
   refine hK' _ _ (⟨j3,j4,j5,j6,g3,gb,hA,?_,⟨aB h.hB hb,fun e=>Nat.le_trans (h.hA_ e) hle,fun e=>Kd.dU (Kd.dM (Kd.fZ (h.h4 e)) hb) (fun q hq=>⟨hq.1.1,hq.1.2.1,fun _=>by have:=hq.2.2.1;omega⟩),fun e=>Kd.dU (Kd.dM (Kd.fZ (h.h9 e)) hb) (fun q hq=>⟨hq.1.1,hq.1.2.1,fun _=>by have:=hq.2.2.1;omega⟩),fun e=>⟨(h.h10 e).1,aN (h.h10 e).2 hb⟩,fun _=>⟨by omega,hbox⟩,fun e2 _ e3=>by have:=cK (h.h10 e2).2;omega⟩⟩)
   show Act.put _ (some 4) _=_
   simp only [aXF,Act.put,List.setIfInBounds_toArray,List.set_cons_zero,List.set_cons_succ]
   rfl
  ·
   have hn_:=hneed _ rfl
   have n4:=hn_ 4 (by decide)
   have n9:=hn_ 9 (by decide)
   have n10:=hn_ 10 (by decide)
   have n11:=hn_ 11 (by decide)
   have n3:=hcl 4 _ n4 rfl 3 (by decide)
   have n8:=hcl 9 _ n9 rfl 8 (by decide)
   have n2:=hcl 3 _ n3 rfl 2 (by decide)
   have n7:=hcl 8 _ n8 rfl 7 (by decide)
   have n1:=hcl 2 _ n2 rfl 1 (by decide)
   have n6:=hcl 7 _ n7 rfl 6 (by decide)
   have n0:=hcl 1 _ n1 rfl 0 (by decide)
   have n5:=hcl 6 _ n6 rfl 5 (by decide)
   have j7:=zz_ (fun h=>hcl 13 _ h rfl 12 (by decide)) hbi
   simp only [hbi,n0,n1,n2,n3,n4,n5,n6,n7,n8,n9,n10,n11,j7] at hI
   obtain ⟨j3,j4,j5,j6,g3,g4,hA,rfl,h⟩:=hI
   refine wpOp_step rfl (fun K' hK'=>?_)
   simp (decide:=true) only [if_true,if_false,reduceIte,n0,n1,n2,n3,n4,n5,n6,n7,n8,n9,n10,n11,j7] at hK'
   obtain ⟨hg6,hbx⟩:=h.h10 rfl
   replace hbx:W.heap[g3]?=some (.cells #[(.int .i64 0),(.int .i64 0),(.slice none 0 0)] 28 (0,0)):=hbx
   have q0:W.cell? ⟨g3,0,none⟩=some (.int .i64 0):=aA hbx 0
   have f0:=aG hbx 0
   have q1:W.cell? ⟨g3,1,none⟩=some (.int .i64 0):=aA hbx 1
   have f1:=aG hbx 1
   have q2:W.cell? ⟨g3,2,none⟩=some (.slice none 0 0):=aA hbx 2
   have f2:=aG hbx 2
   refine CV (w1:=(((W.setCell ⟨g3,0,none⟩ (.int .i64 x0)).setCell ⟨g3,1,none⟩ (.int .i64 x1)).setCell ⟨g3,2,none⟩ (.slice j3 x2.length j4))) (by rfl) rfl ?_ ?_
   ·(try simp only [aXF,cond_true,cond_false])
    go_simp
    (try rfl)
   refine hK' _ _ (⟨j3,j4,j5,j6,g3,g4,hA,rfl,⟨(below_set (j:=2) (v:=(.slice j3 x2.length j4)) (below_set (j:=1) (v:=(.int .i64 x1)) (below_set (j:=0) (v:=(.int .i64 x0)) h.hB hg6) hg6) hg6),fun e=>Nat.le_trans (h.hA_ e) (by simp [World.setCell]),fun _=>(Kd.cO (p:=⟨g3,2,none⟩) (Kd.cO (p:=⟨g3,1,none⟩) (Kd.cO (p:=⟨g3,0,none⟩) (h.h4 rfl) (fun q hq=>hq.2.1 rfl) (.int .i64 x0)) (fun q hq=>hq.2.1 rfl) (.int .i64 x1)) (fun q hq=>hq.2.1 rfl) (.slice j3 x2.length j4)),fun _=>(Kd.cO (p:=⟨g3,2,none⟩) (Kd.cO (p:=⟨g3,1,none⟩) (Kd.cO (p:=⟨g3,0,none⟩) (h.h9 rfl) (fun q hq=>hq.2.1 rfl) (.int .i64 x0)) (fun q hq=>hq.2.1 rfl) (.int .i64 x1)) (fun q hq=>hq.2.1 rfl) (.slice j3 x2.length j4)),fun _=>⟨hg6,(aS (cs':=#[(.int .i64 x0),(.int .i64 x1),(.slice j3 x2.length j4)]) (aS (cs':=#[(.int .i64 x0),(.int .i64 x1),(.slice none 0 0)]) (aS (cs':=#[(.int .i64 x0),(.int .i64 0),(.slice none 0 0)]) hbx 0 (.int .i64 x0) rfl) 1 (.int .i64 x1) rfl) 2 (.slice j3 x2.length j4) rfl)⟩,fun _=>⟨(h.h11 rfl).1,(bI (p:=⟨g3,2,none⟩) (bI (p:=⟨g3,1,none⟩) (bI (p:=⟨g3,0,none⟩) (h.h11 rfl).2 (h.hne rfl rfl).symm (.int .i64 x0)) (h.hne rfl rfl).symm (.int .i64 x1)) (h.hne rfl rfl).symm (.slice j3 x2.length j4))⟩,h.hne⟩⟩)
  ·
   have hn_:=hneed _ rfl
   have n0:=hn_ 0 (by decide)
   have n1:=hn_ 1 (by decide)
   have n2:=hn_ 2 (by decide)
   have n3:=hn_ 3 (by decide)
   have n4:=hn_ 4 (by decide)
   have n5:=hn_ 5 (by decide)
   have n6:=hn_ 6 (by decide)
   have n7:=hn_ 7 (by decide)
   have n8:=hn_ 8 (by decide)
   have n9:=hn_ 9 (by decide)
   have n10:=hn_ 10 (by decide)
   have n11:=hn_ 11 (by decide)
   have n12:=hn_ 12 (by decide)
   simp only [hbi,n0,n1,n2,n3,n4,n5,n6,n7,n8,n9,n10,n11,n12] at hI
   obtain ⟨j3,j4,j5,j6,g3,g4,hA,rfl,h⟩:=hI
   refine wpOp_step rfl (fun K' hK'=>?_)
   simp (decide:=true) only [if_true,if_false,reduceIte,n0,n1,n2,n3,n4,n5,n6,n7,n8,n9,n10,n11,n12] at hK'
   obtain ⟨hg6,hbx⟩:=h.h11 rfl
   replace hbx:W.heap[g4]?=some (.cells #[(.int .i64 0),(.int .i64 0),(.slice none 0 0)] 28 (0,0)):=hbx
   have q0:W.cell? ⟨g4,0,none⟩=some (.int .i64 0):=aA hbx 0
   have f0:=aG hbx 0
   have q1:W.cell? ⟨g4,1,none⟩=some (.int .i64 0):=aA hbx 1
   have f1:=aG hbx 1
   have q2:W.cell? ⟨g4,2,none⟩=some (.slice none 0 0):=aA hbx 2
   have f2:=aG hbx 2
   refine CV (w1:=(((W.setCell ⟨g4,0,none⟩ (.int .i64 y0)).setCell ⟨g4,1,none⟩ (.int .i64 y1)).setCell ⟨g4,2,none⟩ (.slice j5 y2.length j6))) (by rfl) rfl ?_ ?_
   ·(try simp only [aXF,cond_true,cond_false])
    go_simp
    (try rfl)
   refine hK' _ _ (⟨j3,j4,j5,j6,g3,g4,hA,rfl,⟨(below_set (j:=2) (v:=(.slice j5 y2.length j6)) (below_set (j:=1) (v:=(.int .i64 y1)) (below_set (j:=0) (v:=(.int .i64 y0)) h.hB hg6) hg6) hg6),fun e=>Nat.le_trans (h.hA_ e) (by simp [World.setCell]),fun _=>(Kd.cO (p:=⟨g4,2,none⟩) (Kd.cO (p:=⟨g4,1,none⟩) (Kd.cO (p:=⟨g4,0,none⟩) (h.h4 rfl) (fun q hq=>hq.2.2 rfl) (.int .i64 y0)) (fun q hq=>hq.2.2 rfl) (.int .i64 y1)) (fun q hq=>hq.2.2 rfl) (.slice j5 y2.length j6)),fun _=>(Kd.cO (p:=⟨g4,2,none⟩) (Kd.cO (p:=⟨g4,1,none⟩) (Kd.cO (p:=⟨g4,0,none⟩) (h.h9 rfl) (fun q hq=>hq.2.2 rfl) (.int .i64 y0)) (fun q hq=>hq.2.2 rfl) (.int .i64 y1)) (fun q hq=>hq.2.2 rfl) (.slice j5 y2.length j6)),fun _=>⟨(h.h10 rfl).1,(bI (p:=⟨g4,2,none⟩) (bI (p:=⟨g4,1,none⟩) (bI (p:=⟨g4,0,none⟩) (h.h10 rfl).2 (h.hne rfl rfl) (.int .i64 y0)) (h.hne rfl rfl) (.int .i64 y1)) (h.hne rfl rfl) (.slice j5 y2.length j6))⟩,fun _=>⟨hg6,(aS (cs':=#[(.int .i64 y0),(.int .i64 y1),(.slice j5 y2.length j6)]) (aS (cs':=#[(.int .i64 y0),(.int .i64 y1),(.slice none 0 0)]) (aS (cs':=#[(.int .i64 y0),(.int .i64 0),(.slice none 0 0)]) hbx 0 (.int .i64 y0) rfl) 1 (.int .i64 y1) rfl) 2 (.slice j5 y2.length j6) rfl)⟩,h.hne⟩⟩)
 case hdone=>
  intro b a W1 hall hI
  replace hI:LXF w W0 g1 g2 a0 a1 ad c0 l p0 p1 Ap cp p2 q0 q1 Aq cq q2 x0 x1 x2 y0 y1 y2 (b 0) (b 1) (b 2) (b 3) (b 4) (b 5) (b 6) (b 7) (b 8) (b 9) (b 10) (b 11) (b 12) (b 13) a W1:=hI
  rw [hall 0 (by decide),hall 1 (by decide),hall 2 (by decide),hall 3 (by decide),hall 4 (by decide),hall 5 (by decide),hall 6 (by decide),hall 7 (by decide),hall 8 (by decide),hall 9 (by decide),hall 10 (by decide),hall 11 (by decide),hall 12 (by decide),hall 13 (by decide)] at hI
  obtain ⟨j3,j4,j5,j6,g3,g4,hA,rfl,h⟩:=hI
  simp only [aXF,cond_true]
  have S4:=am (Kd.dU (ok':=fun q=>q < hA∧(w.heap.size≤q∧q≠g2)) (Kd.gL (Kd.fZ (h.h4 rfl)) HB.out.size) (fun q hq=>⟨hq.1.1,Nat.le_trans HB.out.size hq.2.1,by have:=cK B2.out;have:=hq.2.1;omega⟩))
  have S9:=am (Kd.dU (ok':=fun q=>hA≤q∧(w.heap.size≤q∧q≠g2)) (Kd.gL (Kd.fZ (h.h9 rfl)) HB.out.size) (fun q hq=>⟨hq.1.1,Nat.le_trans HB.out.size hq.2.1,by have:=cK B2.out;have:=hq.2.1;omega⟩))
  have X3:Aside0 (W1.heap[g3]?=some (.cells #[(.int .i64 x0),(.int .i64 x1),(.slice j3 x2.length j4)] 28 (0,0))):=⟨(h.h10 rfl).2⟩
  have X4:Aside0 (W1.heap[g4]?=some (.cells #[(.int .i64 y0),(.int .i64 y1),(.slice j5 y2.length j6)] 28 (0,0))):=⟨(h.h11 rfl).2⟩
  replace B1:=am (aN B1.out h.hB)
  replace B2:=am (aN B2.out h.hB)
  replace HB:=am (aB HB.out h.hB)
  clear h hall
  have z0:W1.cell? ⟨g1,0,none⟩=some (.int .i64 a0):=aA B1.out 0
  have x_0:W1.cell? ⟨g3,0,none⟩=some (.int .i64 x0):=aA X3.out 0
  have x_1:W1.cell? ⟨g3,1,none⟩=some (.int .i64 x1):=aA X3.out 1
  have x_2:W1.cell? ⟨g3,2,none⟩=some (.slice j3 x2.length j4):=aA X3.out 2
  have y_0:W1.cell? ⟨g4,0,none⟩=some (.int .i64 y0):=aA X4.out 0
  have y_1:W1.cell? ⟨g4,1,none⟩=some (.int .i64 y1):=aA X4.out 1
  have y_2:W1.cell? ⟨g4,2,none⟩=some (.slice j5 y2.length j6):=aA X4.out 2
  have u0:W1.cell? ⟨g2,0,none⟩=some (.int .i64 0):=aA B2.out 0
  have u1:W1.cell? ⟨g2,1,none⟩=some (.int .i64 0):=aA B2.out 1
  have u2:W1.cell? ⟨g2,2,none⟩=some (.slice none 0 0):=aA B2.out 2
  have f0:=aG B2.out 0
  have f1:=aG B2.out 1
  have f2:=aG B2.out 2
  rcases aX.tail HT.out with ⟨ha,hb,n,hn,h3⟩|⟨h4,h3⟩
  ·have HN:=am hn
   have e0:(x0 == 0)=true:=beq_iff_eq.mpr ha
   have e1:(y0 == 0)=true:=beq_iff_eq.mpr hb
   clear hn ha hb
   rcases h3 with ⟨h1,h2,h3⟩|⟨h4,h3⟩
   ·have ji:decide (0≤n)=true:=decide_eq_true h1
    have jj:decide (n≤99999)=true:=decide_eq_true h2
    clear h1 h2
    simp only [Prod.mk.injEq] at h3
    obtain ⟨rfl,rfl,rfl⟩:=h3
    go_wp2_with (first|((with_reducible refine aD (f:=62) rfl ?_);refine aM (some 39) rfl rfl Try.func62 (by kernel_rfl) rfl #[.int .i64 a0, .int .i64 x1, .int .i64 y1] rfl (by (try simp only [List.map_toArray,List.map_cons,List.map_nil]);first|done|rfl) ?_;(with_reducible refine (fV.callsB a0 x1 y1 n _ HN.out).mono ?_);rintro e W5 ⟨rfl,hb⟩;refine ⟨_,rfl,?_⟩;replace S4:=am (Kd.dM S4.out hb);replace S9:=am (Kd.dM S9.out hb);replace X3:=am (aN X3.out hb);replace X4:=am (aN X4.out hb);replace B1:=am (aN B1.out hb);replace B2:=am (aN B2.out hb);replace HB:=am (aB HB.out hb);clear hb z0 x_0 x_1 x_2 y_0 y_1 y_2 u0 u1 u2 f0 f1 f2;have z0:W5.cell? ⟨g1,0,none⟩=some (.int .i64 a0):=aA B1.out 0;have x_0:W5.cell? ⟨g3,0,none⟩=some (.int .i64 x0):=aA X3.out 0;have x_1:W5.cell? ⟨g3,1,none⟩=some (.int .i64 x1):=aA X3.out 1;have x_2:W5.cell? ⟨g3,2,none⟩=some (.slice j3 x2.length j4):=aA X3.out 2;have y_0:W5.cell? ⟨g4,0,none⟩=some (.int .i64 y0):=aA X4.out 0;have y_1:W5.cell? ⟨g4,1,none⟩=some (.int .i64 y1):=aA X4.out 1;have y_2:W5.cell? ⟨g4,2,none⟩=some (.slice j5 y2.length j6):=aA X4.out 2;have u0:W5.cell? ⟨g2,0,none⟩=some (.int .i64 0):=aA B2.out 0;have u1:W5.cell? ⟨g2,1,none⟩=some (.int .i64 0):=aA B2.out 1;have u2:W5.cell? ⟨g2,2,none⟩=some (.slice none 0 0):=aA B2.out 2;have f0:=aG B2.out 0;have f1:=aG B2.out 1;have f2:=aG B2.out 2)|fail)
    refine bodyPost_ret (results_cell_row rfl _ _ g2 28 #[(.int .i64 0),(.int .i64 n), .slice none 0 0] (0,0) _ rfl (aS (aS (aS B2.out 0 _ rfl) 1 _ rfl) 2 _ rfl) Try.underlying28 rfl (by kernel_rfl)) rfl ?_
    exact ⟨_,rfl,Kd.uV _ _ _ _ _,below_set (below_set (below_set HB.out j9.out) j9.out) j9.out⟩
   ·by_cases h1:0≤n
    ·have ji:decide (0≤n)=true:=decide_eq_true h1
     have jj:decide (n≤99999)=false:=decide_eq_false (fun h2=>h4 ⟨h1,h2⟩)
     clear h1 h4
     simp only [Prod.mk.injEq] at h3
     obtain ⟨rfl,rfl,rfl⟩:=h3
     go_wp2_with (first|((with_reducible refine aD (f:=62) rfl ?_);refine aM (some 39) rfl rfl Try.func62 (by kernel_rfl) rfl #[.int .i64 a0, .int .i64 x1, .int .i64 y1] rfl (by (try simp only [List.map_toArray,List.map_cons,List.map_nil]);first|done|rfl) ?_;(with_reducible refine (fV.callsB a0 x1 y1 n _ HN.out).mono ?_);rintro e W5 ⟨rfl,hb⟩;refine ⟨_,rfl,?_⟩;replace S4:=am (Kd.dM S4.out hb);replace S9:=am (Kd.dM S9.out hb);replace X3:=am (aN X3.out hb);replace X4:=am (aN X4.out hb);replace B1:=am (aN B1.out hb);replace B2:=am (aN B2.out hb);replace HB:=am (aB HB.out hb);clear hb z0 x_0 x_1 x_2 y_0 y_1 y_2 u0 u1 u2 f0 f1 f2;have z0:W5.cell? ⟨g1,0,none⟩=some (.int .i64 a0):=aA B1.out 0;have x_0:W5.cell? ⟨g3,0,none⟩=some (.int .i64 x0):=aA X3.out 0;have x_1:W5.cell? ⟨g3,1,none⟩=some (.int .i64 x1):=aA X3.out 1;have x_2:W5.cell? ⟨g3,2,none⟩=some (.slice j3 x2.length j4):=aA X3.out 2;have y_0:W5.cell? ⟨g4,0,none⟩=some (.int .i64 y0):=aA X4.out 0;have y_1:W5.cell? ⟨g4,1,none⟩=some (.int .i64 y1):=aA X4.out 1;have y_2:W5.cell? ⟨g4,2,none⟩=some (.slice j5 y2.length j6):=aA X4.out 2;have u0:W5.cell? ⟨g2,0,none⟩=some (.int .i64 0):=aA B2.out 0;have u1:W5.cell? ⟨g2,1,none⟩=some (.int .i64 0):=aA B2.out 1;have u2:W5.cell? ⟨g2,2,none⟩=some (.slice none 0 0):=aA B2.out 2;have f0:=aG B2.out 0;have f1:=aG B2.out 1;have f2:=aG B2.out 2)|((with_reducible refine bL (N:=52) rfl ?_);refine Kd.vU kH w.heap.size 28 rfl (N:=52) rfl (w0:=w) (xs:=[(⟨x0,x1,x2⟩:S28),(⟨y0,y1,y2⟩:S28)]) (inner:=[(.int .i64 x0),(.int .i64 x1),(.slice j3 x2.length j4),(.int .i64 y0),(.int .i64 y1),(.slice j5 y2.length j6)]) (ok:=fun q=>w.heap.size≤q∧q≠g2) (fun j q=>((j=0∧q < hA)∨(j=1∧hA≤q))∧w.heap.size≤q∧q≠g2) ?hr rfl ?hrep ?hap (fun j q hq=>hq.2) ?hfr HB.out HB.out.size (by simp) ?_;(case hr=>first|(go_simp;done)|(go_simp;rfl));(case hrep=>(intro j x hj;rcases j with _| _|j;(obtain rfl:=Option.some.inj hj;exact gP _ _ _ (⟨x0,x1,x2⟩:S28) (Kd.dU S4.out (fun q hq=>⟨.inl ⟨rfl,hq.1⟩,hq.2⟩)));(obtain rfl:=Option.some.inj hj;exact gP _ _ _ (⟨y0,y1,y2⟩:S28) (Kd.dU S9.out (fun q hq=>⟨.inr ⟨rfl,hq.1⟩,hq.2⟩)));exact absurd hj (by simp)));(case hap=>(intro i j q h1 h2;rcases h1.1 with ⟨rfl,a⟩|⟨rfl,a⟩ <;> rcases h2.1 with ⟨rfl,b⟩|⟨rfl,b⟩ <;> omega));(case hfr=>exact ⟨HB.out.size,by have:=cK B2.out;omega⟩);intro v9 W9 hs hb9 hg9 _;obtain ⟨B9,d9,e9⟩:=Kd.eP hs;replace e9:v9= .slice B9 2 d9:=e9;subst e9;have SR:=am hs;replace HB:=am hb9;replace B2:=am (pJ B2.out hg9 (by simp));clear hs hb9 hg9 z0 x_0 x_1 x_2 y_0 y_1 y_2 u0 u1 u2 f0 f1 f2 X3 X4 B1 S4 S9;have u0:W9.cell? ⟨g2,0,none⟩=some (.int .i64 0):=aA B2.out 0;have u1:W9.cell? ⟨g2,1,none⟩=some (.int .i64 0):=aA B2.out 1;have u2:W9.cell? ⟨g2,2,none⟩=some (.slice none 0 0):=aA B2.out 2;have f0:=aG B2.out 0;have f1:=aG B2.out 1;have f2:=aG B2.out 2)|fail)
     refine bodyPost_ret (results_cell_row rfl _ _ g2 28 #[(.int .i64 a0),(.int .i64 0), .slice B9 2 d9] (0,0) _ rfl (aS (aS (aS B2.out 0 _ rfl) 1 _ rfl) 2 _ rfl) Try.underlying28 rfl (by kernel_rfl)) rfl ?_
     exact ⟨_,rfl,Kd.dU (Kd.cO (p:=⟨g2,2,none⟩) (Kd.cO (p:=⟨g2,1,none⟩) (Kd.cO (p:=⟨g2,0,none⟩) SR.out (fun q hq=>hq.2) _) (fun q hq=>hq.2) _) (fun q hq=>hq.2) _) (fun q hq=>hq.1),below_set (below_set (below_set HB.out j9.out) j9.out) j9.out⟩
    ·have ji:decide (0≤n)=false:=decide_eq_false h1
     clear h1 h4
     simp only [Prod.mk.injEq] at h3
     obtain ⟨rfl,rfl,rfl⟩:=h3
     go_wp2_with (first|((with_reducible refine aD (f:=62) rfl ?_);refine aM (some 39) rfl rfl Try.func62 (by kernel_rfl) rfl #[.int .i64 a0, .int .i64 x1, .int .i64 y1] rfl (by (try simp only [List.map_toArray,List.map_cons,List.map_nil]);first|done|rfl) ?_;(with_reducible refine (fV.callsB a0 x1 y1 n _ HN.out).mono ?_);rintro e W5 ⟨rfl,hb⟩;refine ⟨_,rfl,?_⟩;replace S4:=am (Kd.dM S4.out hb);replace S9:=am (Kd.dM S9.out hb);replace X3:=am (aN X3.out hb);replace X4:=am (aN X4.out hb);replace B1:=am (aN B1.out hb);replace B2:=am (aN B2.out hb);replace HB:=am (aB HB.out hb);clear hb z0 x_0 x_1 x_2 y_0 y_1 y_2 u0 u1 u2 f0 f1 f2;have z0:W5.cell? ⟨g1,0,none⟩=some (.int .i64 a0):=aA B1.out 0;have x_0:W5.cell? ⟨g3,0,none⟩=some (.int .i64 x0):=aA X3.out 0;have x_1:W5.cell? ⟨g3,1,none⟩=some (.int .i64 x1):=aA X3.out 1;have x_2:W5.cell? ⟨g3,2,none⟩=some (.slice j3 x2.length j4):=aA X3.out 2;have y_0:W5.cell? ⟨g4,0,none⟩=some (.int .i64 y0):=aA X4.out 0;have y_1:W5.cell? ⟨g4,1,none⟩=some (.int .i64 y1):=aA X4.out 1;have y_2:W5.cell? ⟨g4,2,none⟩=some (.slice j5 y2.length j6):=aA X4.out 2;have u0:W5.cell? ⟨g2,0,none⟩=some (.int .i64 0):=aA B2.out 0;have u1:W5.cell? ⟨g2,1,none⟩=some (.int .i64 0):=aA B2.out 1;have u2:W5.cell? ⟨g2,2,none⟩=some (.slice none 0 0):=aA B2.out 2;have f0:=aG B2.out 0;have f1:=aG B2.out 1;have f2:=aG B2.out 2)|((with_reducible refine bL (N:=52) rfl ?_);refine Kd.vU kH w.heap.size 28 rfl (N:=52) rfl (w0:=w) (xs:=[(⟨x0,x1,x2⟩:S28),(⟨y0,y1,y2⟩:S28)]) (inner:=[(.int .i64 x0),(.int .i64 x1),(.slice j3 x2.length j4),(.int .i64 y0),(.int .i64 y1),(.slice j5 y2.length j6)]) (ok:=fun q=>w.heap.size≤q∧q≠g2) (fun j q=>((j=0∧q < hA)∨(j=1∧hA≤q))∧w.heap.size≤q∧q≠g2) ?hr rfl ?hrep ?hap (fun j q hq=>hq.2) ?hfr HB.out HB.out.size (by simp) ?_;(case hr=>first|(go_simp;done)|(go_simp;rfl));(case hrep=>(intro j x hj;rcases j with _| _|j;(obtain rfl:=Option.some.inj hj;exact gP _ _ _ (⟨x0,x1,x2⟩:S28) (Kd.dU S4.out (fun q hq=>⟨.inl ⟨rfl,hq.1⟩,hq.2⟩)));(obtain rfl:=Option.some.inj hj;exact gP _ _ _ (⟨y0,y1,y2⟩:S28) (Kd.dU S9.out (fun q hq=>⟨.inr ⟨rfl,hq.1⟩,hq.2⟩)));exact absurd hj (by simp)));(case hap=>(intro i j q h1 h2;rcases h1.1 with ⟨rfl,a⟩|⟨rfl,a⟩ <;> rcases h2.1 with ⟨rfl,b⟩|⟨rfl,b⟩ <;> omega));(case hfr=>exact ⟨HB.out.size,by have:=cK B2.out;omega⟩);intro v9 W9 hs hb9 hg9 _;obtain ⟨B9,d9,e9⟩:=Kd.eP hs;replace e9:v9= .slice B9 2 d9:=e9;subst e9;have SR:=am hs;replace HB:=am hb9;replace B2:=am (pJ B2.out hg9 (by simp));clear hs hb9 hg9 z0 x_0 x_1 x_2 y_0 y_1 y_2 u0 u1 u2 f0 f1 f2 X3 X4 B1 S4 S9;have u0:W9.cell? ⟨g2,0,none⟩=some (.int .i64 0):=aA B2.out 0;have u1:W9.cell? ⟨g2,1,none⟩=some (.int .i64 0):=aA B2.out 1;have u2:W9.cell? ⟨g2,2,none⟩=some (.slice none 0 0):=aA B2.out 2;have f0:=aG B2.out 0;have f1:=aG B2.out 1;have f2:=aG B2.out 2)|fail)
     refine bodyPost_ret (results_cell_row rfl _ _ g2 28 #[(.int .i64 a0),(.int .i64 0), .slice B9 2 d9] (0,0) _ rfl (aS (aS (aS B2.out 0 _ rfl) 1 _ rfl) 2 _ rfl) Try.underlying28 rfl (by kernel_rfl)) rfl ?_
     exact ⟨_,rfl,Kd.dU (Kd.cO (p:=⟨g2,2,none⟩) (Kd.cO (p:=⟨g2,1,none⟩) (Kd.cO (p:=⟨g2,0,none⟩) SR.out (fun q hq=>hq.2) _) (fun q hq=>hq.2) _) (fun q hq=>hq.2) _) (fun q hq=>hq.1),below_set (below_set (below_set HB.out j9.out) j9.out) j9.out⟩
  ·by_cases h1:x0=0
   ·have e0:(x0 == 0)=true:=beq_iff_eq.mpr h1
    have e1:(y0 == 0)=false:=beq_eq_false_iff_ne.mpr (fun h2=>h4 ⟨h1,h2⟩)
    clear h1 h4
    simp only [Prod.mk.injEq] at h3
    obtain ⟨rfl,rfl,rfl⟩:=h3
    go_wp2_with (first|((with_reducible refine bL (N:=52) rfl ?_);refine Kd.vU kH w.heap.size 28 rfl (N:=52) rfl (w0:=w) (xs:=[(⟨x0,x1,x2⟩:S28),(⟨y0,y1,y2⟩:S28)]) (inner:=[(.int .i64 x0),(.int .i64 x1),(.slice j3 x2.length j4),(.int .i64 y0),(.int .i64 y1),(.slice j5 y2.length j6)]) (ok:=fun q=>w.heap.size≤q∧q≠g2) (fun j q=>((j=0∧q < hA)∨(j=1∧hA≤q))∧w.heap.size≤q∧q≠g2) ?hr rfl ?hrep ?hap (fun j q hq=>hq.2) ?hfr HB.out HB.out.size (by simp) ?_;(case hr=>first|(go_simp;done)|(go_simp;rfl));(case hrep=>(intro j x hj;rcases j with _| _|j;(obtain rfl:=Option.some.inj hj;exact gP _ _ _ (⟨x0,x1,x2⟩:S28) (Kd.dU S4.out (fun q hq=>⟨.inl ⟨rfl,hq.1⟩,hq.2⟩)));(obtain rfl:=Option.some.inj hj;exact gP _ _ _ (⟨y0,y1,y2⟩:S28) (Kd.dU S9.out (fun q hq=>⟨.inr ⟨rfl,hq.1⟩,hq.2⟩)));exact absurd hj (by simp)));(case hap=>(intro i j q h1 h2;rcases h1.1 with ⟨rfl,a⟩|⟨rfl,a⟩ <;> rcases h2.1 with ⟨rfl,b⟩|⟨rfl,b⟩ <;> omega));(case hfr=>exact ⟨HB.out.size,by have:=cK B2.out;omega⟩);intro v9 W9 hs hb9 hg9 _;obtain ⟨B9,d9,e9⟩:=Kd.eP hs;replace e9:v9= .slice B9 2 d9:=e9;subst e9;have SR:=am hs;replace HB:=am hb9;replace B2:=am (pJ B2.out hg9 (by simp));clear hs hb9 hg9 z0 x_0 x_1 x_2 y_0 y_1 y_2 u0 u1 u2 f0 f1 f2 X3 X4 B1 S4 S9;have u0:W9.cell? ⟨g2,0,none⟩=some (.int .i64 0):=aA B2.out 0;have u1:W9.cell? ⟨g2,1,none⟩=some (.int .i64 0):=aA B2.out 1;have u2:W9.cell? ⟨g2,2,none⟩=some (.slice none 0 0):=aA B2.out 2;have f0:=aG B2.out 0;have f1:=aG B2.out 1;have f2:=aG B2.out 2)|fail)
    refine bodyPost_ret (results_cell_row rfl _ _ g2 28 #[(.int .i64 a0),(.int .i64 0), .slice B9 2 d9] (0,0) _ rfl (aS (aS (aS B2.out 0 _ rfl) 1 _ rfl) 2 _ rfl) Try.underlying28 rfl (by kernel_rfl)) rfl ?_
    exact ⟨_,rfl,Kd.dU (Kd.cO (p:=⟨g2,2,none⟩) (Kd.cO (p:=⟨g2,1,none⟩) (Kd.cO (p:=⟨g2,0,none⟩) SR.out (fun q hq=>hq.2) _) (fun q hq=>hq.2) _) (fun q hq=>hq.2) _) (fun q hq=>hq.1),below_set (below_set (below_set HB.out j9.out) j9.out) j9.out⟩
   ·have e0:(x0 == 0)=false:=beq_eq_false_iff_ne.mpr h1
    clear h1 h4
    simp only [Prod.mk.injEq] at h3
    obtain ⟨rfl,rfl,rfl⟩:=h3
    go_wp2_with (first|((with_reducible refine bL (N:=52) rfl ?_);refine Kd.vU kH w.heap.size 28 rfl (N:=52) rfl (w0:=w) (xs:=[(⟨x0,x1,x2⟩:S28),(⟨y0,y1,y2⟩:S28)]) (inner:=[(.int .i64 x0),(.int .i64 x1),(.slice j3 x2.length j4),(.int .i64 y0),(.int .i64 y1),(.slice j5 y2.length j6)]) (ok:=fun q=>w.heap.size≤q∧q≠g2) (fun j q=>((j=0∧q < hA)∨(j=1∧hA≤q))∧w.heap.size≤q∧q≠g2) ?hr rfl ?hrep ?hap (fun j q hq=>hq.2) ?hfr HB.out HB.out.size (by simp) ?_;(case hr=>first|(go_simp;done)|(go_simp;rfl));(case hrep=>(intro j x hj;rcases j with _| _|j;(obtain rfl:=Option.some.inj hj;exact gP _ _ _ (⟨x0,x1,x2⟩:S28) (Kd.dU S4.out (fun q hq=>⟨.inl ⟨rfl,hq.1⟩,hq.2⟩)));(obtain rfl:=Option.some.inj hj;exact gP _ _ _ (⟨y0,y1,y2⟩:S28) (Kd.dU S9.out (fun q hq=>⟨.inr ⟨rfl,hq.1⟩,hq.2⟩)));exact absurd hj (by simp)));(case hap=>(intro i j q h1 h2;rcases h1.1 with ⟨rfl,a⟩|⟨rfl,a⟩ <;> rcases h2.1 with ⟨rfl,b⟩|⟨rfl,b⟩ <;> omega));(case hfr=>exact ⟨HB.out.size,by have:=cK B2.out;omega⟩);intro v9 W9 hs hb9 hg9 _;obtain ⟨B9,d9,e9⟩:=Kd.eP hs;replace e9:v9= .slice B9 2 d9:=e9;subst e9;have SR:=am hs;replace HB:=am hb9;replace B2:=am (pJ B2.out hg9 (by simp));clear hs hb9 hg9 z0 x_0 x_1 x_2 y_0 y_1 y_2 u0 u1 u2 f0 f1 f2 X3 X4 B1 S4 S9;have u0:W9.cell? ⟨g2,0,none⟩=some (.int .i64 0):=aA B2.out 0;have u1:W9.cell? ⟨g2,1,none⟩=some (.int .i64 0):=aA B2.out 1;have u2:W9.cell? ⟨g2,2,none⟩=some (.slice none 0 0):=aA B2.out 2;have f0:=aG B2.out 0;have f1:=aG B2.out 1;have f2:=aG B2.out 2)|fail)
    refine bodyPost_ret (results_cell_row rfl _ _ g2 28 #[(.int .i64 a0),(.int .i64 0), .slice B9 2 d9] (0,0) _ rfl (aS (aS (aS B2.out 0 _ rfl) 1 _ rfl) 2 _ rfl) Try.underlying28 rfl (by kernel_rfl)) rfl ?_
    exact ⟨_,rfl,Kd.dU (Kd.cO (p:=⟨g2,2,none⟩) (Kd.cO (p:=⟨g2,1,none⟩) (Kd.cO (p:=⟨g2,0,none⟩) SR.out (fun q hq=>hq.2) _) (fun q hq=>hq.2) _) (fun q hq=>hq.2) _) (fun q hq=>hq.1),below_set (below_set (below_set HB.out j9.out) j9.out) j9.out⟩
theorem aX.calls (k:Nat):∀ (j4:Int) (j5:Int) (j6:Option Addr) (j7:Nat) (j3:List (S28)) (r1:Int) (r2:Int) (r3:List (S28)) (w:World) (hr0_2:Kd.C k28 w j6 j3.length j3) (hc0_2:j3.length≤j7) (h:aX.f k j4 j5 j3=some (r1,r2,r3)),
  Calls Try.prog 32 #[.agg #[.int .i64 j4, .int .i64 j5, .slice j6 j3.length j7]] w fun e w'=>∃ v2_:Value,e= .returned (.agg #[.int .i64 r1, .int .i64 r2,v2_])∧Kd.N k28 28 w' w.heap.size (fun k_=>(w.heap.size≤k_)) v2_ r3∧Below w.heap.size w w':=by
 intro a0 a1 A0 c0 l r1 r2 r3 w hr hc h
 refine (aX.callsS k a0 a1 A0 c0 l r1 r2 r3 w hr hc h).mono ?_
 rintro e w' ⟨v,rfl,hs,hb⟩
 exact ⟨v,rfl,Kd.R_N (OD hs),hb⟩
theorem aI.mono_l:∀ k,(∀ y0,LeO (aI.f k y0) (aI.f (k + 1) y0))∧(∀ y0 y1 y2 y3,LeO (aI.l0 k y0 y1 y2 y3) (aI.l0 (k + 1) y0 y1 y2 y3))∧(∀ y0 y1 y2 y3 y4 y5 y6 y7 y8 y9 j3 j4 j5 j6,LeO (aI.j1 k y0 y1 y2 y3 y4 y5 y6 y7 y8 y9 j3 j4 j5 j6) (aI.j1 (k + 1) y0 y1 y2 y3 y4 y5 y6 y7 y8 y9 j3 j4 j5 j6))∧(∀ y0 y1 y2 y3 y4 y5 y6 y7 y8 y9 j3 j4 j5 j6,LeO (aI.j2 k y0 y1 y2 y3 y4 y5 y6 y7 y8 y9 j3 j4 j5 j6) (aI.j2 (k + 1) y0 y1 y2 y3 y4 y5 y6 y7 y8 y9 j3 j4 j5 j6))
 |0=>⟨fun _ r h=>by simp [aI.f] at h,fun _ _ _ _ r h=>by simp [aI.l0] at h,fun _ _ _ _ _ _ _ _ _ _ _ _ _ _ r h=>by simp [aI.j1] at h,fun _ _ _ _ _ _ _ _ _ _ _ _ _ _ r h=>by simp [aI.j2] at h⟩
 |k + 1=>by
  obtain ⟨ih0,ih1,ih2,ih3⟩:=aI.mono_l k
  refine ⟨?_,?_,?_,?_⟩
  ·intro y0
   unfold aI.f
   have m0:=@aX.mono
   exact mo_
  ·intro y0 y1 y2 y3
   unfold aI.l0
   have m0:=@aX.mono
   exact mo_
  ·intro y0 y1 y2 y3 y4 y5 y6 y7 y8 y9 j3 j4 j5 j6
   unfold aI.j1
   have m0:=@aX.mono
   exact mo_
  ·intro y0 y1 y2 y3 y4 y5 y6 y7 y8 y9 j3 j4 j5 j6
   unfold aI.j2
   have m0:=@aX.mono
   exact mo_
theorem aI.mono:∀ a0 k,LeO (aI.f k a0) (aI.f (k + 1) a0):=by
 intro a0 k
 obtain ⟨ih0,ih1,ih2,ih3⟩:=aI.mono_l k
 exact ih0 a0
def GX (d:Kd S70):Kd S70:=Kd.iso (Kd.pair (Kd.int .i64) (Kd.pair (Kd.int .i64) (Kd.pair (Kd.int .i64) (FJ kH (FJ (wL 70 d) (wL 70 d)))))) (fun x:S70=>(x.f0,x.f1,x.f2,x.f3,x.f4,x.f5))
theorem monoS70:Kd.kP GX:=Kd.mono_iso _ (Kd.mono_pair (Kd.mono_const _) (Kd.mono_pair (Kd.mono_const _) (Kd.mono_pair (Kd.mono_const _) (mono_pairS (Kd.mono_const _) (mono_pairS (mono_sliceS 70 Kd.mono_id) (mono_sliceS 70 Kd.mono_id))))))
theorem OO:Kd.Sub GX [28,70]:=Kd.pX _ (Kd.fQ (Kd.sub_const _ (by decide)) (Kd.fQ (Kd.sub_const _ (by decide)) (Kd.fQ (Kd.sub_const _ (by decide)) (xY (Kd.sub_const _ (by decide)) (xY (sH 70 (by decide) Kd.oI) (sH 70 (by decide) Kd.oI))))))
theorem CX:∀ n,(Kd.upto GX 8 [28,70] n).sz=8:=Kd.pY (fun _=>rfl)
def iU:Kd S70:=Kd.fix GX 8 [28,70] CX (Kd.sK OO)
theorem kW {w:World} {base:Nat} {ok:Nat→Prop} {x:S70} {cs:List Value} (h:iU.M w base ok x cs):∃ v5 v6 v7 p5 p6 p7,cs=[.int .i64 x.f0, .int .i64 x.f1, .int .i64 x.f2, .int .i64 x.f3.f0, .int .i64 x.f3.f1,v5,v6,v7]∧Kd.S kH 28 w base p5 v5 x.f3.f2∧Kd.S iU 70 w base p6 v6 x.f4∧Kd.S iU 70 w base p7 v7 x.f5∧(∀ k,p5 k∨p6 k∨p7 k→ok k)∧(∀ k,(p5 k→¬ p6 k∧¬ p7 k)∧(p6 k→¬ p7 k)):=by
 obtain ⟨n,h⟩:=h
 cases n with
 |zero=>exact h.elim
 |succ n=>
  obtain ⟨_,_,rfl,rfl,⟨_,_,rfl,rfl,⟨_,_,rfl,rfl,⟨p,_,_,rfl,hM,⟨q,_,_,rfl,⟨v6,rfl,g6⟩,⟨v7,rfl,g7⟩⟩⟩⟩⟩⟩:=h
  obtain ⟨v5,rfl,g5⟩:=nY hM
  exact ⟨v5,v6,v7,_,_,_,rfl,g5,IZ g6,IZ g7,fun k hk=>by rcases hk with hk|hk|hk;exact hk.1;exact hk.1.1;exact hk.1.1,fun k=>⟨fun h=>⟨fun h2=>h2.1.2 h.2,fun h2=>h2.1.2 h.2⟩,fun h h2=>h2.2 h.2⟩⟩
theorem kL (w:World) (base:Nat) (ok p5 p6 p7:Nat→Prop) (x:S70) {v5 v6 v7:Value} (g5:Kd.S kH 28 w base p5 v5 x.f3.f2) (g6:Kd.S iU 70 w base p6 v6 x.f4) (g7:Kd.S iU 70 w base p7 v7 x.f5) (h:∀ k,p5 k∨p6 k∨p7 k→ok k) (ha:∀ k,(p5 k→¬ p6 k∧¬ p7 k)∧(p6 k→¬ p7 k)):
  iU.M w base ok x [.int .i64 x.f0, .int .i64 x.f1, .int .i64 x.f2, .int .i64 x.f3.f0, .int .i64 x.f3.f1,v5,v6,v7]:=by
 obtain ⟨n6,r6⟩:=rQ monoS70 g6
 obtain ⟨n7,r7⟩:=rQ monoS70 g7
 replace r6:=yC monoS70 CX (show n6≤n6 + n7 by omega) r6
 replace r7:=yC monoS70 CX (show n7≤n6 + n7 by omega) r7
 have hE:=gP w base _ x.f3 (Kd.dU g5 (fun k hk=>(⟨h k (.inl hk),hk⟩:ok k∧p5 k)))
 exact ⟨n6 + n7 + 1,[.int .i64 x.f0],_,rfl,rfl,[.int .i64 x.f1],_,rfl,rfl,[.int .i64 x.f2],_,rfl,rfl,p5,[.int .i64 x.f3.f0, .int .i64 x.f3.f1,v5],[v6,v7],rfl,hE,p6,[v6],[v7],rfl,⟨v6,rfl,Kd.dU r6 (fun k hk=>⟨⟨h k (.inr (.inl hk)),fun e=>((ha k).1 e).1 hk⟩,hk⟩)⟩,⟨v7,rfl,Kd.dU r7 (fun k hk=>⟨⟨h k (.inr (.inr hk)),fun e=>((ha k).1 e).2 hk⟩,fun e=>(ha k).2 e hk⟩)⟩⟩
theorem wH:∀ n {w base ok x cs},(Kd.upto GX 8 [28,70] n).M w base ok x cs→(Kd.upto F70 8 [28,70] n).M w base ok x cs
 |0,_,_,_,_,_,h=>h.elim
 |n + 1,w,base,ok,x,cs,h=>by
  obtain ⟨_,_,rfl,h0,⟨_,_,rfl,h1,⟨_,_,rfl,h2,⟨p,c5,_,rfl,g5,⟨q,_,_,rfl,⟨v6,rfl,g6⟩,⟨v7,rfl,g7⟩⟩⟩⟩⟩⟩:=h
  obtain ⟨m,g5⟩:=g5
  exact ⟨_,_,rfl,h0,_,_,rfl,h1,_,_,rfl,h2,c5,[v6,v7],rfl,⟨m,Kd.M_mono _ (fun k hk=>hk.1) (wG m g5)⟩,[v6],[v7],rfl,⟨v6,rfl,Kd.vT (by rw [CX n,KV n]) (fun _ _ _ _ _ hp=>wH n hp) (Kd.mH (Kd.S_R g6) (fun k hk=>hk.1.1))⟩,⟨v7,rfl,Kd.vT (by rw [CX n,KV n]) (fun _ _ _ _ _ hp=>wH n hp) (Kd.mH (Kd.S_R g7) (fun k hk=>hk.1.1))⟩⟩
theorem gT {w:World} {base:Nat} {ok:Nat→Prop} {v:Value} {xs:List S70} (h:Kd.S iU 70 w base ok v xs):k70.R 70 w base ok v xs:=
 Kd.vT (d:=iU) (d':=k70) rfl (fun w base ok x cs hp=>by obtain ⟨n,hp⟩:=hp;exact ⟨n,wH n hp⟩) (Kd.S_R h)
structure FSF (w W0:World) (gb:Nat) (B3:Option Addr) (d3:Nat) (x3:List S70) (f0 f1 f2 e0 e1:Int) (e2:List S28) (A5:Option Addr) (c5:Nat) (bd:List S70) (A6:Option Addr) (c6:Nat) (el:List S70) (A7:Option Addr) (c7:Nat) (x0 x1:Int) (x2:List S28) (yb ye:List S70) (B5:Option Addr) (d5:Nat) (B6:Option Addr) (d6:Nat) (B7:Option Addr) (d7 h1 h2:Nat) (b2 b5 b8 b10 b12 b14:Bool) (W:World):Prop where
 hB:Below w.heap.size w W
 hs:W0.heap.size≤W.heap.size
 hO:Kd.S iU 70 W w.heap.size (fun q=>(w.heap.size≤q∧q≠gb)∧q < W0.heap.size) (.slice B3 x3.length d3) x3
 h1_:b2=true→W0.heap.size≤h1∧h1≤W.heap.size
 h2_:b5=true→h1≤h2∧h2≤W.heap.size
 h6:b2=true→Kd.S iU 70 W w.heap.size (fun q=>W0.heap.size≤q∧q < h1) (.slice B6 yb.length d6) yb
 h7:b5=true→Kd.S iU 70 W w.heap.size (fun q=>h1≤q∧q < h2) (.slice B7 ye.length d7) ye
 h5:b8=true→Kd.S kH 28 W w.heap.size (fun q=>h2≤q) (.slice B5 x2.length d5) x2
 hX:W.heap[gb]?=some (.cells (cond b14 #[(.int .i64 f0),(.int .i64 f1),(.int .i64 f2),(.int .i64 x0),(.int .i64 x1),(.slice B5 x2.length d5),(.slice B6 yb.length d6),(.slice B7 ye.length d7)] (cond b12 #[(.int .i64 f0),(.int .i64 f1),(.int .i64 f2),(.int .i64 e0),(.int .i64 e1),(.slice A5 e2.length c5),(.slice B6 yb.length d6),(.slice B7 ye.length d7)] (cond b10 #[(.int .i64 f0),(.int .i64 f1),(.int .i64 f2),(.int .i64 e0),(.int .i64 e1),(.slice A5 e2.length c5),(.slice B6 yb.length d6),(.slice A7 el.length c7)] #[(.int .i64 f0),(.int .i64 f1),(.int .i64 f2),(.int .i64 e0),(.int .i64 e1),(.slice A5 e2.length c5),(.slice A6 bd.length c6),(.slice A7 el.length c7)]))) 70 (0,0))
def aSF (w W0:World) (gb:Nat) (ad:Addr) (c0:Nat) (l:List S70) (x9:Int) (B3:Option Addr) (d3:Nat) (x3:List S70) (f0 f1 f2 e0 e1:Int) (e2:List S28) (A5:Option Addr) (c5:Nat) (bd:List S70) (A6:Option Addr) (c6:Nat) (el:List S70) (A7:Option Addr) (c7:Nat) (x0 x1:Int) (x2:List S28) (yb ye:List S70) (u6 u13 u14 u15 u16 u17 u18 u19 u20 u21 u22 u23 u24 u25 u26 u27 u28 u29 u30 u31 u32 u33 u34 u35 u36 u37 u38 u39 u40 u41 u42 u43 u44 u45 u46 u47 u48 u49 u50 u51 u52 u53 u54 u55 u56 u57 u58 u59 u60 u61 u62 u63 u64 u65 u66 u67 u68 u69 u70 u71 u72 u73 u74:Value) (B5:Option Addr) (d5:Nat) (B6:Option Addr) (d6:Nat) (B7:Option Addr) (d7:Nat) (h1:Nat) (h2:Nat) (b0 b1 b2 b3 b4 b5 b6 b7 b8 b9 b10 b11 b12 b13 b14:Bool):Act:=
 { tmps:=#[(.slice (some ad) l.length c0),undef,(.slice none 0 0),(.slice B3 x3.length d3),undef,(.pointer (some ⟨gb,0,none⟩)),u6,(.slice (some ad) l.length c0),(.int .i64 (l.length:Int)),(.int .i64 x9),(.bool true),(.pointer (some (ad.add (x9.toNat * 8)))),(.agg #[(.int .i64 f0),(.int .i64 f1),(.int .i64 f2),(.int .i64 e0),(.int .i64 e1),(.slice A5 e2.length c5),(.slice A6 bd.length c6),(.slice A7 el.length c7)]),cond b0 (.pointer (some ⟨gb,6,none⟩)) u13,cond b1 (.slice A6 bd.length c6) u14,cond b2 (.slice B6 yb.length d6) u15,cond b3 (.pointer (some ⟨gb,7,none⟩)) u16,cond b4 (.slice A7 el.length c7) u17,cond b5 (.slice B7 ye.length d7) u18,cond b6 (.pointer (some ⟨gb,3,none⟩)) u19,cond b7 (.agg #[(.int .i64 e0),(.int .i64 e1),(.slice A5 e2.length c5)]) u20,cond b8 (.agg #[(.int .i64 x0),(.int .i64 x1),(.slice B5 x2.length d5)]) u21,cond b9 (.pointer (some ⟨gb,6,none⟩)) u22,cond b11 (.pointer (some ⟨gb,7,none⟩)) u23,cond b13 (.pointer (some ⟨gb,3,none⟩)) u24,u25,u26,u27,u28,u29,u30,u31,u32,u33,u34,u35,u36,u37,u38,u39,u40,u41,u42,u43,u44,u45,u46,u47,u48,u49,u50,u51,u52,u53,u54,u55,u56,u57,u58,u59,u60,u61,u62,u63,u64,u65,u66,u67,u68,u69,u70,u71,u72,u73,u74,undef],defers:=[] }
def LSF (w W0:World) (gb:Nat) (ad:Addr) (c0:Nat) (l:List S70) (x9:Int) (B3:Option Addr) (d3:Nat) (x3:List S70) (f0 f1 f2 e0 e1:Int) (e2:List S28) (A5:Option Addr) (c5:Nat) (bd:List S70) (A6:Option Addr) (c6:Nat) (el:List S70) (A7:Option Addr) (c7:Nat) (x0 x1:Int) (x2:List S28) (yb ye:List S70) (u6 u13 u14 u15 u16 u17 u18 u19 u20 u21 u22 u23 u24 u25 u26 u27 u28 u29 u30 u31 u32 u33 u34 u35 u36 u37 u38 u39 u40 u41 u42 u43 u44 u45 u46 u47 u48 u49 u50 u51 u52 u53 u54 u55 u56 u57 u58 u59 u60 u61 u62 u63 u64 u65 u66 u67 u68 u69 u70 u71 u72 u73 u74:Value) (b0 b1 b2 b3 b4 b5 b6 b7 b8 b9 b10 b11 b12 b13 b14:Bool) (a:Act) (W:World):Prop:=
 ∃ (B5:Option Addr) (d5:Nat) (B6:Option Addr) (d6:Nat) (B7:Option Addr) (d7:Nat) (h1:Nat) (h2:Nat),a=aSF w W0 gb ad c0 l x9 B3 d3 x3 f0 f1 f2 e0 e1 e2 A5 c5 bd A6 c6 el A7 c7 x0 x1 x2 yb ye u6 u13 u14 u15 u16 u17 u18 u19 u20 u21 u22 u23 u24 u25 u26 u27 u28 u29 u30 u31 u32 u33 u34 u35 u36 u37 u38 u39 u40 u41 u42 u43 u44 u45 u46 u47 u48 u49 u50 u51 u52 u53 u54 u55 u56 u57 u58 u59 u60 u61 u62 u63 u64 u65 u66 u67 u68 u69 u70 u71 u72 u73 u74 B5 d5 B6 d6 B7 d7 h1 h2 b0 b1 b2 b3 b4 b5 b6 b7 b8 b9 b10 b11 b12 b13 b14∧FSF w W0 gb B3 d3 x3 f0 f1 f2 e0 e1 e2 A5 c5 bd A6 c6 el A7 c7 x0 x1 x2 yb ye B5 d5 B6 d6 B7 d7 h1 h2 b2 b5 b8 b10 b12 b14 W
theorem aI.tail {k:Nat} {x3 l:List S70} {n i f0 f1 f2 x0 x1:Int} {x2:List S28} {yb ye r:List S70} (h:(if f0=2 then (if x0=0 then (aI.j1 k x3 (x0 == 0) l n i (x1 != 0) f0 f1 f2 x0 x1 x2 yb ye) else (aI.j1 k x3 (x0 == 0) l n i false f0 f1 f2 x0 x1 x2 yb ye)) else (aI.j1 k x3 (x0 == 0) l n i false f0 f1 f2 x0 x1 x2 yb ye))=some r):
  ∃ k',k' < k∧(((f0 == 2)=true∧(x0 == 0)=true∧(x1 != 0)=true∧x3.length + yb.length < 1256584717458∧aI.l0 k' (x3 ++ yb) l n (wrap64 (i + 1))=some r)∨((f0 == 2)=true∧(x0 == 0)=true∧(x1 != 0)=false∧x3.length + ye.length < 1256584717458∧aI.l0 k' (x3 ++ ye) l n (wrap64 (i + 1))=some r)
   ∨((f0 == 2)=false∧(f0 == 3)=true∧(x0 == 0)=true∧(x1 == 0)=true∧aI.l0 k' x3 l n (wrap64 (i + 1))=some r)
   ∨(x3.length < 1256584717458∧aI.l0 k' (x3 ++ [(⟨f0,f1,f2,(⟨x0,x1,x2⟩:S28),yb,ye⟩:S70)]) l n (wrap64 (i + 1))=some r∧(((f0 == 2)=true∧(f0 == 3)=false∧(x0 == 0)=false)∨((f0 == 2)=false∧(f0 == 3)=true∧(x0 == 0)=true∧(x1 == 0)=false)∨((f0 == 2)=false∧(f0 == 3)=true∧(x0 == 0)=false)∨((f0 == 2)=false∧(f0 == 3)=false∧(x0 == 0)=true)∨((f0 == 2)=false∧(f0 == 3)=false∧(x0 == 0)=false)))):=by
 cases k with
 |zero=>revert h;(repeat' split) <;> simp [aI.j1]
 |succ k=>
  cases k with
  |zero=>
   by_cases h2:f0=2 <;> by_cases h0:x0=0 <;> by_cases h1:x1=0 <;> simp [aI.j1,aI.j2,aI.l0,h2,h0,h1] at h
  |succ k=>
   by_cases h2:f0=2
   ·have h3:¬ f0=3:=by omega
    by_cases h0:x0=0
    ·by_cases h1:x1=0
     ·simp only [aI.j1,aI.j2,h2,h0,h1,if_true,bne_self_eq_false,Bool.false_eq_true,if_false,beq_self_eq_true] at h
      by_cases c:x3.length + ye.length < 1256584717458
      ·rw [if_pos c] at h
       exact ⟨k,by omega, .inr (.inl ⟨by simp [h2],by simp [h0],by simp [h1],c,h⟩)⟩
      rw [if_neg c] at h
      cases h
     ·have h1':(x1 != 0)=true:=bne_iff_ne.mpr h1
      simp only [aI.j1,h2,h0,h1',if_true] at h
      by_cases c:x3.length + yb.length < 1256584717458
      ·rw [if_pos c] at h
       exact ⟨k + 1,by omega, .inl ⟨by simp [h2],by simp [h0],h1',c,h⟩⟩
      rw [if_neg c] at h
      cases h
    have h0':(x0 == 0)=false:=beq_eq_false_iff_ne.mpr h0
    have j3:¬ ((2:Int)=3):=by decide
    simp only [aI.j1,aI.j2,h2,h0,h0',if_true,if_false,Bool.false_eq_true,j3] at h
    by_cases c:x3.length < 1256584717458
    ·rw [if_pos c] at h
     exact ⟨k,by omega, .inr (.inr (.inr ⟨c,by rw [h2];exact h, .inl ⟨by simp [h2],by simp [h3],h0'⟩⟩))⟩
    rw [if_neg c] at h
    cases h
   have h2':(f0 == 2)=false:=beq_eq_false_iff_ne.mpr h2
   simp only [aI.j1,aI.j2,h2,if_false,Bool.false_eq_true] at h
   by_cases h3:f0=3
   ·rw [if_pos h3] at h
    by_cases h0:x0=0
    ·rw [if_pos (by simp [h0])] at h
     by_cases h1:x1=0
     ·rw [if_pos h1] at h
      exact ⟨k,by omega, .inr (.inr (.inl ⟨h2',by simp [h3],by simp [h0],by simp [h1],h⟩))⟩
     rw [if_neg h1] at h
     by_cases c:x3.length < 1256584717458
     ·rw [if_pos c] at h
      exact ⟨k,by omega, .inr (.inr (.inr ⟨c,h, .inr (.inl ⟨h2',by simp [h3],by simp [h0],by simp [h1]⟩)⟩))⟩
     rw [if_neg c] at h
     cases h
    rw [if_neg (by simp [h0])] at h
    by_cases c:x3.length < 1256584717458
    ·rw [if_pos c] at h
     exact ⟨k,by omega, .inr (.inr (.inr ⟨c,h, .inr (.inr (.inl ⟨h2',by simp [h3],by simp [h0]⟩))⟩))⟩
    rw [if_neg c] at h
    cases h
   rw [if_neg h3] at h
   by_cases c:x3.length < 1256584717458
   ·rw [if_pos c] at h
    refine ⟨k,by omega, .inr (.inr (.inr ⟨c,h,?_⟩))⟩
    by_cases h0:x0=0
    ·exact .inr (.inr (.inr (.inl ⟨h2',by simp [h3],by simp [h0]⟩)))
    exact .inr (.inr (.inr (.inr ⟨h2',by simp [h3],by simp [h0]⟩)))
   rw [if_neg c] at h
   cases h
theorem aI.callsS (k:Nat):∀ (A0:Option Addr) (c0:Nat) (l:List (S70)) (r:List (S70)) (w:World) (hr0:Kd.C k70 w A0 l.length l) (hc0:l.length≤c0) (h:aI.f k l=some r),
  Calls Try.prog 41 #[.slice A0 l.length c0] w fun e w'=>∃ v0_:Value,e= .returned (v0_)∧Kd.S iU 70 w' w.heap.size (fun q=>w.heap.size≤q) v0_ r∧Below w.heap.size w w':=by
 induction k using Nat.strongRecOn with
 | _ k ih=>
 intro A0 c0 l r w hr0 hc0 h
 cases k with
 |zero=>exact absurd h (by simp [aI.f])
 |succ k=>
 simp only [aI.f] at h
 have jg:=am hr0
 have ji:=am hc0
 have H':=am h
 have HB:=am (Below.refl w.heap.size w)
 clear hr0 hc0 h
 go_enter Try.func41,Try.ntmps41
 go_wp2
 go_loopg [3,9] k (fun kq v3 v9 w'=>∃ (x3:List S70) (x9:Int),v9= .int .i64 x9∧Aside0 (aI.l0 kq x3 l (l.length:Int) x9=some r)∧Aside0 (kq≤k)∧Aside0 (Kd.S iU 70 w' w.heap.size (fun q=>w.heap.size≤q) v3 x3)∧Aside0 (Below w.heap.size w w'))
 case atStart=>exact ⟨[],0,(by first|rfl|(simp;done)),H',⟨Nat.le_refl _⟩,⟨Kd.uV _ _ _ _ _⟩,HB⟩
 case round=>
  clear H' HB
  obtain ⟨x3,x9,rfl,HA,j8,HO,HB⟩:=hrel
  obtain ⟨B3,d3,rfl⟩:=Kd.eP HO.out
  cases gk with
  |zero=>exact absurd HA.out (by simp [aI.l0])
  |succ k1=>
   have H:=HA.out
   clear HA
   simp only [aI.l0] at H
   by_cases hlt:x9 < (l.length:Int)
   case neg=>
    rw [if_neg hlt] at H
    have jc:decide (x9 < (l.length:Int))=false:=decide_eq_false hlt
    clear hlt
    obtain rfl:=Option.some.inj H
    go_wp2
    go_ret
    exact ⟨_,rfl,HO.out,HB.out⟩
   rw [if_pos hlt] at H
   by_cases hge:0≤x9
   case neg=>rw [if_neg hge] at H;exact absurd H (by simp)
   rw [if_pos hge,if_pos hlt] at H
   obtain ⟨ad,A5,c5,A6,c6,A7,c7,e0_,m0,m1,m2,m3,m4,m5,m6,m7,l5,g5,l6,g6,l7,g7⟩:=dJ jg.out x9 hge hlt
   cases e0_
   rcases hx:aC l x9 with ⟨f0,f1,f2,⟨e0,e1,e2⟩,bd,el⟩
   rw [hx] at H m0 m1 m2 m3 m4 m5 m6 m7 l5 g5 l6 g6 l7 g7
   dsimp only at H m0 m1 m2 m3 m4 m5 m6 m7 l5 g5 l6 g6 l7 g7
   clear hx
   obtain ⟨yb,hb1,H⟩:=bsm H
   obtain ⟨ye,hb2,H⟩:=bsm H
   obtain ⟨⟨x0,x1,x2⟩,hb3,H⟩:=bsm H
   dsimp only at hb3 H
   have HBD:=am hb1
   have HEL:=am hb2
   have HEX:=am hb3
   have HT:=am H
   have hb_:=HB.out
   replace m0:=(hb_.cell (World.block_lt_of_cell? w _ m0)).trans m0
   replace m1:=(hb_.cell (World.block_lt_of_cell? w _ m1)).trans m1
   replace m2:=(hb_.cell (World.block_lt_of_cell? w _ m2)).trans m2
   replace m3:=(hb_.cell (World.block_lt_of_cell? w _ m3)).trans m3
   replace m4:=(hb_.cell (World.block_lt_of_cell? w _ m4)).trans m4
   replace m5:=(hb_.cell (World.block_lt_of_cell? w _ m5)).trans m5
   replace m6:=(hb_.cell (World.block_lt_of_cell? w _ m6)).trans m6
   replace m7:=(hb_.cell (World.block_lt_of_cell? w _ m7)).trans m7
   have G5:=am g5
   have G6:=am g6
   have G7:=am g7
   have L5:=am l5
   have L6:=am l6
   have L7:=am l7
   have jc:decide (x9 < (l.length:Int))=true:=decide_eq_true hlt
   have q0:=eq_true hge
   have q1:=eq_true hlt
   clear g5 g6 g7 l5 l6 l7 hlt hge hb1 hb2 hb3 H hb_
   go_upto_region 5 with fail
   have hb:Below wr.heap.size wr (wr.alloc (.cells #[(.int .i64 f0),(.int .i64 f1),(.int .i64 f2),(.int .i64 e0),(.int .i64 e1),(.slice A5 e2.length c5),(.slice A6 bd.length c6),(.slice A7 el.length c7)] 70)):=cZ (Below.refl _ _) _
   have tX:=am (yL wr (.cells #[(.int .i64 f0),(.int .i64 f1),(.int .i64 f2),(.int .i64 e0),(.int .i64 e1),(.slice A5 e2.length c5),(.slice A6 bd.length c6),(.slice A7 el.length c7)] 70))
   have GW:Aside0 (w.heap.size≤wr.heap.size):=⟨HB.out.size⟩
   have tO:=am (Kd.dM (Kd.IK HO.out wr.heap.size (Nat.le_refl _)) hb)
   have tB:=am (aB HB.out hb)
   clear hb HB HO m0 m1 m2 m3 m4 m5 m6 m7 q0 q1 jc
   generalize wr.alloc (.cells #[(.int .i64 f0),(.int .i64 f1),(.int .i64 f2),(.int .i64 e0),(.int .i64 e1),(.slice A5 e2.length c5),(.slice A6 bd.length c6),(.slice A7 el.length c7)] 70)=w6 at tX tO tB ⊢
   generalize wr.heap.size=gb at tX tO GW ⊢
   refine wp_region_any (by kernel_rfl) ?_
   have HB:=am (dF tB.out)
   have HO:=am (Kd.NT tO.out)
   have X:=am (gM tX.out)
   show wpAny _ _ _ _ _ _ _ w6.drew
   clear tB tO tX
   generalize w6.drew=W0 at HB HO X ⊢
   have GL:=am (cK X.out)
   refine FB (n:=15) (T:=(true,[([],[]),([0],[0]),([1],[1]),([],[]),([3],[3]),([4,2],[4]),([],[]),([6],[6]),([7,5],[7]),([0,1,2,3,4,6,7],[]),([9,2,8,0,1,2,3,4,6,7],[2,9]),([0,1,2,3,4,5,6,7,9,10],[]),([11,5,10,0,1,2,3,4,5,6,7,9,10],[5,11]),([0,1,2,3,4,5,6,7,8,9,10,11,12],[]),([13,8,12,0,1,2,3,4,5,6,7,8,9,10,11,12],[8,13])])) rfl (by kernel_rfl) (by decide) (fun b a W=>LSF w W0 gb ad c0 l x9 B3 d3 x3 f0 f1 f2 e0 e1 e2 A5 c5 bd A6 c6 el A7 c7 x0 x1 x2 yb ye u6 u13 u14 u15 u16 u17 u18 u19 u20 u21 u22 u23 u24 u25 u26 u27 u28 u29 u30 u31 u32 u33 u34 u35 u36 u37 u38 u39 u40 u41 u42 u43 u44 u45 u46 u47 u48 u49 u50 u51 u52 u53 u54 u55 u56 u57 u58 u59 u60 u61 u62 u63 u64 u65 u66 u67 u68 u69 u70 u71 u72 u73 u74 (b 0) (b 1) (b 2) (b 3) (b 4) (b 5) (b 6) (b 7) (b 8) (b 9) (b 10) (b 11) (b 12) (b 13) (b 14) a W) ?hstep ?hdone _ _ ?hstart
   case hstart=>exact ⟨none,0,none,0,none,0,0,0,rfl,⟨HB.out,Nat.le_refl _,Kd.dU (Kd.fZ HO.out) (fun q hq=>⟨hq.1,hq.2.2.1⟩),(fun e=>Bool.noConfusion e),(fun e=>Bool.noConfusion e),(fun e=>Bool.noConfusion e),(fun e=>Bool.noConfusion e),(fun e=>Bool.noConfusion e),X.out⟩⟩
   case hstep=>
    intro i b a W hi hbi hneed hcl hI
    have hcase:i=0∨i=1∨i=2∨i=3∨i=4∨i=5∨i=6∨i=7∨i=8∨i=9∨i=10∨i=11∨i=12∨i=13∨i=14:=by omega
    rcases hcase with rfl|rfl|rfl|rfl|rfl|rfl|rfl|rfl|rfl|rfl|rfl|rfl|rfl|rfl|rfl
    ·
     have z1:=zz_ (fun h=>hcl 1 _ h rfl 0 (by decide)) hbi
     have z2:=zz_ (fun h=>hcl 2 _ h rfl 1 (by decide)) z1
     have z5:=zz_ (fun h=>hcl 5 _ h rfl 2 (by decide)) z2
     have z8:=zz_ (fun h=>hcl 8 _ h rfl 5 (by decide)) z5
     have z9:=zz_ (fun h=>hcl 9 _ h rfl 0 (by decide)) hbi
     have j6:=zz_ (fun h=>hcl 10 _ h rfl 8 (by decide)) z8
     have j7:=zz_ (fun h=>hcl 11 _ h rfl 5 (by decide)) z5
     have j5:=zz_ (fun h=>hcl 12 _ h rfl 5 (by decide)) z5
     have j3:=zz_ (fun h=>hcl 13 _ h rfl 8 (by decide)) z8
     have j4:=zz_ (fun h=>hcl 14 _ h rfl 13 (by decide)) j3
     simp only [hbi,z1,z2,z5,z8,z9,j6,j7,j5,j3,j4] at hI
     obtain ⟨B5,d5,B6,d6,B7,d7,h1,h2,rfl,h⟩:=hI
     refine wpOp_step rfl (fun K' hK'=>?_)
     simp (decide:=true) only [if_true,if_false,reduceIte,z1,z2,z5,z8,z9,j6,j7,j5,j3,j4] at hK'
     refine eG (W:=W) (w1:=W) (v:=?_) (by rfl) ?_ ?_
     rotate_left
     ·(try simp only [aSF,cond_true,cond_false])
      go_simp
      first|with_reducible rfl|rfl
     refine hK' _ _ (⟨B5,d5,B6,d6,B7,d7,h1,h2,?_,h⟩)
     show Act.put _ (some 13) _=_
     simp only [aSF,Act.put,List.setIfInBounds_toArray,List.set_cons_zero,List.set_cons_succ,gB,gN]
     rfl
    ·
     have hn_:=hneed _ rfl
     have n0:=hn_ 0 (by decide)
     have z2:=zz_ (fun h=>hcl 2 _ h rfl 1 (by decide)) hbi
     have z5:=zz_ (fun h=>hcl 5 _ h rfl 2 (by decide)) z2
     have z8:=zz_ (fun h=>hcl 8 _ h rfl 5 (by decide)) z5
     have z9:=zz_ (fun h=>hcl 9 _ h rfl 1 (by decide)) hbi
     have j6:=zz_ (fun h=>hcl 10 _ h rfl 8 (by decide)) z8
     have j7:=zz_ (fun h=>hcl 11 _ h rfl 5 (by decide)) z5
     have j5:=zz_ (fun h=>hcl 12 _ h rfl 5 (by decide)) z5
     have j3:=zz_ (fun h=>hcl 13 _ h rfl 8 (by decide)) z8
     have j4:=zz_ (fun h=>hcl 14 _ h rfl 13 (by decide)) j3
     simp only [hbi,n0,z2,z5,z8,z9,j6,j7,j5,j3,j4] at hI
     obtain ⟨B5,d5,B6,d6,B7,d7,h1,h2,rfl,h⟩:=hI
     refine wpOp_step rfl (fun K' hK'=>?_)
     simp (decide:=true) only [if_true,if_false,reduceIte,n0,z2,z5,z8,z9,j6,j7,j5,j3,j4] at hK'
     have z6:W.cell? ⟨gb,6,none⟩=some (.slice A6 bd.length c6):=aA (show W.heap[gb]?=some (.cells #[(.int .i64 f0),(.int .i64 f1),(.int .i64 f2),(.int .i64 e0),(.int .i64 e1),(.slice A5 e2.length c5),(.slice A6 bd.length c6),(.slice A7 el.length c7)] 70 (0,0)) from h.hX) 6
     refine eG (W:=W) (w1:=W) (v:=?_) (by rfl) ?_ ?_
     rotate_left
     ·(try simp only [aSF,cond_true,cond_false])
      go_simp
      first|with_reducible rfl|rfl
     refine hK' _ _ (⟨B5,d5,B6,d6,B7,d7,h1,h2,?_,h⟩)
     show Act.put _ (some 14) _=_
     simp only [aSF,Act.put,List.setIfInBounds_toArray,List.set_cons_zero,List.set_cons_succ,gB,gN]
     rfl
    ·
     have hn_:=hneed _ rfl
     have n1:=hn_ 1 (by decide)
     have n0:=hcl 1 _ n1 rfl 0 (by decide)
     have z5:=zz_ (fun h=>hcl 5 _ h rfl 2 (by decide)) hbi
     have z8:=zz_ (fun h=>hcl 8 _ h rfl 5 (by decide)) z5
     have z9:=zz_ (fun h=>hcl 9 _ h rfl 2 (by decide)) hbi
     have j6:=zz_ (fun h=>hcl 10 _ h rfl 8 (by decide)) z8
     have j7:=zz_ (fun h=>hcl 11 _ h rfl 5 (by decide)) z5
     have j5:=zz_ (fun h=>hcl 12 _ h rfl 5 (by decide)) z5
     have j3:=zz_ (fun h=>hcl 13 _ h rfl 8 (by decide)) z8
     have j4:=zz_ (fun h=>hcl 14 _ h rfl 13 (by decide)) j3
     simp only [hbi,n0,n1,z5,z8,z9,j6,j7,j5,j3,j4] at hI
     obtain ⟨B5,d5,B6,d6,B7,d7,h1,h2,rfl,h⟩:=hI
     refine wpOp_step rfl (fun K' hK'=>?_)
     simp (decide:=true) only [if_true,if_false,reduceIte,n0,n1,z5,z8,z9,j6,j7,j5,j3,j4] at hK'
     refine oQ Try.func41 (by kernel_rfl) rfl #[(.slice A6 bd.length c6)] (by rfl) rfl rfl (by (try simp only [List.map_toArray,List.map_cons,List.map_nil]);first|done|rfl) ?_
     refine (ih k1 (by have:=j8.out;omega) _ _ bd yb _ (Kd.aH G6.out h.hB) L6.out HBD.out).mono ?_
     rintro e W' ⟨v,rfl,hn,hb⟩
     obtain ⟨B_,d_,rfl⟩:=Kd.eP hn
     have hle:=hb.size
     have hwl:=h.hB.size
     have ja:=Kd.gL (Kd.fZ hn) hwl
     refine ⟨_,rfl,hK' _ _ (⟨B5,d5,B_,d_,B7,d7,W'.heap.size,h2,?_,⟨aB h.hB hb,Nat.le_trans h.hs hle,Kd.dM h.hO hb,(fun _=>⟨Nat.le_trans h.hs hle,Nat.le_refl _⟩),(fun e=>Bool.noConfusion e),(fun _=>Kd.dU ja (fun q hq=>⟨Nat.le_trans h.hs hq.1,hq.2.2.1⟩)),(fun e=>Bool.noConfusion e),(fun e=>Bool.noConfusion e),aN h.hX hb⟩⟩)⟩
     show Act.put _ (some 15) _=_
     simp only [aSF,Act.put,List.setIfInBounds_toArray,List.set_cons_zero,List.set_cons_succ]
     rfl
    ·
     have z4:=zz_ (fun h=>hcl 4 _ h rfl 3 (by decide)) hbi
     have z5:=zz_ (fun h=>hcl 5 _ h rfl 4 (by decide)) z4
     have z8:=zz_ (fun h=>hcl 8 _ h rfl 5 (by decide)) z5
     have z9:=zz_ (fun h=>hcl 9 _ h rfl 3 (by decide)) hbi
     have j6:=zz_ (fun h=>hcl 10 _ h rfl 8 (by decide)) z8
     have j7:=zz_ (fun h=>hcl 11 _ h rfl 5 (by decide)) z5
     have j5:=zz_ (fun h=>hcl 12 _ h rfl 5 (by decide)) z5
     have j3:=zz_ (fun h=>hcl 13 _ h rfl 8 (by decide)) z8
     have j4:=zz_ (fun h=>hcl 14 _ h rfl 13 (by decide)) j3
     simp only [hbi,z4,z5,z8,z9,j6,j7,j5,j3,j4] at hI
     obtain ⟨B5,d5,B6,d6,B7,d7,h1,h2,rfl,h⟩:=hI
     refine wpOp_step rfl (fun K' hK'=>?_)
     simp (decide:=true) only [if_true,if_false,reduceIte,z4,z5,z8,z9,j6,j7,j5,j3,j4] at hK'
     refine eG (W:=W) (w1:=W) (v:=?_) (by rfl) ?_ ?_
     rotate_left
     ·(try simp only [aSF,cond_true,cond_false])
      go_simp
      first|with_reducible rfl|rfl
     refine hK' _ _ (⟨B5,d5,B6,d6,B7,d7,h1,h2,?_,h⟩)
     show Act.put _ (some 16) _=_
     simp only [aSF,Act.put,List.setIfInBounds_toArray,List.set_cons_zero,List.set_cons_succ,gB,gN]
     rfl
    ·
     have hn_:=hneed _ rfl
     have n3:=hn_ 3 (by decide)
     have z5:=zz_ (fun h=>hcl 5 _ h rfl 4 (by decide)) hbi
     have z8:=zz_ (fun h=>hcl 8 _ h rfl 5 (by decide)) z5
     have z9:=zz_ (fun h=>hcl 9 _ h rfl 4 (by decide)) hbi
     have j6:=zz_ (fun h=>hcl 10 _ h rfl 8 (by decide)) z8
     have j7:=zz_ (fun h=>hcl 11 _ h rfl 5 (by decide)) z5
     have j5:=zz_ (fun h=>hcl 12 _ h rfl 5 (by decide)) z5
     have j3:=zz_ (fun h=>hcl 13 _ h rfl 8 (by decide)) z8
     have j4:=zz_ (fun h=>hcl 14 _ h rfl 13 (by decide)) j3
     simp only [hbi,n3,z5,z8,z9,j6,j7,j5,j3,j4] at hI
     obtain ⟨B5,d5,B6,d6,B7,d7,h1,h2,rfl,h⟩:=hI
     refine wpOp_step rfl (fun K' hK'=>?_)
     simp (decide:=true) only [if_true,if_false,reduceIte,n3,z5,z8,z9,j6,j7,j5,j3,j4] at hK'
     have z7:W.cell? ⟨gb,7,none⟩=some (.slice A7 el.length c7):=aA (show W.heap[gb]?=some (.cells #[(.int .i64 f0),(.int .i64 f1),(.int .i64 f2),(.int .i64 e0),(.int .i64 e1),(.slice A5 e2.length c5),(.slice A6 bd.length c6),(.slice A7 el.length c7)] 70 (0,0)) from h.hX) 7
     refine eG (W:=W) (w1:=W) (v:=?_) (by rfl) ?_ ?_
     rotate_left
     ·(try simp only [aSF,cond_true,cond_false])
      go_simp
      first|with_reducible rfl|rfl
     refine hK' _ _ (⟨B5,d5,B6,d6,B7,d7,h1,h2,?_,h⟩)
     show Act.put _ (some 17) _=_
     simp only [aSF,Act.put,List.setIfInBounds_toArray,List.set_cons_zero,List.set_cons_succ,gB,gN]
     rfl
    ·
     have hn_:=hneed _ rfl
     have n2:=hn_ 2 (by decide)
     have n4:=hn_ 4 (by decide)
     have n1:=hcl 2 _ n2 rfl 1 (by decide)
     have n3:=hcl 4 _ n4 rfl 3 (by decide)
     have n0:=hcl 1 _ n1 rfl 0 (by decide)
     have z8:=zz_ (fun h=>hcl 8 _ h rfl 5 (by decide)) hbi
     have j6:=zz_ (fun h=>hcl 10 _ h rfl 8 (by decide)) z8
     have j7:=zz_ (fun h=>hcl 11 _ h rfl 5 (by decide)) hbi
     have j5:=zz_ (fun h=>hcl 12 _ h rfl 5 (by decide)) hbi
     have j3:=zz_ (fun h=>hcl 13 _ h rfl 8 (by decide)) z8
     have j4:=zz_ (fun h=>hcl 14 _ h rfl 13 (by decide)) j3
     simp only [hbi,n0,n1,n2,n3,n4,z8,j6,j7,j5,j3,j4] at hI
     obtain ⟨B5,d5,B6,d6,B7,d7,h1,h2,rfl,h⟩:=hI
     refine wpOp_step rfl (fun K' hK'=>?_)
     simp (decide:=true) only [if_true,if_false,reduceIte,n0,n1,n2,n3,n4,z8,j6,j7,j5,j3,j4] at hK'
     refine oQ Try.func41 (by kernel_rfl) rfl #[(.slice A7 el.length c7)] (by rfl) rfl rfl (by (try simp only [List.map_toArray,List.map_cons,List.map_nil]);first|done|rfl) ?_
     refine (ih k1 (by have:=j8.out;omega) _ _ el ye _ (Kd.aH G7.out h.hB) L7.out HEL.out).mono ?_
     rintro e W' ⟨v,rfl,hn,hb⟩
     obtain ⟨B_,d_,rfl⟩:=Kd.eP hn
     have hle:=hb.size
     have hwl:=h.hB.size
     have ja:=Kd.gL (Kd.fZ hn) hwl
     refine ⟨_,rfl,hK' _ _ (⟨B5,d5,B6,d6,B_,d_,h1,W'.heap.size,?_,⟨aB h.hB hb,Nat.le_trans h.hs hle,Kd.dM h.hO hb,(fun e=>⟨(h.h1_ e).1,Nat.le_trans (h.h1_ e).2 hle⟩),(fun _=>⟨Nat.le_trans (h.h1_ rfl).2 hle,Nat.le_refl _⟩),(fun e=>Kd.dM (h.h6 e) hb),(fun _=>Kd.dU ja (fun q hq=>⟨Nat.le_trans (h.h1_ rfl).2 hq.1,hq.2.2.1⟩)),(fun e=>Bool.noConfusion e),aN h.hX hb⟩⟩)⟩
     show Act.put _ (some 18) _=_
     simp only [aSF,Act.put,List.setIfInBounds_toArray,List.set_cons_zero,List.set_cons_succ]
     rfl
    ·
     have z7:=zz_ (fun h=>hcl 7 _ h rfl 6 (by decide)) hbi
     have z8:=zz_ (fun h=>hcl 8 _ h rfl 7 (by decide)) z7
     have z9:=zz_ (fun h=>hcl 9 _ h rfl 6 (by decide)) hbi
     have j6:=zz_ (fun h=>hcl 10 _ h rfl 8 (by decide)) z8
     have j7:=zz_ (fun h=>hcl 11 _ h rfl 10 (by decide)) j6
     have j5:=zz_ (fun h=>hcl 12 _ h rfl 10 (by decide)) j6
     have j3:=zz_ (fun h=>hcl 13 _ h rfl 8 (by decide)) z8
     have j4:=zz_ (fun h=>hcl 14 _ h rfl 13 (by decide)) j3
     simp only [hbi,z7,z8,z9,j6,j7,j5,j3,j4] at hI
     obtain ⟨B5,d5,B6,d6,B7,d7,h1,h2,rfl,h⟩:=hI
     refine wpOp_step rfl (fun K' hK'=>?_)
     simp (decide:=true) only [if_true,if_false,reduceIte,z7,z8,z9,j6,j7,j5,j3,j4] at hK'
     refine eG (W:=W) (w1:=W) (v:=?_) (by rfl) ?_ ?_
     rotate_left
     ·(try simp only [aSF,cond_true,cond_false])
      go_simp
      first|with_reducible rfl|rfl
     refine hK' _ _ (⟨B5,d5,B6,d6,B7,d7,h1,h2,?_,h⟩)
     show Act.put _ (some 19) _=_
     simp only [aSF,Act.put,List.setIfInBounds_toArray,List.set_cons_zero,List.set_cons_succ,gB,gN]
     rfl
    ·
     have hn_:=hneed _ rfl
     have n6:=hn_ 6 (by decide)
     have z8:=zz_ (fun h=>hcl 8 _ h rfl 7 (by decide)) hbi
     have z9:=zz_ (fun h=>hcl 9 _ h rfl 7 (by decide)) hbi
     have j6:=zz_ (fun h=>hcl 10 _ h rfl 8 (by decide)) z8
     have j7:=zz_ (fun h=>hcl 11 _ h rfl 10 (by decide)) j6
     have j5:=zz_ (fun h=>hcl 12 _ h rfl 10 (by decide)) j6
     have j3:=zz_ (fun h=>hcl 13 _ h rfl 8 (by decide)) z8
     have j4:=zz_ (fun h=>hcl 14 _ h rfl 13 (by decide)) j3
     simp only [hbi,n6,z8,z9,j6,j7,j5,j3,j4] at hI
     obtain ⟨B5,d5,B6,d6,B7,d7,h1,h2,rfl,h⟩:=hI
     refine wpOp_step rfl (fun K' hK'=>?_)
     simp (decide:=true) only [if_true,if_false,reduceIte,n6,z8,z9,j6,j7,j5,j3,j4] at hK'
     have z3:W.cell? ⟨gb,3,none⟩=some (.int .i64 e0):=aA (show W.heap[gb]?=some (.cells #[(.int .i64 f0),(.int .i64 f1),(.int .i64 f2),(.int .i64 e0),(.int .i64 e1),(.slice A5 e2.length c5),(.slice A6 bd.length c6),(.slice A7 el.length c7)] 70 (0,0)) from h.hX) 3
     have z4:W.cell? ⟨gb,4,none⟩=some (.int .i64 e1):=aA (show W.heap[gb]?=some (.cells #[(.int .i64 f0),(.int .i64 f1),(.int .i64 f2),(.int .i64 e0),(.int .i64 e1),(.slice A5 e2.length c5),(.slice A6 bd.length c6),(.slice A7 el.length c7)] 70 (0,0)) from h.hX) 4
     have z5:W.cell? ⟨gb,5,none⟩=some (.slice A5 e2.length c5):=aA (show W.heap[gb]?=some (.cells #[(.int .i64 f0),(.int .i64 f1),(.int .i64 f2),(.int .i64 e0),(.int .i64 e1),(.slice A5 e2.length c5),(.slice A6 bd.length c6),(.slice A7 el.length c7)] 70 (0,0)) from h.hX) 5
     refine eG (W:=W) (w1:=W) (v:=(.agg #[(.int .i64 e0),(.int .i64 e1),(.slice A5 e2.length c5)])) (by rfl) ?_ ?_
     ·(try simp only [aSF,cond_true,cond_false])
      go_simp
      (try rfl)
     refine hK' _ _ (⟨B5,d5,B6,d6,B7,d7,h1,h2,?_,h⟩)
     show Act.put _ (some 20) _=_
     simp only [aSF,Act.put,List.setIfInBounds_toArray,List.set_cons_zero,List.set_cons_succ,gB,gN]
     rfl
    ·
     have hn_:=hneed _ rfl
     have n5:=hn_ 5 (by decide)
     have n7:=hn_ 7 (by decide)
     have n2:=hcl 5 _ n5 rfl 2 (by decide)
     have n4:=hcl 5 _ n5 rfl 4 (by decide)
     have n6:=hcl 7 _ n7 rfl 6 (by decide)
     have n1:=hcl 2 _ n2 rfl 1 (by decide)
     have n3:=hcl 4 _ n4 rfl 3 (by decide)
     have n0:=hcl 1 _ n1 rfl 0 (by decide)
     have j6:=zz_ (fun h=>hcl 10 _ h rfl 8 (by decide)) hbi
     have j7:=zz_ (fun h=>hcl 11 _ h rfl 10 (by decide)) j6
     have j5:=zz_ (fun h=>hcl 12 _ h rfl 10 (by decide)) j6
     have j3:=zz_ (fun h=>hcl 13 _ h rfl 8 (by decide)) hbi
     have j4:=zz_ (fun h=>hcl 14 _ h rfl 13 (by decide)) j3
     simp only [hbi,n0,n1,n2,n3,n4,n5,n6,n7,j6,j7,j5,j3,j4] at hI
     obtain ⟨B5,d5,B6,d6,B7,d7,h1,h2,rfl,h⟩:=hI
     refine wpOp_step rfl (fun K' hK'=>?_)
     simp (decide:=true) only [if_true,if_false,reduceIte,n0,n1,n2,n3,n4,n5,n6,n7,j6,j7,j5,j3,j4] at hK'
     refine oQ Try.func32 (by kernel_rfl) rfl #[(.agg #[(.int .i64 e0),(.int .i64 e1),(.slice A5 e2.length c5)])] (by rfl) rfl rfl (by (try simp only [List.map_toArray,List.map_cons,List.map_nil]);first|done|rfl) ?_
     refine (aX.callsS k1 e0 e1 _ _ e2 x0 x1 x2 _ (Kd.aH G5.out h.hB) L5.out HEX.out).mono ?_
     rintro e W' ⟨v,rfl,hn,hb⟩
     obtain ⟨B_,d_,rfl⟩:=Kd.eP hn
     have hle:=hb.size
     have hwl:=h.hB.size
     have ja:=Kd.gL (Kd.fZ hn) hwl
     refine ⟨_,rfl,hK' _ _ (⟨B_,d_,B6,d6,B7,d7,h1,h2,?_,⟨aB h.hB hb,Nat.le_trans h.hs hle,Kd.dM h.hO hb,(fun e=>⟨(h.h1_ e).1,Nat.le_trans (h.h1_ e).2 hle⟩),(fun e=>⟨(h.h2_ e).1,Nat.le_trans (h.h2_ e).2 hle⟩),(fun e=>Kd.dM (h.h6 e) hb),(fun e=>Kd.dM (h.h7 e) hb),(fun _=>Kd.dU ja (fun q hq=>Nat.le_trans (h.h2_ rfl).2 hq.1)),aN h.hX hb⟩⟩)⟩
     show Act.put _ (some 21) _=_
     simp only [aSF,Act.put,List.setIfInBounds_toArray,List.set_cons_zero,List.set_cons_succ]
     rfl
    ·
     have hn_:=hneed _ rfl
     have n0:=hn_ 0 (by decide)
     have n1:=hn_ 1 (by decide)
     have n2:=hn_ 2 (by decide)
     have n3:=hn_ 3 (by decide)
     have n4:=hn_ 4 (by decide)
     have n6:=hn_ 6 (by decide)
     have n7:=hn_ 7 (by decide)
     have j6:=zz_ (fun h=>hcl 10 _ h rfl 9 (by decide)) hbi
     have j7:=zz_ (fun h=>hcl 11 _ h rfl 10 (by decide)) j6
     have j5:=zz_ (fun h=>hcl 12 _ h rfl 10 (by decide)) j6
     have j3:=zz_ (fun h=>hcl 13 _ h rfl 12 (by decide)) j5
     have j4:=zz_ (fun h=>hcl 14 _ h rfl 13 (by decide)) j3
     simp only [hbi,n0,n1,n2,n3,n4,n6,n7,j6,j7,j5,j3,j4] at hI
     obtain ⟨B5,d5,B6,d6,B7,d7,h1,h2,rfl,h⟩:=hI
     refine wpOp_step rfl (fun K' hK'=>?_)
     simp (decide:=true) only [if_true,if_false,reduceIte,n0,n1,n2,n3,n4,n6,n7,j6,j7,j5,j3,j4] at hK'
     refine eG (W:=W) (w1:=W) (v:=?_) (by rfl) ?_ ?_
     rotate_left
     ·(try simp only [aSF,cond_true,cond_false])
      go_simp
      first|with_reducible rfl|rfl
     refine hK' _ _ (⟨B5,d5,B6,d6,B7,d7,h1,h2,?_,h⟩)
     show Act.put _ (some 22) _=_
     simp only [aSF,Act.put,List.setIfInBounds_toArray,List.set_cons_zero,List.set_cons_succ,gB,gN]
     rfl
    ·
     have hn_:=hneed _ rfl
     have n8:=hn_ 8 (by decide)
     have n9:=hn_ 9 (by decide)
     have n0:=hcl 9 _ n9 rfl 0 (by decide)
     have n1:=hcl 9 _ n9 rfl 1 (by decide)
     have n2:=hcl 9 _ n9 rfl 2 (by decide)
     have n3:=hcl 9 _ n9 rfl 3 (by decide)
     have n4:=hcl 9 _ n9 rfl 4 (by decide)
     have n5:=hcl 8 _ n8 rfl 5 (by decide)
     have n6:=hcl 9 _ n9 rfl 6 (by decide)
     have n7:=hcl 8 _ n8 rfl 7 (by decide)
     have j7:=zz_ (fun h=>hcl 11 _ h rfl 10 (by decide)) hbi
     have j5:=zz_ (fun h=>hcl 12 _ h rfl 10 (by decide)) hbi
     have j3:=zz_ (fun h=>hcl 13 _ h rfl 12 (by decide)) j5
     have j4:=zz_ (fun h=>hcl 14 _ h rfl 13 (by decide)) j3
     simp only [hbi,n0,n1,n2,n3,n4,n5,n6,n7,n8,n9,j7,j5,j3,j4] at hI
     obtain ⟨B5,d5,B6,d6,B7,d7,h1,h2,rfl,h⟩:=hI
     refine wpOp_step rfl (fun K' hK'=>?_)
     simp (decide:=true) only [if_true,if_false,reduceIte,n0,n1,n2,n3,n4,n5,n6,n7,n8,n9,j7,j5,j3,j4] at hK'
     have hgl:=GL.out
     have g1_:=(h.h1_ rfl).1
     have g2_:=(h.h2_ rfl).1
     have hbx:W.heap[gb]?=some (.cells #[(.int .i64 f0),(.int .i64 f1),(.int .i64 f2),(.int .i64 e0),(.int .i64 e1),(.slice A5 e2.length c5),(.slice A6 bd.length c6),(.slice A7 el.length c7)] 70 (0,0)):=h.hX
     have q6:W.cell? ⟨gb,6,none⟩=some (.slice A6 bd.length c6):=aA hbx 6
     have f6_:=aG hbx 6
     refine CV (w1:=(W.setCell ⟨gb,6,none⟩ (.slice B6 yb.length d6))) (by rfl) rfl ?_ ?_
     ·(try simp only [aSF,cond_true,cond_false])
      go_simp
      (try rfl)
     refine hK' _ _ (⟨B5,d5,B6,d6,B7,d7,h1,h2,rfl,⟨(below_set (j:=6) (v:=(.slice B6 yb.length d6)) h.hB GW.out),Nat.le_trans h.hs (by simp [World.setCell]),(Kd.cO (p:=⟨gb,6,none⟩) h.hO (fun q hq=>hq.1.2) (.slice B6 yb.length d6)),(fun e=>⟨(h.h1_ e).1,Nat.le_trans (h.h1_ e).2 (by simp [World.setCell])⟩),(fun e=>⟨(h.h2_ e).1,Nat.le_trans (h.h2_ e).2 (by simp [World.setCell])⟩),fun _=>(Kd.cO (p:=⟨gb,6,none⟩) (h.h6 rfl) (fun q hq=>show q≠gb by have:=hq.1;omega) (.slice B6 yb.length d6)),fun _=>(Kd.cO (p:=⟨gb,6,none⟩) (h.h7 rfl) (fun q hq=>show q≠gb by have:=hq.1;omega) (.slice B6 yb.length d6)),fun _=>(Kd.cO (p:=⟨gb,6,none⟩) (h.h5 rfl) (fun q hq=>show q≠gb by omega) (.slice B6 yb.length d6)),(aS (cs':=#[(.int .i64 f0),(.int .i64 f1),(.int .i64 f2),(.int .i64 e0),(.int .i64 e1),(.slice A5 e2.length c5),(.slice B6 yb.length d6),(.slice A7 el.length c7)]) hbx 6 (.slice B6 yb.length d6) rfl)⟩⟩)
    ·
     have hn_:=hneed _ rfl
     have n5:=hn_ 5 (by decide)
     have n10:=hn_ 10 (by decide)
     have n2:=hcl 5 _ n5 rfl 2 (by decide)
     have n4:=hcl 5 _ n5 rfl 4 (by decide)
     have n8:=hcl 10 _ n10 rfl 8 (by decide)
     have n9:=hcl 10 _ n10 rfl 9 (by decide)
     have n0:=hcl 9 _ n9 rfl 0 (by decide)
     have n1:=hcl 2 _ n2 rfl 1 (by decide)
     have n3:=hcl 4 _ n4 rfl 3 (by decide)
     have n6:=hcl 9 _ n9 rfl 6 (by decide)
     have n7:=hcl 8 _ n8 rfl 7 (by decide)
     have j5:=zz_ (fun h=>hcl 12 _ h rfl 11 (by decide)) hbi
     have j3:=zz_ (fun h=>hcl 13 _ h rfl 12 (by decide)) j5
     have j4:=zz_ (fun h=>hcl 14 _ h rfl 13 (by decide)) j3
     simp only [hbi,n0,n1,n2,n3,n4,n5,n6,n7,n8,n9,n10,j5,j3,j4] at hI
     obtain ⟨B5,d5,B6,d6,B7,d7,h1,h2,rfl,h⟩:=hI
     refine wpOp_step rfl (fun K' hK'=>?_)
     simp (decide:=true) only [if_true,if_false,reduceIte,n0,n1,n2,n3,n4,n5,n6,n7,n8,n9,n10,j5,j3,j4] at hK'
     refine eG (W:=W) (w1:=W) (v:=?_) (by rfl) ?_ ?_
     rotate_left
     ·(try simp only [aSF,cond_true,cond_false])
      go_simp
      first|with_reducible rfl|rfl
     refine hK' _ _ (⟨B5,d5,B6,d6,B7,d7,h1,h2,?_,h⟩)
     show Act.put _ (some 23) _=_
     simp only [aSF,Act.put,List.setIfInBounds_toArray,List.set_cons_zero,List.set_cons_succ,gB,gN]
     rfl
    ·
     have hn_:=hneed _ rfl
     have n5:=hn_ 5 (by decide)
     have n10:=hn_ 10 (by decide)
     have n11:=hn_ 11 (by decide)
     have n2:=hcl 5 _ n5 rfl 2 (by decide)
     have n4:=hcl 5 _ n5 rfl 4 (by decide)
     have n8:=hcl 10 _ n10 rfl 8 (by decide)
     have n9:=hcl 10 _ n10 rfl 9 (by decide)
     have n0:=hcl 9 _ n9 rfl 0 (by decide)
     have n1:=hcl 2 _ n2 rfl 1 (by decide)
     have n3:=hcl 4 _ n4 rfl 3 (by decide)
     have n6:=hcl 9 _ n9 rfl 6 (by decide)
     have n7:=hcl 8 _ n8 rfl 7 (by decide)
     have j3:=zz_ (fun h=>hcl 13 _ h rfl 12 (by decide)) hbi
     have j4:=zz_ (fun h=>hcl 14 _ h rfl 13 (by decide)) j3
     simp only [hbi,n0,n1,n2,n3,n4,n5,n6,n7,n8,n9,n10,n11,j3,j4] at hI
     obtain ⟨B5,d5,B6,d6,B7,d7,h1,h2,rfl,h⟩:=hI
     refine wpOp_step rfl (fun K' hK'=>?_)
     simp (decide:=true) only [if_true,if_false,reduceIte,n0,n1,n2,n3,n4,n5,n6,n7,n8,n9,n10,n11,j3,j4] at hK'
     have hgl:=GL.out
     have g1_:=(h.h1_ rfl).1
     have g2_:=(h.h2_ rfl).1
     have hbx:W.heap[gb]?=some (.cells #[(.int .i64 f0),(.int .i64 f1),(.int .i64 f2),(.int .i64 e0),(.int .i64 e1),(.slice A5 e2.length c5),(.slice B6 yb.length d6),(.slice A7 el.length c7)] 70 (0,0)):=h.hX
     have q7:W.cell? ⟨gb,7,none⟩=some (.slice A7 el.length c7):=aA hbx 7
     have f7_:=aG hbx 7
     refine CV (w1:=(W.setCell ⟨gb,7,none⟩ (.slice B7 ye.length d7))) (by rfl) rfl ?_ ?_
     ·(try simp only [aSF,cond_true,cond_false])
      go_simp
      (try rfl)
     refine hK' _ _ (⟨B5,d5,B6,d6,B7,d7,h1,h2,rfl,⟨(below_set (j:=7) (v:=(.slice B7 ye.length d7)) h.hB GW.out),Nat.le_trans h.hs (by simp [World.setCell]),(Kd.cO (p:=⟨gb,7,none⟩) h.hO (fun q hq=>hq.1.2) (.slice B7 ye.length d7)),(fun e=>⟨(h.h1_ e).1,Nat.le_trans (h.h1_ e).2 (by simp [World.setCell])⟩),(fun e=>⟨(h.h2_ e).1,Nat.le_trans (h.h2_ e).2 (by simp [World.setCell])⟩),fun _=>(Kd.cO (p:=⟨gb,7,none⟩) (h.h6 rfl) (fun q hq=>show q≠gb by have:=hq.1;omega) (.slice B7 ye.length d7)),fun _=>(Kd.cO (p:=⟨gb,7,none⟩) (h.h7 rfl) (fun q hq=>show q≠gb by have:=hq.1;omega) (.slice B7 ye.length d7)),fun _=>(Kd.cO (p:=⟨gb,7,none⟩) (h.h5 rfl) (fun q hq=>show q≠gb by omega) (.slice B7 ye.length d7)),(aS (cs':=#[(.int .i64 f0),(.int .i64 f1),(.int .i64 f2),(.int .i64 e0),(.int .i64 e1),(.slice A5 e2.length c5),(.slice B6 yb.length d6),(.slice B7 ye.length d7)]) hbx 7 (.slice B7 ye.length d7) rfl)⟩⟩)
    ·
     have hn_:=hneed _ rfl
     have n8:=hn_ 8 (by decide)
     have n12:=hn_ 12 (by decide)
     have n5:=hcl 8 _ n8 rfl 5 (by decide)
     have n7:=hcl 8 _ n8 rfl 7 (by decide)
     have n10:=hcl 12 _ n12 rfl 10 (by decide)
     have n11:=hcl 12 _ n12 rfl 11 (by decide)
     have n2:=hcl 5 _ n5 rfl 2 (by decide)
     have n4:=hcl 5 _ n5 rfl 4 (by decide)
     have n6:=hcl 7 _ n7 rfl 6 (by decide)
     have n9:=hcl 10 _ n10 rfl 9 (by decide)
     have n0:=hcl 9 _ n9 rfl 0 (by decide)
     have n1:=hcl 2 _ n2 rfl 1 (by decide)
     have n3:=hcl 4 _ n4 rfl 3 (by decide)
     have j4:=zz_ (fun h=>hcl 14 _ h rfl 13 (by decide)) hbi
     simp only [hbi,n0,n1,n2,n3,n4,n5,n6,n7,n8,n9,n10,n11,n12,j4] at hI
     obtain ⟨B5,d5,B6,d6,B7,d7,h1,h2,rfl,h⟩:=hI
     refine wpOp_step rfl (fun K' hK'=>?_)
     simp (decide:=true) only [if_true,if_false,reduceIte,n0,n1,n2,n3,n4,n5,n6,n7,n8,n9,n10,n11,n12,j4] at hK'
     refine eG (W:=W) (w1:=W) (v:=?_) (by rfl) ?_ ?_
     rotate_left
     ·(try simp only [aSF,cond_true,cond_false])
      go_simp
      first|with_reducible rfl|rfl
     refine hK' _ _ (⟨B5,d5,B6,d6,B7,d7,h1,h2,?_,h⟩)
     show Act.put _ (some 24) _=_
     simp only [aSF,Act.put,List.setIfInBounds_toArray,List.set_cons_zero,List.set_cons_succ,gB,gN]
     rfl
    ·
     have hn_:=hneed _ rfl
     have n13:=hn_ 13 (by decide)
     have n8:=hcl 13 _ n13 rfl 8 (by decide)
     have n12:=hcl 13 _ n13 rfl 12 (by decide)
     have n5:=hcl 8 _ n8 rfl 5 (by decide)
     have n7:=hcl 8 _ n8 rfl 7 (by decide)
     have n10:=hcl 12 _ n12 rfl 10 (by decide)
     have n11:=hcl 12 _ n12 rfl 11 (by decide)
     have n2:=hcl 5 _ n5 rfl 2 (by decide)
     have n4:=hcl 5 _ n5 rfl 4 (by decide)
     have n6:=hcl 7 _ n7 rfl 6 (by decide)
     have n9:=hcl 10 _ n10 rfl 9 (by decide)
     have n0:=hcl 9 _ n9 rfl 0 (by decide)
     have n1:=hcl 2 _ n2 rfl 1 (by decide)
     have n3:=hcl 4 _ n4 rfl 3 (by decide)
     simp only [hbi,n0,n1,n2,n3,n4,n5,n6,n7,n8,n9,n10,n11,n12,n13] at hI
     obtain ⟨B5,d5,B6,d6,B7,d7,h1,h2,rfl,h⟩:=hI
     refine wpOp_step rfl (fun K' hK'=>?_)
     simp (decide:=true) only [if_true,if_false,reduceIte,n0,n1,n2,n3,n4,n5,n6,n7,n8,n9,n10,n11,n12,n13] at hK'
     have hgl:=GL.out
     have g1_:=(h.h1_ rfl).1
     have g2_:=(h.h2_ rfl).1
     have hbx:W.heap[gb]?=some (.cells #[(.int .i64 f0),(.int .i64 f1),(.int .i64 f2),(.int .i64 e0),(.int .i64 e1),(.slice A5 e2.length c5),(.slice B6 yb.length d6),(.slice B7 ye.length d7)] 70 (0,0)):=h.hX
     have q3:W.cell? ⟨gb,3,none⟩=some (.int .i64 e0):=aA hbx 3
     have f3_:=aG hbx 3
     have q4:W.cell? ⟨gb,4,none⟩=some (.int .i64 e1):=aA hbx 4
     have f4_:=aG hbx 4
     have q5:W.cell? ⟨gb,5,none⟩=some (.slice A5 e2.length c5):=aA hbx 5
     have f5_:=aG hbx 5
     refine CV (w1:=(((W.setCell ⟨gb,3,none⟩ (.int .i64 x0)).setCell ⟨gb,4,none⟩ (.int .i64 x1)).setCell ⟨gb,5,none⟩ (.slice B5 x2.length d5))) (by rfl) rfl ?_ ?_
     ·(try simp only [aSF,cond_true,cond_false])
      go_simp
      (try rfl)
     refine hK' _ _ (⟨B5,d5,B6,d6,B7,d7,h1,h2,rfl,⟨(below_set (j:=5) (v:=(.slice B5 x2.length d5)) (below_set (j:=4) (v:=(.int .i64 x1)) (below_set (j:=3) (v:=(.int .i64 x0)) h.hB GW.out) GW.out) GW.out),Nat.le_trans h.hs (by simp [World.setCell]),(Kd.cO (p:=⟨gb,5,none⟩) (Kd.cO (p:=⟨gb,4,none⟩) (Kd.cO (p:=⟨gb,3,none⟩) h.hO (fun q hq=>hq.1.2) (.int .i64 x0)) (fun q hq=>hq.1.2) (.int .i64 x1)) (fun q hq=>hq.1.2) (.slice B5 x2.length d5)),(fun e=>⟨(h.h1_ e).1,Nat.le_trans (h.h1_ e).2 (by simp [World.setCell])⟩),(fun e=>⟨(h.h2_ e).1,Nat.le_trans (h.h2_ e).2 (by simp [World.setCell])⟩),fun _=>(Kd.cO (p:=⟨gb,5,none⟩) (Kd.cO (p:=⟨gb,4,none⟩) (Kd.cO (p:=⟨gb,3,none⟩) (h.h6 rfl) (fun q hq=>show q≠gb by have:=hq.1;omega) (.int .i64 x0)) (fun q hq=>show q≠gb by have:=hq.1;omega) (.int .i64 x1)) (fun q hq=>show q≠gb by have:=hq.1;omega) (.slice B5 x2.length d5)),fun _=>(Kd.cO (p:=⟨gb,5,none⟩) (Kd.cO (p:=⟨gb,4,none⟩) (Kd.cO (p:=⟨gb,3,none⟩) (h.h7 rfl) (fun q hq=>show q≠gb by have:=hq.1;omega) (.int .i64 x0)) (fun q hq=>show q≠gb by have:=hq.1;omega) (.int .i64 x1)) (fun q hq=>show q≠gb by have:=hq.1;omega) (.slice B5 x2.length d5)),fun _=>(Kd.cO (p:=⟨gb,5,none⟩) (Kd.cO (p:=⟨gb,4,none⟩) (Kd.cO (p:=⟨gb,3,none⟩) (h.h5 rfl) (fun q hq=>show q≠gb by omega) (.int .i64 x0)) (fun q hq=>show q≠gb by omega) (.int .i64 x1)) (fun q hq=>show q≠gb by omega) (.slice B5 x2.length d5)),(aS (cs':=#[(.int .i64 f0),(.int .i64 f1),(.int .i64 f2),(.int .i64 x0),(.int .i64 x1),(.slice B5 x2.length d5),(.slice B6 yb.length d6),(.slice B7 ye.length d7)]) (aS (cs':=#[(.int .i64 f0),(.int .i64 f1),(.int .i64 f2),(.int .i64 x0),(.int .i64 x1),(.slice A5 e2.length c5),(.slice B6 yb.length d6),(.slice B7 ye.length d7)]) (aS (cs':=#[(.int .i64 f0),(.int .i64 f1),(.int .i64 f2),(.int .i64 x0),(.int .i64 e1),(.slice A5 e2.length c5),(.slice B6 yb.length d6),(.slice B7 ye.length d7)]) hbx 3 (.int .i64 x0) rfl) 4 (.int .i64 x1) rfl) 5 (.slice B5 x2.length d5) rfl)⟩⟩)
   case hdone=>
    intro b a W1 hall hI
    replace hI:LSF w W0 gb ad c0 l x9 B3 d3 x3 f0 f1 f2 e0 e1 e2 A5 c5 bd A6 c6 el A7 c7 x0 x1 x2 yb ye u6 u13 u14 u15 u16 u17 u18 u19 u20 u21 u22 u23 u24 u25 u26 u27 u28 u29 u30 u31 u32 u33 u34 u35 u36 u37 u38 u39 u40 u41 u42 u43 u44 u45 u46 u47 u48 u49 u50 u51 u52 u53 u54 u55 u56 u57 u58 u59 u60 u61 u62 u63 u64 u65 u66 u67 u68 u69 u70 u71 u72 u73 u74 (b 0) (b 1) (b 2) (b 3) (b 4) (b 5) (b 6) (b 7) (b 8) (b 9) (b 10) (b 11) (b 12) (b 13) (b 14) a W1:=hI
    rw [hall 0 (by decide),hall 1 (by decide),hall 2 (by decide),hall 3 (by decide),hall 4 (by decide),hall 5 (by decide),hall 6 (by decide),hall 7 (by decide),hall 8 (by decide),hall 9 (by decide),hall 10 (by decide),hall 11 (by decide),hall 12 (by decide),hall 13 (by decide),hall 14 (by decide)] at hI
    obtain ⟨B5,d5,B6,d6,B7,d7,h1,h2,rfl,h⟩:=hI
    simp only [aSF,cond_true]
    replace X:=am (show W1.heap[gb]?=some (.cells #[(.int .i64 f0),(.int .i64 f1),(.int .i64 f2),(.int .i64 x0),(.int .i64 x1),(.slice B5 x2.length d5),(.slice B6 yb.length d6),(.slice B7 ye.length d7)] 70 (0,0)) from h.hX)
    have SB:=am (h.h6 rfl)
    have SE:=am (h.h7 rfl)
    have SX:=am (h.h5 rfl)
    have WW:=am HB.out.size
    have WS:=am h.hs
    replace HB:=am h.hB
    have O:=am h.hO
    have H1:=am (h.h1_ rfl)
    have H2:=am (h.h2_ rfl)
    clear h hall HO
    have z0:W1.cell? ⟨gb,0,none⟩=some (.int .i64 f0):=aA X.out 0
    have z1:W1.cell? ⟨gb,1,none⟩=some (.int .i64 f1):=aA X.out 1
    have z2:W1.cell? ⟨gb,2,none⟩=some (.int .i64 f2):=aA X.out 2
    have z3:W1.cell? ⟨gb,3,none⟩=some (.int .i64 x0):=aA X.out 3
    have z4:W1.cell? ⟨gb,4,none⟩=some (.int .i64 x1):=aA X.out 4
    have z5:W1.cell? ⟨gb,5,none⟩=some (.slice B5 x2.length d5):=aA X.out 5
    have z6:W1.cell? ⟨gb,6,none⟩=some (.slice B6 yb.length d6):=aA X.out 6
    have z7:W1.cell? ⟨gb,7,none⟩=some (.slice B7 ye.length d7):=aA X.out 7
    obtain ⟨k2,hk2,hT⟩:=aI.tail HT.out
    have j9:=am hk2
    clear hk2 HT
    rcases hT with ⟨t1,t2,t3,hlen,hl⟩|⟨t1,t2,t3,hlen,hl⟩|⟨t1,t2,t3,t4,hl⟩|⟨hlen,hl,hc⟩
    ·have HL:=am hl
     have LEN:=am hlen
     clear hl hlen
     go_wp2_with (first|((with_reducible refine bL (N:=49) rfl ?_);refine nL iU (w0:=w) w.heap.size rfl (.tmp 46) (.tmp 48) 37 70 (.agg #[(.int .i64 0),(.int .i64 0),(.int .i64 0),(.int .i64 0),(.int .i64 0),(.slice none 0 0),(.slice none 0 0),(.slice none 0 0)]) 112 rfl Try.underlying37 wE rfl (by decide) (by omega) (.slice B3 x3.length d3) x3 yb B6 yb.length d6 (fun q=>w.heap.size≤q) (fun q=>W0.heap.size≤q) rfl rfl (Kd.dU O.out (fun q hq=>⟨hq.1.1,fun e=>by have:=hq.2;omega⟩)) (Kd.dU SB.out (fun q hq=>hq.1)) ?aK (fun q hq=>Nat.le_trans HB.out.size hq) HB.out HB.out.size ?aL ?_;(case aK=>exact fun q hq=>⟨Nat.le_trans WW.out hq,fun e=>by have:=((Kd.S_R O.out).1 q e.symm).2;omega⟩);(case aL=>(have:=LEN.out;omega));intro jd W2 hn hb _ _;have HO:=am hn;replace HB:=am hb;clear hn hb)|fail)
     go_roundg k2
     case measure=>have:=j8.out;have:=j9.out;omega
     case rel=>exact ⟨_,wrap64 (x9 + 1),sd_,HL,⟨by have:=j8.out;have:=j9.out;omega⟩,HO,HB⟩
    ·have HL:=am hl
     have LEN:=am hlen
     clear hl hlen
     go_wp2_with (first|((with_reducible refine bL (N:=60) rfl ?_);refine nL iU (w0:=w) w.heap.size rfl (.tmp 57) (.tmp 59) 37 70 (.agg #[(.int .i64 0),(.int .i64 0),(.int .i64 0),(.int .i64 0),(.int .i64 0),(.slice none 0 0),(.slice none 0 0),(.slice none 0 0)]) 112 rfl Try.underlying37 wE rfl (by decide) (by omega) (.slice B3 x3.length d3) x3 ye B7 ye.length d7 (fun q=>w.heap.size≤q) (fun q=>W0.heap.size≤q) rfl rfl (Kd.dU O.out (fun q hq=>⟨hq.1.1,fun e=>by have:=hq.2;omega⟩)) (Kd.dU SE.out (fun q hq=>Nat.le_trans H1.out.1 hq.1)) ?aK (fun q hq=>Nat.le_trans HB.out.size hq) HB.out HB.out.size ?aL ?_;(case aK=>exact fun q hq=>⟨Nat.le_trans WW.out hq,fun e=>by have:=((Kd.S_R O.out).1 q e.symm).2;omega⟩);(case aL=>(have:=LEN.out;omega));intro jd W2 hn hb _ _;have HO:=am hn;replace HB:=am hb;clear hn hb)|fail)
     go_roundg k2
     case measure=>have:=j8.out;have:=j9.out;omega
     case rel=>exact ⟨_,wrap64 (x9 + 1),sd_,HL,⟨by have:=j8.out;have:=j9.out;omega⟩,HO,HB⟩
    ·have HL:=am hl
     have HO:=am (Kd.dU O.out (fun q hq=>hq.1.1))
     clear hl
     go_wp2
     go_roundg k2
     case measure=>have:=j8.out;have:=j9.out;omega
     case rel=>exact ⟨_,wrap64 (x9 + 1),sd_,HL,⟨by have:=j8.out;have:=j9.out;omega⟩,HO,HB⟩
    ·have HL:=am hl
     have LEN:=am hlen
     clear hl hlen
     rcases hc with ⟨t1,t2,t3⟩|⟨t1,t2,t3,t4⟩|⟨t1,t2,t3⟩|⟨t1,t2,t3⟩|⟨t1,t2,t3⟩
     all_goals
      go_wp2_with (first|((with_reducible refine bL (N:=31) rfl ?_);refine Kd.vU iU w.heap.size 70 rfl (N:=31) rfl (w0:=w) (xs:=[(⟨f0,f1,f2,(⟨x0,x1,x2⟩:S28),yb,ye⟩:S70)]) (inner:=[(.int .i64 f0),(.int .i64 f1),(.int .i64 f2),(.int .i64 x0),(.int .i64 x1),(.slice B5 x2.length d5),(.slice B6 yb.length d6),(.slice B7 ye.length d7)]) (ok:=fun q=>W0.heap.size≤q) (fun j q=>j=0∧W0.heap.size≤q) ?hr rfl ?hrep (fun i j q a b=>a.1.trans b.1.symm) (fun j q hq=>hq.2) WS.out HB.out HB.out.size (by simp) ?_;(case hr=>first|(go_simp;done)|(go_simp;rfl));(case hrep=>(intro j x hj;rcases j with _|j;(obtain rfl:=Option.some.inj hj;exact kL _ _ _ _ _ _ (⟨f0,f1,f2,(⟨x0,x1,x2⟩:S28),yb,ye⟩:S70) SX.out SB.out SE.out (fun q hq=>⟨rfl,by have:=H1.out;have:=H2.out;omega⟩) (fun q=>⟨fun hp=>⟨fun hr=>by have:=H2.out;omega,fun hr=>by omega⟩,fun hp hr=>by omega⟩));exact absurd hj (by simp)));intro jh W3 hs hb hg _;obtain ⟨je,jf,jb⟩:=Kd.eP hs;replace jb:jh= .slice je 1 jf:=jb;subst jb;have SL:=am hs;replace O:=am (Kd.LY O.out hg (fun _ _=>by simp));replace HB:=am hb;clear hs hb hg)|((with_reducible refine bL (N:=32) rfl ?_);refine nL iU (w0:=w) w.heap.size rfl (.tmp 29) (.tmp 31) 37 70 (.agg #[(.int .i64 0),(.int .i64 0),(.int .i64 0),(.int .i64 0),(.int .i64 0),(.slice none 0 0),(.slice none 0 0),(.slice none 0 0)]) 112 rfl Try.underlying37 wE rfl (by decide) (by omega) (.slice B3 x3.length d3) x3 [(⟨f0,f1,f2,(⟨x0,x1,x2⟩:S28),yb,ye⟩:S70)] je 1 jf (fun q=>w.heap.size≤q) (fun q=>W0.heap.size≤q) rfl rfl (Kd.dU O.out (fun q hq=>⟨hq.1.1,fun e=>by have:=hq.2;omega⟩)) SL.out ?aK (fun q hq=>Nat.le_trans HB.out.size hq) HB.out HB.out.size ?aL ?_;(case aK=>exact fun q hq=>⟨Nat.le_trans WW.out hq,fun e=>by have:=((Kd.S_R O.out).1 q e.symm).2;omega⟩);(case aL=>(have:=LEN.out;omega));intro jd W2 hn hb _ _;have HO:=am hn;replace HB:=am hb;clear hn hb)|fail)
      go_roundg k2
      case measure=>have:=j8.out;have:=j9.out;omega
      case rel=>exact ⟨_,wrap64 (x9 + 1),sd_,HL,⟨by have:=j8.out;have:=j9.out;omega⟩,HO,HB⟩
theorem aI.calls (k:Nat):∀ (A0:Option Addr) (c0:Nat) (l0:List (S70)) (r:List (S70)) (w:World) (hr0:Kd.C k70 w A0 l0.length l0) (hc0:l0.length≤c0) (h:aI.f k l0=some r),
  Calls Try.prog 41 #[.slice A0 l0.length c0] w fun e w'=>∃ v0_:Value,e= .returned (v0_)∧Kd.N k70 70 w' w.heap.size (fun k_=>(w.heap.size≤k_)) v0_ r∧Below w.heap.size w w':=by
 intro A0 c0 l r w hr hc h
 refine (aI.callsS k A0 c0 l r w hr hc h).mono ?_
 rintro e w' ⟨v,rfl,hs,hb⟩
 exact ⟨v,rfl,Kd.R_N (gT hs),hb⟩
set_option linter.unusedVariables false
set_option linter.unusedSimpArgs false
theorem eU.callsS (k:Nat) (A:Option Addr) (c:Nat) (l:List (S70)) (r1:List (S70)) (r2:Bool) (w:World) (hr:Kd.C k70 w A l.length l) (hl:l.length≤c) (h:eU.f k l=some (r1,r2)):
  Calls Try.prog 16 #[.slice A l.length c] w fun e w'=>∃ v0_:Value,e= .returned (.tuple #[v0_, .bool r2])∧Kd.S iU 70 w' w.heap.size (fun q=>w.heap.size≤q) v0_ r1∧Below w.heap.size w w':=by
 unfold eU.f at h
 obtain ⟨b,hv,h⟩:=Option.bind_eq_some_iff.mp h
 have HR:=Aside0.mk hr
 have HL:=Aside0.mk hl
 have HV:=Aside0.mk hv
 have HB:=Aside0.mk (Below.refl w.heap.size w)
 clear hr hl hv
 cases b
 case false=>
  rw [if_neg Bool.false_ne_true] at h
  simp only [Option.some.injEq,Prod.mk.injEq] at h
  obtain ⟨rfl,rfl⟩:=h
  go_enter Try.func16,Try.ntmps16
  go_wp2_with (first|((with_reducible refine aD (f:=40) rfl ?_);refine aM (some 5) rfl rfl Try.func40 (by kernel_rfl) rfl #[.slice A l.length c] rfl (by (try simp only [List.map_toArray,List.map_cons,List.map_nil]);first|done|rfl) ?_;(with_reducible refine (eF.calls k _ _ l false _ (Kd.aH HR.out HB.out) HL.out HV.out).mono ?_);rintro e w3 ⟨rfl,hb⟩;refine ⟨_,rfl,?_⟩;replace HB:=Aside0.mk (aB HB.out hb);clear hb)|fail)
  go_ret2
  exact ⟨_,rfl,Kd.uV _ _ _ _ _,HB.out⟩
 rw [if_pos rfl] at h
 obtain ⟨q1,hf,h⟩:=Option.bind_eq_some_iff.mp h
 simp only [Option.some.injEq,Prod.mk.injEq] at h
 obtain ⟨rfl,rfl⟩:=h
 have HF:=Aside0.mk hf
 clear hf
 go_enter Try.func16,Try.ntmps16
 go_wp2_with (first|((with_reducible refine aD (f:=40) rfl ?_);refine aM (some 5) rfl rfl Try.func40 (by kernel_rfl) rfl #[.slice A l.length c] rfl (by (try simp only [List.map_toArray,List.map_cons,List.map_nil]);first|done|rfl) ?_;(with_reducible refine (eF.calls k _ _ l true _ (Kd.aH HR.out HB.out) HL.out HV.out).mono ?_);rintro e w3 ⟨rfl,hb⟩;refine ⟨_,rfl,?_⟩;replace HB:=Aside0.mk (aB HB.out hb);clear hb)|((with_reducible refine aD (f:=41) rfl ?_);refine aM (some 8) rfl rfl Try.func41 (by kernel_rfl) rfl #[.slice A l.length c] rfl (by (try simp only [List.map_toArray,List.map_cons,List.map_nil]);first|done|rfl) ?_;(with_reducible refine (aI.callsS k _ _ l q1 _ (Kd.aH HR.out HB.out) HL.out HF.out).mono ?_);rintro e w4 ⟨v,rfl,hn,hb⟩;refine ⟨_,rfl,?_⟩;have SR:=Aside0.mk (Kd.dU (Kd.gL hn HB.out.size) (fun q hq=>Nat.le_trans HB.out.size hq));replace HB:=Aside0.mk (aB HB.out hb);clear hb hn)|fail)
 go_ret2
 exact ⟨_,rfl,SR.out,HB.out⟩
abbrev bE.bF (k:Nat):Prop:=∀ (base:Nat) (ok:Nat→Prop) (v:Value) (l:List S28) (n r:Int) (l':List S28) (w:World) (hs:Kd.S kH 28 w base ok v l) (h:bE.f k l n=some (r,l')),
  Calls Try.prog 34 #[v, .int .i64 n] w fun e w'=>e= .returned (.int .i64 r)∧Kd.S kH 28 w' base ok v l'∧Below base w w'∧Kept w w' ok
theorem gQ {α:Type} (l:List α) (i:Nat) (x z:α) (h:i < l.length):(l.set i x).getD i z=x:=by
 rw [List.getD_eq_getElem?_getD,List.getElem?_set_self h]
 rfl
theorem bE.step (k:Nat) (ih:∀ m,m < k→bE.bF m):bE.bF k:=by
 intro base ok v l n r l' w hs h
 cases k with
 |zero=>exact absurd h (by simp [bE.f])
 |succ k=>
 simp only [bE.f] at h
 obtain ⟨A0,c0,rfl⟩:=Kd.eP hs
 have HS:=Aside0.mk hs
 have H':=Aside0.mk h
 have HL:=Aside0.mk (Kd.vV hs).2.1
 clear hs h
 go_enter Try.func34,Try.ntmps34
 go_wp2
 go_loopg [1,5] k (fun kq v1 v5 w'=>∃ (xs:List S28) (m i:Int),v1= .int .i64 m∧v5= .int .i64 i∧Aside0 (xs.length=l.length)∧Aside0 (bE.l0 kq xs m i=some (r,l'))∧Aside0 (kq≤k)∧Aside0 (Kd.S kH 28 w' base ok (.slice A0 l.length c0) xs)∧Aside0 (Below base w w')∧Aside0 (Kept w w' ok))
 case atStart=>exact ⟨l,n,0,rfl,(by first|rfl|(simp;done)),⟨rfl⟩,H',⟨Nat.le_refl _⟩,HS,⟨Below.refl _ _⟩,⟨Kept.refl _ _⟩⟩
 case round=>
  clear H' HS
  obtain ⟨xs,m,i,rfl,rfl,LE,HA,j5,HS,HB,HK⟩:=hrel
  cases gk with
  |zero=>exact absurd HA.out (by simp [bE.l0])
  |succ k1=>
   have H:=HA.out
   clear HA
   simp only [bE.l0] at H
   rw [LE.out] at H
   by_cases c6:i < (l.length:Int)
   case neg=>
    rw [if_neg c6] at H
    have j9:decide (i < (l.length:Int))=false:=decide_eq_false c6
    clear c6
    simp only [Option.some.injEq,Prod.mk.injEq] at H
    obtain ⟨rfl,rfl⟩:=H
    go_wp2
    go_ret
    exact ⟨rfl,HS.out,HB.out,HK.out⟩
   rw [if_pos c6] at H
   by_cases c7:0≤i
   case neg=>rw [if_neg c7] at H;exact absurd H (by simp)
   rw [if_pos c7] at H
   rcases hx:aW xs i with ⟨f0,f1,f2⟩
   rw [hx] at H
   obtain ⟨⟨n2,t2⟩,h1,H⟩:=Option.bind_eq_some_iff.mp H
   dsimp only at h1 H
   have H1:=Aside0.mk h1
   have HR:=Aside0.mk H
   have HX:Aside0 (xs.getD i.toNat z28=⟨f0,f1,f2⟩):=⟨hx⟩
   clear h1 H hx
   obtain ⟨go,co,eo,gb,gl,hgc⟩:=Kd.yJ HS.out (by have:=LE.out;omega)
   injection eo with ea_ en_ ec_
   subst ea_
   have C6:=Aside0.mk c6
   have C7:=Aside0.mk c7
   have CL:Aside0 (i.toNat < xs.length):=⟨by have:=LE.out;omega⟩
   have GOK:=Aside0.mk ((Kd.S_R HS.out).1 go (by simp [Value.ownBlock]))
   have j9:decide (i < (l.length:Int))=true:=decide_eq_true c6
   have q0:=eq_true c7
   have q1:=eq_true c6
   clear gb gl hgc en_ ec_ c6 c7
   go_wp2_with (first|((with_reducible refine iG (t:=3) (p:=16) rfl ?_);refine oH ?_)|fail)
   refine ⟨?_⟩
   obtain ⟨oki,c,hcl,hM,hcc,hoki,hH⟩:=Kd.mI HS.out z28 i C7.out C6.out
   rw [HX.out] at hM
   obtain ⟨v2,rfl,hS2⟩:=nY hM
   refine Kd.lV kH (w0:=wr) base rfl rfl 3 (.tmp 16) (.tmp 14) rfl 28 (g:=go) (o':=i.toNat * 3) i 0 xs ⟨m,f1,f2⟩ (.int .i64 m) [.int .i64 m] _ ok oki oki ?ha rfl rfl rfl (by kernel_rfl) ?h1 hH C7.out C6.out (show 0 + 1≤3 by decide) (gP wr base oki ⟨m,f1,f2⟩ hS2) (fun _ h=>h) (Below.refl _ _) ?_
   (case ha=>first|rfl|(go_simp;done)|(go_simp;rfl))
   (case h1=>intro q hq;rw [List.mem_singleton.1 hq];rfl)
   clear hM hcc hoki hH hcl hS2
   intro w1 hn hb hg
   have HS1:=Aside0.mk hn
   have j6:=Aside0.mk (HB.out.trans hb)
   have j3:=Aside0.mk (Kept.lI hg HK.out (fun k hk=> .inl (by injection hk with hk;rw [← hk];exact GOK.out)))
   clear hn hb hg HS HB HK
   go_wp2_with (first|((with_reducible refine iG (t:=3) (p:=23) rfl ?_);refine oH ?_)|fail)
   refine ⟨?_⟩
   obtain ⟨oki,c,hcl,hM,hcc,hoki,hH⟩:=Kd.mI HS1.out z28 i C7.out C6.out
   rw [gQ _ _ _ _ CL.out] at hM
   obtain ⟨v2,rfl,hS2⟩:=nY hM
   refine Kd.lV kH (w0:=w1) base rfl rfl 3 (.tmp 23) (.tmp 21) rfl 28 (g:=go) (o':=i.toNat * 3 + 1) i 1 _ ⟨m,wrap64 (m + 1),f2⟩ (.int .i64 (wrap64 (m + 1))) [.int .i64 (wrap64 (m + 1))] _ ok oki oki ?ha rfl rfl rfl (by kernel_rfl) ?h1 hH C7.out C6.out (show 1 + 1≤3 by decide) (gP w1 base oki ⟨m,wrap64 (m + 1),f2⟩ hS2) (fun _ h=>h) (Below.refl _ _) ?_
   (case ha=>first|rfl|(go_simp;done)|(go_simp;rfl))
   (case h1=>intro q hq;rw [List.mem_singleton.1 hq];rfl)
   clear hM hcc hoki hH hcl hS2
   intro w2 hn hb hg
   rw [List.set_set] at hn
   obtain ⟨oki,c,hcl,hM,hcc,hoki,hH⟩:=Kd.mI hn z28 i C7.out C6.out
   rw [gQ _ _ _ _ CL.out] at hM
   obtain ⟨v2,rfl,hS2⟩:=nY hM
   obtain ⟨A2,c2,rfl⟩:=Kd.eP hS2
   have HS2:=Aside0.mk hS2
   have HH:=Aside0.mk hH
   have j7:=Aside0.mk (j6.out.trans hb)
   have j4:=Aside0.mk (Kept.lI hg j3.out (fun k hk=> .inl (by injection hk with hk;rw [← hk];exact GOK.out)))
   have HOI:=Aside0.mk hoki
   have z2:w2.cell? ⟨go,i.toNat * 3 + 2,none⟩=some (.slice A2 f2.length c2):=hcc 2 _ rfl
   clear hn hb hg HS1 j6 j3 hM hcc hoki hH hcl hS2
   go_wp2_with (first|((with_reducible refine aD (f:=34) rfl ?_);refine aM (some 32) rfl rfl Try.func34 (by kernel_rfl) rfl #[.slice A2 f2.length c2, .int .i64 (wrap64 (wrap64 (m + 1) + 1))] rfl (by (try simp only [List.map_toArray,List.map_cons,List.map_nil]);first|done|rfl) ?_;(with_reducible refine (ih k1 (by have:=j5.out;omega) base oki _ f2 _ n2 t2 _ HS2.out H1.out).mono ?_);rintro e jc ⟨rfl,j8,hb,hk⟩;refine ⟨_,rfl,?_⟩;have HN:=Aside0.mk (Kd.DF (Kd.yF HH.out hk (fun _ _ hn hs=>hn hs)) (gP _ _ _ ⟨m,wrap64 (m + 1),t2⟩ j8) (fun _ h=>h));have ja:=Aside0.mk (j7.out.trans hb);have jb:=Aside0.mk (j4.out.then_ hk (fun q hq=> .inl (HOI.out q hq).1));clear j8 hb hk HH j7 j4 HOI HS2 z2)|fail)
   rw [List.set_set] at HN
   go_roundg k1
   case measure=>have:=j5.out;omega
   case rel=>exact ⟨_,n2,wrap64 (i + 1),rfl,(by first|rfl|(simp;done)|(simp [*];done)),⟨by rw [List.length_set];exact LE.out⟩,HR,⟨by have:=j5.out;omega⟩,HN,ja,jb⟩
theorem bE.calls (k:Nat):bE.bF k:=by
 induction k using Nat.strongRecOn with
 | _ k ih=>exact bE.step k ih
theorem kZ.calls (k:Nat) (base:Nat) (ok:Nat→Prop) (a0 a1:Int) (A:Option Addr) (c:Nat) (l:List S28) (n r:Int) (l':List S28) (w:World) (hw:base≤w.heap.size) (hs:Kd.S kH 28 w base ok (.slice A l.length c) l) (h:kZ.f k a0 a1 l n=some (r,l')):
  Calls Try.prog 11 #[.agg #[.int .i64 a0, .int .i64 a1, .slice A l.length c], .int .i64 n] w fun e w'=>e= .returned (.int .i64 r)∧Kd.S kH 28 w' base ok (.slice A l.length c) l'∧Below base w w'∧Kept w w' ok:=by
 have HS:=Aside0.mk hs
 have H:Aside0 (bE.f k l n=some (r,l')):=⟨h⟩
 have HW:=Aside0.mk hw
 clear hs h hw
 go_enter Try.func11,Try.ntmps11
 go_wp2_with (first|((with_reducible refine bL (N:=2) rfl ?_);refine cB (N:=2) ?hg ?hd (cs:=#[.int .i64 a0, .int .i64 a1, .slice A l.length c]) (t:=28) ?hr ?_;(case hd=>rfl);(case hg=>rfl);(case hr=>first|(go_simp;done)|(go_simp;rfl));intro g1 hg w1 hbox hb;have B1:=Aside0.mk hbox;have HB:=Aside0.mk hb;have HS1:=Aside0.mk (Kd.dM HS.out hb);have z2:w1.cell? ⟨g1,2,none⟩=some (.slice A l.length c):=aA hbox 2;clear hbox hg hb HS)|((with_reducible refine aD (f:=34) rfl ?_);refine aM (some 8) rfl rfl Try.func34 (by kernel_rfl) rfl #[.slice A l.length c, .int .i64 n] rfl (by (try simp only [List.map_toArray,List.map_cons,List.map_nil]);first|done|rfl) ?_;(with_reducible refine (bE.calls k base ok _ l n r l' _ HS1.out H.out).mono ?_);rintro e w2 ⟨rfl,j3,hb,hk⟩;refine ⟨_,rfl,?_⟩;have HS2:=Aside0.mk j3;have j4:=Aside0.mk ((HB.out.mono HW.out).trans hb);have j5:=Aside0.mk ((Kept.of_below HB.out ok).then_ hk (fun _ h=> .inl h));clear j3 hb hk)|fail)
 go_ret
 exact ⟨rfl,HS2.out,j4.out,j5.out⟩
abbrev bH.bF (k:Nat):Prop:=∀ (base:Nat) (ok:Nat→Prop) (v:Value) (l:List S70) (n r:Int) (l':List S70) (w:World) (hs:Kd.S iU 70 w base ok v l) (h:bH.f k l n=some (r,l')),
  Calls Try.prog 18 #[v, .int .i64 n] w fun e w'=>e= .returned (.int .i64 r)∧Kd.S iU 70 w' base ok v l'∧Below base w w'∧Kept w w' ok
theorem bH.step (k:Nat) (ih:∀ m,m < k→bH.bF m):bH.bF k:=by
 intro base ok v l n r l' w hs h
 cases k with
 |zero=>exact absurd h (by simp [bH.f])
 |succ k=>
 simp only [bH.f] at h
 obtain ⟨A0,c0,rfl⟩:=Kd.eP hs
 have HS:=Aside0.mk hs
 have H':=Aside0.mk h
 have HL:=Aside0.mk (Kd.vV hs).2.1
 clear hs h
 go_enter Try.func18,Try.ntmps18
 go_wp2
 go_loopg [1,5] k (fun kq v1 v5 w'=>∃ (xs:List S70) (m i:Int),v1= .int .i64 m∧v5= .int .i64 i∧Aside0 (xs.length=l.length)∧Aside0 (bH.l0 kq xs m i=some (r,l'))∧Aside0 (kq≤k)∧Aside0 (Kd.S iU 70 w' base ok (.slice A0 l.length c0) xs)∧Aside0 (Below base w w')∧Aside0 (Kept w w' ok))
 case atStart=>exact ⟨l,n,0,rfl,(by first|rfl|(simp;done)),⟨rfl⟩,H',⟨Nat.le_refl _⟩,HS,⟨Below.refl _ _⟩,⟨Kept.refl _ _⟩⟩
 case round=>
  clear H' HS
  obtain ⟨xs,m,i,rfl,rfl,LE,HA,j4,HS,HB,HK⟩:=hrel
  cases gk with
  |zero=>exact absurd HA.out (by simp [bH.l0])
  |succ k1=>
   have H:=HA.out
   clear HA
   simp only [bH.l0] at H
   rw [LE.out] at H
   by_cases c6:i < (l.length:Int)
   case neg=>
    rw [if_neg c6] at H
    have j5:decide (i < (l.length:Int))=false:=decide_eq_false c6
    clear c6
    simp only [Option.some.injEq,Prod.mk.injEq] at H
    obtain ⟨rfl,rfl⟩:=H
    go_wp2
    go_ret
    exact ⟨rfl,HS.out,HB.out,HK.out⟩
   rw [if_pos c6] at H
   by_cases c7:0≤i
   case neg=>rw [if_neg c7] at H;exact absurd H (by simp)
   rw [if_pos c7] at H
   rcases hx:aC xs i with ⟨f0,f1,f2,⟨e0,e1,e2⟩,bd,el⟩
   rw [hx] at H
   obtain ⟨⟨n1,t1⟩,h1,H⟩:=Option.bind_eq_some_iff.mp H
   obtain ⟨⟨n2,t2⟩,h2,H⟩:=Option.bind_eq_some_iff.mp H
   obtain ⟨⟨n3,t3⟩,h3,H⟩:=Option.bind_eq_some_iff.mp H
   dsimp only at h1 h2 h3 H
   have H1:=Aside0.mk h1
   have H2:=Aside0.mk h2
   have H3:=Aside0.mk h3
   have HR:=Aside0.mk H
   have HX:Aside0 (xs.getD i.toNat z70=⟨f0,f1,f2,⟨e0,e1,e2⟩,bd,el⟩):=⟨hx⟩
   clear h1 h2 h3 H hx
   obtain ⟨go,co,eo,gb,gl,hgc⟩:=Kd.yJ HS.out (by have:=LE.out;omega)
   injection eo with ea_ en_ ec_
   subst ea_
   have C6:=Aside0.mk c6
   have C7:=Aside0.mk c7
   have CL:Aside0 (i.toNat < xs.length):=⟨by have:=LE.out;omega⟩
   have GOK:=Aside0.mk ((Kd.S_R HS.out).1 go (by simp [Value.ownBlock]))
   have j5:decide (i < (l.length:Int))=true:=decide_eq_true c6
   have q0:=eq_true c7
   have q1:=eq_true c6
   clear gb gl hgc en_ ec_ c6 c7
   go_wp2_with (first|((with_reducible refine iG (t:=3) (p:=16) rfl ?_);refine oH ?_)|fail)
   refine ⟨?_⟩
   obtain ⟨oki,c,hcl,hM,hcc,hoki,hH⟩:=Kd.mI HS.out z70 i C7.out C6.out
   rw [HX.out] at hM
   obtain ⟨v5,v6,v7,p5,p6,p7,rfl,g5,g6,g7,hok,hap⟩:=kW hM
   refine Kd.lV iU (w0:=wr) base rfl rfl 3 (.tmp 16) (.tmp 14) rfl 70 (g:=go) (o':=i.toNat * 8) i 0 _ (⟨m,f1,f2,⟨e0,e1,e2⟩,bd,el⟩:S70) (.int .i64 m) [.int .i64 m] _ ok oki oki ?ha rfl rfl rfl (by kernel_rfl) ?h1 hH C7.out C6.out (show 0 + 1≤8 by decide) (kL wr base oki p5 p6 p7 (⟨m,f1,f2,⟨e0,e1,e2⟩,bd,el⟩:S70) g5 g6 g7 hok hap) (fun _ h=>h) (Below.refl _ _) ?_
   (case ha=>first|rfl|(go_simp;done)|(go_simp;rfl))
   (case h1=>intro q hq;rw [List.mem_singleton.1 hq];rfl)
   clear hM hcc hoki hH hcl g5 g6 g7 hok hap
   intro y1 hn hb hg
   replace HS:=Aside0.mk hn
   replace HB:=Aside0.mk (HB.out.trans hb)
   replace HK:=Aside0.mk (Kept.lI hg HK.out (fun k hk=> .inl (by injection hk with hk;rw [← hk];exact GOK.out)))
   clear hn hb hg
   go_wp2_with (first|((with_reducible refine iG (t:=3) (p:=23) rfl ?_);refine oH ?_)|fail)
   refine ⟨?_⟩
   obtain ⟨oki,c,hcl,hM,hcc,hoki,hH⟩:=Kd.mI HS.out z70 i C7.out C6.out
   rw [gQ _ _ _ _ CL.out] at hM
   obtain ⟨v5,v6,v7,p5,p6,p7,rfl,g5,g6,g7,hok,hap⟩:=kW hM
   refine Kd.lV iU (w0:=y1) base rfl rfl 3 (.tmp 23) (.tmp 21) rfl 70 (g:=go) (o':=i.toNat * 8 + 1) i 1 _ (⟨m,(wrap64 (m + 1)),f2,⟨e0,e1,e2⟩,bd,el⟩:S70) (.int .i64 (wrap64 (m + 1))) [.int .i64 (wrap64 (m + 1))] _ ok oki oki ?ha rfl rfl rfl (by kernel_rfl) ?h1 hH C7.out C6.out (show 1 + 1≤8 by decide) (kL y1 base oki p5 p6 p7 (⟨m,(wrap64 (m + 1)),f2,⟨e0,e1,e2⟩,bd,el⟩:S70) g5 g6 g7 hok hap) (fun _ h=>h) (Below.refl _ _) ?_
   (case ha=>first|rfl|(go_simp;done)|(go_simp;rfl))
   (case h1=>intro q hq;rw [List.mem_singleton.1 hq];rfl)
   clear hM hcc hoki hH hcl g5 g6 g7 hok hap
   intro y2 hn hb hg
   rw [List.set_set] at hn
   replace HS:=Aside0.mk hn
   replace HB:=Aside0.mk (HB.out.trans hb)
   replace HK:=Aside0.mk (Kept.lI hg HK.out (fun k hk=> .inl (by injection hk with hk;rw [← hk];exact GOK.out)))
   clear hn hb hg
   go_wp2_with (first|((with_reducible refine iG (t:=3) (p:=30) rfl ?_);refine oH ?_)|fail)
   refine ⟨?_⟩
   obtain ⟨oki,c,hcl,hM,hcc,hoki,hH⟩:=Kd.mI HS.out z70 i C7.out C6.out
   rw [gQ _ _ _ _ CL.out] at hM
   obtain ⟨v5,v6,v7,p5,p6,p7,rfl,g5,g6,g7,hok,hap⟩:=kW hM
   refine Kd.lV iU (w0:=y2) base rfl rfl 3 (.tmp 30) (.tmp 28) rfl 70 (g:=go) (o':=i.toNat * 8 + 2) i 2 _ (⟨m,(wrap64 (m + 1)),(wrap64 ((wrap64 (m + 1)) + 1)),⟨e0,e1,e2⟩,bd,el⟩:S70) (.int .i64 (wrap64 ((wrap64 (m + 1)) + 1))) [.int .i64 (wrap64 ((wrap64 (m + 1)) + 1))] _ ok oki oki ?ha rfl rfl rfl (by kernel_rfl) ?h1 hH C7.out C6.out (show 2 + 1≤8 by decide) (kL y2 base oki p5 p6 p7 (⟨m,(wrap64 (m + 1)),(wrap64 ((wrap64 (m + 1)) + 1)),⟨e0,e1,e2⟩,bd,el⟩:S70) g5 g6 g7 hok hap) (fun _ h=>h) (Below.refl _ _) ?_
   (case ha=>first|rfl|(go_simp;done)|(go_simp;rfl))
   (case h1=>intro q hq;rw [List.mem_singleton.1 hq];rfl)
   clear hM hcc hoki hH hcl g5 g6 g7 hok hap
   intro y3 hn hb hg
   rw [List.set_set] at hn
   replace HS:=Aside0.mk hn
   replace HB:=Aside0.mk (HB.out.trans hb)
   replace HK:=Aside0.mk (Kept.lI hg HK.out (fun k hk=> .inl (by injection hk with hk;rw [← hk];exact GOK.out)))
   clear hn hb hg
   go_wp2_with (first|((with_reducible refine iG (t:=3) (p:=38) rfl ?_);refine oH ?_)|fail)
   refine ⟨?_⟩
   obtain ⟨oki,c,hcl,hM,hcc,hoki,hH⟩:=Kd.mI HS.out z70 i C7.out C6.out
   rw [gQ _ _ _ _ CL.out] at hM
   obtain ⟨v5,v6,v7,p5,p6,p7,rfl,g5,g6,g7,hok,hap⟩:=kW hM
   refine Kd.lV iU (w0:=y3) base rfl rfl 3 (.tmp 38) (.tmp 35) rfl 70 (g:=go) (o':=i.toNat * 8 + 3) i 3 _ (⟨m,(wrap64 (m + 1)),(wrap64 ((wrap64 (m + 1)) + 1)),⟨(wrap64 ((wrap64 ((wrap64 (m + 1)) + 1)) + 1)),e1,e2⟩,bd,el⟩:S70) (.int .i64 (wrap64 ((wrap64 ((wrap64 (m + 1)) + 1)) + 1))) [.int .i64 (wrap64 ((wrap64 ((wrap64 (m + 1)) + 1)) + 1))] _ ok oki oki ?ha rfl rfl rfl (by kernel_rfl) ?h1 hH C7.out C6.out (show 3 + 1≤8 by decide) (kL y3 base oki p5 p6 p7 (⟨m,(wrap64 (m + 1)),(wrap64 ((wrap64 (m + 1)) + 1)),⟨(wrap64 ((wrap64 ((wrap64 (m + 1)) + 1)) + 1)),e1,e2⟩,bd,el⟩:S70) g5 g6 g7 hok hap) (fun _ h=>h) (Below.refl _ _) ?_
   (case ha=>first|rfl|(go_simp;done)|(go_simp;rfl))
   (case h1=>intro q hq;rw [List.mem_singleton.1 hq];rfl)
   clear hM hcc hoki hH hcl g5 g6 g7 hok hap
   intro y4 hn hb hg
   rw [List.set_set] at hn
   replace HS:=Aside0.mk hn
   replace HB:=Aside0.mk (HB.out.trans hb)
   replace HK:=Aside0.mk (Kept.lI hg HK.out (fun k hk=> .inl (by injection hk with hk;rw [← hk];exact GOK.out)))
   clear hn hb hg
   go_wp2_with (first|((with_reducible refine iG (t:=3) (p:=46) rfl ?_);refine oH ?_)|fail)
   refine ⟨?_⟩
   obtain ⟨oki,c,hcl,hM,hcc,hoki,hH⟩:=Kd.mI HS.out z70 i C7.out C6.out
   rw [gQ _ _ _ _ CL.out] at hM
   obtain ⟨v5,v6,v7,p5,p6,p7,rfl,g5,g6,g7,hok,hap⟩:=kW hM
   refine Kd.lV iU (w0:=y4) base rfl rfl 3 (.tmp 46) (.tmp 43) rfl 70 (g:=go) (o':=i.toNat * 8 + 4) i 4 _ (⟨m,(wrap64 (m + 1)),(wrap64 ((wrap64 (m + 1)) + 1)),⟨(wrap64 ((wrap64 ((wrap64 (m + 1)) + 1)) + 1)),(wrap64 ((wrap64 ((wrap64 ((wrap64 (m + 1)) + 1)) + 1)) + 1)),e2⟩,bd,el⟩:S70) (.int .i64 (wrap64 ((wrap64 ((wrap64 ((wrap64 (m + 1)) + 1)) + 1)) + 1))) [.int .i64 (wrap64 ((wrap64 ((wrap64 ((wrap64 (m + 1)) + 1)) + 1)) + 1))] _ ok oki oki ?ha rfl rfl rfl (by kernel_rfl) ?h1 hH C7.out C6.out (show 4 + 1≤8 by decide) (kL y4 base oki p5 p6 p7 (⟨m,(wrap64 (m + 1)),(wrap64 ((wrap64 (m + 1)) + 1)),⟨(wrap64 ((wrap64 ((wrap64 (m + 1)) + 1)) + 1)),(wrap64 ((wrap64 ((wrap64 ((wrap64 (m + 1)) + 1)) + 1)) + 1)),e2⟩,bd,el⟩:S70) g5 g6 g7 hok hap) (fun _ h=>h) (Below.refl _ _) ?_
   (case ha=>first|rfl|(go_simp;done)|(go_simp;rfl))
   (case h1=>intro q hq;rw [List.mem_singleton.1 hq];rfl)
   clear hM hcc hoki hH hcl g5 g6 g7 hok hap
   intro y5 hn hb hg
   rw [List.set_set] at hn
   replace HS:=Aside0.mk hn
   replace HB:=Aside0.mk (HB.out.trans hb)
   replace HK:=Aside0.mk (Kept.lI hg HK.out (fun k hk=> .inl (by injection hk with hk;rw [← hk];exact GOK.out)))
   clear hn hb hg
   obtain ⟨oki,c,hcl,hM,hcc,hoki,hH⟩:=Kd.mI HS.out z70 i C7.out C6.out
   rw [gQ _ _ _ _ CL.out] at hM
   obtain ⟨v5,v6,v7,p5,p6,p7,rfl,g5,g6,g7,hok,hap⟩:=kW hM
   obtain ⟨A5,c5,rfl⟩:=Kd.eP g5
   obtain ⟨A6,c6,rfl⟩:=Kd.eP g6
   obtain ⟨A7,c7,rfl⟩:=Kd.eP g7
   have G5:=Aside0.mk g5
   have G6:=Aside0.mk g6
   have G7:=Aside0.mk g7
   have HH:=Aside0.mk hH
   have HOK:=Aside0.mk hok
   have HAP:=Aside0.mk hap
   have HOI:=Aside0.mk hoki
   clear g5 g6 g7 hH hok hap hoki hM hcc hcl HS
   have z5:y5.cell? ⟨go,i.toNat * 8 + 5,none⟩=some (.slice A5 e2.length c5):=(Kd.FT HH.out C7.out C6.out).1 5 _ rfl
   have z6:y5.cell? ⟨go,i.toNat * 8 + 6,none⟩=some (.slice A6 bd.length c6):=(Kd.FT HH.out C7.out C6.out).1 6 _ rfl
   have z7:y5.cell? ⟨go,i.toNat * 8 + 7,none⟩=some (.slice A7 el.length c7):=(Kd.FT HH.out C7.out C6.out).1 7 _ rfl
   go_wp2_with (first|((with_reducible refine aD (f:=34) rfl ?_);refine aM (some 56) rfl rfl Try.func34 (by kernel_rfl) rfl #[.slice A5 e2.length c5, .int .i64 (wrap64 ((wrap64 ((wrap64 ((wrap64 ((wrap64 (m + 1)) + 1)) + 1)) + 1)) + 1))] rfl (by (try simp only [List.map_toArray,List.map_cons,List.map_nil]);first|done|rfl) ?_;(with_reducible refine (bE.calls k1 base p5 _ e2 _ n1 t1 _ G5.out H1.out).mono ?_);rintro e y6 ⟨rfl,j3,hb,hk⟩;refine ⟨_,rfl,?_⟩;replace G5:=Aside0.mk j3;replace G6:=Aside0.mk (Kd.nM G6.out (fun q hq hlt=>hk.2 q hlt (fun hs=>((HAP.out q).1 hs).1 hq)));replace G7:=Aside0.mk (Kd.nM G7.out (fun q hq hlt=>hk.2 q hlt (fun hs=>((HAP.out q).1 hs).2 hq)));replace HH:=Aside0.mk (Kd.yF HH.out hk (fun q _ hn hs=>hn (HOK.out q (.inl hs))));replace HB:=Aside0.mk (HB.out.trans hb);replace HK:=Aside0.mk (HK.out.then_ hk (fun q hq=> .inl (HOI.out q (HOK.out q (.inl hq))).1));clear j3 hb hk z5 z6 z7;have z6:y6.cell? ⟨go,i.toNat * 8 + 6,none⟩=some (.slice A6 bd.length c6):=(Kd.FT HH.out C7.out C6.out).1 6 _ rfl;have z7:y6.cell? ⟨go,i.toNat * 8 + 7,none⟩=some (.slice A7 el.length c7):=(Kd.FT HH.out C7.out C6.out).1 7 _ rfl)|((with_reducible refine aD (f:=18) rfl ?_);refine aM (some 63) rfl rfl Try.func18 (by kernel_rfl) rfl #[.slice A6 bd.length c6, .int .i64 n1] rfl (by (try simp only [List.map_toArray,List.map_cons,List.map_nil]);first|done|rfl) ?_;(with_reducible refine (ih k1 (by have:=j4.out;omega) base p6 _ bd n1 n2 t2 _ G6.out H2.out).mono ?_);rintro e y7 ⟨rfl,j3,hb,hk⟩;refine ⟨_,rfl,?_⟩;replace G6:=Aside0.mk j3;replace G5:=Aside0.mk (Kd.nM G5.out (fun q hq hlt=>hk.2 q hlt (fun hs=>((HAP.out q).1 hq).1 hs)));replace G7:=Aside0.mk (Kd.nM G7.out (fun q hq hlt=>hk.2 q hlt (fun hs=>(HAP.out q).2 hs hq)));replace HH:=Aside0.mk (Kd.yF HH.out hk (fun q _ hn hs=>hn (HOK.out q (.inr (.inl hs)))));replace HB:=Aside0.mk (HB.out.trans hb);replace HK:=Aside0.mk (HK.out.then_ hk (fun q hq=> .inl (HOI.out q (HOK.out q (.inr (.inl hq)))).1));clear j3 hb hk z6 z7;have z7:y7.cell? ⟨go,i.toNat * 8 + 7,none⟩=some (.slice A7 el.length c7):=(Kd.FT HH.out C7.out C6.out).1 7 _ rfl)|((with_reducible refine aD (f:=18) rfl ?_);refine aM (some 70) rfl rfl Try.func18 (by kernel_rfl) rfl #[.slice A7 el.length c7, .int .i64 n2] rfl (by (try simp only [List.map_toArray,List.map_cons,List.map_nil]);first|done|rfl) ?_;(with_reducible refine (ih k1 (by have:=j4.out;omega) base p7 _ el n2 n3 t3 _ G7.out H3.out).mono ?_);rintro e y8 ⟨rfl,j3,hb,hk⟩;refine ⟨_,rfl,?_⟩;replace G7:=Aside0.mk j3;replace G5:=Aside0.mk (Kd.nM G5.out (fun q hq hlt=>hk.2 q hlt (fun hs=>((HAP.out q).1 hq).2 hs)));replace G6:=Aside0.mk (Kd.nM G6.out (fun q hq hlt=>hk.2 q hlt (fun hs=>(HAP.out q).2 hq hs)));replace HH:=Aside0.mk (Kd.yF HH.out hk (fun q _ hn hs=>hn (HOK.out q (.inr (.inr hs)))));replace HB:=Aside0.mk (HB.out.trans hb);replace HK:=Aside0.mk (HK.out.then_ hk (fun q hq=> .inl (HOI.out q (HOK.out q (.inr (.inr hq)))).1));clear j3 hb hk z7)|fail)
   have HN:=Aside0.mk (Kd.DF HH.out (kL _ base _ p5 p6 p7 (⟨m,(wrap64 (m + 1)),(wrap64 ((wrap64 (m + 1)) + 1)),⟨(wrap64 ((wrap64 ((wrap64 (m + 1)) + 1)) + 1)),(wrap64 ((wrap64 ((wrap64 ((wrap64 (m + 1)) + 1)) + 1)) + 1)),t1⟩,t2,t3⟩:S70) G5.out G6.out G7.out HOK.out HAP.out) (fun _ h=>h))
   rw [List.set_set] at HN
   go_roundg k1
   case measure=>have:=j4.out;omega
   case rel=>exact ⟨_,n3,wrap64 (i + 1),rfl,(by first|rfl|(simp;done)|(simp [*];done)),⟨by rw [List.length_set];exact LE.out⟩,HR,⟨by have:=j4.out;omega⟩,HN,HB,HK⟩
theorem bH.calls (k:Nat):bH.bF k:=by
 induction k using Nat.strongRecOn with
 | _ k ih=>exact bH.step k ih
abbrev bZ.iJ (k:Nat):Prop:=∀ (A0:Option Addr) (c0:Nat) (l0:List (S24)) (r:List (S28)) (w:World) (hr0:Kd.C k24 w A0 l0.length l0) (hc0:l0.length≤c0) (h:bZ.f k l0=some r),
  Calls Try.prog 30 #[.slice A0 l0.length c0] w fun e w'=>∃ v0_:Value,e= .returned (v0_)∧Kd.S kH 28 w' w.heap.size (fun q=>w.heap.size≤q) v0_ r∧Below w.heap.size w w'
abbrev dP.iJ (k:Nat):Prop:=∀ (a0 a1:Int) (A:Option Addr) (c:Nat) (l:List (S24)) (r1 r2:Int) (r3:List (S28)) (w:World) (hr0:Kd.C k24 w A l.length l) (hc0:l.length≤c) (h:dP.f k a0 a1 l=some (r1,r2,r3)),
  Calls Try.prog 8 #[.agg #[.int .i64 a0, .int .i64 a1, .slice A l.length c]] w fun e w'=>∃ v2_:Value,e= .returned (.agg #[.int .i64 r1, .int .i64 r2,v2_])∧Kd.S kH 28 w' w.heap.size (fun q=>w.heap.size≤q) v2_ r3∧Below w.heap.size w w'
theorem dP.wN (k:Nat) (ihS:∀ m,m < k→bZ.iJ m):dP.iJ k:=by
 intro a0 a1 A c l r1 r2 r3 w hr hl h
 cases k with
 |zero=>exact absurd h (by simp [dP.f])
 |succ k=>
 simp only [dP.f] at h
 obtain ⟨t,ht,h⟩:=Option.bind_eq_some_iff.mp h
 simp only [Option.some.injEq,Prod.mk.injEq] at h
 obtain ⟨rfl,rfl,rfl⟩:=h
 have HR:=Aside0.mk hr
 have HL:=Aside0.mk hl
 have HT:=Aside0.mk ht
 clear hr hl ht
 go_enter Try.func8,Try.ntmps8
 go_wp2_with (first|((with_reducible refine bL (N:=1) rfl ?_);refine cB ?hg (N:=1) ?hd (cs:=#[(.int .i64 a0),(.int .i64 a1),(.slice A l.length c)]) (t:=24) ?hr ?_;(case hd=>rfl);(case hg=>rfl);(case hr=>first|(go_simp;done)|(go_simp;rfl));intro g1 hg w1 hbox hb;have X1:=Aside0.mk hbox;have B0:=Aside0.mk hb;have j5:Aside0 (w.heap.size≤g1):=⟨Nat.le_of_eq hg.symm⟩;clear hb hbox hg)|((with_reducible refine bL (N:=2) rfl ?_);refine cB ?hg (N:=2) ?hd (cs:=#[(.int .i64 0),(.int .i64 0),(.slice none 0 0)]) (t:=28) ?hr ?_;(case hd=>rfl);(case hg=>rfl);(case hr=>first|(go_simp;done)|(go_simp;rfl));intro g2 hg w2 hbox hb;have NE12:Aside0 (g1 < g2):=⟨by rw [hg];exact cK X1.out⟩;replace X1:=Aside0.mk (aN X1.out hb);replace B0:=Aside0.mk (aB B0.out hb);have X2:=Aside0.mk hbox;clear hb hbox hg)|((with_reducible refine bL (N:=3) rfl ?_);refine cB ?hg (N:=3) ?hd (cs:=#[(.int .i64 0),(.int .i64 0),(.slice none 0 0)]) (t:=28) ?hr ?_;(case hd=>rfl);(case hg=>rfl);(case hr=>first|(go_simp;done)|(go_simp;rfl));intro g3 hg w3 hbox hb;have NE23:Aside0 (g2 < g3):=⟨by rw [hg];exact cK X2.out⟩;replace X1:=Aside0.mk (aN X1.out hb);replace X2:=Aside0.mk (aN X2.out hb);replace B0:=Aside0.mk (aB B0.out hb);have X3:=Aside0.mk hbox;have j4:Aside0 (w.heap.size≤g2):=⟨by have:=j5.out;have:=NE12.out;omega⟩;have j3:Aside0 (w.heap.size≤g3):=⟨by have:=j4.out;have:=NE23.out;omega⟩;have ne13:g1≠g3:=(by have:=NE12.out;have:=NE23.out;omega);have ne31:g3≠g1:=Ne.symm ne13;have ne23:g2≠g3:=(by have:=NE23.out;omega);have ne32:g3≠g2:=Ne.symm ne23;have yp0:w3.cell? ⟨g1,0,none⟩=some (.int .i64 a0):=aA X1.out 0;have yp1:w3.cell? ⟨g1,1,none⟩=some (.int .i64 a1):=aA X1.out 1;have yp2:w3.cell? ⟨g1,2,none⟩=some (.slice A l.length c):=aA X1.out 2;have yo0:w3.cell? ⟨g3,0,none⟩=some (.int .i64 0):=aA X3.out 0;have fo0:=aG X3.out 0;have yo1:w3.cell? ⟨g3,1,none⟩=some (.int .i64 0):=aA X3.out 1;have fo1:=aG X3.out 1;have yo2:w3.cell? ⟨g3,2,none⟩=some (.slice none 0 0):=aA X3.out 2;have fo2:=aG X3.out 2;clear hb hbox hg)|((with_reducible refine aD (f:=30) rfl ?_);refine aM (some 12) rfl rfl Try.func30 (by kernel_rfl) rfl #[.slice A l.length c] rfl (by (try simp only [List.map_toArray,List.map_cons,List.map_nil]);first|done|rfl) ?_;(with_reducible refine (ihS k (Nat.lt_succ_self k) _ _ l t _ (Kd.aH HR.out (below_set (j:=1) (v:=(.int .i64 a1)) (below_set (j:=0) (v:=(.int .i64 a0)) B0.out j3.out) j3.out)) HL.out HT.out).mono ?_);rintro e w4 ⟨v,rfl,hn,hb⟩;refine ⟨_,rfl,?_⟩;obtain ⟨B,d,rfl⟩:=Kd.eP hn;have hle:=((below_set (j:=1) (v:=(.int .i64 a1)) (below_set (j:=0) (v:=(.int .i64 a0)) B0.out j3.out) j3.out)).size;have hl2:=cK (bI (p:=⟨g3,1,none⟩) (bI (p:=⟨g3,0,none⟩) X2.out ne23 (.int .i64 a0)) ne23 (.int .i64 a1));have hl3:=cK (aS (cs':=#[(.int .i64 a0),(.int .i64 a1),(.slice none 0 0)]) (aS (cs':=#[(.int .i64 a0),(.int .i64 0),(.slice none 0 0)]) X3.out 0 (.int .i64 a0) rfl) 1 (.int .i64 a1) rfl);have SR:=Aside0.mk (Kd.dU (ok':=fun q=>w.heap.size≤q∧q≠g2∧q≠g3) (Kd.gL hn hle) (fun q hq=>⟨Nat.le_trans hle hq,by omega,by omega⟩));replace X1:=Aside0.mk (aN (bI (p:=⟨g3,1,none⟩) (bI (p:=⟨g3,0,none⟩) X1.out ne13 (.int .i64 a0)) ne13 (.int .i64 a1)) hb);replace X2:=Aside0.mk (aN (bI (p:=⟨g3,1,none⟩) (bI (p:=⟨g3,0,none⟩) X2.out ne23 (.int .i64 a0)) ne23 (.int .i64 a1)) hb);replace X3:=Aside0.mk (aN (aS (cs':=#[(.int .i64 a0),(.int .i64 a1),(.slice none 0 0)]) (aS (cs':=#[(.int .i64 a0),(.int .i64 0),(.slice none 0 0)]) X3.out 0 (.int .i64 a0) rfl) 1 (.int .i64 a1) rfl) hb);replace B0:=Aside0.mk (aB (below_set (j:=1) (v:=(.int .i64 a1)) (below_set (j:=0) (v:=(.int .i64 a0)) B0.out j3.out) j3.out) hb);clear hb hn hle hl2 hl3 yp0 yp1 yp2 yo0 yo1 yo2 fo0 fo1 fo2;have yp0:w4.cell? ⟨g1,0,none⟩=some (.int .i64 a0):=aA X1.out 0;have yp1:w4.cell? ⟨g1,1,none⟩=some (.int .i64 a1):=aA X1.out 1;have yp2:w4.cell? ⟨g1,2,none⟩=some (.slice A l.length c):=aA X1.out 2;have yo0:w4.cell? ⟨g3,0,none⟩=some (.int .i64 a0):=aA X3.out 0;have fo0:=aG X3.out 0;have yo1:w4.cell? ⟨g3,1,none⟩=some (.int .i64 a1):=aA X3.out 1;have fo1:=aG X3.out 1;have yo2:w4.cell? ⟨g3,2,none⟩=some (.slice none 0 0):=aA X3.out 2;have fo2:=aG X3.out 2;have yr0:w4.cell? ⟨g2,0,none⟩=some (.int .i64 0):=aA X2.out 0;have fr0:=aG X2.out 0;have yr1:w4.cell? ⟨g2,1,none⟩=some (.int .i64 0):=aA X2.out 1;have fr1:=aG X2.out 1;have yr2:w4.cell? ⟨g2,2,none⟩=some (.slice none 0 0):=aA X2.out 2;have fr2:=aG X2.out 2)|fail)
 refine bodyPost_ret (results_cell_row rfl _ _ g2 28 #[(.int .i64 a0),(.int .i64 a1),(.slice B t.length d)] (0,0) _ rfl (aS (cs':=#[(.int .i64 a0),(.int .i64 a1),(.slice B t.length d)]) (aS (cs':=#[(.int .i64 a0),(.int .i64 a1),(.slice none 0 0)]) (aS (cs':=#[(.int .i64 a0),(.int .i64 0),(.slice none 0 0)]) (bI (p:=⟨g3,2,none⟩) X2.out ne23 (.slice B t.length d)) 0 (.int .i64 a0) rfl) 1 (.int .i64 a1) rfl) 2 (.slice B t.length d) rfl) Try.underlying28 rfl (by kernel_rfl)) rfl ?_
 exact ⟨_,rfl,(Kd.dU (Kd.cO (p:=⟨g2,2,none⟩) (Kd.cO (p:=⟨g2,1,none⟩) (Kd.cO (p:=⟨g2,0,none⟩) (Kd.cO (p:=⟨g3,2,none⟩) SR.out (fun q hq=>hq.2.2) (.slice B t.length d)) (fun q hq=>hq.2.1) (.int .i64 a0)) (fun q hq=>hq.2.1) (.int .i64 a1)) (fun q hq=>hq.2.1) (.slice B t.length d)) (fun q hq=>hq.1)),(below_set (j:=2) (v:=(.slice B t.length d)) (below_set (j:=1) (v:=(.int .i64 a1)) (below_set (j:=0) (v:=(.int .i64 a0)) (below_set (j:=2) (v:=(.slice B t.length d)) B0.out j3.out) j4.out) j4.out) j4.out)⟩
theorem bZ.wN (k:Nat) (ihT:∀ m,m < k→dP.iJ m):bZ.iJ k:=by
 intro A0 c0 l0 r w hr0 hc0 h
 cases k with
 |zero=>exact absurd h (by simp [bZ.f])
 |succ k=>
 simp only [bZ.f] at h
 rw [if_pos (by omega)] at h
 by_cases c2:((l0.length:Int):Int).toNat≤7036874417766
 case neg=>rw [if_neg c2] at h;exact absurd h (by simp)
 rw [if_pos c2] at h
 have j4:=Aside0.mk hr0
 have ja:=Aside0.mk hc0
 have H':=Aside0.mk h
 have C2:=Aside0.mk c2
 clear hr0 hc0 h c2
 have p0:=eq_true (show 0≤(l0.length:Int) by omega)
 have p1:decide (0≤(l0.length:Int))=true:=decide_eq_true (by omega)
 go_enter Try.func30,Try.ntmps30
 go_wp2_with (first|((with_reducible refine bL (N:=7) rfl ?_);refine Kd.IQ kH _ 28 rfl (N:=7) rfl 26 _ _ rfl (l0.length:Int) rfl rfl Try.underlying26 (.agg #[(.int .i64 0),(.int .i64 0),(.slice none 0 0)]) 40 OA rfl (by decide) (by omega) z28 (ok:=fun q=>w.heap.size≤q) (okp:=fun _=>False) (gP _ _ _ z28 (Kd.uV _ _ _ _ _)) (fun _ hq=>hq.elim) (Nat.le_refl _) (by omega) (by have:=C2.out;omega) (Below.refl _ _) (Nat.le_refl _) ?_;intro v3 w4 hn hb hg_ hnew_;clear hg_ hnew_;simp only [Int.toNat_natCast] at hn H';have HO:=Aside0.mk hn;have HB:=Aside0.mk hb;clear hn hb)|fail)
 go_loopg [4] k (fun kq v4 w'=>∃ (x3:List S28) (x4:Int),v4= .int .i64 x4∧Aside0 (bZ.l0 kq l0 x3 x4=some r)∧Aside0 (kq≤k)∧Aside0 (Kd.S kH 28 w' w.heap.size (fun q=>w.heap.size≤q) v3 x3)∧Aside0 (Below w.heap.size w w'))
 case atStart=>exact ⟨_,0,rfl,H',⟨Nat.le_refl _⟩,HO,HB⟩
 case round=>
  clear H' p0 p1 HO HB
  obtain ⟨x3,x4,rfl,HA,j3,HO,HB⟩:=hrel
  cases gk with
  |zero=>exact absurd HA.out (by simp [bZ.l0])
  |succ k1=>
   have H:=HA.out
   clear HA
   simp only [bZ.l0] at H
   by_cases c6:x4 < (l0.length:Int)
   case neg=>
    rw [if_neg c6] at H
    have j5:decide (x4 < (l0.length:Int))=false:=decide_eq_false c6
    clear c6
    obtain rfl:=Option.some.inj H
    go_wp2
    go_ret
    exact ⟨_,rfl,HO.out,HB.out⟩
   rw [if_pos c6] at H
   by_cases c7:0≤x4
   case neg=>rw [if_neg c7] at H;exact absurd H (by simp)
   rw [if_pos c7] at H
   obtain ⟨⟨s0,s1,s2⟩,hs,H⟩:=Option.bind_eq_some_iff.mp H
   by_cases c9:x4 < (x3.length:Int)
   case neg=>rw [if_neg c9] at H;exact absurd H (by simp)
   rw [if_pos c9] at H
   dsimp only at hs H
   have HS:=Aside0.mk hs
   have H':=Aside0.mk H
   clear hs H
   obtain ⟨ad,A2,c2,e0,m0,m1,m2,l2,g2⟩:=DR j4.out x4 c7 c6
   cases e0
   replace m0:=(HB.out.cell (World.block_lt_of_cell? w _ m0)).trans m0
   replace m1:=(HB.out.cell (World.block_lt_of_cell? w _ m1)).trans m1
   replace m2:=(HB.out.cell (World.block_lt_of_cell? w _ m2)).trans m2
   obtain ⟨go,co,eo,gb,gl,hgc⟩:=Kd.yJ HO.out (by omega)
   subst eo
   have G2:=Aside0.mk (Kd.aH g2 HB.out)
   have L2:=Aside0.mk l2
   have C7:=Aside0.mk c7
   have C9:=Aside0.mk c9
   have j5:decide (x4 < (l0.length:Int))=true:=decide_eq_true c6
   have q0:=eq_true c7
   have q1:=eq_true c6
   have q2:=eq_true c9
   clear g2 l2 gb gl hgc c6 c7 c9
   go_wp2_with (first|((with_reducible refine aD (f:=8) rfl ?_);refine aM (some 20) rfl rfl Try.func8 (by kernel_rfl) rfl #[.agg #[.int .i64 (fM l0 x4).f0, .int .i64 (fM l0 x4).f1, .slice A2 (fM l0 x4).f2.length c2]] rfl (by (try simp only [List.map_toArray,List.map_cons,List.map_nil]);first|done|rfl) ?_;(with_reducible refine (ihT k1 (by have:=j3.out;omega) _ _ A2 c2 _ s0 s1 s2 _ G2.out L2.out HS.out).mono ?_);rintro e j6 ⟨jb,rfl,hn,hb⟩;refine ⟨_,rfl,?_⟩;obtain ⟨B5,d5,rfl⟩:=Kd.eP hn;have SN:=Aside0.mk (Kd.gL hn HB.out.size);have WS:=Aside0.mk HB.out.size;obtain ⟨oki,c,hcl,hM,hcc,hoki,hH⟩:=Kd.mI HO.out z28 x4 C7.out C9.out;have HH:=Aside0.mk (Kd.ES (Kd.ET hH) hb);have HCL:=Aside0.mk hcl;have j7:=Aside0.mk (aB HB.out hb);clear hn hb hcl hM hcc hoki hH HB HO)|((with_reducible refine iG (t:=28) (p:=21) rfl ?_);refine oH ?_)|fail)
   refine ⟨?_⟩
   refine Kd.lV kH (w0:=j6) w.heap.size rfl rfl 28 (.tmp 21) (.tmp 20) rfl 28 (g:=go) (o':=x4.toNat * 3) x4 0 x3 (⟨s0,s1,s2⟩:S28) _ [.int .i64 s0, .int .i64 s1, .slice B5 s2.length d5] c (fun q=>w.heap.size≤q) _ (fun q=>wr.heap.size≤q) ?ha ?ho rfl rfl ?ht ?h1 HH.out C7.out C9.out (Nat.le_refl 3) ?hM (fun q hq=> .inr ⟨Nat.le_trans WS.out hq,hq⟩) (Below.refl _ _) ?_
   (case ha=>first|rfl|(go_simp;done)|(go_simp;rfl))
   (case ho=>rfl)
   (case ht=>kernel_rfl)
   (case h1=>intro q hq;simp only [List.mem_cons,List.not_mem_nil,or_false] at hq;rcases hq with rfl|rfl|rfl <;> rfl)
   (case hM=>have hd:c.drop 3=[]:=List.drop_eq_nil_of_le (Nat.le_of_eq HCL.out);show kH.M _ _ _ _ ([] ++ _ ++ c.drop 3);rw [hd];exact gP _ _ _ (⟨s0,s1,s2⟩:S28) SN.out)
   intro jc hn hb hg_
   have j8:=Aside0.mk hn
   have j9:=Aside0.mk (j7.out.trans hb)
   clear hn hb hg_
   go_wp2
   go_roundg k1
   case measure=>have:=j3.out;omega
   case rel=>exact ⟨_,wrap64 (x4 + 1),(by first|rfl|(simp;done)|(simp [*];done)),H',⟨by have:=j3.out;omega⟩,j8,j9⟩
theorem bZ.calls_allS (k:Nat):bZ.iJ k∧dP.iJ k:=by
 induction k using Nat.strongRecOn with
 | _ k ih=>exact ⟨bZ.wN k (fun m hm=>(ih m hm).2),dP.wN k (fun m hm=>(ih m hm).1)⟩
theorem bZ.callsS (k:Nat):bZ.iJ k:=(bZ.calls_allS k).1
theorem dP.callsS (k:Nat):dP.iJ k:=(bZ.calls_allS k).2
end Go.Proofs.Ythiegfpcfedbgaa.PA

