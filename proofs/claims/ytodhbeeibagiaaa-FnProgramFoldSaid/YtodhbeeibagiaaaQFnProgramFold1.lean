/- Part 2. -/
import Derived.Test.YtodhbeeibagiaaaQFnProgramFold0
import Derived.Test.YtodhbeeibagiaaaProg
import Derived.Below
import Derived.Deep.Draws
import Derived.Deep.AppendLies
import Derived.Maps.AppendAt
import Derived.OwnWalk
import Derived.Laws.BytesArg
import Derived.Laws.MakeOwn
import Derived.Laws.OwnMore
import Derived.Deep.OwnRows
import Derived.Tactics
import Derived.Lib.ConvBytes
import Derived.Laws.Slices
import Derived.WalkKit
import Derived.KernelRfl
import Derived.RowKit3
import Derived.Deep.LoopGhost
import Derived.Deep.QuietTactic
import Derived.BigQuiet
import Derived.WideLaws
import Derived.Deep.DeepCutAuto
import Derived.Deep.CutBlock
import Derived.Deep.RegionHeld3
import Derived.Laws.Rows
import Derived.Lib.AppendStr
import Derived.ArgAppend
import Derived.Laws.IdiomCopy
import Derived.OrdersHeld
import Derived.Laws.BitsLemmas
import Derived.RowKit
import Derived.Lib.SliceRun
set_option maxHeartbeats 8000000
set_option maxRecDepth 100000
namespace Go.Proofs.Ytodhbeeibagiaaa.PA
open Go.RowKit Go.Proofs.YtodhbeeibagiaaaW.PrintWords Go.Proofs.YtodhbeeibagiaaaW.PrintLast Go.Proofs.YtodhbeeibagiaaaW.PrintMore
attribute [local go_sem] max2_int min2_int max_two min_two max_three min_three max_four min_four
set_option linter.unusedVariables false
set_option linter.unusedSimpArgs false
def aBu:Option Int→Value
 |none=> .nilIface
 |some c=> .iface 0 (.int .i64 c)
theorem nI:aBu none= .nilIface:=rfl
theorem nJ (c:Int):aBu (some c)= .iface 0 (.int .i64 c):=rfl
theorem info3:(Try.prog.info? 3).map (fun i=>(i.zero,i.size,i.bytes))=some (some (.int .i64 0),1,8):=by kernel_rfl
theorem info5:(Try.prog.info? 5).map (fun i=>(i.zero,i.size,i.bytes))=some (some (.int .u8 0),1,1):=by kernel_rfl
theorem ES:(Try.prog.info? 23).map (fun i=>(i.zero,i.size,i.bytes))=some (some (.slice none 0 0),1,24):=by kernel_rfl
theorem tQ:(Try.prog.info? 35).map (fun i=>(i.zero,i.size,i.bytes))=some (some (.agg #[(.int .i64 0),(.int .i64 0),(.int .i64 0),(.int .i64 0),(.int .i64 0),(.slice none 0 0),(.slice none 0 0),(.slice none 0 0)]),8,112):=by kernel_rfl
structure S32 where
 f0:Int
 f1:Int
 f2:(List S32)
def z32:S32:=⟨(0:Int),(0:Int),([]:List S32)⟩
def F32 (d:Kd S32):Kd S32:=Kd.iso (Kd.pair (Kd.int .i64) (Kd.pair (Kd.int .i64) (Kd.slice 32 d))) (fun x:S32=>(x.f0,x.f1,x.f2))
theorem mono32:Kd.yA F32:=Kd.mono_iso _ (Kd.mono_pair (Kd.mono_const _) (Kd.mono_pair (Kd.mono_const _) (Kd.mono_slice 32 Kd.mono_id)))
theorem aBv:Kd.Sub F32 [32]:=Kd.PN _ (Kd.uD (Kd.sub_const _ (by decide)) (Kd.uD (Kd.sub_const _ (by decide)) (Kd.CB 32 (by decide) Kd.NV)))
theorem aBx:∀ n,(Kd.upto F32 3 [32] n).sz=3:=Kd.PU (fun _=>rfl)
def k32:Kd S32:=Kd.fix F32 3 [32] aBx (Kd.NZ aBv)
theorem TB:Kd.Heap k32:=Kd.LH (fun _ h_=>Kd.LJ _ (Kd.rV (Kd.wL .i64) (Kd.rV (Kd.wL .i64) (Kd.yL 32 h_))))
theorem LK {w:World} {x:S32} {cs:List Value} (h:k32.K w x cs):∃ A2 c2,cs=[.int .i64 x.f0, .int .i64 x.f1, .slice A2 x.f2.length c2]∧x.f2.length≤c2∧k32.C w A2 x.f2.length x.f2:=by
 obtain ⟨n,h⟩:=h
 cases n with
 |zero=>exact h.elim
 |succ n=>
  obtain ⟨_,_,rfl,rfl,⟨_,_,rfl,rfl,⟨A2,c2,rfl,l2,g2⟩⟩⟩:=h
  exact ⟨A2,c2,rfl,l2,Kd.SV g2⟩
theorem TD (w:World) (x:S32) {A2:Option Addr} {c2:Nat} (l2:x.f2.length≤c2) (g2:k32.C w A2 x.f2.length x.f2):k32.K w x [.int .i64 x.f0, .int .i64 x.f1, .slice A2 x.f2.length c2]:=by
 obtain ⟨n2,q2⟩:=Kd.yK mono32 g2
 have r2:=Kd.CG mono32 aBx (show n2≤n2 by omega) q2
 exact ⟨n2 + 1,⟨[.int .i64 x.f0],[.int .i64 x.f1, .slice A2 x.f2.length c2],rfl,rfl,⟨[.int .i64 x.f1],[.slice A2 x.f2.length c2],rfl,rfl,⟨A2,c2,rfl,l2,r2⟩⟩⟩⟩
theorem uI (W:World) (ok:Nat→Prop) (x:S32) {A2:Option Addr} {c2:Nat} (l2:x.f2.length≤c2) (g2:Kd.F k32 W ok A2 x.f2.length x.f2):Kd.FK k32 W ok x [.int .i64 x.f0, .int .i64 x.f1, .slice A2 x.f2.length c2]:=fun W2 hW=>TD W2 x l2 (g2 W2 hW)
def aY (xs:List S32) (i:Int):S32:=xs.getD i.toNat z32
theorem rC {w:World} {A:Option Addr} {n:Nat} {xs:List S32} (h:Kd.C k32 w A n xs) (i:Int) (h0:0≤i) (h1:i < n):∃ ad A2 c2,A=some ad∧w.cell? (ad.add (i.toNat * 3))=some (.int .i64 (aY xs i).f0)∧w.cell? ⟨(ad.add (i.toNat * 3)).block,(ad.add (i.toNat * 3)).off + 1,none⟩=some (.int .i64 (aY xs i).f1)∧w.cell? ⟨(ad.add (i.toNat * 3)).block,(ad.add (i.toNat * 3)).off + 2,none⟩=some (.slice A2 (aY xs i).f2.length c2)∧(aY xs i).f2.length≤c2∧k32.C w A2 (aY xs i).f2.length (aY xs i).f2:=by
 obtain ⟨ad,c,e,_,hK,hc0⟩:=Kd.GH h z32 i h0 h1
 have hc:∀ j u,c[j]?=some u→w.cell? (ad.add (i.toNat * 3 + j))=some u:=hc0
 obtain ⟨A2,c2,rfl,l2,g2⟩:=LK hK
 exact ⟨ad,A2,c2,e,hc 0 _ rfl,by rw [← kM _ _ 1 (by omega)];exact hc 1 _ rfl,by rw [← kM _ _ 2 (by omega)];exact hc 2 _ rfl,l2,g2⟩
structure S35 where
 f0:Int
 f1:Int
 f2:Int
 f3:S32
 f4:(List S35)
 f5:(List S35)
def z35:S35:=⟨(0:Int),(0:Int),(0:Int),z32,([]:List S35),([]:List S35)⟩
def F35 (d:Kd S35):Kd S35:=Kd.iso (Kd.pair (Kd.int .i64) (Kd.pair (Kd.int .i64) (Kd.pair (Kd.int .i64) (Kd.pair k32 (Kd.pair (Kd.slice 35 d) (Kd.slice 35 d)))))) (fun x:S35=>(x.f0,x.f1,x.f2,x.f3,x.f4,x.f5))
theorem mono35:Kd.yA F35:=Kd.mono_iso _ (Kd.mono_pair (Kd.mono_const _) (Kd.mono_pair (Kd.mono_const _) (Kd.mono_pair (Kd.mono_const _) (Kd.mono_pair (Kd.mono_const _) (Kd.mono_pair (Kd.mono_slice 35 Kd.mono_id) (Kd.mono_slice 35 Kd.mono_id))))))
theorem aBw:Kd.Sub F35 [32,35]:=Kd.PN _ (Kd.uD (Kd.sub_const _ (by decide)) (Kd.uD (Kd.sub_const _ (by decide)) (Kd.uD (Kd.sub_const _ (by decide)) (Kd.uD (Kd.sub_const _ (by decide)) (Kd.uD (Kd.CB 35 (by decide) Kd.NV) (Kd.CB 35 (by decide) Kd.NV))))))
theorem aBk:∀ n,(Kd.upto F35 8 [32,35] n).sz=8:=Kd.PU (fun _=>rfl)
def k35:Kd S35:=Kd.fix F35 8 [32,35] aBk (Kd.NZ aBw)
theorem TH:Kd.Heap k35:=Kd.LH (fun _ h_=>Kd.LJ _ (Kd.rV (Kd.wL .i64) (Kd.rV (Kd.wL .i64) (Kd.rV (Kd.wL .i64) (Kd.rV TB (Kd.rV (Kd.yL 35 h_) (Kd.yL 35 h_)))))))
theorem wN {w:World} {x:S35} {cs:List Value} (h:k35.K w x cs):∃ A5 c5 A6 c6 A7 c7,cs=[.int .i64 x.f0, .int .i64 x.f1, .int .i64 x.f2, .int .i64 x.f3.f0, .int .i64 x.f3.f1, .slice A5 x.f3.f2.length c5, .slice A6 x.f4.length c6, .slice A7 x.f5.length c7]∧x.f3.f2.length≤c5∧k32.C w A5 x.f3.f2.length x.f3.f2∧x.f4.length≤c6∧k35.C w A6 x.f4.length x.f4∧x.f5.length≤c7∧k35.C w A7 x.f5.length x.f5:=by
 obtain ⟨n,h⟩:=h
 cases n with
 |zero=>exact h.elim
 |succ n=>
  obtain ⟨_,_,rfl,rfl,⟨_,_,rfl,rfl,⟨_,_,rfl,rfl,⟨_,_,rfl,s3,⟨_,_,rfl,⟨A6,c6,rfl,l6,g6⟩,⟨A7,c7,rfl,l7,g7⟩⟩⟩⟩⟩⟩:=h
  obtain ⟨A5,c5,rfl,l5,g5⟩:=LK s3
  exact ⟨A5,c5,A6,c6,A7,c7,rfl,l5,g5,l6,Kd.SV g6,l7,Kd.SV g7⟩
theorem aBf (w:World) (x:S35) {A5:Option Addr} {c5:Nat} (l5:x.f3.f2.length≤c5) (g5:k32.C w A5 x.f3.f2.length x.f3.f2) {A6:Option Addr} {c6:Nat} (l6:x.f4.length≤c6) (g6:k35.C w A6 x.f4.length x.f4) {A7:Option Addr} {c7:Nat} (l7:x.f5.length≤c7) (g7:k35.C w A7 x.f5.length x.f5):k35.K w x [.int .i64 x.f0, .int .i64 x.f1, .int .i64 x.f2, .int .i64 x.f3.f0, .int .i64 x.f3.f1, .slice A5 x.f3.f2.length c5, .slice A6 x.f4.length c6, .slice A7 x.f5.length c7]:=by
 obtain ⟨n6,q6⟩:=Kd.yK mono35 g6
 obtain ⟨n7,q7⟩:=Kd.yK mono35 g7
 have r6:=Kd.CG mono35 aBk (show n6≤(max n6 n7) by omega) q6
 have r7:=Kd.CG mono35 aBk (show n7≤(max n6 n7) by omega) q7
 exact ⟨(max n6 n7) + 1,⟨[.int .i64 x.f0],[.int .i64 x.f1, .int .i64 x.f2, .int .i64 x.f3.f0, .int .i64 x.f3.f1, .slice A5 x.f3.f2.length c5, .slice A6 x.f4.length c6, .slice A7 x.f5.length c7],rfl,rfl,⟨[.int .i64 x.f1],[.int .i64 x.f2, .int .i64 x.f3.f0, .int .i64 x.f3.f1, .slice A5 x.f3.f2.length c5, .slice A6 x.f4.length c6, .slice A7 x.f5.length c7],rfl,rfl,⟨[.int .i64 x.f2],[.int .i64 x.f3.f0, .int .i64 x.f3.f1, .slice A5 x.f3.f2.length c5, .slice A6 x.f4.length c6, .slice A7 x.f5.length c7],rfl,rfl,⟨[.int .i64 x.f3.f0, .int .i64 x.f3.f1, .slice A5 x.f3.f2.length c5],[.slice A6 x.f4.length c6, .slice A7 x.f5.length c7],rfl,(TD w x.f3 l5 g5),⟨[.slice A6 x.f4.length c6],[.slice A7 x.f5.length c7],rfl,⟨A6,c6,rfl,l6,r6⟩,⟨A7,c7,rfl,l7,r7⟩⟩⟩⟩⟩⟩⟩
theorem RF {W:World} {ok:Nat→Prop} {x:S35} {cs:List Value} (h:Kd.FK k35 W ok x cs):∃ A5 c5 A6 c6 A7 c7,cs=[.int .i64 x.f0, .int .i64 x.f1, .int .i64 x.f2, .int .i64 x.f3.f0, .int .i64 x.f3.f1, .slice A5 x.f3.f2.length c5, .slice A6 x.f4.length c6, .slice A7 x.f5.length c7]∧x.f3.f2.length≤c5∧Kd.F k32 W ok A5 x.f3.f2.length x.f3.f2∧x.f4.length≤c6∧Kd.F k35 W ok A6 x.f4.length x.f4∧x.f5.length≤c7∧Kd.F k35 W ok A7 x.f5.length x.f5:=by
 obtain ⟨A5,c5,A6,c6,A7,c7,rfl,l5,_,l6,_,l7,_⟩:=wN (Kd.oM h)
 exact ⟨A5,c5,A6,c6,A7,c7,rfl,l5,(fun W' hW=>by obtain ⟨j3,j4,j5,j6,j7,j8,he,j9,g5_,ja,g6_,jb,g7_⟩:=wN (h W' hW);injection (Option.some.inj (show some (Value.slice A5 x.f3.f2.length c5)=some (Value.slice j3 x.f3.f2.length j4) from congrArg (fun l=>l[5]?) he)) with ha_ _ _;rw [ha_];exact g5_),l6,(fun W' hW=>by obtain ⟨j3,j4,j5,j6,j7,j8,he,j9,g5_,ja,g6_,jb,g7_⟩:=wN (h W' hW);injection (Option.some.inj (show some (Value.slice A6 x.f4.length c6)=some (Value.slice j5 x.f4.length j6) from congrArg (fun l=>l[6]?) he)) with ha_ _ _;rw [ha_];exact g6_),l7,(fun W' hW=>by obtain ⟨j3,j4,j5,j6,j7,j8,he,j9,g5_,ja,g6_,jb,g7_⟩:=wN (h W' hW);injection (Option.some.inj (show some (Value.slice A7 x.f5.length c7)=some (Value.slice j7 x.f5.length j8) from congrArg (fun l=>l[7]?) he)) with ha_ _ _;rw [ha_];exact g7_)⟩
theorem kY (W:World) (ok:Nat→Prop) (x:S35) {A5:Option Addr} {c5:Nat} (l5:x.f3.f2.length≤c5) (g5:Kd.F k32 W ok A5 x.f3.f2.length x.f3.f2) {A6:Option Addr} {c6:Nat} (l6:x.f4.length≤c6) (g6:Kd.F k35 W ok A6 x.f4.length x.f4) {A7:Option Addr} {c7:Nat} (l7:x.f5.length≤c7) (g7:Kd.F k35 W ok A7 x.f5.length x.f5):Kd.FK k35 W ok x [.int .i64 x.f0, .int .i64 x.f1, .int .i64 x.f2, .int .i64 x.f3.f0, .int .i64 x.f3.f1, .slice A5 x.f3.f2.length c5, .slice A6 x.f4.length c6, .slice A7 x.f5.length c7]:=fun W2 hW=>aBf W2 x l5 (g5 W2 hW) l6 (g6 W2 hW) l7 (g7 W2 hW)
def aA (xs:List S35) (i:Int):S35:=xs.getD i.toNat z35
theorem uU {w:World} {A:Option Addr} {n:Nat} {xs:List S35} (h:Kd.C k35 w A n xs) (i:Int) (h0:0≤i) (h1:i < n):∃ ad A5 c5 A6 c6 A7 c7,A=some ad∧w.cell? (ad.add (i.toNat * 8))=some (.int .i64 (aA xs i).f0)∧w.cell? ⟨(ad.add (i.toNat * 8)).block,(ad.add (i.toNat * 8)).off + 1,none⟩=some (.int .i64 (aA xs i).f1)∧w.cell? ⟨(ad.add (i.toNat * 8)).block,(ad.add (i.toNat * 8)).off + 2,none⟩=some (.int .i64 (aA xs i).f2)∧w.cell? ⟨(ad.add (i.toNat * 8)).block,(ad.add (i.toNat * 8)).off + 3,none⟩=some (.int .i64 (aA xs i).f3.f0)∧w.cell? ⟨(ad.add (i.toNat * 8)).block,(ad.add (i.toNat * 8)).off + 4,none⟩=some (.int .i64 (aA xs i).f3.f1)∧w.cell? ⟨(ad.add (i.toNat * 8)).block,(ad.add (i.toNat * 8)).off + 5,none⟩=some (.slice A5 (aA xs i).f3.f2.length c5)∧w.cell? ⟨(ad.add (i.toNat * 8)).block,(ad.add (i.toNat * 8)).off + 6,none⟩=some (.slice A6 (aA xs i).f4.length c6)∧w.cell? ⟨(ad.add (i.toNat * 8)).block,(ad.add (i.toNat * 8)).off + 7,none⟩=some (.slice A7 (aA xs i).f5.length c7)∧(aA xs i).f3.f2.length≤c5∧k32.C w A5 (aA xs i).f3.f2.length (aA xs i).f3.f2∧(aA xs i).f4.length≤c6∧k35.C w A6 (aA xs i).f4.length (aA xs i).f4∧(aA xs i).f5.length≤c7∧k35.C w A7 (aA xs i).f5.length (aA xs i).f5:=by
 obtain ⟨ad,c,e,_,hK,hc0⟩:=Kd.GH h z35 i h0 h1
 have hc:∀ j u,c[j]?=some u→w.cell? (ad.add (i.toNat * 8 + j))=some u:=hc0
 obtain ⟨A5,c5,A6,c6,A7,c7,rfl,l5,g5,l6,g6,l7,g7⟩:=wN hK
 exact ⟨ad,A5,c5,A6,c6,A7,c7,e,hc 0 _ rfl,by rw [← kM _ _ 1 (by omega)];exact hc 1 _ rfl,by rw [← kM _ _ 2 (by omega)];exact hc 2 _ rfl,by rw [← kM _ _ 3 (by omega)];exact hc 3 _ rfl,by rw [← kM _ _ 4 (by omega)];exact hc 4 _ rfl,by rw [← kM _ _ 5 (by omega)];exact hc 5 _ rfl,by rw [← kM _ _ 6 (by omega)];exact hc 6 _ rfl,by rw [← kM _ _ 7 (by omega)];exact hc 7 _ rfl,l5,g5,l6,g6,l7,g7⟩
def fB (xs:List (List S35)) (i:Int):(List S35):=xs.getD i.toNat ([]:List S35)
theorem nY {w:World} {A:Option Addr} {n:Nat} {xs:List (List S35)} (h:Kd.C (Kd.slice 35 k35) w A n xs) (i:Int) (h0:0≤i) (h1:i < n):∃ ad A0 c0,A=some ad∧w.cell? (ad.add i.toNat)=some (.slice A0 (fB xs i).length c0)∧(fB xs i).length≤c0∧k35.C w A0 (fB xs i).length (fB xs i):=by
 obtain ⟨ad,c,e,_,hK,hc0⟩:=Kd.GH h ([]:List S35) i h0 h1
 have hc:∀ j u,c[j]?=some u→w.cell? (ad.add (i.toNat * 1 + j))=some u:=hc0
 obtain ⟨A0,c0,rfl,l0,g0⟩:=hK
 exact ⟨ad,A0,c0,e,by have hq:=hc 0 _ rfl;rwa [Nat.mul_one,Nat.add_zero] at hq,l0,g0⟩
theorem mO {p:Prop} (h:p:=by (try simp only [List.map_toArray,List.map_cons,List.map_nil]);first|done|rfl|(simp only [List.length_drop,List.length_take];rfl)):p:=h
theorem fU {p:Prop} (h:p:=by repeat (first|(with_reducible first|exact HB.out|apply bS|apply bA|apply bG)|exact HB.out)):p:=h
theorem fI {p:Prop} (h:p:=by repeat (first|(with_reducible first|exact HK.out|apply aI.xJ|apply iY|apply gY|apply kL)|exact HK.out)):p:=h
theorem gG {p:Prop} (h:p:=by repeat (first|(with_reducible first|exact HI0.out|apply aQ.alloc|apply aQ.drewN|apply aQ.drew|apply aQ.sN)|exact HI0.out)):p:=h
theorem iU {p:Prop} (h:p:=by repeat (first|(with_reducible first|exact HB.out|apply bS|apply bA|apply bG|refine below_set ?_ (aQ.ge HI0.out))|exact HB.out)):p:=h
theorem kX {p:Prop} (h:p:=by repeat (first|(with_reducible first|exact HB.out|apply bS|apply bA|apply bG|refine below_set ?_ GE99.out)|exact HB.out)):p:=h
theorem nL {p:Prop} (h:p:=by repeat (first|(with_reducible first|exact HK.out|apply aI.xJ|apply iY|apply gY|apply kL|refine iB ?_ GW868.out _|refine iB ?_ GW876.out _)|exact HK.out)):p:=h
theorem rA {p:Prop} (h:p:=by repeat (first|(with_reducible first|exact HB.out|apply bS|apply bA|apply bG|refine below_set ?_ GE99.out|refine below_set ?_ GE100.out|refine below_set ?_ GE111.out|refine below_set ?_ GE112.out)|exact HB.out)):p:=h
theorem lM {p:Prop} (h:p:=by repeat (first|(with_reducible first|exact HK.out|apply aI.xJ|apply iY|apply gY|apply kL|refine iB ?_ GW829.out _|refine iB ?_ GW837.out _)|exact HK.out)):p:=h
theorem lW {p:Prop} (h:p:=by repeat (first|(with_reducible first|exact HI0.out|apply aQ.alloc|apply aQ.drewN|apply aQ.drew|apply aQ.sN|refine aQ.far ?_ NB0_868.out _|refine aQ.far ?_ NB0_876.out _)|exact HI0.out)):p:=h
theorem mI {p:Prop} (h:p:=by repeat (first|(with_reducible first|exact HB.out|apply bS|apply bA|apply bG|refine below_set ?_ GE113.out|refine below_set ?_ GE118.out|refine below_set ?_ GE123.out)|exact HB.out)):p:=h
theorem kR {p:Prop} (h:p:=by repeat (first|(with_reducible first|exact HB.out|apply bS|apply bA|apply bG|refine below_set ?_ GE65.out)|exact HB.out)):p:=h
theorem mX {p:Prop} (h:p:=by repeat (first|(with_reducible first|exact HI0.out|apply aQ.alloc|apply aQ.drewN|apply aQ.drew|apply aQ.sN|refine aQ.far ?_ NB0_829.out _|refine aQ.far ?_ NB0_837.out _)|exact HI0.out)):p:=h
theorem iI {p:Prop} (h:p:=by first|rfl|(simp [nI,nJ] <;> rfl)|(simp [*,nI,nJ] <;> rfl)):p:=h
theorem mR {p:Prop} (h:p:=by repeat (first|(with_reducible first|exact HB.out|apply bS|apply bA|apply bG|refine below_set ?_ GE99.out|refine below_set ?_ GE100.out)|exact HB.out)):p:=h
theorem rO {p:Prop} (h:p:=by repeat (first|(with_reducible first|exact HB.out|apply bS|apply bA|apply bG|refine below_set ?_ GE94.out|refine below_set ?_ GE95.out|refine below_set ?_ GE108.out|refine below_set ?_ GE113.out)|exact HB.out)):p:=h
theorem mJ {p:Prop} (h:p:=by repeat (first|(with_reducible first|exact HB.out|apply bS|apply bA|apply bG|refine below_set ?_ GE43.out)|exact HB.out)):p:=h
theorem mK {p:Prop} (h:p:=by repeat (first|(with_reducible first|exact HB.out|apply bS|apply bA|apply bG|refine below_set ?_ GE57.out)|exact HB.out)):p:=h
theorem oW {p:Prop} (h:p:=by repeat (first|(with_reducible first|exact HB.out|apply bS|apply bA|apply bG|refine below_set ?_ GE99.out|refine below_set ?_ GE100.out|refine below_set ?_ GE111.out)|exact HB.out)):p:=h
theorem oZ {p:Prop} (h:p:=by repeat (first|(with_reducible first|exact HB.out|apply bS|apply bA|apply bG|refine below_set ?_ GE99.out|refine below_set ?_ GE100.out|refine below_set ?_ GE112.out)|exact HB.out)):p:=h
theorem pX {p:Prop} (h:p:=by repeat (first|(with_reducible first|exact HB.out|apply bS|apply bA|apply bG|refine below_set ?_ (aQ.ge HI0.out)|refine below_set ?_ GE868.out|refine below_set ?_ GE876.out)|exact HB.out)):p:=h
theorem gM {p:Prop} (h:p:=by repeat (first|exact iX.refl _|apply iX.step)):p:=h
theorem tJ {p:Prop} (h:p:=by repeat (first|(with_reducible first|exact HB.out|apply bS|apply bA|apply bG|refine below_set ?_ (aQ.ge HI67.out)|refine below_set ?_ GE66.out|refine below_set ?_ GE72.out)|exact HB.out)):p:=h
theorem oD {p:Prop} (h:p:=by repeat (first|(with_reducible first|exact HB.out|apply bS|apply bA|apply bG|refine below_set ?_ GE22.out)|exact HB.out)):p:=h
theorem pY {p:Prop} (h:p:=by repeat (first|(with_reducible first|exact HK.out|apply aI.xJ|apply iY|apply gY|apply kL|refine iB ?_ GW39.out _)|exact HK.out)):p:=h
theorem pE {p:Prop} (h:p:=by repeat (first|(with_reducible first|exact HB.out|apply bS|apply bA|apply bG|refine below_set ?_ GE23.out)|exact HB.out)):p:=h
theorem vQ {p:Prop} (h:p:=by repeat (first|(with_reducible first|exact HB.out|apply bS|apply bA|apply bG|refine below_set ?_ (aQ.ge HI67.out)|refine below_set ?_ GE66.out|refine below_set ?_ GE72.out|refine below_set ?_ GE117.out)|exact HB.out)):p:=h
theorem uE {p:Prop} (h:p:=by repeat (first|(with_reducible first|exact HI67.out|apply aQ.alloc|apply aQ.drewN|apply aQ.drew|apply aQ.sN|refine aQ.far ?_ NB67_66.out _|refine aQ.far ?_ NB67_72.out _)|exact HI67.out)):p:=h
theorem vR {p:Prop} (h:p:=by repeat (first|(with_reducible first|exact HI67.out|apply aQ.alloc|apply aQ.drewN|apply aQ.drew|apply aQ.sN|refine aQ.far ?_ NB67_66.out _|refine aQ.far ?_ NB67_72.out _|refine aQ.far ?_ NB67_117.out _)|exact HI67.out)):p:=h
theorem sV {p:Prop} (h:p:=by repeat (first|(with_reducible first|exact HB.out|apply bS|apply bA|apply bG|refine below_set ?_ GE55.out|refine below_set ?_ GE57.out)|exact HB.out)):p:=h
theorem tK {p:Prop} (h:p:=by repeat (first|(with_reducible first|exact HB.out|apply bS|apply bA|apply bG|refine below_set ?_ GE49.out|refine below_set ?_ GE50.out)|exact HB.out)):p:=h
theorem tL {p:Prop} (h:p:=by repeat (first|(with_reducible first|exact HI0.out|apply aQ.alloc|apply aQ.drewN|apply aQ.drew|apply aQ.sN|refine aQ.far ?_ NB0_39.out _)|exact HI0.out)):p:=h
theorem tN {p:Prop} (h:p:=by repeat (first|(with_reducible first|exact HK.out|apply aI.xJ|apply iY|apply gY|apply kL|refine iB ?_ GW48.out _)|exact HK.out)):p:=h
theorem wG {p:Prop} (h:p:=by repeat (first|(with_reducible first|exact HB.out|apply bS|apply bA|apply bG|refine below_set ?_ (aQ.ge HI0.out)|refine below_set ?_ GE829.out|refine below_set ?_ GE837.out)|exact HB.out)):p:=h
theorem uF {p:Prop} (h:p:=by repeat (first|(with_reducible first|exact HK.out|apply aI.xJ|apply iY|apply gY|apply kL|refine iB ?_ GW35.out _)|exact HK.out)):p:=h
theorem wH {p:Prop} (h:p:=by repeat (first|(with_reducible first|exact HB.out|apply bS|apply bA|apply bG|refine below_set ?_ (aQ.ge HI0.out)|refine below_set ?_ GE39.out)|exact HB.out)):p:=h
theorem wI {p:Prop} (h:p:=by repeat (first|(with_reducible first|exact HB.out|apply bS|apply bA|apply bG|refine below_set ?_ (aQ.ge HI0.out)|refine below_set ?_ GE48.out)|exact HB.out)):p:=h
theorem vS {p:Prop} (h:p:=by repeat (first|(with_reducible first|exact HI0.out|apply aQ.alloc|apply aQ.drewN|apply aQ.drew|apply aQ.sN|refine aQ.far ?_ NB0_48.out _)|exact HI0.out)):p:=h
theorem vU {p:Prop} (h:p:=by repeat (first|(with_reducible first|exact HI0.out|apply aQ.alloc|apply aQ.drewN|apply aQ.drew|apply aQ.sN|refine aQ.far ?_ NB0_35.out _)|exact HI0.out)):p:=h
theorem yY {p:Prop} (h:p:=by repeat (first|(with_reducible first|exact HB.out|apply bS|apply bA|apply bG|refine below_set ?_ GE38.out|refine below_set ?_ GE41.out|refine below_set ?_ GE45.out)|exact HB.out)):p:=h
theorem yZ {p:Prop} (h:p:=by repeat (first|(with_reducible first|exact HB.out|apply bS|apply bA|apply bG|refine below_set ?_ GE49.out|refine below_set ?_ GE50.out|refine below_set ?_ GE61.out)|exact HB.out)):p:=h
theorem vV {p:Prop} (h:p:=by repeat (first|(with_reducible first|exact HB.out|apply bS|apply bA|apply bG|refine below_set ?_ GE29.out)|exact HB.out)):p:=h
theorem xO {p:Prop} (h:p:=by repeat (first|(with_reducible first|exact HB.out|apply bS|apply bA|apply bG|refine below_set ?_ GE94.out|refine below_set ?_ GE95.out)|exact HB.out)):p:=h
theorem xP {p:Prop} (h:p:=by repeat (first|(with_reducible first|exact HB.out|apply bS|apply bA|apply bG|refine below_set ?_ GE33.out|refine below_set ?_ GE46.out)|exact HB.out)):p:=h
theorem AA {p:Prop} (h:p:=by repeat (first|(with_reducible first|exact HK.out|apply aI.xJ|apply iY|apply gY|apply kL|refine iB ?_ GW54.out _|refine iB ?_ GW57.out _)|exact HK.out)):p:=h
theorem wJ {p:Prop} (h:p:=by repeat (first|(with_reducible first|exact HB.out|apply bS|apply bA|apply bG|refine below_set ?_ GE21.out)|exact HB.out)):p:=h
theorem AB {p:Prop} (h:p:=by repeat (first|(with_reducible first|exact HB.out|apply bS|apply bA|apply bG|refine below_set ?_ GE38.out|refine below_set ?_ GE41.out)|exact HB.out)):p:=h
theorem AJ {p:Prop} (h:p:=by repeat (first|(with_reducible first|exact HB.out|apply bS|apply bA|apply bG|refine below_set ?_ GE41.out|refine below_set ?_ GE42.out)|exact HB.out)):p:=h
theorem CQ {p:Prop} (h:p:=by repeat (first|(with_reducible first|exact HK.out|apply aI.xJ|apply iY|apply gY|apply kL|refine iB ?_ GW35.out _|refine iB ?_ GW66.out _)|exact HK.out)):p:=h
theorem CS {p:Prop} (h:p:=by repeat (first|(with_reducible first|exact HB.out|apply bS|apply bA|apply bG|refine below_set ?_ (aQ.ge HI67.out)|refine below_set ?_ GE66.out)|exact HB.out)):p:=h
theorem CU {p:Prop} (h:p:=by repeat (first|(with_reducible first|exact HB.out|apply bS|apply bA|apply bG|refine below_set ?_ (aQ.ge HI0.out)|refine below_set ?_ GE35.out)|exact HB.out)):p:=h
theorem AO {p:Prop} (h:p:=by repeat (first|(with_reducible first|exact HK.out|apply aI.xJ|apply iY|apply gY|apply kL|refine iB ?_ GW829.out _)|exact HK.out)):p:=h
theorem EH {p:Prop} (h:p:=by repeat (first|(with_reducible first|exact HB.out|apply bS|apply bA|apply bG|refine below_set ?_ GE94.out|refine below_set ?_ GE95.out|refine below_set ?_ GE108.out)|exact HB.out)):p:=h
theorem CV {p:Prop} (h:p:=by repeat (first|(with_reducible exact HR139_0.out)|(with_reducible refine Kd.nU ?_ _)|(with_reducible refine Kd.nA ?_ _)|(with_reducible refine Kd.oL ?_)|exact HR139_0.out)):p:=h
theorem EI {p:Prop} (h:p:=by repeat (first|(with_reducible first|exact HI0.out|apply aQ.alloc|apply aQ.drewN|apply aQ.drew|apply aQ.sN|refine aQ.far ?_ NB0_54.out _|refine aQ.far ?_ NB0_57.out _)|exact HI0.out)):p:=h
theorem CW {p:Prop} (h:p:=by repeat (first|(with_reducible first|exact HK.out|apply aI.xJ|apply iY|apply gY|apply kL|refine iB ?_ GW868.out _)|exact HK.out)):p:=h
theorem CX {p:Prop} (h:p:=by repeat (first|(with_reducible first|exact HK.out|apply aI.xJ|apply iY|apply gY|apply kL|refine iB ?_ GW28.out _)|exact HK.out)):p:=h
theorem GJ {p:Prop} (h:p:=by repeat (first|(with_reducible first|exact HI0.out|apply aQ.alloc|apply aQ.drewN|apply aQ.drew|apply aQ.sN|refine aQ.far ?_ NB0_35.out _|refine aQ.far ?_ NB0_66.out _)|exact HI0.out)):p:=h
theorem EJ {p:Prop} (h:p:=by repeat (first|(with_reducible first|exact HK.out|apply aI.xJ|apply iY|apply gY|apply kL|refine iB ?_ GW54.out _)|exact HK.out)):p:=h
theorem GK {p:Prop} (h:p:=by repeat (first|(with_reducible first|exact HB.out|apply bS|apply bA|apply bG|refine below_set ?_ GE113.out|refine below_set ?_ GE118.out)|exact HB.out)):p:=h
theorem KX {p:Prop} (h:p:=by repeat (first|(with_reducible first|exact HB.out|apply bS|apply bA|apply bG|refine below_set ?_ (aQ.ge HI0.out)|refine below_set ?_ GE54.out|refine below_set ?_ GE57.out)|exact HB.out)):p:=h
theorem GN {p:Prop} (h:p:=by repeat (first|(with_reducible first|exact HI0.out|apply aQ.alloc|apply aQ.drewN|apply aQ.drew|apply aQ.sN|refine aQ.far ?_ NB0_829.out _)|exact HI0.out)):p:=h
theorem GQ {p:Prop} (h:p:=by repeat (first|(with_reducible first|exact HI0.out|apply aQ.alloc|apply aQ.drewN|apply aQ.drew|apply aQ.sN|refine aQ.far ?_ NB0_54.out _)|exact HI0.out)):p:=h
theorem GR {p:Prop} (h:p:=by repeat (first|(with_reducible first|exact HI0.out|apply aQ.alloc|apply aQ.drewN|apply aQ.drew|apply aQ.sN|refine aQ.far ?_ NB0_28.out _)|exact HI0.out)):p:=h
theorem GU {p:Prop} (h:p:=by repeat (first|(with_reducible first|exact HK.out|apply aI.xJ|apply iY|apply gY|apply kL|refine iB ?_ GW29.out _)|exact HK.out)):p:=h
theorem GV {p:Prop} (h:p:=by repeat (first|(with_reducible first|exact HB.out|apply bS|apply bA|apply bG|refine below_set ?_ GE113.out)|exact HB.out)):p:=h
theorem GX {p:Prop} (h:p:=by repeat (first|(with_reducible first|exact HB.out|apply bS|apply bA|apply bG|refine below_set ?_ GE94.out)|exact HB.out)):p:=h
theorem KY {p:Prop} (h:p:=by repeat (first|(with_reducible first|exact HI67.out|apply aQ.alloc|apply aQ.drewN|apply aQ.drew|apply aQ.sN|refine aQ.far ?_ NB67_66.out _)|exact HI67.out)):p:=h
theorem OW {p:Prop} (h:p:=by repeat (first|(with_reducible first|exact HB.out|apply bS|apply bA|apply bG|refine below_set ?_ (aQ.ge HI0.out)|refine below_set ?_ GE35.out|refine below_set ?_ GE66.out)|exact HB.out)):p:=h
theorem KZ {p:Prop} (h:p:=by repeat (first|(with_reducible first|exact HI0.out|apply aQ.alloc|apply aQ.drewN|apply aQ.drew|apply aQ.sN|refine aQ.far ?_ NB0_868.out _)|exact HI0.out)):p:=h
theorem LA {p:Prop} (h:p:=by repeat (first|(with_reducible first|exact HI0.out|apply aQ.alloc|apply aQ.drewN|apply aQ.drew|apply aQ.sN|refine aQ.far ?_ NB0_29.out _)|exact HI0.out)):p:=h
theorem OX {p:Prop} (h:p:=by repeat (first|(with_reducible first|exact HB.out|apply bS|apply bA|apply bG|refine below_set ?_ GE21.out|refine below_set ?_ GE22.out|refine below_set ?_ GE23.out)|exact HB.out)):p:=h
theorem OY {p:Prop} (h:p:=by repeat (first|(with_reducible first|exact HB.out|apply bS|apply bA|apply bG|refine below_set ?_ (aQ.ge HI0.out)|refine below_set ?_ GE28.out)|exact HB.out)):p:=h
theorem OZ {p:Prop} (h:p:=by repeat (first|(with_reducible first|exact HB.out|apply bS|apply bA|apply bG|refine below_set ?_ (aQ.ge HI0.out)|refine below_set ?_ GE29.out)|exact HB.out)):p:=h
theorem PD {p:Prop} (h:p:=by repeat (first|(with_reducible exact HR142_0.out)|(with_reducible refine Kd.nU ?_ _)|(with_reducible refine Kd.nA ?_ _)|(with_reducible refine Kd.oL ?_)|exact HR142_0.out)):p:=h
theorem MQ {p:Prop} (h:p:=by repeat (first|(with_reducible first|exact HB.out|apply bS|apply bA|apply bG|refine below_set ?_ GE99.out|refine below_set ?_ GE100.out|refine below_set ?_ GE112.out|refine below_set ?_ GE111.out)|exact HB.out)):p:=h
theorem MR {p:Prop} (h:p:=by repeat (first|(with_reducible first|exact HB.out|apply bS|apply bA|apply bG|refine below_set ?_ GE20.out)|exact HB.out)):p:=h
theorem KF {p:Prop} (h:p:=by repeat (first|(with_reducible first|exact HB.out|apply bS|apply bA|apply bG|refine below_set ?_ GE26.out)|exact HB.out)):p:=h
theorem MS {p:Prop} (h:p:=by repeat (first|(with_reducible first|exact HB.out|apply bS|apply bA|apply bG|refine below_set ?_ (aQ.ge HI0.out)|refine below_set ?_ GE829.out)|exact HB.out)):p:=h
theorem MU {p:Prop} (h:p:=by repeat (first|(with_reducible first|exact HB.out|apply bS|apply bA|apply bG|refine below_set ?_ (aQ.ge HI0.out)|refine below_set ?_ GE54.out)|exact HB.out)):p:=h
theorem MV {p:Prop} (h:p:=by repeat (first|(with_reducible first|exact HB.out|apply bS|apply bA|apply bG|refine below_set ?_ GE21.out|refine below_set ?_ GE22.out)|exact HB.out)):p:=h
theorem KG {p:Prop} (h:p:=by repeat (first|(with_reducible first|exact HBW.out|apply bS|apply bA|apply bG)|exact HBW.out)):p:=h
theorem MW {p:Prop} (h:p:=by repeat (first|(with_reducible first|exact HB.out|apply bS|apply bA|apply bG|refine below_set ?_ GE33.out)|exact HB.out)):p:=h
theorem MX {p:Prop} (h:p:=by repeat (first|(with_reducible first|exact HB.out|apply bS|apply bA|apply bG|refine below_set ?_ GE55.out)|exact HB.out)):p:=h
theorem MZ {p:Prop} (h:p:=by repeat (first|(with_reducible first|exact HB.out|apply bS|apply bA|apply bG|refine below_set ?_ GE38.out)|exact HB.out)):p:=h
theorem NA {p:Prop} (h:p:=by repeat (first|(with_reducible first|exact HB.out|apply bS|apply bA|apply bG|refine below_set ?_ GE49.out)|exact HB.out)):p:=h
theorem NC {p:Prop} (h:p:=by repeat (first|(with_reducible first|exact HB.out|apply bS|apply bA|apply bG|refine below_set ?_ GE41.out)|exact HB.out)):p:=h
theorem SC {p:Prop} (h:p:=by repeat (first|(with_reducible first|exact HB.out|apply bS|apply bA|apply bG|refine below_set ?_ (aQ.ge HI0.out)|refine below_set ?_ GE868.out)|exact HB.out)):p:=h
theorem SE {p:Prop} (h:p:=by repeat (first|(with_reducible first|exact HK.out|apply iY|apply gY)|exact HK.out)):p:=h
theorem aN_ {p q:Prop} (x:q) (h:q→p:=by intro hx_;(with_reducible repeat (first|apply Kd.OI|apply Kd.OJ|apply Kd.kV));exact hx_):p:=h x
theorem aR_ {p q:Prop} (x:q) (h:q→p:=by intro hx_;(with_reducible repeat (first|apply Kd.OP|apply Kd.OQ|apply Kd.nK));exact hx_):p:=h x
theorem aG_ {p q:Prop} (x:q) (h:q→p:=by intro hx_;(with_reducible repeat (first|refine dI ?_ _|refine bK ?_|refine bY ?_ _));exact hx_):p:=h x
theorem rr_ {p:Prop} (h:p:=by first|rfl|(simp [nI,nJ] <;> rfl)|(simp [*,nI,nJ] <;> rfl)):p:=h
theorem bsm {α β:Type} {o:Option α} {f:α→Option β} {b:β} (h:o.bind f=some b):∃ a,o=some a∧f a=some b:=Option.bind_eq_some_iff.mp h
theorem am {p:Prop} (h:p):Aside0 p:=⟨h⟩
theorem mM {w:World} {g:Nat} {t:TypeId} {x0:Value} (h:w.heap[g]?=some (.cells #[x0] t (0,0))):w.cell? ⟨g,0,none⟩=some x0∧w.frozen? ⟨g,0,none⟩=false:=⟨(aC h 0).trans rfl,aU h 0⟩
theorem gD {w:World} {g:Nat} {t:TypeId} {x0 x1:Value} (h:w.heap[g]?=some (.cells #[x0,x1] t (0,0))):w.cell? ⟨g,0,none⟩=some x0∧w.cell? ⟨g,1,none⟩=some x1∧w.frozen? ⟨g,0,none⟩=false∧w.frozen? ⟨g,1,none⟩=false:=⟨(aC h 0).trans rfl,(aC h 1).trans rfl,aU h 0,aU h 1⟩
theorem gF {w:World} {g:Nat} {t:TypeId} {x0 x1 x2:Value} (h:w.heap[g]?=some (.cells #[x0,x1,x2] t (0,0))):w.cell? ⟨g,0,none⟩=some x0∧w.cell? ⟨g,1,none⟩=some x1∧w.cell? ⟨g,2,none⟩=some x2∧w.frozen? ⟨g,0,none⟩=false∧w.frozen? ⟨g,1,none⟩=false∧w.frozen? ⟨g,2,none⟩=false:=⟨(aC h 0).trans rfl,(aC h 1).trans rfl,(aC h 2).trans rfl,aU h 0,aU h 1,aU h 2⟩
theorem eU {w:World} {g:Nat} {t:TypeId} {x0 x1 x2 x3 x4 x5 x6 x7:Value} (h:w.heap[g]?=some (.cells #[x0,x1,x2,x3,x4,x5,x6,x7] t (0,0))):w.cell? ⟨g,0,none⟩=some x0∧w.cell? ⟨g,1,none⟩=some x1∧w.cell? ⟨g,2,none⟩=some x2∧w.cell? ⟨g,3,none⟩=some x3∧w.cell? ⟨g,4,none⟩=some x4∧w.cell? ⟨g,5,none⟩=some x5∧w.cell? ⟨g,6,none⟩=some x6∧w.cell? ⟨g,7,none⟩=some x7∧w.frozen? ⟨g,0,none⟩=false∧w.frozen? ⟨g,1,none⟩=false∧w.frozen? ⟨g,2,none⟩=false∧w.frozen? ⟨g,3,none⟩=false∧w.frozen? ⟨g,4,none⟩=false∧w.frozen? ⟨g,5,none⟩=false∧w.frozen? ⟨g,6,none⟩=false∧w.frozen? ⟨g,7,none⟩=false:=⟨(aC h 0).trans rfl,(aC h 1).trans rfl,(aC h 2).trans rfl,(aC h 3).trans rfl,(aC h 4).trans rfl,(aC h 5).trans rfl,(aC h 6).trans rfl,(aC h 7).trans rfl,aU h 0,aU h 1,aU h 2,aU h 3,aU h 4,aU h 5,aU h 6,aU h 7⟩
theorem dA {W0 W W1:World} {g:Nat} {o:Obj} (x:W0.heap[g]?=some o) (hb:Below W.heap.size W W1) (h:W0.heap[g]?=some o→W.heap[g]?=some o:=by intro hx_;(with_reducible repeat (first|refine dI ?_ _|refine bK ?_|refine bY ?_ _));exact hx_):W1.heap[g]?=some o:=dR (h x) hb
theorem bbP {W0 W W1:World} {g:Nat} {o:Obj} (x:Aside0 (W0.heap[g]?=some o)) (hb:Below W.heap.size W W1) (h:W0.heap[g]?=some o→W.heap[g]?=some o:=by intro hx_;(with_reducible repeat (first|refine dI ?_ _|refine bK ?_|refine bY ?_ _));exact hx_):Aside0 (W1.heap[g]?=some o):=⟨dR (h x.out) hb⟩
theorem gN {W0 W:World} {g:Nat} {o:Obj} (x:W0.heap[g]?=some o) (h:W0.heap[g]?=some o→W.heap[g]?=some o:=by intro hx_;(with_reducible repeat (first|refine dI ?_ _|refine bK ?_|refine bY ?_ _));exact hx_):g < W.heap.size:=gT (h x)
theorem fJ {W0 W:World} {g:Nat} {o:Obj} (x:W0.heap[g]?=some o) (k:Nat) (hk:W.heap.size≤k) (h:W0.heap[g]?=some o→W.heap[g]?=some o:=by intro hx_;(with_reducible repeat (first|refine dI ?_ _|refine bK ?_|refine bY ?_ _));exact hx_):k≠g:=Kd.lH (h x) k hk
theorem aC_ {p q:Prop} (x:q) (h:q→p:=by intro hx_;repeat (first|exact hx_|(with_reducible refine Kd.nU ?_ _)|(with_reducible refine Kd.nA ?_ _)|(with_reducible refine Kd.oL ?_))):p:=h x
theorem rn_ {p:Prop} (h:p:=by first|(go_simp;done)|(go_simp;rfl)):p:=h
theorem nm_ {p:Prop} (h:p:=by first|(simp only [nG,Act.put,List.setIfInBounds_toArray,List.set_cons_zero,List.set_cons_succ];done)|(simp only [nG,Act.put,List.setIfInBounds_toArray,List.set_cons_zero,List.set_cons_succ];rfl)):p:=h
theorem sd_ {p:Prop} (h:p:=by first|rfl|(simp;done)|(simp [*];done)):p:=h
theorem fV {p:Prop} (h:p:=by first|(with_reducible assumption)|assumption):p:=h
theorem nb_ {p q:Prop} (x:q) (h:q→p:=by intro hx_;first|(rw [add_block];exact hx_)|(show (Addr.add _ _).block≠_;rw [add_block];exact hx_)|exact hx_):p:=h x
theorem pr_ (i N:Nat) (l':Array Bool) {P:Program} {md:Region.Mode} {ops:Array Oper} {Q:Exit→Act→World→Prop} {S:World→Prop} {ds:List Nat} {oi:Oper} {v:Value} {fuel:Nat} {l:Array Bool} {a a':Act} {w:World} {T:Bool × List (List Nat × List Nat)} (HT:Aside0 (lC md ops=T)) (h:dP P md ops Q S ds fuel l' a' w) (hi:ops[i]?=some oi:=by rfl) (hN:oi.dst=some N:=by rfl) (hc:WZ T l.toList l'.toList i=true:=by kernel_rfl) (hQ:∀ c a w,Q (.panic c) (a.put oi.dst v) w→Q (.panic c) a w:=by exact fun _ _ _ h_=>h_) (hg:Region.wanted oi (yielded ops a.tmps)=true:=by rfl) (hy:∀ w,(execOp a.eval oi).run P w= .ok (.value v) w:=by (intro w';go_simp;with_reducible rfl)) (ha:a.put (some N) v=a':=by first|(simp only [Act.put,List.setIfInBounds_toArray,List.set_cons_zero,List.set_cons_succ,dN,dU];rfl)|rfl):dP P md ops Q S ds (fuel + 1) l a w:=CZ l' hi hN (SF HT.out hc) hQ (Or.inl ⟨hg,hy⟩) ha h
theorem pu_ (i N:Nat) (l':Array Bool) {P:Program} {md:Region.Mode} {ops:Array Oper} {Q:Exit→Act→World→Prop} {S:World→Prop} {ds:List Nat} {oi:Oper} {fuel:Nat} {l:Array Bool} {a a':Act} {w:World} {T:Bool × List (List Nat × List Nat)} (HT:Aside0 (lC md ops=T)) (h:dP P md ops Q S ds fuel l' a' w) (hi:ops[i]?=some oi:=by rfl) (hN:oi.dst=some N:=by rfl) (hc:WZ T l.toList l'.toList i=true:=by kernel_rfl) (hQ:∀ c a w,Q (.panic c) (a.put oi.dst undef) w→Q (.panic c) a w:=by exact fun _ _ _ h_=>h_) (hg:Region.wanted oi (yielded ops a.tmps)=false:=by rfl) (ha:a.put (some N) undef=a':=by first|(simp only [Act.put,List.setIfInBounds_toArray,List.set_cons_zero,List.set_cons_succ,dN,dU];rfl)|rfl):dP P md ops Q S ds (fuel + 1) l a w:=CZ (v:=undef) l' hi hN (SF HT.out hc) hQ (Or.inr ⟨hg,rfl⟩) ha h
theorem NY (i N:Nat) (l':Array Bool) {P:Program} {md:Region.Mode} {ops:Array Oper} {Q:Exit→Act→World→Prop} {S:World→Prop} {ds:List Nat} {oi:Oper} {v:Value} {fuel:Nat} {l:Array Bool} {a a':Act} {w:World} {T:Bool × List (List Nat × List Nat)} {B:List Nat} (HT:Aside0 (lC md ops=T)) (HW:Aside0 (iJ T.2 B=true)) (hS:S w) (h:dP P md ops Q S ds fuel l' a' w) (hi:ops[i]?=some oi:=by rfl) (hN:oi.dst=some N:=by rfl) (hc:wV T B ds l.toList l'.toList i=true:=by kernel_rfl) (hQ:∀ c a w,Q (.panic c) (a.put oi.dst v) w→Q (.panic c) a w:=by exact fun _ _ _ h_=>h_) (hg:Region.wanted oi (yielded ops a.tmps)=true:=by rfl) (hy:∀ w,S w→(execOp a.eval oi).run P w= .ok (.value v) w:=by (rintro w' ⟨s0,s1⟩;go_simp;with_reducible rfl)) (ha:a.put (some N) v=a':=by first|(simp only [Act.put,List.setIfInBounds_toArray,List.set_cons_zero,List.set_cons_succ,dN,dU];rfl)|rfl):dP P md ops Q S ds (fuel + 1) l a w:=uO l' hi hN (rM HT.out HW.out hc) hQ (Or.inl ⟨hg,hy⟩) hS ha h
theorem aAj (i N:Nat) (l':Array Bool) {P:Program} {md:Region.Mode} {ops:Array Oper} {Q:Exit→Act→World→Prop} {S:World→Prop} {ds:List Nat} {oi:Oper} {v:Value} {fuel:Nat} {l:Array Bool} {a a':Act} {w:World} {T:Bool × List (List Nat × List Nat)} {B:List Nat} (HT:Aside0 (lC md ops=T)) (HW:Aside0 (iJ T.2 B=true)) (hS:S w) (h:dP P md ops Q S ds fuel l' a' w) (hi:ops[i]?=some oi:=by rfl) (hN:oi.dst=some N:=by rfl) (hc:wV T B ds l.toList l'.toList i=true:=by kernel_rfl) (hQ:∀ c a w,Q (.panic c) (a.put oi.dst v) w→Q (.panic c) a w:=by exact fun _ _ _ h_=>h_) (hg:Region.wanted oi (yielded ops a.tmps)=true:=by rfl) (hy:∀ w,S w→(execOp a.eval oi).run P w= .ok (.value v) w:=by (rintro w' ⟨s0,s1,s2⟩;go_simp;with_reducible rfl)) (ha:a.put (some N) v=a':=by first|(simp only [Act.put,List.setIfInBounds_toArray,List.set_cons_zero,List.set_cons_succ,dN,dU];rfl)|rfl):dP P md ops Q S ds (fuel + 1) l a w:=uO l' hi hN (rM HT.out HW.out hc) hQ (Or.inl ⟨hg,hy⟩) hS ha h
theorem wB (i N:Nat) (l':Array Bool) {P:Program} {md:Region.Mode} {ops:Array Oper} {Q:Exit→Act→World→Prop} {S:World→Prop} {ds:List Nat} {oi:Oper} {v:Value} {fuel:Nat} {l:Array Bool} {a a':Act} {w:World} {T:Bool × List (List Nat × List Nat)} {B:List Nat} (HT:Aside0 (lC md ops=T)) (HW:Aside0 (iJ T.2 B=true)) (hS:S w) (h:dP P md ops Q S ds fuel l' a' w) (hi:ops[i]?=some oi:=by rfl) (hN:oi.dst=some N:=by rfl) (hc:wV T B ds l.toList l'.toList i=true:=by kernel_rfl) (hQ:∀ c a w,Q (.panic c) (a.put oi.dst v) w→Q (.panic c) a w:=by exact fun _ _ _ h_=>h_) (hg:Region.wanted oi (yielded ops a.tmps)=true:=by rfl) (hy:∀ w,S w→(execOp a.eval oi).run P w= .ok (.value v) w:=by (rintro w' ⟨s0,s1,s2,s3⟩;go_simp;with_reducible rfl)) (ha:a.put (some N) v=a':=by first|(simp only [Act.put,List.setIfInBounds_toArray,List.set_cons_zero,List.set_cons_succ,dN,dU];rfl)|rfl):dP P md ops Q S ds (fuel + 1) l a w:=uO l' hi hN (rM HT.out HW.out hc) hQ (Or.inl ⟨hg,hy⟩) hS ha h
theorem FZ (i N:Nat) (l':Array Bool) {P:Program} {md:Region.Mode} {ops:Array Oper} {Q:Exit→Act→World→Prop} {S:World→Prop} {ds:List Nat} {oi:Oper} {v:Value} {fuel:Nat} {l:Array Bool} {a a':Act} {w:World} {T:Bool × List (List Nat × List Nat)} {B:List Nat} (HT:Aside0 (lC md ops=T)) (HW:Aside0 (iJ T.2 B=true)) (hS:S w) (h:dP P md ops Q S ds fuel l' a' w) (hi:ops[i]?=some oi:=by rfl) (hN:oi.dst=some N:=by rfl) (hc:wV T B ds l.toList l'.toList i=true:=by kernel_rfl) (hQ:∀ c a w,Q (.panic c) (a.put oi.dst v) w→Q (.panic c) a w:=by exact fun _ _ _ h_=>h_) (hg:Region.wanted oi (yielded ops a.tmps)=true:=by rfl) (hy:∀ w,S w→(execOp a.eval oi).run P w= .ok (.value v) w:=by (rintro w' ⟨s0,s1,s2,s3,s4⟩;go_simp;with_reducible rfl)) (ha:a.put (some N) v=a':=by first|(simp only [Act.put,List.setIfInBounds_toArray,List.set_cons_zero,List.set_cons_succ,dN,dU];rfl)|rfl):dP P md ops Q S ds (fuel + 1) l a w:=uO l' hi hN (rM HT.out HW.out hc) hQ (Or.inl ⟨hg,hy⟩) hS ha h
theorem MN (i N:Nat) (l':Array Bool) {P:Program} {md:Region.Mode} {ops:Array Oper} {Q:Exit→Act→World→Prop} {S:World→Prop} {ds:List Nat} {oi:Oper} {v:Value} {fuel:Nat} {l:Array Bool} {a a':Act} {w:World} {T:Bool × List (List Nat × List Nat)} {B:List Nat} (HT:Aside0 (lC md ops=T)) (HW:Aside0 (iJ T.2 B=true)) (hS:S w) (h:dP P md ops Q S ds fuel l' a' w) (hi:ops[i]?=some oi:=by rfl) (hN:oi.dst=some N:=by rfl) (hc:wV T B ds l.toList l'.toList i=true:=by kernel_rfl) (hQ:∀ c a w,Q (.panic c) (a.put oi.dst v) w→Q (.panic c) a w:=by exact fun _ _ _ h_=>h_) (hg:Region.wanted oi (yielded ops a.tmps)=true:=by rfl) (hy:∀ w,S w→(execOp a.eval oi).run P w= .ok (.value v) w:=by (rintro w' ⟨s0,s1,s2,s3,s4,s5⟩;go_simp;with_reducible rfl)) (ha:a.put (some N) v=a':=by first|(simp only [Act.put,List.setIfInBounds_toArray,List.set_cons_zero,List.set_cons_succ,dN,dU];rfl)|rfl):dP P md ops Q S ds (fuel + 1) l a w:=uO l' hi hN (rM HT.out HW.out hc) hQ (Or.inl ⟨hg,hy⟩) hS ha h
theorem WH (i N:Nat) (l':Array Bool) {P:Program} {md:Region.Mode} {ops:Array Oper} {Q:Exit→Act→World→Prop} {S:World→Prop} {ds:List Nat} {oi:Oper} {v:Value} {fuel:Nat} {l:Array Bool} {a a':Act} {w:World} {T:Bool × List (List Nat × List Nat)} {B:List Nat} (HT:Aside0 (lC md ops=T)) (HW:Aside0 (iJ T.2 B=true)) (hS:S w) (h:dP P md ops Q S ds fuel l' a' w) (hi:ops[i]?=some oi:=by rfl) (hN:oi.dst=some N:=by rfl) (hc:wV T B ds l.toList l'.toList i=true:=by kernel_rfl) (hQ:∀ c a w,Q (.panic c) (a.put oi.dst v) w→Q (.panic c) a w:=by exact fun _ _ _ h_=>h_) (hg:Region.wanted oi (yielded ops a.tmps)=true:=by rfl) (hy:∀ w,S w→(execOp a.eval oi).run P w= .ok (.value v) w:=by (rintro w' ⟨s0,s1,s2,s3,s4,s5,s6,s7⟩;go_simp;with_reducible rfl)) (ha:a.put (some N) v=a':=by first|(simp only [Act.put,List.setIfInBounds_toArray,List.set_cons_zero,List.set_cons_succ,dN,dU];rfl)|rfl):dP P md ops Q S ds (fuel + 1) l a w:=uO l' hi hN (rM HT.out HW.out hc) hQ (Or.inl ⟨hg,hy⟩) hS ha h
theorem aAk (i N:Nat) (l':Array Bool) {P:Program} {md:Region.Mode} {ops:Array Oper} {Q:Exit→Act→World→Prop} {S:World→Prop} {ds:List Nat} {oi:Oper} {v:Value} {fuel:Nat} {l:Array Bool} {a a':Act} {w:World} {T:Bool × List (List Nat × List Nat)} {B:List Nat} (HT:Aside0 (lC md ops=T)) (HW:Aside0 (iJ T.2 B=true)) (hS:S w) (h:dP P md ops Q S ds fuel l' a' w) (hi:ops[i]?=some oi:=by rfl) (hN:oi.dst=some N:=by rfl) (hc:wV T B ds l.toList l'.toList i=true:=by kernel_rfl) (hQ:∀ c a w,Q (.panic c) (a.put oi.dst v) w→Q (.panic c) a w:=by exact fun _ _ _ h_=>h_) (hg:Region.wanted oi (yielded ops a.tmps)=true:=by rfl) (hy:∀ w,S w→(execOp a.eval oi).run P w= .ok (.value v) w:=by (rintro w' ⟨s0,s1,s2,s3,s4,s5,s6,s7,s8⟩;go_simp;with_reducible rfl)) (ha:a.put (some N) v=a':=by first|(simp only [Act.put,List.setIfInBounds_toArray,List.set_cons_zero,List.set_cons_succ,dN,dU];rfl)|rfl):dP P md ops Q S ds (fuel + 1) l a w:=uO l' hi hN (rM HT.out HW.out hc) hQ (Or.inl ⟨hg,hy⟩) hS ha h
theorem DK (i N:Nat) (l':Array Bool) {P:Program} {md:Region.Mode} {ops:Array Oper} {Q:Exit→Act→World→Prop} {S:World→Prop} {ds:List Nat} {oi:Oper} {v:Value} {fuel:Nat} {l:Array Bool} {a a':Act} {w:World} {T:Bool × List (List Nat × List Nat)} {B:List Nat} (HT:Aside0 (lC md ops=T)) (HW:Aside0 (iJ T.2 B=true)) (hS:S w) (h:dP P md ops Q S ds fuel l' a' w) (hi:ops[i]?=some oi:=by rfl) (hN:oi.dst=some N:=by rfl) (hc:wV T B ds l.toList l'.toList i=true:=by kernel_rfl) (hQ:∀ c a w,Q (.panic c) (a.put oi.dst v) w→Q (.panic c) a w:=by exact fun _ _ _ h_=>h_) (hg:Region.wanted oi (yielded ops a.tmps)=true:=by rfl) (hy:∀ w,S w→(execOp a.eval oi).run P w= .ok (.value v) w:=by (rintro w' ⟨s0,s1,s2,s3,s4,s5,s6,s7,s8,s9,j3,j4⟩;go_simp;with_reducible rfl)) (ha:a.put (some N) v=a':=by first|(simp only [Act.put,List.setIfInBounds_toArray,List.set_cons_zero,List.set_cons_succ,dN,dU];rfl)|rfl):dP P md ops Q S ds (fuel + 1) l a w:=uO l' hi hN (rM HT.out HW.out hc) hQ (Or.inl ⟨hg,hy⟩) hS ha h
theorem aAp (i N:Nat) (l':Array Bool) {P:Program} {md:Region.Mode} {ops:Array Oper} {Q:Exit→Act→World→Prop} {S:World→Prop} {ds:List Nat} {oi:Oper} {v:Value} {fuel:Nat} {l:Array Bool} {a a':Act} {w:World} {T:Bool × List (List Nat × List Nat)} {B:List Nat} (HT:Aside0 (lC md ops=T)) (HW:Aside0 (iJ T.2 B=true)) (hS:S w) (h:dP P md ops Q S ds fuel l' a' w) (hi:ops[i]?=some oi:=by rfl) (hN:oi.dst=some N:=by rfl) (hc:wV T B ds l.toList l'.toList i=true:=by kernel_rfl) (hQ:∀ c a w,Q (.panic c) (a.put oi.dst v) w→Q (.panic c) a w:=by exact fun _ _ _ h_=>h_) (hg:Region.wanted oi (yielded ops a.tmps)=true:=by rfl) (hy:∀ w,S w→(execOp a.eval oi).run P w= .ok (.value v) w:=by (rintro w' ⟨s0,s1,s2,s3,s4,s5,s6,s7,s8,s9,j3,j4,j5,j6,j7,j8⟩;go_simp;with_reducible rfl)) (ha:a.put (some N) v=a':=by first|(simp only [Act.put,List.setIfInBounds_toArray,List.set_cons_zero,List.set_cons_succ,dN,dU];rfl)|rfl):dP P md ops Q S ds (fuel + 1) l a w:=uO l' hi hN (rM HT.out HW.out hc) hQ (Or.inl ⟨hg,hy⟩) hS ha h
theorem eO {α:Type} {d:Kd α} {e:Nat} {W0 W:World} {base:Nat} {ok:Nat→Prop} {v:Value} {xs:List α} (x:Kd.N d e W0 base ok v xs) (h:Kd.N d e W0 base ok v xs→Kd.N d e W base ok v xs:=by intro hx_;(with_reducible repeat (first|apply Kd.OI|apply Kd.OJ|apply Kd.kV));exact hx_):Kd.N d e W base ok v xs:=h x
theorem iH {α:Type} {d:Kd α} {e:Nat} {W0 W:World} {base:Nat} {ok:Nat→Prop} {v:Value} {xs:List α} (x:Kd.R d e W0 base ok v xs) (h:Kd.R d e W0 base ok v xs→Kd.R d e W base ok v xs:=by intro hx_;(with_reducible repeat (first|apply Kd.OP|apply Kd.OQ|apply Kd.nK));exact hx_):Kd.R d e W base ok v xs:=h x
def bz (n m:Nat):Array Bool:=((List.range n).map (fun i=>m.testBit i)).toArray
theorem rx_ {p:Prop} (h:p:=by first|(rw [hy_];with_reducible exact H)|(have H2_:=(Option.bind_some _ _).symm.trans H;rw [hy_];with_reducible exact H2_)|(have H2_:=(Option.bind_some _ _).symm.trans H;with_reducible exact H2_)|with_reducible exact H|(rw [hy_];exact H)|exact H):p:=h
theorem bsa {α β:Type} {o:Option α} {f:α→Option β} {b:β} (h:o.bind f=some b):∃ a,Aside0 (o=some a)∧f a=some b:=by
 obtain ⟨a,h1,h2⟩:=Option.bind_eq_some_iff.mp h
 exact ⟨a,⟨h1⟩,h2⟩
theorem gl_ {P:Program} {ops:Array Oper} {Q:Exit→Act→World→Prop} {rest:List Oper} {oi:Oper} {a:Act} {w:World} (N:Nat) {f:FuncId} {fn:Func} {as_:Array Operand} {ts:Array TypeId} (hf:P.funcs[f]?=some fn) (args:Array Value) (h:Calls P f args w fun e w'=>∃ v,e= .returned v∧wpList P ops Q rest (a.put (some N) v) w') (hd:oi.dst=some N:=by rfl) (hg:oi.guard=none:=by rfl) (hname:(fn.name == "runtime.NumGoroutine")=false:=by kernel_rfl) (hb:fn.body.isSome=true:=by rfl) (hop:oi.op= .call { callee:= .value (.func f),args:=as_,argTypes:=ts }:=by rfl) (hargs:as_.map a.eval=args:=by (try simp only [List.map_toArray,List.map_cons,List.map_nil]);first|done|rfl|(simp only [List.length_drop,List.length_take];rfl)):wpList P ops Q (oi :: rest) a w:=sS (some N) hd hg hf hname hb args hop hargs h
theorem mo_ {p:Prop} (h:p:=by repeat' first|(with_reducible exact ih0 ..)|(with_reducible exact ih1 ..)|(with_reducible exact ih2 ..)|(with_reducible exact ih3 ..)|(with_reducible exact ih4 ..)|(with_reducible exact ih5 ..)|(with_reducible exact ih6 ..)|(with_reducible exact ih7 ..)|(with_reducible exact m0 ..)|(with_reducible exact m1 ..)|(with_reducible exact m2 ..)|(with_reducible exact m3 ..)|(with_reducible exact m4 ..)|(with_reducible exact m5 ..)|(with_reducible exact m6 ..)|(with_reducible exact m7 ..)|(with_reducible exact m8 ..)|(with_reducible exact m9 ..)|(with_reducible exact LeO.refl _)|(with_reducible exact LeO.none _)|(with_reducible refine LeO.ite ?_ ?_)|(with_reducible refine LeO.bind ?_ (fun _=>?_))):p:=h
def mZ.f (l0:List Int):Option (List Int × Int):=if (l0.length:Int) > 2000 then (if 2000≤(l0.length:Int) then (some (l0.take 2000,0)) else (none)) else (some (l0,0))
def aH.j0:Nat→Int→Bool→List Int→Int→Option (Int × Int)
 |0,_,_,_,_=>none
 |k + 1,x1,x24,x1000,x1001=>if x24=true then (some (0,x1001)) else (if (wrap64 (x1001 - 1)) < (x1000.length:Int) then (if 0≤(wrap64 (x1001 - 1)) then (if x1=0 then (none) else (some (Int.tmod (wrap64 (rd x1000 (wrap64 (x1001 - 1)))) x1,x1001))) else (none)) else (if (x1000.length:Int)=0 then (none) else (if 0≤(Int.tmod (wrap64 (x1001 - 1)) (x1000.length:Int)) then (if (Int.tmod (wrap64 (x1001 - 1)) (x1000.length:Int)) < (x1000.length:Int) then (if 0≤(Int.tmod (wrap64 ((wrap64 ((wrap64 (x1001 - 1)) * 7)) + 3)) (x1000.length:Int)) then (if (Int.tmod (wrap64 ((wrap64 ((wrap64 (x1001 - 1)) * 7)) + 3)) (x1000.length:Int)) < (x1000.length:Int) then (if x1=0 then (none) else (some (Int.tmod (Go.bits .xor .i64 (wrap64 ((wrap64 ((wrap64 ((wrap64 ((wrap64 (rd x1000 (Int.tmod (wrap64 (x1001 - 1)) (x1000.length:Int)))) * 131)) + (wrap64 ((wrap64 (rd x1000 (Int.tmod (wrap64 ((wrap64 ((wrap64 (x1001 - 1)) * 7)) + 3)) (x1000.length:Int)))) * 1117)))) + (wrap64 ((wrap64 (x1001 - 1)) * 29)))) + (wrap64 ((wrap64 (Int.tdiv (wrap64 (x1001 - 1)) (x1000.length:Int))) * 53)))) (wrap64 (Int.tdiv (wrap64 ((wrap64 ((wrap64 ((wrap64 ((wrap64 (rd x1000 (Int.tmod (wrap64 (x1001 - 1)) (x1000.length:Int)))) * 131)) + (wrap64 ((wrap64 (rd x1000 (Int.tmod (wrap64 ((wrap64 ((wrap64 (x1001 - 1)) * 7)) + 3)) (x1000.length:Int)))) * 1117)))) + (wrap64 ((wrap64 (x1001 - 1)) * 29)))) + (wrap64 ((wrap64 (Int.tdiv (wrap64 (x1001 - 1)) (x1000.length:Int))) * 53)))) 64))) x1,x1001))) else (none)) else (none)) else (none)) else (none))))
def aH.f (k:Nat) (s0_0:List Int) (s0_1:Int) (a1:Int):Option (Int × Int):=if a1 < 1 then (aH.j0 k a1 true s0_0 (wrap64 (s0_1 + 1))) else (aH.j0 k a1 ((s0_0.length:Int) == 0) s0_0 (wrap64 (s0_1 + 1)))
def iZ.f (a0:Int) (a1_0:Int) (a1_1:Int) (l1_2:List (S32)) (a2_0:Int) (a2_1:Int) (l2_2:List (S32)):Option (Int × Int × (List (S32))):=some (a0,0,(([(⟨a1_0,a1_1,l1_2⟩:S32),(⟨a2_0,a2_1,l2_2⟩:S32)]:List (S32))))
def iT.f (k:Nat) (s0_0:List Int) (s0_1:Int):Option (Int × Int):=(aH.f k s0_0 s0_1 12).bind fun bt113=>(some (wrap64 (1 + bt113.1),bt113.2))
def fG.f (a0:Int) (a1:Int):Option (Int × Int × (List (S32))):=some (a0,a1,(([]:List (S32))))
def gV.f (k:Nat) (s0_0:List Int) (s0_1:Int):Option (Int × Int × (List (S32)) × Int):=(aH.f k s0_0 s0_1 4).bind fun bt120=>(if bt120.1=0 then ((aH.f k s0_0 bt120.2 4).bind fun bt122=>((fG.f 0 bt122.1).bind fun bt124=>(some (bt124.1,bt124.2.1,bt124.2.2,bt122.2)))) else (if bt120.1=1 then ((some (([5,31,32,100,2047,2048,65536,99999]:List Int):List Int)).bind fun y129=>((aH.f k s0_0 bt120.2 8).bind fun bt132=>(if 0≤bt132.1 then (if bt132.1 < (y129.length:Int) then ((fG.f 0 (rd y129 bt132.1)).bind fun bt135=>(some (bt135.1,bt135.2.1,bt135.2.2,bt132.2))) else (none)) else (none)))) else ((aH.f k s0_0 bt120.2 4).bind fun bt140=>((fG.f 13 bt140.1).bind fun bt142=>(some (bt142.1,bt142.2.1,bt142.2.2,bt140.2))))))
mutual
def bJ.j0:Nat→Int→Bool→List Int→Int→Option (Int × Int × (List (S32)) × Int)
 |0,_,_,_,_=>none
 |k + 1,x1,x13,x1000,x1001=>if x13=true then ((gV.f k x1000 x1001).bind fun bt150=>(some (bt150.1,bt150.2.1,bt150.2.2.1,bt150.2.2.2))) else ((iT.f k x1000 x1001).bind fun bt156=>((bJ.f k x1000 bt156.2 (wrap64 (x1 - 1))).bind fun bt158=>((bJ.f k x1000 bt158.2.2.2 (wrap64 (x1 - 1))).bind fun bt165=>((iZ.f bt156.1 bt158.1 bt158.2.1 bt158.2.2.1 bt165.1 bt165.2.1 bt165.2.2.1).bind fun bt171=>(some (bt171.1,bt171.2.1,bt171.2.2,bt165.2.2.2))))))
def bJ.f:Nat→List Int→Int→Int→Option (Int × Int × (List (S32)) × Int)
 |0,_,_,_=>none
 |k + 1,s0_0,s0_1,a1=>if a1 < 2 then (bJ.j0 k a1 true s0_0 s0_1) else ((aH.f k s0_0 s0_1 3).bind fun bt148=>(bJ.j0 k a1 (bt148.1 == 0) s0_0 bt148.2))
end
def gP.f (k:Nat) (s0_0:List Int) (s0_1:Int):Option (Int × Int × Int × Int × Int × (List (S32)) × (List (S35)) × (List (S35)) × Int):=(aH.f k s0_0 s0_1 3).bind fun bt177=>((aH.f k s0_0 bt177.2 3).bind fun bt179=>((bJ.f k s0_0 bt179.2 (wrap64 (1 + bt179.1))).bind fun bt181=>(some (1,bt177.1,0,bt181.1,bt181.2.1,bt181.2.2.1,([]:List (S35)),([]:List (S35)),bt181.2.2.2))))
def gW.f (k:Nat) (s0_0:List Int) (s0_1:Int) (a1:Int):Option (Int × Int × Int × Int × Int × (List (S32)) × (List (S35)) × (List (S35)) × Int):=if a1 < 1 then ((gP.f k s0_0 s0_1).bind fun bt188=>(some (bt188.1,bt188.2.1,bt188.2.2.1,bt188.2.2.2.1,bt188.2.2.2.2.1,bt188.2.2.2.2.2.1,bt188.2.2.2.2.2.2.1,bt188.2.2.2.2.2.2.2.1,bt188.2.2.2.2.2.2.2.2))) else ((aH.f k s0_0 s0_1 a1).bind fun bt203=>((aH.f k s0_0 bt203.2 2).bind fun bt205=>(if bt205.1=0 then ((aH.f k s0_0 bt205.2 3).bind fun bt207=>((bJ.f k s0_0 bt207.2 (wrap64 (1 + bt207.1))).bind fun bt209=>(some (4,0,bt203.1,bt209.1,bt209.2.1,bt209.2.2.1,([]:List (S35)),([]:List (S35)),bt209.2.2.2)))) else ((aH.f k s0_0 bt205.2 3).bind fun bt215=>(some (5,bt215.1,bt203.1,0,0,([]:List (S32)),([]:List (S35)),([]:List (S35)),bt215.2))))))
mutual
def dX.f:Nat→List Int→Int→Int→Int→Option ((List (S35)) × Int)
 |0,_,_,_,_=>none
 |k + 1,s0_0,s0_1,a1,a2=>(aH.f k s0_0 s0_1 3).bind fun bt217=>((bU.f k s0_0 bt217.2 a1 (wrap64 (a2 - 1)) bt217.1 false).bind fun bt219=>((fG.f 13 3).bind fun bt223=>((fG.f 0 1).bind fun bt228=>((iZ.f 8 bt223.1 bt223.2.1 bt223.2.2 bt228.1 bt228.2.1 bt228.2.2).bind fun bt233=>((fG.f 13 3).bind fun bt239=>((aH.f k s0_0 bt219.2 3).bind fun bt244=>((fG.f 0 (wrap64 (1 + bt244.1))).bind fun bt246=>((iZ.f 5 bt239.1 bt239.2.1 bt239.2.2 bt246.1 bt246.2.1 bt246.2.2).bind fun bt251=>((some (([(⟨1,3,0,(⟨bt233.1,bt233.2.1,bt233.2.2⟩:S32),([]:List (S35)),([]:List (S35))⟩:S35)]:List (S35)):List (S35))).bind fun y256=>(if bt219.1.length + y256.length < 1256584717458 then ((fG.f 0 0).bind fun bt263=>(some ((([(⟨1,3,0,(⟨bt263.1,bt263.2.1,bt263.2.2⟩:S32),([]:List (S35)),([]:List (S35))⟩:S35),(⟨3,0,0,(⟨bt251.1,bt251.2.1,bt251.2.2⟩:S32),(bt219.1 ++ y256),([]:List (S35))⟩:S35)]:List (S35))),bt244.2))) else (none)))))))))))
def bH.j0:Nat→Int→Int→Bool→Int→Bool→List Int→Int→Option ((List (S35)) × Int)
 |0,_,_,_,_,_,_,_=>none
 |k + 1,x1,x2,x3,x10,x11,x1000,x1001=>if x11=true then ((gP.f k x1000 x1001).bind fun bt273=>(some ((([(⟨bt273.1,bt273.2.1,bt273.2.2.1,(⟨bt273.2.2.2.1,bt273.2.2.2.2.1,bt273.2.2.2.2.2.1⟩:S32),bt273.2.2.2.2.2.2.1,bt273.2.2.2.2.2.2.2.1⟩:S35)]:List (S35))),bt273.2.2.2.2.2.2.2.2))) else (if x10=2 then (if x2 > 0 then ((eP.f k x1000 x1001 x1 x2 x3).bind fun bt291=>(some ((([(⟨bt291.1,bt291.2.1,bt291.2.2.1,(⟨bt291.2.2.2.1,bt291.2.2.2.2.1,bt291.2.2.2.2.2.1⟩:S32),bt291.2.2.2.2.2.2.1,bt291.2.2.2.2.2.2.2.1⟩:S35)]:List (S35))),bt291.2.2.2.2.2.2.2.2))) else ((aH.f k x1000 x1001 3).bind fun bt309=>((bJ.f k x1000 bt309.2 (wrap64 (1 + bt309.1))).bind fun bt311=>(some ((([(⟨7,0,0,(⟨bt311.1,bt311.2.1,bt311.2.2.1⟩:S32),([]:List (S35)),([]:List (S35))⟩:S35)]:List (S35))),bt311.2.2.2))))) else (if x10=3 then (if x2 > 0 then (bH.j1 k x1 x2 x3 x1000 x1001) else (bH.j1 k x1 x2 false x1000 x1001)) else (if x10=4 then (bH.j2 k x1 x10 (x10 == 4) x1000 x1001) else (if x10=5 then (bH.j2 k x1 x10 (x10 == 5) x1000 x1001) else (bH.j2 k x1 x10 (x10 == 6) x1000 x1001)))))
def bH.j1:Nat→Int→Int→Bool→List Int→Int→Option ((List (S35)) × Int)
 |0,_,_,_,_,_=>none
 |k + 1,x1,x2,x33,x1000,x1001=>if x33=true then ((dX.f k x1000 x1001 x1 x2).bind fun bt320=>(some (bt320.1,bt320.2))) else ((aH.f k x1000 x1001 3).bind fun bt324=>((bJ.f k x1000 bt324.2 (wrap64 (1 + bt324.1))).bind fun bt326=>(some ((([(⟨7,0,0,(⟨bt326.1,bt326.2.1,bt326.2.2.1⟩:S32),([]:List (S35)),([]:List (S35))⟩:S35)]:List (S35))),bt326.2.2.2))))
def bH.j2:Nat→Int→Int→Bool→List Int→Int→Option ((List (S35)) × Int)
 |0,_,_,_,_,_=>none
 |k + 1,x1,x10,x38,x1000,x1001=>if x38=true then ((gW.f k x1000 x1001 x1).bind fun bt335=>(some ((([(⟨bt335.1,bt335.2.1,bt335.2.2.1,(⟨bt335.2.2.2.1,bt335.2.2.2.2.1,bt335.2.2.2.2.2.1⟩:S32),bt335.2.2.2.2.2.2.1,bt335.2.2.2.2.2.2.2.1⟩:S35)]:List (S35))),bt335.2.2.2.2.2.2.2.2))) else (if x10=7 then (some ((([(⟨6,0,0,(⟨0,0,([]:List (S32))⟩:S32),([]:List (S35)),([]:List (S35))⟩:S35)]:List (S35))),x1001)) else ((aH.f k x1000 x1001 3).bind fun bt356=>((bJ.f k x1000 bt356.2 (wrap64 (1 + bt356.1))).bind fun bt358=>(some ((([(⟨7,0,0,(⟨bt358.1,bt358.2.1,bt358.2.2.1⟩:S32),([]:List (S35)),([]:List (S35))⟩:S35)]:List (S35))),bt358.2.2.2)))))
def bH.f:Nat→List Int→Int→Int→Int→Bool→Option ((List (S35)) × Int)
 |0,_,_,_,_,_=>none
 |k + 1,s0_0,s0_1,a1,a2,a3=>(aH.f k s0_0 s0_1 10).bind fun bt271=>(if bt271.1=0 then (bH.j0 k a1 a2 a3 bt271.1 (bt271.1 == 0) s0_0 bt271.2) else (bH.j0 k a1 a2 a3 bt271.1 (bt271.1 == 1) s0_0 bt271.2))
def bU.l0:Nat→Int→Int→Int→Bool→List (S35)→Int→List Int→Int→Option ((List (S35)) × Int)
 |0,_,_,_,_,_,_,_,_=>none
 |k + 1,x1,x2,x3,x4,x11,x12,x1000,x1001=>if x12 < x3 then ((bH.f k x1000 x1001 x1 x2 x4).bind fun bt370=>(if x11.length + bt370.1.length < 1256584717458 then (bU.l0 k x1 x2 x3 x4 (x11 ++ bt370.1) (wrap64 (x12 + 1)) x1000 bt370.2) else (none))) else (some (x11,x1001))
def bU.f:Nat→List Int→Int→Int→Int→Int→Bool→Option ((List (S35)) × Int)
 |0,_,_,_,_,_,_=>none
 |k + 1,s0_0,s0_1,a1,a2,a3,a4=>bU.l0 k a1 a2 a3 a4 (([]:List (S35))) 0 s0_0 s0_1
def eP.f:Nat→List Int→Int→Int→Int→Bool→Option (Int × Int × Int × Int × Int × (List (S32)) × (List (S35)) × (List (S35)) × Int)
 |0,_,_,_,_,_=>none
 |k + 1,s0_0,s0_1,a1,a2,a3=>(aH.f k s0_0 s0_1 2).bind fun bt378=>((bJ.f k s0_0 bt378.2 (wrap64 (1 + bt378.1))).bind fun bt380=>((aH.f k s0_0 bt380.2.2.2 3).bind fun bt387=>((bU.f k s0_0 bt387.2 a1 (wrap64 (a2 - 1)) bt387.1 a3).bind fun bt389=>((aH.f k s0_0 bt389.2 3).bind fun bt393=>((bU.f k s0_0 bt393.2 a1 (wrap64 (a2 - 1)) bt393.1 a3).bind fun bt395=>(some (2,0,0,bt380.1,bt380.2.1,bt380.2.2.1,bt389.1,bt395.1,bt395.2)))))))
end
mutual
def bX.l0:Nat→List (S35)→Int→Int→Option (Int)
 |0,_,_,_=>none
 |k + 1,x0,x3,x4=>if x4 < (x0.length:Int) then (if 0≤x4 then ((bX.f k ((aA x0 x4).f4)).bind fun t400=>((bX.f k ((aA x0 x4).f5)).bind fun t402=>(bX.l0 k x0 (wrap64 ((wrap64 ((wrap64 (x3 + 1)) + t400)) + t402)) (wrap64 (x4 + 1))))) else (none)) else (some x3)
def bX.f:Nat→List (S35)→Option (Int)
 |0,_=>none
 |k + 1,l0=>bX.l0 k l0 0 0
end
def eD.l0:Nat→List (S35)→List Int→Int→Option ((List (S35)) × Int)
 |0,_,_,_=>none
 |k + 1,x5,x1000,x1001=>(bX.f k x5).bind fun t409=>(if t409 > 16 then (if 0≤(wrap64 ((x5.length:Int) - 1)) then (if (wrap64 ((x5.length:Int) - 1))≤(x5.length:Int) then (eD.l0 k (x5.take ((wrap64 ((x5.length:Int) - 1)):Int).toNat) x1000 x1001) else (none)) else (none)) else (some (x5,x1001)))
def eD.f (k:Nat) (s0_0:List Int) (s0_1:Int) (a1:Int):Option ((List (S35)) × Int):=(aH.f k s0_0 s0_1 6).bind fun bt403=>((bU.f k s0_0 bt403.2 a1 3 (wrap64 (1 + bt403.1)) true).bind fun bt405=>(eD.l0 k bt405.1 s0_0 bt405.2))
def iA.f (k:Nat) (s0_0:List Int) (s0_1:Int):Option (Int × Int × Int × Int × Int × (List (S32)) × (List (S35)) × (List (S35)) × Int):=(fG.f 0 1).bind fun bt414=>((aH.f k s0_0 s0_1 2).bind fun bt419=>((bU.f k s0_0 bt419.2 0 1 bt419.1 false).bind fun bt421=>(some (3,0,0,bt414.1,bt414.2.1,bt414.2.2,bt421.1,([]:List (S35)),bt421.2))))
def KR.f (k:Nat) (s0_0:List Int) (s0_1:Int):Option ((List (S35)) × Int):=(eD.f k s0_0 s0_1 3).bind fun bt425=>((aH.f k s0_0 bt425.2 24).bind fun bt429=>(if bt429.1=0 then ((iA.f k s0_0 bt429.2).bind fun bt431=>(if bt425.1.length < 1256584717458 then (some ((bt425.1 ++ [(⟨bt431.1,bt431.2.1,bt431.2.2.1,(⟨bt431.2.2.2.1,bt431.2.2.2.2.1,bt431.2.2.2.2.2.1⟩:S32),bt431.2.2.2.2.2.2.1,bt431.2.2.2.2.2.2.2.1⟩:S35)]),bt431.2.2.2.2.2.2.2.2)) else (none))) else (if bt429.1=1 then ((some (([0,8]:List Int):List Int)).bind fun y449=>((aH.f k s0_0 bt429.2 2).bind fun bt452=>(if 0≤bt452.1 then (if bt452.1 < (y449.length:Int) then (if bt425.1.length < 1256584717458 then (some ((bt425.1 ++ [(⟨rd y449 bt452.1,0,0,(⟨0,0,([]:List (S32))⟩:S32),([]:List (S35)),([]:List (S35))⟩:S35)]),bt452.2)) else (none)) else (none)) else (none)))) else (if bt429.1=2 then ((gV.f k s0_0 bt429.2).bind fun bt458=>(if bt425.1.length < 1256584717458 then (some ((bt425.1 ++ [(⟨4,0,3,(⟨bt458.1,bt458.2.1,bt458.2.2.1⟩:S32),([]:List (S35)),([]:List (S35))⟩:S35)]),bt458.2.2.2)) else (none))) else (if bt429.1=3 then (if bt425.1.length < 1256584717458 then (some ((bt425.1 ++ [(⟨6,1,0,(⟨0,0,([]:List (S32))⟩:S32),([]:List (S35)),([]:List (S35))⟩:S35)]),bt429.2)) else (none)) else (if bt429.1=4 then ((eP.f k s0_0 bt429.2 1 1 false).bind fun bt470=>(if bt425.1.length < 1256584717458 then (some ((bt425.1 ++ [(⟨bt470.1,bt470.2.1,bt470.2.2.1,(⟨bt470.2.2.2.1,bt470.2.2.2.2.1,bt470.2.2.2.2.2.1⟩:S32),(([(⟨2,0,0,(⟨0,0,([]:List (S32))⟩:S32),(([(⟨2,0,0,(⟨0,0,([]:List (S32))⟩:S32),(([(⟨2,0,0,(⟨0,0,([]:List (S32))⟩:S32),([]:List (S35)),([]:List (S35))⟩:S35)]:List (S35))),([]:List (S35))⟩:S35)]:List (S35))),([]:List (S35))⟩:S35)]:List (S35))),bt470.2.2.2.2.2.2.2.1⟩:S35)]),bt470.2.2.2.2.2.2.2.2)) else (none))) else (if bt429.1=5 then ((gV.f k s0_0 bt429.2).bind fun bt498=>(if bt425.1.length < 1256584717458 then (some ((bt425.1 ++ [(⟨3,0,0,(⟨bt498.1,bt498.2.1,bt498.2.2.1⟩:S32),([]:List (S35)),(([(⟨6,0,0,(⟨0,0,([]:List (S32))⟩:S32),([]:List (S35)),([]:List (S35))⟩:S35)]:List (S35)))⟩:S35)]),bt498.2.2.2)) else (none))) else (some (bt425.1,bt429.2)))))))))
def lS.f (k:Nat) (l0:List Int):Option (List S35):=(mZ.f l0).bind fun o=>(KR.f k o.1 o.2).bind fun s=>(aH.f k o.1 s.2 3).bind fun p=>if p.1=0 then ((eP.f k o.1 p.2 1 1 false).bind fun i=>(iT.f k o.1 i.2.2.2.2.2.2.2.2).bind fun q=>(aH.f k o.1 q.2 3).bind fun a=>(aH.f k o.1 a.2 3).bind fun b=>some [(⟨i.1,i.2.1,i.2.2.1,⟨q.1,0,[⟨0,a.1,[]⟩,⟨0,b.1,[]⟩]⟩,i.2.2.2.2.2.2.1,i.2.2.2.2.2.2.2.1⟩:S35)]) else some s.1
def kD.f (a0:Int):Option (Bool):=if a0≥1 then (some (decide (a0≤12))) else (some false)
def fA.f:Nat→Int→Int→List (S32)→Int→Option (Bool)
 |0,_,_,_,_=>none
 |k + 1,a0_0,a0_1,l0_2,a1=>if a0_0=0 then (if a0_1≥0 then (if a0_1≤99999 then (if (l0_2.length:Int)=0 then (some (decide (a1 > 0))) else (some false)) else (some false)) else (some false)) else (if a0_0=13 then (if a0_1≥0 then (if a0_1 < 4 then (if (l0_2.length:Int)=0 then (some (decide (a1 > 0))) else (some false)) else (some false)) else (some false)) else ((kD.f a0_0).bind fun t511=>(if t511=true then (if a0_1=0 then (if (l0_2.length:Int)=2 then (if a1 > 1 then (if 0 < (l0_2.length:Int) then ((fA.f k ((aY l0_2 0).f0) ((aY l0_2 0).f1) ((aY l0_2 0).f2) (wrap64 (a1 - 1))).bind fun t513=>(if t513=true then (if 1 < (l0_2.length:Int) then ((fA.f k ((aY l0_2 1).f0) ((aY l0_2 1).f1) ((aY l0_2 1).f2) (wrap64 (a1 - 1))).bind fun t515=>(some t515)) else (none)) else (some false))) else (none)) else (some false)) else (some false)) else (some false)) else (some false))))
def iD.f (k:Nat) (a0_0:Int) (a0_1:Int) (l0_2:List (S32)):Option (Bool):=(fA.f k a0_0 a0_1 l0_2 5).bind fun t517=>(some t517)
def inr (n limit:Int) (needed:Bool):Bool:=(n == 0) || (needed && (decide (n > 0) && decide (n < limit)))
def lD (k:Nat) (nv nb ne nd no:Bool) (va bx op n:Int) (la:List S32) (lb le:Nat) (boxes:Int):Option Bool:=
  if inr va 4 nv=true then (if inr bx boxes nb=true then (if nb=true∧boxes≤bx then some false else
    (if ne=true then ((iD.f k op n la).bind fun t=>if t=true then some ((nd || lb == 0) && (no || le == 0)) else some false)
     else (if op=0 then (if n=0 then (if 0 < (la.length:Int) then some false else some ((nd || lb == 0) && (no || le == 0))) else some false) else some false))) else some false) else some false
def fF.f (k:Nat) (kd va bx op n:Int) (la:List S32) (lb le:Nat) (boxes:Int):Option Bool:=
 if kd=1 then lD k true false true false false va bx op n la lb le boxes
 else if kd=2 then lD k false false true true true va bx op n la lb le boxes
 else if kd=3 then lD k false false true true false va bx op n la lb le boxes
 else if kd=4 then lD k false true true false false va bx op n la lb le boxes
 else if kd=5 then lD k true true false false false va bx op n la lb le boxes
 else if kd=7 then lD k false false true false false va bx op n la lb le boxes
 else if kd=6 then lD k false false false false false va bx op n la lb le boxes
 else some false
mutual
def dJ.f:Nat→List S35→Int→Int→Int→Option (Bool × Int)
 |0,_,_,_,_=>none
 |k + 1,l,boxes,blocks,cnt=>if 16 < wrap64 (cnt + (l.length:Int)) then some (false,wrap64 (cnt + (l.length:Int))) else dJ.l0 k l boxes blocks 0 (wrap64 (cnt + (l.length:Int)))
def dJ.l0:Nat→List S35→Int→Int→Int→Int→Option (Bool × Int)
 |0,_,_,_,_,_=>none
 | k + 1,l,boxes,blocks,i,cnt=>if i < (l.length:Int) then (if 0≤i then
   ((fF.f k (aA l i).f0 (aA l i).f1 (aA l i).f2 (aA l i).f3.f0 (aA l i).f3.f1 (aA l i).f3.f2 (aA l i).f4.length (aA l i).f5.length boxes).bind fun t=>
    if t=true then (if 3 < blocks then some (false,cnt) else
     (if (aA l i).f0=2∨(aA l i).f0=3 then (if 3≤blocks then some (false,cnt) else
      ((dJ.f k (aA l i).f4 boxes (wrap64 (blocks + 1)) cnt).bind fun p=>if p.1=true then
       ((dJ.f k (aA l i).f5 boxes (wrap64 (blocks + 1)) p.2).bind fun q=>if q.1=true then dJ.l0 k l boxes blocks (wrap64 (i + 1)) q.2 else some (false,q.2)) else some (false,p.2)))
     else dJ.l0 k l boxes blocks (wrap64 (i + 1)) cnt)) else some (false,cnt)) else none) else some (true,cnt)
end
def fP.f (k:Nat) (l0:List (S35)) (a1:Int):Option Bool:=(dJ.f k l0 a1 0 0).bind fun p=>some p.1
def gJ.f (k:Nat) (l0:List (S35)):Option (Bool):=(fP.f k l0 3).bind fun t518=>(some t518)
def mH.f (a0:Bool):Option (Int):=if a0=true then (some 1) else (some 0)
def iL.f (a0:Int):Option (Int):=some (wrap64 (wrap32 (a0)))
def nS.f (a0:Int) (a1:Int) (a2:Int):Option (Int):=if a0=1 then (some (Go.bits .or .i64 a1 a2)) else (if a0=2 then (some (Go.bits .xor .i64 a1 a2)) else (if a0=3 then (some (Go.bits .and .i64 a1 a2)) else (if a0=4 then ((mH.f (a1 == a2)).bind fun t519=>(some t519)) else (if a0=5 then ((mH.f (decide (a1 < a2))).bind fun t520=>(some t520)) else (if a0=6 then (if 0≤(Go.bits .and .i64 a2 31) then ((iL.f (shl .i64 a1 (Go.bits .and .i64 a2 31))).bind fun t521=>(some t521)) else (none)) else (if a0=7 then (if 0≤(Go.bits .and .i64 a2 31) then (some (shr .i64 a1 (Go.bits .and .i64 a2 31))) else (none)) else (if a0=8 then ((iL.f (wrap64 (a1 + a2))).bind fun t522=>(some t522)) else (if a0=9 then ((iL.f (wrap64 (a1 - a2))).bind fun t523=>(some t523)) else (if a0=10 then ((iL.f (wrap64 (a1 * a2))).bind fun t524=>(some t524)) else (if a0=11 then (if a2=0 then (some (-1)) else ((iL.f (wrap64 (Int.tdiv a1 a2))).bind fun t525=>(some t525))) else (if a2=0 then (some a1) else (some (Int.tmod a1 a2)))))))))))))
mutual
def bZ.j0:Nat→Bool→Int→Int→List (S32)→Int→Int→List (S32)→Int→Int→List (S32)→Option (Int × Int × (List (S32)))
 |0,_,_,_,_,_,_,_,_,_,_=>none
 |k + 1,x32,x527000,x527001,x527002,x541000,x541001,x541002,x542000,x542001,x542002=>if x32=true then ((nS.f x527000 x541001 x542001).bind fun t542=>(if t542≥0 then (if t542≤99999 then (some (0,t542,([]:List (S32)))) else (some (x527000,0,(([(⟨x541000,x541001,x541002⟩:S32),(⟨x542000,x542001,x542002⟩:S32)]:List (S32)))))) else (some (x527000,0,(([(⟨x541000,x541001,x541002⟩:S32),(⟨x542000,x542001,x542002⟩:S32)]:List (S32))))))) else (some (x527000,0,(([(⟨x541000,x541001,x541002⟩:S32),(⟨x542000,x542001,x542002⟩:S32)]:List (S32)))))
def bZ.f:Nat→Int→Int→List (S32)→Option (Int × Int × (List (S32)))
 |0,_,_,_=>none
 |k + 1,a0_0,a0_1,l0_2=>if (l0_2.length:Int)=0 then (some (a0_0,a0_1,([]:List (S32)))) else (if 0 < (l0_2.length:Int) then ((bZ.f k ((aY l0_2 0).f0) ((aY l0_2 0).f1) ((aY l0_2 0).f2)).bind fun bt529=>(if 1 < (l0_2.length:Int) then ((bZ.f k ((aY l0_2 1).f0) ((aY l0_2 1).f1) ((aY l0_2 1).f2)).bind fun bt535=>(if bt529.1=0 then (bZ.j0 k (bt535.1 == 0) a0_0 a0_1 l0_2 bt529.1 bt529.2.1 bt529.2.2 bt535.1 bt535.2.1 bt535.2.2) else (bZ.j0 k false a0_0 a0_1 l0_2 bt529.1 bt529.2.1 bt529.2.2 bt535.1 bt535.2.1 bt535.2.2))) else (none))) else (none))
end
mutual
def aX.l0:Nat→List (S35)→List (S35)→Int→Int→Option ((List (S35)))
 |0,_,_,_,_=>none
 |k + 1,x3,x7,x8,x9=>if x9 < x8 then (if 0≤x9 then (if x9 < (x7.length:Int) then ((aX.f k ((aA x7 x9).f4)).bind fun t554=>((aX.f k ((aA x7 x9).f5)).bind fun t557=>((bZ.f k ((aA x7 x9).f3.f0) ((aA x7 x9).f3.f1) ((aA x7 x9).f3.f2)).bind fun bt560=>(if ((aA x7 x9).f0)=2 then (if bt560.1=0 then (aX.j1 k x3 (bt560.1 == 0) x7 x8 x9 (bt560.2.1 != 0) ((aA x7 x9).f0) ((aA x7 x9).f1) ((aA x7 x9).f2) bt560.1 bt560.2.1 bt560.2.2 t554 t557) else (aX.j1 k x3 (bt560.1 == 0) x7 x8 x9 false ((aA x7 x9).f0) ((aA x7 x9).f1) ((aA x7 x9).f2) bt560.1 bt560.2.1 bt560.2.2 t554 t557)) else (aX.j1 k x3 (bt560.1 == 0) x7 x8 x9 false ((aA x7 x9).f0) ((aA x7 x9).f1) ((aA x7 x9).f2) bt560.1 bt560.2.1 bt560.2.2 t554 t557))))) else (none)) else (none)) else (some x3)
def aX.j1:Nat→List (S35)→Bool→List (S35)→Int→Int→Bool→Int→Int→Int→Int→Int→List (S32)→List (S35)→List (S35)→Option ((List (S35)))
 |0,_,_,_,_,_,_,_,_,_,_,_,_,_,_=>none
 |k + 1,x3,x6,x7,x8,x9,x33,x554000,x554001,x554002,x554003,x554004,x554005,x554006,x554007=>if x33=true then (if x3.length + x554006.length < 1256584717458 then (aX.l0 k (x3 ++ x554006) x7 x8 (wrap64 (x9 + 1))) else (none)) else (if x554000=2 then (aX.j2 k x3 x6 x7 x8 x9 x6 x554000 x554001 x554002 x554003 x554004 x554005 x554006 x554007) else (aX.j2 k x3 x6 x7 x8 x9 false x554000 x554001 x554002 x554003 x554004 x554005 x554006 x554007))
def aX.j2:Nat→List (S35)→Bool→List (S35)→Int→Int→Bool→Int→Int→Int→Int→Int→List (S32)→List (S35)→List (S35)→Option ((List (S35)))
 |0,_,_,_,_,_,_,_,_,_,_,_,_,_,_=>none
 |k + 1,x3,x6,x7,x8,x9,x50,x554000,x554001,x554002,x554003,x554004,x554005,x554006,x554007=>if x50=true then (if x3.length + x554007.length < 1256584717458 then (aX.l0 k (x3 ++ x554007) x7 x8 (wrap64 (x9 + 1))) else (none)) else (if x554000=3 then (if x6=true then (if x554004=0 then (aX.l0 k x3 x7 x8 (wrap64 (x9 + 1))) else (if x3.length < 1256584717458 then (aX.l0 k (x3 ++ [(⟨x554000,x554001,x554002,(⟨x554003,x554004,x554005⟩:S32),x554006,x554007⟩:S35)]) x7 x8 (wrap64 (x9 + 1))) else (none))) else (if x3.length < 1256584717458 then (aX.l0 k (x3 ++ [(⟨x554000,x554001,x554002,(⟨x554003,x554004,x554005⟩:S32),x554006,x554007⟩:S35)]) x7 x8 (wrap64 (x9 + 1))) else (none))) else (if x3.length < 1256584717458 then (aX.l0 k (x3 ++ [(⟨x554000,x554001,x554002,(⟨x554003,x554004,x554005⟩:S32),x554006,x554007⟩:S35)]) x7 x8 (wrap64 (x9 + 1))) else (none)))
def aX.f:Nat→List (S35)→Option ((List (S35)))
 |0,_=>none
 |k + 1,l0=>aX.l0 k ([]:List (S35)) l0 (l0.length:Int) 0
end
def eZ.f (k:Nat) (l0:List (S35)):Option ((List (S35)) × Bool):=(gJ.f k l0).bind fun t580=>(if t580=true then ((aX.f k l0).bind fun t581=>(some (t581,true))) else (some (([]:List (S35)),false)))
def gB.f (a0:Int) (a1:Int) (a2:Int):Option (Bool):=if a0≥a1 then (some (decide (a0≤a2))) else (some false)
def fH.f (a0_0:Int) (a0_1:Int) (a0_2:Int) (a0_3:Int) (a0_4:Int) (l0_5:List (S32)) (l0_6:List (S35)) (l0_7:List (S35)) (a1:Bool):Option (Bool):=if a1=true then ((gB.f a0_1 0 3).bind fun t585=>(some t585)) else (some (a0_1 == 0))
def gH.f (a0_0:Int) (a0_1:Int) (a0_2:Int) (a0_3:Int) (a0_4:Int) (l0_5:List (S32)) (l0_6:List (S35)) (l0_7:List (S35)) (a1:Bool):Option (Bool):=if a1=true then ((gB.f a0_2 0 2).bind fun t587=>(some t587)) else (some (a0_2 == 0))
def iC.f (a0:Int):Option (Bool):=(gB.f a0 1 12).bind fun t588=>(some t588)
def gZ.f:Nat→Int→Int→List (S32)→Int→Option (Bool)
 |0,_,_,_,_=>none
 |k + 1,a0_0,a0_1,l0_2,a1=>if a1 < 1 then (some false) else (if a0_0=0 then ((gB.f a0_1 0 99999).bind fun t590=>(if t590=true then (some ((l0_2.length:Int) == 0)) else (some false))) else (if a0_0=13 then ((gB.f a0_1 0 3).bind fun t591=>(if t591=true then (some ((l0_2.length:Int) == 0)) else (some false))) else ((iC.f a0_0).bind fun t592=>(if t592=true then (if a0_1=0 then (if (l0_2.length:Int)=2 then (if 0 < (l0_2.length:Int) then ((gZ.f k ((aY l0_2 0).f0) ((aY l0_2 0).f1) ((aY l0_2 0).f2) (wrap64 (a1 - 1))).bind fun t594=>(if t594=true then (if 1 < (l0_2.length:Int) then ((gZ.f k ((aY l0_2 1).f0) ((aY l0_2 1).f1) ((aY l0_2 1).f2) (wrap64 (a1 - 1))).bind fun t596=>(some t596)) else (none)) else (some false))) else (none)) else (some false)) else (some false)) else (some false)))))
def fC.f (k:Nat) (a0_0:Int) (a0_1:Int) (l0_2:List (S32)):Option (Bool):=(gZ.f k a0_0 a0_1 l0_2 5).bind fun t598=>(some t598)
def lN.f (a0_0:Int) (a0_1:Int) (l0_2:List (S32)):Option (Bool):=if a0_0=0 then (if a0_1=0 then (some ((l0_2.length:Int) == 0)) else (some false)) else (some false)
def dY.j0:Nat→Bool→Int→Int→Int→Int→Int→List (S32)→List (S35)→List (S35)→Option (Bool)
 |0,_,_,_,_,_,_,_,_,_=>none
 |k + 1,x12,x601000,x601001,x601002,x601003,x601004,x601005,x601006,x601007=>if x12=true then (some false) else (if x601000=1 then ((fH.f x601000 x601001 x601002 x601003 x601004 x601005 x601006 x601007 true).bind fun t601=>(if t601=true then ((gH.f x601000 x601001 x601002 x601003 x601004 x601005 x601006 x601007 false).bind fun t602=>(if t602=true then ((fC.f k x601003 x601004 x601005).bind fun t603=>(some t603)) else (some false))) else (some false))) else (if x601000=4 then ((fH.f x601000 x601001 x601002 x601003 x601004 x601005 x601006 x601007 false).bind fun t604=>(if t604=true then ((gH.f x601000 x601001 x601002 x601003 x601004 x601005 x601006 x601007 true).bind fun t605=>(if t605=true then ((fC.f k x601003 x601004 x601005).bind fun t606=>(some t606)) else (some false))) else (some false))) else (if x601000=5 then ((fH.f x601000 x601001 x601002 x601003 x601004 x601005 x601006 x601007 true).bind fun t607=>(if t607=true then ((gH.f x601000 x601001 x601002 x601003 x601004 x601005 x601006 x601007 true).bind fun t608=>(if t608=true then ((lN.f x601003 x601004 x601005).bind fun t609=>(some t609)) else (some false))) else (some false))) else (if x601000=6 then ((fH.f x601000 x601001 x601002 x601003 x601004 x601005 x601006 x601007 false).bind fun t610=>(if t610=true then ((gH.f x601000 x601001 x601002 x601003 x601004 x601005 x601006 x601007 false).bind fun t611=>(if t611=true then ((lN.f x601003 x601004 x601005).bind fun t612=>(some t612)) else (some false))) else (some false))) else (if x601000=7 then ((fH.f x601000 x601001 x601002 x601003 x601004 x601005 x601006 x601007 false).bind fun t613=>(if t613=true then ((gH.f x601000 x601001 x601002 x601003 x601004 x601005 x601006 x601007 false).bind fun t614=>(if t614=true then ((fC.f k x601003 x601004 x601005).bind fun t615=>(some t615)) else (some false))) else (some false))) else (some false))))))
def dY.f (k:Nat) (a0_0:Int) (a0_1:Int) (a0_2:Int) (a0_3:Int) (a0_4:Int) (l0_5:List (S32)) (l0_6:List (S35)) (l0_7:List (S35)):Option (Bool):=if (l0_6.length:Int) > 0 then (dY.j0 k true a0_0 a0_1 a0_2 a0_3 a0_4 l0_5 l0_6 l0_7) else (dY.j0 k (decide ((l0_7.length:Int) > 0)) a0_0 a0_1 a0_2 a0_3 a0_4 l0_5 l0_6 l0_7)
mutual
def dH.j0:Nat→Int→Bool→Int→Int→Int→Int→Int→List (S32)→List (S35)→List (S35)→Option (Bool)
 |0,_,_,_,_,_,_,_,_,_,_=>none
 |k + 1,x1,x12,x617000,x617001,x617002,x617003,x617004,x617005,x617006,x617007=>if x12=true then ((dY.f k x617000 x617001 x617002 x617003 x617004 x617005 x617006 x617007).bind fun t617=>(some t617)) else (if x1 < 1 then (dH.j1 k x1 true x617000 x617001 x617002 x617003 x617004 x617005 x617006 x617007) else (if x617000=3 then (dH.j1 k x1 (decide ((x617007.length:Int) > 0)) x617000 x617001 x617002 x617003 x617004 x617005 x617006 x617007) else (dH.j1 k x1 false x617000 x617001 x617002 x617003 x617004 x617005 x617006 x617007)))
def dH.j1:Nat→Int→Bool→Int→Int→Int→Int→Int→List (S32)→List (S35)→List (S35)→Option (Bool)
 |0,_,_,_,_,_,_,_,_,_,_=>none
 |k + 1,x1,x27,x617000,x617001,x617002,x617003,x617004,x617005,x617006,x617007=>if x27=true then (some false) else ((fH.f x617000 x617001 x617002 x617003 x617004 x617005 x617006 x617007 false).bind fun t618=>(if t618=true then ((gH.f x617000 x617001 x617002 x617003 x617004 x617005 x617006 x617007 false).bind fun t619=>(if t619=true then ((fC.f k x617003 x617004 x617005).bind fun t620=>(if t620=true then ((dB.f k x617006 (wrap64 (x1 - 1))).bind fun t621=>(if t621=true then ((dB.f k x617007 (wrap64 (x1 - 1))).bind fun t622=>(some t622)) else (some false))) else (some false))) else (some false))) else (some false)))
def dH.f:Nat→Int→Int→Int→Int→Int→List (S32)→List (S35)→List (S35)→Int→Option (Bool)
 |0,_,_,_,_,_,_,_,_,_=>none
 |k + 1,a0_0,a0_1,a0_2,a0_3,a0_4,l0_5,l0_6,l0_7,a1=>if a0_0=2 then (dH.j0 k a1 false a0_0 a0_1 a0_2 a0_3 a0_4 l0_5 l0_6 l0_7) else (dH.j0 k a1 (a0_0 != 3) a0_0 a0_1 a0_2 a0_3 a0_4 l0_5 l0_6 l0_7)
def dB.l0:Nat→List (S35)→Int→Int→Option (Bool)
 |0,_,_,_=>none
 |k + 1,x0,x1,x5=>if x5 < (x0.length:Int) then (if 0≤x5 then ((dH.f k ((aA x0 x5).f0) ((aA x0 x5).f1) ((aA x0 x5).f2) ((aA x0 x5).f3.f0) ((aA x0 x5).f3.f1) ((aA x0 x5).f3.f2) ((aA x0 x5).f4) ((aA x0 x5).f5) x1).bind fun t624=>(if t624=true then (dB.l0 k x0 x1 (wrap64 (x5 + 1))) else (some false))) else (none)) else (some true)
def dB.f:Nat→List (S35)→Int→Option (Bool)
 |0,_,_=>none
 |k + 1,l0,a1=>dB.l0 k l0 a1 0
end
def gK.f (k:Nat) (l0:List (S35)):Option (Bool):=(dB.f k l0 3).bind fun t625=>(if t625=true then ((bX.f k l0).bind fun t626=>(some (decide (t626≤16)))) else (some false))
def iR.f (a0:Int):Option (Bool):=(gB.f a0 (-2147483648) 2147483647).bind fun t627=>(some t627)
def mY.f (a0:Bool):Option (Int):=if a0=true then (some 1) else (some 0)
def kH.f (a0:Int):Option (Int):=if (Int.tmod a0 4294967296) > 2147483647 then (some (wrap64 ((Int.tmod a0 4294967296) - 4294967296))) else (if (Int.tmod a0 4294967296) < (-2147483648) then (some (wrap64 ((Int.tmod a0 4294967296) + 4294967296))) else (some (Int.tmod a0 4294967296)))
def mE.f (a0:Int) (a1:Int) (a2:Bool):Option (Int):=if a2=true then (if 0≤(Go.bits .and .i64 a1 31) then (some (shr .i64 a0 (Go.bits .and .i64 a1 31))) else (none)) else (if 0≤(Go.bits .and .i64 a1 31) then ((kH.f (shl .i64 a0 (Go.bits .and .i64 a1 31))).bind fun t628=>(some t628)) else (none))
def oH.f (a0:Int) (a1:Int):Option (Int):=if a1=0 then (some (-1)) else ((kH.f (wrap64 (Int.tdiv a0 a1))).bind fun t629=>(some t629))
def oI.f (a0:Int) (a1:Int):Option (Int):=if a1=0 then (some a0) else (some (Int.tmod a0 a1))
def fT.j0:Nat→Int→Int→Int→Bool→Option (Int × Bool)
 |0,_,_,_,_=>none
 |k + 1,x0,x1,x2,x20=>if x20=true then (some (0,false)) else (if x0=1 then (some (Go.bits .or .i64 x1 x2,true)) else (if x0=2 then (some (Go.bits .xor .i64 x1 x2,true)) else (if x0=3 then (some (Go.bits .and .i64 x1 x2,true)) else (if x0=4 then ((mY.f (x1 == x2)).bind fun t633=>(some (t633,true))) else (if x0=5 then ((mY.f (decide (x1 < x2))).bind fun t634=>(some (t634,true))) else (if x0=6 then ((mE.f x1 x2 false).bind fun t635=>(some (t635,true))) else (if x0=7 then ((mE.f x1 x2 true).bind fun t636=>(some (t636,true))) else (if x0=8 then ((kH.f (wrap64 (x1 + x2))).bind fun t637=>(some (t637,true))) else (if x0=9 then ((kH.f (wrap64 (x1 - x2))).bind fun t638=>(some (t638,true))) else (if x0=10 then ((kH.f (wrap64 (x1 * x2))).bind fun t639=>(some (t639,true))) else (if x0=11 then ((oH.f x1 x2).bind fun t640=>(some (t640,true))) else ((oI.f x1 x2).bind fun t641=>(some (t641,true))))))))))))))
def fT.f (k:Nat) (a0:Int) (a1:Int) (a2:Int):Option (Int × Bool):=(iC.f a0).bind fun t630=>(if t630=true then ((iR.f a1).bind fun t631=>(if t631=true then ((iR.f a2).bind fun t632=>(fT.j0 k a0 a1 a2 (!t632))) else (fT.j0 k a0 a1 a2 true))) else (fT.j0 k a0 a1 a2 true))
mutual
def eF.j0:Nat→Bool→Int→Int→List (S32)→Int→Int→List (S32)→Int→Int→List (S32)→Option (Int × Int × (List (S32)))
 |0,_,_,_,_,_,_,_,_,_,_=>none
 |k + 1,x33,x643000,x643001,x643002,x656000,x656001,x656002,x663000,x663001,x663002=>if x33=true then ((fT.f k x643000 x656001 x663001).bind fun bt663=>((gB.f bt663.1 0 99999).bind fun t665=>(if t665=true then ((fG.f 0 bt663.1).bind fun bt666=>(some (bt666.1,bt666.2.1,bt666.2.2))) else ((iZ.f x643000 x656000 x656001 x656002 x663000 x663001 x663002).bind fun bt671=>(some (bt671.1,bt671.2.1,bt671.2.2)))))) else ((iZ.f x643000 x656000 x656001 x656002 x663000 x663001 x663002).bind fun bt676=>(some (bt676.1,bt676.2.1,bt676.2.2)))
def eF.f:Nat→Int→Int→List (S32)→Option (Int × Int × (List (S32)))
 |0,_,_,_=>none
 |k + 1,a0_0,a0_1,l0_2=>if (l0_2.length:Int)=0 then ((fG.f a0_0 a0_1).bind fun bt644=>(some (bt644.1,bt644.2.1,bt644.2.2))) else (if 0 < (l0_2.length:Int) then ((eF.f k ((aY l0_2 0).f0) ((aY l0_2 0).f1) ((aY l0_2 0).f2)).bind fun bt650=>(if 1 < (l0_2.length:Int) then ((eF.f k ((aY l0_2 1).f0) ((aY l0_2 1).f1) ((aY l0_2 1).f2)).bind fun bt657=>(if bt650.1=0 then (eF.j0 k (bt657.1 == 0) a0_0 a0_1 l0_2 bt650.1 bt650.2.1 bt650.2.2 bt657.1 bt657.2.1 bt657.2.2) else (eF.j0 k false a0_0 a0_1 l0_2 bt650.1 bt650.2.1 bt650.2.2 bt657.1 bt657.2.1 bt657.2.2))) else (none))) else (none))
end
def IC (x:S35) (op n:Int) (a:List S32) (b l:List S35):List S35:=if (x.f0 == 2 && (op == 0 && n != 0))=true then b else if (x.f0 == 2 && op == 0)=true then l else if (x.f0 == 3 && (op == 0 && n == 0))=true then [] else [⟨x.f0,x.f1,x.f2,⟨op,n,a⟩,b,l⟩]
mutual
def bM.l0:Nat→List S35→List S35→Int→Option (List S35)
 |0,_,_,_=>none
 |k + 1,l0,x3,x4=>if x4 < (l0.length:Int) then (if 0≤x4 then ((gL.f k (aA l0 x4)).bind fun y=>if x3.length + y.length < 1256584717458 then bM.l0 k l0 (x3 ++ y) (wrap64 (x4 + 1)) else none) else none) else some x3
def bM.f:Nat→List S35→Option (List S35)
 |0,_=>none
 |k + 1,l0=>bM.l0 k l0 [] 0
def gL.f:Nat→S35→Option (List S35)
 |0,_=>none
 |k + 1,x=>(eF.f k x.f3.f0 x.f3.f1 x.f3.f2).bind fun e=>(bM.f k x.f4).bind fun b=>(bM.f k x.f5).bind fun l=>some (IC x e.1 e.2.1 e.2.2 b l)
end
def nT.f (k:Nat) (l0:List (S35)):Option ((List (S35)) × Bool):=(gK.f k l0).bind fun t681=>(if t681=true then ((bM.f k l0).bind fun t682=>(some (t682,true))) else (some ((([]:List (S35))),false)))
mutual
def bI.j0:Nat→Bool→Int→Int→List (S32)→Int→Int→List (S32)→Option (Bool)
 |0,_,_,_,_,_,_,_=>none
 |k + 1,x26,x689000,x689001,x689002,x690000,x690001,x690002=>if x26=true then (some false) else (bI.l0 k 0 x689000 x689001 x689002 x690000 x690001 x690002)
def bI.l0:Nat→Int→Int→Int→List (S32)→Int→Int→List (S32)→Option (Bool)
 |0,_,_,_,_,_,_,_=>none
 |k + 1,x5,x689000,x689001,x689002,x690000,x690001,x690002=>if x5 < (x689002.length:Int) then (if 0≤x5 then (if x5 < (x690002.length:Int) then ((bI.f k ((aY x689002 x5).f0) ((aY x689002 x5).f1) ((aY x689002 x5).f2) ((aY x690002 x5).f0) ((aY x690002 x5).f1) ((aY x690002 x5).f2)).bind fun t692=>(if t692=true then (bI.l0 k (wrap64 (x5 + 1)) x689000 x689001 x689002 x690000 x690001 x690002) else (some false))) else (none)) else (none)) else (some true)
def bI.f:Nat→Int→Int→List (S32)→Int→Int→List (S32)→Option (Bool)
 |0,_,_,_,_,_,_=>none
 |k + 1,a0_0,a0_1,l0_2,a1_0,a1_1,l1_2=>if a0_0=a1_0 then (if a0_1=a1_1 then (bI.j0 k ((l0_2.length:Int) != (l1_2.length:Int)) a0_0 a0_1 l0_2 a1_0 a1_1 l1_2) else (bI.j0 k true a0_0 a0_1 l0_2 a1_0 a1_1 l1_2)) else (bI.j0 k true a0_0 a0_1 l0_2 a1_0 a1_1 l1_2)
end
mutual
def bF.l0:Nat→List (S35)→List (S35)→Int→Option (Bool)
 |0,_,_,_=>none
 |k + 1,x0,x1,x5=>if x5 < (x0.length:Int) then (if 0≤x5 then (if x5 < (x1.length:Int) then (if ((aA x0 x5).f0)=((aA x1 x5).f0) then (if ((aA x0 x5).f1)=((aA x1 x5).f1) then (if ((aA x0 x5).f2)=((aA x1 x5).f2) then ((bI.f k ((aA x0 x5).f3.f0) ((aA x0 x5).f3.f1) ((aA x0 x5).f3.f2) ((aA x1 x5).f3.f0) ((aA x1 x5).f3.f1) ((aA x1 x5).f3.f2)).bind fun t697=>(bF.j1 k x0 x1 x5 (!t697) ((aA x0 x5).f0) ((aA x0 x5).f1) ((aA x0 x5).f2) ((aA x0 x5).f3.f0) ((aA x0 x5).f3.f1) ((aA x0 x5).f3.f2) ((aA x0 x5).f4) ((aA x0 x5).f5) ((aA x1 x5).f0) ((aA x1 x5).f1) ((aA x1 x5).f2) ((aA x1 x5).f3.f0) ((aA x1 x5).f3.f1) ((aA x1 x5).f3.f2) ((aA x1 x5).f4) ((aA x1 x5).f5))) else (bF.j1 k x0 x1 x5 true ((aA x0 x5).f0) ((aA x0 x5).f1) ((aA x0 x5).f2) ((aA x0 x5).f3.f0) ((aA x0 x5).f3.f1) ((aA x0 x5).f3.f2) ((aA x0 x5).f4) ((aA x0 x5).f5) ((aA x1 x5).f0) ((aA x1 x5).f1) ((aA x1 x5).f2) ((aA x1 x5).f3.f0) ((aA x1 x5).f3.f1) ((aA x1 x5).f3.f2) ((aA x1 x5).f4) ((aA x1 x5).f5))) else (bF.j1 k x0 x1 x5 true ((aA x0 x5).f0) ((aA x0 x5).f1) ((aA x0 x5).f2) ((aA x0 x5).f3.f0) ((aA x0 x5).f3.f1) ((aA x0 x5).f3.f2) ((aA x0 x5).f4) ((aA x0 x5).f5) ((aA x1 x5).f0) ((aA x1 x5).f1) ((aA x1 x5).f2) ((aA x1 x5).f3.f0) ((aA x1 x5).f3.f1) ((aA x1 x5).f3.f2) ((aA x1 x5).f4) ((aA x1 x5).f5))) else (bF.j1 k x0 x1 x5 true ((aA x0 x5).f0) ((aA x0 x5).f1) ((aA x0 x5).f2) ((aA x0 x5).f3.f0) ((aA x0 x5).f3.f1) ((aA x0 x5).f3.f2) ((aA x0 x5).f4) ((aA x0 x5).f5) ((aA x1 x5).f0) ((aA x1 x5).f1) ((aA x1 x5).f2) ((aA x1 x5).f3.f0) ((aA x1 x5).f3.f1) ((aA x1 x5).f3.f2) ((aA x1 x5).f4) ((aA x1 x5).f5))) else (none)) else (none)) else (some true)
def bF.j1:Nat→List (S35)→List (S35)→Int→Bool→Int→Int→Int→Int→Int→List (S32)→List (S35)→List (S35)→Int→Int→Int→Int→Int→List (S32)→List (S35)→List (S35)→Option (Bool)
 |0,_,_,_,_,_,_,_,_,_,_,_,_,_,_,_,_,_,_,_,_=>none
 |k + 1,x0,x1,x5,x53,x695000,x695001,x695002,x695003,x695004,x695005,x695006,x695007,x697000,x697001,x697002,x697003,x697004,x697005,x697006,x697007=>if x53=true then (some false) else ((bF.f k x695006 x697006).bind fun t698=>(if t698=true then ((bF.f k x695007 x697007).bind fun t699=>(if t699=true then (bF.l0 k x0 x1 (wrap64 (x5 + 1))) else (some false))) else (some false)))
def bF.f:Nat→List (S35)→List (S35)→Option (Bool)
 |0,_,_=>none
 |k + 1,l0,l1=>if (l0.length:Int)=(l1.length:Int) then (bF.l0 k l0 l1 0) else (some false)
end
mutual
def iG.j0:Nat→List Int→List Int→Bool→Option (Bool)
 |0,_,_,_=>none
 |k + 1,x0,x1,x22=>if x22=true then (some true) else ((lS.f k x0).bind fun t700=>((eZ.f k t700).bind fun bt703=>((nT.f k t700).bind fun bt707=>(if (bt703.2 != bt707.2)=true then (iG.j1 k x1 t700 bt703.1 bt703.2 bt707.1 bt707.2 true) else ((bF.f k bt703.1 bt707.1).bind fun t711=>(if t711=true then (iG.j1 k x1 t700 bt703.1 bt703.2 bt707.1 bt707.2 (!bt703.2)) else (iG.j1 k x1 t700 bt703.1 bt703.2 bt707.1 bt707.2 true)))))))
def iG.j1:Nat→List Int→List (S35)→List (S35)→Bool→List (S35)→Bool→Bool→Option (Bool)
 |0,_,_,_,_,_,_,_=>none
 |k + 1,x1,x5,x6,x7,x8,x9,x47=>if x47=true then (if (x7 == x9)=true then ((bF.f k x6 x8).bind fun t712=>(some t712)) else (some false)) else (if (wrap64 ((x5.length:Int) + 1))=0 then (none) else (if 0≤((x1.length:Int) % (wrap64 ((x5.length:Int) + 1))) then (if ((x1.length:Int) % (wrap64 ((x5.length:Int) + 1)))≤(x5.length:Int) then ((eZ.f k (x5.take (((x1.length:Int) % (wrap64 ((x5.length:Int) + 1))):Int).toNat)).bind fun bt718=>((eZ.f k (x5.drop (((x1.length:Int) % (wrap64 ((x5.length:Int) + 1))):Int).toNat)).bind fun bt727=>(if bt718.2=true then (if bt727.2=true then ((some (([]:List (S35)):List (S35))).bind fun y731=>(if y731.length + bt718.1.length < 1256584717458 then ((some (y731 ++ bt718.1:List (S35))).bind fun y734=>(if y734.length + bt727.1.length < 1256584717458 then ((bF.f k x6 (y734 ++ bt727.1)).bind fun t740=>(some t740)) else (none))) else (none))) else (some false)) else (some false)))) else (none)) else (none)))
end
def iG.f (k:Nat) (l0:List Int) (l1:List Int):Option (Bool):=if (l0.length:Int) > 1048576 then (iG.j0 k l0 l1 true) else (iG.j0 k l0 l1 (decide ((l1.length:Int) > 1048576)))
def lV.j0:Nat→List (S35)→Bool→List (S35)→Bool→Bool→Option (Bool)
 |0,_,_,_,_,_=>none
 |k + 1,x4,x5,x6,x7,x37=>if x37=true then (if (x5 == x7)=true then ((bF.f k x4 x6).bind fun t753=>(some t753)) else (some false)) else ((eZ.f k x4).bind fun bt754=>(if bt754.2=true then ((bF.f k bt754.1 x4).bind fun t758=>(some t758)) else (some false)))
def lV.f (k:Nat) (l0:List Int):Option (Bool):=if (l0.length:Int) > 1048576 then (some true) else ((lS.f k l0).bind fun t741=>((eZ.f k t741).bind fun bt744=>((nT.f k t741).bind fun bt748=>(if (bt744.2 != bt748.2)=true then (lV.j0 k bt744.1 bt744.2 bt748.1 bt748.2 true) else ((bF.f k bt744.1 bt748.1).bind fun t752=>(if t752=true then (lV.j0 k bt744.1 bt744.2 bt748.1 bt748.2 (!bt744.2)) else (lV.j0 k bt744.1 bt744.2 bt748.1 bt748.2 true)))))))
def aAo.f (a0:Int):Option (Int × Int × (List (S32))):=some (0,a0,([]:List (S32)))
def MO.f (k:Nat) (l0:List Int):Option Bool:=if (l0.length:Int) > 1048576 then some true else (lS.f k l0).bind fun t=>(eZ.f k t).bind fun a=>(nT.f k t).bind fun b=>if a.2=b.2 then ((bF.f k a.1 b.1).bind fun e=>if e=true then (if a.2=true then ((eZ.f k [(⟨2,0,0,⟨0,1,[]⟩,t,[]⟩:S35)]).bind fun p=>(eZ.f k [(⟨2,0,0,⟨0,0,[]⟩,t,[]⟩:S35)]).bind fun q=>(gJ.f k [(⟨2,0,0,⟨0,1,[]⟩,t,[]⟩:S35)]).bind fun v=>if v=true then (if p.2=true then (if q.2=true then ((bF.f k p.1 a.1).bind fun s=>if s=true then some ((q.1.length:Int) == 0) else none) else none) else none) else (if p.2=false then (if q.2=false then some true else none) else none)) else some true) else none) else none
mutual
def bO.l0:Nat→Int→List (S35)→Int→Int→Option (Int)
 |0,_,_,_,_=>none
 |k + 1,x3,x8,x9,x10=>if x10 < x9 then (if 0≤x10 then (if x10 < (x8.length:Int) then ((bO.f k ((aA x8 x10).f4)).bind fun t762=>((bO.f k ((aA x8 x10).f5)).bind fun t763=>(bO.l0 k (wrap64 (x3 + (wrap64 (t762 + t763)))) x8 x9 (wrap64 (x10 + 1))))) else (none)) else (none)) else (some x3)
def bO.f:Nat→List (S35)→Option (Int)
 |0,_=>none
 |k + 1,l0=>bO.l0 k (l0.length:Int) l0 (l0.length:Int) 0
end
def vX.f (k:Nat) (l0:List (S35)):Option (Int):=(gJ.f k l0).bind fun t764=>(if t764=true then ((bO.f k l0).bind fun t765=>(some t765)) else (some (-1)))
def nX.j0:Nat→List (S35)→List (S35)→Bool→List (S35)→Bool→Bool→Option (Bool)
 |0,_,_,_,_,_,_=>none
 |k + 1,x3,x4,x5,x6,x7,x35=>if x35=true then (if (x5 == x7)=true then ((bF.f k x4 x6).bind fun t778=>(some t778)) else (some false)) else ((gJ.f k x4).bind fun t779=>(if t779=true then ((vX.f k x4).bind fun t780=>((vX.f k x3).bind fun t781=>(some (decide (t780≤t781))))) else (some false)))
def nX.f (k:Nat) (l0:List Int):Option (Bool):=if (l0.length:Int) > 1048576 then (some true) else ((lS.f k l0).bind fun t766=>((eZ.f k t766).bind fun bt769=>((nT.f k t766).bind fun bt773=>(if (bt769.2 != bt773.2)=true then (nX.j0 k t766 bt769.1 bt769.2 bt773.1 bt773.2 true) else ((bF.f k bt769.1 bt773.1).bind fun t777=>(if t777=true then (nX.j0 k t766 bt769.1 bt769.2 bt773.1 bt773.2 (!bt769.2)) else (nX.j0 k t766 bt769.1 bt769.2 bt773.1 bt773.2 true)))))))
mutual
def kG.l0:Nat→List (S35)→Int→Option (Bool)
 |0,_,_=>none
 |k + 1,x0,x3=>if x3 < (x0.length:Int) then (if 0≤x3 then (if ((aA x0 x3).f0)=2 then (if ((aA x0 x3).f3.f0)=0 then (kG.j1 k x0 x3 true ((aA x0 x3).f0) ((aA x0 x3).f1) ((aA x0 x3).f2) ((aA x0 x3).f3.f0) ((aA x0 x3).f3.f1) ((aA x0 x3).f3.f2) ((aA x0 x3).f4) ((aA x0 x3).f5)) else (if ((aA x0 x3).f0)=3 then (kG.j1 k x0 x3 false ((aA x0 x3).f0) ((aA x0 x3).f1) ((aA x0 x3).f2) ((aA x0 x3).f3.f0) ((aA x0 x3).f3.f1) ((aA x0 x3).f3.f2) ((aA x0 x3).f4) ((aA x0 x3).f5)) else (kG.j1 k x0 x3 false ((aA x0 x3).f0) ((aA x0 x3).f1) ((aA x0 x3).f2) ((aA x0 x3).f3.f0) ((aA x0 x3).f3.f1) ((aA x0 x3).f3.f2) ((aA x0 x3).f4) ((aA x0 x3).f5)))) else (if ((aA x0 x3).f0)=3 then (if ((aA x0 x3).f3.f0)=0 then (kG.j1 k x0 x3 (((aA x0 x3).f3.f1) == 0) ((aA x0 x3).f0) ((aA x0 x3).f1) ((aA x0 x3).f2) ((aA x0 x3).f3.f0) ((aA x0 x3).f3.f1) ((aA x0 x3).f3.f2) ((aA x0 x3).f4) ((aA x0 x3).f5)) else (kG.j1 k x0 x3 false ((aA x0 x3).f0) ((aA x0 x3).f1) ((aA x0 x3).f2) ((aA x0 x3).f3.f0) ((aA x0 x3).f3.f1) ((aA x0 x3).f3.f2) ((aA x0 x3).f4) ((aA x0 x3).f5))) else (kG.j1 k x0 x3 false ((aA x0 x3).f0) ((aA x0 x3).f1) ((aA x0 x3).f2) ((aA x0 x3).f3.f0) ((aA x0 x3).f3.f1) ((aA x0 x3).f3.f2) ((aA x0 x3).f4) ((aA x0 x3).f5)))) else (none)) else (some false)
def kG.j1:Nat→List (S35)→Int→Bool→Int→Int→Int→Int→Int→List (S32)→List (S35)→List (S35)→Option (Bool)
 |0,_,_,_,_,_,_,_,_,_,_,_=>none
 |k + 1,x0,x3,x40,x784000,x784001,x784002,x784003,x784004,x784005,x784006,x784007=>if x40=true then (some true) else ((kG.f k x784006).bind fun t784=>(if t784=true then (some true) else ((kG.f k x784007).bind fun t785=>(if t785=true then (some true) else (kG.l0 k x0 (wrap64 (x3 + 1)))))))
def kG.f:Nat→List (S35)→Option (Bool)
 |0,_=>none
 |k + 1,l0=>kG.l0 k l0 0
end
mutual
def kC.l0:Nat→List (S35)→Int→Int→Int→Option (Int)
 |0,_,_,_,_=>none
 |k + 1,x0,x1,x5,x6=>if x6 < (x0.length:Int) then (if 0≤x6 then (if ((aA x0 x6).f0)=x1 then ((kC.f k ((aA x0 x6).f4) x1).bind fun t788=>((kC.f k ((aA x0 x6).f5) x1).bind fun t790=>(kC.l0 k x0 x1 (wrap64 ((wrap64 ((wrap64 (x5 + 1)) + t788)) + t790)) (wrap64 (x6 + 1))))) else ((kC.f k ((aA x0 x6).f4) x1).bind fun t792=>((kC.f k ((aA x0 x6).f5) x1).bind fun t794=>(kC.l0 k x0 x1 (wrap64 ((wrap64 (x5 + t792)) + t794)) (wrap64 (x6 + 1)))))) else (none)) else (some x5)
def kC.f:Nat→List (S35)→Int→Option (Int)
 |0,_,_=>none
 |k + 1,l0,a1=>kC.l0 k l0 a1 0 0
end
def nE.j0:Nat→List (S35)→List (S35)→Bool→List (S35)→Bool→Bool→Option (Bool)
 |0,_,_,_,_,_,_=>none
 |k + 1,x3,x4,x5,x6,x7,x35=>if x35=true then (if (x5 == x7)=true then ((bF.f k x4 x6).bind fun t807=>(some t807)) else (some false)) else ((kG.f k x4).bind fun t808=>(if t808=true then (some false) else ((kC.f k x4 3).bind fun t809=>((kC.f k x3 3).bind fun t810=>(some (decide (t809≤t810)))))))
def nE.f (k:Nat) (l0:List Int):Option (Bool):=if (l0.length:Int) > 1048576 then (some true) else ((lS.f k l0).bind fun t795=>((eZ.f k t795).bind fun bt798=>((nT.f k t795).bind fun bt802=>(if (bt798.2 != bt802.2)=true then (nE.j0 k t795 bt798.1 bt798.2 bt802.1 bt802.2 true) else ((bF.f k bt798.1 bt802.1).bind fun t806=>(if t806=true then (nE.j0 k t795 bt798.1 bt798.2 bt802.1 bt802.2 (!bt798.2)) else (nE.j0 k t795 bt798.1 bt798.2 bt802.1 bt802.2 true)))))))
def dZ.l0:Nat→List Int→Int→Int→List Int→Int→Option (List Int × Int)
 |0,_,_,_,_,_=>none
 |k + 1,x3,x4,x5,x1000,x1001=>if x5 < x4 then ((some (([1,1,2,3,4]:List Int):List Int)).bind fun y820=>((aH.f k x1000 x1001 5).bind fun bt823=>(if 0≤bt823.1 then (if bt823.1 < (y820.length:Int) then (if x3.length < 17592186044416 then (dZ.l0 k (x3 ++ [rd y820 bt823.1]) x4 (wrap64 (x5 + 1)) x1000 bt823.2) else (none)) else (none)) else (none)))) else (some (x3,x1001))
def dZ.f (k:Nat) (s0_0:List Int) (s0_1:Int):Option (List Int × Int):=(some (([0,1,1,2,2,3]:List Int):List Int)).bind fun y814=>((aH.f k s0_0 s0_1 6).bind fun bt817=>(if 0≤bt817.1 then (if bt817.1 < (y814.length:Int) then (dZ.l0 k (([]:List Int)) (rd y814 bt817.1) 0 s0_0 bt817.2) else (none)) else (none)))
def cK.l0:Nat→Int→Int→List Int→Int→List Int→List (List (S35))→Option (List Int × (List (List (S35))) × Int)
 |0,_,_,_,_,_,_=>none
 |k + 1,x4,x5,x1000,x1001,x838000,x838001=>if x5 < x4 then ((eD.f k x1000 x1001 (x838000.length:Int)).bind fun bt840=>(if x838001.length < 5864062014805 then (cK.l0 k x4 (wrap64 (x5 + 1)) x1000 bt840.2 x838000 (x838001 ++ [bt840.1])) else (none))) else ((aH.f k x1000 x1001 16).bind fun bt847=>(if bt847.1=0 then ((iA.f k x1000 bt847.2).bind fun bt849=>(if 0 < (x838001.length:Int) then (some (x838000,(x838001.set (0:Int).toNat (([(⟨bt849.1,bt849.2.1,bt849.2.2.1,(⟨bt849.2.2.2.1,bt849.2.2.2.2.1,bt849.2.2.2.2.2.1⟩:S32),bt849.2.2.2.2.2.2.1,bt849.2.2.2.2.2.2.2.1⟩:S35)]:List (S35)))),bt849.2.2.2.2.2.2.2.2)) else (none))) else (some (x838000,x838001,bt847.2))))
def cK.f (k:Nat) (s0_0:List Int) (s0_1:Int):Option (List Int × (List (List (S35))) × Int):=(dZ.f k s0_0 s0_1).bind fun bt830=>((aH.f k s0_0 bt830.2 3).bind fun bt838=>(cK.l0 k (wrap64 (1 + bt838.1)) 0 s0_0 bt838.2 bt830.1 (([]:List (List (S35))))))
def dM.f (k:Nat) (s0_0:List Int) (s0_1:Int):Option (List Int × (List (List (S35))) × Int):=(cK.f k s0_0 s0_1).bind fun bt869=>((aH.f k s0_0 bt869.2.2 30).bind fun bt877=>(if bt877.1=0 then ((some (([0,5]:List Int):List Int)).bind fun y879=>((aH.f k s0_0 bt877.2 2).bind fun bt882=>(if 0≤bt882.1 then (if bt882.1 < (y879.length:Int) then (if bt869.1.length < 17592186044416 then (some ((bt869.1 ++ [rd y879 bt882.1]),bt869.2.1,bt882.2)) else (none)) else (none)) else (none)))) else (if bt877.1=1 then ((gV.f k s0_0 bt877.2).bind fun bt888=>(if bt869.2.1.length < 5864062014805 then (some (bt869.1,(bt869.2.1 ++ [(([(⟨4,0,(bt869.1.length:Int),(⟨bt888.1,bt888.2.1,bt888.2.2.1⟩:S32),([]:List (S35)),([]:List (S35))⟩:S35)]:List (S35)))]),bt888.2.2.2)) else (none))) else (if bt877.1=2 then (some (bt869.1,(([]:List (List (S35)))),bt877.2)) else (if bt877.1=3 then (if 0 < (bt869.2.1.length:Int) then ((some (([fB bt869.2.1 0,fB bt869.2.1 0,fB bt869.2.1 0]:List (List (S35))):List (List (S35)))).bind fun y906=>(if bt869.2.1.length + y906.length < 5864062014805 then (some (bt869.1,(bt869.2.1 ++ y906),bt877.2)) else (none))) else (none)) else (if bt877.1=4 then (if 0 < (bt869.2.1.length:Int) then (if (fB bt869.2.1 0).length + 1 < 1256584717458 then (some (bt869.1,bt869.2.1.set 0 (fB bt869.2.1 0 ++ [⟨9,0,0,⟨0,0,[]⟩,[],[]⟩]),bt877.2)) else (none)) else (none)) else (some (bt869.1,bt869.2.1,bt877.2))))))))
def bT.j0:Nat→Bool→List Int→Int→List Int→List (List (S35))→Option (List Int × (List (List (S35))))
 |0,_,_,_,_,_=>none
 |k + 1,x18,x916000,x916001,x924000,x924001=>if x18=true then ((eP.f k x916000 x916001 (x924000.length:Int) 1 false).bind fun bt926=>((iT.f k x916000 bt926.2.2.2.2.2.2.2.2).bind fun bt942=>((aH.f k x916000 bt942.2 3).bind fun bt944=>((fG.f 0 bt944.1).bind fun bt946=>((aH.f k x916000 bt944.2 3).bind fun bt951=>((fG.f 0 bt951.1).bind fun bt953=>((iZ.f bt942.1 bt946.1 bt946.2.1 bt946.2.2 bt953.1 bt953.2.1 bt953.2.2).bind fun bt958=>(if 0 < (x924001.length:Int) then (some (x924000,x924001.set 0 [(⟨bt926.1,bt926.2.1,bt926.2.2.1,⟨bt958.1,bt958.2.1,bt958.2.2⟩,bt926.2.2.2.2.2.2.1,bt926.2.2.2.2.2.2.2.1⟩:S35)])) else (none))))))))) else (some (x924000,x924001))
def bT.f (k:Nat) (l0:List Int):Option (List Int × (List (List (S35)))):=(mZ.f l0).bind fun bt913=>((dM.f k bt913.1 bt913.2).bind fun bt916=>((aH.f k bt913.1 bt916.2.2 3).bind fun bt924=>(if bt924.1=0 then (bT.j0 k (decide ((bt916.2.1.length:Int) > 0)) bt913.1 bt924.2 bt916.1 bt916.2.1) else (bT.j0 k false bt913.1 bt924.2 bt916.1 bt916.2.1))))
def dQ.l0:Nat→List Int→List Int→Int→Int→Option (Bool)
 |0,_,_,_,_=>none
 |k + 1,x0,x5,x6,x7=>if x7 < x6 then (if 0≤x7 then (if x7 < (x5.length:Int) then (if (rd x5 x7) < 1 then (some false) else (if (rd x5 x7) > 4 then (some false) else (dQ.l0 k x0 x5 x6 (wrap64 (x7 + 1))))) else (none)) else (none)) else (some (decide ((x0.length:Int)≤3)))
def dQ.f (k:Nat) (l0:List Int):Option (Bool):=dQ.l0 k l0 l0 (l0.length:Int) 0
mutual
def bB.j0:Nat→Bool→List Int→List (List (S35))→Option (Bool)
 |0,_,_,_=>none
 |k + 1,x20,x965000,x965001=>if x20=true then (some false) else (bB.l0 k x965001 (x965001.length:Int) 0 x965000 x965001)
def bB.l0:Nat→List (List (S35))→Int→Int→List Int→List (List (S35))→Option (Bool)
 |0,_,_,_,_,_=>none
 |k + 1,x22,x23,x24,x965000,x965001=>if x24 < x23 then (if 0≤x24 then (if x24 < (x22.length:Int) then ((fP.f k (fB x22 x24) (x965000.length:Int)).bind fun t967=>(if t967=true then (bB.l0 k x22 x23 (wrap64 (x24 + 1)) x965000 x965001) else (some false))) else (none)) else (none)) else (some true)
end
def bB.f (k:Nat) (l0_0:List Int) (l0_1:List (List (S35))):Option (Bool):=(dQ.f k l0_0).bind fun t965=>(if t965=true then (if (l0_1.length:Int) < 1 then (bB.j0 k true l0_0 l0_1) else (bB.j0 k (decide ((l0_1.length:Int) > 3)) l0_0 l0_1)) else (bB.j0 k true l0_0 l0_1))
def iQ.f (l0:List Int):Option (List Int):=(some (([]:List Int):List Int)).bind fun y968=>(if y968.length + l0.length < 17592186044416 then (some (y968 ++ l0)) else (none))
def bN.l0:Nat→List (List (S35))→Int→Int→List Int→List (List (S35))→Option (List Int × (List (List (S35))) × Bool)
 |0,_,_,_,_,_=>none
 |k + 1,x16,x17,x18,x981000,x981001=>if x18 < x17 then (if 0≤x18 then (if x18 < (x16.length:Int) then ((aX.f k (fB x16 x18)).bind fun t982=>(if x981001.length < 5864062014805 then (bN.l0 k x16 x17 (wrap64 (x18 + 1)) x981000 (x981001 ++ [t982])) else (none))) else (none)) else (none)) else (some (x981000,x981001,true))
def bN.f (k:Nat) (l0_0:List Int) (l0_1:List (List (S35))):Option (List Int × (List (List (S35))) × Bool):=(bB.f k l0_0 l0_1).bind fun t976=>(if t976=true then ((iQ.f l0_0).bind fun t977=>(bN.l0 k l0_1 (l0_1.length:Int) 0 t977 ([]:List (List (S35))))) else (some (([]:List Int),([]:List (List (S35))),false)))
def eB.l0:Nat→List Int→Int→Option (Bool)
 |0,_,_=>none
 |k + 1,x0,x3=>if x3 < (x0.length:Int) then (if 0≤x3 then ((gB.f (rd x0 x3) 1 4).bind fun t989=>(if t989=true then (eB.l0 k x0 (wrap64 (x3 + 1))) else (some false))) else (none)) else (some (decide ((x0.length:Int)≤3)))
def eB.f (k:Nat) (l0:List Int):Option (Bool):=eB.l0 k l0 0
mutual
def bW.l0:Nat→List (S35)→Int→Int→Option (Bool)
 |0,_,_,_=>none
 |k + 1,x0,x1,x5=>if x5 < (x0.length:Int) then (if 0≤x5 then (if ((aA x0 x5).f0)=4 then (bW.j1 k x0 x1 x5 (decide (((aA x0 x5).f2)≥x1)) ((aA x0 x5).f0) ((aA x0 x5).f1) ((aA x0 x5).f2) ((aA x0 x5).f3.f0) ((aA x0 x5).f3.f1) ((aA x0 x5).f3.f2) ((aA x0 x5).f4) ((aA x0 x5).f5)) else (if ((aA x0 x5).f0)=5 then (bW.j1 k x0 x1 x5 (decide (((aA x0 x5).f2)≥x1)) ((aA x0 x5).f0) ((aA x0 x5).f1) ((aA x0 x5).f2) ((aA x0 x5).f3.f0) ((aA x0 x5).f3.f1) ((aA x0 x5).f3.f2) ((aA x0 x5).f4) ((aA x0 x5).f5)) else (bW.j1 k x0 x1 x5 false ((aA x0 x5).f0) ((aA x0 x5).f1) ((aA x0 x5).f2) ((aA x0 x5).f3.f0) ((aA x0 x5).f3.f1) ((aA x0 x5).f3.f2) ((aA x0 x5).f4) ((aA x0 x5).f5)))) else (none)) else (some true)
def bW.j1:Nat→List (S35)→Int→Int→Bool→Int→Int→Int→Int→Int→List (S32)→List (S35)→List (S35)→Option (Bool)
 |0,_,_,_,_,_,_,_,_,_,_,_,_=>none
 |k + 1,x0,x1,x5,x30,x992000,x992001,x992002,x992003,x992004,x992005,x992006,x992007=>if x30=true then (some false) else ((bW.f k x992006 x1).bind fun t992=>(if t992=true then ((bW.f k x992007 x1).bind fun t993=>(if t993=true then (bW.l0 k x0 x1 (wrap64 (x5 + 1))) else (some false))) else (some false)))
def bW.f:Nat→List (S35)→Int→Option (Bool)
 |0,_,_=>none
 |k + 1,l0,a1=>bW.l0 k l0 a1 0
end
mutual
def bD.j0:Nat→Bool→List Int→List (List (S35))→Option (Bool)
 |0,_,_,_=>none
 |k + 1,x14,x995000,x995001=>if x14=true then (some false) else (bD.l0 k 0 x995000 x995001)
def bD.l0:Nat→Int→List Int→List (List (S35))→Option (Bool)
 |0,_,_,_=>none
 |k + 1,x3,x995000,x995001=>if x3 < (x995001.length:Int) then (if 0≤x3 then ((gK.f k (fB x995001 x3)).bind fun t998=>(if t998=true then ((bW.f k (fB x995001 x3) (x995000.length:Int)).bind fun t1000=>(if t1000=true then (bD.l0 k (wrap64 (x3 + 1)) x995000 x995001) else (some false))) else (some false))) else (none)) else (some true)
end
def bD.f (k:Nat) (l0_0:List Int) (l0_1:List (List (S35))):Option (Bool):=(eB.f k l0_0).bind fun t995=>(if t995=true then ((gB.f (l0_1.length:Int) 1 3).bind fun t996=>(bD.j0 k (!t996) l0_0 l0_1)) else (bD.j0 k true l0_0 l0_1))
def bL.l0:Nat→Int→List Int→List (List (S35))→List Int→List (List (S35))→Option (List Int × (List (List (S35))) × Bool)
 |0,_,_,_,_,_=>none
 |k + 1,x5,x1002000,x1002001,x1014000,x1014001=>if x5 < (x1002001.length:Int) then (if 0≤x5 then ((bM.f k (fB x1002001 x5)).bind fun t1015=>(if x1014001.length < 5864062014805 then (bL.l0 k (wrap64 (x5 + 1)) x1002000 x1002001 x1014000 (x1014001 ++ [t1015])) else (none))) else (none)) else (some (x1014000,x1014001,true))
def bL.f (k:Nat) (l0_0:List Int) (l0_1:List (List (S35))):Option (List Int × (List (List (S35))) × Bool):=(bD.f k l0_0 l0_1).bind fun t1003=>(if t1003=true then ((some (([]:List Int):List Int)).bind fun y1004=>(if y1004.length + l0_0.length < 17592186044416 then (bL.l0 k 0 l0_0 l0_1 (y1004 ++ l0_0) (([]:List (List (S35))))) else (none))) else (some (([]:List Int),([]:List (List (S35))),false)))
def dV.l0:Nat→List Int→List Int→Int→Option (Bool)
 |0,_,_,_=>none
 |k + 1,x0,x1,x5=>if x5 < (x0.length:Int) then (if 0≤x5 then (if x5 < (x1.length:Int) then (if (rd x0 x5)=(rd x1 x5) then (dV.l0 k x0 x1 (wrap64 (x5 + 1))) else (some false)) else (none)) else (none)) else (some true)
def dV.f (k:Nat) (l0:List Int) (l1:List Int):Option (Bool):=if (l0.length:Int)=(l1.length:Int) then (dV.l0 k l0 l1 0) else (some false)
mutual
def bE.j0:Nat→Bool→List Int→List (List (S35))→List Int→List (List (S35))→Option (Bool)
 |0,_,_,_,_,_=>none
 |k + 1,x20,x1024000,x1024001,x1025000,x1025001=>if x20=true then (some false) else (bE.l0 k 0 x1024000 x1024001 x1025000 x1025001)
def bE.l0:Nat→Int→List Int→List (List (S35))→List Int→List (List (S35))→Option (Bool)
 |0,_,_,_,_,_=>none
 |k + 1,x5,x1024000,x1024001,x1025000,x1025001=>if x5 < (x1024001.length:Int) then (if 0≤x5 then (if x5 < (x1025001.length:Int) then ((bF.f k (fB x1024001 x5) (fB x1025001 x5)).bind fun t1028=>(if t1028=true then (bE.l0 k (wrap64 (x5 + 1)) x1024000 x1024001 x1025000 x1025001) else (some false))) else (none)) else (none)) else (some true)
end
def bE.f (k:Nat) (l0_0:List Int) (l0_1:List (List (S35))) (l1_0:List Int) (l1_1:List (List (S35))):Option (Bool):=(dV.f k l0_0 l1_0).bind fun t1025=>(if t1025=true then (bE.j0 k ((l0_1.length:Int) != (l1_1.length:Int)) l0_0 l0_1 l1_0 l1_1) else (bE.j0 k true l0_0 l0_1 l1_0 l1_1))
mutual
def mD.l0:Nat→List S35→Int→Option Bool
 |0,_,_=>none
 |k + 1,x,i=>if i < (x.length:Int) then (if 0≤i then ((mD.one k (aA x i)).bind fun b=>if b=true then some true else mD.l0 k x (wrap64 (i + 1))) else none) else some false
def mD.one:Nat→S35→Option Bool
 |0,_=>none
 |k + 1,s=>if s.f0=3 then some true else ((mD.f k s.f4).bind fun b=>if b=true then some true else mD.f k s.f5)
def mD.f:Nat→List S35→Option Bool
 |0,_=>none
 |k + 1,l=>mD.l0 k l 0
end
def AU.l0:Nat→List (List S35)→Int→Option Bool
 |0,_,_=>none
 |k + 1,x,i=>if i < (x.length:Int) then (if 0≤i then ((mD.f k (fB x i)).bind fun b=>if b=true then some true else AU.l0 k x (wrap64 (i + 1))) else none) else some false
def uG.f (k:Nat) (l0_0:List Int) (l0_1:List (List S35)):Option Bool:=(bB.f k l0_0 l0_1).bind fun v=>if v=true then ((AU.l0 k l0_1 0).bind fun b=>some (!b)) else some false
def kZ.j0:Nat→Bool→Bool→Bool→List Int→List (List (S35))→List Int→List (List (S35))→List Int→List (List (S35))→Option (Bool)
 |0,_,_,_,_,_,_,_,_,_=>none
 |k + 1,x5,x7,x37,x1036000,x1036001,x1044000,x1044001,x1052000,x1052001=>if x37=true then (if (x5 == x7)=true then ((bE.f k x1044000 x1044001 x1052000 x1052001).bind fun t1053=>(some t1053)) else (some false)) else ((bN.f k x1044000 x1044001).bind fun bt1054=>(if bt1054.2.2=true then ((bE.f k bt1054.1 bt1054.2.1 x1044000 x1044001).bind fun t1062=>(if t1062=true then ((uG.f k x1036000 x1036001).bind fun t1063=>(if t1063=true then ((uG.f k x1044000 x1044001).bind fun t1064=>(some t1064)) else (some true))) else (some false))) else (some false)))
def kZ.f (k:Nat) (l0:List Int):Option (Bool):=if (l0.length:Int) > 1048576 then (some true) else ((bT.f k l0).bind fun bt1029=>((bN.f k bt1029.1 bt1029.2).bind fun bt1036=>((bL.f k bt1029.1 bt1029.2).bind fun bt1044=>(if (bt1036.2.2 != bt1044.2.2)=true then (kZ.j0 k bt1036.2.2 bt1044.2.2 true bt1029.1 bt1029.2 bt1036.1 bt1036.2.1 bt1044.1 bt1044.2.1) else ((bE.f k bt1036.1 bt1036.2.1 bt1044.1 bt1044.2.1).bind fun t1052=>(if t1052=true then (kZ.j0 k bt1036.2.2 bt1044.2.2 (!bt1036.2.2) bt1029.1 bt1029.2 bt1036.1 bt1036.2.1 bt1044.1 bt1044.2.1) else (kZ.j0 k bt1036.2.2 bt1044.2.2 true bt1029.1 bt1029.2 bt1036.1 bt1036.2.1 bt1044.1 bt1044.2.1)))))))
def dK.l0:Nat→Int→List (List (S35))→Int→Int→Option (Int)
 |0,_,_,_,_=>none
 |k + 1,x3,x10,x11,x12=>if x12 < x11 then (if 0≤x12 then (if x12 < (x10.length:Int) then ((bO.f k (fB x10 x12)).bind fun t1068=>(dK.l0 k (wrap64 (x3 + t1068)) x10 x11 (wrap64 (x12 + 1)))) else (none)) else (none)) else (some x3)
def dK.f (k:Nat) (l0_0:List Int) (l0_1:List (List (S35))):Option (Int):=(bB.f k l0_0 l0_1).bind fun t1066=>(if t1066=true then (dK.l0 k 0 l0_1 (l0_1.length:Int) 0) else (some (-1)))
mutual
def aZ.j0:Nat→Bool→Bool→Bool→List Int→List (List (S35))→List Int→List (List (S35))→List Int→List (List (S35))→Option (Bool)
 |0,_,_,_,_,_,_,_,_,_=>none
 |k + 1,x5,x7,x38,x1076000,x1076001,x1084000,x1084001,x1092000,x1092001=>if x38=true then (if (x5 == x7)=true then ((bE.f k x1084000 x1084001 x1092000 x1092001).bind fun t1093=>(some t1093)) else (some false)) else (aZ.l0 k 0 x1076000 x1076001 x1084000 x1084001)
def aZ.l0:Nat→Int→List Int→List (List (S35))→List Int→List (List (S35))→Option (Bool)
 |0,_,_,_,_,_=>none
 |k + 1,x8,x1076000,x1076001,x1084000,x1084001=>if x8 < (x1076001.length:Int) then (if 0≤x8 then ((eZ.f k (fB x1076001 x8)).bind fun bt1095=>(if bt1095.2=true then (if x8 < (x1084001.length:Int) then ((bF.f k bt1095.1 (fB x1084001 x8)).bind fun t1100=>(if t1100=true then (aZ.l0 k (wrap64 (x8 + 1)) x1076000 x1076001 x1084000 x1084001) else (some false))) else (none)) else (some false))) else (none)) else ((bB.f k x1084000 x1084001).bind fun t1101=>(if t1101=true then ((dV.f k x1084000 x1076000).bind fun t1102=>(if t1102=true then ((dK.f k x1084000 x1084001).bind fun t1103=>((dK.f k x1076000 x1076001).bind fun t1104=>(some (decide (t1103≤t1104))))) else (some false))) else (some false)))
end
def aZ.f (k:Nat) (l0:List Int):Option (Bool):=if (l0.length:Int) > 1048576 then (some true) else ((bT.f k l0).bind fun bt1069=>((bN.f k bt1069.1 bt1069.2).bind fun bt1076=>((bL.f k bt1069.1 bt1069.2).bind fun bt1084=>(if (bt1076.2.2 != bt1084.2.2)=true then (aZ.j0 k bt1076.2.2 bt1084.2.2 true bt1069.1 bt1069.2 bt1076.1 bt1076.2.1 bt1084.1 bt1084.2.1) else ((bE.f k bt1076.1 bt1076.2.1 bt1084.1 bt1084.2.1).bind fun t1092=>(if t1092=true then (aZ.j0 k bt1076.2.2 bt1084.2.2 (!bt1076.2.2) bt1069.1 bt1069.2 bt1076.1 bt1076.2.1 bt1084.1 bt1084.2.1) else (aZ.j0 k bt1076.2.2 bt1084.2.2 true bt1069.1 bt1069.2 bt1076.1 bt1076.2.1 bt1084.1 bt1084.2.1)))))))
theorem kD.calls (a0:Int) (r:Bool) (w:World) (h:kD.f a0=some r):
  Calls Try.prog 125 #[.int .i64 a0] w fun e w'=>e= .returned (.bool r)∧iX w w':=by
 have H:(if a0≥1 then (some (decide (a0≤12))) else (some false))=some r:=h
 clear h
 by_cases c2:a0≥1
 ·rw [if_pos c2] at H
  have j3:decide (1≤a0)=true:=decide_eq_true c2
  clear c2
  obtain rfl:=Option.some.inj H
  go_enter Try.func125,Try.ntmps125
  go_wp2
  go_ret
  exact ⟨sd_,gM⟩
 rw [if_neg c2] at H
 have j3:decide (1≤a0)=false:=decide_eq_false c2
 clear c2
 obtain rfl:=Option.some.inj H
 go_enter Try.func125,Try.ntmps125
 go_wp2
 go_ret
 exact ⟨sd_,gM⟩
theorem fA.mono_l:∀ k,(∀ y0 y1 y2 y3,LeO (fA.f k y0 y1 y2 y3) (fA.f (k + 1) y0 y1 y2 y3))
 |0=>fun _ _ _ _ r h=>by simp [fA.f] at h
 |k + 1=>by
  have ih0:=fA.mono_l k
  ·intro y0 y1 y2 y3
   unfold fA.f
   exact mo_
theorem fA.mono:∀ a0 a1 a2 a3 k,LeO (fA.f k a0 a1 a2 a3) (fA.f (k + 1) a0 a1 a2 a3):=by
 intro a0 a1 a2 a3 k
 have ih0:=fA.mono_l k
 exact ih0 a0 a1 a2 a3
theorem fA.calls (k:Nat):∀ (j4:Int) (j8:Int) (jg:Option Addr) (jh:Nat) (j3:List (S32)) (a1:Int) (r:Bool) (w:World) (hr0_2:Kd.C k32 w jg j3.length j3) (hc0_2:j3.length≤jh) (h:fA.f k j4 j8 j3 a1=some r),
  Calls Try.prog 124 #[.agg #[.int .i64 j4, .int .i64 j8, .slice jg j3.length jh], .int .i64 a1] w fun e w'=>e= .returned (.bool r)∧Below w.heap.size w w':=by
 induction k using Nat.strongRecOn with
 | _ k ih=>
 intro j4 j8 jg jh j3 a1 r w hr0_2 hc0_2 h
 cases k with
 |zero=>exact absurd h (by simp [fA.f])
 |succ k=>
 simp only [fA.f] at h
 have hu32:=Try.underlying32
 have jf:=am hr0_2
 have qd:=am hc0_2
 clear hr0_2 hc0_2
 have HB:=am (Below.refl w.heap.size w)
 have H:(if j4=0 then (if j8≥0 then (if j8≤99999 then (if (j3.length:Int)=0 then (some (decide (a1 > 0))) else (some false)) else (some false)) else (some false)) else (if j4=13 then (if j8≥0 then (if j8 < 4 then (if (j3.length:Int)=0 then (some (decide (a1 > 0))) else (some false)) else (some false)) else (some false)) else ((kD.f j4).bind fun jT=>(if jT=true then (if j8=0 then (if (j3.length:Int)=2 then (if a1 > 1 then (if 0 < (j3.length:Int) then ((fA.f k ((aY j3 0).f0) ((aY j3 0).f1) ((aY j3 0).f2) (wrap64 (a1 - 1))).bind fun jU=>(if jU=true then (if 1 < (j3.length:Int) then ((fA.f k ((aY j3 1).f0) ((aY j3 1).f1) ((aY j3 1).f2) (wrap64 (a1 - 1))).bind fun jV=>(some jV)) else (none)) else (some false))) else (none)) else (some false)) else (some false)) else (some false)) else (some false)))))=some r:=h
 clear h
 have HH_:=am H
 clear H
 go_enter Try.func124,Try.ntmps124
 go_upto_region 1 with (first|((with_reducible refine cZ (N:=2) rfl ?_);(try (refine kK (by rfl) ?_;dsimp only));refine dO rfl (N:=2) rfl (cs:=#[.int .i64 j4, .int .i64 j8, .slice jg j3.length jh]) (t:=32) rn_ ?_;intro ju hg w7 hbox hb;have jc:=am (hbox);have qp:=am ((by rw [hg];exact (aJ fU):w.heap.size≤ju));have GE23:=am ((by rw [hg];exact (aJ fU):w.heap.size≤ju));replace HB:=am (aD fU hb);clear hb hbox hg;obtain ⟨jW,jX,jY,jZ,q0,q1⟩:=gF jc.out))
 have H:=HH_.out
 clear HH_
 by_cases c3:j4=0
 ·rw [if_pos c3] at H
  have q2:(j4 == 0)=true:=beq_iff_eq.mpr c3
  have q3:(j4 != 0)=false:=bne_eq_false_iff_eq.mpr c3
  clear c3
  by_cases c4:j8≥0
  ·rw [if_pos c4] at H
   have q4:decide (0≤j8)=true:=decide_eq_true c4
   clear c4
   by_cases c5:j8≤99999
   ·rw [if_pos c5] at H
    have q5:decide (j8≤99999)=true:=decide_eq_true c5
    clear c5
    by_cases c6:(j3.length:Int)=0
    ·rw [if_pos c6] at H
     have q6:((j3.length:Int) == 0)=true:=beq_iff_eq.mpr c6
     have q7:((j3.length:Int) != 0)=false:=bne_eq_false_iff_eq.mpr c6
     clear c6
     obtain rfl:=Option.some.inj H
     go_wp2
     go_ret
     exact ⟨rr_,pE⟩
    rw [if_neg c6] at H
    have q6:((j3.length:Int) == 0)=false:=beq_eq_false_iff_ne.mpr c6
    have q7:((j3.length:Int) != 0)=true:=bne_iff_ne.mpr c6
    have qq:¬ (j3=[]):=fun h_=>c6 (by rw [h_];rfl)
    obtain rfl:=Option.some.inj H
    go_wp2
    go_ret
    exact ⟨rr_,pE⟩
   rw [if_neg c5] at H
   have q5:decide (j8≤99999)=false:=decide_eq_false c5
   clear c5
   obtain rfl:=Option.some.inj H
   go_wp2
   go_ret
   exact ⟨rr_,pE⟩
  rw [if_neg c4] at H
  have q4:decide (0≤j8)=false:=decide_eq_false c4
  clear c4
  obtain rfl:=Option.some.inj H
  go_wp2
  go_ret
  exact ⟨rr_,pE⟩
 rw [if_neg c3] at H
 have q2:(j4 == 0)=false:=beq_eq_false_iff_ne.mpr c3
 have q3:(j4 != 0)=true:=bne_iff_ne.mpr c3
 by_cases jj:j4=13
 ·rw [if_pos jj] at H
  have jv:(j4 == 13)=true:=beq_iff_eq.mpr jj
  have jw:(j4 != 13)=false:=bne_eq_false_iff_eq.mpr jj
  clear jj
  by_cases jq:j8≥0
  ·rw [if_pos jq] at H
   have jx:decide (0≤j8)=true:=decide_eq_true jq
   clear jq
   by_cases jr:j8 < 4
   ·rw [if_pos jr] at H
    have jy:decide (j8 < 4)=true:=decide_eq_true jr
    clear jr
    by_cases ji:(j3.length:Int)=0
    ·rw [if_pos ji] at H
     have jz:((j3.length:Int) == 0)=true:=beq_iff_eq.mpr ji
     have jA:((j3.length:Int) != 0)=false:=bne_eq_false_iff_eq.mpr ji
     clear ji
     obtain rfl:=Option.some.inj H
     go_wp2
     go_ret
     exact ⟨rr_,pE⟩
    rw [if_neg ji] at H
    have jz:((j3.length:Int) == 0)=false:=beq_eq_false_iff_ne.mpr ji
    have jA:((j3.length:Int) != 0)=true:=bne_iff_ne.mpr ji
    have qe:¬ (j3=[]):=fun h_=>ji (by rw [h_];rfl)
    obtain rfl:=Option.some.inj H
    go_wp2
    go_ret
    exact ⟨rr_,pE⟩
   rw [if_neg jr] at H
   have jy:decide (j8 < 4)=false:=decide_eq_false jr
   clear jr
   obtain rfl:=Option.some.inj H
   go_wp2
   go_ret
   exact ⟨rr_,pE⟩
  rw [if_neg jq] at H
  have jx:decide (0≤j8)=false:=decide_eq_false jq
  clear jq
  obtain rfl:=Option.some.inj H
  go_wp2
  go_ret
  exact ⟨rr_,pE⟩
 rw [if_neg jj] at H
 have jv:(j4 == 13)=false:=beq_eq_false_iff_ne.mpr jj
 have jw:(j4 != 13)=true:=bne_iff_ne.mpr jj
 obtain ⟨jT,qf,H⟩:=bsm H
 (try dsimp only at H)
 have js:=am qf
 clear qf
 by_cases jJ:jT=true
 ·subst jJ
  rw [if_pos rfl] at H
  by_cases jk:j8=0
  ·rw [if_pos jk] at H
   have jB:(j8 == 0)=true:=beq_iff_eq.mpr jk
   have jC:(j8 != 0)=false:=bne_eq_false_iff_eq.mpr jk
   clear jk
   by_cases jl:(j3.length:Int)=2
   ·rw [if_pos jl] at H
    have jD:((j3.length:Int) == 2)=true:=beq_iff_eq.mpr jl
    have jE:((j3.length:Int) != 2)=false:=bne_eq_false_iff_eq.mpr jl
    clear jl
    by_cases jt:a1 > 1
    ·rw [if_pos jt] at H
     have jF:decide (1 < a1)=true:=decide_eq_true jt
     clear jt
     by_cases jK:0 < (j3.length:Int)
     ·rw [if_pos jK] at H
      have qg:decide (0 < (j3.length:Int))=true:=decide_eq_true jK
      have qh:decide (0 < j3.length)=true:=decide_eq_true (by omega)
      clear jK
      obtain ⟨jU,qi,H⟩:=bsm H
      (try dsimp only at H)
      have qj:=am qi
      clear qi
      by_cases jL:jU=true
      ·subst jL
       rw [if_pos rfl] at H
       by_cases jM:1 < (j3.length:Int)
       ·rw [if_pos jM] at H
        have qk:decide (1 < (j3.length:Int))=true:=decide_eq_true jM
        have ql:decide (1 < j3.length)=true:=decide_eq_true (by omega)
        clear jM
        obtain ⟨jV,qm,H⟩:=bsm H
        (try dsimp only at H)
        have qr:=am qm
        clear qm
        obtain rfl:=Option.some.inj H
        go_wp2_with (first|((with_reducible refine aN (f:=125) rfl ?_);refine gl_ 51 Try.func125 #[.int .i64 j4] ?_;(with_reducible refine (kD.calls j4 true _ js.out).mono ?_);rintro e w' ⟨rfl,⟨nd,rfl⟩⟩;refine ⟨_,rfl,?_⟩;have jm:0≤(0:Int):=(by omega);have jn:0 < (j3.length:Int):=of_decide_eq_true fV;obtain ⟨jG,jH,jI,q8,j5,j6,j7,hl37_2,hi37_2⟩:=rC jf.out 0 jm jn;cases q8;have q9:(0 < j3.length)=True:=eq_true (by omega);(try rw [show ((0:Int)).toNat=0 from rfl] at j5);(try rw [show 0 * 3=0 from rfl] at j5);(try rw [Addr.add_zero'] at j5);(try rw [show ((0:Int)).toNat=0 from rfl] at j6);(try rw [show 0 * 3=0 from rfl] at j6);(try rw [Addr.add_zero'] at j6);(try rw [show ((0:Int)).toNat=0 from rfl] at j7);(try rw [show 0 * 3=0 from rfl] at j7);(try rw [Addr.add_zero'] at j7);replace j5:=(HB.out.cell (World.block_lt_of_cell? w _ j5)).trans j5;replace j6:=(HB.out.cell (World.block_lt_of_cell? w _ j6)).trans j6;replace j7:=(HB.out.cell (World.block_lt_of_cell? w _ j7)).trans j7;have jd:=am hi37_2;have je:=am hl37_2;clear hi37_2 hl37_2;replace jm:=eq_true jm;replace jn:=eq_true jn)|(go_at_call 124;(with_reducible refine (ih k (by omega) ((aY j3 0).f0) ((aY j3 0).f1) _ _ ((aY j3 0).f2) (wrap64 (a1 - 1)) true _ (aC_ (Kd.aV jd.out pE)) je.out qj.out).mono ?_);rintro e qu ⟨rfl,hb⟩;replace jc:=bbP jc hb;replace HB:=am (aD pE hb);(try clear hb);obtain ⟨jN,jO,jP,jQ,jR,jS⟩:=gF jc.out;have qa:0≤(1:Int):=(by omega);have qb:1 < (j3.length:Int):=of_decide_eq_true fV;obtain ⟨qc,qn,qo,qs,j9,ja,jb,hl38_2,hi38_2⟩:=rC jf.out 1 qa qb;obtain rfl:jG=qc:=(by injection qs);(try simp only [show (1:Int).toNat=1 from rfl,Nat.reduceMul,Nat.reduceEqDiff,Go.Addr.add,↓reduceIte] at j9);(try simp only [show (1:Int).toNat=1 from rfl,Nat.reduceMul,Nat.reduceEqDiff,Go.Addr.add,↓reduceIte] at ja);(try simp only [show (1:Int).toNat=1 from rfl,Nat.reduceMul,Nat.reduceEqDiff,Go.Addr.add,↓reduceIte] at jb);have qt:(1 < j3.length)=True:=eq_true (by omega);(try rw [show ((1:Int)).toNat=1 from rfl] at j9);(try rw [show 1 * 3=3 from rfl] at j9);(try rw [show ((1:Int)).toNat=1 from rfl] at ja);(try rw [show 1 * 3=3 from rfl] at ja);(try rw [show ((1:Int)).toNat=1 from rfl] at jb);(try rw [show 1 * 3=3 from rfl] at jb);replace j9:=(HB.out.cell (World.block_lt_of_cell? w _ j9)).trans j9;replace ja:=(HB.out.cell (World.block_lt_of_cell? w _ ja)).trans ja;replace jb:=(HB.out.cell (World.block_lt_of_cell? w _ jb)).trans jb;have jo:=am hi38_2;have jp:=am hl38_2;clear hi38_2 hl38_2;replace qa:=eq_true qa;replace qb:=eq_true qb)|(go_at_call 124;(with_reducible refine (ih k (by omega) ((aY j3 1).f0) ((aY j3 1).f1) _ _ ((aY j3 1).f2) (wrap64 (a1 - 1)) jV _ (aC_ (Kd.aV jo.out HB.out)) jp.out qr.out).mono ?_);rintro e qv ⟨rfl,hb⟩;replace jc:=bbP jc hb;replace HB:=am (aD pE hb);(try clear hb)))
        go_ret
        exact ⟨rr_,pE⟩
       rw [if_neg jM] at H
       exact absurd H (by simp)
      replace jL:=Bool.eq_false_iff.mpr jL
      subst jL
      rw [if_neg (show ¬ (false=true) by decide)] at H
      obtain rfl:=Option.some.inj H
      go_wp2_with (first|((with_reducible refine aN (f:=125) rfl ?_);refine gl_ 51 Try.func125 #[.int .i64 j4] ?_;(with_reducible refine (kD.calls j4 true _ js.out).mono ?_);rintro e w' ⟨rfl,⟨nd,rfl⟩⟩;refine ⟨_,rfl,?_⟩;have jm:0≤(0:Int):=(by omega);have jn:0 < (j3.length:Int):=of_decide_eq_true fV;obtain ⟨jG,jH,jI,q8,j5,j6,j7,hl37_2,hi37_2⟩:=rC jf.out 0 jm jn;cases q8;have q9:(0 < j3.length)=True:=eq_true (by omega);(try rw [show ((0:Int)).toNat=0 from rfl] at j5);(try rw [show 0 * 3=0 from rfl] at j5);(try rw [Addr.add_zero'] at j5);(try rw [show ((0:Int)).toNat=0 from rfl] at j6);(try rw [show 0 * 3=0 from rfl] at j6);(try rw [Addr.add_zero'] at j6);(try rw [show ((0:Int)).toNat=0 from rfl] at j7);(try rw [show 0 * 3=0 from rfl] at j7);(try rw [Addr.add_zero'] at j7);replace j5:=(HB.out.cell (World.block_lt_of_cell? w _ j5)).trans j5;replace j6:=(HB.out.cell (World.block_lt_of_cell? w _ j6)).trans j6;replace j7:=(HB.out.cell (World.block_lt_of_cell? w _ j7)).trans j7;have jd:=am hi37_2;have je:=am hl37_2;clear hi37_2 hl37_2;replace jm:=eq_true jm;replace jn:=eq_true jn)|(go_at_call 124;(with_reducible refine (ih k (by omega) ((aY j3 0).f0) ((aY j3 0).f1) _ _ ((aY j3 0).f2) (wrap64 (a1 - 1)) false _ (aC_ (Kd.aV jd.out pE)) je.out qj.out).mono ?_);rintro e qw ⟨rfl,hb⟩;replace jc:=bbP jc hb;replace HB:=am (aD pE hb);(try clear hb)))
      go_ret
      exact ⟨rr_,pE⟩
     rw [if_neg jK] at H
     exact absurd H (by simp)
    rw [if_neg jt] at H
    have jF:decide (1 < a1)=false:=decide_eq_false jt
    clear jt
    obtain rfl:=Option.some.inj H
    go_wp2_with (first|((with_reducible refine aN (f:=125) rfl ?_);refine gl_ 51 Try.func125 #[.int .i64 j4] ?_;(with_reducible refine (kD.calls j4 true _ js.out).mono ?_);rintro e w' ⟨rfl,⟨nd,rfl⟩⟩;refine ⟨_,rfl,?_⟩))
    go_ret
    exact ⟨rr_,pE⟩
   rw [if_neg jl] at H
   have jD:((j3.length:Int) == 2)=false:=beq_eq_false_iff_ne.mpr jl
   have jE:((j3.length:Int) != 2)=true:=bne_iff_ne.mpr jl
   obtain rfl:=Option.some.inj H
   go_wp2_with (first|((with_reducible refine aN (f:=125) rfl ?_);refine gl_ 51 Try.func125 #[.int .i64 j4] ?_;(with_reducible refine (kD.calls j4 true _ js.out).mono ?_);rintro e w' ⟨rfl,⟨nd,rfl⟩⟩;refine ⟨_,rfl,?_⟩))
   go_ret
   exact ⟨rr_,pE⟩
  rw [if_neg jk] at H
  have jB:(j8 == 0)=false:=beq_eq_false_iff_ne.mpr jk
  have jC:(j8 != 0)=true:=bne_iff_ne.mpr jk
  obtain rfl:=Option.some.inj H
  go_wp2_with (first|((with_reducible refine aN (f:=125) rfl ?_);refine gl_ 51 Try.func125 #[.int .i64 j4] ?_;(with_reducible refine (kD.calls j4 true _ js.out).mono ?_);rintro e w' ⟨rfl,⟨nd,rfl⟩⟩;refine ⟨_,rfl,?_⟩))
  go_ret
  exact ⟨rr_,pE⟩
 replace jJ:=Bool.eq_false_iff.mpr jJ
 subst jJ
 rw [if_neg (show ¬ (false=true) by decide)] at H
 obtain rfl:=Option.some.inj H
 go_wp2_with (first|((with_reducible refine aN (f:=125) rfl ?_);refine gl_ 51 Try.func125 #[.int .i64 j4] ?_;(with_reducible refine (kD.calls j4 false _ js.out).mono ?_);rintro e w' ⟨rfl,⟨nd,rfl⟩⟩;refine ⟨_,rfl,?_⟩))
 go_ret
 exact ⟨rr_,pE⟩
theorem iD.mono:∀ a0 a1 a2 k,LeO (iD.f k a0 a1 a2) (iD.f (k + 1) a0 a1 a2):=by
 intro a0 a1 a2 k
 unfold iD.f
 have m0:=@fA.mono
 exact mo_
theorem iD.calls (k:Nat) (j4:Int) (j5:Int) (j6:Option Addr) (j7:Nat) (j3:List (S32)) (r:Bool) (w:World) (hr0_2:Kd.C k32 w j6 j3.length j3) (hc0_2:j3.length≤j7) (h:iD.f k j4 j5 j3=some r):
  Calls Try.prog 114 #[.agg #[.int .i64 j4, .int .i64 j5, .slice j6 j3.length j7]] w fun e w'=>e= .returned (.bool r)∧Below w.heap.size w w':=by
 have hu32:=Try.underlying32
 have j9:=am hr0_2
 have ja:=am hc0_2
 clear hr0_2 hc0_2
 have HB:=am (Below.refl w.heap.size w)
 have H:((fA.f k j4 j5 j3 5).bind fun jc=>(some jc))=some r:=h
 clear h
 obtain ⟨jc,A2,H⟩:=bsa H
 (try dsimp only at H)
 obtain rfl:=Option.some.inj H
 go_enter Try.func114,Try.ntmps114
 go_wp2_with (first|((with_reducible refine cZ (N:=1) rfl ?_);refine dO rfl (N:=1) rfl (cs:=#[.int .i64 j4, .int .i64 j5, .slice j6 j3.length j7]) (t:=32) rn_ ?_;intro jb hg w3 hbox hb;have j8:=am (hbox);have jj:=am ((by rw [hg];exact (aJ fU):w.heap.size≤jb));have GE22:=am ((by rw [hg];exact (aJ fU):w.heap.size≤jb));replace HB:=am (aD fU hb);clear hb hbox hg;obtain ⟨jd,je,jf,jg,jh,ji⟩:=gF j8.out)|((with_reducible refine aN (f:=124) rfl ?_);refine gl_ 4 Try.func124 #[.agg #[.int .i64 j4, .int .i64 j5, .slice j6 j3.length j7], .int .i64 5] ?_;(with_reducible refine (fA.calls k j4 j5 _ _ j3 5 jc _ (aC_ (Kd.aV j9.out HB.out)) ja.out A2.out).mono ?_);rintro e w5 ⟨rfl,hb⟩;refine ⟨_,rfl,?_⟩;replace j8:=bbP j8 hb;replace HB:=am (aD oD hb);(try clear hb)))
 go_ret
 exact ⟨rr_,oD⟩
theorem BR.calls (n limit:Int) (needed:Bool) (w:World):
  Calls Try.prog 113 #[.int .i64 n, .int .i64 limit, .bool needed] w fun e w'=>e= .returned (.bool (inr n limit needed))∧iX w w':=by
 by_cases h0:n=0
 ·subst h0
  go_enter Try.func113,Try.ntmps113
  go_wp2
  go_ret
  exact ⟨by simp [inr],gM⟩
 have h0b:(n == 0)=false:=beq_eq_false_iff_ne.mpr h0
 cases needed with
 |false=>
  go_enter Try.func113,Try.ntmps113
  go_wp2
  go_ret
  exact ⟨by simp [inr,h0],gM⟩
 |true=>
  by_cases h1:0 < n
  ·have h1b:decide (0 < n)=true:=decide_eq_true h1
   by_cases h2:n < limit
   ·have h2b:decide (n < limit)=true:=decide_eq_true h2
    go_enter Try.func113,Try.ntmps113
    go_wp2
    go_ret
    exact ⟨by simp [inr,h0];omega,gM⟩
   have h2b:decide (n < limit)=false:=decide_eq_false h2
   go_enter Try.func113,Try.ntmps113
   go_wp2
   go_ret
   exact ⟨by simp [inr,h0];omega,gM⟩
  have h1b:decide (0 < n)=false:=decide_eq_false h1
  go_enter Try.func113,Try.ntmps113
  go_wp2
  go_ret
  exact ⟨by simp [inr,h0];omega,gM⟩
theorem nW {n limit:Int} {needed b:Bool} (w:World) (h:inr n limit needed=b):
  Calls Try.prog 113 #[.int .i64 n, .int .i64 limit, .bool needed] w fun e w'=>e= .returned (.bool b)∧iX w w':=h ▸ BR.calls n limit needed w
theorem lD.mono:∀ nv nb ne nd no va bx op n la lb le boxes k,LeO (lD k nv nb ne nd no va bx op n la lb le boxes) (lD (k + 1) nv nb ne nd no va bx op n la lb le boxes):=by
 intro nv nb ne nd no va bx op n la lb le boxes k
 unfold lD
 have m0:=@iD.mono
 exact mo_
theorem fF.mono:∀ kd va bx op n la lb le boxes k,LeO (fF.f k kd va bx op n la lb le boxes) (fF.f (k + 1) kd va bx op n la lb le boxes):=by
 intro kd va bx op n la lb le boxes k
 unfold fF.f
 have m0:=@lD.mono
 exact mo_
attribute [local irreducible] inr
theorem fF.callsP (k:Nat) (g:Addr) (kd va bx op n:Int) (Aa:Option Addr) (ca:Nat) (la:List S32) (Ab:Option Addr) (lb cb:Nat) (Ae:Option Addr) (le ce:Nat) (boxes:Int) (r:Bool) (w:World)
  (hg0:w.cell? g=some (.int .i64 kd)) (hg1:w.cell? ⟨g.block,g.off + 1,none⟩=some (.int .i64 va)) (hg2:w.cell? ⟨g.block,g.off + 2,none⟩=some (.int .i64 bx))
  (hg3:w.cell? ⟨g.block,g.off + 3,none⟩=some (.int .i64 op)) (hg4:w.cell? ⟨g.block,g.off + 4,none⟩=some (.int .i64 n)) (hg5:w.cell? ⟨g.block,g.off + 5,none⟩=some (.slice Aa la.length ca))
  (hg6:w.cell? ⟨g.block,g.off + 6,none⟩=some (.slice Ab lb cb)) (hg7:w.cell? ⟨g.block,g.off + 7,none⟩=some (.slice Ae le ce))
  (hr:Kd.C k32 w Aa la.length la) (hc:la.length≤ca) (h:fF.f k kd va bx op n la lb le boxes=some r):
  Calls Try.prog 97 #[.pointer (some g), .int .i64 boxes] w fun e w'=>e= .returned (.bool r)∧Below w.heap.size w w':=by
 have HR:=am hr
 have HC:=am hc
 have HH:=am h
 clear hr hc h
 go_enter Try.func97,Try.ntmps97
 go_upto_region 2 with (first|((with_reducible refine cZ (N:=5) rfl ?_);refine dO (N:=5) rfl rfl (cs:=#[.bool false, .bool false, .bool false, .bool false, .bool false]) (t:=124) rn_ ?_;intro gb hg w1 hbox hb)|fail)
 have k0:=bV hb hg0
 have z0:=aC hbox 0
 have z1:=aC hbox 1
 have z2:=aC hbox 2
 have z3:=aC hbox 3
 have z4:=aC hbox 4
 have f0:=aU hbox 0
 have f1:=aU hbox 1
 have f2:=aU hbox 2
 have f3:=aU hbox 3
 have f4:=aU hbox 4
 have HBX:=am hbox
 have HB:=am hb
 have HG:=am (Nat.le_of_eq hg.symm)
 clear hbox hb hg
 go_upto_block 0 with fail
 go_cut [4,5] from 7 (fun v4 v5 wc=>∃ nv nb ne nd no,v5= .pointer (some ⟨gb,0,none⟩)∧Aside0 (lD k nv nb ne nd no va bx op n la lb le boxes=some r)∧Aside0 (wc.heap[gb]?=some (.cells #[.bool nv, .bool nb, .bool ne, .bool nd, .bool no] 124 (0,0)))∧Aside0 (Below w.heap.size w wc))
 case first=>
  have H:=HH.out
  clear HH
  unfold fF.f at H
  by_cases c1:kd=1
  ·rw [if_pos c1] at H
   subst c1
   have H':=am H
   clear H
   go_wp2
   go_meet
   case rel=>exact ⟨true,false,true,false,false,rfl,H',⟨(aM (aM HBX.out 0 (.bool true) (by rfl)) 2 (.bool true) (by rfl))⟩,⟨(below_set (below_set HB.out HG.out) HG.out)⟩⟩
  rw [if_neg c1] at H
  have d1:(kd == 1)=false:=beq_eq_false_iff_ne.mpr c1
  by_cases c2:kd=2
  ·rw [if_pos c2] at H
   subst c2
   have H':=am H
   clear H
   go_wp2
   go_meet
   case rel=>exact ⟨false,false,true,true,true,rfl,H',⟨(aM (aM (aM HBX.out 2 (.bool true) (by rfl)) 3 (.bool true) (by rfl)) 4 (.bool true) (by rfl))⟩,⟨(below_set (below_set (below_set HB.out HG.out) HG.out) HG.out)⟩⟩
  rw [if_neg c2] at H
  have d2:(kd == 2)=false:=beq_eq_false_iff_ne.mpr c2
  by_cases c3:kd=3
  ·rw [if_pos c3] at H
   subst c3
   have H':=am H
   clear H
   go_wp2
   go_meet
   case rel=>exact ⟨false,false,true,true,false,rfl,H',⟨(aM (aM HBX.out 2 (.bool true) (by rfl)) 3 (.bool true) (by rfl))⟩,⟨(below_set (below_set HB.out HG.out) HG.out)⟩⟩
  rw [if_neg c3] at H
  have d3:(kd == 3)=false:=beq_eq_false_iff_ne.mpr c3
  by_cases c4:kd=4
  ·rw [if_pos c4] at H
   subst c4
   have H':=am H
   clear H
   go_wp2
   go_meet
   case rel=>exact ⟨false,true,true,false,false,rfl,H',⟨(aM (aM HBX.out 1 (.bool true) (by rfl)) 2 (.bool true) (by rfl))⟩,⟨(below_set (below_set HB.out HG.out) HG.out)⟩⟩
  rw [if_neg c4] at H
  have d4:(kd == 4)=false:=beq_eq_false_iff_ne.mpr c4
  by_cases c5:kd=5
  ·rw [if_pos c5] at H
   subst c5
   have H':=am H
   clear H
   go_wp2
   go_meet
   case rel=>exact ⟨true,true,false,false,false,rfl,H',⟨(aM (aM HBX.out 1 (.bool true) (by rfl)) 0 (.bool true) (by rfl))⟩,⟨(below_set (below_set HB.out HG.out) HG.out)⟩⟩
  rw [if_neg c5] at H
  have d5:(kd == 5)=false:=beq_eq_false_iff_ne.mpr c5
  by_cases c7:kd=7
  ·rw [if_pos c7] at H
   subst c7
   have H':=am H
   clear H
   go_wp2
   go_meet
   case rel=>exact ⟨false,false,true,false,false,rfl,H',⟨(aM HBX.out 2 (.bool true) (by rfl))⟩,⟨(below_set HB.out HG.out)⟩⟩
  rw [if_neg c7] at H
  have d7:(kd == 7)=false:=beq_eq_false_iff_ne.mpr c7
  by_cases c6:kd=6
  ·rw [if_pos c6] at H
   subst c6
   have H':=am H
   clear H
   go_wp2
   go_meet
   case rel=>exact ⟨false,false,false,false,false,rfl,H',⟨HBX.out⟩,⟨HB.out⟩⟩
  rw [if_neg c6] at H
  have d6:(kd == 6)=false:=beq_eq_false_iff_ne.mpr c6
  obtain rfl:=Option.some.inj H
  go_wp2
  go_ret
  exact ⟨rfl,HB.out⟩
 case rest=>
  obtain ⟨nv,nb,ne,nd,no,rfl,HA,HX,HW⟩:=hcut
  have k1:=bV HW.out hg1
  have k2:=bV HW.out hg2
  have k3:=bV HW.out hg3
  have k4:=bV HW.out hg4
  have k5:=bV HW.out hg5
  have k6:=bV HW.out hg6
  have k7:=bV HW.out hg7
  have y0:wc.cell? ⟨gb,0,none⟩=some (.bool nv):=aC HX.out 0
  have y1:wc.cell? ⟨gb,1,none⟩=some (.bool nb):=aC HX.out 1
  have y2:wc.cell? ⟨gb,2,none⟩=some (.bool ne):=aC HX.out 2
  have y3:wc.cell? ⟨gb,3,none⟩=some (.bool nd):=aC HX.out 3
  have y4:wc.cell? ⟨gb,4,none⟩=some (.bool no):=aC HX.out 4
  clear k0 z0 z1 z2 z3 z4 f0 f1 f2 f3 f4 HBX HB hg0 hg1 hg2 hg3 hg4 hg5 hg6 hg7 HH
  go_upto_region 18 with fail
  (try simp only [Act.put,List.setIfInBounds_toArray,List.set_cons_zero,List.set_cons_succ])
  go_cut [69] from 37 (fun j6 wc_=>∃ (x:Bool),j6= .bool x∧Aside0 (∃ m,wc_=wc.drewN m)∧Aside0 (if x=true then r=false else (if ne=true then ((iD.f k op n la).bind fun t=>if t=true then some ((nd || lb == 0) && (no || le == 0)) else some false) else (if op=0 then (if n=0 then (if 0 < (la.length:Int) then some false else some ((nd || lb == 0) && (no || le == 0))) else some false) else some false))=some r))
  case first=>
   have H:=HA.out
   clear HA
   unfold lD at H
   by_cases i1:inr va 4 nv=true
   ·rw [if_pos i1] at H
    by_cases i2:inr bx boxes nb=true
    ·rw [if_pos i2] at H
     have I1:=am i1
     have I2:=am i2
     clear i1 i2
     by_cases i3:nb=true∧boxes≤bx
     ·rw [if_pos i3] at H
      obtain ⟨i4,i5⟩:=i3
      subst i4
      have i6:=eq_true i5
      have H':=am (Option.some.inj H)
      clear H i5
      go_big_quiet (first|(with_reducible refine Calls.quiet_of ((nW _ I1.out).mono (fun e w' hq=>⟨hq.1,hq.2.out⟩)))|(with_reducible refine Calls.quiet_of ((nW _ I2.out).mono (fun e w' hq=>⟨hq.1,hq.2.out⟩))))
      go_wp2
      go_meet
      case rel=>exact ⟨true,rfl,⟨_,rfl⟩,⟨by rw [if_pos rfl];exact H'.out.symm⟩⟩
     rw [if_neg i3] at H
     have H':=am H
     clear H
     cases nb with
     |false=>
      clear i3
      go_big_quiet (first|(with_reducible refine Calls.quiet_of ((nW _ I1.out).mono (fun e w' hq=>⟨hq.1,hq.2.out⟩)))|(with_reducible refine Calls.quiet_of ((nW _ I2.out).mono (fun e w' hq=>⟨hq.1,hq.2.out⟩))))
      go_wp2
      go_meet
      case rel=>exact ⟨false,rfl,⟨_,rfl⟩,⟨by rw [if_neg (by decide)];exact H'.out⟩⟩
     |true=>
      have i5:¬ boxes≤bx:=fun h=>i3 ⟨rfl,h⟩
      have i6:=eq_false i5
      clear i3 i5
      go_big_quiet (first|(with_reducible refine Calls.quiet_of ((nW _ I1.out).mono (fun e w' hq=>⟨hq.1,hq.2.out⟩)))|(with_reducible refine Calls.quiet_of ((nW _ I2.out).mono (fun e w' hq=>⟨hq.1,hq.2.out⟩))))
      go_wp2
      go_meet
      case rel=>exact ⟨false,rfl,⟨_,rfl⟩,⟨by rw [if_neg (by decide)];exact H'.out⟩⟩
    rw [if_neg i2] at H
    have I1:=am i1
    have I2:=am (Bool.eq_false_iff.mpr i2)
    clear i1 i2
    have H':=am (Option.some.inj H)
    clear H
    go_big_quiet (first|(with_reducible refine Calls.quiet_of ((nW _ I1.out).mono (fun e w' hq=>⟨hq.1,hq.2.out⟩)))|(with_reducible refine Calls.quiet_of ((nW _ I2.out).mono (fun e w' hq=>⟨hq.1,hq.2.out⟩))))
    go_wp2
    go_meet
    case rel=>exact ⟨true,rfl,⟨_,rfl⟩,⟨by rw [if_pos rfl];exact H'.out.symm⟩⟩
   rw [if_neg i1] at H
   have I1:=am (Bool.eq_false_iff.mpr i1)
   clear i1
   have H':=am (Option.some.inj H)
   clear H
   go_big_quiet (first|(with_reducible refine Calls.quiet_of ((nW _ I1.out).mono (fun e w' hq=>⟨hq.1,hq.2.out⟩))))
   go_wp2
   go_meet
   case rel=>exact ⟨true,rfl,⟨_,rfl⟩,⟨by rw [if_pos rfl];exact H'.out.symm⟩⟩
  case rest=>
   clear HA
   obtain ⟨x,rfl,⟨m,rfl⟩,HA⟩:=hcut
   cases x with
   |true=>
    have HA':=HA.out
    rw [if_pos rfl] at HA'
    subst HA'
    clear HA
    go_wp2
    go_ret
    exact ⟨rfl,bA HW.out _⟩
   |false=>
    have H:=HA.out
    rw [if_neg (by decide)] at H
    clear HA
    go_upto_region 20 with fail
    (try simp only [Act.put,List.setIfInBounds_toArray,List.set_cons_zero,List.set_cons_succ])
    go_cut [109] from 70 (fun j7 wd=>∃ (x:Bool),j7= .bool x∧Aside0 (Below w.heap.size w wd)∧Aside0 (Below wc.heap.size wc wd)∧Aside0 (if x=true then r=false else ((nd || lb == 0) && (no || le == 0))=r))
    case first=>
     cases ne with
     |true=>
      rw [if_pos rfl] at H
      obtain ⟨t,ht,H⟩:=bsm H
      have HE:=am ht
      have j5:=am (Kd.aV HR.out HW.out)
      clear ht
      cases t with
      |true=>
       rw [if_pos rfl] at H
       have H':=am (Option.some.inj H)
       clear H
       go_wp2_with (first|((with_reducible refine (iD.calls k op n Aa ca la _ _ ?side1 HC.out HE.out).mono ?_);(case side1=>repeat (first|exact j5.out|(with_reducible refine Kd.nA ?_ _)|(with_reducible refine Kd.oL ?_)));rintro e wq ⟨rfl,hb⟩;have y2q:wq.cell? ⟨gb,2,none⟩=some (.bool true):=bV (w:=wc.drewN m) hb y2;have HBE:=am (show Below wc.heap.size wc wq from (bA (Below.refl _ _) m).trans hb);clear hb;(try dsimp only))|fail)
       go_meet
       case rel=>exact ⟨false,rfl,⟨aD HW.out HBE.out⟩,⟨HBE.out⟩,⟨by rw [if_neg (by decide)];exact H'.out⟩⟩
      |false=>
       rw [if_neg (by decide)] at H
       have H':=am (Option.some.inj H)
       clear H
       go_wp2_with (first|((with_reducible refine (iD.calls k op n Aa ca la _ _ ?side1 HC.out HE.out).mono ?_);(case side1=>repeat (first|exact j5.out|(with_reducible refine Kd.nA ?_ _)|(with_reducible refine Kd.oL ?_)));rintro e wq ⟨rfl,hb⟩;have y2q:wq.cell? ⟨gb,2,none⟩=some (.bool true):=bV (w:=wc.drewN m) hb y2;have HBE:=am (show Below wc.heap.size wc wq from (bA (Below.refl _ _) m).trans hb);clear hb;(try dsimp only))|fail)
       go_meet
       case rel=>exact ⟨true,rfl,⟨aD HW.out HBE.out⟩,⟨HBE.out⟩,⟨by rw [if_pos rfl];exact H'.out.symm⟩⟩
     |false=>
      rw [if_neg (by decide)] at H
      by_cases j0:op=0
      ·rw [if_pos j0] at H
       by_cases j1:n=0
       ·rw [if_pos j1] at H
        subst j0
        subst j1
        by_cases j2:0 < (la.length:Int)
        ·rw [if_pos j2] at H
         have H':=am (Option.some.inj H)
         clear H
         have j3:=eq_true j2
         have j4:(0 < la.length)=True:=eq_true (by omega)
         clear j2
         go_wp2
         go_meet
         case rel=>exact ⟨true,sd_,⟨bA HW.out _⟩,⟨bA (Below.refl _ _) _⟩,⟨by rw [if_pos rfl];exact H'.out.symm⟩⟩
        rw [if_neg j2] at H
        have H':=am (Option.some.inj H)
        clear H
        have j3:=eq_false j2
        have j4:(0 < la.length)=False:=eq_false (by omega)
        clear j2
        go_wp2
        go_meet
        case rel=>exact ⟨false,sd_,⟨bA HW.out _⟩,⟨bA (Below.refl _ _) _⟩,⟨by rw [if_neg (by decide)];exact H'.out⟩⟩
       rw [if_neg j1] at H
       have H':=am (Option.some.inj H)
       clear H
       subst j0
       have j2:(n != 0)=true:=bne_iff_ne.mpr j1
       clear j1
       go_wp2
       go_meet
       case rel=>exact ⟨true,sd_,⟨bA HW.out _⟩,⟨bA (Below.refl _ _) _⟩,⟨by rw [if_pos rfl];exact H'.out.symm⟩⟩
      rw [if_neg j0] at H
      have H':=am (Option.some.inj H)
      clear H
      have j2:(op != 0)=true:=bne_iff_ne.mpr j0
      clear j0
      go_wp2
      go_meet
      case rel=>exact ⟨true,sd_,⟨bA HW.out _⟩,⟨bA (Below.refl _ _) _⟩,⟨by rw [if_pos rfl];exact H'.out.symm⟩⟩
    case rest=>
     clear H
     obtain ⟨x,rfl,HW2,HW3,HA⟩:=hcut
     cases x with
     |true=>
      have HA':=HA.out
      rw [if_pos rfl] at HA'
      subst HA'
      clear HA
      go_wp2
      go_ret
      exact ⟨rfl,HW2.out⟩
     |false=>
      have H:=HA.out
      rw [if_neg (by decide)] at H
      subst H
      have k6':=bV HW3.out k6
      have k7':=bV HW3.out k7
      have y3':=bV HW3.out y3
      have y4':=bV HW3.out y4
      clear HA k1 k2 k3 k4 k5 k6 k7 y0 y1 y2 y3 y4
      by_cases q6:lb=0
      ·have p6:((lb:Int) == 0)=true:=by rw [q6];rfl
       by_cases q7:le=0
       ·have p7:((le:Int) == 0)=true:=by rw [q7];rfl
        have Q6:=am q6
        have Q7:=am q7
        clear q6 q7
        cases nd <;> cases no <;> (go_wp2;go_ret;exact ⟨by simp [Q6.out,Q7.out],HW2.out⟩)
       have p7:((le:Int) == 0)=false:=beq_eq_false_iff_ne.mpr (by omega)
       have Q6:=am q6
       have Q7:=am q7
       clear q6 q7
       cases nd <;> cases no <;> (go_wp2;go_ret;exact ⟨by simp [Q6.out,Q7.out],HW2.out⟩)
      have p6:((lb:Int) == 0)=false:=beq_eq_false_iff_ne.mpr (by omega)
      have Q6:=am q6
      clear q6
      cases nd with
      |false=>
       go_wp2
       go_ret
       exact ⟨by simp [Q6.out],HW2.out⟩
      |true=>
       by_cases q7:le=0
       ·have p7:((le:Int) == 0)=true:=by rw [q7];rfl
        have Q7:=am q7
        clear q7
        cases no <;> (go_wp2;go_ret;exact ⟨by simp [p7,Q7.out],HW2.out⟩)
       have p7:((le:Int) == 0)=false:=beq_eq_false_iff_ne.mpr (by omega)
       have Q7:=am q7
       clear q7
       cases no <;> (go_wp2;go_ret;exact ⟨by simp [p7,Q7.out],HW2.out⟩)
theorem dJ.mono_l:∀ k,(∀ y0 y1 y2 y3,LeO (dJ.f k y0 y1 y2 y3) (dJ.f (k + 1) y0 y1 y2 y3))∧(∀ y0 y1 y2 y3 y4,LeO (dJ.l0 k y0 y1 y2 y3 y4) (dJ.l0 (k + 1) y0 y1 y2 y3 y4))
 |0=>⟨fun _ _ _ _ r h=>by simp [dJ.f] at h,fun _ _ _ _ _ r h=>by simp [dJ.l0] at h⟩
 |k + 1=>by
  obtain ⟨ih0,ih1⟩:=dJ.mono_l k
  refine ⟨?_,?_⟩
  ·intro y0 y1 y2 y3
   unfold dJ.f
   have m0:=@fF.mono
   exact mo_
  ·intro y0 y1 y2 y3 y4
   unfold dJ.l0
   have m0:=@fF.mono
   exact mo_
theorem dJ.mono:∀ a0 a1 a2 a3 k,LeO (dJ.f k a0 a1 a2 a3) (dJ.f (k + 1) a0 a1 a2 a3):=by
 intro a0 a1 a2 a3 k
 obtain ⟨ih0,ih1⟩:=dJ.mono_l k
 exact ih0 a0 a1 a2 a3
theorem aAa {w:World} {ok:Nat→Prop} {A:Option Addr} {n:Nat} {xs:List S35} (h:Kd.F k35 w ok A n xs) (i:Int) (h0:0≤i) (h1:i < n):
  ∃ ad A5 c5 A6 c6 A7 c7,A=some ad∧w.cell? (ad.add (i.toNat * 8))=some (.int .i64 (aA xs i).f0)∧w.cell? ⟨(ad.add (i.toNat * 8)).block,(ad.add (i.toNat * 8)).off + 1,none⟩=some (.int .i64 (aA xs i).f1)∧w.cell? ⟨(ad.add (i.toNat * 8)).block,(ad.add (i.toNat * 8)).off + 2,none⟩=some (.int .i64 (aA xs i).f2)∧w.cell? ⟨(ad.add (i.toNat * 8)).block,(ad.add (i.toNat * 8)).off + 3,none⟩=some (.int .i64 (aA xs i).f3.f0)∧w.cell? ⟨(ad.add (i.toNat * 8)).block,(ad.add (i.toNat * 8)).off + 4,none⟩=some (.int .i64 (aA xs i).f3.f1)∧w.cell? ⟨(ad.add (i.toNat * 8)).block,(ad.add (i.toNat * 8)).off + 5,none⟩=some (.slice A5 (aA xs i).f3.f2.length c5)∧w.cell? ⟨(ad.add (i.toNat * 8)).block,(ad.add (i.toNat * 8)).off + 6,none⟩=some (.slice A6 (aA xs i).f4.length c6)∧w.cell? ⟨(ad.add (i.toNat * 8)).block,(ad.add (i.toNat * 8)).off + 7,none⟩=some (.slice A7 (aA xs i).f5.length c7)∧(aA xs i).f3.f2.length≤c5∧Kd.F k32 w ok A5 (aA xs i).f3.f2.length (aA xs i).f3.f2∧(aA xs i).f4.length≤c6∧Kd.F k35 w ok A6 (aA xs i).f4.length (aA xs i).f4∧(aA xs i).f5.length≤c7∧Kd.F k35 w ok A7 (aA xs i).f5.length (aA xs i).f5:=by
 obtain ⟨ad,c,e,_,hK,hc0,_⟩:=Kd.RU h z35 i h0 h1
 have hc:∀ j u,c[j]?=some u→w.cell? (ad.add (i.toNat * 8 + j))=some u:=hc0
 obtain ⟨A5,c5,A6,c6,A7,c7,rfl,l5,g5,l6,g6,l7,g7⟩:=RF hK
 exact ⟨ad,A5,c5,A6,c6,A7,c7,e,hc 0 _ rfl,by rw [← kM _ _ 1 (by omega)];exact hc 1 _ rfl,by rw [← kM _ _ 2 (by omega)];exact hc 2 _ rfl,by rw [← kM _ _ 3 (by omega)];exact hc 3 _ rfl,by rw [← kM _ _ 4 (by omega)];exact hc 4 _ rfl,by rw [← kM _ _ 5 (by omega)];exact hc 5 _ rfl,by rw [← kM _ _ 6 (by omega)];exact hc 6 _ rfl,by rw [← kM _ _ 7 (by omega)];exact hc 7 _ rfl,l5,g5,l6,g6,l7,g7⟩
theorem tF {w w1:World} {g:Nat} {a:Addr} {v:Value} (hk:aI w w1 g none) (h:w.cell? a=some v) (hne:a.block≠g):w1.cell? a=some v:=
 (World.cell?_of_block (w:=w) (hk.2 a.block (World.block_lt_of_cell? w a h) hne (by simp))).trans h
theorem dJ.callsP (k:Nat):∀ (A:Option Addr) (c:Nat) (l:List S35) (boxes blocks cnt:Int) (gc B:Nat) (ok:Nat→Prop) (r:Bool) (cnt':Int) (w:World)
  (hF:Kd.F k35 w ok A l.length l) (hc:l.length≤c) (hno:¬ ok gc) (hB:B≤gc) (hb:w.heap[gc]?=some (.cells #[.int .i64 cnt] 3 (0,0))) (h:dJ.f k l boxes blocks cnt=some (r,cnt')),
  Calls Try.prog 82 #[.slice A l.length c, .int .i64 boxes, .int .i64 blocks, .pointer (some ⟨gc,0,none⟩)] w fun e w'=>e= .returned (.bool r)∧w'.heap[gc]?=some (.cells #[.int .i64 cnt'] 3 (0,0))∧aI w w' gc none∧Below B w w':=by
 induction k using Nat.strongRecOn with
 | _ k ih=>
 intro A c l boxes blocks cnt gc B ok r cnt' w hF hc hno hB hb h
 cases k with
 |zero=>exact absurd h (by simp [dJ.f])
 |succ k=>
 simp only [dJ.f] at h
 have HF:=am hF
 have HC:=am hc
 have HNO:=am hno
 have HGB:=am hB
 have HBX:=am hb
 have z0:w.cell? ⟨gc,0,none⟩=some (.int .i64 cnt):=aC hb 0
 have f0:=aU hb 0
 have j4:=am (aM (cs':=#[.int .i64 (wrap64 (cnt + (l.length:Int)))]) hb 0 (.int .i64 (wrap64 (cnt + (l.length:Int)))) rfl)
 have j5:=am (aI.xJ (aI.refl w gc none) 0 (.int .i64 (wrap64 (cnt + (l.length:Int)))))
 have HW1:=am (Below.setCell (p:=⟨gc,0,none⟩) (Below.refl B w) hB (.int .i64 (wrap64 (cnt + (l.length:Int)))))
 clear hF hc hno hb hB
 by_cases c0:16 < wrap64 (cnt + (l.length:Int))
 ·rw [if_pos c0] at h
  have h1:=Option.some.inj h
  injection h1 with h1 h2
  subst h1
  subst h2
  have j7:decide (16 < wrap64 (cnt + (l.length:Int)))=true:=decide_eq_true c0
  clear h
  go_enter Try.func82,Try.ntmps82
  go_wp2
  go_ret
  exact ⟨rfl,j4.out,j5.out,HW1.out⟩
 rw [if_neg c0] at h
 have j7:decide (16 < wrap64 (cnt + (l.length:Int)))=false:=decide_eq_false c0
 have H':=am h
 clear h
 go_enter Try.func82,Try.ntmps82
 go_wp2
 go_loopg [24] k (fun kq j8 w'=>∃ (i cq:Int),j8= .int .i64 i∧Aside0 (dJ.l0 kq l boxes blocks i cq=some (r,cnt'))∧Aside0 (kq≤k)∧Aside0 (w'.heap[gc]?=some (.cells #[.int .i64 cq] 3 (0,0)))∧Aside0 (aI w w' gc none)∧Aside0 (Below B w w'))
 case atStart=>exact ⟨0,_,rfl,H',⟨Nat.le_refl _⟩,j4,j5,HW1⟩
 case round=>
  obtain ⟨i,cq,rfl,HA,HK,HBQ,HKQ,HWQ⟩:=hrel
  cases gk with
  |zero=>exact absurd HA.out (by simp [dJ.l0])
  |succ k1=>
   have H:=HA.out
   clear HA
   simp only [dJ.l0] at H
   by_cases c1:i < (l.length:Int)
   ·rw [if_pos c1] at H
    by_cases c2:0≤i
    ·rw [if_pos c2] at H
     obtain ⟨t,ht,H⟩:=bsm H
     have hF':=Kd.wD HF.out (fun q hq hlt=>HKQ.out.2 q hlt (fun e=>HNO.out (e ▸ hq)) (by simp))
     obtain ⟨ad,A5,c5,A6,c6,A7,c7,rfl,x0,x1,x2,x3,x4,x5,x6,x7,l5,g5,l6,g6,l7,g7⟩:=aAa hF' i c2 c1
     obtain ⟨ad_,cs_,e_,_,_,_,okad⟩:=Kd.RU hF' z35 i c2 c1
     cases e_
     have NE7:=am (show (ad.add (i.toNat * 8)).block≠gc from fun e=>HNO.out (e ▸ (add_block ad _).symm ▸ okad (by decide)))
     clear okad
     have HT:=am ht
     have j9:decide (i < (l.length:Int))=true:=decide_eq_true c1
     have p0:=eq_true c2
     have p1:=eq_true c1
     have G5:=am (Kd.OG g5)
     have L5:=am l5
     have G6:=am g6
     have L6:=am l6
     have G7:=am g7
     have L7:=am l7
     clear ht hF' g5 l5 g6 l6 g7 l7 c1 c2 z0 f0
     cases t with
     |false=>
      rw [if_neg (by decide)] at H
      have h1:=Option.some.inj H
      injection h1 with h1 h2
      subst h1
      subst h2
      clear H
      go_wp2_with (first|((with_reducible refine (fF.callsP k1 (ad.add (i.toNat * 8)) _ _ _ _ _ A5 c5 _ A6 _ c6 A7 _ c7 _ _ _ x0 x1 x2 x3 x4 x5 x6 x7 G5.out L5.out HT.out).mono ?_);rintro e wa ⟨rfl,hb⟩;have y0:=bV hb x0;have y6:=bV hb x6;have y7:=bV hb x7;have BXA:=am (dR HBQ.out hb);have KA:=am (aI.trans HKQ.out (aI.of_below hb gc none) (.inl rfl));have WA:=am (HWQ.out.trans (hb.mono (Nat.le_of_lt (Nat.lt_of_le_of_lt HGB.out (gT HBQ.out)))));have G6A:=am (Kd.iV G6.out hb);have G7A:=am (Kd.iV G7.out hb);clear hb;(try dsimp only)))
      go_ret
      exact ⟨rfl,BXA.out,KA.out,WA.out⟩
     |true=>
      rw [if_pos rfl] at H
      by_cases c3:3 < blocks
      ·rw [if_pos c3] at H
       have ja:decide (3 < blocks)=true:=decide_eq_true c3
       have h1:=Option.some.inj H
       injection h1 with h1 h2
       subst h1
       subst h2
       clear H
       go_wp2_with (first|((with_reducible refine (fF.callsP k1 (ad.add (i.toNat * 8)) _ _ _ _ _ A5 c5 _ A6 _ c6 A7 _ c7 _ _ _ x0 x1 x2 x3 x4 x5 x6 x7 G5.out L5.out HT.out).mono ?_);rintro e wa ⟨rfl,hb⟩;have y0:=bV hb x0;have y6:=bV hb x6;have y7:=bV hb x7;have BXA:=am (dR HBQ.out hb);have KA:=am (aI.trans HKQ.out (aI.of_below hb gc none) (.inl rfl));have WA:=am (HWQ.out.trans (hb.mono (Nat.le_of_lt (Nat.lt_of_le_of_lt HGB.out (gT HBQ.out)))));have G6A:=am (Kd.iV G6.out hb);have G7A:=am (Kd.iV G7.out hb);clear hb;(try dsimp only)))
       go_ret
       exact ⟨rfl,BXA.out,KA.out,WA.out⟩
      rw [if_neg c3] at H
      have ja:decide (3 < blocks)=false:=decide_eq_false c3
      by_cases c4:(aA l i).f0=2∨(aA l i).f0=3
      ·rw [if_pos c4] at H
       by_cases j3:3≤blocks
       ·rw [if_pos j3] at H
        have jb:decide (3≤blocks)=true:=decide_eq_true j3
        clear c3 j3
        have h1:=Option.some.inj H
        injection h1 with h1 h2
        subst h1
        subst h2
        clear H
        rcases c4 with c4|c4
        ·have d2:((aA l i).f0 != 2)=false:=bne_eq_false_iff_eq.mpr c4
         clear c4
         go_wp2_with (first|((with_reducible refine (fF.callsP k1 (ad.add (i.toNat * 8)) _ _ _ _ _ A5 c5 _ A6 _ c6 A7 _ c7 _ _ _ x0 x1 x2 x3 x4 x5 x6 x7 G5.out L5.out HT.out).mono ?_);rintro e wa ⟨rfl,hb⟩;have y0:=bV hb x0;have y6:=bV hb x6;have y7:=bV hb x7;have BXA:=am (dR HBQ.out hb);have KA:=am (aI.trans HKQ.out (aI.of_below hb gc none) (.inl rfl));have WA:=am (HWQ.out.trans (hb.mono (Nat.le_of_lt (Nat.lt_of_le_of_lt HGB.out (gT HBQ.out)))));have G6A:=am (Kd.iV G6.out hb);have G7A:=am (Kd.iV G7.out hb);clear hb;(try dsimp only)))
         go_ret
         exact ⟨rfl,BXA.out,KA.out,WA.out⟩
        ·have d2:((aA l i).f0 != 2)=true:=bne_iff_ne.mpr (by omega)
         have d3:((aA l i).f0 != 3)=false:=bne_eq_false_iff_eq.mpr c4
         clear c4
         go_wp2_with (first|((with_reducible refine (fF.callsP k1 (ad.add (i.toNat * 8)) _ _ _ _ _ A5 c5 _ A6 _ c6 A7 _ c7 _ _ _ x0 x1 x2 x3 x4 x5 x6 x7 G5.out L5.out HT.out).mono ?_);rintro e wa ⟨rfl,hb⟩;have y0:=bV hb x0;have y6:=bV hb x6;have y7:=bV hb x7;have BXA:=am (dR HBQ.out hb);have KA:=am (aI.trans HKQ.out (aI.of_below hb gc none) (.inl rfl));have WA:=am (HWQ.out.trans (hb.mono (Nat.le_of_lt (Nat.lt_of_le_of_lt HGB.out (gT HBQ.out)))));have G6A:=am (Kd.iV G6.out hb);have G7A:=am (Kd.iV G7.out hb);clear hb;(try dsimp only)))
         go_ret
         exact ⟨rfl,BXA.out,KA.out,WA.out⟩
       rw [if_neg j3] at H
       have jb:decide (3≤blocks)=false:=decide_eq_false j3
       clear c3 j3
       obtain ⟨⟨r1,jc⟩,hp,H⟩:=bsm H
       have HP:=am hp
       clear hp
       cases r1 with
       |false=>
        rw [if_neg Bool.false_ne_true] at H
        have h1:=Option.some.inj H
        injection h1 with h1 h2
        subst h1
        subst h2
        clear H
        rcases c4 with c4|c4
        ·have d2:((aA l i).f0 != 2)=false:=bne_eq_false_iff_eq.mpr c4
         clear c4
         go_wp2_with (first|((with_reducible refine (fF.callsP k1 (ad.add (i.toNat * 8)) _ _ _ _ _ A5 c5 _ A6 _ c6 A7 _ c7 _ _ _ x0 x1 x2 x3 x4 x5 x6 x7 G5.out L5.out HT.out).mono ?_);rintro e wa ⟨rfl,hb⟩;have y0:=bV hb x0;have y6:=bV hb x6;have y7:=bV hb x7;have BXA:=am (dR HBQ.out hb);have KA:=am (aI.trans HKQ.out (aI.of_below hb gc none) (.inl rfl));have WA:=am (HWQ.out.trans (hb.mono (Nat.le_of_lt (Nat.lt_of_le_of_lt HGB.out (gT HBQ.out)))));have G6A:=am (Kd.iV G6.out hb);have G7A:=am (Kd.iV G7.out hb);clear hb;(try dsimp only))|((with_reducible refine (ih k1 (by have:=HK.out;omega) A6 c6 _ boxes (wrap64 (blocks + 1)) cq gc B ok _ _ _ G6A.out L6.out HNO.out HGB.out BXA.out HP.out).mono ?_);rintro e wb ⟨rfl,hx,hk,hw⟩;have ne7:=am hk;have u7:=tF hk y7 NE7.out;have G7B:=am (Kd.wD G7A.out (fun q hq hlt=>hk.2 q hlt (fun e=>HNO.out (e ▸ hq)) (by simp)));have BXB:=am hx;have KB:=am (aI.trans KA.out hk (.inl rfl));have WB:=am (WA.out.trans hw);clear hx hk hw;(try dsimp only)))
         go_ret
         exact ⟨rfl,BXB.out,KB.out,WB.out⟩
        ·have d2:((aA l i).f0 != 2)=true:=bne_iff_ne.mpr (by omega)
         have d3:((aA l i).f0 != 3)=false:=bne_eq_false_iff_eq.mpr c4
         clear c4
         go_wp2_with (first|((with_reducible refine (fF.callsP k1 (ad.add (i.toNat * 8)) _ _ _ _ _ A5 c5 _ A6 _ c6 A7 _ c7 _ _ _ x0 x1 x2 x3 x4 x5 x6 x7 G5.out L5.out HT.out).mono ?_);rintro e wa ⟨rfl,hb⟩;have y0:=bV hb x0;have y6:=bV hb x6;have y7:=bV hb x7;have BXA:=am (dR HBQ.out hb);have KA:=am (aI.trans HKQ.out (aI.of_below hb gc none) (.inl rfl));have WA:=am (HWQ.out.trans (hb.mono (Nat.le_of_lt (Nat.lt_of_le_of_lt HGB.out (gT HBQ.out)))));have G6A:=am (Kd.iV G6.out hb);have G7A:=am (Kd.iV G7.out hb);clear hb;(try dsimp only))|((with_reducible refine (ih k1 (by have:=HK.out;omega) A6 c6 _ boxes (wrap64 (blocks + 1)) cq gc B ok _ _ _ G6A.out L6.out HNO.out HGB.out BXA.out HP.out).mono ?_);rintro e wb ⟨rfl,hx,hk,hw⟩;have ne7:=am hk;have u7:=tF hk y7 NE7.out;have G7B:=am (Kd.wD G7A.out (fun q hq hlt=>hk.2 q hlt (fun e=>HNO.out (e ▸ hq)) (by simp)));have BXB:=am hx;have KB:=am (aI.trans KA.out hk (.inl rfl));have WB:=am (WA.out.trans hw);clear hx hk hw;(try dsimp only)))
         go_ret
         exact ⟨rfl,BXB.out,KB.out,WB.out⟩
       |true=>
        rw [if_pos rfl] at H
        obtain ⟨⟨r2,j6⟩,hq,H⟩:=bsm H
        have HQ:=am hq
        clear hq
        cases r2 with
        |false=>
         rw [if_neg Bool.false_ne_true] at H
         have h1:=Option.some.inj H
         injection h1 with h1 h2
         subst h1
         subst h2
         clear H
         rcases c4 with c4|c4
         ·have d2:((aA l i).f0 != 2)=false:=bne_eq_false_iff_eq.mpr c4
          clear c4
          go_wp2_with (first|((with_reducible refine (fF.callsP k1 (ad.add (i.toNat * 8)) _ _ _ _ _ A5 c5 _ A6 _ c6 A7 _ c7 _ _ _ x0 x1 x2 x3 x4 x5 x6 x7 G5.out L5.out HT.out).mono ?_);rintro e wa ⟨rfl,hb⟩;have y0:=bV hb x0;have y6:=bV hb x6;have y7:=bV hb x7;have BXA:=am (dR HBQ.out hb);have KA:=am (aI.trans HKQ.out (aI.of_below hb gc none) (.inl rfl));have WA:=am (HWQ.out.trans (hb.mono (Nat.le_of_lt (Nat.lt_of_le_of_lt HGB.out (gT HBQ.out)))));have G6A:=am (Kd.iV G6.out hb);have G7A:=am (Kd.iV G7.out hb);clear hb;(try dsimp only))|((with_reducible refine (ih k1 (by have:=HK.out;omega) A6 c6 _ boxes (wrap64 (blocks + 1)) cq gc B ok _ _ _ G6A.out L6.out HNO.out HGB.out BXA.out HP.out).mono ?_);rintro e wb ⟨rfl,hx,hk,hw⟩;have ne7:=am hk;have u7:=tF hk y7 NE7.out;have G7B:=am (Kd.wD G7A.out (fun q hq hlt=>hk.2 q hlt (fun e=>HNO.out (e ▸ hq)) (by simp)));have BXB:=am hx;have KB:=am (aI.trans KA.out hk (.inl rfl));have WB:=am (WA.out.trans hw);clear hx hk hw;(try dsimp only))|((with_reducible refine (ih k1 (by have:=HK.out;omega) A7 c7 _ boxes (wrap64 (blocks + 1)) _ gc B ok _ _ _ G7B.out L7.out HNO.out HGB.out BXB.out HQ.out).mono ?_);rintro e wd ⟨rfl,hx,hk,hw⟩;have BXD:=am hx;have KD:=am (aI.trans KB.out hk (.inl rfl));have WD:=am (WB.out.trans hw);clear hx hk hw;(try dsimp only)))
          go_ret
          exact ⟨rfl,BXD.out,KD.out,WD.out⟩
         ·have d2:((aA l i).f0 != 2)=true:=bne_iff_ne.mpr (by omega)
          have d3:((aA l i).f0 != 3)=false:=bne_eq_false_iff_eq.mpr c4
          clear c4
          go_wp2_with (first|((with_reducible refine (fF.callsP k1 (ad.add (i.toNat * 8)) _ _ _ _ _ A5 c5 _ A6 _ c6 A7 _ c7 _ _ _ x0 x1 x2 x3 x4 x5 x6 x7 G5.out L5.out HT.out).mono ?_);rintro e wa ⟨rfl,hb⟩;have y0:=bV hb x0;have y6:=bV hb x6;have y7:=bV hb x7;have BXA:=am (dR HBQ.out hb);have KA:=am (aI.trans HKQ.out (aI.of_below hb gc none) (.inl rfl));have WA:=am (HWQ.out.trans (hb.mono (Nat.le_of_lt (Nat.lt_of_le_of_lt HGB.out (gT HBQ.out)))));have G6A:=am (Kd.iV G6.out hb);have G7A:=am (Kd.iV G7.out hb);clear hb;(try dsimp only))|((with_reducible refine (ih k1 (by have:=HK.out;omega) A6 c6 _ boxes (wrap64 (blocks + 1)) cq gc B ok _ _ _ G6A.out L6.out HNO.out HGB.out BXA.out HP.out).mono ?_);rintro e wb ⟨rfl,hx,hk,hw⟩;have ne7:=am hk;have u7:=tF hk y7 NE7.out;have G7B:=am (Kd.wD G7A.out (fun q hq hlt=>hk.2 q hlt (fun e=>HNO.out (e ▸ hq)) (by simp)));have BXB:=am hx;have KB:=am (aI.trans KA.out hk (.inl rfl));have WB:=am (WA.out.trans hw);clear hx hk hw;(try dsimp only))|((with_reducible refine (ih k1 (by have:=HK.out;omega) A7 c7 _ boxes (wrap64 (blocks + 1)) _ gc B ok _ _ _ G7B.out L7.out HNO.out HGB.out BXB.out HQ.out).mono ?_);rintro e wd ⟨rfl,hx,hk,hw⟩;have BXD:=am hx;have KD:=am (aI.trans KB.out hk (.inl rfl));have WD:=am (WB.out.trans hw);clear hx hk hw;(try dsimp only)))
          go_ret
          exact ⟨rfl,BXD.out,KD.out,WD.out⟩
        |true=>
         rw [if_pos rfl] at H
         have H':=am H
         clear H
         rcases c4 with c4|c4
         ·have d2:((aA l i).f0 != 2)=false:=bne_eq_false_iff_eq.mpr c4
          clear c4
          go_wp2_with (first|((with_reducible refine (fF.callsP k1 (ad.add (i.toNat * 8)) _ _ _ _ _ A5 c5 _ A6 _ c6 A7 _ c7 _ _ _ x0 x1 x2 x3 x4 x5 x6 x7 G5.out L5.out HT.out).mono ?_);rintro e wa ⟨rfl,hb⟩;have y0:=bV hb x0;have y6:=bV hb x6;have y7:=bV hb x7;have BXA:=am (dR HBQ.out hb);have KA:=am (aI.trans HKQ.out (aI.of_below hb gc none) (.inl rfl));have WA:=am (HWQ.out.trans (hb.mono (Nat.le_of_lt (Nat.lt_of_le_of_lt HGB.out (gT HBQ.out)))));have G6A:=am (Kd.iV G6.out hb);have G7A:=am (Kd.iV G7.out hb);clear hb;(try dsimp only))|((with_reducible refine (ih k1 (by have:=HK.out;omega) A6 c6 _ boxes (wrap64 (blocks + 1)) cq gc B ok _ _ _ G6A.out L6.out HNO.out HGB.out BXA.out HP.out).mono ?_);rintro e wb ⟨rfl,hx,hk,hw⟩;have ne7:=am hk;have u7:=tF hk y7 NE7.out;have G7B:=am (Kd.wD G7A.out (fun q hq hlt=>hk.2 q hlt (fun e=>HNO.out (e ▸ hq)) (by simp)));have BXB:=am hx;have KB:=am (aI.trans KA.out hk (.inl rfl));have WB:=am (WA.out.trans hw);clear hx hk hw;(try dsimp only))|((with_reducible refine (ih k1 (by have:=HK.out;omega) A7 c7 _ boxes (wrap64 (blocks + 1)) _ gc B ok _ _ _ G7B.out L7.out HNO.out HGB.out BXB.out HQ.out).mono ?_);rintro e wd ⟨rfl,hx,hk,hw⟩;have BXD:=am hx;have KD:=am (aI.trans KB.out hk (.inl rfl));have WD:=am (WB.out.trans hw);clear hx hk hw;(try dsimp only)))
          go_roundg k1
          case measure=>have:=HK.out;omega
          case rel=>exact ⟨wrap64 (i + 1),j6,sd_,H',⟨by have:=HK.out;omega⟩,BXD,KD,WD⟩
         ·have d2:((aA l i).f0 != 2)=true:=bne_iff_ne.mpr (by omega)
          have d3:((aA l i).f0 != 3)=false:=bne_eq_false_iff_eq.mpr c4
          clear c4
          go_wp2_with (first|((with_reducible refine (fF.callsP k1 (ad.add (i.toNat * 8)) _ _ _ _ _ A5 c5 _ A6 _ c6 A7 _ c7 _ _ _ x0 x1 x2 x3 x4 x5 x6 x7 G5.out L5.out HT.out).mono ?_);rintro e wa ⟨rfl,hb⟩;have y0:=bV hb x0;have y6:=bV hb x6;have y7:=bV hb x7;have BXA:=am (dR HBQ.out hb);have KA:=am (aI.trans HKQ.out (aI.of_below hb gc none) (.inl rfl));have WA:=am (HWQ.out.trans (hb.mono (Nat.le_of_lt (Nat.lt_of_le_of_lt HGB.out (gT HBQ.out)))));have G6A:=am (Kd.iV G6.out hb);have G7A:=am (Kd.iV G7.out hb);clear hb;(try dsimp only))|((with_reducible refine (ih k1 (by have:=HK.out;omega) A6 c6 _ boxes (wrap64 (blocks + 1)) cq gc B ok _ _ _ G6A.out L6.out HNO.out HGB.out BXA.out HP.out).mono ?_);rintro e wb ⟨rfl,hx,hk,hw⟩;have ne7:=am hk;have u7:=tF hk y7 NE7.out;have G7B:=am (Kd.wD G7A.out (fun q hq hlt=>hk.2 q hlt (fun e=>HNO.out (e ▸ hq)) (by simp)));have BXB:=am hx;have KB:=am (aI.trans KA.out hk (.inl rfl));have WB:=am (WA.out.trans hw);clear hx hk hw;(try dsimp only))|((with_reducible refine (ih k1 (by have:=HK.out;omega) A7 c7 _ boxes (wrap64 (blocks + 1)) _ gc B ok _ _ _ G7B.out L7.out HNO.out HGB.out BXB.out HQ.out).mono ?_);rintro e wd ⟨rfl,hx,hk,hw⟩;have BXD:=am hx;have KD:=am (aI.trans KB.out hk (.inl rfl));have WD:=am (WB.out.trans hw);clear hx hk hw;(try dsimp only)))
          go_roundg k1
          case measure=>have:=HK.out;omega
          case rel=>exact ⟨wrap64 (i + 1),j6,sd_,H',⟨by have:=HK.out;omega⟩,BXD,KD,WD⟩
      rw [if_neg c4] at H
      have d2:((aA l i).f0 != 2)=true:=bne_iff_ne.mpr (fun e=>c4 (.inl e))
      have d3:((aA l i).f0 != 3)=true:=bne_iff_ne.mpr (fun e=>c4 (.inr e))
      have H':=am H
      clear H c3 c4
      go_wp2_with (first|((with_reducible refine (fF.callsP k1 (ad.add (i.toNat * 8)) _ _ _ _ _ A5 c5 _ A6 _ c6 A7 _ c7 _ _ _ x0 x1 x2 x3 x4 x5 x6 x7 G5.out L5.out HT.out).mono ?_);rintro e wa ⟨rfl,hb⟩;have y0:=bV hb x0;have y6:=bV hb x6;have y7:=bV hb x7;have BXA:=am (dR HBQ.out hb);have KA:=am (aI.trans HKQ.out (aI.of_below hb gc none) (.inl rfl));have WA:=am (HWQ.out.trans (hb.mono (Nat.le_of_lt (Nat.lt_of_le_of_lt HGB.out (gT HBQ.out)))));have G6A:=am (Kd.iV G6.out hb);have G7A:=am (Kd.iV G7.out hb);clear hb;(try dsimp only)))
      go_roundg k1
      case measure=>have:=HK.out;omega
      case rel=>exact ⟨wrap64 (i + 1),cq,sd_,H',⟨by have:=HK.out;omega⟩,BXA,KA,WA⟩
    rw [if_neg c2] at H
    exact absurd H (by simp)
   rw [if_neg c1] at H
   have j9:decide (i < (l.length:Int))=false:=decide_eq_false c1
   have h1:=Option.some.inj H
   injection h1 with h1 h2
   subst h1
   subst h2
   clear H
   go_wp2
   go_ret
   exact ⟨rfl,HBQ.out,HKQ.out,HWQ.out⟩
theorem fP.mono:∀ l0 a1 k,LeO (fP.f k l0 a1) (fP.f (k + 1) l0 a1):=by
 intro l0 a1 k
 unfold fP.f
 exact LeO.bind (dJ.mono _ _ _ _ _) (fun _=>LeO.refl _)
theorem fP.calls (k:Nat) (A0:Option Addr) (c0:Nat) (l0:List (S35)) (a1:Int) (r:Bool) (w:World) (hr0:Kd.C k35 w A0 l0.length l0) (hc0:l0.length≤c0) (h:fP.f k l0 a1=some r):
  Calls Try.prog 50 #[.slice A0 l0.length c0, .int .i64 a1] w fun e w'=>e= .returned (.bool r)∧Below w.heap.size w w':=by
 unfold fP.f at h
 replace h:=Option.bind_eq_some_iff.mp h
 obtain ⟨⟨r',cnt'⟩,hv,h⟩:=h
 obtain rfl:=Option.some.inj h
 have HV:=am hv
 have HF:=am (Kd.C_F TH hr0)
 have j3:=am hc0
 clear hr0 hc0 h hv
 go_enter Try.func50,Try.ntmps50
 go_upto_region 2 with (first|((with_reducible refine cZ (N:=5) rfl ?_);refine dO (N:=5) rfl rfl (cs:=#[.int .i64 0]) (t:=3) rn_ ?_;intro gb hg w1 hbox hb;have z0:w1.cell? ⟨gb,0,none⟩=some (.int .i64 0):=aC hbox 0;have f0:=aU hbox 0;have HG:=am (Nat.le_of_eq hg.symm);have HBX:=am (aM (cs':=#[.int .i64 0]) hbox 0 (.int .i64 0) rfl);have HB:=am (below_set (j:=0) (v:= .int .i64 0) hb (Nat.le_of_eq hg.symm));clear hbox hb hg)|fail)
 go_wp2_with (first|((with_reducible refine (dJ.callsP k A0 c0 l0 a1 0 0 _ w.heap.size (fun q=>q < w.heap.size) r' cnt' _ (Kd.iV HF.out HB.out) j3.out (Nat.not_lt.mpr HG.out) HG.out HBX.out HV.out).mono ?_);rintro e w2 ⟨rfl,_,_,hw⟩;have HW:=am (HB.out.trans hw);clear hw;(try dsimp only))|fail)
 go_ret
 exact ⟨rfl,HW.out⟩
theorem gJ.mono:∀ a0 k,LeO (gJ.f k a0) (gJ.f (k + 1) a0):=by
 intro a0 k
 unfold gJ.f
 have m0:=@fP.mono
 exact mo_
theorem gJ.calls (k:Nat) (A0:Option Addr) (c0:Nat) (l0:List (S35)) (r:Bool) (w:World) (hr0:Kd.C k35 w A0 l0.length l0) (hc0:l0.length≤c0) (h:gJ.f k l0=some r):
  Calls Try.prog 17 #[.slice A0 l0.length c0] w fun e w'=>e= .returned (.bool r)∧Below w.heap.size w w':=by
 have j4:=am hr0
 have j5:=am hc0
 clear hr0 hc0
 have HB:=am (Below.refl w.heap.size w)
 have H:((fP.f k l0 3).bind fun j3=>(some j3))=some r:=h
 clear h
 obtain ⟨j3,A2,H⟩:=bsa H
 (try dsimp only at H)
 obtain rfl:=Option.some.inj H
 go_enter Try.func17,Try.ntmps17
 go_wp2_with (first|((with_reducible refine aN (f:=50) rfl ?_);refine gl_ 4 Try.func50 #[.slice A0 l0.length c0, .int .i64 3] ?_;(with_reducible refine (fP.calls k _ _ l0 3 j3 _ (aC_ j4.out) j5.out A2.out).mono ?_);rintro e w3 ⟨rfl,hb⟩;refine ⟨_,rfl,?_⟩;replace HB:=am (aD fU hb);(try clear hb)))
 go_ret
 exact ⟨rr_,fU⟩
theorem mH.calls (a0:Bool) (r:Int) (w:World) (h:mH.f a0=some r):
  Calls Try.prog 106 #[.bool a0] w fun e w'=>e= .returned (.int .i64 r)∧iX w w':=by
 have H:(if a0=true then (some 1) else (some 0))=some r:=h
 clear h
 by_cases c2:a0=true
 ·subst c2
  rw [if_pos rfl] at H
  obtain rfl:=Option.some.inj H
  go_enter Try.func106,Try.ntmps106
  go_wp2
  go_ret
  exact ⟨sd_,gM⟩
 replace c2:=Bool.eq_false_iff.mpr c2
 subst c2
 rw [if_neg (show ¬ (false=true) by decide)] at H
 obtain rfl:=Option.some.inj H
 go_enter Try.func106,Try.ntmps106
 go_wp2
 go_ret
 exact ⟨sd_,gM⟩
theorem iL.calls (a0:Int) (r:Int) (w:World) (h:iL.f a0=some r):
  Calls Try.prog 107 #[.int .i64 a0] w fun e w'=>e= .returned (.int .i64 r)∧iX w w':=by
 have H:(some (wrap64 (wrap32 (a0))))=some r:=h
 clear h
 obtain rfl:=Option.some.inj H
 go_enter Try.func107,Try.ntmps107
 go_wp2
 go_ret
 exact ⟨sd_,gM⟩
theorem nS.calls (a0:Int) (a1:Int) (a2:Int) (r:Int) (w:World) (h:nS.f a0 a1 a2=some r):
  Calls Try.prog 94 #[.int .i64 a0, .int .i64 a1, .int .i64 a2] w fun e w'=>e= .returned (.int .i64 r)∧iX w w':=by
 have H:(if a0=1 then (some (Go.bits .or .i64 a1 a2)) else (if a0=2 then (some (Go.bits .xor .i64 a1 a2)) else (if a0=3 then (some (Go.bits .and .i64 a1 a2)) else (if a0=4 then ((mH.f (a1 == a2)).bind fun ju=>(some ju)) else (if a0=5 then ((mH.f (decide (a1 < a2))).bind fun jv=>(some jv)) else (if a0=6 then (if 0≤(Go.bits .and .i64 a2 31) then ((iL.f (shl .i64 a1 (Go.bits .and .i64 a2 31))).bind fun jb=>(some jb)) else (none)) else (if a0=7 then (if 0≤(Go.bits .and .i64 a2 31) then (some (shr .i64 a1 (Go.bits .and .i64 a2 31))) else (none)) else (if a0=8 then ((iL.f (wrap64 (a1 + a2))).bind fun jw=>(some jw)) else (if a0=9 then ((iL.f (wrap64 (a1 - a2))).bind fun jx=>(some jx)) else (if a0=10 then ((iL.f (wrap64 (a1 * a2))).bind fun jy=>(some jy)) else (if a0=11 then (if a2=0 then (some (-1)) else ((iL.f (wrap64 (Int.tdiv a1 a2))).bind fun jz=>(some jz))) else (if a2=0 then (some a1) else (some (Int.tmod a1 a2))))))))))))))=some r:=h
 clear h
 by_cases c4:a0=1
 ·rw [if_pos c4] at H
  have jA:(a0 == 1)=true:=beq_iff_eq.mpr c4
  have jB:(a0 != 1)=false:=bne_eq_false_iff_eq.mpr c4
  clear c4
  obtain rfl:=Option.some.inj H
  go_enter Try.func94,Try.ntmps94
  go_wp2
  go_ret
  exact ⟨sd_,gM⟩
 rw [if_neg c4] at H
 have jA:(a0 == 1)=false:=beq_eq_false_iff_ne.mpr c4
 have jB:(a0 != 1)=true:=bne_iff_ne.mpr c4
 by_cases c5:a0=2
 ·rw [if_pos c5] at H
  have jC:(a0 == 2)=true:=beq_iff_eq.mpr c5
  have jD:(a0 != 2)=false:=bne_eq_false_iff_eq.mpr c5
  clear c5
  obtain rfl:=Option.some.inj H
  go_enter Try.func94,Try.ntmps94
  go_wp2
  go_ret
  exact ⟨sd_,gM⟩
 rw [if_neg c5] at H
 have jC:(a0 == 2)=false:=beq_eq_false_iff_ne.mpr c5
 have jD:(a0 != 2)=true:=bne_iff_ne.mpr c5
 by_cases c6:a0=3
 ·rw [if_pos c6] at H
  have jE:(a0 == 3)=true:=beq_iff_eq.mpr c6
  have jF:(a0 != 3)=false:=bne_eq_false_iff_eq.mpr c6
  clear c6
  obtain rfl:=Option.some.inj H
  go_enter Try.func94,Try.ntmps94
  go_wp2
  go_ret
  exact ⟨sd_,gM⟩
 rw [if_neg c6] at H
 have jE:(a0 == 3)=false:=beq_eq_false_iff_ne.mpr c6
 have jF:(a0 != 3)=true:=bne_iff_ne.mpr c6
 by_cases c7:a0=4
 ·rw [if_pos c7] at H
  have jG:(a0 == 4)=true:=beq_iff_eq.mpr c7
  have jH:(a0 != 4)=false:=bne_eq_false_iff_eq.mpr c7
  clear c7
  obtain ⟨ju,A8,H⟩:=bsa H
  (try dsimp only at H)
  obtain rfl:=Option.some.inj H
  go_enter Try.func94,Try.ntmps94
  go_wp2_with (first|((with_reducible refine aN (f:=106) rfl ?_);refine gl_ 28 Try.func106 #[.bool (a1 == a2)] ?_;(with_reducible refine (mH.calls (a1 == a2) ju _ A8.out).mono ?_);rintro e w' ⟨rfl,⟨nd,rfl⟩⟩;refine ⟨_,rfl,?_⟩))
  go_ret
  exact ⟨sd_,gM⟩
 rw [if_neg c7] at H
 have jG:(a0 == 4)=false:=beq_eq_false_iff_ne.mpr c7
 have jH:(a0 != 4)=true:=bne_iff_ne.mpr c7
 by_cases c9:a0=5
 ·rw [if_pos c9] at H
  have jI:(a0 == 5)=true:=beq_iff_eq.mpr c9
  have jJ:(a0 != 5)=false:=bne_eq_false_iff_eq.mpr c9
  clear c9
  obtain ⟨jv,jK,H⟩:=bsm H
  (try dsimp only at H)
  have jT:=am jK
  clear jK
  obtain rfl:=Option.some.inj H
  go_enter Try.func94,Try.ntmps94
  go_wp2_with (first|((with_reducible refine aN (f:=106) rfl ?_);refine gl_ 34 Try.func106 #[.bool (decide (a1 < a2))] ?_;(with_reducible refine (mH.calls (decide (a1 < a2)) jv _ jT.out).mono ?_);rintro e w' ⟨rfl,⟨nd,rfl⟩⟩;refine ⟨_,rfl,?_⟩))
  go_ret
  exact ⟨sd_,gM⟩
 rw [if_neg c9] at H
 have jI:(a0 == 5)=false:=beq_eq_false_iff_ne.mpr c9
 have jJ:(a0 != 5)=true:=bne_iff_ne.mpr c9
 by_cases j3:a0=6
 ·rw [if_pos j3] at H
  have jc:(a0 == 6)=true:=beq_iff_eq.mpr j3
  have jd:(a0 != 6)=false:=bne_eq_false_iff_eq.mpr j3
  clear j3
  by_cases je:0≤(Go.bits .and .i64 a2 31)
  ·rw [if_pos je] at H
   have jL:=eq_true je
   have jM:decide (0≤(Go.bits .and .i64 a2 31))=true:=decide_eq_true je
   clear je
   obtain ⟨ji13,hji13⟩:∃ j_:Int,(shl .i64 a1 (Go.bits .and .i64 a2 31))=j_:=⟨_,rfl⟩
   replace H:((iL.f (ji13)).bind fun jb=>(some jb))=some r:=by first|(rw [hji13] at H;exact H)|(simp only [hji13] at H ⊢;exact H)
   have hji13_:(IntKind.i64.wrap (a1 * 2 ^ min (Go.bits .and .i64 a2 31).toNat 64))=ji13:=hji13
   have hji13z:(Go.bits .and .i64 a2 31)≤64→(IntKind.i64.wrap (a1 * 2 ^ (Go.bits .and .i64 a2 31).toNat))=ji13:=IJ hji13
   have hji13y:(wrap64 (a1 * 2 ^ min (Go.bits .and .i64 a2 31).toNat 64))=ji13:=(dN _).symm.trans hji13_
   have hji13x:(Go.bits .and .i64 a2 31)≤64→(wrap64 (a1 * 2 ^ (Go.bits .and .i64 a2 31).toNat))=ji13:=fun h_=>(dN _).symm.trans (hji13z h_)
   obtain ⟨jb,jN,H⟩:=bsm H
   (try dsimp only at H)
   have jU:=am jN
   clear jN
   obtain rfl:=Option.some.inj H
   go_enter Try.func94,Try.ntmps94
   go_wp2_with (first|((with_reducible refine aN (f:=107) rfl ?_);refine sS (some 41) rfl rfl Try.func107 (by kernel_rfl) rfl #[.int .i64 ji13] rfl (by (try simp only [List.map_toArray,List.map_cons,List.map_nil]);first|done|(simp only [hji13];rfl)|rfl|(simp only [List.length_drop,List.length_take];rfl)) ?_;(with_reducible refine (iL.calls ji13 jb _ jU.out).mono ?_);rintro e w' ⟨rfl,⟨nd,rfl⟩⟩;refine ⟨_,rfl,?_⟩))
   go_ret
   exact ⟨by first|rfl|(simp;done)|(simp only [← hji13] <;> (first|rfl|simp))|(simp [*];done),gM⟩
  rw [if_neg je] at H
  exact absurd H (by simp)
 rw [if_neg j3] at H
 have jc:(a0 == 6)=false:=beq_eq_false_iff_ne.mpr j3
 have jd:(a0 != 6)=true:=bne_iff_ne.mpr j3
 by_cases j4:a0=7
 ·rw [if_pos j4] at H
  have jf:(a0 == 7)=true:=beq_iff_eq.mpr j4
  have jg:(a0 != 7)=false:=bne_eq_false_iff_eq.mpr j4
  clear j4
  by_cases jh:0≤(Go.bits .and .i64 a2 31)
  ·rw [if_pos jh] at H
   have jO:=eq_true jh
   have jP:decide (0≤(Go.bits .and .i64 a2 31))=true:=decide_eq_true jh
   clear jh
   obtain ⟨ji17,hji17⟩:∃ j_:Int,(shr .i64 a1 (Go.bits .and .i64 a2 31))=j_:=⟨_,rfl⟩
   replace H:(some ji17)=some r:=by first|(rw [hji17] at H;exact H)|(simp only [hji17] at H ⊢;exact H)
   have hji17_:(a1 / 2 ^ min (Go.bits .and .i64 a2 31).toNat 64)=ji17:=hji17
   have hji17z:(Go.bits .and .i64 a2 31)≤64→(a1 / 2 ^ (Go.bits .and .i64 a2 31).toNat)=ji17:=IK hji17
   obtain rfl:=Option.some.inj H
   go_enter Try.func94,Try.ntmps94
   go_wp2
   go_ret
   exact ⟨by first|rfl|(simp;done)|(simp only [← hji17] <;> (first|rfl|simp))|(simp [*];done),gM⟩
  rw [if_neg jh] at H
  exact absurd H (by simp)
 rw [if_neg j4] at H
 have jf:(a0 == 7)=false:=beq_eq_false_iff_ne.mpr j4
 have jg:(a0 != 7)=true:=bne_iff_ne.mpr j4
 by_cases j5:a0=8
 ·rw [if_pos j5] at H
  have ji:(a0 == 8)=true:=beq_iff_eq.mpr j5
  have jj:(a0 != 8)=false:=bne_eq_false_iff_eq.mpr j5
  clear j5
  obtain ⟨jw,jV,H⟩:=bsa H
  (try dsimp only at H)
  obtain rfl:=Option.some.inj H
  go_enter Try.func94,Try.ntmps94
  go_wp2_with (first|((with_reducible refine aN (f:=107) rfl ?_);refine gl_ 53 Try.func107 #[.int .i64 (wrap64 (a1 + a2))] ?_;(with_reducible refine (iL.calls (wrap64 (a1 + a2)) jw _ jV.out).mono ?_);rintro e w' ⟨rfl,⟨nd,rfl⟩⟩;refine ⟨_,rfl,?_⟩))
  go_ret
  exact ⟨sd_,gM⟩
 rw [if_neg j5] at H
 have ji:(a0 == 8)=false:=beq_eq_false_iff_ne.mpr j5
 have jj:(a0 != 8)=true:=bne_iff_ne.mpr j5
 by_cases j6:a0=9
 ·rw [if_pos j6] at H
  have jk:(a0 == 9)=true:=beq_iff_eq.mpr j6
  have jl:(a0 != 9)=false:=bne_eq_false_iff_eq.mpr j6
  clear j6
  obtain ⟨jx,jQ,H⟩:=bsm H
  (try dsimp only at H)
  have jW:=am jQ
  clear jQ
  obtain rfl:=Option.some.inj H
  go_enter Try.func94,Try.ntmps94
  go_wp2_with (first|((with_reducible refine aN (f:=107) rfl ?_);refine gl_ 59 Try.func107 #[.int .i64 (wrap64 (a1 - a2))] ?_;(with_reducible refine (iL.calls (wrap64 (a1 - a2)) jx _ jW.out).mono ?_);rintro e w' ⟨rfl,⟨nd,rfl⟩⟩;refine ⟨_,rfl,?_⟩))
  go_ret
  exact ⟨sd_,gM⟩
 rw [if_neg j6] at H
 have jk:(a0 == 9)=false:=beq_eq_false_iff_ne.mpr j6
 have jl:(a0 != 9)=true:=bne_iff_ne.mpr j6
 by_cases j7:a0=10
 ·rw [if_pos j7] at H
  have jm:(a0 == 10)=true:=beq_iff_eq.mpr j7
  have jn:(a0 != 10)=false:=bne_eq_false_iff_eq.mpr j7
  clear j7
  obtain ⟨jy,jR,H⟩:=bsm H
  (try dsimp only at H)
  have jX:=am jR
  clear jR
  obtain rfl:=Option.some.inj H
  go_enter Try.func94,Try.ntmps94
  go_wp2_with (first|((with_reducible refine aN (f:=107) rfl ?_);refine gl_ 65 Try.func107 #[.int .i64 (wrap64 (a1 * a2))] ?_;(with_reducible refine (iL.calls (wrap64 (a1 * a2)) jy _ jX.out).mono ?_);rintro e w' ⟨rfl,⟨nd,rfl⟩⟩;refine ⟨_,rfl,?_⟩))
  go_ret
  exact ⟨sd_,gM⟩
 rw [if_neg j7] at H
 have jm:(a0 == 10)=false:=beq_eq_false_iff_ne.mpr j7
 have jn:(a0 != 10)=true:=bne_iff_ne.mpr j7
 by_cases j8:a0=11
 ·rw [if_pos j8] at H
  have jo:(a0 == 11)=true:=beq_iff_eq.mpr j8
  have jp:(a0 != 11)=false:=bne_eq_false_iff_eq.mpr j8
  clear j8
  by_cases j9:a2=0
  ·rw [if_pos j9] at H
   have jq:(a2 == 0)=true:=beq_iff_eq.mpr j9
   have jr:(a2 != 0)=false:=bne_eq_false_iff_eq.mpr j9
   clear j9
   obtain rfl:=Option.some.inj H
   go_enter Try.func94,Try.ntmps94
   go_wp2
   go_ret
   exact ⟨sd_,gM⟩
  rw [if_neg j9] at H
  have jq:(a2 == 0)=false:=beq_eq_false_iff_ne.mpr j9
  have jr:(a2 != 0)=true:=bne_iff_ne.mpr j9
  obtain ⟨jz,jS,H⟩:=bsm H
  (try dsimp only at H)
  have jY:=am jS
  clear jS
  obtain rfl:=Option.some.inj H
  go_enter Try.func94,Try.ntmps94
  go_wp2_with (first|((with_reducible refine aN (f:=107) rfl ?_);refine gl_ 73 Try.func107 #[.int .i64 (wrap64 (Int.tdiv a1 a2))] ?_;(with_reducible refine (iL.calls (wrap64 (Int.tdiv a1 a2)) jz _ jY.out).mono ?_);rintro e w' ⟨rfl,⟨nd,rfl⟩⟩;refine ⟨_,rfl,?_⟩))
  go_ret
  exact ⟨sd_,gM⟩
 rw [if_neg j8] at H
 have jo:(a0 == 11)=false:=beq_eq_false_iff_ne.mpr j8
 have jp:(a0 != 11)=true:=bne_iff_ne.mpr j8
 by_cases ja:a2=0
 ·rw [if_pos ja] at H
  have js:(a2 == 0)=true:=beq_iff_eq.mpr ja
  have jt:(a2 != 0)=false:=bne_eq_false_iff_eq.mpr ja
  clear ja
  obtain rfl:=Option.some.inj H
  go_enter Try.func94,Try.ntmps94
  go_wp2
  go_ret
  exact ⟨sd_,gM⟩
 rw [if_neg ja] at H
 have js:(a2 == 0)=false:=beq_eq_false_iff_ne.mpr ja
 have jt:(a2 != 0)=true:=bne_iff_ne.mpr ja
 obtain rfl:=Option.some.inj H
 go_enter Try.func94,Try.ntmps94
 go_wp2
 go_ret
 exact ⟨sd_,gM⟩
theorem bZ.mono_l:∀ k,(∀ y0 y1 y2,LeO (bZ.f k y0 y1 y2) (bZ.f (k + 1) y0 y1 y2))∧(∀ y0 y1 y2 y3 y4 y5 y6 y7 y8 y9,LeO (bZ.j0 k y0 y1 y2 y3 y4 y5 y6 y7 y8 y9) (bZ.j0 (k + 1) y0 y1 y2 y3 y4 y5 y6 y7 y8 y9))
 |0=>⟨fun _ _ _ r h=>by simp [bZ.f] at h,fun _ _ _ _ _ _ _ _ _ _ r h=>by simp [bZ.j0] at h⟩
 |k + 1=>by
  obtain ⟨ih0,ih1⟩:=bZ.mono_l k
  refine ⟨?_,?_⟩
  ·intro y0 y1 y2
   unfold bZ.f
   exact mo_
  ·intro y0 y1 y2 y3 y4 y5 y6 y7 y8 y9
   unfold bZ.j0
   exact mo_
theorem bZ.mono:∀ a0 a1 a2 k,LeO (bZ.f k a0 a1 a2) (bZ.f (k + 1) a0 a1 a2):=by
 intro a0 a1 a2 k
 obtain ⟨ih0,ih1⟩:=bZ.mono_l k
 exact ih0 a0 a1 a2
def bZ.T3:Bool × List (List Nat × List Nat):=(true,[([],[]),([0],[0]),([1],[1]),([2],[2]),([3],[3]),([],[]),([5],[5]),([6],[6]),([7],[7]),([8,4],[8]),([],[]),([],[]),([10,4,9,0,1,2,3,4,10,11],[4,10]),([11,9,12,0,1,2,3,4,5,6,7,8,9,10,11,12],[9,11])])
def bZ.B3:List Nat:=[0,1,3,7,15,0,32,96,224,511,0,0,4095,8191]
theorem bZ.aBl:lC .any (opsOf Try.f78 3)=bZ.T3:=by kernel_rfl
theorem bZ.SH:iJ bZ.T3.2 bZ.B3=true:=by kernel_rfl
theorem bZ.calls (k:Nat):∀ (jo:Int) (jr:Int) (q7:Option Addr) (jt:Nat) (j9:List (S32)) (r1:Int) (r2:Int) (r3:List (S32)) (w:World) (hr0_2:Kd.C k32 w q7 j9.length j9) (hc0_2:j9.length≤jt) (h:bZ.f k jo jr j9=some (r1,r2,r3)),
  Calls Try.prog 78 #[.agg #[.int .i64 jo, .int .i64 jr, .slice q7 j9.length jt]] w fun e w'=>∃ v2_:Value,e= .returned (.agg #[.int .i64 r1, .int .i64 r2,v2_])∧Kd.N k32 32 w' w.heap.size (fun k_=>(w.heap.size≤k_)) v2_ r3∧Below w.heap.size w w':=by
 induction k using Nat.strongRecOn with
 | _ k ih=>
 intro jo jr q7 jt j9 r1 r2 r3 w hr0_2 hc0_2 h
 cases k with
 |zero=>exact absurd h (by simp [bZ.f])
 |succ k=>
 simp only [bZ.f] at h
 have hu32:=Try.underlying32
 have q8:=am hr0_2
 have Z0:=am hc0_2
 clear hr0_2 hc0_2
 have HB:=am (Below.refl w.heap.size w)
 have H:(if (j9.length:Int)=0 then (some (jo,jr,([]:List (S32)))) else (if 0 < (j9.length:Int) then ((bZ.f k ((aY j9 0).f0) ((aY j9 0).f1) ((aY j9 0).f2)).bind fun q4=>(if 1 < (j9.length:Int) then ((bZ.f k ((aY j9 1).f0) ((aY j9 1).f1) ((aY j9 1).f2)).bind fun q5=>(if q4.1=0 then (bZ.j0 k (q5.1 == 0) jo jr j9 q4.1 q4.2.1 q4.2.2 q5.1 q5.2.1 q5.2.2) else (bZ.j0 k false jo jr j9 q4.1 q4.2.1 q4.2.2 q5.1 q5.2.1 q5.2.2))) else (none))) else (none)))=some (r1,r2,r3):=h
 clear h
 have HH_:=am H
 clear H
 go_enter Try.func78,Try.ntmps78
 go_upto_region 1 with (first|((with_reducible refine cZ (N:=1) rfl ?_);refine dO rfl (N:=1) rfl (cs:=#[.int .i64 jo, .int .i64 jr, .slice q7 j9.length jt]) (t:=32) rn_ ?_;intro j8 hg w3 hbox hb;have ja:=am (hbox);have Y9:=am ((by rw [hg];exact (aJ fU):w.heap.size≤j8));have GE99:=am ((by rw [hg];exact (aJ fU):w.heap.size≤j8));replace HB:=am (aD fU hb);clear hb hbox hg)|((with_reducible refine cZ (N:=2) rfl ?_);refine dO rfl (N:=2) rfl (cs:=#[.int .i64 0, .int .i64 0, .slice none 0 0]) (t:=32) rn_ ?_;intro j6 hg w4 hbox hb;have j7:=am (hbox);have Z1:=am ((by rw [hg];exact (aJ kX):w.heap.size≤j6));have GE100:=am ((by rw [hg];exact (aJ kX):w.heap.size≤j6));replace HB:=am (aD kX hb);have jS:=am ((by rw [hg];exact Nat.ne_of_lt (gN ja.out):j8≠j6));have jT:=am ((by rw [hg];exact Nat.ne_of_gt (gN ja.out):j6≠j8));replace ja:=bbP ja hb;clear hb hbox hg;have Ya:=jS.out;have Yb:=jT.out;obtain ⟨QG,QH,QI,QJ,QK,QL⟩:=gF ja.out))
 have H:=HH_.out
 clear HH_
 by_cases c2:(j9.length:Int)=0
 ·rw [if_pos c2] at H
  have QM:((j9.length:Int) == 0)=true:=beq_iff_eq.mpr c2
  have QN:((j9.length:Int) != 0)=false:=bne_eq_false_iff_eq.mpr c2
  clear c2
  simp only [Option.some.injEq,Prod.mk.injEq] at H
  obtain ⟨rfl,rfl,rfl⟩:=H
  obtain ⟨QO,QP,QQ,QR,QS,QT⟩:=gF j7.out
  go_wp2
  refine bodyPost_ret (results_cell_row rfl _ _ j6 32 #[.int .i64 jo, .int .i64 jr, .slice none 0 0] (0,0) _ rfl (aM (aM (aM j7.out 0 _ rfl) 1 _ rfl) 2 _ rfl) Try.underlying32 rfl (by kernel_rfl)) rfl ?_
  exact ⟨_,iI,by first|exact Kd.oC _ _ _ _ _|exact Kd.sG _ _ _ _ _|exact Kd.sK _ _ _ _ _|exact Kd.sH _ _ _ _ _|exact Kd.sI _ _ _ _ _,mR⟩
 rw [if_neg c2] at H
 have QM:((j9.length:Int) == 0)=false:=beq_eq_false_iff_ne.mpr c2
 have QN:((j9.length:Int) != 0)=true:=bne_iff_ne.mpr c2
 have Yc:¬ (j9=[]):=fun h_=>c2 (by rw [h_];rfl)
 by_cases c8:0 < (j9.length:Int)
 ·rw [if_pos c8] at H
  have Yd:decide (0 < (j9.length:Int))=true:=decide_eq_true c8
  have Ye:decide (0 < j9.length)=true:=decide_eq_true (by omega)
  clear c8
  obtain ⟨⟨jK,js,jp⟩,A9,H⟩:=bsa H
  (try dsimp only at H)
  by_cases c10:1 < (j9.length:Int)
  ·rw [if_pos c10] at H
   have Z2:decide (1 < (j9.length:Int))=true:=decide_eq_true c10
   have Z3:decide (1 < j9.length)=true:=decide_eq_true (by omega)
   clear c10
   obtain ⟨⟨jR,jv,jq⟩,qq,H⟩:=bsm H
   (try dsimp only at H)
   have qW:=am qq
   clear qq
   have qf:=am H
   clear H
   try go_wp2
   replace ja:=am (bK ja.out)
   replace j7:=am (bK j7.out)
   replace HB:=am (bG HB.out)
   have qg:0≤(0:Int):=(by omega)
   have qh:0 < (j9.length:Int):=of_decide_eq_true fV
   obtain ⟨j5,jz,jA,QU,jL,jM,jN,hl106_2,hi106_2⟩:=rC q8.out 0 qg qh
   have hw106_2:=jN
   (try rw [show ((0:Int)).toNat=0 from rfl] at hw106_2)
   (try rw [show 0 * 3=0 from rfl] at hw106_2)
   (try rw [Addr.add_zero'] at hw106_2)
   have hw106_1:=jM
   (try rw [show ((0:Int)).toNat=0 from rfl] at hw106_1)
   (try rw [show 0 * 3=0 from rfl] at hw106_1)
   (try rw [Addr.add_zero'] at hw106_1)
   have hw106_0:=jL
   (try rw [show ((0:Int)).toNat=0 from rfl] at hw106_0)
   (try rw [show 0 * 3=0 from rfl] at hw106_0)
   (try rw [Addr.add_zero'] at hw106_0)
   cases QU
   have Z4:(0 < j9.length)=True:=eq_true (by omega)
   (try rw [show ((0:Int)).toNat=0 from rfl] at jL)
   (try rw [show 0 * 3=0 from rfl] at jL)
   (try rw [Addr.add_zero'] at jL)
   (try rw [show ((0:Int)).toNat=0 from rfl] at jM)
   (try rw [show 0 * 3=0 from rfl] at jM)
   (try rw [Addr.add_zero'] at jM)
   (try rw [show ((0:Int)).toNat=0 from rfl] at jN)
   (try rw [show 0 * 3=0 from rfl] at jN)
   (try rw [Addr.add_zero'] at jN)
   replace jL:=(HB.out.cell (World.block_lt_of_cell? w _ jL)).trans jL
   replace jM:=(HB.out.cell (World.block_lt_of_cell? w _ jM)).trans jM
   replace jN:=(HB.out.cell (World.block_lt_of_cell? w _ jN)).trans jN
   have jV:=am hi106_2
   have jY:=am hl106_2
   clear hi106_2 hl106_2
   replace qg:=eq_true qg
   replace qh:=eq_true qh
   have qi:0≤(1:Int):=(by omega)
   have qj:1 < (j9.length:Int):=of_decide_eq_true fV
   obtain ⟨qr,jB,jC,QV,jO,jP,jQ,hl107_2,hi107_2⟩:=rC q8.out 1 qi qj
   have hw107_2:=jQ
   (try rw [show ((1:Int)).toNat=1 from rfl] at hw107_2)
   (try rw [show 1 * 3=3 from rfl] at hw107_2)
   (try simp only [Nat.reduceMul,Nat.reduceEqDiff,Go.Addr.add,↓reduceIte] at hw107_2)
   have hw107_1:=jP
   (try rw [show ((1:Int)).toNat=1 from rfl] at hw107_1)
   (try rw [show 1 * 3=3 from rfl] at hw107_1)
   (try simp only [Nat.reduceMul,Nat.reduceEqDiff,Go.Addr.add,↓reduceIte] at hw107_1)
   have hw107_0:=jO
   (try rw [show ((1:Int)).toNat=1 from rfl] at hw107_0)
   (try rw [show 1 * 3=3 from rfl] at hw107_0)
   (try simp only [Nat.reduceMul,Nat.reduceEqDiff,Go.Addr.add,↓reduceIte] at hw107_0)
   obtain rfl:j5=qr:=(by injection QV)
   (try simp only [show (1:Int).toNat=1 from rfl,Nat.reduceMul,Nat.reduceEqDiff,Go.Addr.add,↓reduceIte] at jO)
   (try simp only [show (1:Int).toNat=1 from rfl,Nat.reduceMul,Nat.reduceEqDiff,Go.Addr.add,↓reduceIte] at jP)
   (try simp only [show (1:Int).toNat=1 from rfl,Nat.reduceMul,Nat.reduceEqDiff,Go.Addr.add,↓reduceIte] at jQ)
   have Z5:(1 < j9.length)=True:=eq_true (by omega)
   (try rw [show ((1:Int)).toNat=1 from rfl] at jO)
   (try rw [show 1 * 3=3 from rfl] at jO)
   (try rw [show ((1:Int)).toNat=1 from rfl] at jP)
   (try rw [show 1 * 3=3 from rfl] at jP)
   (try rw [show ((1:Int)).toNat=1 from rfl] at jQ)
   (try rw [show 1 * 3=3 from rfl] at jQ)
   replace jO:=(HB.out.cell (World.block_lt_of_cell? w _ jO)).trans jO
   replace jP:=(HB.out.cell (World.block_lt_of_cell? w _ jP)).trans jP
   replace jQ:=(HB.out.cell (World.block_lt_of_cell? w _ jQ)).trans jQ
   have jW:=am hi107_2
   have jZ:=am hl107_2
   clear hi107_2 hl107_2
   replace qi:=eq_true qi
   replace qj:=eq_true qj
   have hS0_:∀ w':World,w'.heap[j8]?=some (.cells #[.int .i64 jo, .int .i64 jr, .slice (some j5) j9.length jt] 32 (0,0))→Below w.heap.size w w'→(w'.cell? ⟨j8,0,none⟩=some (.int .i64 jo)∧w'.cell? ⟨j8,1,none⟩=some (.int .i64 jr)∧w'.cell? ⟨j8,2,none⟩=some (.slice (some j5) j9.length jt)∧w'.cell? j5=some (.int .i64 ((aY j9 0).f0))∧w'.cell? ⟨j5.block,j5.off + 1,none⟩=some (.int .i64 ((aY j9 0).f1))∧w'.cell? ⟨j5.block,j5.off + 2,none⟩=some (.slice jz ((aY j9 0).f2).length jA)∧w'.cell? ⟨j5.block,j5.off + 3,none⟩=some (.int .i64 ((aY j9 1).f0))∧w'.cell? ⟨j5.block,j5.off + 3 + 1,none⟩=some (.int .i64 ((aY j9 1).f1))∧w'.cell? ⟨j5.block,j5.off + 3 + 2,none⟩=some (.slice jB ((aY j9 1).f2).length jC)):=fun w' b_ h_=>⟨(aC b_ 0).trans rfl,(aC b_ 1).trans rfl,(aC b_ 2).trans rfl,((h_.cell (World.block_lt_of_cell? w _ hw106_0)).trans hw106_0),((h_.cell (World.block_lt_of_cell? w _ hw106_1)).trans hw106_1),((h_.cell (World.block_lt_of_cell? w _ hw106_2)).trans hw106_2),((h_.cell (World.block_lt_of_cell? w _ hw107_0)).trans hw107_0),((h_.cell (World.block_lt_of_cell? w _ hw107_1)).trans hw107_1),((h_.cell (World.block_lt_of_cell? w _ hw107_2)).trans hw107_2)⟩
   refine lK (n:=14) (S:=fun w'=>w'.cell? ⟨j8,0,none⟩=some (.int .i64 jo)∧w'.cell? ⟨j8,1,none⟩=some (.int .i64 jr)∧w'.cell? ⟨j8,2,none⟩=some (.slice (some j5) j9.length jt)∧w'.cell? j5=some (.int .i64 ((aY j9 0).f0))∧w'.cell? ⟨j5.block,j5.off + 1,none⟩=some (.int .i64 ((aY j9 0).f1))∧w'.cell? ⟨j5.block,j5.off + 2,none⟩=some (.slice jz ((aY j9 0).f2).length jA)∧w'.cell? ⟨j5.block,j5.off + 3,none⟩=some (.int .i64 ((aY j9 1).f0))∧w'.cell? ⟨j5.block,j5.off + 3 + 1,none⟩=some (.int .i64 ((aY j9 1).f1))∧w'.cell? ⟨j5.block,j5.off + 3 + 2,none⟩=some (.slice jB ((aY j9 1).f2).length jC)) (ds:=[]) (bz 14 0) (by kernel_rfl) rfl rfl (hS0_ _ ja.out HB.out) (fun hHeld=>?_);refine iF bZ.aBl bZ.SH (fun HT_ HW_=>?_)
   generalize w4.drew=Yq at ja j7 HB jV jW jL jM jN jO jP jQ hHeld ⊢
   refine pr_ 0 15 (bz 14 1) HT_ ?_
   refine pr_ 5 20 (bz 14 33) HT_ ?_
   refine aAk 1 16 (bz 14 35) HT_ HW_ hHeld ?_
   refine pr_ 2 17 (bz 14 39) HT_ ?_
   refine aAk 3 18 (bz 14 47) HT_ HW_ hHeld ?_
   refine aAk 6 21 (bz 14 111) HT_ HW_ hHeld ?_
   refine pr_ 7 22 (bz 14 239) HT_ ?_
   refine aAk 8 23 (bz 14 495) HT_ HW_ hHeld ?_
   refine vY (σ:=Value × Value × Nat × Nat) 2 (bz 14 4095) (fun s_=>[(19, .agg #[.int .i64 jK, .int .i64 js,s_.1]),(24, .agg #[.int .i64 jR, .int .i64 jv,s_.2.1]),(3, .pointer (some ⟨s_.2.2.1,0,none⟩)),(4, .pointer (some ⟨s_.2.2.2,0,none⟩))]) (fun s_ w'=>(w'.cell? ⟨j8,0,none⟩=some (.int .i64 jo)∧w'.cell? ⟨j8,1,none⟩=some (.int .i64 jr)∧w'.cell? ⟨j8,2,none⟩=some (.slice (some j5) j9.length jt)∧w'.cell? j5=some (.int .i64 ((aY j9 0).f0))∧w'.cell? ⟨j5.block,j5.off + 1,none⟩=some (.int .i64 ((aY j9 0).f1))∧w'.cell? ⟨j5.block,j5.off + 2,none⟩=some (.slice jz ((aY j9 0).f2).length jA)∧w'.cell? ⟨j5.block,j5.off + 3,none⟩=some (.int .i64 ((aY j9 1).f0))∧w'.cell? ⟨j5.block,j5.off + 3 + 1,none⟩=some (.int .i64 ((aY j9 1).f1))∧w'.cell? ⟨j5.block,j5.off + 3 + 2,none⟩=some (.slice jB ((aY j9 1).f2).length jC))∧(Kd.N k32 32 w' w.heap.size (fun k_=>(w.heap.size≤k_)∧some k_≠(s_.2.1:Value).ownBlock∧k_≠j8∧k_≠j6∧k_≠s_.2.2.1∧k_≠s_.2.2.2) s_.1 jp)∧(Kd.N k32 32 w' w.heap.size (fun k_=>(w.heap.size≤k_)∧some k_≠(s_.1:Value).ownBlock∧k_≠j8∧k_≠j6∧k_≠s_.2.2.1∧k_≠s_.2.2.2) s_.2.1 jq)∧(w'.heap[j8]?=some (.cells #[.int .i64 jo, .int .i64 jr, .slice (some j5) j9.length jt] 32 (0,0)))∧(w'.heap[j6]?=some (.cells #[.int .i64 0, .int .i64 0, .slice none 0 0] 32 (0,0)))∧(w'.heap[s_.2.2.1]?=some (.cells #[.int .i64 0, .int .i64 0, .slice none 0 0] 32 (0,0)))∧(w'.heap[s_.2.2.2]?=some (.cells #[.int .i64 0, .int .i64 0, .slice none 0 0] 32 (0,0)))∧(w.heap.size≤s_.2.2.1)∧(w.heap.size≤s_.2.2.1)∧(j8≠s_.2.2.1)∧(s_.2.2.1≠j8)∧(j6≠s_.2.2.1)∧(s_.2.2.1≠j6)∧(s_.2.2.2≠s_.2.2.1)∧(s_.2.2.1≠s_.2.2.2)∧(w.heap.size≤s_.2.2.2)∧(w.heap.size≤s_.2.2.2)∧(j8≠s_.2.2.2)∧(s_.2.2.2≠j8)∧(j6≠s_.2.2.2)∧(s_.2.2.2≠j6)∧(Below w.heap.size w w')) ?_ ?_
   rotate_left
   ·intro hJ4_9_10_11
    refine vY (σ:=Value × Value × Nat) 3 (bz 14 2047) (fun s_=>[(19, .agg #[.int .i64 jK, .int .i64 js,s_.1]),(24, .agg #[.int .i64 jR, .int .i64 jv,s_.2.1]),(3, .pointer (some ⟨s_.2.2,0,none⟩))]) (fun s_ w'=>(w'.cell? ⟨j8,0,none⟩=some (.int .i64 jo)∧w'.cell? ⟨j8,1,none⟩=some (.int .i64 jr)∧w'.cell? ⟨j8,2,none⟩=some (.slice (some j5) j9.length jt)∧w'.cell? j5=some (.int .i64 ((aY j9 0).f0))∧w'.cell? ⟨j5.block,j5.off + 1,none⟩=some (.int .i64 ((aY j9 0).f1))∧w'.cell? ⟨j5.block,j5.off + 2,none⟩=some (.slice jz ((aY j9 0).f2).length jA)∧w'.cell? ⟨j5.block,j5.off + 3,none⟩=some (.int .i64 ((aY j9 1).f0))∧w'.cell? ⟨j5.block,j5.off + 3 + 1,none⟩=some (.int .i64 ((aY j9 1).f1))∧w'.cell? ⟨j5.block,j5.off + 3 + 2,none⟩=some (.slice jB ((aY j9 1).f2).length jC))∧(Kd.N k32 32 w' w.heap.size (fun k_=>(w.heap.size≤k_)∧some k_≠(s_.2.1:Value).ownBlock∧k_≠j8∧k_≠j6∧k_≠s_.2.2) s_.1 jp)∧(Kd.N k32 32 w' w.heap.size (fun k_=>(w.heap.size≤k_)∧some k_≠(s_.1:Value).ownBlock∧k_≠j8∧k_≠j6∧k_≠s_.2.2) s_.2.1 jq)∧(w'.heap[j8]?=some (.cells #[.int .i64 jo, .int .i64 jr, .slice (some j5) j9.length jt] 32 (0,0)))∧(w'.heap[j6]?=some (.cells #[.int .i64 0, .int .i64 0, .slice none 0 0] 32 (0,0)))∧(w'.heap[s_.2.2]?=some (.cells #[.int .i64 0, .int .i64 0, .slice none 0 0] 32 (0,0)))∧(w.heap.size≤s_.2.2)∧(w.heap.size≤s_.2.2)∧(j8≠s_.2.2)∧(s_.2.2≠j8)∧(j6≠s_.2.2)∧(s_.2.2≠j6)∧(Below w.heap.size w w')) ?_ ?_
    rotate_left
    ·intro hJ4_9_10
     refine vY (σ:=Value × Value × Nat) 3 (bz 14 3071) (fun s_=>[(19, .agg #[.int .i64 jK, .int .i64 js,s_.1]),(24, .agg #[.int .i64 jR, .int .i64 jv,s_.2.1]),(4, .pointer (some ⟨s_.2.2,0,none⟩))]) (fun s_ w'=>(w'.cell? ⟨j8,0,none⟩=some (.int .i64 jo)∧w'.cell? ⟨j8,1,none⟩=some (.int .i64 jr)∧w'.cell? ⟨j8,2,none⟩=some (.slice (some j5) j9.length jt)∧w'.cell? j5=some (.int .i64 ((aY j9 0).f0))∧w'.cell? ⟨j5.block,j5.off + 1,none⟩=some (.int .i64 ((aY j9 0).f1))∧w'.cell? ⟨j5.block,j5.off + 2,none⟩=some (.slice jz ((aY j9 0).f2).length jA)∧w'.cell? ⟨j5.block,j5.off + 3,none⟩=some (.int .i64 ((aY j9 1).f0))∧w'.cell? ⟨j5.block,j5.off + 3 + 1,none⟩=some (.int .i64 ((aY j9 1).f1))∧w'.cell? ⟨j5.block,j5.off + 3 + 2,none⟩=some (.slice jB ((aY j9 1).f2).length jC))∧(Kd.N k32 32 w' w.heap.size (fun k_=>(w.heap.size≤k_)∧some k_≠(s_.2.1:Value).ownBlock∧k_≠j8∧k_≠j6∧k_≠s_.2.2) s_.1 jp)∧(Kd.N k32 32 w' w.heap.size (fun k_=>(w.heap.size≤k_)∧some k_≠(s_.1:Value).ownBlock∧k_≠j8∧k_≠j6∧k_≠s_.2.2) s_.2.1 jq)∧(w'.heap[j8]?=some (.cells #[.int .i64 jo, .int .i64 jr, .slice (some j5) j9.length jt] 32 (0,0)))∧(w'.heap[j6]?=some (.cells #[.int .i64 0, .int .i64 0, .slice none 0 0] 32 (0,0)))∧(w'.heap[s_.2.2]?=some (.cells #[.int .i64 0, .int .i64 0, .slice none 0 0] 32 (0,0)))∧(w.heap.size≤s_.2.2)∧(w.heap.size≤s_.2.2)∧(j8≠s_.2.2)∧(s_.2.2≠j8)∧(j6≠s_.2.2)∧(s_.2.2≠j6)∧(Below w.heap.size w w')) ?_ ?_
     rotate_left
     ·intro hJ4_9_11
      refine vY (σ:=Value × Nat × Nat) 3 (bz 14 3583) (fun s_=>[(19, .agg #[.int .i64 jK, .int .i64 js,s_.1]),(3, .pointer (some ⟨s_.2.1,0,none⟩)),(4, .pointer (some ⟨s_.2.2,0,none⟩))]) (fun s_ w'=>(w'.cell? ⟨j8,0,none⟩=some (.int .i64 jo)∧w'.cell? ⟨j8,1,none⟩=some (.int .i64 jr)∧w'.cell? ⟨j8,2,none⟩=some (.slice (some j5) j9.length jt)∧w'.cell? j5=some (.int .i64 ((aY j9 0).f0))∧w'.cell? ⟨j5.block,j5.off + 1,none⟩=some (.int .i64 ((aY j9 0).f1))∧w'.cell? ⟨j5.block,j5.off + 2,none⟩=some (.slice jz ((aY j9 0).f2).length jA)∧w'.cell? ⟨j5.block,j5.off + 3,none⟩=some (.int .i64 ((aY j9 1).f0))∧w'.cell? ⟨j5.block,j5.off + 3 + 1,none⟩=some (.int .i64 ((aY j9 1).f1))∧w'.cell? ⟨j5.block,j5.off + 3 + 2,none⟩=some (.slice jB ((aY j9 1).f2).length jC))∧(Kd.N k32 32 w' w.heap.size (fun k_=>(w.heap.size≤k_)∧k_≠j8∧k_≠j6∧k_≠s_.2.1∧k_≠s_.2.2) s_.1 jp)∧(w'.heap[j8]?=some (.cells #[.int .i64 jo, .int .i64 jr, .slice (some j5) j9.length jt] 32 (0,0)))∧(w'.heap[j6]?=some (.cells #[.int .i64 0, .int .i64 0, .slice none 0 0] 32 (0,0)))∧(w'.heap[s_.2.1]?=some (.cells #[.int .i64 0, .int .i64 0, .slice none 0 0] 32 (0,0)))∧(w'.heap[s_.2.2]?=some (.cells #[.int .i64 0, .int .i64 0, .slice none 0 0] 32 (0,0)))∧(w.heap.size≤s_.2.1)∧(w.heap.size≤s_.2.1)∧(j8≠s_.2.1)∧(s_.2.1≠j8)∧(j6≠s_.2.1)∧(s_.2.1≠j6)∧(s_.2.2≠s_.2.1)∧(s_.2.1≠s_.2.2)∧(w.heap.size≤s_.2.2)∧(w.heap.size≤s_.2.2)∧(j8≠s_.2.2)∧(s_.2.2≠j8)∧(j6≠s_.2.2)∧(s_.2.2≠j6)∧(Below w.heap.size w w')) ?_ ?_
      rotate_left
      ·intro hJ4_10_11
       refine vY (σ:=Value × Value) 4 (bz 14 1023) (fun s_=>[(19, .agg #[.int .i64 jK, .int .i64 js,s_.1]),(24, .agg #[.int .i64 jR, .int .i64 jv,s_.2])]) (fun s_ w'=>(w'.cell? ⟨j8,0,none⟩=some (.int .i64 jo)∧w'.cell? ⟨j8,1,none⟩=some (.int .i64 jr)∧w'.cell? ⟨j8,2,none⟩=some (.slice (some j5) j9.length jt)∧w'.cell? j5=some (.int .i64 ((aY j9 0).f0))∧w'.cell? ⟨j5.block,j5.off + 1,none⟩=some (.int .i64 ((aY j9 0).f1))∧w'.cell? ⟨j5.block,j5.off + 2,none⟩=some (.slice jz ((aY j9 0).f2).length jA)∧w'.cell? ⟨j5.block,j5.off + 3,none⟩=some (.int .i64 ((aY j9 1).f0))∧w'.cell? ⟨j5.block,j5.off + 3 + 1,none⟩=some (.int .i64 ((aY j9 1).f1))∧w'.cell? ⟨j5.block,j5.off + 3 + 2,none⟩=some (.slice jB ((aY j9 1).f2).length jC))∧(Kd.N k32 32 w' w.heap.size (fun k_=>(w.heap.size≤k_)∧some k_≠(s_.2:Value).ownBlock∧k_≠j8∧k_≠j6) s_.1 jp)∧(Kd.N k32 32 w' w.heap.size (fun k_=>(w.heap.size≤k_)∧some k_≠(s_.1:Value).ownBlock∧k_≠j8∧k_≠j6) s_.2 jq)∧(w'.heap[j8]?=some (.cells #[.int .i64 jo, .int .i64 jr, .slice (some j5) j9.length jt] 32 (0,0)))∧(w'.heap[j6]?=some (.cells #[.int .i64 0, .int .i64 0, .slice none 0 0] 32 (0,0)))∧(Below w.heap.size w w')) ?_ ?_
       rotate_left
       ·intro hJ4_9
        refine vY (σ:=Value × Nat) 4 (bz 14 1535) (fun s_=>[(19, .agg #[.int .i64 jK, .int .i64 js,s_.1]),(3, .pointer (some ⟨s_.2,0,none⟩))]) (fun s_ w'=>(w'.cell? ⟨j8,0,none⟩=some (.int .i64 jo)∧w'.cell? ⟨j8,1,none⟩=some (.int .i64 jr)∧w'.cell? ⟨j8,2,none⟩=some (.slice (some j5) j9.length jt)∧w'.cell? j5=some (.int .i64 ((aY j9 0).f0))∧w'.cell? ⟨j5.block,j5.off + 1,none⟩=some (.int .i64 ((aY j9 0).f1))∧w'.cell? ⟨j5.block,j5.off + 2,none⟩=some (.slice jz ((aY j9 0).f2).length jA)∧w'.cell? ⟨j5.block,j5.off + 3,none⟩=some (.int .i64 ((aY j9 1).f0))∧w'.cell? ⟨j5.block,j5.off + 3 + 1,none⟩=some (.int .i64 ((aY j9 1).f1))∧w'.cell? ⟨j5.block,j5.off + 3 + 2,none⟩=some (.slice jB ((aY j9 1).f2).length jC))∧(Kd.N k32 32 w' w.heap.size (fun k_=>(w.heap.size≤k_)∧k_≠j8∧k_≠j6∧k_≠s_.2) s_.1 jp)∧(w'.heap[j8]?=some (.cells #[.int .i64 jo, .int .i64 jr, .slice (some j5) j9.length jt] 32 (0,0)))∧(w'.heap[j6]?=some (.cells #[.int .i64 0, .int .i64 0, .slice none 0 0] 32 (0,0)))∧(w'.heap[s_.2]?=some (.cells #[.int .i64 0, .int .i64 0, .slice none 0 0] 32 (0,0)))∧(w.heap.size≤s_.2)∧(w.heap.size≤s_.2)∧(j8≠s_.2)∧(s_.2≠j8)∧(j6≠s_.2)∧(s_.2≠j6)∧(Below w.heap.size w w')) ?_ ?_
        rotate_left
        ·intro hJ4_10
         refine vY (σ:=Value × Nat) 4 (bz 14 2559) (fun s_=>[(19, .agg #[.int .i64 jK, .int .i64 js,s_.1]),(4, .pointer (some ⟨s_.2,0,none⟩))]) (fun s_ w'=>(w'.cell? ⟨j8,0,none⟩=some (.int .i64 jo)∧w'.cell? ⟨j8,1,none⟩=some (.int .i64 jr)∧w'.cell? ⟨j8,2,none⟩=some (.slice (some j5) j9.length jt)∧w'.cell? j5=some (.int .i64 ((aY j9 0).f0))∧w'.cell? ⟨j5.block,j5.off + 1,none⟩=some (.int .i64 ((aY j9 0).f1))∧w'.cell? ⟨j5.block,j5.off + 2,none⟩=some (.slice jz ((aY j9 0).f2).length jA)∧w'.cell? ⟨j5.block,j5.off + 3,none⟩=some (.int .i64 ((aY j9 1).f0))∧w'.cell? ⟨j5.block,j5.off + 3 + 1,none⟩=some (.int .i64 ((aY j9 1).f1))∧w'.cell? ⟨j5.block,j5.off + 3 + 2,none⟩=some (.slice jB ((aY j9 1).f2).length jC))∧(Kd.N k32 32 w' w.heap.size (fun k_=>(w.heap.size≤k_)∧k_≠j8∧k_≠j6∧k_≠s_.2) s_.1 jp)∧(w'.heap[j8]?=some (.cells #[.int .i64 jo, .int .i64 jr, .slice (some j5) j9.length jt] 32 (0,0)))∧(w'.heap[j6]?=some (.cells #[.int .i64 0, .int .i64 0, .slice none 0 0] 32 (0,0)))∧(w'.heap[s_.2]?=some (.cells #[.int .i64 0, .int .i64 0, .slice none 0 0] 32 (0,0)))∧(w.heap.size≤s_.2)∧(w.heap.size≤s_.2)∧(j8≠s_.2)∧(s_.2≠j8)∧(j6≠s_.2)∧(s_.2≠j6)∧(Below w.heap.size w w')) ?_ ?_
         rotate_left
         ·intro hJ4_11
          refine vY (σ:=Nat × Nat) 4 (bz 14 3567) (fun s_=>[(3, .pointer (some ⟨s_.1,0,none⟩)),(4, .pointer (some ⟨s_.2,0,none⟩))]) (fun s_ w'=>(w'.cell? ⟨j8,0,none⟩=some (.int .i64 jo)∧w'.cell? ⟨j8,1,none⟩=some (.int .i64 jr)∧w'.cell? ⟨j8,2,none⟩=some (.slice (some j5) j9.length jt)∧w'.cell? j5=some (.int .i64 ((aY j9 0).f0))∧w'.cell? ⟨j5.block,j5.off + 1,none⟩=some (.int .i64 ((aY j9 0).f1))∧w'.cell? ⟨j5.block,j5.off + 2,none⟩=some (.slice jz ((aY j9 0).f2).length jA)∧w'.cell? ⟨j5.block,j5.off + 3,none⟩=some (.int .i64 ((aY j9 1).f0))∧w'.cell? ⟨j5.block,j5.off + 3 + 1,none⟩=some (.int .i64 ((aY j9 1).f1))∧w'.cell? ⟨j5.block,j5.off + 3 + 2,none⟩=some (.slice jB ((aY j9 1).f2).length jC))∧(w'.heap[j8]?=some (.cells #[.int .i64 jo, .int .i64 jr, .slice (some j5) j9.length jt] 32 (0,0)))∧(w'.heap[j6]?=some (.cells #[.int .i64 0, .int .i64 0, .slice none 0 0] 32 (0,0)))∧(w'.heap[s_.1]?=some (.cells #[.int .i64 0, .int .i64 0, .slice none 0 0] 32 (0,0)))∧(w'.heap[s_.2]?=some (.cells #[.int .i64 0, .int .i64 0, .slice none 0 0] 32 (0,0)))∧(w.heap.size≤s_.1)∧(w.heap.size≤s_.1)∧(j8≠s_.1)∧(s_.1≠j8)∧(j6≠s_.1)∧(s_.1≠j6)∧(s_.2≠s_.1)∧(s_.1≠s_.2)∧(w.heap.size≤s_.2)∧(w.heap.size≤s_.2)∧(j8≠s_.2)∧(s_.2≠j8)∧(j6≠s_.2)∧(s_.2≠j6)∧(Below w.heap.size w w')) ?_ ?_
          rotate_left
          ·intro hJ10_11
           refine vY (σ:=Value) 5 (bz 14 511) (fun s_=>[(19, .agg #[.int .i64 jK, .int .i64 js,s_])]) (fun s_ w'=>(w'.cell? ⟨j8,0,none⟩=some (.int .i64 jo)∧w'.cell? ⟨j8,1,none⟩=some (.int .i64 jr)∧w'.cell? ⟨j8,2,none⟩=some (.slice (some j5) j9.length jt)∧w'.cell? j5=some (.int .i64 ((aY j9 0).f0))∧w'.cell? ⟨j5.block,j5.off + 1,none⟩=some (.int .i64 ((aY j9 0).f1))∧w'.cell? ⟨j5.block,j5.off + 2,none⟩=some (.slice jz ((aY j9 0).f2).length jA)∧w'.cell? ⟨j5.block,j5.off + 3,none⟩=some (.int .i64 ((aY j9 1).f0))∧w'.cell? ⟨j5.block,j5.off + 3 + 1,none⟩=some (.int .i64 ((aY j9 1).f1))∧w'.cell? ⟨j5.block,j5.off + 3 + 2,none⟩=some (.slice jB ((aY j9 1).f2).length jC))∧(Kd.N k32 32 w' w.heap.size (fun k_=>(w.heap.size≤k_)∧k_≠j8∧k_≠j6) s_ jp)∧(w'.heap[j8]?=some (.cells #[.int .i64 jo, .int .i64 jr, .slice (some j5) j9.length jt] 32 (0,0)))∧(w'.heap[j6]?=some (.cells #[.int .i64 0, .int .i64 0, .slice none 0 0] 32 (0,0)))∧(Below w.heap.size w w')) ?_ ?_
           rotate_left
           ·intro hJ4
            refine vY (σ:=Nat) 5 (bz 14 1519) (fun s_=>[(3, .pointer (some ⟨s_,0,none⟩))]) (fun s_ w'=>(w'.cell? ⟨j8,0,none⟩=some (.int .i64 jo)∧w'.cell? ⟨j8,1,none⟩=some (.int .i64 jr)∧w'.cell? ⟨j8,2,none⟩=some (.slice (some j5) j9.length jt)∧w'.cell? j5=some (.int .i64 ((aY j9 0).f0))∧w'.cell? ⟨j5.block,j5.off + 1,none⟩=some (.int .i64 ((aY j9 0).f1))∧w'.cell? ⟨j5.block,j5.off + 2,none⟩=some (.slice jz ((aY j9 0).f2).length jA)∧w'.cell? ⟨j5.block,j5.off + 3,none⟩=some (.int .i64 ((aY j9 1).f0))∧w'.cell? ⟨j5.block,j5.off + 3 + 1,none⟩=some (.int .i64 ((aY j9 1).f1))∧w'.cell? ⟨j5.block,j5.off + 3 + 2,none⟩=some (.slice jB ((aY j9 1).f2).length jC))∧(w'.heap[j8]?=some (.cells #[.int .i64 jo, .int .i64 jr, .slice (some j5) j9.length jt] 32 (0,0)))∧(w'.heap[j6]?=some (.cells #[.int .i64 0, .int .i64 0, .slice none 0 0] 32 (0,0)))∧(w'.heap[s_]?=some (.cells #[.int .i64 0, .int .i64 0, .slice none 0 0] 32 (0,0)))∧(w.heap.size≤s_)∧(w.heap.size≤s_)∧(j8≠s_)∧(s_≠j8)∧(j6≠s_)∧(s_≠j6)∧(Below w.heap.size w w')) ?_ ?_
            rotate_left
            ·intro hJ10
             refine vY (σ:=Nat) 5 (bz 14 2543) (fun s_=>[(4, .pointer (some ⟨s_,0,none⟩))]) (fun s_ w'=>(w'.cell? ⟨j8,0,none⟩=some (.int .i64 jo)∧w'.cell? ⟨j8,1,none⟩=some (.int .i64 jr)∧w'.cell? ⟨j8,2,none⟩=some (.slice (some j5) j9.length jt)∧w'.cell? j5=some (.int .i64 ((aY j9 0).f0))∧w'.cell? ⟨j5.block,j5.off + 1,none⟩=some (.int .i64 ((aY j9 0).f1))∧w'.cell? ⟨j5.block,j5.off + 2,none⟩=some (.slice jz ((aY j9 0).f2).length jA)∧w'.cell? ⟨j5.block,j5.off + 3,none⟩=some (.int .i64 ((aY j9 1).f0))∧w'.cell? ⟨j5.block,j5.off + 3 + 1,none⟩=some (.int .i64 ((aY j9 1).f1))∧w'.cell? ⟨j5.block,j5.off + 3 + 2,none⟩=some (.slice jB ((aY j9 1).f2).length jC))∧(w'.heap[j8]?=some (.cells #[.int .i64 jo, .int .i64 jr, .slice (some j5) j9.length jt] 32 (0,0)))∧(w'.heap[j6]?=some (.cells #[.int .i64 0, .int .i64 0, .slice none 0 0] 32 (0,0)))∧(w'.heap[s_]?=some (.cells #[.int .i64 0, .int .i64 0, .slice none 0 0] 32 (0,0)))∧(w.heap.size≤s_)∧(w.heap.size≤s_)∧(j8≠s_)∧(s_≠j8)∧(j6≠s_)∧(s_≠j6)∧(Below w.heap.size w w')) ?_ ?_
             rotate_left
             ·intro hJ11
              refine WG (i:=4) (j:=10) (k:=11) (Ni:=some 19) (Nj:=some 3) (Nk:=some 4) (bz 14 511) (bz 14 1519) (bz 14 2543) rfl rfl rfl rfl rfl rfl (ML HT_.out (by kernel_rfl)) (by decide) (by decide) (by decide) (fun K hK=>?_) (fun K hK=>?_) (fun K hK=>?_)
              ·skip
               refine iP Try.func78 (by kernel_rfl) rfl #[.agg #[.int .i64 ((aY j9 0).f0), .int .i64 ((aY j9 0).f1), .slice jz ((aY j9 0).f2).length jA]] (by rfl) rfl rfl mO ?_
               with_reducible refine (ih k (by omega) ((aY j9 0).f0) ((aY j9 0).f1) _ _ ((aY j9 0).f2) jK js jp _ (aC_ (Kd.aV jV.out HB.out)) jY.out A9.out).mono ?_
               rintro e Z6 ⟨jw,rfl,ho0,hb⟩
               refine ⟨_,rfl,?_⟩
               have jn:=am (Kd.dF (Kd.aG (ok':=fun k_=>(w.heap.size≤k_)∧k_≠j8∧k_≠j6) ho0 (fun k_ hk_=>⟨(Nat.le_trans (aJ mR) hk_),(fJ ja.out k_ hk_),(fJ j7.out k_ hk_)⟩)) (aJ mR))
               replace ja:=bbP ja hb
               replace j7:=bbP j7 hb
               replace HB:=am (aD mR hb)
               (try clear hb)
               (try clear hb2)
               (try clear hk)
               (try clear hi)
               (try clear ho0)
               refine hK.out _ _ (hS0_ _ ja.out HB.out) (fun hHeld=>?_)
               clear hK K
               refine eT (a':=?_) ?_ ?_
               rotate_left
               ·show Act.put _ (some 19) _=_
                simp only [Act.put,List.setIfInBounds_toArray,List.set_cons_zero,List.set_cons_succ,dN,dU]
                rfl
               exact eT nm_ (hJ4 (jw) _ ⟨hHeld,(aN_ jn.out),(aG_ ja.out),(aG_ j7.out),mR⟩)
              ·skip
               refine lY ?hg (N:=3) ?hd (cs:=#[.int .i64 0, .int .i64 0, .slice none 0 0]) (t:=32) ?hr ?_;(case hd=>rfl);(case hg=>rfl);(case hr=>first|(go_simp;done)|(go_simp;rfl))
               intro j3 hg Z6 hbox hb
               have jb:=am (hbox)
               have ju:=am ((by rw [hg];exact (aJ mR):w.heap.size≤j3))
               have GE111:=am ((by rw [hg];exact (aJ mR):w.heap.size≤j3))
               replace HB:=am (aD mR hb)
               have je:=am ((by rw [hg];exact Nat.ne_of_lt (gN ja.out):j8≠j3))
               have jl:=am ((by rw [hg];exact Nat.ne_of_gt (gN ja.out):j3≠j8))
               replace ja:=bbP ja hb
               have jc:=am ((by rw [hg];exact Nat.ne_of_lt (gN j7.out):j6≠j3))
               have jj:=am ((by rw [hg];exact Nat.ne_of_gt (gN j7.out):j3≠j6))
               replace j7:=bbP j7 hb
               clear hb hbox hg
               refine hK.out _ _ (hS0_ _ ja.out HB.out) (fun hHeld=>?_)
               clear hK K
               refine eT (a':=?_) ?_ ?_
               rotate_left
               ·show Act.put _ (some 3) _=_
                simp only [Act.put,List.setIfInBounds_toArray,List.set_cons_zero,List.set_cons_succ,dN,dU]
                rfl
               exact eT nm_ (hJ10 (j3) _ ⟨hHeld,(aG_ ja.out),(aG_ j7.out),(aG_ jb.out),ju.out,GE111.out,je.out,jl.out,jc.out,jj.out,oW⟩)
              ·skip
               refine lY ?hg (N:=4) ?hd (cs:=#[.int .i64 0, .int .i64 0, .slice none 0 0]) (t:=32) ?hr ?_;(case hd=>rfl);(case hg=>rfl);(case hr=>first|(go_simp;done)|(go_simp;rfl))
               intro j4 hg Z6 hbox hb
               have jd:=am (hbox)
               have jx:=am ((by rw [hg];exact (aJ mR):w.heap.size≤j4))
               have GE112:=am ((by rw [hg];exact (aJ mR):w.heap.size≤j4))
               replace HB:=am (aD mR hb)
               have jg:=am ((by rw [hg];exact Nat.ne_of_lt (gN ja.out):j8≠j4))
               have jm:=am ((by rw [hg];exact Nat.ne_of_gt (gN ja.out):j4≠j8))
               replace ja:=bbP ja hb
               have jf:=am ((by rw [hg];exact Nat.ne_of_lt (gN j7.out):j6≠j4))
               have jk:=am ((by rw [hg];exact Nat.ne_of_gt (gN j7.out):j4≠j6))
               replace j7:=bbP j7 hb
               clear hb hbox hg
               refine hK.out _ _ (hS0_ _ ja.out HB.out) (fun hHeld=>?_)
               clear hK K
               refine eT (a':=?_) ?_ ?_
               rotate_left
               ·show Act.put _ (some 4) _=_
                simp only [Act.put,List.setIfInBounds_toArray,List.set_cons_zero,List.set_cons_succ,dN,dU]
                rfl
               exact eT nm_ (hJ11 (j4) _ ⟨hHeld,(aG_ ja.out),(aG_ j7.out),(aG_ jd.out),jx.out,GE112.out,jg.out,jm.out,jf.out,jk.out,oZ⟩)
             ·skip
              rintro j4 q6 ⟨hS_,h0_,h1_,h2_,h3_,h4_,h5_,h6_,h7_,h8_,h9_⟩
              replace ja:Aside0 (q6.heap[j8]?=some (.cells #[.int .i64 jo, .int .i64 jr, .slice (some j5) j9.length jt] 32 (0,0))):=⟨h0_⟩
              replace j7:Aside0 (q6.heap[j6]?=some (.cells #[.int .i64 0, .int .i64 0, .slice none 0 0] 32 (0,0))):=⟨h1_⟩
              have jd:Aside0 (q6.heap[j4]?=some (.cells #[.int .i64 0, .int .i64 0, .slice none 0 0] 32 (0,0))):=⟨h2_⟩
              have jx:Aside0 (w.heap.size≤j4):=⟨h3_⟩
              have GE112:Aside0 (w.heap.size≤j4):=⟨h4_⟩
              have jg:Aside0 (j8≠j4):=⟨h5_⟩
              have jm:Aside0 (j4≠j8):=⟨h6_⟩
              have jf:Aside0 (j6≠j4):=⟨h7_⟩
              have jk:Aside0 (j4≠j6):=⟨h8_⟩
              replace HB:Aside0 (Below w.heap.size w q6):=⟨h9_⟩
              clear h0_ h1_ h2_ h3_ h4_ h5_ h6_ h7_ h8_ h9_
              have hHeld:=hS0_ _ ja.out HB.out
              refine eT (a':=?_) ?_ ?_
              rotate_left
              ·simp only [nG,Act.put,List.setIfInBounds_toArray,List.set_cons_zero,List.set_cons_succ]
               rfl
              refine RN (i:=4) (j:=10) (Ni:=some 19) (Nj:=some 3) (bz 14 2559) (bz 14 3567) rfl rfl rfl rfl (vP HT_.out (by kernel_rfl)) (by decide) (by decide) (fun K hK=>?_) (fun K hK=>?_)
              ·skip
               refine iP Try.func78 (by kernel_rfl) rfl #[.agg #[.int .i64 ((aY j9 0).f0), .int .i64 ((aY j9 0).f1), .slice jz ((aY j9 0).f2).length jA]] (by rfl) rfl rfl mO ?_
               with_reducible refine (ih k (by omega) ((aY j9 0).f0) ((aY j9 0).f1) _ _ ((aY j9 0).f2) jK js jp _ (aC_ (Kd.aV jV.out HB.out)) jY.out A9.out).mono ?_
               rintro e jU ⟨jw,rfl,ho0,hb⟩
               refine ⟨_,rfl,?_⟩
               have jn:=am (Kd.dF (Kd.aG (ok':=fun k_=>(w.heap.size≤k_)∧k_≠j8∧k_≠j6∧k_≠j4) ho0 (fun k_ hk_=>⟨(Nat.le_trans (aJ oZ) hk_),(fJ ja.out k_ hk_),(fJ j7.out k_ hk_),(fJ jd.out k_ hk_)⟩)) (aJ oZ))
               replace ja:=bbP ja hb
               replace j7:=bbP j7 hb
               replace jd:=bbP jd hb
               replace HB:=am (aD oZ hb)
               (try clear hb)
               (try clear hb2)
               (try clear hk)
               (try clear hi)
               (try clear ho0)
               refine hK.out _ _ (hS0_ _ ja.out HB.out) (fun hHeld=>?_)
               clear hK K
               refine eT (a':=?_) ?_ ?_
               rotate_left
               ·show Act.put _ (some 19) _=_
                simp only [Act.put,List.setIfInBounds_toArray,List.set_cons_zero,List.set_cons_succ,dN,dU]
                rfl
               exact eT nm_ (hJ4_11 (jw,j4) _ ⟨hHeld,(aN_ jn.out),(aG_ ja.out),(aG_ j7.out),(aG_ jd.out),jx.out,GE112.out,jg.out,jm.out,jf.out,jk.out,oZ⟩)
              ·skip
               refine lY ?hg (N:=3) ?hd (cs:=#[.int .i64 0, .int .i64 0, .slice none 0 0]) (t:=32) ?hr ?_;(case hd=>rfl);(case hg=>rfl);(case hr=>first|(go_simp;done)|(go_simp;rfl))
               intro j3 hg jU hbox hb
               have jb:=am (hbox)
               have ju:=am ((by rw [hg];exact (aJ oZ):w.heap.size≤j3))
               have GE111:=am ((by rw [hg];exact (aJ oZ):w.heap.size≤j3))
               replace HB:=am (aD oZ hb)
               have je:=am ((by rw [hg];exact Nat.ne_of_lt (gN ja.out):j8≠j3))
               have jl:=am ((by rw [hg];exact Nat.ne_of_gt (gN ja.out):j3≠j8))
               replace ja:=bbP ja hb
               have jc:=am ((by rw [hg];exact Nat.ne_of_lt (gN j7.out):j6≠j3))
               have jj:=am ((by rw [hg];exact Nat.ne_of_gt (gN j7.out):j3≠j6))
               replace j7:=bbP j7 hb
               have jh:=am ((by rw [hg];exact Nat.ne_of_lt (gN jd.out):j4≠j3))
               have ji:=am ((by rw [hg];exact Nat.ne_of_gt (gN jd.out):j3≠j4))
               replace jd:=bbP jd hb
               clear hb hbox hg
               refine hK.out _ _ (hS0_ _ ja.out HB.out) (fun hHeld=>?_)
               clear hK K
               refine eT (a':=?_) ?_ ?_
               rotate_left
               ·show Act.put _ (some 3) _=_
                simp only [Act.put,List.setIfInBounds_toArray,List.set_cons_zero,List.set_cons_succ,dN,dU]
                rfl
               exact eT nm_ (hJ10_11 (j3,j4) _ ⟨hHeld,(aG_ ja.out),(aG_ j7.out),(aG_ jb.out),(aG_ jd.out),ju.out,GE111.out,je.out,jl.out,jc.out,jj.out,jh.out,ji.out,jx.out,GE112.out,jg.out,jm.out,jf.out,jk.out,MQ⟩)
            ·skip
             rintro j3 q6 ⟨hS_,h0_,h1_,h2_,h3_,h4_,h5_,h6_,h7_,h8_,h9_⟩
             replace ja:Aside0 (q6.heap[j8]?=some (.cells #[.int .i64 jo, .int .i64 jr, .slice (some j5) j9.length jt] 32 (0,0))):=⟨h0_⟩
             replace j7:Aside0 (q6.heap[j6]?=some (.cells #[.int .i64 0, .int .i64 0, .slice none 0 0] 32 (0,0))):=⟨h1_⟩
             have jb:Aside0 (q6.heap[j3]?=some (.cells #[.int .i64 0, .int .i64 0, .slice none 0 0] 32 (0,0))):=⟨h2_⟩
             have ju:Aside0 (w.heap.size≤j3):=⟨h3_⟩
             have GE111:Aside0 (w.heap.size≤j3):=⟨h4_⟩
             have je:Aside0 (j8≠j3):=⟨h5_⟩
             have jl:Aside0 (j3≠j8):=⟨h6_⟩
             have jc:Aside0 (j6≠j3):=⟨h7_⟩
             have jj:Aside0 (j3≠j6):=⟨h8_⟩
             replace HB:Aside0 (Below w.heap.size w q6):=⟨h9_⟩
             clear h0_ h1_ h2_ h3_ h4_ h5_ h6_ h7_ h8_ h9_
             have hHeld:=hS0_ _ ja.out HB.out
             refine eT (a':=?_) ?_ ?_
             rotate_left
             ·simp only [nG,Act.put,List.setIfInBounds_toArray,List.set_cons_zero,List.set_cons_succ]
              rfl
             refine RN (i:=4) (j:=11) (Ni:=some 19) (Nj:=some 4) (bz 14 1535) (bz 14 3567) rfl rfl rfl rfl (vP HT_.out (by kernel_rfl)) (by decide) (by decide) (fun K hK=>?_) (fun K hK=>?_)
             ·skip
              refine iP Try.func78 (by kernel_rfl) rfl #[.agg #[.int .i64 ((aY j9 0).f0), .int .i64 ((aY j9 0).f1), .slice jz ((aY j9 0).f2).length jA]] (by rfl) rfl rfl mO ?_
              with_reducible refine (ih k (by omega) ((aY j9 0).f0) ((aY j9 0).f1) _ _ ((aY j9 0).f2) jK js jp _ (aC_ (Kd.aV jV.out HB.out)) jY.out A9.out).mono ?_
              rintro e jU ⟨jw,rfl,ho0,hb⟩
              refine ⟨_,rfl,?_⟩
              have jn:=am (Kd.dF (Kd.aG (ok':=fun k_=>(w.heap.size≤k_)∧k_≠j8∧k_≠j6∧k_≠j3) ho0 (fun k_ hk_=>⟨(Nat.le_trans (aJ oW) hk_),(fJ ja.out k_ hk_),(fJ j7.out k_ hk_),(fJ jb.out k_ hk_)⟩)) (aJ oW))
              replace ja:=bbP ja hb
              replace j7:=bbP j7 hb
              replace jb:=bbP jb hb
              replace HB:=am (aD oW hb)
              (try clear hb)
              (try clear hb2)
              (try clear hk)
              (try clear hi)
              (try clear ho0)
              refine hK.out _ _ (hS0_ _ ja.out HB.out) (fun hHeld=>?_)
              clear hK K
              refine eT (a':=?_) ?_ ?_
              rotate_left
              ·show Act.put _ (some 19) _=_
               simp only [Act.put,List.setIfInBounds_toArray,List.set_cons_zero,List.set_cons_succ,dN,dU]
               rfl
              exact eT nm_ (hJ4_10 (jw,j3) _ ⟨hHeld,(aN_ jn.out),(aG_ ja.out),(aG_ j7.out),(aG_ jb.out),ju.out,GE111.out,je.out,jl.out,jc.out,jj.out,oW⟩)
             ·skip
              refine lY ?hg (N:=4) ?hd (cs:=#[.int .i64 0, .int .i64 0, .slice none 0 0]) (t:=32) ?hr ?_;(case hd=>rfl);(case hg=>rfl);(case hr=>first|(go_simp;done)|(go_simp;rfl))
              intro j4 hg jU hbox hb
              have jd:=am (hbox)
              have jx:=am ((by rw [hg];exact (aJ oW):w.heap.size≤j4))
              have GE112:=am ((by rw [hg];exact (aJ oW):w.heap.size≤j4))
              replace HB:=am (aD oW hb)
              have jg:=am ((by rw [hg];exact Nat.ne_of_lt (gN ja.out):j8≠j4))
              have jm:=am ((by rw [hg];exact Nat.ne_of_gt (gN ja.out):j4≠j8))
              replace ja:=bbP ja hb
              have jf:=am ((by rw [hg];exact Nat.ne_of_lt (gN j7.out):j6≠j4))
              have jk:=am ((by rw [hg];exact Nat.ne_of_gt (gN j7.out):j4≠j6))
              replace j7:=bbP j7 hb
              have ji:=am ((by rw [hg];exact Nat.ne_of_lt (gN jb.out):j3≠j4))
              have jh:=am ((by rw [hg];exact Nat.ne_of_gt (gN jb.out):j4≠j3))
              replace jb:=bbP jb hb
              clear hb hbox hg
              refine hK.out _ _ (hS0_ _ ja.out HB.out) (fun hHeld=>?_)
              clear hK K
              refine eT (a':=?_) ?_ ?_
              rotate_left
              ·show Act.put _ (some 4) _=_
               simp only [Act.put,List.setIfInBounds_toArray,List.set_cons_zero,List.set_cons_succ,dN,dU]
               rfl
              exact eT nm_ (hJ10_11 (j3,j4) _ ⟨hHeld,(aG_ ja.out),(aG_ j7.out),(aG_ jb.out),(aG_ jd.out),ju.out,GE111.out,je.out,jl.out,jc.out,jj.out,jh.out,ji.out,jx.out,GE112.out,jg.out,jm.out,jf.out,jk.out,rA⟩)
           ·skip
            rintro jw q6 ⟨hS_,h0_,h1_,h2_,h3_⟩
            have jn:Aside0 (Kd.N k32 32 q6 w.heap.size (fun k_=>(w.heap.size≤k_)∧k_≠j8∧k_≠j6) jw jp):=⟨h0_⟩
            replace ja:Aside0 (q6.heap[j8]?=some (.cells #[.int .i64 jo, .int .i64 jr, .slice (some j5) j9.length jt] 32 (0,0))):=⟨h1_⟩
            replace j7:Aside0 (q6.heap[j6]?=some (.cells #[.int .i64 0, .int .i64 0, .slice none 0 0] 32 (0,0))):=⟨h2_⟩
            replace HB:Aside0 (Below w.heap.size w q6):=⟨h3_⟩
            clear h0_ h1_ h2_ h3_
            have hHeld:=hS0_ _ ja.out HB.out
            refine eT (a':=?_) ?_ ?_
            rotate_left
            ·simp only [nG,Act.put,List.setIfInBounds_toArray,List.set_cons_zero,List.set_cons_succ]
             rfl
            refine WG (i:=9) (j:=10) (k:=11) (Ni:=some 24) (Nj:=some 3) (Nk:=some 4) (bz 14 1023) (bz 14 1535) (bz 14 2559) rfl rfl rfl rfl rfl rfl (ML HT_.out (by kernel_rfl)) (by decide) (by decide) (by decide) (fun K hK=>?_) (fun K hK=>?_) (fun K hK=>?_)
            ·skip
             refine iP Try.func78 (by kernel_rfl) rfl #[.agg #[.int .i64 ((aY j9 1).f0), .int .i64 ((aY j9 1).f1), .slice jB ((aY j9 1).f2).length jC]] (by rfl) rfl rfl mO ?_
             with_reducible refine (ih k (by omega) ((aY j9 1).f0) ((aY j9 1).f1) _ _ ((aY j9 1).f2) jR jv jq _ (aC_ (Kd.aV jW.out HB.out)) jZ.out qW.out).mono ?_
             rintro e jU ⟨jJ,rfl,ho0,hb⟩
             refine ⟨_,rfl,?_⟩
             have jy:=am (Kd.dF (Kd.aG (ok':=fun k_=>(w.heap.size≤k_)∧some k_≠(jw:Value).ownBlock∧k_≠j8∧k_≠j6) ho0 (fun k_ hk_=>⟨(Nat.le_trans (aJ mR) hk_),(Kd.fresh' (Kd.iN (aN_ jn.out)) k_ hk_),(fJ ja.out k_ hk_),(fJ j7.out k_ hk_)⟩)) (aJ mR))
             replace jn:=am (Kd.eY (aN_ jn.out) (by first|exact Kd.dD ho0|exact Kd.dD (Kd.R_N ho0)) hb)
             replace ja:=bbP ja hb
             replace j7:=bbP j7 hb
             replace HB:=am (aD mR hb)
             (try clear hb)
             (try clear hb2)
             (try clear hk)
             (try clear hi)
             (try clear ho0)
             refine hK.out _ _ (hS0_ _ ja.out HB.out) (fun hHeld=>?_)
             clear hK K
             refine eT (a':=?_) ?_ ?_
             rotate_left
             ·show Act.put _ (some 24) _=_
              simp only [Act.put,List.setIfInBounds_toArray,List.set_cons_zero,List.set_cons_succ,dN,dU]
              rfl
             exact eT nm_ (hJ4_9 (jw,jJ) _ ⟨hHeld,(eO (Kd.aG jn.out (fun _ hk=>⟨hk.1.1,⟨hk.2,⟨hk.1.2.1,hk.1.2.2⟩⟩⟩))),(aN_ jy.out),(aG_ ja.out),(aG_ j7.out),mR⟩)
            ·skip
             refine lY ?hg (N:=3) ?hd (cs:=#[.int .i64 0, .int .i64 0, .slice none 0 0]) (t:=32) ?hr ?_;(case hd=>rfl);(case hg=>rfl);(case hr=>first|(go_simp;done)|(go_simp;rfl))
             intro j3 hg jU hbox hb
             replace jn:=am (Kd.dS (Kd.gU (aN_ jn.out) j3 (Nat.le_of_eq hg.symm)) hb)
             have jb:=am (hbox)
             have ju:=am ((by rw [hg];exact (aJ mR):w.heap.size≤j3))
             have GE111:=am ((by rw [hg];exact (aJ mR):w.heap.size≤j3))
             replace HB:=am (aD mR hb)
             have je:=am ((by rw [hg];exact Nat.ne_of_lt (gN ja.out):j8≠j3))
             have jl:=am ((by rw [hg];exact Nat.ne_of_gt (gN ja.out):j3≠j8))
             replace ja:=bbP ja hb
             have jc:=am ((by rw [hg];exact Nat.ne_of_lt (gN j7.out):j6≠j3))
             have jj:=am ((by rw [hg];exact Nat.ne_of_gt (gN j7.out):j3≠j6))
             replace j7:=bbP j7 hb
             clear hb hbox hg
             refine hK.out _ _ (hS0_ _ ja.out HB.out) (fun hHeld=>?_)
             clear hK K
             refine eT (a':=?_) ?_ ?_
             rotate_left
             ·show Act.put _ (some 3) _=_
              simp only [Act.put,List.setIfInBounds_toArray,List.set_cons_zero,List.set_cons_succ,dN,dU]
              rfl
             exact eT nm_ (hJ4_10 (jw,j3) _ ⟨hHeld,(eO (Kd.aG jn.out (fun _ hk=>⟨hk.1.1,⟨hk.1.2.1,⟨hk.1.2.2,hk.2⟩⟩⟩))),(aG_ ja.out),(aG_ j7.out),(aG_ jb.out),ju.out,GE111.out,je.out,jl.out,jc.out,jj.out,oW⟩)
            ·skip
             refine lY ?hg (N:=4) ?hd (cs:=#[.int .i64 0, .int .i64 0, .slice none 0 0]) (t:=32) ?hr ?_;(case hd=>rfl);(case hg=>rfl);(case hr=>first|(go_simp;done)|(go_simp;rfl))
             intro j4 hg jU hbox hb
             replace jn:=am (Kd.dS (Kd.gU (aN_ jn.out) j4 (Nat.le_of_eq hg.symm)) hb)
             have jd:=am (hbox)
             have jx:=am ((by rw [hg];exact (aJ mR):w.heap.size≤j4))
             have GE112:=am ((by rw [hg];exact (aJ mR):w.heap.size≤j4))
             replace HB:=am (aD mR hb)
             have jg:=am ((by rw [hg];exact Nat.ne_of_lt (gN ja.out):j8≠j4))
             have jm:=am ((by rw [hg];exact Nat.ne_of_gt (gN ja.out):j4≠j8))
             replace ja:=bbP ja hb
             have jf:=am ((by rw [hg];exact Nat.ne_of_lt (gN j7.out):j6≠j4))
             have jk:=am ((by rw [hg];exact Nat.ne_of_gt (gN j7.out):j4≠j6))
             replace j7:=bbP j7 hb
             clear hb hbox hg
             refine hK.out _ _ (hS0_ _ ja.out HB.out) (fun hHeld=>?_)
             clear hK K
             refine eT (a':=?_) ?_ ?_
             rotate_left
             ·show Act.put _ (some 4) _=_
              simp only [Act.put,List.setIfInBounds_toArray,List.set_cons_zero,List.set_cons_succ,dN,dU]
              rfl
             exact eT nm_ (hJ4_11 (jw,j4) _ ⟨hHeld,(eO (Kd.aG jn.out (fun _ hk=>⟨hk.1.1,⟨hk.1.2.1,⟨hk.1.2.2,hk.2⟩⟩⟩))),(aG_ ja.out),(aG_ j7.out),(aG_ jd.out),jx.out,GE112.out,jg.out,jm.out,jf.out,jk.out,oZ⟩)
          ·skip
           rintro ⟨j3,j4⟩ jU ⟨hS_,h0_,h1_,h2_,h3_,h4_,h5_,h6_,h7_,h8_,h9_,h10_,h11_,h12_,h13_,h14_,h15_,h16_,h17_,h18_⟩
           replace ja:Aside0 (jU.heap[j8]?=some (.cells #[.int .i64 jo, .int .i64 jr, .slice (some j5) j9.length jt] 32 (0,0))):=⟨h0_⟩
           replace j7:Aside0 (jU.heap[j6]?=some (.cells #[.int .i64 0, .int .i64 0, .slice none 0 0] 32 (0,0))):=⟨h1_⟩
           have jb:Aside0 (jU.heap[j3]?=some (.cells #[.int .i64 0, .int .i64 0, .slice none 0 0] 32 (0,0))):=⟨h2_⟩
           have jd:Aside0 (jU.heap[j4]?=some (.cells #[.int .i64 0, .int .i64 0, .slice none 0 0] 32 (0,0))):=⟨h3_⟩
           have ju:Aside0 (w.heap.size≤j3):=⟨h4_⟩
           have GE111:Aside0 (w.heap.size≤j3):=⟨h5_⟩
           have je:Aside0 (j8≠j3):=⟨h6_⟩
           have jl:Aside0 (j3≠j8):=⟨h7_⟩
           have jc:Aside0 (j6≠j3):=⟨h8_⟩
           have jj:Aside0 (j3≠j6):=⟨h9_⟩
           have jh:Aside0 (j4≠j3):=⟨h10_⟩
           have ji:Aside0 (j3≠j4):=⟨h11_⟩
           have jx:Aside0 (w.heap.size≤j4):=⟨h12_⟩
           have GE112:Aside0 (w.heap.size≤j4):=⟨h13_⟩
           have jg:Aside0 (j8≠j4):=⟨h14_⟩
           have jm:Aside0 (j4≠j8):=⟨h15_⟩
           have jf:Aside0 (j6≠j4):=⟨h16_⟩
           have jk:Aside0 (j4≠j6):=⟨h17_⟩
           replace HB:Aside0 (Below w.heap.size w jU):=⟨h18_⟩
           clear h0_ h1_ h2_ h3_ h4_ h5_ h6_ h7_ h8_ h9_ h10_ h11_ h12_ h13_ h14_ h15_ h16_ h17_ h18_
           have hHeld:=hS0_ _ ja.out HB.out
           refine eT (a':=?_) ?_ ?_
           rotate_left
           ·simp only [nG,Act.put,List.setIfInBounds_toArray,List.set_cons_zero,List.set_cons_succ]
            rfl
           refine kN (i:=4) (N:=some 19) (bz 14 3583) rfl rfl (fQ HT_.out (by kernel_rfl)) (by decide) (fun K hK=>?_)
           refine iP Try.func78 (by kernel_rfl) rfl #[.agg #[.int .i64 ((aY j9 0).f0), .int .i64 ((aY j9 0).f1), .slice jz ((aY j9 0).f2).length jA]] (by rfl) rfl rfl mO ?_
           with_reducible refine (ih k (by omega) ((aY j9 0).f0) ((aY j9 0).f1) _ _ ((aY j9 0).f2) jK js jp _ (aC_ (Kd.aV jV.out HB.out)) jY.out A9.out).mono ?_
           rintro e jX ⟨jw,rfl,ho0,hb⟩
           refine ⟨_,rfl,?_⟩
           have jn:=am (Kd.dF (Kd.aG (ok':=fun k_=>(w.heap.size≤k_)∧k_≠j8∧k_≠j6∧k_≠j3∧k_≠j4) ho0 (fun k_ hk_=>⟨(Nat.le_trans (aJ rA) hk_),(fJ ja.out k_ hk_),(fJ j7.out k_ hk_),(fJ jb.out k_ hk_),(fJ jd.out k_ hk_)⟩)) (aJ rA))
           replace ja:=bbP ja hb
           replace j7:=bbP j7 hb
           replace jb:=bbP jb hb
           replace jd:=bbP jd hb
           replace HB:=am (aD rA hb)
           (try clear hb)
           (try clear hb2)
           (try clear hk)
           (try clear hi)
           (try clear ho0)
           refine hK.out _ _ (hS0_ _ ja.out HB.out) (fun hHeld=>?_)
           clear hK K
           refine eT (a':=?_) ?_ ?_
           rotate_left
           ·show Act.put _ (some 19) _=_
            simp only [Act.put,List.setIfInBounds_toArray,List.set_cons_zero,List.set_cons_succ,dN,dU]
            rfl
           exact eT nm_ (hJ4_10_11 (jw,j3,j4) _ ⟨hHeld,(aN_ jn.out),(aG_ ja.out),(aG_ j7.out),(aG_ jb.out),(aG_ jd.out),ju.out,GE111.out,je.out,jl.out,jc.out,jj.out,jh.out,ji.out,jx.out,GE112.out,jg.out,jm.out,jf.out,jk.out,rA⟩)
         ·skip
          rintro ⟨jw,j4⟩ jU ⟨hS_,h0_,h1_,h2_,h3_,h4_,h5_,h6_,h7_,h8_,h9_,h10_⟩
          have jn:Aside0 (Kd.N k32 32 jU w.heap.size (fun k_=>(w.heap.size≤k_)∧k_≠j8∧k_≠j6∧k_≠j4) jw jp):=⟨h0_⟩
          replace ja:Aside0 (jU.heap[j8]?=some (.cells #[.int .i64 jo, .int .i64 jr, .slice (some j5) j9.length jt] 32 (0,0))):=⟨h1_⟩
          replace j7:Aside0 (jU.heap[j6]?=some (.cells #[.int .i64 0, .int .i64 0, .slice none 0 0] 32 (0,0))):=⟨h2_⟩
          have jd:Aside0 (jU.heap[j4]?=some (.cells #[.int .i64 0, .int .i64 0, .slice none 0 0] 32 (0,0))):=⟨h3_⟩
          have jx:Aside0 (w.heap.size≤j4):=⟨h4_⟩
          have GE112:Aside0 (w.heap.size≤j4):=⟨h5_⟩
          have jg:Aside0 (j8≠j4):=⟨h6_⟩
          have jm:Aside0 (j4≠j8):=⟨h7_⟩
          have jf:Aside0 (j6≠j4):=⟨h8_⟩
          have jk:Aside0 (j4≠j6):=⟨h9_⟩
          replace HB:Aside0 (Below w.heap.size w jU):=⟨h10_⟩
          clear h0_ h1_ h2_ h3_ h4_ h5_ h6_ h7_ h8_ h9_ h10_
          have hHeld:=hS0_ _ ja.out HB.out
          refine eT (a':=?_) ?_ ?_
          rotate_left
          ·simp only [nG,Act.put,List.setIfInBounds_toArray,List.set_cons_zero,List.set_cons_succ]
           rfl
          refine RN (i:=9) (j:=10) (Ni:=some 24) (Nj:=some 3) (bz 14 3071) (bz 14 3583) rfl rfl rfl rfl (vP HT_.out (by kernel_rfl)) (by decide) (by decide) (fun K hK=>?_) (fun K hK=>?_)
          ·skip
           refine iP Try.func78 (by kernel_rfl) rfl #[.agg #[.int .i64 ((aY j9 1).f0), .int .i64 ((aY j9 1).f1), .slice jB ((aY j9 1).f2).length jC]] (by rfl) rfl rfl mO ?_
           with_reducible refine (ih k (by omega) ((aY j9 1).f0) ((aY j9 1).f1) _ _ ((aY j9 1).f2) jR jv jq _ (aC_ (Kd.aV jW.out HB.out)) jZ.out qW.out).mono ?_
           rintro e jX ⟨jJ,rfl,ho0,hb⟩
           refine ⟨_,rfl,?_⟩
           have jy:=am (Kd.dF (Kd.aG (ok':=fun k_=>(w.heap.size≤k_)∧some k_≠(jw:Value).ownBlock∧k_≠j8∧k_≠j6∧k_≠j4) ho0 (fun k_ hk_=>⟨(Nat.le_trans (aJ oZ) hk_),(Kd.fresh' (Kd.iN (aN_ jn.out)) k_ hk_),(fJ ja.out k_ hk_),(fJ j7.out k_ hk_),(fJ jd.out k_ hk_)⟩)) (aJ oZ))
           replace jn:=am (Kd.eY (aN_ jn.out) (by first|exact Kd.dD ho0|exact Kd.dD (Kd.R_N ho0)) hb)
           replace ja:=bbP ja hb
           replace j7:=bbP j7 hb
           replace jd:=bbP jd hb
           replace HB:=am (aD oZ hb)
           (try clear hb)
           (try clear hb2)
           (try clear hk)
           (try clear hi)
           (try clear ho0)
           refine hK.out _ _ (hS0_ _ ja.out HB.out) (fun hHeld=>?_)
           clear hK K
           refine eT (a':=?_) ?_ ?_
           rotate_left
           ·show Act.put _ (some 24) _=_
            simp only [Act.put,List.setIfInBounds_toArray,List.set_cons_zero,List.set_cons_succ,dN,dU]
            rfl
           exact eT nm_ (hJ4_9_11 (jw,jJ,j4) _ ⟨hHeld,(eO (Kd.aG jn.out (fun _ hk=>⟨hk.1.1,⟨hk.2,⟨hk.1.2.1,⟨hk.1.2.2.1,hk.1.2.2.2⟩⟩⟩⟩))),(aN_ jy.out),(aG_ ja.out),(aG_ j7.out),(aG_ jd.out),jx.out,GE112.out,jg.out,jm.out,jf.out,jk.out,oZ⟩)
          ·skip
           refine lY ?hg (N:=3) ?hd (cs:=#[.int .i64 0, .int .i64 0, .slice none 0 0]) (t:=32) ?hr ?_;(case hd=>rfl);(case hg=>rfl);(case hr=>first|(go_simp;done)|(go_simp;rfl))
           intro j3 hg jX hbox hb
           replace jn:=am (Kd.dS (Kd.gU (aN_ jn.out) j3 (Nat.le_of_eq hg.symm)) hb)
           have jb:=am (hbox)
           have ju:=am ((by rw [hg];exact (aJ oZ):w.heap.size≤j3))
           have GE111:=am ((by rw [hg];exact (aJ oZ):w.heap.size≤j3))
           replace HB:=am (aD oZ hb)
           have je:=am ((by rw [hg];exact Nat.ne_of_lt (gN ja.out):j8≠j3))
           have jl:=am ((by rw [hg];exact Nat.ne_of_gt (gN ja.out):j3≠j8))
           replace ja:=bbP ja hb
           have jc:=am ((by rw [hg];exact Nat.ne_of_lt (gN j7.out):j6≠j3))
           have jj:=am ((by rw [hg];exact Nat.ne_of_gt (gN j7.out):j3≠j6))
           replace j7:=bbP j7 hb
           have jh:=am ((by rw [hg];exact Nat.ne_of_lt (gN jd.out):j4≠j3))
           have ji:=am ((by rw [hg];exact Nat.ne_of_gt (gN jd.out):j3≠j4))
           replace jd:=bbP jd hb
           clear hb hbox hg
           refine hK.out _ _ (hS0_ _ ja.out HB.out) (fun hHeld=>?_)
           clear hK K
           refine eT (a':=?_) ?_ ?_
           rotate_left
           ·show Act.put _ (some 3) _=_
            simp only [Act.put,List.setIfInBounds_toArray,List.set_cons_zero,List.set_cons_succ,dN,dU]
            rfl
           exact eT nm_ (hJ4_10_11 (jw,j3,j4) _ ⟨hHeld,(eO (Kd.aG jn.out (fun _ hk=>⟨hk.1.1,⟨hk.1.2.1,⟨hk.1.2.2.1,⟨hk.2,hk.1.2.2.2⟩⟩⟩⟩))),(aG_ ja.out),(aG_ j7.out),(aG_ jb.out),(aG_ jd.out),ju.out,GE111.out,je.out,jl.out,jc.out,jj.out,jh.out,ji.out,jx.out,GE112.out,jg.out,jm.out,jf.out,jk.out,MQ⟩)
        ·skip
         rintro ⟨jw,j3⟩ jU ⟨hS_,h0_,h1_,h2_,h3_,h4_,h5_,h6_,h7_,h8_,h9_,h10_⟩
         have jn:Aside0 (Kd.N k32 32 jU w.heap.size (fun k_=>(w.heap.size≤k_)∧k_≠j8∧k_≠j6∧k_≠j3) jw jp):=⟨h0_⟩
         replace ja:Aside0 (jU.heap[j8]?=some (.cells #[.int .i64 jo, .int .i64 jr, .slice (some j5) j9.length jt] 32 (0,0))):=⟨h1_⟩
         replace j7:Aside0 (jU.heap[j6]?=some (.cells #[.int .i64 0, .int .i64 0, .slice none 0 0] 32 (0,0))):=⟨h2_⟩
         have jb:Aside0 (jU.heap[j3]?=some (.cells #[.int .i64 0, .int .i64 0, .slice none 0 0] 32 (0,0))):=⟨h3_⟩
         have ju:Aside0 (w.heap.size≤j3):=⟨h4_⟩
         have GE111:Aside0 (w.heap.size≤j3):=⟨h5_⟩
         have je:Aside0 (j8≠j3):=⟨h6_⟩
         have jl:Aside0 (j3≠j8):=⟨h7_⟩
         have jc:Aside0 (j6≠j3):=⟨h8_⟩
         have jj:Aside0 (j3≠j6):=⟨h9_⟩
         replace HB:Aside0 (Below w.heap.size w jU):=⟨h10_⟩
         clear h0_ h1_ h2_ h3_ h4_ h5_ h6_ h7_ h8_ h9_ h10_
         have hHeld:=hS0_ _ ja.out HB.out
         refine eT (a':=?_) ?_ ?_
         rotate_left
         ·simp only [nG,Act.put,List.setIfInBounds_toArray,List.set_cons_zero,List.set_cons_succ]
          rfl
         refine RN (i:=9) (j:=11) (Ni:=some 24) (Nj:=some 4) (bz 14 2047) (bz 14 3583) rfl rfl rfl rfl (vP HT_.out (by kernel_rfl)) (by decide) (by decide) (fun K hK=>?_) (fun K hK=>?_)
         ·skip
          refine iP Try.func78 (by kernel_rfl) rfl #[.agg #[.int .i64 ((aY j9 1).f0), .int .i64 ((aY j9 1).f1), .slice jB ((aY j9 1).f2).length jC]] (by rfl) rfl rfl mO ?_
          with_reducible refine (ih k (by omega) ((aY j9 1).f0) ((aY j9 1).f1) _ _ ((aY j9 1).f2) jR jv jq _ (aC_ (Kd.aV jW.out HB.out)) jZ.out qW.out).mono ?_
          rintro e jX ⟨jJ,rfl,ho0,hb⟩
          refine ⟨_,rfl,?_⟩
          have jy:=am (Kd.dF (Kd.aG (ok':=fun k_=>(w.heap.size≤k_)∧some k_≠(jw:Value).ownBlock∧k_≠j8∧k_≠j6∧k_≠j3) ho0 (fun k_ hk_=>⟨(Nat.le_trans (aJ oW) hk_),(Kd.fresh' (Kd.iN (aN_ jn.out)) k_ hk_),(fJ ja.out k_ hk_),(fJ j7.out k_ hk_),(fJ jb.out k_ hk_)⟩)) (aJ oW))
          replace jn:=am (Kd.eY (aN_ jn.out) (by first|exact Kd.dD ho0|exact Kd.dD (Kd.R_N ho0)) hb)
          replace ja:=bbP ja hb
          replace j7:=bbP j7 hb
          replace jb:=bbP jb hb
          replace HB:=am (aD oW hb)
          (try clear hb)
          (try clear hb2)
          (try clear hk)
          (try clear hi)
          (try clear ho0)
          refine hK.out _ _ (hS0_ _ ja.out HB.out) (fun hHeld=>?_)
          clear hK K
          refine eT (a':=?_) ?_ ?_
          rotate_left
          ·show Act.put _ (some 24) _=_
           simp only [Act.put,List.setIfInBounds_toArray,List.set_cons_zero,List.set_cons_succ,dN,dU]
           rfl
          exact eT nm_ (hJ4_9_10 (jw,jJ,j3) _ ⟨hHeld,(eO (Kd.aG jn.out (fun _ hk=>⟨hk.1.1,⟨hk.2,⟨hk.1.2.1,⟨hk.1.2.2.1,hk.1.2.2.2⟩⟩⟩⟩))),(aN_ jy.out),(aG_ ja.out),(aG_ j7.out),(aG_ jb.out),ju.out,GE111.out,je.out,jl.out,jc.out,jj.out,oW⟩)
         ·skip
          refine lY ?hg (N:=4) ?hd (cs:=#[.int .i64 0, .int .i64 0, .slice none 0 0]) (t:=32) ?hr ?_;(case hd=>rfl);(case hg=>rfl);(case hr=>first|(go_simp;done)|(go_simp;rfl))
          intro j4 hg jX hbox hb
          replace jn:=am (Kd.dS (Kd.gU (aN_ jn.out) j4 (Nat.le_of_eq hg.symm)) hb)
          have jd:=am (hbox)
          have jx:=am ((by rw [hg];exact (aJ oW):w.heap.size≤j4))
          have GE112:=am ((by rw [hg];exact (aJ oW):w.heap.size≤j4))
          replace HB:=am (aD oW hb)
          have jg:=am ((by rw [hg];exact Nat.ne_of_lt (gN ja.out):j8≠j4))
          have jm:=am ((by rw [hg];exact Nat.ne_of_gt (gN ja.out):j4≠j8))
          replace ja:=bbP ja hb
          have jf:=am ((by rw [hg];exact Nat.ne_of_lt (gN j7.out):j6≠j4))
          have jk:=am ((by rw [hg];exact Nat.ne_of_gt (gN j7.out):j4≠j6))
          replace j7:=bbP j7 hb
          have ji:=am ((by rw [hg];exact Nat.ne_of_lt (gN jb.out):j3≠j4))
          have jh:=am ((by rw [hg];exact Nat.ne_of_gt (gN jb.out):j4≠j3))
          replace jb:=bbP jb hb
          clear hb hbox hg
          refine hK.out _ _ (hS0_ _ ja.out HB.out) (fun hHeld=>?_)
          clear hK K
          refine eT (a':=?_) ?_ ?_
          rotate_left
          ·show Act.put _ (some 4) _=_
           simp only [Act.put,List.setIfInBounds_toArray,List.set_cons_zero,List.set_cons_succ,dN,dU]
           rfl
          exact eT nm_ (hJ4_10_11 (jw,j3,j4) _ ⟨hHeld,(eO (Kd.aG jn.out (fun _ hk=>⟨hk.1.1,⟨hk.1.2.1,⟨hk.1.2.2.1,⟨hk.1.2.2.2,hk.2⟩⟩⟩⟩))),(aG_ ja.out),(aG_ j7.out),(aG_ jb.out),(aG_ jd.out),ju.out,GE111.out,je.out,jl.out,jc.out,jj.out,jh.out,ji.out,jx.out,GE112.out,jg.out,jm.out,jf.out,jk.out,rA⟩)
       ·skip
        rintro ⟨jw,jJ⟩ jU ⟨hS_,h0_,h1_,h2_,h3_,h4_⟩
        have jn:Aside0 (Kd.N k32 32 jU w.heap.size (fun k_=>(w.heap.size≤k_)∧some k_≠(jJ:Value).ownBlock∧k_≠j8∧k_≠j6) jw jp):=⟨h0_⟩
        have jy:Aside0 (Kd.N k32 32 jU w.heap.size (fun k_=>(w.heap.size≤k_)∧some k_≠(jw:Value).ownBlock∧k_≠j8∧k_≠j6) jJ jq):=⟨h1_⟩
        replace ja:Aside0 (jU.heap[j8]?=some (.cells #[.int .i64 jo, .int .i64 jr, .slice (some j5) j9.length jt] 32 (0,0))):=⟨h2_⟩
        replace j7:Aside0 (jU.heap[j6]?=some (.cells #[.int .i64 0, .int .i64 0, .slice none 0 0] 32 (0,0))):=⟨h3_⟩
        replace HB:Aside0 (Below w.heap.size w jU):=⟨h4_⟩
        clear h0_ h1_ h2_ h3_ h4_
        have hHeld:=hS0_ _ ja.out HB.out
        refine eT (a':=?_) ?_ ?_
        rotate_left
        ·simp only [nG,Act.put,List.setIfInBounds_toArray,List.set_cons_zero,List.set_cons_succ]
         rfl
        refine RN (i:=10) (j:=11) (Ni:=some 3) (Nj:=some 4) (bz 14 2047) (bz 14 3071) rfl rfl rfl rfl (vP HT_.out (by kernel_rfl)) (by decide) (by decide) (fun K hK=>?_) (fun K hK=>?_)
        ·skip
         refine lY ?hg (N:=3) ?hd (cs:=#[.int .i64 0, .int .i64 0, .slice none 0 0]) (t:=32) ?hr ?_;(case hd=>rfl);(case hg=>rfl);(case hr=>first|(go_simp;done)|(go_simp;rfl))
         intro j3 hg jX hbox hb
         replace jn:=am (Kd.dS (Kd.gU (aN_ jn.out) j3 (Nat.le_of_eq hg.symm)) hb)
         replace jy:=am (Kd.dS (Kd.gU (aN_ jy.out) j3 (Nat.le_of_eq hg.symm)) hb)
         have jb:=am (hbox)
         have ju:=am ((by rw [hg];exact (aJ mR):w.heap.size≤j3))
         have GE111:=am ((by rw [hg];exact (aJ mR):w.heap.size≤j3))
         replace HB:=am (aD mR hb)
         have je:=am ((by rw [hg];exact Nat.ne_of_lt (gN ja.out):j8≠j3))
         have jl:=am ((by rw [hg];exact Nat.ne_of_gt (gN ja.out):j3≠j8))
         replace ja:=bbP ja hb
         have jc:=am ((by rw [hg];exact Nat.ne_of_lt (gN j7.out):j6≠j3))
         have jj:=am ((by rw [hg];exact Nat.ne_of_gt (gN j7.out):j3≠j6))
         replace j7:=bbP j7 hb
         clear hb hbox hg
         refine hK.out _ _ (hS0_ _ ja.out HB.out) (fun hHeld=>?_)
         clear hK K
         refine eT (a':=?_) ?_ ?_
         rotate_left
         ·show Act.put _ (some 3) _=_
          simp only [Act.put,List.setIfInBounds_toArray,List.set_cons_zero,List.set_cons_succ,dN,dU]
          rfl
         exact eT nm_ (hJ4_9_10 (jw,jJ,j3) _ ⟨hHeld,(eO (Kd.aG jn.out (fun _ hk=>⟨hk.1.1,⟨hk.1.2.1,⟨hk.1.2.2.1,⟨hk.1.2.2.2,hk.2⟩⟩⟩⟩))),(eO (Kd.aG jy.out (fun _ hk=>⟨hk.1.1,⟨hk.1.2.1,⟨hk.1.2.2.1,⟨hk.1.2.2.2,hk.2⟩⟩⟩⟩))),(aG_ ja.out),(aG_ j7.out),(aG_ jb.out),ju.out,GE111.out,je.out,jl.out,jc.out,jj.out,oW⟩)
        ·skip
         refine lY ?hg (N:=4) ?hd (cs:=#[.int .i64 0, .int .i64 0, .slice none 0 0]) (t:=32) ?hr ?_;(case hd=>rfl);(case hg=>rfl);(case hr=>first|(go_simp;done)|(go_simp;rfl))
         intro j4 hg jX hbox hb
         replace jn:=am (Kd.dS (Kd.gU (aN_ jn.out) j4 (Nat.le_of_eq hg.symm)) hb)
         replace jy:=am (Kd.dS (Kd.gU (aN_ jy.out) j4 (Nat.le_of_eq hg.symm)) hb)
         have jd:=am (hbox)
         have jx:=am ((by rw [hg];exact (aJ mR):w.heap.size≤j4))
         have GE112:=am ((by rw [hg];exact (aJ mR):w.heap.size≤j4))
         replace HB:=am (aD mR hb)
         have jg:=am ((by rw [hg];exact Nat.ne_of_lt (gN ja.out):j8≠j4))
         have jm:=am ((by rw [hg];exact Nat.ne_of_gt (gN ja.out):j4≠j8))
         replace ja:=bbP ja hb
         have jf:=am ((by rw [hg];exact Nat.ne_of_lt (gN j7.out):j6≠j4))
         have jk:=am ((by rw [hg];exact Nat.ne_of_gt (gN j7.out):j4≠j6))
         replace j7:=bbP j7 hb
         clear hb hbox hg
         refine hK.out _ _ (hS0_ _ ja.out HB.out) (fun hHeld=>?_)
         clear hK K
         refine eT (a':=?_) ?_ ?_
         rotate_left
         ·show Act.put _ (some 4) _=_
          simp only [Act.put,List.setIfInBounds_toArray,List.set_cons_zero,List.set_cons_succ,dN,dU]
          rfl
         exact eT nm_ (hJ4_9_11 (jw,jJ,j4) _ ⟨hHeld,(eO (Kd.aG jn.out (fun _ hk=>⟨hk.1.1,⟨hk.1.2.1,⟨hk.1.2.2.1,⟨hk.1.2.2.2,hk.2⟩⟩⟩⟩))),(eO (Kd.aG jy.out (fun _ hk=>⟨hk.1.1,⟨hk.1.2.1,⟨hk.1.2.2.1,⟨hk.1.2.2.2,hk.2⟩⟩⟩⟩))),(aG_ ja.out),(aG_ j7.out),(aG_ jd.out),jx.out,GE112.out,jg.out,jm.out,jf.out,jk.out,oZ⟩)
      ·skip
       rintro ⟨jw,j3,j4⟩ jX ⟨hS_,h0_,h1_,h2_,h3_,h4_,h5_,h6_,h7_,h8_,h9_,h10_,h11_,h12_,h13_,h14_,h15_,h16_,h17_,h18_,h19_⟩
       have jn:Aside0 (Kd.N k32 32 jX w.heap.size (fun k_=>(w.heap.size≤k_)∧k_≠j8∧k_≠j6∧k_≠j3∧k_≠j4) jw jp):=⟨h0_⟩
       replace ja:Aside0 (jX.heap[j8]?=some (.cells #[.int .i64 jo, .int .i64 jr, .slice (some j5) j9.length jt] 32 (0,0))):=⟨h1_⟩
       replace j7:Aside0 (jX.heap[j6]?=some (.cells #[.int .i64 0, .int .i64 0, .slice none 0 0] 32 (0,0))):=⟨h2_⟩
       have jb:Aside0 (jX.heap[j3]?=some (.cells #[.int .i64 0, .int .i64 0, .slice none 0 0] 32 (0,0))):=⟨h3_⟩
       have jd:Aside0 (jX.heap[j4]?=some (.cells #[.int .i64 0, .int .i64 0, .slice none 0 0] 32 (0,0))):=⟨h4_⟩
       have ju:Aside0 (w.heap.size≤j3):=⟨h5_⟩
       have GE111:Aside0 (w.heap.size≤j3):=⟨h6_⟩
       have je:Aside0 (j8≠j3):=⟨h7_⟩
       have jl:Aside0 (j3≠j8):=⟨h8_⟩
       have jc:Aside0 (j6≠j3):=⟨h9_⟩
       have jj:Aside0 (j3≠j6):=⟨h10_⟩
       have jh:Aside0 (j4≠j3):=⟨h11_⟩
       have ji:Aside0 (j3≠j4):=⟨h12_⟩
       have jx:Aside0 (w.heap.size≤j4):=⟨h13_⟩
       have GE112:Aside0 (w.heap.size≤j4):=⟨h14_⟩
       have jg:Aside0 (j8≠j4):=⟨h15_⟩
       have jm:Aside0 (j4≠j8):=⟨h16_⟩
       have jf:Aside0 (j6≠j4):=⟨h17_⟩
       have jk:Aside0 (j4≠j6):=⟨h18_⟩
       replace HB:Aside0 (Below w.heap.size w jX):=⟨h19_⟩
       clear h0_ h1_ h2_ h3_ h4_ h5_ h6_ h7_ h8_ h9_ h10_ h11_ h12_ h13_ h14_ h15_ h16_ h17_ h18_ h19_
       have hHeld:=hS0_ _ ja.out HB.out
       refine eT (a':=?_) ?_ ?_
       rotate_left
       ·simp only [nG,Act.put,List.setIfInBounds_toArray,List.set_cons_zero,List.set_cons_succ]
        rfl
       refine kN (i:=9) (N:=some 24) (bz 14 4095) rfl rfl (fQ HT_.out (by kernel_rfl)) (by decide) (fun K hK=>?_)
       refine iP Try.func78 (by kernel_rfl) rfl #[.agg #[.int .i64 ((aY j9 1).f0), .int .i64 ((aY j9 1).f1), .slice jB ((aY j9 1).f2).length jC]] (by rfl) rfl rfl mO ?_
       with_reducible refine (ih k (by omega) ((aY j9 1).f0) ((aY j9 1).f1) _ _ ((aY j9 1).f2) jR jv jq _ (aC_ (Kd.aV jW.out HB.out)) jZ.out qW.out).mono ?_
       rintro e q3 ⟨jJ,rfl,ho0,hb⟩
       refine ⟨_,rfl,?_⟩
       have jy:=am (Kd.dF (Kd.aG (ok':=fun k_=>(w.heap.size≤k_)∧some k_≠(jw:Value).ownBlock∧k_≠j8∧k_≠j6∧k_≠j3∧k_≠j4) ho0 (fun k_ hk_=>⟨(Nat.le_trans (aJ rA) hk_),(Kd.fresh' (Kd.iN (aN_ jn.out)) k_ hk_),(fJ ja.out k_ hk_),(fJ j7.out k_ hk_),(fJ jb.out k_ hk_),(fJ jd.out k_ hk_)⟩)) (aJ rA))
       replace jn:=am (Kd.eY (aN_ jn.out) (by first|exact Kd.dD ho0|exact Kd.dD (Kd.R_N ho0)) hb)
       replace ja:=bbP ja hb
       replace j7:=bbP j7 hb
       replace jb:=bbP jb hb
       replace jd:=bbP jd hb
       replace HB:=am (aD rA hb)
       (try clear hb)
       (try clear hb2)
       (try clear hk)
       (try clear hi)
       (try clear ho0)
       refine hK.out _ _ (hS0_ _ ja.out HB.out) (fun hHeld=>?_)
       clear hK K
       refine eT (a':=?_) ?_ ?_
       rotate_left
       ·show Act.put _ (some 24) _=_
        simp only [Act.put,List.setIfInBounds_toArray,List.set_cons_zero,List.set_cons_succ,dN,dU]
        rfl
       exact eT nm_ (hJ4_9_10_11 (jw,jJ,j3,j4) _ ⟨hHeld,(eO (Kd.aG jn.out (fun _ hk=>⟨hk.1.1,⟨hk.2,⟨hk.1.2.1,⟨hk.1.2.2.1,⟨hk.1.2.2.2.1,hk.1.2.2.2.2⟩⟩⟩⟩⟩))),(aN_ jy.out),(aG_ ja.out),(aG_ j7.out),(aG_ jb.out),(aG_ jd.out),ju.out,GE111.out,je.out,jl.out,jc.out,jj.out,jh.out,ji.out,jx.out,GE112.out,jg.out,jm.out,jf.out,jk.out,rA⟩)
     ·skip
      rintro ⟨jw,jJ,j4⟩ jX ⟨hS_,h0_,h1_,h2_,h3_,h4_,h5_,h6_,h7_,h8_,h9_,h10_,h11_⟩
      have jn:Aside0 (Kd.N k32 32 jX w.heap.size (fun k_=>(w.heap.size≤k_)∧some k_≠(jJ:Value).ownBlock∧k_≠j8∧k_≠j6∧k_≠j4) jw jp):=⟨h0_⟩
      have jy:Aside0 (Kd.N k32 32 jX w.heap.size (fun k_=>(w.heap.size≤k_)∧some k_≠(jw:Value).ownBlock∧k_≠j8∧k_≠j6∧k_≠j4) jJ jq):=⟨h1_⟩
      replace ja:Aside0 (jX.heap[j8]?=some (.cells #[.int .i64 jo, .int .i64 jr, .slice (some j5) j9.length jt] 32 (0,0))):=⟨h2_⟩
      replace j7:Aside0 (jX.heap[j6]?=some (.cells #[.int .i64 0, .int .i64 0, .slice none 0 0] 32 (0,0))):=⟨h3_⟩
      have jd:Aside0 (jX.heap[j4]?=some (.cells #[.int .i64 0, .int .i64 0, .slice none 0 0] 32 (0,0))):=⟨h4_⟩
      have jx:Aside0 (w.heap.size≤j4):=⟨h5_⟩
      have GE112:Aside0 (w.heap.size≤j4):=⟨h6_⟩
      have jg:Aside0 (j8≠j4):=⟨h7_⟩
      have jm:Aside0 (j4≠j8):=⟨h8_⟩
      have jf:Aside0 (j6≠j4):=⟨h9_⟩
      have jk:Aside0 (j4≠j6):=⟨h10_⟩
      replace HB:Aside0 (Below w.heap.size w jX):=⟨h11_⟩
      clear h0_ h1_ h2_ h3_ h4_ h5_ h6_ h7_ h8_ h9_ h10_ h11_
      have hHeld:=hS0_ _ ja.out HB.out
      refine eT (a':=?_) ?_ ?_
      rotate_left
      ·simp only [nG,Act.put,List.setIfInBounds_toArray,List.set_cons_zero,List.set_cons_succ]
       rfl
      refine kN (i:=10) (N:=some 3) (bz 14 4095) rfl rfl (fQ HT_.out (by kernel_rfl)) (by decide) (fun K hK=>?_)
      refine lY ?hg (N:=3) ?hd (cs:=#[.int .i64 0, .int .i64 0, .slice none 0 0]) (t:=32) ?hr ?_;(case hd=>rfl);(case hg=>rfl);(case hr=>first|(go_simp;done)|(go_simp;rfl))
      intro j3 hg q3 hbox hb
      replace jn:=am (Kd.dS (Kd.gU (aN_ jn.out) j3 (Nat.le_of_eq hg.symm)) hb)
      replace jy:=am (Kd.dS (Kd.gU (aN_ jy.out) j3 (Nat.le_of_eq hg.symm)) hb)
      have jb:=am (hbox)
      have ju:=am ((by rw [hg];exact (aJ oZ):w.heap.size≤j3))
      have GE111:=am ((by rw [hg];exact (aJ oZ):w.heap.size≤j3))
      replace HB:=am (aD oZ hb)
      have je:=am ((by rw [hg];exact Nat.ne_of_lt (gN ja.out):j8≠j3))
      have jl:=am ((by rw [hg];exact Nat.ne_of_gt (gN ja.out):j3≠j8))
      replace ja:=bbP ja hb
      have jc:=am ((by rw [hg];exact Nat.ne_of_lt (gN j7.out):j6≠j3))
      have jj:=am ((by rw [hg];exact Nat.ne_of_gt (gN j7.out):j3≠j6))
      replace j7:=bbP j7 hb
      have jh:=am ((by rw [hg];exact Nat.ne_of_lt (gN jd.out):j4≠j3))
      have ji:=am ((by rw [hg];exact Nat.ne_of_gt (gN jd.out):j3≠j4))
      replace jd:=bbP jd hb
      clear hb hbox hg
      refine hK.out _ _ (hS0_ _ ja.out HB.out) (fun hHeld=>?_)
      clear hK K
      refine eT (a':=?_) ?_ ?_
      rotate_left
      ·show Act.put _ (some 3) _=_
       simp only [Act.put,List.setIfInBounds_toArray,List.set_cons_zero,List.set_cons_succ,dN,dU]
       rfl
      exact eT nm_ (hJ4_9_10_11 (jw,jJ,j3,j4) _ ⟨hHeld,(eO (Kd.aG jn.out (fun _ hk=>⟨hk.1.1,⟨hk.1.2.1,⟨hk.1.2.2.1,⟨hk.1.2.2.2.1,⟨hk.2,hk.1.2.2.2.2⟩⟩⟩⟩⟩))),(eO (Kd.aG jy.out (fun _ hk=>⟨hk.1.1,⟨hk.1.2.1,⟨hk.1.2.2.1,⟨hk.1.2.2.2.1,⟨hk.2,hk.1.2.2.2.2⟩⟩⟩⟩⟩))),(aG_ ja.out),(aG_ j7.out),(aG_ jb.out),(aG_ jd.out),ju.out,GE111.out,je.out,jl.out,jc.out,jj.out,jh.out,ji.out,jx.out,GE112.out,jg.out,jm.out,jf.out,jk.out,MQ⟩)
    ·skip
     rintro ⟨jw,jJ,j3⟩ jX ⟨hS_,h0_,h1_,h2_,h3_,h4_,h5_,h6_,h7_,h8_,h9_,h10_,h11_⟩
     have jn:Aside0 (Kd.N k32 32 jX w.heap.size (fun k_=>(w.heap.size≤k_)∧some k_≠(jJ:Value).ownBlock∧k_≠j8∧k_≠j6∧k_≠j3) jw jp):=⟨h0_⟩
     have jy:Aside0 (Kd.N k32 32 jX w.heap.size (fun k_=>(w.heap.size≤k_)∧some k_≠(jw:Value).ownBlock∧k_≠j8∧k_≠j6∧k_≠j3) jJ jq):=⟨h1_⟩
     replace ja:Aside0 (jX.heap[j8]?=some (.cells #[.int .i64 jo, .int .i64 jr, .slice (some j5) j9.length jt] 32 (0,0))):=⟨h2_⟩
     replace j7:Aside0 (jX.heap[j6]?=some (.cells #[.int .i64 0, .int .i64 0, .slice none 0 0] 32 (0,0))):=⟨h3_⟩
     have jb:Aside0 (jX.heap[j3]?=some (.cells #[.int .i64 0, .int .i64 0, .slice none 0 0] 32 (0,0))):=⟨h4_⟩
     have ju:Aside0 (w.heap.size≤j3):=⟨h5_⟩
     have GE111:Aside0 (w.heap.size≤j3):=⟨h6_⟩
     have je:Aside0 (j8≠j3):=⟨h7_⟩
     have jl:Aside0 (j3≠j8):=⟨h8_⟩
     have jc:Aside0 (j6≠j3):=⟨h9_⟩
     have jj:Aside0 (j3≠j6):=⟨h10_⟩
     replace HB:Aside0 (Below w.heap.size w jX):=⟨h11_⟩
     clear h0_ h1_ h2_ h3_ h4_ h5_ h6_ h7_ h8_ h9_ h10_ h11_
     have hHeld:=hS0_ _ ja.out HB.out
     refine eT (a':=?_) ?_ ?_
     rotate_left
     ·simp only [nG,Act.put,List.setIfInBounds_toArray,List.set_cons_zero,List.set_cons_succ]
      rfl
     refine kN (i:=11) (N:=some 4) (bz 14 4095) rfl rfl (fQ HT_.out (by kernel_rfl)) (by decide) (fun K hK=>?_)
     refine lY ?hg (N:=4) ?hd (cs:=#[.int .i64 0, .int .i64 0, .slice none 0 0]) (t:=32) ?hr ?_;(case hd=>rfl);(case hg=>rfl);(case hr=>first|(go_simp;done)|(go_simp;rfl))
     intro j4 hg q3 hbox hb
     replace jn:=am (Kd.dS (Kd.gU (aN_ jn.out) j4 (Nat.le_of_eq hg.symm)) hb)
     replace jy:=am (Kd.dS (Kd.gU (aN_ jy.out) j4 (Nat.le_of_eq hg.symm)) hb)
     have jd:=am (hbox)
     have jx:=am ((by rw [hg];exact (aJ oW):w.heap.size≤j4))
     have GE112:=am ((by rw [hg];exact (aJ oW):w.heap.size≤j4))
     replace HB:=am (aD oW hb)
     have jg:=am ((by rw [hg];exact Nat.ne_of_lt (gN ja.out):j8≠j4))
     have jm:=am ((by rw [hg];exact Nat.ne_of_gt (gN ja.out):j4≠j8))
     replace ja:=bbP ja hb
     have jf:=am ((by rw [hg];exact Nat.ne_of_lt (gN j7.out):j6≠j4))
     have jk:=am ((by rw [hg];exact Nat.ne_of_gt (gN j7.out):j4≠j6))
     replace j7:=bbP j7 hb
     have ji:=am ((by rw [hg];exact Nat.ne_of_lt (gN jb.out):j3≠j4))
     have jh:=am ((by rw [hg];exact Nat.ne_of_gt (gN jb.out):j4≠j3))
     replace jb:=bbP jb hb
     clear hb hbox hg
     refine hK.out _ _ (hS0_ _ ja.out HB.out) (fun hHeld=>?_)
     clear hK K
     refine eT (a':=?_) ?_ ?_
     rotate_left
     ·show Act.put _ (some 4) _=_
      simp only [Act.put,List.setIfInBounds_toArray,List.set_cons_zero,List.set_cons_succ,dN,dU]
      rfl
     exact eT nm_ (hJ4_9_10_11 (jw,jJ,j3,j4) _ ⟨hHeld,(eO (Kd.aG jn.out (fun _ hk=>⟨hk.1.1,⟨hk.1.2.1,⟨hk.1.2.2.1,⟨hk.1.2.2.2.1,⟨hk.1.2.2.2.2,hk.2⟩⟩⟩⟩⟩))),(eO (Kd.aG jy.out (fun _ hk=>⟨hk.1.1,⟨hk.1.2.1,⟨hk.1.2.2.1,⟨hk.1.2.2.2.1,⟨hk.1.2.2.2.2,hk.2⟩⟩⟩⟩⟩))),(aG_ ja.out),(aG_ j7.out),(aG_ jb.out),(aG_ jd.out),ju.out,GE111.out,je.out,jl.out,jc.out,jj.out,jh.out,ji.out,jx.out,GE112.out,jg.out,jm.out,jf.out,jk.out,rA⟩)
   rintro ⟨jw,jJ,j3,j4⟩ q3 ⟨hS_,h0_,h1_,h2_,h3_,h4_,h5_,h6_,h7_,h8_,h9_,h10_,h11_,h12_,h13_,h14_,h15_,h16_,h17_,h18_,h19_,h20_⟩
   have jn:Aside0 (Kd.N k32 32 q3 w.heap.size (fun k_=>(w.heap.size≤k_)∧some k_≠(jJ:Value).ownBlock∧k_≠j8∧k_≠j6∧k_≠j3∧k_≠j4) jw jp):=⟨h0_⟩
   have jy:Aside0 (Kd.N k32 32 q3 w.heap.size (fun k_=>(w.heap.size≤k_)∧some k_≠(jw:Value).ownBlock∧k_≠j8∧k_≠j6∧k_≠j3∧k_≠j4) jJ jq):=⟨h1_⟩
   replace ja:Aside0 (q3.heap[j8]?=some (.cells #[.int .i64 jo, .int .i64 jr, .slice (some j5) j9.length jt] 32 (0,0))):=⟨h2_⟩
   replace j7:Aside0 (q3.heap[j6]?=some (.cells #[.int .i64 0, .int .i64 0, .slice none 0 0] 32 (0,0))):=⟨h3_⟩
   have jb:Aside0 (q3.heap[j3]?=some (.cells #[.int .i64 0, .int .i64 0, .slice none 0 0] 32 (0,0))):=⟨h4_⟩
   have jd:Aside0 (q3.heap[j4]?=some (.cells #[.int .i64 0, .int .i64 0, .slice none 0 0] 32 (0,0))):=⟨h5_⟩
   have ju:Aside0 (w.heap.size≤j3):=⟨h6_⟩
   have GE111:Aside0 (w.heap.size≤j3):=⟨h7_⟩
   have je:Aside0 (j8≠j3):=⟨h8_⟩
   have jl:Aside0 (j3≠j8):=⟨h9_⟩
   have jc:Aside0 (j6≠j3):=⟨h10_⟩
   have jj:Aside0 (j3≠j6):=⟨h11_⟩
   have jh:Aside0 (j4≠j3):=⟨h12_⟩
   have ji:Aside0 (j3≠j4):=⟨h13_⟩
   have jx:Aside0 (w.heap.size≤j4):=⟨h14_⟩
   have GE112:Aside0 (w.heap.size≤j4):=⟨h15_⟩
   have jg:Aside0 (j8≠j4):=⟨h16_⟩
   have jm:Aside0 (j4≠j8):=⟨h17_⟩
   have jf:Aside0 (j6≠j4):=⟨h18_⟩
   have jk:Aside0 (j4≠j6):=⟨h19_⟩
   replace HB:Aside0 (Below w.heap.size w q3):=⟨h20_⟩
   clear h0_ h1_ h2_ h3_ h4_ h5_ h6_ h7_ h8_ h9_ h10_ h11_ h12_ h13_ h14_ h15_ h16_ h17_ h18_ h19_ h20_
   have hHeld:=hS0_ _ ja.out HB.out
   obtain ⟨jF,jG,qs⟩:=Kd.dG jn.out
   (first|subst qs|(injection qs with f1_ f2_ f3_;have f4_:=f1_.symm;have f5_:=f3_.symm;clear f1_ f2_ f3_;subst f4_;subst f5_))
   obtain ⟨jH,jI,qt⟩:=Kd.dG jy.out
   (first|subst qt|(injection qt with f1_ f2_ f3_;have f4_:=f1_.symm;have f5_:=f3_.symm;clear f1_ f2_ f3_;subst f4_;subst f5_))
   refine eT (a':=?_) ?_ ?_
   rotate_left
   ·simp only [nG,Act.put,List.setIfInBounds_toArray,List.set_cons_zero,List.set_cons_succ]
    rfl
   refine kN (i:=12) (N:=none) (bz 14 8191) rfl rfl (fQ HT_.out (by kernel_rfl)) (by decide) (fun K hK=>?_)
   have Yf:q3.cell? ⟨j3,0,none⟩=some (.int .i64 0):=(aC jb.out 0).trans rfl
   have hfs23:=aU jb.out 0
   have hns23_0:=je.out
   have hns23_1:=jc.out
   have hns23_3:=jh.out
   have hms23_0:=jl.out
   have hms23_1:=jj.out
   have hms23_3:=ji.out
   have Yg:q3.cell? ⟨j3,1,none⟩=some (.int .i64 0):=(aC jb.out 1).trans rfl
   have hfs24:=aU jb.out 1
   have hns24_0:=je.out
   have hns24_1:=jc.out
   have hns24_3:=jh.out
   have hms24_0:=jl.out
   have hms24_1:=jj.out
   have hms24_3:=ji.out
   have Yh:q3.cell? ⟨j3,2,none⟩=some (.slice none 0 0):=(aC jb.out 2).trans rfl
   have hfs26:=aU jb.out 2
   have hns26_0:=je.out
   have hns26_1:=jc.out
   have hns26_3:=jh.out
   have hms26_0:=jl.out
   have hms26_1:=jj.out
   have hms26_3:=ji.out
   refine rP (w1:=?_) (by rfl) rfl ?_ ?_
   rotate_left
   ·go_simp
    rfl
   refine hK.out _ _ (hS0_ _ (bC (p:=⟨j3,_,none⟩) (bC (p:=⟨j3,_,none⟩) (bC (p:=⟨j3,_,none⟩) ja.out je.out _) je.out _) je.out _) (below_set (below_set (below_set HB.out ju.out) ju.out) ju.out)) (fun hHeld=>?_)
   clear hK K
   refine kN (i:=13) (N:=none) (bz 14 16383) rfl rfl (fQ HT_.out (by kernel_rfl)) (by decide) (fun K hK=>?_)
   have Yi:q3.cell? ⟨j4,0,none⟩=some (.int .i64 0):=(aC jd.out 0).trans rfl
   have hfs27:=aU jd.out 0
   have hns27_0:=jg.out
   have hns27_1:=jf.out
   have hns27_2:=ji.out
   have hms27_0:=jm.out
   have hms27_1:=jk.out
   have hms27_2:=jh.out
   have Yj:q3.cell? ⟨j4,1,none⟩=some (.int .i64 0):=(aC jd.out 1).trans rfl
   have hfs28:=aU jd.out 1
   have hns28_0:=jg.out
   have hns28_1:=jf.out
   have hns28_2:=ji.out
   have hms28_0:=jm.out
   have hms28_1:=jk.out
   have hms28_2:=jh.out
   have Yk:q3.cell? ⟨j4,2,none⟩=some (.slice none 0 0):=(aC jd.out 2).trans rfl
   have hfs30:=aU jd.out 2
   have hns30_0:=jg.out
   have hns30_1:=jf.out
   have hns30_2:=ji.out
   have hms30_0:=jm.out
   have hms30_1:=jk.out
   have hms30_2:=jh.out
   refine rP (w1:=?_) (by rfl) rfl ?_ ?_
   rotate_left
   ·go_simp
    rfl
   refine hK.out _ _ (hS0_ _ (bC (p:=⟨j4,_,none⟩) (bC (p:=⟨j4,_,none⟩) (bC (p:=⟨j4,_,none⟩) (bC (p:=⟨j3,_,none⟩) (bC (p:=⟨j3,_,none⟩) (bC (p:=⟨j3,_,none⟩) ja.out je.out _) je.out _) je.out _) jg.out _) jg.out _) jg.out _) (below_set (below_set (below_set (below_set (below_set (below_set HB.out ju.out) ju.out) ju.out) jx.out) jx.out) jx.out)) (fun hHeld=>?_)
   clear hK K
   refine nN (kQ HT_.out (by kernel_rfl)) ?_
   go_upto_region 4 with (fail)
   go_cut [32] (fun Yl wc=>∃ (kq:Nat) (q1:Bool),Yl= .bool q1∧Aside0 (bZ.j0 kq q1 jo jr j9 jK js jp jR jv jq=some (r1,r2,r3))∧Aside0 (kq≤k)∧Aside0 (Kd.N k32 32 wc w.heap.size (fun k_=>(w.heap.size≤k_)∧some k_≠((.slice jH jq.length jI):Value).ownBlock∧k_≠j8∧k_≠j6∧k_≠j3∧k_≠j4) (.slice jF jp.length jG) jp)∧Aside0 (Kd.N k32 32 wc w.heap.size (fun k_=>(w.heap.size≤k_)∧some k_≠((.slice jF jp.length jG):Value).ownBlock∧k_≠j8∧k_≠j6∧k_≠j3∧k_≠j4) (.slice jH jq.length jI) jq)∧Aside0 (wc.heap[j8]?=some (.cells #[.int .i64 jo, .int .i64 jr,(.slice (some j5) j9.length jt)] 32 (0,0)))∧Aside0 (wc.heap[j6]?=some (.cells #[.int .i64 0, .int .i64 0,(.slice none 0 0)] 32 (0,0)))∧Aside0 (wc.heap[j3]?=some (.cells #[.int .i64 jK, .int .i64 js,(.slice jF jp.length jG)] 32 (0,0)))∧Aside0 (wc.heap[j4]?=some (.cells #[.int .i64 jR, .int .i64 jv,(.slice jH jq.length jI)] 32 (0,0)))∧Aside0 (Below w.heap.size w wc))
   case first=>
    have H:=qf.out
    clear qf
    by_cases qk:jK=0
    ·rw [if_pos qk] at H
     have q2:(jK == 0)=true:=beq_iff_eq.mpr qk
     have qu:(jK != 0)=false:=bne_eq_false_iff_eq.mpr qk
     clear qk
     (first|rw [q2]|(simp only [dN,dU];rw [q2])|skip)
     have H':=am H
     clear H
     have Z7:=jl.out
     have Z8:=je.out
     have Z9:=jj.out
     have Za:=jc.out
     have Zb:=ji.out
     have Zc:=jh.out
     obtain ⟨qX,qY,qZ,z0,z1,z2⟩:=gF jb.out
     have Zd:=jm.out
     have Ze:=jg.out
     have Zf:=jk.out
     have Zg:=jf.out
     obtain ⟨z3,z4,z5,z6,z7,z8⟩:=gF jd.out
     go_wp2
     go_meet
     case rel=>exact ⟨_,((jR == 0)),sd_,H',⟨by first|omega|exact Nat.le_refl _⟩,⟨eO (Kd.aG (Kd.aT (p:=⟨j4,2,none⟩) (Kd.aT (p:=⟨j4,1,none⟩) (Kd.aT (p:=⟨j4,0,none⟩) (Kd.aT (p:=⟨j3,2,none⟩) (Kd.aT (p:=⟨j3,1,none⟩) (Kd.aT (p:=⟨j3,0,none⟩) (Kd.aG (Kd.aG jn.out (fun k_ hk=>(⟨hk,hk.2.2.2.2.1⟩:_∧k_≠j3))) (fun k_ hk=>(⟨hk,hk.1.2.2.2.2.2⟩:_∧k_≠j4))) (fun _ hk=>hk.1.2) (.int .i64 jK)) (fun _ hk=>hk.1.2) (.int .i64 js)) (fun _ hk=>hk.1.2) (.slice jF jp.length jG)) (fun _ hk=>hk.2) (.int .i64 jR)) (fun _ hk=>hk.2) (.int .i64 jv)) (fun _ hk=>hk.2) (.slice jH jq.length jI)) (fun _ hk=>⟨hk.1.1.1,⟨hk.1.1.2.1,⟨hk.1.1.2.2.1,⟨hk.1.1.2.2.2.1,⟨hk.1.1.2.2.2.2.1,hk.1.1.2.2.2.2.2⟩⟩⟩⟩⟩))⟩,⟨eO (Kd.aG (Kd.aT (p:=⟨j4,2,none⟩) (Kd.aT (p:=⟨j4,1,none⟩) (Kd.aT (p:=⟨j4,0,none⟩) (Kd.aT (p:=⟨j3,2,none⟩) (Kd.aT (p:=⟨j3,1,none⟩) (Kd.aT (p:=⟨j3,0,none⟩) (Kd.aG (Kd.aG jy.out (fun k_ hk=>(⟨hk,hk.2.2.2.2.1⟩:_∧k_≠j3))) (fun k_ hk=>(⟨hk,hk.1.2.2.2.2.2⟩:_∧k_≠j4))) (fun _ hk=>hk.1.2) (.int .i64 jK)) (fun _ hk=>hk.1.2) (.int .i64 js)) (fun _ hk=>hk.1.2) (.slice jF jp.length jG)) (fun _ hk=>hk.2) (.int .i64 jR)) (fun _ hk=>hk.2) (.int .i64 jv)) (fun _ hk=>hk.2) (.slice jH jq.length jI)) (fun _ hk=>⟨hk.1.1.1,⟨hk.1.1.2.1,⟨hk.1.1.2.2.1,⟨hk.1.1.2.2.2.1,⟨hk.1.1.2.2.2.2.1,hk.1.1.2.2.2.2.2⟩⟩⟩⟩⟩))⟩,⟨(bC (bC (bC (bC (bC (bC ja.out je.out _) je.out _) je.out _) jg.out _) jg.out _) jg.out _)⟩,⟨(bC (bC (bC (bC (bC (bC j7.out jc.out _) jc.out _) jc.out _) jf.out _) jf.out _) jf.out _)⟩,⟨(bC (bC (bC (aM (aM (aM jb.out 0 _ rfl) 1 _ rfl) 2 _ rfl) ji.out _) ji.out _) ji.out _)⟩,⟨(aM (aM (aM (bC (bC (bC jd.out jh.out _) jh.out _) jh.out _) 0 _ rfl) 1 _ rfl) 2 _ rfl)⟩,⟨rA⟩⟩
    rw [if_neg qk] at H
    have q2:(jK == 0)=false:=beq_eq_false_iff_ne.mpr qk
    have qu:(jK != 0)=true:=bne_iff_ne.mpr qk
    (first|rw [q2]|(simp only [dN,dU];rw [q2])|skip)
    have H':=am H
    clear H
    have Zh:=jl.out
    have Zi:=je.out
    have Zj:=jj.out
    have Zk:=jc.out
    have Zl:=ji.out
    have Zm:=jh.out
    obtain ⟨z9,za,zb,zc,zd,ze⟩:=gF jb.out
    go_wp2
    go_meet
    case rel=>exact ⟨_,(false),sd_,H',⟨by first|omega|exact Nat.le_refl _⟩,⟨eO (Kd.aG (Kd.aT (p:=⟨j4,2,none⟩) (Kd.aT (p:=⟨j4,1,none⟩) (Kd.aT (p:=⟨j4,0,none⟩) (Kd.aT (p:=⟨j3,2,none⟩) (Kd.aT (p:=⟨j3,1,none⟩) (Kd.aT (p:=⟨j3,0,none⟩) (Kd.aG (Kd.aG jn.out (fun k_ hk=>(⟨hk,hk.2.2.2.2.1⟩:_∧k_≠j3))) (fun k_ hk=>(⟨hk,hk.1.2.2.2.2.2⟩:_∧k_≠j4))) (fun _ hk=>hk.1.2) (.int .i64 jK)) (fun _ hk=>hk.1.2) (.int .i64 js)) (fun _ hk=>hk.1.2) (.slice jF jp.length jG)) (fun _ hk=>hk.2) (.int .i64 jR)) (fun _ hk=>hk.2) (.int .i64 jv)) (fun _ hk=>hk.2) (.slice jH jq.length jI)) (fun _ hk=>⟨hk.1.1.1,⟨hk.1.1.2.1,⟨hk.1.1.2.2.1,⟨hk.1.1.2.2.2.1,⟨hk.1.1.2.2.2.2.1,hk.1.1.2.2.2.2.2⟩⟩⟩⟩⟩))⟩,⟨eO (Kd.aG (Kd.aT (p:=⟨j4,2,none⟩) (Kd.aT (p:=⟨j4,1,none⟩) (Kd.aT (p:=⟨j4,0,none⟩) (Kd.aT (p:=⟨j3,2,none⟩) (Kd.aT (p:=⟨j3,1,none⟩) (Kd.aT (p:=⟨j3,0,none⟩) (Kd.aG (Kd.aG jy.out (fun k_ hk=>(⟨hk,hk.2.2.2.2.1⟩:_∧k_≠j3))) (fun k_ hk=>(⟨hk,hk.1.2.2.2.2.2⟩:_∧k_≠j4))) (fun _ hk=>hk.1.2) (.int .i64 jK)) (fun _ hk=>hk.1.2) (.int .i64 js)) (fun _ hk=>hk.1.2) (.slice jF jp.length jG)) (fun _ hk=>hk.2) (.int .i64 jR)) (fun _ hk=>hk.2) (.int .i64 jv)) (fun _ hk=>hk.2) (.slice jH jq.length jI)) (fun _ hk=>⟨hk.1.1.1,⟨hk.1.1.2.1,⟨hk.1.1.2.2.1,⟨hk.1.1.2.2.2.1,⟨hk.1.1.2.2.2.2.1,hk.1.1.2.2.2.2.2⟩⟩⟩⟩⟩))⟩,⟨(bC (bC (bC (bC (bC (bC ja.out je.out _) je.out _) je.out _) jg.out _) jg.out _) jg.out _)⟩,⟨(bC (bC (bC (bC (bC (bC j7.out jc.out _) jc.out _) jc.out _) jf.out _) jf.out _) jf.out _)⟩,⟨(bC (bC (bC (aM (aM (aM jb.out 0 _ rfl) 1 _ rfl) 2 _ rfl) ji.out _) ji.out _) ji.out _)⟩,⟨(aM (aM (aM (bC (bC (bC jd.out jh.out _) jh.out _) jh.out _) 0 _ rfl) 1 _ rfl) 2 _ rfl)⟩,⟨rA⟩⟩
   case rest=>
    clear qf
    obtain ⟨kq,q1,rfl,HA,HJ11,jD,jE,ja,j7,jb,jd,HB⟩:=hcut
    cases kq with
    |zero=>exact absurd HA.out (by simp [bZ.j0])
    |succ Ym=>
     have H:=HA.out
     clear HA
     simp only [bZ.j0] at H
     by_cases zf:q1=true
     ·subst zf
      rw [if_pos rfl] at H
      obtain ⟨q0,qv,H⟩:=bsm H
      (try dsimp only at H)
      have QW:=am qv
      clear qv
      by_cases qo:q0≥0
      ·rw [if_pos qo] at H
       have qw:decide (0≤q0)=true:=decide_eq_true qo
       clear qo
       by_cases qp:q0≤99999
       ·rw [if_pos qp] at H
        have qx:decide (q0≤99999)=true:=decide_eq_true qp
        clear qp
        simp only [Option.some.injEq,Prod.mk.injEq] at H
        obtain ⟨rfl,rfl,rfl⟩:=H
        have Zn:=jS.out
        have Zo:=jT.out
        have Zp:=je.out
        have Zq:=jl.out
        have Zr:=jg.out
        have Zs:=jm.out
        obtain ⟨zg,zh,zi,zj,zk,zl⟩:=gF ja.out
        have Zt:=jj.out
        have Zu:=jc.out
        have Zv:=ji.out
        have Zw:=jh.out
        obtain ⟨zm,zn,zo,zp,zq,zr⟩:=gF jb.out
        have Zx:=jk.out
        have Zy:=jf.out
        obtain ⟨zs,zt,zu,zv,zw,zx⟩:=gF jd.out
        go_wp2_with (first|((with_reducible refine aN (f:=94) rfl ?_);refine gl_ 39 Try.func94 #[.int .i64 jo, .int .i64 js, .int .i64 jv] ?_;(with_reducible refine (nS.calls jo js jv q0 _ QW.out).mono ?_);rintro e w' ⟨rfl,⟨nd,rfl⟩⟩;refine ⟨_,rfl,?_⟩;(try (rw [oU wc];generalize hq_:World.drewN wc _=wc;replace jD:Aside0 (Kd.N k32 32 wc w.heap.size (fun k_=>(w.heap.size≤k_)∧some k_≠(.slice jH jq.length jI:Value).ownBlock∧k_≠j8∧k_≠j6∧k_≠j3∧k_≠j4) (.slice jF jp.length jG) jp):=⟨by rw [← hq_];exact (aN_ jD.out)⟩;replace jE:Aside0 (Kd.N k32 32 wc w.heap.size (fun k_=>(w.heap.size≤k_)∧some k_≠(.slice jF jp.length jG:Value).ownBlock∧k_≠j8∧k_≠j6∧k_≠j3∧k_≠j4) (.slice jH jq.length jI) jq):=⟨by rw [← hq_];exact (aN_ jE.out)⟩;replace ja:Aside0 (wc.heap[j8]?=some (.cells #[.int .i64 jo, .int .i64 jr, .slice (some j5) j9.length jt] 32 (0,0))):=⟨by rw [← hq_];exact (aG_ ja.out)⟩;replace j7:Aside0 (wc.heap[j6]?=some (.cells #[.int .i64 0, .int .i64 0, .slice none 0 0] 32 (0,0))):=⟨by rw [← hq_];exact (aG_ j7.out)⟩;replace jb:Aside0 (wc.heap[j3]?=some (.cells #[.int .i64 jK, .int .i64 js, .slice jF jp.length jG] 32 (0,0))):=⟨by rw [← hq_];exact (aG_ jb.out)⟩;replace jd:Aside0 (wc.heap[j4]?=some (.cells #[.int .i64 jR, .int .i64 jv, .slice jH jq.length jI] 32 (0,0))):=⟨by rw [← hq_];exact (aG_ jd.out)⟩;replace HB:Aside0 (Below w.heap.size w wc):=⟨by rw [← hq_];exact rA⟩;clear hq_;obtain ⟨zy,zz⟩:=mM ja.out;have zA:wc.cell? ⟨j8,1,none⟩=some (.int .i64 jr):=(aC ja.out 1).trans rfl;have zB:=aU ja.out 1;have zC:wc.cell? ⟨j8,2,none⟩=some (.slice (some j5) j9.length jt):=(aC ja.out 2).trans rfl;have zD:=aU ja.out 2;obtain ⟨zE,zF⟩:=mM j7.out;have zG:wc.cell? ⟨j6,1,none⟩=some (.int .i64 0):=(aC j7.out 1).trans rfl;have zH:=aU j7.out 1;have zI:wc.cell? ⟨j6,2,none⟩=some (.slice none 0 0):=(aC j7.out 2).trans rfl;have zJ:=aU j7.out 2;obtain ⟨zK,zL⟩:=mM jb.out;have zM:wc.cell? ⟨j3,1,none⟩=some (.int .i64 js):=(aC jb.out 1).trans rfl;have zN:=aU jb.out 1;have zO:wc.cell? ⟨j3,2,none⟩=some (.slice jF jp.length jG):=(aC jb.out 2).trans rfl;have zP:=aU jb.out 2;obtain ⟨zQ,zR⟩:=mM jd.out;have zS:wc.cell? ⟨j4,1,none⟩=some (.int .i64 jv):=(aC jd.out 1).trans rfl;have zT:=aU jd.out 1;have zU:wc.cell? ⟨j4,2,none⟩=some (.slice jH jq.length jI):=(aC jd.out 2).trans rfl;have zV:=aU jd.out 2));obtain ⟨zW,zX,zY,zZ,J0,J1⟩:=gF j7.out))
        refine bodyPost_ret (results_cell_row rfl _ _ j6 32 #[.int .i64 0, .int .i64 q0, .slice none 0 0] (0,0) _ rfl (aM (aM (aM j7.out 0 _ rfl) 1 _ rfl) 2 _ rfl) Try.underlying32 rfl (by kernel_rfl)) rfl ?_
        exact ⟨_,iI,by first|exact Kd.oC _ _ _ _ _|exact Kd.sG _ _ _ _ _|exact Kd.sK _ _ _ _ _|exact Kd.sH _ _ _ _ _|exact Kd.sI _ _ _ _ _,rA⟩
       rw [if_neg qp] at H
       have qx:decide (q0≤99999)=false:=decide_eq_false qp
       clear qp
       obtain ⟨ql,hy_⟩:∃ y_:List (S32),y_=(([(⟨jK,js,jp⟩:S32),(⟨jR,jv,jq⟩:S32)]:List (S32))):=⟨_,rfl⟩
       replace H:(some (jo,0,ql))=some (r1,r2,r3):=rx_
       have q9:=am hy_
       clear hy_
       simp only [Option.some.injEq,Prod.mk.injEq] at H
       obtain ⟨rfl,rfl,rfl⟩:=H
       have Zz:=jS.out
       have ZA:=jT.out
       have ZB:=je.out
       have ZC:=jl.out
       have ZD:=jg.out
       have ZE:=jm.out
       obtain ⟨J2,J3,J4,J5,J6,J7⟩:=gF ja.out
       have ZF:=jj.out
       have ZG:=jc.out
       have ZH:=ji.out
       have ZI:=jh.out
       obtain ⟨J8,J9,Ja,Jb,Jc,Jd⟩:=gF jb.out
       have ZJ:=jk.out
       have ZK:=jf.out
       obtain ⟨Je,Jf,Jg,Jh,Ji,Jj⟩:=gF jd.out
       go_wp2_with (first|((with_reducible refine aN (f:=94) rfl ?_);refine gl_ 39 Try.func94 #[.int .i64 jo, .int .i64 js, .int .i64 jv] ?_;(with_reducible refine (nS.calls jo js jv q0 _ QW.out).mono ?_);rintro e w' ⟨rfl,⟨nd,rfl⟩⟩;refine ⟨_,rfl,?_⟩;(try (rw [oU wc];generalize hq_:World.drewN wc _=wc;replace jD:Aside0 (Kd.N k32 32 wc w.heap.size (fun k_=>(w.heap.size≤k_)∧some k_≠(.slice jH jq.length jI:Value).ownBlock∧k_≠j8∧k_≠j6∧k_≠j3∧k_≠j4) (.slice jF jp.length jG) jp):=⟨by rw [← hq_];exact (aN_ jD.out)⟩;replace jE:Aside0 (Kd.N k32 32 wc w.heap.size (fun k_=>(w.heap.size≤k_)∧some k_≠(.slice jF jp.length jG:Value).ownBlock∧k_≠j8∧k_≠j6∧k_≠j3∧k_≠j4) (.slice jH jq.length jI) jq):=⟨by rw [← hq_];exact (aN_ jE.out)⟩;replace ja:Aside0 (wc.heap[j8]?=some (.cells #[.int .i64 jo, .int .i64 jr, .slice (some j5) j9.length jt] 32 (0,0))):=⟨by rw [← hq_];exact (aG_ ja.out)⟩;replace j7:Aside0 (wc.heap[j6]?=some (.cells #[.int .i64 0, .int .i64 0, .slice none 0 0] 32 (0,0))):=⟨by rw [← hq_];exact (aG_ j7.out)⟩;replace jb:Aside0 (wc.heap[j3]?=some (.cells #[.int .i64 jK, .int .i64 js, .slice jF jp.length jG] 32 (0,0))):=⟨by rw [← hq_];exact (aG_ jb.out)⟩;replace jd:Aside0 (wc.heap[j4]?=some (.cells #[.int .i64 jR, .int .i64 jv, .slice jH jq.length jI] 32 (0,0))):=⟨by rw [← hq_];exact (aG_ jd.out)⟩;replace HB:Aside0 (Below w.heap.size w wc):=⟨by rw [← hq_];exact rA⟩;clear hq_;obtain ⟨Jk,Jl⟩:=mM ja.out;have Jm:wc.cell? ⟨j8,1,none⟩=some (.int .i64 jr):=(aC ja.out 1).trans rfl;have Jn:=aU ja.out 1;have Jo:wc.cell? ⟨j8,2,none⟩=some (.slice (some j5) j9.length jt):=(aC ja.out 2).trans rfl;have Jp:=aU ja.out 2;obtain ⟨Jq,Jr⟩:=mM j7.out;have Js:wc.cell? ⟨j6,1,none⟩=some (.int .i64 0):=(aC j7.out 1).trans rfl;have Jt:=aU j7.out 1;have Ju:wc.cell? ⟨j6,2,none⟩=some (.slice none 0 0):=(aC j7.out 2).trans rfl;have Jv:=aU j7.out 2;obtain ⟨Jw,Jx⟩:=mM jb.out;have Jy:wc.cell? ⟨j3,1,none⟩=some (.int .i64 js):=(aC jb.out 1).trans rfl;have Jz:=aU jb.out 1;have JA:wc.cell? ⟨j3,2,none⟩=some (.slice jF jp.length jG):=(aC jb.out 2).trans rfl;have JB:=aU jb.out 2;obtain ⟨JC,JD⟩:=mM jd.out;have JE:wc.cell? ⟨j4,1,none⟩=some (.int .i64 jv):=(aC jd.out 1).trans rfl;have JF:=aU jd.out 1;have JG:wc.cell? ⟨j4,2,none⟩=some (.slice jH jq.length jI):=(aC jd.out 2).trans rfl;have JH:=aU jd.out 2)))|((with_reducible refine cZ (N:=52) rfl ?_);refine Kd.oV k32 _ 32 rfl (N':=52) rfl (xs:=([(⟨jK,js,jp⟩:S32),(⟨jR,jv,jq⟩:S32)]:List (S32))) (inner:=[.int .i64 jK, .int .i64 js, .slice jF jp.length jG, .int .i64 jR, .int .i64 jv, .slice jH jq.length jI]) (ok:=(fun k_=>(w.heap.size≤k_)∧k_≠j8∧k_≠j6∧k_≠j3∧k_≠j4)) (okp:=(fun k_=>(w.heap.size≤k_)∧k_≠j8∧k_≠j6∧k_≠j3∧k_≠j4)) rn_ ?hp (fun _ hk=>hk) ((show ∀ k_,wc.heap.size≤k_→(fun k_=>(w.heap.size≤k_)∧k_≠j8∧k_≠j6∧k_≠j3∧k_≠j4) k_ from fun k_ hk=>⟨(Nat.le_trans (aJ rA) hk),fJ ja.out k_ hk,fJ j7.out k_ hk,fJ jb.out k_ hk,fJ jd.out k_ hk⟩) _ (Nat.le_refl _)) (Below.refl _ _) (Nat.le_refl _) (by simp) ?_;(case hp=>exact (eX.c3 (show Kd.FK k32 _ _ (⟨jK,js,jp⟩:S32) [.int .i64 jK, .int .i64 js, .slice jF jp.length jG] from (uI _ _ (⟨jK,js,jp⟩:S32) (Kd.bQ (Kd.aG (ok':=(fun k_=>(w.heap.size≤k_)∧k_≠j8∧k_≠j6∧k_≠j3∧k_≠j4)) (jD.out) (fun k_ hk=>⟨hk.1,⟨hk.2.2.1,⟨hk.2.2.2.1,⟨hk.2.2.2.2.1,hk.2.2.2.2.2⟩⟩⟩⟩))).2.1 (Kd.N_F (Kd.aG (ok':=(fun k_=>(w.heap.size≤k_)∧k_≠j8∧k_≠j6∧k_≠j3∧k_≠j4)) (jD.out) (fun k_ hk=>⟨hk.1,⟨hk.2.2.1,⟨hk.2.2.2.1,⟨hk.2.2.2.2.1,hk.2.2.2.2.2⟩⟩⟩⟩))))) (eX.c3 (show Kd.FK k32 _ _ (⟨jR,jv,jq⟩:S32) [.int .i64 jR, .int .i64 jv, .slice jH jq.length jI] from (uI _ _ (⟨jR,jv,jq⟩:S32) (Kd.bQ (Kd.aG (ok':=(fun k_=>(w.heap.size≤k_)∧k_≠j8∧k_≠j6∧k_≠j3∧k_≠j4)) (jE.out) (fun k_ hk=>⟨hk.1,⟨hk.2.2.1,⟨hk.2.2.2.1,⟨hk.2.2.2.2.1,hk.2.2.2.2.2⟩⟩⟩⟩))).2.1 (Kd.N_F (Kd.aG (ok':=(fun k_=>(w.heap.size≤k_)∧k_≠j8∧k_≠j6∧k_≠j3∧k_≠j4)) (jE.out) (fun k_ hk=>⟨hk.1,⟨hk.2.2.1,⟨hk.2.2.2.1,⟨hk.2.2.2.2.1,hk.2.2.2.2.2⟩⟩⟩⟩))))) (eX.none _ _))));intro Yn Yr ho67 hb hg_ hnew_;clear hg_ hnew_;(first|rw [← q9.out] at ho67|(simp only [Int.reduceToNat] at ho67;rw [← q9.out] at ho67));have qa:=am (Kd.dF ho67 (aJ rA));replace ja:=bbP ja hb;replace j7:=bbP j7 hb;replace jb:=bbP jb hb;replace jd:=bbP jd hb;replace HB:=am (aD rA hb);clear jD jE hb ho67;obtain ⟨qy,qz,QX⟩:=Kd.dG qa.out;subst QX;obtain ⟨JI,JJ,JK,JL,JM,JN⟩:=gF j7.out))
       refine bodyPost_ret (results_cell_row rfl _ _ j6 32 #[.int .i64 jo, .int .i64 0, .slice qy ql.length qz] (0,0) _ rfl (aM (aM (aM j7.out 0 _ rfl) 1 _ rfl) 2 _ rfl) Try.underlying32 rfl (by kernel_rfl)) rfl ?_
       exact ⟨_,iI,eO (Kd.aG (Kd.aT (p:=⟨j6,2,none⟩) (Kd.aT (p:=⟨j6,1,none⟩) (Kd.aT (p:=⟨j6,0,none⟩) (Kd.aG qa.out (fun k_ hk=>(⟨hk,hk.2.2.1⟩:_∧k_≠j6))) (fun _ hk=>hk.2) (.int .i64 jo)) (fun _ hk=>hk.2) (.int .i64 0)) (fun _ hk=>hk.2) (.slice qy ql.length qz)) (fun _ hk=>hk.1.1)),rA⟩
      rw [if_neg qo] at H
      have qw:decide (0≤q0)=false:=decide_eq_false qo
      clear qo
      obtain ⟨qm,hy_⟩:∃ y_:List (S32),y_=(([(⟨jK,js,jp⟩:S32),(⟨jR,jv,jq⟩:S32)]:List (S32))):=⟨_,rfl⟩
      replace H:(some (jo,0,qm))=some (r1,r2,r3):=rx_
      have qb:=am hy_
      clear hy_
      simp only [Option.some.injEq,Prod.mk.injEq] at H
      obtain ⟨rfl,rfl,rfl⟩:=H
      have ZL:=jS.out
      have ZM:=jT.out
      have ZN:=je.out
      have ZO:=jl.out
      have ZP:=jg.out
      have ZQ:=jm.out
      obtain ⟨JO,JP,JQ,JR,JS,JT⟩:=gF ja.out
      have ZR:=jj.out
      have ZS:=jc.out
      have ZT:=ji.out
      have ZU:=jh.out
      obtain ⟨JU,JV,JW,JX,JY,JZ⟩:=gF jb.out
      have ZV:=jk.out
      have ZW:=jf.out
      obtain ⟨Q0,Q1,Q2,Q3,Q4,Q5⟩:=gF jd.out
      go_wp2_with (first|((with_reducible refine aN (f:=94) rfl ?_);refine gl_ 39 Try.func94 #[.int .i64 jo, .int .i64 js, .int .i64 jv] ?_;(with_reducible refine (nS.calls jo js jv q0 _ QW.out).mono ?_);rintro e w' ⟨rfl,⟨nd,rfl⟩⟩;refine ⟨_,rfl,?_⟩;(try (rw [oU wc];generalize hq_:World.drewN wc _=wc;replace jD:Aside0 (Kd.N k32 32 wc w.heap.size (fun k_=>(w.heap.size≤k_)∧some k_≠(.slice jH jq.length jI:Value).ownBlock∧k_≠j8∧k_≠j6∧k_≠j3∧k_≠j4) (.slice jF jp.length jG) jp):=⟨by rw [← hq_];exact (aN_ jD.out)⟩;replace jE:Aside0 (Kd.N k32 32 wc w.heap.size (fun k_=>(w.heap.size≤k_)∧some k_≠(.slice jF jp.length jG:Value).ownBlock∧k_≠j8∧k_≠j6∧k_≠j3∧k_≠j4) (.slice jH jq.length jI) jq):=⟨by rw [← hq_];exact (aN_ jE.out)⟩;replace ja:Aside0 (wc.heap[j8]?=some (.cells #[.int .i64 jo, .int .i64 jr, .slice (some j5) j9.length jt] 32 (0,0))):=⟨by rw [← hq_];exact (aG_ ja.out)⟩;replace j7:Aside0 (wc.heap[j6]?=some (.cells #[.int .i64 0, .int .i64 0, .slice none 0 0] 32 (0,0))):=⟨by rw [← hq_];exact (aG_ j7.out)⟩;replace jb:Aside0 (wc.heap[j3]?=some (.cells #[.int .i64 jK, .int .i64 js, .slice jF jp.length jG] 32 (0,0))):=⟨by rw [← hq_];exact (aG_ jb.out)⟩;replace jd:Aside0 (wc.heap[j4]?=some (.cells #[.int .i64 jR, .int .i64 jv, .slice jH jq.length jI] 32 (0,0))):=⟨by rw [← hq_];exact (aG_ jd.out)⟩;replace HB:Aside0 (Below w.heap.size w wc):=⟨by rw [← hq_];exact rA⟩;clear hq_;obtain ⟨Q6,Q7⟩:=mM ja.out;have Q8:wc.cell? ⟨j8,1,none⟩=some (.int .i64 jr):=(aC ja.out 1).trans rfl;have Q9:=aU ja.out 1;have Qa:wc.cell? ⟨j8,2,none⟩=some (.slice (some j5) j9.length jt):=(aC ja.out 2).trans rfl;have Qb:=aU ja.out 2;obtain ⟨qA,qB⟩:=mM j7.out;have qC:wc.cell? ⟨j6,1,none⟩=some (.int .i64 0):=(aC j7.out 1).trans rfl;have qD:=aU j7.out 1;have qE:wc.cell? ⟨j6,2,none⟩=some (.slice none 0 0):=(aC j7.out 2).trans rfl;have qF:=aU j7.out 2;obtain ⟨qG,qH⟩:=mM jb.out;have qI:wc.cell? ⟨j3,1,none⟩=some (.int .i64 js):=(aC jb.out 1).trans rfl;have qJ:=aU jb.out 1;have qK:wc.cell? ⟨j3,2,none⟩=some (.slice jF jp.length jG):=(aC jb.out 2).trans rfl;have qL:=aU jb.out 2;obtain ⟨qM,qN⟩:=mM jd.out;have qO:wc.cell? ⟨j4,1,none⟩=some (.int .i64 jv):=(aC jd.out 1).trans rfl;have qP:=aU jd.out 1;have qQ:wc.cell? ⟨j4,2,none⟩=some (.slice jH jq.length jI):=(aC jd.out 2).trans rfl;have qR:=aU jd.out 2)))|((with_reducible refine cZ (N:=52) rfl ?_);refine Kd.oV k32 _ 32 rfl (N':=52) rfl (xs:=([(⟨jK,js,jp⟩:S32),(⟨jR,jv,jq⟩:S32)]:List (S32))) (inner:=[.int .i64 jK, .int .i64 js, .slice jF jp.length jG, .int .i64 jR, .int .i64 jv, .slice jH jq.length jI]) (ok:=(fun k_=>(w.heap.size≤k_)∧k_≠j8∧k_≠j6∧k_≠j3∧k_≠j4)) (okp:=(fun k_=>(w.heap.size≤k_)∧k_≠j8∧k_≠j6∧k_≠j3∧k_≠j4)) rn_ ?hp (fun _ hk=>hk) ((show ∀ k_,wc.heap.size≤k_→(fun k_=>(w.heap.size≤k_)∧k_≠j8∧k_≠j6∧k_≠j3∧k_≠j4) k_ from fun k_ hk=>⟨(Nat.le_trans (aJ rA) hk),fJ ja.out k_ hk,fJ j7.out k_ hk,fJ jb.out k_ hk,fJ jd.out k_ hk⟩) _ (Nat.le_refl _)) (Below.refl _ _) (Nat.le_refl _) (by simp) ?_;(case hp=>exact (eX.c3 (show Kd.FK k32 _ _ (⟨jK,js,jp⟩:S32) [.int .i64 jK, .int .i64 js, .slice jF jp.length jG] from (uI _ _ (⟨jK,js,jp⟩:S32) (Kd.bQ (Kd.aG (ok':=(fun k_=>(w.heap.size≤k_)∧k_≠j8∧k_≠j6∧k_≠j3∧k_≠j4)) (jD.out) (fun k_ hk=>⟨hk.1,⟨hk.2.2.1,⟨hk.2.2.2.1,⟨hk.2.2.2.2.1,hk.2.2.2.2.2⟩⟩⟩⟩))).2.1 (Kd.N_F (Kd.aG (ok':=(fun k_=>(w.heap.size≤k_)∧k_≠j8∧k_≠j6∧k_≠j3∧k_≠j4)) (jD.out) (fun k_ hk=>⟨hk.1,⟨hk.2.2.1,⟨hk.2.2.2.1,⟨hk.2.2.2.2.1,hk.2.2.2.2.2⟩⟩⟩⟩))))) (eX.c3 (show Kd.FK k32 _ _ (⟨jR,jv,jq⟩:S32) [.int .i64 jR, .int .i64 jv, .slice jH jq.length jI] from (uI _ _ (⟨jR,jv,jq⟩:S32) (Kd.bQ (Kd.aG (ok':=(fun k_=>(w.heap.size≤k_)∧k_≠j8∧k_≠j6∧k_≠j3∧k_≠j4)) (jE.out) (fun k_ hk=>⟨hk.1,⟨hk.2.2.1,⟨hk.2.2.2.1,⟨hk.2.2.2.2.1,hk.2.2.2.2.2⟩⟩⟩⟩))).2.1 (Kd.N_F (Kd.aG (ok':=(fun k_=>(w.heap.size≤k_)∧k_≠j8∧k_≠j6∧k_≠j3∧k_≠j4)) (jE.out) (fun k_ hk=>⟨hk.1,⟨hk.2.2.1,⟨hk.2.2.2.1,⟨hk.2.2.2.2.1,hk.2.2.2.2.2⟩⟩⟩⟩))))) (eX.none _ _))));intro Yo Ys ho80 hb hg_ hnew_;clear hg_ hnew_;(first|rw [← qb.out] at ho80|(simp only [Int.reduceToNat] at ho80;rw [← qb.out] at ho80));have qc:=am (Kd.dF ho80 (aJ rA));replace ja:=bbP ja hb;replace j7:=bbP j7 hb;replace jb:=bbP jb hb;replace jd:=bbP jd hb;replace HB:=am (aD rA hb);clear jD jE hb ho80;obtain ⟨qS,qT,QY⟩:=Kd.dG qc.out;subst QY;obtain ⟨Qc,Qd,Qe,Qf,Qg,Qh⟩:=gF j7.out))
      refine bodyPost_ret (results_cell_row rfl _ _ j6 32 #[.int .i64 jo, .int .i64 0, .slice qS qm.length qT] (0,0) _ rfl (aM (aM (aM j7.out 0 _ rfl) 1 _ rfl) 2 _ rfl) Try.underlying32 rfl (by kernel_rfl)) rfl ?_
      exact ⟨_,iI,eO (Kd.aG (Kd.aT (p:=⟨j6,2,none⟩) (Kd.aT (p:=⟨j6,1,none⟩) (Kd.aT (p:=⟨j6,0,none⟩) (Kd.aG qc.out (fun k_ hk=>(⟨hk,hk.2.2.1⟩:_∧k_≠j6))) (fun _ hk=>hk.2) (.int .i64 jo)) (fun _ hk=>hk.2) (.int .i64 0)) (fun _ hk=>hk.2) (.slice qS qm.length qT)) (fun _ hk=>hk.1.1)),rA⟩
     replace zf:=Bool.eq_false_iff.mpr zf
     subst zf
     rw [if_neg (show ¬ (false=true) by decide)] at H
     obtain ⟨qn,hy_⟩:∃ y_:List (S32),y_=(([(⟨jK,js,jp⟩:S32),(⟨jR,jv,jq⟩:S32)]:List (S32))):=⟨_,rfl⟩
     replace H:(some (jo,0,qn))=some (r1,r2,r3):=rx_
     have qd:=am hy_
     clear hy_
     simp only [Option.some.injEq,Prod.mk.injEq] at H
     obtain ⟨rfl,rfl,rfl⟩:=H
     have ZX:=jS.out
     have ZY:=jT.out
     have ZZ:=je.out
     have Y0:=jl.out
     have Y1:=jg.out
     have Y2:=jm.out
     obtain ⟨Qi,Qj,Qk,Ql,Qm,Qn⟩:=gF ja.out
     have Y3:=jj.out
     have Y4:=jc.out
     have Y5:=ji.out
     have Y6:=jh.out
     obtain ⟨Qo,Qp,Qq,Qr,Qs,Qt⟩:=gF jb.out
     have Y7:=jk.out
     have Y8:=jf.out
     obtain ⟨Qu,Qv,Qw,Qx,Qy,Qz⟩:=gF jd.out
     go_wp2_with (first|((with_reducible refine cZ (N:=52) rfl ?_);refine Kd.oV k32 _ 32 rfl (N':=52) rfl (xs:=([(⟨jK,js,jp⟩:S32),(⟨jR,jv,jq⟩:S32)]:List (S32))) (inner:=[.int .i64 jK, .int .i64 js, .slice jF jp.length jG, .int .i64 jR, .int .i64 jv, .slice jH jq.length jI]) (ok:=(fun k_=>(w.heap.size≤k_)∧k_≠j8∧k_≠j6∧k_≠j3∧k_≠j4)) (okp:=(fun k_=>(w.heap.size≤k_)∧k_≠j8∧k_≠j6∧k_≠j3∧k_≠j4)) rn_ ?hp (fun _ hk=>hk) ((show ∀ k_,wc.heap.size≤k_→(fun k_=>(w.heap.size≤k_)∧k_≠j8∧k_≠j6∧k_≠j3∧k_≠j4) k_ from fun k_ hk=>⟨(Nat.le_trans (aJ rA) hk),fJ ja.out k_ hk,fJ j7.out k_ hk,fJ jb.out k_ hk,fJ jd.out k_ hk⟩) _ (Nat.le_refl _)) (Below.refl _ _) (Nat.le_refl _) (by simp) ?_;(case hp=>exact (eX.c3 (show Kd.FK k32 _ _ (⟨jK,js,jp⟩:S32) [.int .i64 jK, .int .i64 js, .slice jF jp.length jG] from (uI _ _ (⟨jK,js,jp⟩:S32) (Kd.bQ (Kd.aG (ok':=(fun k_=>(w.heap.size≤k_)∧k_≠j8∧k_≠j6∧k_≠j3∧k_≠j4)) (jD.out) (fun k_ hk=>⟨hk.1,⟨hk.2.2.1,⟨hk.2.2.2.1,⟨hk.2.2.2.2.1,hk.2.2.2.2.2⟩⟩⟩⟩))).2.1 (Kd.N_F (Kd.aG (ok':=(fun k_=>(w.heap.size≤k_)∧k_≠j8∧k_≠j6∧k_≠j3∧k_≠j4)) (jD.out) (fun k_ hk=>⟨hk.1,⟨hk.2.2.1,⟨hk.2.2.2.1,⟨hk.2.2.2.2.1,hk.2.2.2.2.2⟩⟩⟩⟩))))) (eX.c3 (show Kd.FK k32 _ _ (⟨jR,jv,jq⟩:S32) [.int .i64 jR, .int .i64 jv, .slice jH jq.length jI] from (uI _ _ (⟨jR,jv,jq⟩:S32) (Kd.bQ (Kd.aG (ok':=(fun k_=>(w.heap.size≤k_)∧k_≠j8∧k_≠j6∧k_≠j3∧k_≠j4)) (jE.out) (fun k_ hk=>⟨hk.1,⟨hk.2.2.1,⟨hk.2.2.2.1,⟨hk.2.2.2.2.1,hk.2.2.2.2.2⟩⟩⟩⟩))).2.1 (Kd.N_F (Kd.aG (ok':=(fun k_=>(w.heap.size≤k_)∧k_≠j8∧k_≠j6∧k_≠j3∧k_≠j4)) (jE.out) (fun k_ hk=>⟨hk.1,⟨hk.2.2.1,⟨hk.2.2.2.1,⟨hk.2.2.2.2.1,hk.2.2.2.2.2⟩⟩⟩⟩))))) (eX.none _ _))));intro Yp Yt ho93 hb hg_ hnew_;clear hg_ hnew_;(first|rw [← qd.out] at ho93|(simp only [Int.reduceToNat] at ho93;rw [← qd.out] at ho93));have qe:=am (Kd.dF ho93 (aJ rA));replace ja:=bbP ja hb;replace j7:=bbP j7 hb;replace jb:=bbP jb hb;replace jd:=bbP jd hb;replace HB:=am (aD rA hb);clear jD jE hb ho93;obtain ⟨qU,qV,QZ⟩:=Kd.dG qe.out;subst QZ;obtain ⟨QA,QB,QC,QD,QE,QF⟩:=gF j7.out))
     refine bodyPost_ret (results_cell_row rfl _ _ j6 32 #[.int .i64 jo, .int .i64 0, .slice qU qn.length qV] (0,0) _ rfl (aM (aM (aM j7.out 0 _ rfl) 1 _ rfl) 2 _ rfl) Try.underlying32 rfl (by kernel_rfl)) rfl ?_
     exact ⟨_,iI,eO (Kd.aG (Kd.aT (p:=⟨j6,2,none⟩) (Kd.aT (p:=⟨j6,1,none⟩) (Kd.aT (p:=⟨j6,0,none⟩) (Kd.aG qe.out (fun k_ hk=>(⟨hk,hk.2.2.1⟩:_∧k_≠j6))) (fun _ hk=>hk.2) (.int .i64 jo)) (fun _ hk=>hk.2) (.int .i64 0)) (fun _ hk=>hk.2) (.slice qU qn.length qV)) (fun _ hk=>hk.1.1)),rA⟩
  rw [if_neg c10] at H
  exact absurd H (by simp)
 rw [if_neg c8] at H
 exact absurd H (by simp)
end Go.Proofs.Ytodhbeeibagiaaa.PA

