/- Part 2. -/
import Derived.Test.YtodhbeeibagiaaaQFnProgramFoldTwice0
import Derived.Test.YtodhbeeibagiaaaProg
import Derived.Below
import Derived.Deep.Draws
import Derived.Deep.AppendLies
import Derived.Maps.AppendAt
import Derived.OwnWalk
import Derived.Laws.BytesArg
import Derived.Laws.MakeOwn
import Derived.Laws.OwnMore
import Derived.Deep.OwnRows
import Derived.Tactics
import Derived.Lib.ConvBytes
import Derived.Laws.Slices
import Derived.WalkKit
import Derived.KernelRfl
import Derived.RowKit3
import Derived.Deep.LoopGhost
import Derived.Deep.QuietTactic
import Derived.BigQuiet
import Derived.WideLaws
import Derived.Deep.DeepCutAuto
import Derived.Deep.CutBlock
import Derived.Deep.RegionHeld3
import Derived.Laws.Rows
import Derived.Lib.AppendStr
import Derived.ArgAppend
import Derived.Laws.IdiomCopy
import Derived.OrdersHeld
import Derived.Laws.BitsLemmas
import Derived.RowKit
import Derived.Lib.SliceRun
set_option maxHeartbeats 8000000
set_option maxRecDepth 100000
namespace Go.Proofs.Ytodhbeeibagiaaa.PA
open Go.RowKit Go.Proofs.YtodhbeeibagiaaaW.PrintWords Go.Proofs.YtodhbeeibagiaaaW.PrintLast Go.Proofs.YtodhbeeibagiaaaW.PrintMore
attribute [local go_sem] max2_int min2_int max_two min_two max_three min_three max_four min_four
set_option linter.unusedVariables false
set_option linter.unusedSimpArgs false
def aCm:Option Int→Value
 |none=> .nilIface
 |some c=> .iface 0 (.int .i64 c)
theorem nG:aCm none= .nilIface:=rfl
theorem nH (c:Int):aCm (some c)= .iface 0 (.int .i64 c):=rfl
theorem info3:(Try.prog.info? 3).map (fun i=>(i.zero,i.size,i.bytes))=some (some (.int .i64 0),1,8):=by kernel_rfl
theorem info5:(Try.prog.info? 5).map (fun i=>(i.zero,i.size,i.bytes))=some (some (.int .u8 0),1,1):=by kernel_rfl
theorem ET:(Try.prog.info? 23).map (fun i=>(i.zero,i.size,i.bytes))=some (some (.slice none 0 0),1,24):=by kernel_rfl
theorem tN:(Try.prog.info? 35).map (fun i=>(i.zero,i.size,i.bytes))=some (some (.agg #[(.int .i64 0),(.int .i64 0),(.int .i64 0),(.int .i64 0),(.int .i64 0),(.slice none 0 0),(.slice none 0 0),(.slice none 0 0)]),8,112):=by kernel_rfl
structure S32 where
 f0:Int
 f1:Int
 f2:(List S32)
def z32:S32:=⟨(0:Int),(0:Int),([]:List S32)⟩
def F32 (d:Kd S32):Kd S32:=Kd.iso (Kd.pair (Kd.int .i64) (Kd.pair (Kd.int .i64) (Kd.slice 32 d))) (fun x:S32=>(x.f0,x.f1,x.f2))
theorem mono32:Kd.yE F32:=Kd.mono_iso _ (Kd.mono_pair (Kd.mono_const _) (Kd.mono_pair (Kd.mono_const _) (Kd.mono_slice 32 Kd.mono_id)))
theorem aCo:Kd.Sub F32 [32]:=Kd.PZ _ (Kd.tY (Kd.sub_const _ (by decide)) (Kd.tY (Kd.sub_const _ (by decide)) (Kd.CG 32 (by decide) Kd.OI)))
theorem aCq:∀ n,(Kd.upto F32 3 [32] n).sz=3:=Kd.RB (fun _=>rfl)
def k32:Kd S32:=Kd.fix F32 3 [32] aCq (Kd.OJ aCo)
theorem TR:Kd.Heap k32:=Kd.LX (fun _ h_=>Kd.LY _ (Kd.rU (Kd.wK .i64) (Kd.rU (Kd.wK .i64) (Kd.yO 32 h_))))
theorem MB {w:World} {x:S32} {cs:List Value} (h:k32.K w x cs):∃ A2 c2,cs=[.int .i64 x.f0, .int .i64 x.f1, .slice A2 x.f2.length c2]∧x.f2.length≤c2∧k32.C w A2 x.f2.length x.f2:=by
 obtain ⟨n,h⟩:=h
 cases n with
 |zero=>exact h.elim
 |succ n=>
  obtain ⟨_,_,rfl,rfl,⟨_,_,rfl,rfl,⟨A2,c2,rfl,l2,g2⟩⟩⟩:=h
  exact ⟨A2,c2,rfl,l2,Kd.TL g2⟩
theorem TS (w:World) (x:S32) {A2:Option Addr} {c2:Nat} (l2:x.f2.length≤c2) (g2:k32.C w A2 x.f2.length x.f2):k32.K w x [.int .i64 x.f0, .int .i64 x.f1, .slice A2 x.f2.length c2]:=by
 obtain ⟨n2,q2⟩:=Kd.yM mono32 g2
 have r2:=Kd.CK mono32 aCq (show n2≤n2 by omega) q2
 exact ⟨n2 + 1,⟨[.int .i64 x.f0],[.int .i64 x.f1, .slice A2 x.f2.length c2],rfl,rfl,⟨[.int .i64 x.f1],[.slice A2 x.f2.length c2],rfl,rfl,⟨A2,c2,rfl,l2,r2⟩⟩⟩⟩
theorem uH (W:World) (ok:Nat→Prop) (x:S32) {A2:Option Addr} {c2:Nat} (l2:x.f2.length≤c2) (g2:Kd.F k32 W ok A2 x.f2.length x.f2):Kd.FK k32 W ok x [.int .i64 x.f0, .int .i64 x.f1, .slice A2 x.f2.length c2]:=fun W2 hW=>TS W2 x l2 (g2 W2 hW)
def aY (xs:List S32) (i:Int):S32:=xs.getD i.toNat z32
theorem rC {w:World} {A:Option Addr} {n:Nat} {xs:List S32} (h:Kd.C k32 w A n xs) (i:Int) (h0:0≤i) (h1:i < n):∃ ad A2 c2,A=some ad∧w.cell? (ad.add (i.toNat * 3))=some (.int .i64 (aY xs i).f0)∧w.cell? ⟨(ad.add (i.toNat * 3)).block,(ad.add (i.toNat * 3)).off + 1,none⟩=some (.int .i64 (aY xs i).f1)∧w.cell? ⟨(ad.add (i.toNat * 3)).block,(ad.add (i.toNat * 3)).off + 2,none⟩=some (.slice A2 (aY xs i).f2.length c2)∧(aY xs i).f2.length≤c2∧k32.C w A2 (aY xs i).f2.length (aY xs i).f2:=by
 obtain ⟨ad,c,e,_,hK,hc0⟩:=Kd.GN h z32 i h0 h1
 have hc:∀ j u,c[j]?=some u→w.cell? (ad.add (i.toNat * 3 + j))=some u:=hc0
 obtain ⟨A2,c2,rfl,l2,g2⟩:=MB hK
 exact ⟨ad,A2,c2,e,hc 0 _ rfl,by rw [← kS _ _ 1 (by omega)];exact hc 1 _ rfl,by rw [← kS _ _ 2 (by omega)];exact hc 2 _ rfl,l2,g2⟩
structure S35 where
 f0:Int
 f1:Int
 f2:Int
 f3:S32
 f4:(List S35)
 f5:(List S35)
def z35:S35:=⟨(0:Int),(0:Int),(0:Int),z32,([]:List S35),([]:List S35)⟩
def F35 (d:Kd S35):Kd S35:=Kd.iso (Kd.pair (Kd.int .i64) (Kd.pair (Kd.int .i64) (Kd.pair (Kd.int .i64) (Kd.pair k32 (Kd.pair (Kd.slice 35 d) (Kd.slice 35 d)))))) (fun x:S35=>(x.f0,x.f1,x.f2,x.f3,x.f4,x.f5))
theorem mono35:Kd.yE F35:=Kd.mono_iso _ (Kd.mono_pair (Kd.mono_const _) (Kd.mono_pair (Kd.mono_const _) (Kd.mono_pair (Kd.mono_const _) (Kd.mono_pair (Kd.mono_const _) (Kd.mono_pair (Kd.mono_slice 35 Kd.mono_id) (Kd.mono_slice 35 Kd.mono_id))))))
theorem aCp:Kd.Sub F35 [32,35]:=Kd.PZ _ (Kd.tY (Kd.sub_const _ (by decide)) (Kd.tY (Kd.sub_const _ (by decide)) (Kd.tY (Kd.sub_const _ (by decide)) (Kd.tY (Kd.sub_const _ (by decide)) (Kd.tY (Kd.CG 35 (by decide) Kd.OI) (Kd.CG 35 (by decide) Kd.OI))))))
theorem aCb:∀ n,(Kd.upto F35 8 [32,35] n).sz=8:=Kd.RB (fun _=>rfl)
def k35:Kd S35:=Kd.fix F35 8 [32,35] aCb (Kd.OJ aCp)
theorem TT:Kd.Heap k35:=Kd.LX (fun _ h_=>Kd.LY _ (Kd.rU (Kd.wK .i64) (Kd.rU (Kd.wK .i64) (Kd.rU (Kd.wK .i64) (Kd.rU TR (Kd.rU (Kd.yO 35 h_) (Kd.yO 35 h_)))))))
theorem wL {w:World} {x:S35} {cs:List Value} (h:k35.K w x cs):∃ A5 c5 A6 c6 A7 c7,cs=[.int .i64 x.f0, .int .i64 x.f1, .int .i64 x.f2, .int .i64 x.f3.f0, .int .i64 x.f3.f1, .slice A5 x.f3.f2.length c5, .slice A6 x.f4.length c6, .slice A7 x.f5.length c7]∧x.f3.f2.length≤c5∧k32.C w A5 x.f3.f2.length x.f3.f2∧x.f4.length≤c6∧k35.C w A6 x.f4.length x.f4∧x.f5.length≤c7∧k35.C w A7 x.f5.length x.f5:=by
 obtain ⟨n,h⟩:=h
 cases n with
 |zero=>exact h.elim
 |succ n=>
  obtain ⟨_,_,rfl,rfl,⟨_,_,rfl,rfl,⟨_,_,rfl,rfl,⟨_,_,rfl,s3,⟨_,_,rfl,⟨A6,c6,rfl,l6,g6⟩,⟨A7,c7,rfl,l7,g7⟩⟩⟩⟩⟩⟩:=h
  obtain ⟨A5,c5,rfl,l5,g5⟩:=MB s3
  exact ⟨A5,c5,A6,c6,A7,c7,rfl,l5,g5,l6,Kd.TL g6,l7,Kd.TL g7⟩
theorem aBv (w:World) (x:S35) {A5:Option Addr} {c5:Nat} (l5:x.f3.f2.length≤c5) (g5:k32.C w A5 x.f3.f2.length x.f3.f2) {A6:Option Addr} {c6:Nat} (l6:x.f4.length≤c6) (g6:k35.C w A6 x.f4.length x.f4) {A7:Option Addr} {c7:Nat} (l7:x.f5.length≤c7) (g7:k35.C w A7 x.f5.length x.f5):k35.K w x [.int .i64 x.f0, .int .i64 x.f1, .int .i64 x.f2, .int .i64 x.f3.f0, .int .i64 x.f3.f1, .slice A5 x.f3.f2.length c5, .slice A6 x.f4.length c6, .slice A7 x.f5.length c7]:=by
 obtain ⟨n6,q6⟩:=Kd.yM mono35 g6
 obtain ⟨n7,q7⟩:=Kd.yM mono35 g7
 have r6:=Kd.CK mono35 aCb (show n6≤(max n6 n7) by omega) q6
 have r7:=Kd.CK mono35 aCb (show n7≤(max n6 n7) by omega) q7
 exact ⟨(max n6 n7) + 1,⟨[.int .i64 x.f0],[.int .i64 x.f1, .int .i64 x.f2, .int .i64 x.f3.f0, .int .i64 x.f3.f1, .slice A5 x.f3.f2.length c5, .slice A6 x.f4.length c6, .slice A7 x.f5.length c7],rfl,rfl,⟨[.int .i64 x.f1],[.int .i64 x.f2, .int .i64 x.f3.f0, .int .i64 x.f3.f1, .slice A5 x.f3.f2.length c5, .slice A6 x.f4.length c6, .slice A7 x.f5.length c7],rfl,rfl,⟨[.int .i64 x.f2],[.int .i64 x.f3.f0, .int .i64 x.f3.f1, .slice A5 x.f3.f2.length c5, .slice A6 x.f4.length c6, .slice A7 x.f5.length c7],rfl,rfl,⟨[.int .i64 x.f3.f0, .int .i64 x.f3.f1, .slice A5 x.f3.f2.length c5],[.slice A6 x.f4.length c6, .slice A7 x.f5.length c7],rfl,(TS w x.f3 l5 g5),⟨[.slice A6 x.f4.length c6],[.slice A7 x.f5.length c7],rfl,⟨A6,c6,rfl,l6,r6⟩,⟨A7,c7,rfl,l7,r7⟩⟩⟩⟩⟩⟩⟩
theorem RO {W:World} {ok:Nat→Prop} {x:S35} {cs:List Value} (h:Kd.FK k35 W ok x cs):∃ A5 c5 A6 c6 A7 c7,cs=[.int .i64 x.f0, .int .i64 x.f1, .int .i64 x.f2, .int .i64 x.f3.f0, .int .i64 x.f3.f1, .slice A5 x.f3.f2.length c5, .slice A6 x.f4.length c6, .slice A7 x.f5.length c7]∧x.f3.f2.length≤c5∧Kd.F k32 W ok A5 x.f3.f2.length x.f3.f2∧x.f4.length≤c6∧Kd.F k35 W ok A6 x.f4.length x.f4∧x.f5.length≤c7∧Kd.F k35 W ok A7 x.f5.length x.f5:=by
 obtain ⟨A5,c5,A6,c6,A7,c7,rfl,l5,_,l6,_,l7,_⟩:=wL (Kd.oL h)
 exact ⟨A5,c5,A6,c6,A7,c7,rfl,l5,(fun W' hW=>by obtain ⟨j3,j4,j5,j6,j7,j8,he,j9,g5_,ja,g6_,jb,g7_⟩:=wL (h W' hW);injection (Option.some.inj (show some (Value.slice A5 x.f3.f2.length c5)=some (Value.slice j3 x.f3.f2.length j4) from congrArg (fun l=>l[5]?) he)) with ha_ _ _;rw [ha_];exact g5_),l6,(fun W' hW=>by obtain ⟨j3,j4,j5,j6,j7,j8,he,j9,g5_,ja,g6_,jb,g7_⟩:=wL (h W' hW);injection (Option.some.inj (show some (Value.slice A6 x.f4.length c6)=some (Value.slice j5 x.f4.length j6) from congrArg (fun l=>l[6]?) he)) with ha_ _ _;rw [ha_];exact g6_),l7,(fun W' hW=>by obtain ⟨j3,j4,j5,j6,j7,j8,he,j9,g5_,ja,g6_,jb,g7_⟩:=wL (h W' hW);injection (Option.some.inj (show some (Value.slice A7 x.f5.length c7)=some (Value.slice j7 x.f5.length j8) from congrArg (fun l=>l[7]?) he)) with ha_ _ _;rw [ha_];exact g7_)⟩
theorem kY (W:World) (ok:Nat→Prop) (x:S35) {A5:Option Addr} {c5:Nat} (l5:x.f3.f2.length≤c5) (g5:Kd.F k32 W ok A5 x.f3.f2.length x.f3.f2) {A6:Option Addr} {c6:Nat} (l6:x.f4.length≤c6) (g6:Kd.F k35 W ok A6 x.f4.length x.f4) {A7:Option Addr} {c7:Nat} (l7:x.f5.length≤c7) (g7:Kd.F k35 W ok A7 x.f5.length x.f5):Kd.FK k35 W ok x [.int .i64 x.f0, .int .i64 x.f1, .int .i64 x.f2, .int .i64 x.f3.f0, .int .i64 x.f3.f1, .slice A5 x.f3.f2.length c5, .slice A6 x.f4.length c6, .slice A7 x.f5.length c7]:=fun W2 hW=>aBv W2 x l5 (g5 W2 hW) l6 (g6 W2 hW) l7 (g7 W2 hW)
def aC (xs:List S35) (i:Int):S35:=xs.getD i.toNat z35
theorem uS {w:World} {A:Option Addr} {n:Nat} {xs:List S35} (h:Kd.C k35 w A n xs) (i:Int) (h0:0≤i) (h1:i < n):∃ ad A5 c5 A6 c6 A7 c7,A=some ad∧w.cell? (ad.add (i.toNat * 8))=some (.int .i64 (aC xs i).f0)∧w.cell? ⟨(ad.add (i.toNat * 8)).block,(ad.add (i.toNat * 8)).off + 1,none⟩=some (.int .i64 (aC xs i).f1)∧w.cell? ⟨(ad.add (i.toNat * 8)).block,(ad.add (i.toNat * 8)).off + 2,none⟩=some (.int .i64 (aC xs i).f2)∧w.cell? ⟨(ad.add (i.toNat * 8)).block,(ad.add (i.toNat * 8)).off + 3,none⟩=some (.int .i64 (aC xs i).f3.f0)∧w.cell? ⟨(ad.add (i.toNat * 8)).block,(ad.add (i.toNat * 8)).off + 4,none⟩=some (.int .i64 (aC xs i).f3.f1)∧w.cell? ⟨(ad.add (i.toNat * 8)).block,(ad.add (i.toNat * 8)).off + 5,none⟩=some (.slice A5 (aC xs i).f3.f2.length c5)∧w.cell? ⟨(ad.add (i.toNat * 8)).block,(ad.add (i.toNat * 8)).off + 6,none⟩=some (.slice A6 (aC xs i).f4.length c6)∧w.cell? ⟨(ad.add (i.toNat * 8)).block,(ad.add (i.toNat * 8)).off + 7,none⟩=some (.slice A7 (aC xs i).f5.length c7)∧(aC xs i).f3.f2.length≤c5∧k32.C w A5 (aC xs i).f3.f2.length (aC xs i).f3.f2∧(aC xs i).f4.length≤c6∧k35.C w A6 (aC xs i).f4.length (aC xs i).f4∧(aC xs i).f5.length≤c7∧k35.C w A7 (aC xs i).f5.length (aC xs i).f5:=by
 obtain ⟨ad,c,e,_,hK,hc0⟩:=Kd.GN h z35 i h0 h1
 have hc:∀ j u,c[j]?=some u→w.cell? (ad.add (i.toNat * 8 + j))=some u:=hc0
 obtain ⟨A5,c5,A6,c6,A7,c7,rfl,l5,g5,l6,g6,l7,g7⟩:=wL hK
 exact ⟨ad,A5,c5,A6,c6,A7,c7,e,hc 0 _ rfl,by rw [← kS _ _ 1 (by omega)];exact hc 1 _ rfl,by rw [← kS _ _ 2 (by omega)];exact hc 2 _ rfl,by rw [← kS _ _ 3 (by omega)];exact hc 3 _ rfl,by rw [← kS _ _ 4 (by omega)];exact hc 4 _ rfl,by rw [← kS _ _ 5 (by omega)];exact hc 5 _ rfl,by rw [← kS _ _ 6 (by omega)];exact hc 6 _ rfl,by rw [← kS _ _ 7 (by omega)];exact hc 7 _ rfl,l5,g5,l6,g6,l7,g7⟩
def fJ (xs:List (List S35)) (i:Int):(List S35):=xs.getD i.toNat ([]:List S35)
theorem sF {w:World} {A:Option Addr} {n:Nat} {xs:List (List S35)} (h:Kd.C (Kd.slice 35 k35) w A n xs) (i:Int) (h0:0≤i) (h1:i < n):∃ ad A0 c0,A=some ad∧w.cell? (ad.add i.toNat)=some (.slice A0 (fJ xs i).length c0)∧(fJ xs i).length≤c0∧k35.C w A0 (fJ xs i).length (fJ xs i):=by
 obtain ⟨ad,c,e,_,hK,hc0⟩:=Kd.GN h ([]:List S35) i h0 h1
 have hc:∀ j u,c[j]?=some u→w.cell? (ad.add (i.toNat * 1 + j))=some u:=hc0
 obtain ⟨A0,c0,rfl,l0,g0⟩:=hK
 exact ⟨ad,A0,c0,e,by have hq:=hc 0 _ rfl;rwa [Nat.mul_one,Nat.add_zero] at hq,l0,g0⟩
theorem nX {p:Prop} (h:p:=by (try simp only [List.map_toArray,List.map_cons,List.map_nil]);first|done|rfl|(simp only [List.length_drop,List.length_take];rfl)):p:=h
theorem gK {p:Prop} (h:p:=by repeat (first|(with_reducible first|exact HB.out|apply bO|apply bA|apply bG)|exact HB.out)):p:=h
theorem fI {p:Prop} (h:p:=by repeat (first|(with_reducible first|exact HK.out|apply aI.xK|apply iZ|apply gW|apply kR)|exact HK.out)):p:=h
theorem gB {p:Prop} (h:p:=by repeat (first|(with_reducible first|exact HI0.out|apply aQ.alloc|apply aQ.drewN|apply aQ.drew|apply aQ.sJ)|exact HI0.out)):p:=h
theorem iT {p:Prop} (h:p:=by repeat (first|(with_reducible first|exact HB.out|apply bO|apply bA|apply bG|refine below_set ?_ (aQ.ge HI0.out))|exact HB.out)):p:=h
theorem kX {p:Prop} (h:p:=by repeat (first|(with_reducible first|exact HB.out|apply bO|apply bA|apply bG|refine below_set ?_ GE99.out)|exact HB.out)):p:=h
theorem nI {p:Prop} (h:p:=by repeat (first|(with_reducible first|exact HK.out|apply aI.xK|apply iZ|apply gW|apply kR|refine iB ?_ GW868.out _|refine iB ?_ GW876.out _)|exact HK.out)):p:=h
theorem rA {p:Prop} (h:p:=by repeat (first|(with_reducible first|exact HB.out|apply bO|apply bA|apply bG|refine below_set ?_ GE99.out|refine below_set ?_ GE100.out|refine below_set ?_ GE111.out|refine below_set ?_ GE112.out)|exact HB.out)):p:=h
theorem lK {p:Prop} (h:p:=by repeat (first|(with_reducible first|exact HB.out|apply bO|apply bA|apply bG|refine below_set ?_ GE128.out|refine below_set ?_ GE133.out|refine below_set ?_ GE138.out)|exact HB.out)):p:=h
theorem lM {p:Prop} (h:p:=by repeat (first|(with_reducible first|exact HK.out|apply aI.xK|apply iZ|apply gW|apply kR|refine iB ?_ GW829.out _|refine iB ?_ GW837.out _)|exact HK.out)):p:=h
theorem lX {p:Prop} (h:p:=by repeat (first|(with_reducible first|exact HI0.out|apply aQ.alloc|apply aQ.drewN|apply aQ.drew|apply aQ.sJ|refine aQ.far ?_ NB0_868.out _|refine aQ.far ?_ NB0_876.out _)|exact HI0.out)):p:=h
theorem kV {p:Prop} (h:p:=by repeat (first|(with_reducible first|exact HB.out|apply bO|apply bA|apply bG|refine below_set ?_ GE65.out)|exact HB.out)):p:=h
theorem mV {p:Prop} (h:p:=by repeat (first|(with_reducible first|exact HI0.out|apply aQ.alloc|apply aQ.drewN|apply aQ.drew|apply aQ.sJ|refine aQ.far ?_ NB0_829.out _|refine aQ.far ?_ NB0_837.out _)|exact HI0.out)):p:=h
theorem iM {p:Prop} (h:p:=by first|rfl|(simp [nG,nH] <;> rfl)|(simp [*,nG,nH] <;> rfl)):p:=h
theorem mM {p:Prop} (h:p:=by repeat (first|(with_reducible first|exact HB.out|apply bO|apply bA|apply bG|refine below_set ?_ GE99.out|refine below_set ?_ GE100.out)|exact HB.out)):p:=h
theorem rJ {p:Prop} (h:p:=by repeat (first|(with_reducible first|exact HB.out|apply bO|apply bA|apply bG|refine below_set ?_ GE94.out|refine below_set ?_ GE95.out|refine below_set ?_ GE108.out|refine below_set ?_ GE113.out)|exact HB.out)):p:=h
theorem mH {p:Prop} (h:p:=by repeat (first|(with_reducible first|exact HB.out|apply bO|apply bA|apply bG|refine below_set ?_ GE43.out)|exact HB.out)):p:=h
theorem mI {p:Prop} (h:p:=by repeat (first|(with_reducible first|exact HB.out|apply bO|apply bA|apply bG|refine below_set ?_ GE57.out)|exact HB.out)):p:=h
theorem oV {p:Prop} (h:p:=by repeat (first|(with_reducible first|exact HB.out|apply bO|apply bA|apply bG|refine below_set ?_ GE99.out|refine below_set ?_ GE100.out|refine below_set ?_ GE111.out)|exact HB.out)):p:=h
theorem oW {p:Prop} (h:p:=by repeat (first|(with_reducible first|exact HB.out|apply bO|apply bA|apply bG|refine below_set ?_ GE99.out|refine below_set ?_ GE100.out|refine below_set ?_ GE112.out)|exact HB.out)):p:=h
theorem pX {p:Prop} (h:p:=by repeat (first|(with_reducible first|exact HB.out|apply bO|apply bA|apply bG|refine below_set ?_ (aQ.ge HI0.out)|refine below_set ?_ GE868.out|refine below_set ?_ GE876.out)|exact HB.out)):p:=h
theorem gM {p:Prop} (h:p:=by repeat (first|exact iX.refl _|apply iX.step)):p:=h
theorem tH {p:Prop} (h:p:=by repeat (first|(with_reducible first|exact HB.out|apply bO|apply bA|apply bG|refine below_set ?_ (aQ.ge HI67.out)|refine below_set ?_ GE66.out|refine below_set ?_ GE72.out)|exact HB.out)):p:=h
theorem uD {p:Prop} (h:p:=by repeat (first|(with_reducible first|exact HB.out|apply bO|apply bA|apply bG|refine below_set ?_ GE22.out)|exact HB.out)):p:=h
theorem pY {p:Prop} (h:p:=by repeat (first|(with_reducible first|exact HK.out|apply aI.xK|apply iZ|apply gW|apply kR|refine iB ?_ GW39.out _)|exact HK.out)):p:=h
theorem oZ {p:Prop} (h:p:=by repeat (first|(with_reducible first|exact HB.out|apply bO|apply bA|apply bG|refine below_set ?_ GE23.out)|exact HB.out)):p:=h
theorem vO {p:Prop} (h:p:=by repeat (first|(with_reducible first|exact HB.out|apply bO|apply bA|apply bG|refine below_set ?_ (aQ.ge HI67.out)|refine below_set ?_ GE66.out|refine below_set ?_ GE72.out|refine below_set ?_ GE117.out)|exact HB.out)):p:=h
theorem uE {p:Prop} (h:p:=by repeat (first|(with_reducible first|exact HI67.out|apply aQ.alloc|apply aQ.drewN|apply aQ.drew|apply aQ.sJ|refine aQ.far ?_ NB67_66.out _|refine aQ.far ?_ NB67_72.out _)|exact HI67.out)):p:=h
theorem vP {p:Prop} (h:p:=by repeat (first|(with_reducible first|exact HI67.out|apply aQ.alloc|apply aQ.drewN|apply aQ.drew|apply aQ.sJ|refine aQ.far ?_ NB67_66.out _|refine aQ.far ?_ NB67_72.out _|refine aQ.far ?_ NB67_117.out _)|exact HI67.out)):p:=h
theorem sV {p:Prop} (h:p:=by repeat (first|(with_reducible first|exact HB.out|apply bO|apply bA|apply bG|refine below_set ?_ GE55.out|refine below_set ?_ GE57.out)|exact HB.out)):p:=h
theorem tJ {p:Prop} (h:p:=by repeat (first|(with_reducible first|exact HB.out|apply bO|apply bA|apply bG|refine below_set ?_ GE49.out|refine below_set ?_ GE50.out)|exact HB.out)):p:=h
theorem tK {p:Prop} (h:p:=by repeat (first|(with_reducible first|exact HI0.out|apply aQ.alloc|apply aQ.drewN|apply aQ.drew|apply aQ.sJ|refine aQ.far ?_ NB0_39.out _)|exact HI0.out)):p:=h
theorem tL {p:Prop} (h:p:=by repeat (first|(with_reducible first|exact HK.out|apply aI.xK|apply iZ|apply gW|apply kR|refine iB ?_ GW48.out _)|exact HK.out)):p:=h
theorem wF {p:Prop} (h:p:=by repeat (first|(with_reducible first|exact HB.out|apply bO|apply bA|apply bG|refine below_set ?_ (aQ.ge HI0.out)|refine below_set ?_ GE829.out|refine below_set ?_ GE837.out)|exact HB.out)):p:=h
theorem xP {p:Prop} (h:p:=by repeat (first|(with_reducible first|exact HB.out|apply bO|apply bA|apply bG|refine below_set ?_ GE128.out|refine below_set ?_ GE133.out|refine below_set ?_ GE138.out|refine below_set ?_ GE162.out)|exact HB.out)):p:=h
theorem uF {p:Prop} (h:p:=by repeat (first|(with_reducible first|exact HK.out|apply aI.xK|apply iZ|apply gW|apply kR|refine iB ?_ GW35.out _)|exact HK.out)):p:=h
theorem wG {p:Prop} (h:p:=by repeat (first|(with_reducible first|exact HB.out|apply bO|apply bA|apply bG|refine below_set ?_ (aQ.ge HI0.out)|refine below_set ?_ GE39.out)|exact HB.out)):p:=h
theorem wH {p:Prop} (h:p:=by repeat (first|(with_reducible first|exact HB.out|apply bO|apply bA|apply bG|refine below_set ?_ (aQ.ge HI0.out)|refine below_set ?_ GE48.out)|exact HB.out)):p:=h
theorem vQ {p:Prop} (h:p:=by repeat (first|(with_reducible first|exact HI0.out|apply aQ.alloc|apply aQ.drewN|apply aQ.drew|apply aQ.sJ|refine aQ.far ?_ NB0_48.out _)|exact HI0.out)):p:=h
theorem vR {p:Prop} (h:p:=by repeat (first|(with_reducible first|exact HI0.out|apply aQ.alloc|apply aQ.drewN|apply aQ.drew|apply aQ.sJ|refine aQ.far ?_ NB0_35.out _)|exact HI0.out)):p:=h
theorem AA {p:Prop} (h:p:=by repeat (first|(with_reducible first|exact HB.out|apply bO|apply bA|apply bG|refine below_set ?_ GE38.out|refine below_set ?_ GE41.out|refine below_set ?_ GE45.out)|exact HB.out)):p:=h
theorem AB {p:Prop} (h:p:=by repeat (first|(with_reducible first|exact HB.out|apply bO|apply bA|apply bG|refine below_set ?_ GE49.out|refine below_set ?_ GE50.out|refine below_set ?_ GE61.out)|exact HB.out)):p:=h
theorem vS {p:Prop} (h:p:=by repeat (first|(with_reducible first|exact HB.out|apply bO|apply bA|apply bG|refine below_set ?_ GE29.out)|exact HB.out)):p:=h
theorem xQ {p:Prop} (h:p:=by repeat (first|(with_reducible first|exact HB.out|apply bO|apply bA|apply bG|refine below_set ?_ GE94.out|refine below_set ?_ GE95.out)|exact HB.out)):p:=h
theorem xR {p:Prop} (h:p:=by repeat (first|(with_reducible first|exact HB.out|apply bO|apply bA|apply bG|refine below_set ?_ GE33.out|refine below_set ?_ GE46.out)|exact HB.out)):p:=h
theorem AJ {p:Prop} (h:p:=by repeat (first|(with_reducible first|exact HK.out|apply aI.xK|apply iZ|apply gW|apply kR|refine iB ?_ GW54.out _|refine iB ?_ GW57.out _)|exact HK.out)):p:=h
theorem wI {p:Prop} (h:p:=by repeat (first|(with_reducible first|exact HB.out|apply bO|apply bA|apply bG|refine below_set ?_ GE21.out)|exact HB.out)):p:=h
theorem AO {p:Prop} (h:p:=by repeat (first|(with_reducible first|exact HB.out|apply bO|apply bA|apply bG|refine below_set ?_ GE38.out|refine below_set ?_ GE41.out)|exact HB.out)):p:=h
theorem AP {p:Prop} (h:p:=by repeat (first|(with_reducible first|exact HB.out|apply bO|apply bA|apply bG|refine below_set ?_ GE41.out|refine below_set ?_ GE42.out)|exact HB.out)):p:=h
theorem CS {p:Prop} (h:p:=by repeat (first|(with_reducible first|exact HK.out|apply aI.xK|apply iZ|apply gW|apply kR|refine iB ?_ GW35.out _|refine iB ?_ GW66.out _)|exact HK.out)):p:=h
theorem CU {p:Prop} (h:p:=by repeat (first|(with_reducible first|exact HB.out|apply bO|apply bA|apply bG|refine below_set ?_ (aQ.ge HI67.out)|refine below_set ?_ GE66.out)|exact HB.out)):p:=h
theorem CV {p:Prop} (h:p:=by repeat (first|(with_reducible first|exact HB.out|apply bO|apply bA|apply bG|refine below_set ?_ (aQ.ge HI0.out)|refine below_set ?_ GE35.out)|exact HB.out)):p:=h
theorem AQ {p:Prop} (h:p:=by repeat (first|(with_reducible first|exact HK.out|apply aI.xK|apply iZ|apply gW|apply kR|refine iB ?_ GW829.out _)|exact HK.out)):p:=h
theorem EH {p:Prop} (h:p:=by repeat (first|(with_reducible first|exact HB.out|apply bO|apply bA|apply bG|refine below_set ?_ GE94.out|refine below_set ?_ GE95.out|refine below_set ?_ GE108.out)|exact HB.out)):p:=h
theorem EI {p:Prop} (h:p:=by repeat (first|(with_reducible first|exact HI0.out|apply aQ.alloc|apply aQ.drewN|apply aQ.drew|apply aQ.sJ|refine aQ.far ?_ NB0_54.out _|refine aQ.far ?_ NB0_57.out _)|exact HI0.out)):p:=h
theorem CW {p:Prop} (h:p:=by repeat (first|(with_reducible first|exact HK.out|apply aI.xK|apply iZ|apply gW|apply kR|refine iB ?_ GW868.out _)|exact HK.out)):p:=h
theorem CX {p:Prop} (h:p:=by repeat (first|(with_reducible first|exact HK.out|apply aI.xK|apply iZ|apply gW|apply kR|refine iB ?_ GW28.out _)|exact HK.out)):p:=h
theorem GR {p:Prop} (h:p:=by repeat (first|(with_reducible first|exact HI0.out|apply aQ.alloc|apply aQ.drewN|apply aQ.drew|apply aQ.sJ|refine aQ.far ?_ NB0_35.out _|refine aQ.far ?_ NB0_66.out _)|exact HI0.out)):p:=h
theorem EJ {p:Prop} (h:p:=by repeat (first|(with_reducible first|exact HK.out|apply aI.xK|apply iZ|apply gW|apply kR|refine iB ?_ GW54.out _)|exact HK.out)):p:=h
theorem GU {p:Prop} (h:p:=by repeat (first|(with_reducible first|exact HB.out|apply bO|apply bA|apply bG|refine below_set ?_ GE128.out|refine below_set ?_ GE133.out)|exact HB.out)):p:=h
theorem LA {p:Prop} (h:p:=by repeat (first|(with_reducible first|exact HB.out|apply bO|apply bA|apply bG|refine below_set ?_ (aQ.ge HI0.out)|refine below_set ?_ GE54.out|refine below_set ?_ GE57.out)|exact HB.out)):p:=h
theorem GV {p:Prop} (h:p:=by repeat (first|(with_reducible first|exact HI0.out|apply aQ.alloc|apply aQ.drewN|apply aQ.drew|apply aQ.sJ|refine aQ.far ?_ NB0_829.out _)|exact HI0.out)):p:=h
theorem GX {p:Prop} (h:p:=by repeat (first|(with_reducible first|exact HI0.out|apply aQ.alloc|apply aQ.drewN|apply aQ.drew|apply aQ.sJ|refine aQ.far ?_ NB0_54.out _)|exact HI0.out)):p:=h
theorem GY {p:Prop} (h:p:=by repeat (first|(with_reducible first|exact HI0.out|apply aQ.alloc|apply aQ.drewN|apply aQ.drew|apply aQ.sJ|refine aQ.far ?_ NB0_28.out _)|exact HI0.out)):p:=h
theorem GZ {p:Prop} (h:p:=by repeat (first|(with_reducible first|exact HK.out|apply aI.xK|apply iZ|apply gW|apply kR|refine iB ?_ GW29.out _)|exact HK.out)):p:=h
theorem HY {p:Prop} (h:p:=by repeat (first|(with_reducible first|exact HB.out|apply bO|apply bA|apply bG|refine below_set ?_ GE128.out)|exact HB.out)):p:=h
theorem HZ {p:Prop} (h:p:=by repeat (first|(with_reducible first|exact HB.out|apply bO|apply bA|apply bG|refine below_set ?_ GE94.out)|exact HB.out)):p:=h
theorem LB {p:Prop} (h:p:=by repeat (first|(with_reducible first|exact HI67.out|apply aQ.alloc|apply aQ.drewN|apply aQ.drew|apply aQ.sJ|refine aQ.far ?_ NB67_66.out _)|exact HI67.out)):p:=h
theorem PK {p:Prop} (h:p:=by repeat (first|(with_reducible first|exact HB.out|apply bO|apply bA|apply bG|refine below_set ?_ (aQ.ge HI0.out)|refine below_set ?_ GE35.out|refine below_set ?_ GE66.out)|exact HB.out)):p:=h
theorem LC {p:Prop} (h:p:=by repeat (first|(with_reducible first|exact HI0.out|apply aQ.alloc|apply aQ.drewN|apply aQ.drew|apply aQ.sJ|refine aQ.far ?_ NB0_868.out _)|exact HI0.out)):p:=h
theorem LD {p:Prop} (h:p:=by repeat (first|(with_reducible first|exact HI0.out|apply aQ.alloc|apply aQ.drewN|apply aQ.drew|apply aQ.sJ|refine aQ.far ?_ NB0_29.out _)|exact HI0.out)):p:=h
theorem PL {p:Prop} (h:p:=by repeat (first|(with_reducible first|exact HB.out|apply bO|apply bA|apply bG|refine below_set ?_ GE21.out|refine below_set ?_ GE22.out|refine below_set ?_ GE23.out)|exact HB.out)):p:=h
theorem PN {p:Prop} (h:p:=by repeat (first|(with_reducible first|exact HB.out|apply bO|apply bA|apply bG|refine below_set ?_ (aQ.ge HI0.out)|refine below_set ?_ GE28.out)|exact HB.out)):p:=h
theorem PO {p:Prop} (h:p:=by repeat (first|(with_reducible first|exact HB.out|apply bO|apply bA|apply bG|refine below_set ?_ (aQ.ge HI0.out)|refine below_set ?_ GE29.out)|exact HB.out)):p:=h
theorem NC {p:Prop} (h:p:=by repeat (first|(with_reducible first|exact HB.out|apply bO|apply bA|apply bG|refine below_set ?_ GE99.out|refine below_set ?_ GE100.out|refine below_set ?_ GE112.out|refine below_set ?_ GE111.out)|exact HB.out)):p:=h
theorem ND {p:Prop} (h:p:=by repeat (first|(with_reducible first|exact HB.out|apply bO|apply bA|apply bG|refine below_set ?_ GE20.out)|exact HB.out)):p:=h
theorem NG {p:Prop} (h:p:=by repeat (first|(with_reducible first|exact HB.out|apply bO|apply bA|apply bG|refine below_set ?_ (aQ.ge HI0.out)|refine below_set ?_ GE829.out)|exact HB.out)):p:=h
theorem NH {p:Prop} (h:p:=by repeat (first|(with_reducible first|exact HB.out|apply bO|apply bA|apply bG|refine below_set ?_ (aQ.ge HI0.out)|refine below_set ?_ GE54.out)|exact HB.out)):p:=h
theorem NI {p:Prop} (h:p:=by repeat (first|(with_reducible first|exact HB.out|apply bO|apply bA|apply bG|refine below_set ?_ GE21.out|refine below_set ?_ GE22.out)|exact HB.out)):p:=h
theorem KH {p:Prop} (h:p:=by repeat (first|(with_reducible first|exact HBW.out|apply bO|apply bA|apply bG)|exact HBW.out)):p:=h
theorem NJ {p:Prop} (h:p:=by repeat (first|(with_reducible first|exact HB.out|apply bO|apply bA|apply bG|refine below_set ?_ GE33.out)|exact HB.out)):p:=h
theorem NK {p:Prop} (h:p:=by repeat (first|(with_reducible first|exact HB.out|apply bO|apply bA|apply bG|refine below_set ?_ GE55.out)|exact HB.out)):p:=h
theorem NM {p:Prop} (h:p:=by repeat (first|(with_reducible first|exact HB.out|apply bO|apply bA|apply bG|refine below_set ?_ GE38.out)|exact HB.out)):p:=h
theorem NP {p:Prop} (h:p:=by repeat (first|(with_reducible first|exact HB.out|apply bO|apply bA|apply bG|refine below_set ?_ GE49.out)|exact HB.out)):p:=h
theorem NQ {p:Prop} (h:p:=by repeat (first|(with_reducible first|exact HB.out|apply bO|apply bA|apply bG|refine below_set ?_ GE41.out)|exact HB.out)):p:=h
theorem SS {p:Prop} (h:p:=by repeat (first|(with_reducible first|exact HB.out|apply bO|apply bA|apply bG|refine below_set ?_ (aQ.ge HI0.out)|refine below_set ?_ GE868.out)|exact HB.out)):p:=h
theorem SV {p:Prop} (h:p:=by repeat (first|(with_reducible first|exact HK.out|apply iZ|apply gW)|exact HK.out)):p:=h
theorem aN_ {p q:Prop} (x:q) (h:q→p:=by intro hx_;(with_reducible repeat (first|apply Kd.OV|apply Kd.OW|apply Kd.nO));exact hx_):p:=h x
theorem aR_ {p q:Prop} (x:q) (h:q→p:=by intro hx_;(with_reducible repeat (first|apply Kd.OZ|apply Kd.PD|apply Kd.vC));exact hx_):p:=h x
theorem aG_ {p q:Prop} (x:q) (h:q→p:=by intro hx_;(with_reducible repeat (first|refine dQ ?_ _|refine bT ?_|refine dF ?_ _));exact hx_):p:=h x
theorem rr_ {p:Prop} (h:p:=by first|rfl|(simp [nG,nH] <;> rfl)|(simp [*,nG,nH] <;> rfl)):p:=h
theorem bsm {α β:Type} {o:Option α} {f:α→Option β} {b:β} (h:o.bind f=some b):∃ a,o=some a∧f a=some b:=Option.bind_eq_some_iff.mp h
theorem am {p:Prop} (h:p):Aside0 p:=⟨h⟩
theorem mJ {w:World} {g:Nat} {t:TypeId} {x0:Value} (h:w.heap[g]?=some (.cells #[x0] t (0,0))):w.cell? ⟨g,0,none⟩=some x0∧w.frozen? ⟨g,0,none⟩=false:=⟨(aA h 0).trans rfl,aU h 0⟩
theorem fT {w:World} {g:Nat} {t:TypeId} {x0 x1:Value} (h:w.heap[g]?=some (.cells #[x0,x1] t (0,0))):w.cell? ⟨g,0,none⟩=some x0∧w.cell? ⟨g,1,none⟩=some x1∧w.frozen? ⟨g,0,none⟩=false∧w.frozen? ⟨g,1,none⟩=false:=⟨(aA h 0).trans rfl,(aA h 1).trans rfl,aU h 0,aU h 1⟩
theorem fZ {w:World} {g:Nat} {t:TypeId} {x0 x1 x2:Value} (h:w.heap[g]?=some (.cells #[x0,x1,x2] t (0,0))):w.cell? ⟨g,0,none⟩=some x0∧w.cell? ⟨g,1,none⟩=some x1∧w.cell? ⟨g,2,none⟩=some x2∧w.frozen? ⟨g,0,none⟩=false∧w.frozen? ⟨g,1,none⟩=false∧w.frozen? ⟨g,2,none⟩=false:=⟨(aA h 0).trans rfl,(aA h 1).trans rfl,(aA h 2).trans rfl,aU h 0,aU h 1,aU h 2⟩
theorem eX {w:World} {g:Nat} {t:TypeId} {x0 x1 x2 x3 x4 x5 x6 x7:Value} (h:w.heap[g]?=some (.cells #[x0,x1,x2,x3,x4,x5,x6,x7] t (0,0))):w.cell? ⟨g,0,none⟩=some x0∧w.cell? ⟨g,1,none⟩=some x1∧w.cell? ⟨g,2,none⟩=some x2∧w.cell? ⟨g,3,none⟩=some x3∧w.cell? ⟨g,4,none⟩=some x4∧w.cell? ⟨g,5,none⟩=some x5∧w.cell? ⟨g,6,none⟩=some x6∧w.cell? ⟨g,7,none⟩=some x7∧w.frozen? ⟨g,0,none⟩=false∧w.frozen? ⟨g,1,none⟩=false∧w.frozen? ⟨g,2,none⟩=false∧w.frozen? ⟨g,3,none⟩=false∧w.frozen? ⟨g,4,none⟩=false∧w.frozen? ⟨g,5,none⟩=false∧w.frozen? ⟨g,6,none⟩=false∧w.frozen? ⟨g,7,none⟩=false:=⟨(aA h 0).trans rfl,(aA h 1).trans rfl,(aA h 2).trans rfl,(aA h 3).trans rfl,(aA h 4).trans rfl,(aA h 5).trans rfl,(aA h 6).trans rfl,(aA h 7).trans rfl,aU h 0,aU h 1,aU h 2,aU h 3,aU h 4,aU h 5,aU h 6,aU h 7⟩
theorem dA {W0 W W1:World} {g:Nat} {o:Obj} (x:W0.heap[g]?=some o) (hb:Below W.heap.size W W1) (h:W0.heap[g]?=some o→W.heap[g]?=some o:=by intro hx_;(with_reducible repeat (first|refine dQ ?_ _|refine bT ?_|refine dF ?_ _));exact hx_):W1.heap[g]?=some o:=bY (h x) hb
theorem bbP {W0 W W1:World} {g:Nat} {o:Obj} (x:Aside0 (W0.heap[g]?=some o)) (hb:Below W.heap.size W W1) (h:W0.heap[g]?=some o→W.heap[g]?=some o:=by intro hx_;(with_reducible repeat (first|refine dQ ?_ _|refine bT ?_|refine dF ?_ _));exact hx_):Aside0 (W1.heap[g]?=some o):=⟨bY (h x.out) hb⟩
theorem fO {W0 W:World} {g:Nat} {o:Obj} (x:W0.heap[g]?=some o) (h:W0.heap[g]?=some o→W.heap[g]?=some o:=by intro hx_;(with_reducible repeat (first|refine dQ ?_ _|refine bT ?_|refine dF ?_ _));exact hx_):g < W.heap.size:=gQ (h x)
theorem fG {W0 W:World} {g:Nat} {o:Obj} (x:W0.heap[g]?=some o) (k:Nat) (hk:W.heap.size≤k) (h:W0.heap[g]?=some o→W.heap[g]?=some o:=by intro hx_;(with_reducible repeat (first|refine dQ ?_ _|refine bT ?_|refine dF ?_ _));exact hx_):k≠g:=Kd.lF (h x) k hk
theorem aC_ {p q:Prop} (x:q) (h:q→p:=by intro hx_;repeat (first|exact hx_|(with_reducible refine Kd.wV ?_ _)|(with_reducible refine Kd.tZ ?_ _)|(with_reducible refine Kd.vY ?_))):p:=h x
theorem rn_ {p:Prop} (h:p:=by first|(go_simp;done)|(go_simp;rfl)):p:=h
theorem nm_ {p:Prop} (h:p:=by first|(simp only [nD,Act.put,List.setIfInBounds_toArray,List.set_cons_zero,List.set_cons_succ];done)|(simp only [nD,Act.put,List.setIfInBounds_toArray,List.set_cons_zero,List.set_cons_succ];rfl)):p:=h
theorem sd_ {p:Prop} (h:p:=by first|rfl|(simp;done)|(simp [*];done)):p:=h
theorem gL {p:Prop} (h:p:=by first|(with_reducible assumption)|assumption):p:=h
theorem nb_ {p q:Prop} (x:q) (h:q→p:=by intro hx_;first|(rw [add_block];exact hx_)|(show (Addr.add _ _).block≠_;rw [add_block];exact hx_)|exact hx_):p:=h x
theorem pr_ (i N:Nat) (l':Array Bool) {P:Program} {md:Region.Mode} {ops:Array Oper} {Q:Exit→Act→World→Prop} {S:World→Prop} {ds:List Nat} {oi:Oper} {v:Value} {fuel:Nat} {l:Array Bool} {a a':Act} {w:World} {T:Bool × List (List Nat × List Nat)} (HT:Aside0 (lJ md ops=T)) (h:dO P md ops Q S ds fuel l' a' w) (hi:ops[i]?=some oi:=by rfl) (hN:oi.dst=some N:=by rfl) (hc:aAl T l.toList l'.toList i=true:=by kernel_rfl) (hQ:∀ c a w,Q (.panic c) (a.put oi.dst v) w→Q (.panic c) a w:=by exact fun _ _ _ h_=>h_) (hg:Region.wanted oi (yielded ops a.tmps)=true:=by rfl) (hy:∀ w,(execOp a.eval oi).run P w= .ok (.value v) w:=by (intro w';go_simp;with_reducible rfl)) (ha:a.put (some N) v=a':=by first|(simp only [Act.put,List.setIfInBounds_toArray,List.set_cons_zero,List.set_cons_succ,dS,dV];rfl)|rfl):dO P md ops Q S ds (fuel + 1) l a w:=DC l' hi hN (SX HT.out hc) hQ (Or.inl ⟨hg,hy⟩) ha h
theorem pu_ (i N:Nat) (l':Array Bool) {P:Program} {md:Region.Mode} {ops:Array Oper} {Q:Exit→Act→World→Prop} {S:World→Prop} {ds:List Nat} {oi:Oper} {fuel:Nat} {l:Array Bool} {a a':Act} {w:World} {T:Bool × List (List Nat × List Nat)} (HT:Aside0 (lJ md ops=T)) (h:dO P md ops Q S ds fuel l' a' w) (hi:ops[i]?=some oi:=by rfl) (hN:oi.dst=some N:=by rfl) (hc:aAl T l.toList l'.toList i=true:=by kernel_rfl) (hQ:∀ c a w,Q (.panic c) (a.put oi.dst undef) w→Q (.panic c) a w:=by exact fun _ _ _ h_=>h_) (hg:Region.wanted oi (yielded ops a.tmps)=false:=by rfl) (ha:a.put (some N) undef=a':=by first|(simp only [Act.put,List.setIfInBounds_toArray,List.set_cons_zero,List.set_cons_succ,dS,dV];rfl)|rfl):dO P md ops Q S ds (fuel + 1) l a w:=DC (v:=undef) l' hi hN (SX HT.out hc) hQ (Or.inr ⟨hg,rfl⟩) ha h
theorem RZ (i N:Nat) (l':Array Bool) {P:Program} {md:Region.Mode} {ops:Array Oper} {Q:Exit→Act→World→Prop} {S:World→Prop} {ds:List Nat} {oi:Oper} {v:Value} {fuel:Nat} {l:Array Bool} {a a':Act} {w:World} {T:Bool × List (List Nat × List Nat)} {B:List Nat} (HT:Aside0 (lJ md ops=T)) (HW:Aside0 (iW T.2 B=true)) (hS:S w) (h:dO P md ops Q S ds fuel l' a' w) (hi:ops[i]?=some oi:=by rfl) (hN:oi.dst=some N:=by rfl) (hc:wU T B ds l.toList l'.toList i=true:=by kernel_rfl) (hQ:∀ c a w,Q (.panic c) (a.put oi.dst v) w→Q (.panic c) a w:=by exact fun _ _ _ h_=>h_) (hg:Region.wanted oi (yielded ops a.tmps)=true:=by rfl) (hy:∀ w,S w→(execOp a.eval oi).run P w= .ok (.value v) w:=by (rintro w' ⟨s0,s1⟩;go_simp;with_reducible rfl)) (ha:a.put (some N) v=a':=by first|(simp only [Act.put,List.setIfInBounds_toArray,List.set_cons_zero,List.set_cons_succ,dS,dV];rfl)|rfl):dO P md ops Q S ds (fuel + 1) l a w:=uM l' hi hN (rH HT.out HW.out hc) hQ (Or.inl ⟨hg,hy⟩) hS ha h
theorem aAw (i N:Nat) (l':Array Bool) {P:Program} {md:Region.Mode} {ops:Array Oper} {Q:Exit→Act→World→Prop} {S:World→Prop} {ds:List Nat} {oi:Oper} {v:Value} {fuel:Nat} {l:Array Bool} {a a':Act} {w:World} {T:Bool × List (List Nat × List Nat)} {B:List Nat} (HT:Aside0 (lJ md ops=T)) (HW:Aside0 (iW T.2 B=true)) (hS:S w) (h:dO P md ops Q S ds fuel l' a' w) (hi:ops[i]?=some oi:=by rfl) (hN:oi.dst=some N:=by rfl) (hc:wU T B ds l.toList l'.toList i=true:=by kernel_rfl) (hQ:∀ c a w,Q (.panic c) (a.put oi.dst v) w→Q (.panic c) a w:=by exact fun _ _ _ h_=>h_) (hg:Region.wanted oi (yielded ops a.tmps)=true:=by rfl) (hy:∀ w,S w→(execOp a.eval oi).run P w= .ok (.value v) w:=by (rintro w' ⟨s0,s1,s2⟩;go_simp;with_reducible rfl)) (ha:a.put (some N) v=a':=by first|(simp only [Act.put,List.setIfInBounds_toArray,List.set_cons_zero,List.set_cons_succ,dS,dV];rfl)|rfl):dO P md ops Q S ds (fuel + 1) l a w:=uM l' hi hN (rH HT.out HW.out hc) hQ (Or.inl ⟨hg,hy⟩) hS ha h
theorem GH (i N:Nat) (l':Array Bool) {P:Program} {md:Region.Mode} {ops:Array Oper} {Q:Exit→Act→World→Prop} {S:World→Prop} {ds:List Nat} {oi:Oper} {v:Value} {fuel:Nat} {l:Array Bool} {a a':Act} {w:World} {T:Bool × List (List Nat × List Nat)} {B:List Nat} (HT:Aside0 (lJ md ops=T)) (HW:Aside0 (iW T.2 B=true)) (hS:S w) (h:dO P md ops Q S ds fuel l' a' w) (hi:ops[i]?=some oi:=by rfl) (hN:oi.dst=some N:=by rfl) (hc:wU T B ds l.toList l'.toList i=true:=by kernel_rfl) (hQ:∀ c a w,Q (.panic c) (a.put oi.dst v) w→Q (.panic c) a w:=by exact fun _ _ _ h_=>h_) (hg:Region.wanted oi (yielded ops a.tmps)=true:=by rfl) (hy:∀ w,S w→(execOp a.eval oi).run P w= .ok (.value v) w:=by (rintro w' ⟨s0,s1,s2,s3⟩;go_simp;with_reducible rfl)) (ha:a.put (some N) v=a':=by first|(simp only [Act.put,List.setIfInBounds_toArray,List.set_cons_zero,List.set_cons_succ,dS,dV];rfl)|rfl):dO P md ops Q S ds (fuel + 1) l a w:=uM l' hi hN (rH HT.out HW.out hc) hQ (Or.inl ⟨hg,hy⟩) hS ha h
theorem GI (i N:Nat) (l':Array Bool) {P:Program} {md:Region.Mode} {ops:Array Oper} {Q:Exit→Act→World→Prop} {S:World→Prop} {ds:List Nat} {oi:Oper} {v:Value} {fuel:Nat} {l:Array Bool} {a a':Act} {w:World} {T:Bool × List (List Nat × List Nat)} {B:List Nat} (HT:Aside0 (lJ md ops=T)) (HW:Aside0 (iW T.2 B=true)) (hS:S w) (h:dO P md ops Q S ds fuel l' a' w) (hi:ops[i]?=some oi:=by rfl) (hN:oi.dst=some N:=by rfl) (hc:wU T B ds l.toList l'.toList i=true:=by kernel_rfl) (hQ:∀ c a w,Q (.panic c) (a.put oi.dst v) w→Q (.panic c) a w:=by exact fun _ _ _ h_=>h_) (hg:Region.wanted oi (yielded ops a.tmps)=true:=by rfl) (hy:∀ w,S w→(execOp a.eval oi).run P w= .ok (.value v) w:=by (rintro w' ⟨s0,s1,s2,s3,s4⟩;go_simp;with_reducible rfl)) (ha:a.put (some N) v=a':=by first|(simp only [Act.put,List.setIfInBounds_toArray,List.set_cons_zero,List.set_cons_succ,dS,dV];rfl)|rfl):dO P md ops Q S ds (fuel + 1) l a w:=uM l' hi hN (rH HT.out HW.out hc) hQ (Or.inl ⟨hg,hy⟩) hS ha h
theorem MX (i N:Nat) (l':Array Bool) {P:Program} {md:Region.Mode} {ops:Array Oper} {Q:Exit→Act→World→Prop} {S:World→Prop} {ds:List Nat} {oi:Oper} {v:Value} {fuel:Nat} {l:Array Bool} {a a':Act} {w:World} {T:Bool × List (List Nat × List Nat)} {B:List Nat} (HT:Aside0 (lJ md ops=T)) (HW:Aside0 (iW T.2 B=true)) (hS:S w) (h:dO P md ops Q S ds fuel l' a' w) (hi:ops[i]?=some oi:=by rfl) (hN:oi.dst=some N:=by rfl) (hc:wU T B ds l.toList l'.toList i=true:=by kernel_rfl) (hQ:∀ c a w,Q (.panic c) (a.put oi.dst v) w→Q (.panic c) a w:=by exact fun _ _ _ h_=>h_) (hg:Region.wanted oi (yielded ops a.tmps)=true:=by rfl) (hy:∀ w,S w→(execOp a.eval oi).run P w= .ok (.value v) w:=by (rintro w' ⟨s0,s1,s2,s3,s4,s5⟩;go_simp;with_reducible rfl)) (ha:a.put (some N) v=a':=by first|(simp only [Act.put,List.setIfInBounds_toArray,List.set_cons_zero,List.set_cons_succ,dS,dV];rfl)|rfl):dO P md ops Q S ds (fuel + 1) l a w:=uM l' hi hN (rH HT.out HW.out hc) hQ (Or.inl ⟨hg,hy⟩) hS ha h
theorem aCe (i N:Nat) (l':Array Bool) {P:Program} {md:Region.Mode} {ops:Array Oper} {Q:Exit→Act→World→Prop} {S:World→Prop} {ds:List Nat} {oi:Oper} {v:Value} {fuel:Nat} {l:Array Bool} {a a':Act} {w:World} {T:Bool × List (List Nat × List Nat)} {B:List Nat} (HT:Aside0 (lJ md ops=T)) (HW:Aside0 (iW T.2 B=true)) (hS:S w) (h:dO P md ops Q S ds fuel l' a' w) (hi:ops[i]?=some oi:=by rfl) (hN:oi.dst=some N:=by rfl) (hc:wU T B ds l.toList l'.toList i=true:=by kernel_rfl) (hQ:∀ c a w,Q (.panic c) (a.put oi.dst v) w→Q (.panic c) a w:=by exact fun _ _ _ h_=>h_) (hg:Region.wanted oi (yielded ops a.tmps)=true:=by rfl) (hy:∀ w,S w→(execOp a.eval oi).run P w= .ok (.value v) w:=by (rintro w' ⟨s0,s1,s2,s3,s4,s5,s6,s7⟩;go_simp;with_reducible rfl)) (ha:a.put (some N) v=a':=by first|(simp only [Act.put,List.setIfInBounds_toArray,List.set_cons_zero,List.set_cons_succ,dS,dV];rfl)|rfl):dO P md ops Q S ds (fuel + 1) l a w:=uM l' hi hN (rH HT.out HW.out hc) hQ (Or.inl ⟨hg,hy⟩) hS ha h
theorem aAx (i N:Nat) (l':Array Bool) {P:Program} {md:Region.Mode} {ops:Array Oper} {Q:Exit→Act→World→Prop} {S:World→Prop} {ds:List Nat} {oi:Oper} {v:Value} {fuel:Nat} {l:Array Bool} {a a':Act} {w:World} {T:Bool × List (List Nat × List Nat)} {B:List Nat} (HT:Aside0 (lJ md ops=T)) (HW:Aside0 (iW T.2 B=true)) (hS:S w) (h:dO P md ops Q S ds fuel l' a' w) (hi:ops[i]?=some oi:=by rfl) (hN:oi.dst=some N:=by rfl) (hc:wU T B ds l.toList l'.toList i=true:=by kernel_rfl) (hQ:∀ c a w,Q (.panic c) (a.put oi.dst v) w→Q (.panic c) a w:=by exact fun _ _ _ h_=>h_) (hg:Region.wanted oi (yielded ops a.tmps)=true:=by rfl) (hy:∀ w,S w→(execOp a.eval oi).run P w= .ok (.value v) w:=by (rintro w' ⟨s0,s1,s2,s3,s4,s5,s6,s7,s8⟩;go_simp;with_reducible rfl)) (ha:a.put (some N) v=a':=by first|(simp only [Act.put,List.setIfInBounds_toArray,List.set_cons_zero,List.set_cons_succ,dS,dV];rfl)|rfl):dO P md ops Q S ds (fuel + 1) l a w:=uM l' hi hN (rH HT.out HW.out hc) hQ (Or.inl ⟨hg,hy⟩) hS ha h
theorem DK (i N:Nat) (l':Array Bool) {P:Program} {md:Region.Mode} {ops:Array Oper} {Q:Exit→Act→World→Prop} {S:World→Prop} {ds:List Nat} {oi:Oper} {v:Value} {fuel:Nat} {l:Array Bool} {a a':Act} {w:World} {T:Bool × List (List Nat × List Nat)} {B:List Nat} (HT:Aside0 (lJ md ops=T)) (HW:Aside0 (iW T.2 B=true)) (hS:S w) (h:dO P md ops Q S ds fuel l' a' w) (hi:ops[i]?=some oi:=by rfl) (hN:oi.dst=some N:=by rfl) (hc:wU T B ds l.toList l'.toList i=true:=by kernel_rfl) (hQ:∀ c a w,Q (.panic c) (a.put oi.dst v) w→Q (.panic c) a w:=by exact fun _ _ _ h_=>h_) (hg:Region.wanted oi (yielded ops a.tmps)=true:=by rfl) (hy:∀ w,S w→(execOp a.eval oi).run P w= .ok (.value v) w:=by (rintro w' ⟨s0,s1,s2,s3,s4,s5,s6,s7,s8,s9,j3,j4⟩;go_simp;with_reducible rfl)) (ha:a.put (some N) v=a':=by first|(simp only [Act.put,List.setIfInBounds_toArray,List.set_cons_zero,List.set_cons_succ,dS,dV];rfl)|rfl):dO P md ops Q S ds (fuel + 1) l a w:=uM l' hi hN (rH HT.out HW.out hc) hQ (Or.inl ⟨hg,hy⟩) hS ha h
theorem aBe (i N:Nat) (l':Array Bool) {P:Program} {md:Region.Mode} {ops:Array Oper} {Q:Exit→Act→World→Prop} {S:World→Prop} {ds:List Nat} {oi:Oper} {v:Value} {fuel:Nat} {l:Array Bool} {a a':Act} {w:World} {T:Bool × List (List Nat × List Nat)} {B:List Nat} (HT:Aside0 (lJ md ops=T)) (HW:Aside0 (iW T.2 B=true)) (hS:S w) (h:dO P md ops Q S ds fuel l' a' w) (hi:ops[i]?=some oi:=by rfl) (hN:oi.dst=some N:=by rfl) (hc:wU T B ds l.toList l'.toList i=true:=by kernel_rfl) (hQ:∀ c a w,Q (.panic c) (a.put oi.dst v) w→Q (.panic c) a w:=by exact fun _ _ _ h_=>h_) (hg:Region.wanted oi (yielded ops a.tmps)=true:=by rfl) (hy:∀ w,S w→(execOp a.eval oi).run P w= .ok (.value v) w:=by (rintro w' ⟨s0,s1,s2,s3,s4,s5,s6,s7,s8,s9,j3,j4,j5,j6,j7,j8⟩;go_simp;with_reducible rfl)) (ha:a.put (some N) v=a':=by first|(simp only [Act.put,List.setIfInBounds_toArray,List.set_cons_zero,List.set_cons_succ,dS,dV];rfl)|rfl):dO P md ops Q S ds (fuel + 1) l a w:=uM l' hi hN (rH HT.out HW.out hc) hQ (Or.inl ⟨hg,hy⟩) hS ha h
theorem eO {α:Type} {d:Kd α} {e:Nat} {W0 W:World} {base:Nat} {ok:Nat→Prop} {v:Value} {xs:List α} (x:Kd.N d e W0 base ok v xs) (h:Kd.N d e W0 base ok v xs→Kd.N d e W base ok v xs:=by intro hx_;(with_reducible repeat (first|apply Kd.OV|apply Kd.OW|apply Kd.nO));exact hx_):Kd.N d e W base ok v xs:=h x
theorem iC {α:Type} {d:Kd α} {e:Nat} {W0 W:World} {base:Nat} {ok:Nat→Prop} {v:Value} {xs:List α} (x:Kd.R d e W0 base ok v xs) (h:Kd.R d e W0 base ok v xs→Kd.R d e W base ok v xs:=by intro hx_;(with_reducible repeat (first|apply Kd.OZ|apply Kd.PD|apply Kd.vC));exact hx_):Kd.R d e W base ok v xs:=h x
def bz (n m:Nat):Array Bool:=((List.range n).map (fun i=>m.testBit i)).toArray
theorem rx_ {p:Prop} (h:p:=by first|(rw [hy_];with_reducible exact H)|(have H2_:=(Option.bind_some _ _).symm.trans H;rw [hy_];with_reducible exact H2_)|(have H2_:=(Option.bind_some _ _).symm.trans H;with_reducible exact H2_)|with_reducible exact H|(rw [hy_];exact H)|exact H):p:=h
theorem bsa {α β:Type} {o:Option α} {f:α→Option β} {b:β} (h:o.bind f=some b):∃ a,Aside0 (o=some a)∧f a=some b:=by
 obtain ⟨a,h1,h2⟩:=Option.bind_eq_some_iff.mp h
 exact ⟨a,⟨h1⟩,h2⟩
theorem gl_ {P:Program} {ops:Array Oper} {Q:Exit→Act→World→Prop} {rest:List Oper} {oi:Oper} {a:Act} {w:World} (N:Nat) {f:FuncId} {fn:Func} {as_:Array Operand} {ts:Array TypeId} (hf:P.funcs[f]?=some fn) (args:Array Value) (h:Calls P f args w fun e w'=>∃ v,e= .returned v∧wpList P ops Q rest (a.put (some N) v) w') (hd:oi.dst=some N:=by rfl) (hg:oi.guard=none:=by rfl) (hname:(fn.name == "runtime.NumGoroutine")=false:=by kernel_rfl) (hb:fn.body.isSome=true:=by rfl) (hop:oi.op= .call { callee:= .value (.func f),args:=as_,argTypes:=ts }:=by rfl) (hargs:as_.map a.eval=args:=by (try simp only [List.map_toArray,List.map_cons,List.map_nil]);first|done|rfl|(simp only [List.length_drop,List.length_take];rfl)):wpList P ops Q (oi :: rest) a w:=sN (some N) hd hg hf hname hb args hop hargs h
theorem mo_ {p:Prop} (h:p:=by repeat' first|(with_reducible exact ih0 ..)|(with_reducible exact ih1 ..)|(with_reducible exact ih2 ..)|(with_reducible exact ih3 ..)|(with_reducible exact ih4 ..)|(with_reducible exact ih5 ..)|(with_reducible exact ih6 ..)|(with_reducible exact ih7 ..)|(with_reducible exact m0 ..)|(with_reducible exact m1 ..)|(with_reducible exact m2 ..)|(with_reducible exact m3 ..)|(with_reducible exact m4 ..)|(with_reducible exact m5 ..)|(with_reducible exact m6 ..)|(with_reducible exact m7 ..)|(with_reducible exact m8 ..)|(with_reducible exact m9 ..)|(with_reducible exact LeO.refl _)|(with_reducible exact LeO.none _)|(with_reducible refine LeO.ite ?_ ?_)|(with_reducible refine LeO.bind ?_ (fun _=>?_))):p:=h
def mX.f (l0:List Int):Option (List Int × Int):=if (l0.length:Int) > 2000 then (if 2000≤(l0.length:Int) then (some (l0.take 2000,0)) else (none)) else (some (l0,0))
def aH.j0:Nat→Int→Bool→List Int→Int→Option (Int × Int)
 |0,_,_,_,_=>none
 |k + 1,x1,x24,x1000,x1001=>if x24=true then (some (0,x1001)) else (if (wrap64 (x1001 - 1)) < (x1000.length:Int) then (if 0≤(wrap64 (x1001 - 1)) then (if x1=0 then (none) else (some (Int.tmod (wrap64 (rd x1000 (wrap64 (x1001 - 1)))) x1,x1001))) else (none)) else (if (x1000.length:Int)=0 then (none) else (if 0≤(Int.tmod (wrap64 (x1001 - 1)) (x1000.length:Int)) then (if (Int.tmod (wrap64 (x1001 - 1)) (x1000.length:Int)) < (x1000.length:Int) then (if 0≤(Int.tmod (wrap64 ((wrap64 ((wrap64 (x1001 - 1)) * 7)) + 3)) (x1000.length:Int)) then (if (Int.tmod (wrap64 ((wrap64 ((wrap64 (x1001 - 1)) * 7)) + 3)) (x1000.length:Int)) < (x1000.length:Int) then (if x1=0 then (none) else (some (Int.tmod (Go.bits .xor .i64 (wrap64 ((wrap64 ((wrap64 ((wrap64 ((wrap64 (rd x1000 (Int.tmod (wrap64 (x1001 - 1)) (x1000.length:Int)))) * 131)) + (wrap64 ((wrap64 (rd x1000 (Int.tmod (wrap64 ((wrap64 ((wrap64 (x1001 - 1)) * 7)) + 3)) (x1000.length:Int)))) * 1117)))) + (wrap64 ((wrap64 (x1001 - 1)) * 29)))) + (wrap64 ((wrap64 (Int.tdiv (wrap64 (x1001 - 1)) (x1000.length:Int))) * 53)))) (wrap64 (Int.tdiv (wrap64 ((wrap64 ((wrap64 ((wrap64 ((wrap64 (rd x1000 (Int.tmod (wrap64 (x1001 - 1)) (x1000.length:Int)))) * 131)) + (wrap64 ((wrap64 (rd x1000 (Int.tmod (wrap64 ((wrap64 ((wrap64 (x1001 - 1)) * 7)) + 3)) (x1000.length:Int)))) * 1117)))) + (wrap64 ((wrap64 (x1001 - 1)) * 29)))) + (wrap64 ((wrap64 (Int.tdiv (wrap64 (x1001 - 1)) (x1000.length:Int))) * 53)))) 64))) x1,x1001))) else (none)) else (none)) else (none)) else (none))))
def aH.f (k:Nat) (s0_0:List Int) (s0_1:Int) (a1:Int):Option (Int × Int):=if a1 < 1 then (aH.j0 k a1 true s0_0 (wrap64 (s0_1 + 1))) else (aH.j0 k a1 ((s0_0.length:Int) == 0) s0_0 (wrap64 (s0_1 + 1)))
def kD.f (a0:Int) (a1_0:Int) (a1_1:Int) (l1_2:List (S32)) (a2_0:Int) (a2_1:Int) (l2_2:List (S32)):Option (Int × Int × (List (S32))):=some (a0,0,(([(⟨a1_0,a1_1,l1_2⟩:S32),(⟨a2_0,a2_1,l2_2⟩:S32)]:List (S32))))
def iR.f (k:Nat) (s0_0:List Int) (s0_1:Int):Option (Int × Int):=(aH.f k s0_0 s0_1 12).bind fun bt113=>(some (wrap64 (1 + bt113.1),bt113.2))
def fF.f (a0:Int) (a1:Int):Option (Int × Int × (List (S32))):=some (a0,a1,(([]:List (S32))))
def gT.f (k:Nat) (s0_0:List Int) (s0_1:Int):Option (Int × Int × (List (S32)) × Int):=(aH.f k s0_0 s0_1 4).bind fun bt120=>(if bt120.1=0 then ((aH.f k s0_0 bt120.2 4).bind fun bt122=>((fF.f 0 bt122.1).bind fun bt124=>(some (bt124.1,bt124.2.1,bt124.2.2,bt122.2)))) else (if bt120.1=1 then ((some (([5,31,32,100,2047,2048,65536,99999]:List Int):List Int)).bind fun y129=>((aH.f k s0_0 bt120.2 8).bind fun bt132=>(if 0≤bt132.1 then (if bt132.1 < (y129.length:Int) then ((fF.f 0 (rd y129 bt132.1)).bind fun bt135=>(some (bt135.1,bt135.2.1,bt135.2.2,bt132.2))) else (none)) else (none)))) else ((aH.f k s0_0 bt120.2 4).bind fun bt140=>((fF.f 13 bt140.1).bind fun bt142=>(some (bt142.1,bt142.2.1,bt142.2.2,bt140.2))))))
mutual
def bI.j0:Nat→Int→Bool→List Int→Int→Option (Int × Int × (List (S32)) × Int)
 |0,_,_,_,_=>none
 |k + 1,x1,x13,x1000,x1001=>if x13=true then ((gT.f k x1000 x1001).bind fun bt150=>(some (bt150.1,bt150.2.1,bt150.2.2.1,bt150.2.2.2))) else ((iR.f k x1000 x1001).bind fun bt156=>((bI.f k x1000 bt156.2 (wrap64 (x1 - 1))).bind fun bt158=>((bI.f k x1000 bt158.2.2.2 (wrap64 (x1 - 1))).bind fun bt165=>((kD.f bt156.1 bt158.1 bt158.2.1 bt158.2.2.1 bt165.1 bt165.2.1 bt165.2.2.1).bind fun bt171=>(some (bt171.1,bt171.2.1,bt171.2.2,bt165.2.2.2))))))
def bI.f:Nat→List Int→Int→Int→Option (Int × Int × (List (S32)) × Int)
 |0,_,_,_=>none
 |k + 1,s0_0,s0_1,a1=>if a1 < 2 then (bI.j0 k a1 true s0_0 s0_1) else ((aH.f k s0_0 s0_1 3).bind fun bt148=>(bI.j0 k a1 (bt148.1 == 0) s0_0 bt148.2))
end
def gN.f (k:Nat) (s0_0:List Int) (s0_1:Int):Option (Int × Int × Int × Int × Int × (List (S32)) × (List (S35)) × (List (S35)) × Int):=(aH.f k s0_0 s0_1 3).bind fun bt177=>((aH.f k s0_0 bt177.2 3).bind fun bt179=>((bI.f k s0_0 bt179.2 (wrap64 (1 + bt179.1))).bind fun bt181=>(some (1,bt177.1,0,bt181.1,bt181.2.1,bt181.2.2.1,([]:List (S35)),([]:List (S35)),bt181.2.2.2))))
def gU.f (k:Nat) (s0_0:List Int) (s0_1:Int) (a1:Int):Option (Int × Int × Int × Int × Int × (List (S32)) × (List (S35)) × (List (S35)) × Int):=if a1 < 1 then ((gN.f k s0_0 s0_1).bind fun bt188=>(some (bt188.1,bt188.2.1,bt188.2.2.1,bt188.2.2.2.1,bt188.2.2.2.2.1,bt188.2.2.2.2.2.1,bt188.2.2.2.2.2.2.1,bt188.2.2.2.2.2.2.2.1,bt188.2.2.2.2.2.2.2.2))) else ((aH.f k s0_0 s0_1 a1).bind fun bt203=>((aH.f k s0_0 bt203.2 2).bind fun bt205=>(if bt205.1=0 then ((aH.f k s0_0 bt205.2 3).bind fun bt207=>((bI.f k s0_0 bt207.2 (wrap64 (1 + bt207.1))).bind fun bt209=>(some (4,0,bt203.1,bt209.1,bt209.2.1,bt209.2.2.1,([]:List (S35)),([]:List (S35)),bt209.2.2.2)))) else ((aH.f k s0_0 bt205.2 3).bind fun bt215=>(some (5,bt215.1,bt203.1,0,0,([]:List (S32)),([]:List (S35)),([]:List (S35)),bt215.2))))))
mutual
def dX.f:Nat→List Int→Int→Int→Int→Option ((List (S35)) × Int)
 |0,_,_,_,_=>none
 |k + 1,s0_0,s0_1,a1,a2=>(aH.f k s0_0 s0_1 3).bind fun bt217=>((bS.f k s0_0 bt217.2 a1 (wrap64 (a2 - 1)) bt217.1 false).bind fun bt219=>((fF.f 13 3).bind fun bt223=>((fF.f 0 1).bind fun bt228=>((kD.f 8 bt223.1 bt223.2.1 bt223.2.2 bt228.1 bt228.2.1 bt228.2.2).bind fun bt233=>((fF.f 13 3).bind fun bt239=>((aH.f k s0_0 bt219.2 3).bind fun bt244=>((fF.f 0 (wrap64 (1 + bt244.1))).bind fun bt246=>((kD.f 5 bt239.1 bt239.2.1 bt239.2.2 bt246.1 bt246.2.1 bt246.2.2).bind fun bt251=>((some (([(⟨1,3,0,(⟨bt233.1,bt233.2.1,bt233.2.2⟩:S32),([]:List (S35)),([]:List (S35))⟩:S35)]:List (S35)):List (S35))).bind fun y256=>(if bt219.1.length + y256.length < 1256584717458 then ((fF.f 0 0).bind fun bt263=>(some ((([(⟨1,3,0,(⟨bt263.1,bt263.2.1,bt263.2.2⟩:S32),([]:List (S35)),([]:List (S35))⟩:S35),(⟨3,0,0,(⟨bt251.1,bt251.2.1,bt251.2.2⟩:S32),(bt219.1 ++ y256),([]:List (S35))⟩:S35)]:List (S35))),bt244.2))) else (none)))))))))))
def bF.j0:Nat→Int→Int→Bool→Int→Bool→List Int→Int→Option ((List (S35)) × Int)
 |0,_,_,_,_,_,_,_=>none
 |k + 1,x1,x2,x3,x10,x11,x1000,x1001=>if x11=true then ((gN.f k x1000 x1001).bind fun bt273=>(some ((([(⟨bt273.1,bt273.2.1,bt273.2.2.1,(⟨bt273.2.2.2.1,bt273.2.2.2.2.1,bt273.2.2.2.2.2.1⟩:S32),bt273.2.2.2.2.2.2.1,bt273.2.2.2.2.2.2.2.1⟩:S35)]:List (S35))),bt273.2.2.2.2.2.2.2.2))) else (if x10=2 then (if x2 > 0 then ((eU.f k x1000 x1001 x1 x2 x3).bind fun bt291=>(some ((([(⟨bt291.1,bt291.2.1,bt291.2.2.1,(⟨bt291.2.2.2.1,bt291.2.2.2.2.1,bt291.2.2.2.2.2.1⟩:S32),bt291.2.2.2.2.2.2.1,bt291.2.2.2.2.2.2.2.1⟩:S35)]:List (S35))),bt291.2.2.2.2.2.2.2.2))) else ((aH.f k x1000 x1001 3).bind fun bt309=>((bI.f k x1000 bt309.2 (wrap64 (1 + bt309.1))).bind fun bt311=>(some ((([(⟨7,0,0,(⟨bt311.1,bt311.2.1,bt311.2.2.1⟩:S32),([]:List (S35)),([]:List (S35))⟩:S35)]:List (S35))),bt311.2.2.2))))) else (if x10=3 then (if x2 > 0 then (bF.j1 k x1 x2 x3 x1000 x1001) else (bF.j1 k x1 x2 false x1000 x1001)) else (if x10=4 then (bF.j2 k x1 x10 (x10 == 4) x1000 x1001) else (if x10=5 then (bF.j2 k x1 x10 (x10 == 5) x1000 x1001) else (bF.j2 k x1 x10 (x10 == 6) x1000 x1001)))))
def bF.j1:Nat→Int→Int→Bool→List Int→Int→Option ((List (S35)) × Int)
 |0,_,_,_,_,_=>none
 |k + 1,x1,x2,x33,x1000,x1001=>if x33=true then ((dX.f k x1000 x1001 x1 x2).bind fun bt320=>(some (bt320.1,bt320.2))) else ((aH.f k x1000 x1001 3).bind fun bt324=>((bI.f k x1000 bt324.2 (wrap64 (1 + bt324.1))).bind fun bt326=>(some ((([(⟨7,0,0,(⟨bt326.1,bt326.2.1,bt326.2.2.1⟩:S32),([]:List (S35)),([]:List (S35))⟩:S35)]:List (S35))),bt326.2.2.2))))
def bF.j2:Nat→Int→Int→Bool→List Int→Int→Option ((List (S35)) × Int)
 |0,_,_,_,_,_=>none
 |k + 1,x1,x10,x38,x1000,x1001=>if x38=true then ((gU.f k x1000 x1001 x1).bind fun bt335=>(some ((([(⟨bt335.1,bt335.2.1,bt335.2.2.1,(⟨bt335.2.2.2.1,bt335.2.2.2.2.1,bt335.2.2.2.2.2.1⟩:S32),bt335.2.2.2.2.2.2.1,bt335.2.2.2.2.2.2.2.1⟩:S35)]:List (S35))),bt335.2.2.2.2.2.2.2.2))) else (if x10=7 then (some ((([(⟨6,0,0,(⟨0,0,([]:List (S32))⟩:S32),([]:List (S35)),([]:List (S35))⟩:S35)]:List (S35))),x1001)) else ((aH.f k x1000 x1001 3).bind fun bt356=>((bI.f k x1000 bt356.2 (wrap64 (1 + bt356.1))).bind fun bt358=>(some ((([(⟨7,0,0,(⟨bt358.1,bt358.2.1,bt358.2.2.1⟩:S32),([]:List (S35)),([]:List (S35))⟩:S35)]:List (S35))),bt358.2.2.2)))))
def bF.f:Nat→List Int→Int→Int→Int→Bool→Option ((List (S35)) × Int)
 |0,_,_,_,_,_=>none
 |k + 1,s0_0,s0_1,a1,a2,a3=>(aH.f k s0_0 s0_1 10).bind fun bt271=>(if bt271.1=0 then (bF.j0 k a1 a2 a3 bt271.1 (bt271.1 == 0) s0_0 bt271.2) else (bF.j0 k a1 a2 a3 bt271.1 (bt271.1 == 1) s0_0 bt271.2))
def bS.l0:Nat→Int→Int→Int→Bool→List (S35)→Int→List Int→Int→Option ((List (S35)) × Int)
 |0,_,_,_,_,_,_,_,_=>none
 |k + 1,x1,x2,x3,x4,x11,x12,x1000,x1001=>if x12 < x3 then ((bF.f k x1000 x1001 x1 x2 x4).bind fun bt370=>(if x11.length + bt370.1.length < 1256584717458 then (bS.l0 k x1 x2 x3 x4 (x11 ++ bt370.1) (wrap64 (x12 + 1)) x1000 bt370.2) else (none))) else (some (x11,x1001))
def bS.f:Nat→List Int→Int→Int→Int→Int→Bool→Option ((List (S35)) × Int)
 |0,_,_,_,_,_,_=>none
 |k + 1,s0_0,s0_1,a1,a2,a3,a4=>bS.l0 k a1 a2 a3 a4 (([]:List (S35))) 0 s0_0 s0_1
def eU.f:Nat→List Int→Int→Int→Int→Bool→Option (Int × Int × Int × Int × Int × (List (S32)) × (List (S35)) × (List (S35)) × Int)
 |0,_,_,_,_,_=>none
 |k + 1,s0_0,s0_1,a1,a2,a3=>(aH.f k s0_0 s0_1 2).bind fun bt378=>((bI.f k s0_0 bt378.2 (wrap64 (1 + bt378.1))).bind fun bt380=>((aH.f k s0_0 bt380.2.2.2 3).bind fun bt387=>((bS.f k s0_0 bt387.2 a1 (wrap64 (a2 - 1)) bt387.1 a3).bind fun bt389=>((aH.f k s0_0 bt389.2 3).bind fun bt393=>((bS.f k s0_0 bt393.2 a1 (wrap64 (a2 - 1)) bt393.1 a3).bind fun bt395=>(some (2,0,0,bt380.1,bt380.2.1,bt380.2.2.1,bt389.1,bt395.1,bt395.2)))))))
end
mutual
def bX.l0:Nat→List (S35)→Int→Int→Option (Int)
 |0,_,_,_=>none
 |k + 1,x0,x3,x4=>if x4 < (x0.length:Int) then (if 0≤x4 then ((bX.f k ((aC x0 x4).f4)).bind fun t400=>((bX.f k ((aC x0 x4).f5)).bind fun t402=>(bX.l0 k x0 (wrap64 ((wrap64 ((wrap64 (x3 + 1)) + t400)) + t402)) (wrap64 (x4 + 1))))) else (none)) else (some x3)
def bX.f:Nat→List (S35)→Option (Int)
 |0,_=>none
 |k + 1,l0=>bX.l0 k l0 0 0
end
def eH.l0:Nat→List (S35)→List Int→Int→Option ((List (S35)) × Int)
 |0,_,_,_=>none
 |k + 1,x5,x1000,x1001=>(bX.f k x5).bind fun t409=>(if t409 > 16 then (if 0≤(wrap64 ((x5.length:Int) - 1)) then (if (wrap64 ((x5.length:Int) - 1))≤(x5.length:Int) then (eH.l0 k (x5.take ((wrap64 ((x5.length:Int) - 1)):Int).toNat) x1000 x1001) else (none)) else (none)) else (some (x5,x1001)))
def eH.f (k:Nat) (s0_0:List Int) (s0_1:Int) (a1:Int):Option ((List (S35)) × Int):=(aH.f k s0_0 s0_1 6).bind fun bt403=>((bS.f k s0_0 bt403.2 a1 3 (wrap64 (1 + bt403.1)) true).bind fun bt405=>(eH.l0 k bt405.1 s0_0 bt405.2))
def gY.f (k:Nat) (s0_0:List Int) (s0_1:Int):Option (Int × Int × Int × Int × Int × (List (S32)) × (List (S35)) × (List (S35)) × Int):=(fF.f 0 1).bind fun bt414=>((aH.f k s0_0 s0_1 2).bind fun bt419=>((bS.f k s0_0 bt419.2 0 1 bt419.1 false).bind fun bt421=>(some (3,0,0,bt414.1,bt414.2.1,bt414.2.2,bt421.1,([]:List (S35)),bt421.2))))
def KV.f (k:Nat) (s0_0:List Int) (s0_1:Int):Option ((List (S35)) × Int):=(eH.f k s0_0 s0_1 3).bind fun bt425=>((aH.f k s0_0 bt425.2 24).bind fun bt429=>(if bt429.1=0 then ((gY.f k s0_0 bt429.2).bind fun bt431=>(if bt425.1.length < 1256584717458 then (some ((bt425.1 ++ [(⟨bt431.1,bt431.2.1,bt431.2.2.1,(⟨bt431.2.2.2.1,bt431.2.2.2.2.1,bt431.2.2.2.2.2.1⟩:S32),bt431.2.2.2.2.2.2.1,bt431.2.2.2.2.2.2.2.1⟩:S35)]),bt431.2.2.2.2.2.2.2.2)) else (none))) else (if bt429.1=1 then ((some (([0,8]:List Int):List Int)).bind fun y449=>((aH.f k s0_0 bt429.2 2).bind fun bt452=>(if 0≤bt452.1 then (if bt452.1 < (y449.length:Int) then (if bt425.1.length < 1256584717458 then (some ((bt425.1 ++ [(⟨rd y449 bt452.1,0,0,(⟨0,0,([]:List (S32))⟩:S32),([]:List (S35)),([]:List (S35))⟩:S35)]),bt452.2)) else (none)) else (none)) else (none)))) else (if bt429.1=2 then ((gT.f k s0_0 bt429.2).bind fun bt458=>(if bt425.1.length < 1256584717458 then (some ((bt425.1 ++ [(⟨4,0,3,(⟨bt458.1,bt458.2.1,bt458.2.2.1⟩:S32),([]:List (S35)),([]:List (S35))⟩:S35)]),bt458.2.2.2)) else (none))) else (if bt429.1=3 then (if bt425.1.length < 1256584717458 then (some ((bt425.1 ++ [(⟨6,1,0,(⟨0,0,([]:List (S32))⟩:S32),([]:List (S35)),([]:List (S35))⟩:S35)]),bt429.2)) else (none)) else (if bt429.1=4 then ((eU.f k s0_0 bt429.2 1 1 false).bind fun bt470=>(if bt425.1.length < 1256584717458 then (some ((bt425.1 ++ [(⟨bt470.1,bt470.2.1,bt470.2.2.1,(⟨bt470.2.2.2.1,bt470.2.2.2.2.1,bt470.2.2.2.2.2.1⟩:S32),(([(⟨2,0,0,(⟨0,0,([]:List (S32))⟩:S32),(([(⟨2,0,0,(⟨0,0,([]:List (S32))⟩:S32),(([(⟨2,0,0,(⟨0,0,([]:List (S32))⟩:S32),([]:List (S35)),([]:List (S35))⟩:S35)]:List (S35))),([]:List (S35))⟩:S35)]:List (S35))),([]:List (S35))⟩:S35)]:List (S35))),bt470.2.2.2.2.2.2.2.1⟩:S35)]),bt470.2.2.2.2.2.2.2.2)) else (none))) else (if bt429.1=5 then ((gT.f k s0_0 bt429.2).bind fun bt498=>(if bt425.1.length < 1256584717458 then (some ((bt425.1 ++ [(⟨3,0,0,(⟨bt498.1,bt498.2.1,bt498.2.2.1⟩:S32),([]:List (S35)),(([(⟨6,0,0,(⟨0,0,([]:List (S32))⟩:S32),([]:List (S35)),([]:List (S35))⟩:S35)]:List (S35)))⟩:S35)]),bt498.2.2.2)) else (none))) else (some (bt425.1,bt429.2)))))))))
def lS.f (k:Nat) (l0:List Int):Option (List S35):=(mX.f l0).bind fun o=>(KV.f k o.1 o.2).bind fun s=>(aH.f k o.1 s.2 3).bind fun p=>if p.1=0 then ((eU.f k o.1 p.2 1 1 false).bind fun i=>(iR.f k o.1 i.2.2.2.2.2.2.2.2).bind fun q=>(aH.f k o.1 q.2 3).bind fun a=>(aH.f k o.1 a.2 3).bind fun b=>some [(⟨i.1,i.2.1,i.2.2.1,⟨q.1,0,[⟨0,a.1,[]⟩,⟨0,b.1,[]⟩]⟩,i.2.2.2.2.2.2.1,i.2.2.2.2.2.2.2.1⟩:S35)]) else some s.1
def kG.f (a0:Int):Option (Bool):=if a0≥1 then (some (decide (a0≤12))) else (some false)
def eZ.f:Nat→Int→Int→List (S32)→Int→Option (Bool)
 |0,_,_,_,_=>none
 |k + 1,a0_0,a0_1,l0_2,a1=>if a0_0=0 then (if a0_1≥0 then (if a0_1≤99999 then (if (l0_2.length:Int)=0 then (some (decide (a1 > 0))) else (some false)) else (some false)) else (some false)) else (if a0_0=13 then (if a0_1≥0 then (if a0_1 < 4 then (if (l0_2.length:Int)=0 then (some (decide (a1 > 0))) else (some false)) else (some false)) else (some false)) else ((kG.f a0_0).bind fun t511=>(if t511=true then (if a0_1=0 then (if (l0_2.length:Int)=2 then (if a1 > 1 then (if 0 < (l0_2.length:Int) then ((eZ.f k ((aY l0_2 0).f0) ((aY l0_2 0).f1) ((aY l0_2 0).f2) (wrap64 (a1 - 1))).bind fun t513=>(if t513=true then (if 1 < (l0_2.length:Int) then ((eZ.f k ((aY l0_2 1).f0) ((aY l0_2 1).f1) ((aY l0_2 1).f2) (wrap64 (a1 - 1))).bind fun t515=>(some t515)) else (none)) else (some false))) else (none)) else (some false)) else (some false)) else (some false)) else (some false))))
def iE.f (k:Nat) (a0_0:Int) (a0_1:Int) (l0_2:List (S32)):Option (Bool):=(eZ.f k a0_0 a0_1 l0_2 5).bind fun t517=>(some t517)
def inr (n limit:Int) (needed:Bool):Bool:=(n == 0) || (needed && (decide (n > 0) && decide (n < limit)))
def lC (k:Nat) (nv nb ne nd no:Bool) (va bx op n:Int) (la:List S32) (lb le:Nat) (boxes:Int):Option Bool:=
  if inr va 4 nv=true then (if inr bx boxes nb=true then (if nb=true∧boxes≤bx then some false else
    (if ne=true then ((iE.f k op n la).bind fun t=>if t=true then some ((nd || lb == 0) && (no || le == 0)) else some false)
     else (if op=0 then (if n=0 then (if 0 < (la.length:Int) then some false else some ((nd || lb == 0) && (no || le == 0))) else some false) else some false))) else some false) else some false
def fE.f (k:Nat) (kd va bx op n:Int) (la:List S32) (lb le:Nat) (boxes:Int):Option Bool:=
 if kd=1 then lC k true false true false false va bx op n la lb le boxes
 else if kd=2 then lC k false false true true true va bx op n la lb le boxes
 else if kd=3 then lC k false false true true false va bx op n la lb le boxes
 else if kd=4 then lC k false true true false false va bx op n la lb le boxes
 else if kd=5 then lC k true true false false false va bx op n la lb le boxes
 else if kd=7 then lC k false false true false false va bx op n la lb le boxes
 else if kd=6 then lC k false false false false false va bx op n la lb le boxes
 else some false
mutual
def dK.f:Nat→List S35→Int→Int→Int→Option (Bool × Int)
 |0,_,_,_,_=>none
 |k + 1,l,boxes,blocks,cnt=>if 16 < wrap64 (cnt + (l.length:Int)) then some (false,wrap64 (cnt + (l.length:Int))) else dK.l0 k l boxes blocks 0 (wrap64 (cnt + (l.length:Int)))
def dK.l0:Nat→List S35→Int→Int→Int→Int→Option (Bool × Int)
 |0,_,_,_,_,_=>none
 | k + 1,l,boxes,blocks,i,cnt=>if i < (l.length:Int) then (if 0≤i then
   ((fE.f k (aC l i).f0 (aC l i).f1 (aC l i).f2 (aC l i).f3.f0 (aC l i).f3.f1 (aC l i).f3.f2 (aC l i).f4.length (aC l i).f5.length boxes).bind fun t=>
    if t=true then (if 3 < blocks then some (false,cnt) else
     (if (aC l i).f0=2∨(aC l i).f0=3 then (if 3≤blocks then some (false,cnt) else
      ((dK.f k (aC l i).f4 boxes (wrap64 (blocks + 1)) cnt).bind fun p=>if p.1=true then
       ((dK.f k (aC l i).f5 boxes (wrap64 (blocks + 1)) p.2).bind fun q=>if q.1=true then dK.l0 k l boxes blocks (wrap64 (i + 1)) q.2 else some (false,q.2)) else some (false,p.2)))
     else dK.l0 k l boxes blocks (wrap64 (i + 1)) cnt)) else some (false,cnt)) else none) else some (true,cnt)
end
def gH.f (k:Nat) (l0:List (S35)) (a1:Int):Option Bool:=(dK.f k l0 a1 0 0).bind fun p=>some p.1
def oI.f (k:Nat) (l0:List (S35)):Option (Bool):=(gH.f k l0 3).bind fun t518=>(some t518)
def mG.f (a0:Bool):Option (Int):=if a0=true then (some 1) else (some 0)
def iK.f (a0:Int):Option (Int):=some (wrap64 (wrap32 (a0)))
def nS.f (a0:Int) (a1:Int) (a2:Int):Option (Int):=if a0=1 then (some (Go.bits .or .i64 a1 a2)) else (if a0=2 then (some (Go.bits .xor .i64 a1 a2)) else (if a0=3 then (some (Go.bits .and .i64 a1 a2)) else (if a0=4 then ((mG.f (a1 == a2)).bind fun t519=>(some t519)) else (if a0=5 then ((mG.f (decide (a1 < a2))).bind fun t520=>(some t520)) else (if a0=6 then (if 0≤(Go.bits .and .i64 a2 31) then ((iK.f (shl .i64 a1 (Go.bits .and .i64 a2 31))).bind fun t521=>(some t521)) else (none)) else (if a0=7 then (if 0≤(Go.bits .and .i64 a2 31) then (some (shr .i64 a1 (Go.bits .and .i64 a2 31))) else (none)) else (if a0=8 then ((iK.f (wrap64 (a1 + a2))).bind fun t522=>(some t522)) else (if a0=9 then ((iK.f (wrap64 (a1 - a2))).bind fun t523=>(some t523)) else (if a0=10 then ((iK.f (wrap64 (a1 * a2))).bind fun t524=>(some t524)) else (if a0=11 then (if a2=0 then (some (-1)) else ((iK.f (wrap64 (Int.tdiv a1 a2))).bind fun t525=>(some t525))) else (if a2=0 then (some a1) else (some (Int.tmod a1 a2)))))))))))))
mutual
def bZ.j0:Nat→Bool→Int→Int→List (S32)→Int→Int→List (S32)→Int→Int→List (S32)→Option (Int × Int × (List (S32)))
 |0,_,_,_,_,_,_,_,_,_,_=>none
 |k + 1,x32,x527000,x527001,x527002,x541000,x541001,x541002,x542000,x542001,x542002=>if x32=true then ((nS.f x527000 x541001 x542001).bind fun t542=>(if t542≥0 then (if t542≤99999 then (some (0,t542,([]:List (S32)))) else (some (x527000,0,(([(⟨x541000,x541001,x541002⟩:S32),(⟨x542000,x542001,x542002⟩:S32)]:List (S32)))))) else (some (x527000,0,(([(⟨x541000,x541001,x541002⟩:S32),(⟨x542000,x542001,x542002⟩:S32)]:List (S32))))))) else (some (x527000,0,(([(⟨x541000,x541001,x541002⟩:S32),(⟨x542000,x542001,x542002⟩:S32)]:List (S32)))))
def bZ.f:Nat→Int→Int→List (S32)→Option (Int × Int × (List (S32)))
 |0,_,_,_=>none
 |k + 1,a0_0,a0_1,l0_2=>if (l0_2.length:Int)=0 then (some (a0_0,a0_1,([]:List (S32)))) else (if 0 < (l0_2.length:Int) then ((bZ.f k ((aY l0_2 0).f0) ((aY l0_2 0).f1) ((aY l0_2 0).f2)).bind fun bt529=>(if 1 < (l0_2.length:Int) then ((bZ.f k ((aY l0_2 1).f0) ((aY l0_2 1).f1) ((aY l0_2 1).f2)).bind fun bt535=>(if bt529.1=0 then (bZ.j0 k (bt535.1 == 0) a0_0 a0_1 l0_2 bt529.1 bt529.2.1 bt529.2.2 bt535.1 bt535.2.1 bt535.2.2) else (bZ.j0 k false a0_0 a0_1 l0_2 bt529.1 bt529.2.1 bt529.2.2 bt535.1 bt535.2.1 bt535.2.2))) else (none))) else (none))
end
mutual
def aX.l0:Nat→List (S35)→List (S35)→Int→Int→Option ((List (S35)))
 |0,_,_,_,_=>none
 |k + 1,x3,x7,x8,x9=>if x9 < x8 then (if 0≤x9 then (if x9 < (x7.length:Int) then ((aX.f k ((aC x7 x9).f4)).bind fun t554=>((aX.f k ((aC x7 x9).f5)).bind fun t557=>((bZ.f k ((aC x7 x9).f3.f0) ((aC x7 x9).f3.f1) ((aC x7 x9).f3.f2)).bind fun bt560=>(if ((aC x7 x9).f0)=2 then (if bt560.1=0 then (aX.j1 k x3 (bt560.1 == 0) x7 x8 x9 (bt560.2.1 != 0) ((aC x7 x9).f0) ((aC x7 x9).f1) ((aC x7 x9).f2) bt560.1 bt560.2.1 bt560.2.2 t554 t557) else (aX.j1 k x3 (bt560.1 == 0) x7 x8 x9 false ((aC x7 x9).f0) ((aC x7 x9).f1) ((aC x7 x9).f2) bt560.1 bt560.2.1 bt560.2.2 t554 t557)) else (aX.j1 k x3 (bt560.1 == 0) x7 x8 x9 false ((aC x7 x9).f0) ((aC x7 x9).f1) ((aC x7 x9).f2) bt560.1 bt560.2.1 bt560.2.2 t554 t557))))) else (none)) else (none)) else (some x3)
def aX.j1:Nat→List (S35)→Bool→List (S35)→Int→Int→Bool→Int→Int→Int→Int→Int→List (S32)→List (S35)→List (S35)→Option ((List (S35)))
 |0,_,_,_,_,_,_,_,_,_,_,_,_,_,_=>none
 |k + 1,x3,x6,x7,x8,x9,x33,x554000,x554001,x554002,x554003,x554004,x554005,x554006,x554007=>if x33=true then (if x3.length + x554006.length < 1256584717458 then (aX.l0 k (x3 ++ x554006) x7 x8 (wrap64 (x9 + 1))) else (none)) else (if x554000=2 then (aX.j2 k x3 x6 x7 x8 x9 x6 x554000 x554001 x554002 x554003 x554004 x554005 x554006 x554007) else (aX.j2 k x3 x6 x7 x8 x9 false x554000 x554001 x554002 x554003 x554004 x554005 x554006 x554007))
def aX.j2:Nat→List (S35)→Bool→List (S35)→Int→Int→Bool→Int→Int→Int→Int→Int→List (S32)→List (S35)→List (S35)→Option ((List (S35)))
 |0,_,_,_,_,_,_,_,_,_,_,_,_,_,_=>none
 |k + 1,x3,x6,x7,x8,x9,x50,x554000,x554001,x554002,x554003,x554004,x554005,x554006,x554007=>if x50=true then (if x3.length + x554007.length < 1256584717458 then (aX.l0 k (x3 ++ x554007) x7 x8 (wrap64 (x9 + 1))) else (none)) else (if x554000=3 then (if x6=true then (if x554004=0 then (aX.l0 k x3 x7 x8 (wrap64 (x9 + 1))) else (if x3.length < 1256584717458 then (aX.l0 k (x3 ++ [(⟨x554000,x554001,x554002,(⟨x554003,x554004,x554005⟩:S32),x554006,x554007⟩:S35)]) x7 x8 (wrap64 (x9 + 1))) else (none))) else (if x3.length < 1256584717458 then (aX.l0 k (x3 ++ [(⟨x554000,x554001,x554002,(⟨x554003,x554004,x554005⟩:S32),x554006,x554007⟩:S35)]) x7 x8 (wrap64 (x9 + 1))) else (none))) else (if x3.length < 1256584717458 then (aX.l0 k (x3 ++ [(⟨x554000,x554001,x554002,(⟨x554003,x554004,x554005⟩:S32),x554006,x554007⟩:S35)]) x7 x8 (wrap64 (x9 + 1))) else (none)))
def aX.f:Nat→List (S35)→Option ((List (S35)))
 |0,_=>none
 |k + 1,l0=>aX.l0 k ([]:List (S35)) l0 (l0.length:Int) 0
end
def iO.f (k:Nat) (l0:List (S35)):Option ((List (S35)) × Bool):=(oI.f k l0).bind fun t580=>(if t580=true then ((aX.f k l0).bind fun t581=>(some (t581,true))) else (some (([]:List (S35)),false)))
def fV.f (a0:Int) (a1:Int) (a2:Int):Option (Bool):=if a0≥a1 then (some (decide (a0≤a2))) else (some false)
def fH.f (a0_0:Int) (a0_1:Int) (a0_2:Int) (a0_3:Int) (a0_4:Int) (l0_5:List (S32)) (l0_6:List (S35)) (l0_7:List (S35)) (a1:Bool):Option (Bool):=if a1=true then ((fV.f a0_1 0 3).bind fun t585=>(some t585)) else (some (a0_1 == 0))
def gD.f (a0_0:Int) (a0_1:Int) (a0_2:Int) (a0_3:Int) (a0_4:Int) (l0_5:List (S32)) (l0_6:List (S35)) (l0_7:List (S35)) (a1:Bool):Option (Bool):=if a1=true then ((fV.f a0_2 0 2).bind fun t587=>(some t587)) else (some (a0_2 == 0))
def iD.f (a0:Int):Option (Bool):=(fV.f a0 1 12).bind fun t588=>(some t588)
def gX.f:Nat→Int→Int→List (S32)→Int→Option (Bool)
 |0,_,_,_,_=>none
 |k + 1,a0_0,a0_1,l0_2,a1=>if a1 < 1 then (some false) else (if a0_0=0 then ((fV.f a0_1 0 99999).bind fun t590=>(if t590=true then (some ((l0_2.length:Int) == 0)) else (some false))) else (if a0_0=13 then ((fV.f a0_1 0 3).bind fun t591=>(if t591=true then (some ((l0_2.length:Int) == 0)) else (some false))) else ((iD.f a0_0).bind fun t592=>(if t592=true then (if a0_1=0 then (if (l0_2.length:Int)=2 then (if 0 < (l0_2.length:Int) then ((gX.f k ((aY l0_2 0).f0) ((aY l0_2 0).f1) ((aY l0_2 0).f2) (wrap64 (a1 - 1))).bind fun t594=>(if t594=true then (if 1 < (l0_2.length:Int) then ((gX.f k ((aY l0_2 1).f0) ((aY l0_2 1).f1) ((aY l0_2 1).f2) (wrap64 (a1 - 1))).bind fun t596=>(some t596)) else (none)) else (some false))) else (none)) else (some false)) else (some false)) else (some false)))))
def fA.f (k:Nat) (a0_0:Int) (a0_1:Int) (l0_2:List (S32)):Option (Bool):=(gX.f k a0_0 a0_1 l0_2 5).bind fun t598=>(some t598)
def lN.f (a0_0:Int) (a0_1:Int) (l0_2:List (S32)):Option (Bool):=if a0_0=0 then (if a0_1=0 then (some ((l0_2.length:Int) == 0)) else (some false)) else (some false)
def dY.j0:Nat→Bool→Int→Int→Int→Int→Int→List (S32)→List (S35)→List (S35)→Option (Bool)
 |0,_,_,_,_,_,_,_,_,_=>none
 |k + 1,x12,x601000,x601001,x601002,x601003,x601004,x601005,x601006,x601007=>if x12=true then (some false) else (if x601000=1 then ((fH.f x601000 x601001 x601002 x601003 x601004 x601005 x601006 x601007 true).bind fun t601=>(if t601=true then ((gD.f x601000 x601001 x601002 x601003 x601004 x601005 x601006 x601007 false).bind fun t602=>(if t602=true then ((fA.f k x601003 x601004 x601005).bind fun t603=>(some t603)) else (some false))) else (some false))) else (if x601000=4 then ((fH.f x601000 x601001 x601002 x601003 x601004 x601005 x601006 x601007 false).bind fun t604=>(if t604=true then ((gD.f x601000 x601001 x601002 x601003 x601004 x601005 x601006 x601007 true).bind fun t605=>(if t605=true then ((fA.f k x601003 x601004 x601005).bind fun t606=>(some t606)) else (some false))) else (some false))) else (if x601000=5 then ((fH.f x601000 x601001 x601002 x601003 x601004 x601005 x601006 x601007 true).bind fun t607=>(if t607=true then ((gD.f x601000 x601001 x601002 x601003 x601004 x601005 x601006 x601007 true).bind fun t608=>(if t608=true then ((lN.f x601003 x601004 x601005).bind fun t609=>(some t609)) else (some false))) else (some false))) else (if x601000=6 then ((fH.f x601000 x601001 x601002 x601003 x601004 x601005 x601006 x601007 false).bind fun t610=>(if t610=true then ((gD.f x601000 x601001 x601002 x601003 x601004 x601005 x601006 x601007 false).bind fun t611=>(if t611=true then ((lN.f x601003 x601004 x601005).bind fun t612=>(some t612)) else (some false))) else (some false))) else (if x601000=7 then ((fH.f x601000 x601001 x601002 x601003 x601004 x601005 x601006 x601007 false).bind fun t613=>(if t613=true then ((gD.f x601000 x601001 x601002 x601003 x601004 x601005 x601006 x601007 false).bind fun t614=>(if t614=true then ((fA.f k x601003 x601004 x601005).bind fun t615=>(some t615)) else (some false))) else (some false))) else (some false))))))
def dY.f (k:Nat) (a0_0:Int) (a0_1:Int) (a0_2:Int) (a0_3:Int) (a0_4:Int) (l0_5:List (S32)) (l0_6:List (S35)) (l0_7:List (S35)):Option (Bool):=if (l0_6.length:Int) > 0 then (dY.j0 k true a0_0 a0_1 a0_2 a0_3 a0_4 l0_5 l0_6 l0_7) else (dY.j0 k (decide ((l0_7.length:Int) > 0)) a0_0 a0_1 a0_2 a0_3 a0_4 l0_5 l0_6 l0_7)
mutual
def dI.j0:Nat→Int→Bool→Int→Int→Int→Int→Int→List (S32)→List (S35)→List (S35)→Option (Bool)
 |0,_,_,_,_,_,_,_,_,_,_=>none
 |k + 1,x1,x12,x617000,x617001,x617002,x617003,x617004,x617005,x617006,x617007=>if x12=true then ((dY.f k x617000 x617001 x617002 x617003 x617004 x617005 x617006 x617007).bind fun t617=>(some t617)) else (if x1 < 1 then (dI.j1 k x1 true x617000 x617001 x617002 x617003 x617004 x617005 x617006 x617007) else (if x617000=3 then (dI.j1 k x1 (decide ((x617007.length:Int) > 0)) x617000 x617001 x617002 x617003 x617004 x617005 x617006 x617007) else (dI.j1 k x1 false x617000 x617001 x617002 x617003 x617004 x617005 x617006 x617007)))
def dI.j1:Nat→Int→Bool→Int→Int→Int→Int→Int→List (S32)→List (S35)→List (S35)→Option (Bool)
 |0,_,_,_,_,_,_,_,_,_,_=>none
 |k + 1,x1,x27,x617000,x617001,x617002,x617003,x617004,x617005,x617006,x617007=>if x27=true then (some false) else ((fH.f x617000 x617001 x617002 x617003 x617004 x617005 x617006 x617007 false).bind fun t618=>(if t618=true then ((gD.f x617000 x617001 x617002 x617003 x617004 x617005 x617006 x617007 false).bind fun t619=>(if t619=true then ((fA.f k x617003 x617004 x617005).bind fun t620=>(if t620=true then ((dB.f k x617006 (wrap64 (x1 - 1))).bind fun t621=>(if t621=true then ((dB.f k x617007 (wrap64 (x1 - 1))).bind fun t622=>(some t622)) else (some false))) else (some false))) else (some false))) else (some false)))
def dI.f:Nat→Int→Int→Int→Int→Int→List (S32)→List (S35)→List (S35)→Int→Option (Bool)
 |0,_,_,_,_,_,_,_,_,_=>none
 |k + 1,a0_0,a0_1,a0_2,a0_3,a0_4,l0_5,l0_6,l0_7,a1=>if a0_0=2 then (dI.j0 k a1 false a0_0 a0_1 a0_2 a0_3 a0_4 l0_5 l0_6 l0_7) else (dI.j0 k a1 (a0_0 != 3) a0_0 a0_1 a0_2 a0_3 a0_4 l0_5 l0_6 l0_7)
def dB.l0:Nat→List (S35)→Int→Int→Option (Bool)
 |0,_,_,_=>none
 |k + 1,x0,x1,x5=>if x5 < (x0.length:Int) then (if 0≤x5 then ((dI.f k ((aC x0 x5).f0) ((aC x0 x5).f1) ((aC x0 x5).f2) ((aC x0 x5).f3.f0) ((aC x0 x5).f3.f1) ((aC x0 x5).f3.f2) ((aC x0 x5).f4) ((aC x0 x5).f5) x1).bind fun t624=>(if t624=true then (dB.l0 k x0 x1 (wrap64 (x5 + 1))) else (some false))) else (none)) else (some true)
def dB.f:Nat→List (S35)→Int→Option (Bool)
 |0,_,_=>none
 |k + 1,l0,a1=>dB.l0 k l0 a1 0
end
def gI.f (k:Nat) (l0:List (S35)):Option (Bool):=(dB.f k l0 3).bind fun t625=>(if t625=true then ((bX.f k l0).bind fun t626=>(some (decide (t626≤16)))) else (some false))
def iQ.f (a0:Int):Option (Bool):=(fV.f a0 (-2147483648) 2147483647).bind fun t627=>(some t627)
def mW.f (a0:Bool):Option (Int):=if a0=true then (some 1) else (some 0)
def kL.f (a0:Int):Option (Int):=if (Int.tmod a0 4294967296) > 2147483647 then (some (wrap64 ((Int.tmod a0 4294967296) - 4294967296))) else (if (Int.tmod a0 4294967296) < (-2147483648) then (some (wrap64 ((Int.tmod a0 4294967296) + 4294967296))) else (some (Int.tmod a0 4294967296)))
def mE.f (a0:Int) (a1:Int) (a2:Bool):Option (Int):=if a2=true then (if 0≤(Go.bits .and .i64 a1 31) then (some (shr .i64 a0 (Go.bits .and .i64 a1 31))) else (none)) else (if 0≤(Go.bits .and .i64 a1 31) then ((kL.f (shl .i64 a0 (Go.bits .and .i64 a1 31))).bind fun t628=>(some t628)) else (none))
def oG.f (a0:Int) (a1:Int):Option (Int):=if a1=0 then (some (-1)) else ((kL.f (wrap64 (Int.tdiv a0 a1))).bind fun t629=>(some t629))
def oH.f (a0:Int) (a1:Int):Option (Int):=if a1=0 then (some a0) else (some (Int.tmod a0 a1))
def fP.j0:Nat→Int→Int→Int→Bool→Option (Int × Bool)
 |0,_,_,_,_=>none
 |k + 1,x0,x1,x2,x20=>if x20=true then (some (0,false)) else (if x0=1 then (some (Go.bits .or .i64 x1 x2,true)) else (if x0=2 then (some (Go.bits .xor .i64 x1 x2,true)) else (if x0=3 then (some (Go.bits .and .i64 x1 x2,true)) else (if x0=4 then ((mW.f (x1 == x2)).bind fun t633=>(some (t633,true))) else (if x0=5 then ((mW.f (decide (x1 < x2))).bind fun t634=>(some (t634,true))) else (if x0=6 then ((mE.f x1 x2 false).bind fun t635=>(some (t635,true))) else (if x0=7 then ((mE.f x1 x2 true).bind fun t636=>(some (t636,true))) else (if x0=8 then ((kL.f (wrap64 (x1 + x2))).bind fun t637=>(some (t637,true))) else (if x0=9 then ((kL.f (wrap64 (x1 - x2))).bind fun t638=>(some (t638,true))) else (if x0=10 then ((kL.f (wrap64 (x1 * x2))).bind fun t639=>(some (t639,true))) else (if x0=11 then ((oG.f x1 x2).bind fun t640=>(some (t640,true))) else ((oH.f x1 x2).bind fun t641=>(some (t641,true))))))))))))))
def fP.f (k:Nat) (a0:Int) (a1:Int) (a2:Int):Option (Int × Bool):=(iD.f a0).bind fun t630=>(if t630=true then ((iQ.f a1).bind fun t631=>(if t631=true then ((iQ.f a2).bind fun t632=>(fP.j0 k a0 a1 a2 (!t632))) else (fP.j0 k a0 a1 a2 true))) else (fP.j0 k a0 a1 a2 true))
mutual
def eP.j0:Nat→Bool→Int→Int→List (S32)→Int→Int→List (S32)→Int→Int→List (S32)→Option (Int × Int × (List (S32)))
 |0,_,_,_,_,_,_,_,_,_,_=>none
 |k + 1,x33,x643000,x643001,x643002,x656000,x656001,x656002,x663000,x663001,x663002=>if x33=true then ((fP.f k x643000 x656001 x663001).bind fun bt663=>((fV.f bt663.1 0 99999).bind fun t665=>(if t665=true then ((fF.f 0 bt663.1).bind fun bt666=>(some (bt666.1,bt666.2.1,bt666.2.2))) else ((kD.f x643000 x656000 x656001 x656002 x663000 x663001 x663002).bind fun bt671=>(some (bt671.1,bt671.2.1,bt671.2.2)))))) else ((kD.f x643000 x656000 x656001 x656002 x663000 x663001 x663002).bind fun bt676=>(some (bt676.1,bt676.2.1,bt676.2.2)))
def eP.f:Nat→Int→Int→List (S32)→Option (Int × Int × (List (S32)))
 |0,_,_,_=>none
 |k + 1,a0_0,a0_1,l0_2=>if (l0_2.length:Int)=0 then ((fF.f a0_0 a0_1).bind fun bt644=>(some (bt644.1,bt644.2.1,bt644.2.2))) else (if 0 < (l0_2.length:Int) then ((eP.f k ((aY l0_2 0).f0) ((aY l0_2 0).f1) ((aY l0_2 0).f2)).bind fun bt650=>(if 1 < (l0_2.length:Int) then ((eP.f k ((aY l0_2 1).f0) ((aY l0_2 1).f1) ((aY l0_2 1).f2)).bind fun bt657=>(if bt650.1=0 then (eP.j0 k (bt657.1 == 0) a0_0 a0_1 l0_2 bt650.1 bt650.2.1 bt650.2.2 bt657.1 bt657.2.1 bt657.2.2) else (eP.j0 k false a0_0 a0_1 l0_2 bt650.1 bt650.2.1 bt650.2.2 bt657.1 bt657.2.1 bt657.2.2))) else (none))) else (none))
end
def IJ (x:S35) (op n:Int) (a:List S32) (b l:List S35):List S35:=if (x.f0 == 2 && (op == 0 && n != 0))=true then b else if (x.f0 == 2 && op == 0)=true then l else if (x.f0 == 3 && (op == 0 && n == 0))=true then [] else [⟨x.f0,x.f1,x.f2,⟨op,n,a⟩,b,l⟩]
mutual
def bM.l0:Nat→List S35→List S35→Int→Option (List S35)
 |0,_,_,_=>none
 |k + 1,l0,x3,x4=>if x4 < (l0.length:Int) then (if 0≤x4 then ((gJ.f k (aC l0 x4)).bind fun y=>if x3.length + y.length < 1256584717458 then bM.l0 k l0 (x3 ++ y) (wrap64 (x4 + 1)) else none) else none) else some x3
def bM.f:Nat→List S35→Option (List S35)
 |0,_=>none
 |k + 1,l0=>bM.l0 k l0 [] 0
def gJ.f:Nat→S35→Option (List S35)
 |0,_=>none
 |k + 1,x=>(eP.f k x.f3.f0 x.f3.f1 x.f3.f2).bind fun e=>(bM.f k x.f4).bind fun b=>(bM.f k x.f5).bind fun l=>some (IJ x e.1 e.2.1 e.2.2 b l)
end
def nT.f (k:Nat) (l0:List (S35)):Option ((List (S35)) × Bool):=(gI.f k l0).bind fun t681=>(if t681=true then ((bM.f k l0).bind fun t682=>(some (t682,true))) else (some ((([]:List (S35))),false)))
mutual
def bH.j0:Nat→Bool→Int→Int→List (S32)→Int→Int→List (S32)→Option (Bool)
 |0,_,_,_,_,_,_,_=>none
 |k + 1,x26,x689000,x689001,x689002,x690000,x690001,x690002=>if x26=true then (some false) else (bH.l0 k 0 x689000 x689001 x689002 x690000 x690001 x690002)
def bH.l0:Nat→Int→Int→Int→List (S32)→Int→Int→List (S32)→Option (Bool)
 |0,_,_,_,_,_,_,_=>none
 |k + 1,x5,x689000,x689001,x689002,x690000,x690001,x690002=>if x5 < (x689002.length:Int) then (if 0≤x5 then (if x5 < (x690002.length:Int) then ((bH.f k ((aY x689002 x5).f0) ((aY x689002 x5).f1) ((aY x689002 x5).f2) ((aY x690002 x5).f0) ((aY x690002 x5).f1) ((aY x690002 x5).f2)).bind fun t692=>(if t692=true then (bH.l0 k (wrap64 (x5 + 1)) x689000 x689001 x689002 x690000 x690001 x690002) else (some false))) else (none)) else (none)) else (some true)
def bH.f:Nat→Int→Int→List (S32)→Int→Int→List (S32)→Option (Bool)
 |0,_,_,_,_,_,_=>none
 |k + 1,a0_0,a0_1,l0_2,a1_0,a1_1,l1_2=>if a0_0=a1_0 then (if a0_1=a1_1 then (bH.j0 k ((l0_2.length:Int) != (l1_2.length:Int)) a0_0 a0_1 l0_2 a1_0 a1_1 l1_2) else (bH.j0 k true a0_0 a0_1 l0_2 a1_0 a1_1 l1_2)) else (bH.j0 k true a0_0 a0_1 l0_2 a1_0 a1_1 l1_2)
end
mutual
def bE.l0:Nat→List (S35)→List (S35)→Int→Option (Bool)
 |0,_,_,_=>none
 |k + 1,x0,x1,x5=>if x5 < (x0.length:Int) then (if 0≤x5 then (if x5 < (x1.length:Int) then (if ((aC x0 x5).f0)=((aC x1 x5).f0) then (if ((aC x0 x5).f1)=((aC x1 x5).f1) then (if ((aC x0 x5).f2)=((aC x1 x5).f2) then ((bH.f k ((aC x0 x5).f3.f0) ((aC x0 x5).f3.f1) ((aC x0 x5).f3.f2) ((aC x1 x5).f3.f0) ((aC x1 x5).f3.f1) ((aC x1 x5).f3.f2)).bind fun t697=>(bE.j1 k x0 x1 x5 (!t697) ((aC x0 x5).f0) ((aC x0 x5).f1) ((aC x0 x5).f2) ((aC x0 x5).f3.f0) ((aC x0 x5).f3.f1) ((aC x0 x5).f3.f2) ((aC x0 x5).f4) ((aC x0 x5).f5) ((aC x1 x5).f0) ((aC x1 x5).f1) ((aC x1 x5).f2) ((aC x1 x5).f3.f0) ((aC x1 x5).f3.f1) ((aC x1 x5).f3.f2) ((aC x1 x5).f4) ((aC x1 x5).f5))) else (bE.j1 k x0 x1 x5 true ((aC x0 x5).f0) ((aC x0 x5).f1) ((aC x0 x5).f2) ((aC x0 x5).f3.f0) ((aC x0 x5).f3.f1) ((aC x0 x5).f3.f2) ((aC x0 x5).f4) ((aC x0 x5).f5) ((aC x1 x5).f0) ((aC x1 x5).f1) ((aC x1 x5).f2) ((aC x1 x5).f3.f0) ((aC x1 x5).f3.f1) ((aC x1 x5).f3.f2) ((aC x1 x5).f4) ((aC x1 x5).f5))) else (bE.j1 k x0 x1 x5 true ((aC x0 x5).f0) ((aC x0 x5).f1) ((aC x0 x5).f2) ((aC x0 x5).f3.f0) ((aC x0 x5).f3.f1) ((aC x0 x5).f3.f2) ((aC x0 x5).f4) ((aC x0 x5).f5) ((aC x1 x5).f0) ((aC x1 x5).f1) ((aC x1 x5).f2) ((aC x1 x5).f3.f0) ((aC x1 x5).f3.f1) ((aC x1 x5).f3.f2) ((aC x1 x5).f4) ((aC x1 x5).f5))) else (bE.j1 k x0 x1 x5 true ((aC x0 x5).f0) ((aC x0 x5).f1) ((aC x0 x5).f2) ((aC x0 x5).f3.f0) ((aC x0 x5).f3.f1) ((aC x0 x5).f3.f2) ((aC x0 x5).f4) ((aC x0 x5).f5) ((aC x1 x5).f0) ((aC x1 x5).f1) ((aC x1 x5).f2) ((aC x1 x5).f3.f0) ((aC x1 x5).f3.f1) ((aC x1 x5).f3.f2) ((aC x1 x5).f4) ((aC x1 x5).f5))) else (none)) else (none)) else (some true)
def bE.j1:Nat→List (S35)→List (S35)→Int→Bool→Int→Int→Int→Int→Int→List (S32)→List (S35)→List (S35)→Int→Int→Int→Int→Int→List (S32)→List (S35)→List (S35)→Option (Bool)
 |0,_,_,_,_,_,_,_,_,_,_,_,_,_,_,_,_,_,_,_,_=>none
 |k + 1,x0,x1,x5,x53,x695000,x695001,x695002,x695003,x695004,x695005,x695006,x695007,x697000,x697001,x697002,x697003,x697004,x697005,x697006,x697007=>if x53=true then (some false) else ((bE.f k x695006 x697006).bind fun t698=>(if t698=true then ((bE.f k x695007 x697007).bind fun t699=>(if t699=true then (bE.l0 k x0 x1 (wrap64 (x5 + 1))) else (some false))) else (some false)))
def bE.f:Nat→List (S35)→List (S35)→Option (Bool)
 |0,_,_=>none
 |k + 1,l0,l1=>if (l0.length:Int)=(l1.length:Int) then (bE.l0 k l0 l1 0) else (some false)
end
mutual
def iI.j0:Nat→List Int→List Int→Bool→Option (Bool)
 |0,_,_,_=>none
 |k + 1,x0,x1,x22=>if x22=true then (some true) else ((lS.f k x0).bind fun t700=>((iO.f k t700).bind fun bt703=>((nT.f k t700).bind fun bt707=>(if (bt703.2 != bt707.2)=true then (iI.j1 k x1 t700 bt703.1 bt703.2 bt707.1 bt707.2 true) else ((bE.f k bt703.1 bt707.1).bind fun t711=>(if t711=true then (iI.j1 k x1 t700 bt703.1 bt703.2 bt707.1 bt707.2 (!bt703.2)) else (iI.j1 k x1 t700 bt703.1 bt703.2 bt707.1 bt707.2 true)))))))
def iI.j1:Nat→List Int→List (S35)→List (S35)→Bool→List (S35)→Bool→Bool→Option (Bool)
 |0,_,_,_,_,_,_,_=>none
 |k + 1,x1,x5,x6,x7,x8,x9,x47=>if x47=true then (if (x7 == x9)=true then ((bE.f k x6 x8).bind fun t712=>(some t712)) else (some false)) else (if (wrap64 ((x5.length:Int) + 1))=0 then (none) else (if 0≤((x1.length:Int) % (wrap64 ((x5.length:Int) + 1))) then (if ((x1.length:Int) % (wrap64 ((x5.length:Int) + 1)))≤(x5.length:Int) then ((iO.f k (x5.take (((x1.length:Int) % (wrap64 ((x5.length:Int) + 1))):Int).toNat)).bind fun bt718=>((iO.f k (x5.drop (((x1.length:Int) % (wrap64 ((x5.length:Int) + 1))):Int).toNat)).bind fun bt727=>(if bt718.2=true then (if bt727.2=true then ((some (([]:List (S35)):List (S35))).bind fun y731=>(if y731.length + bt718.1.length < 1256584717458 then ((some (y731 ++ bt718.1:List (S35))).bind fun y734=>(if y734.length + bt727.1.length < 1256584717458 then ((bE.f k x6 (y734 ++ bt727.1)).bind fun t740=>(some t740)) else (none))) else (none))) else (some false)) else (some false)))) else (none)) else (none)))
end
def iI.f (k:Nat) (l0:List Int) (l1:List Int):Option (Bool):=if (l0.length:Int) > 1048576 then (iI.j0 k l0 l1 true) else (iI.j0 k l0 l1 (decide ((l1.length:Int) > 1048576)))
def lW.j0:Nat→List (S35)→Bool→List (S35)→Bool→Bool→Option (Bool)
 |0,_,_,_,_,_=>none
 |k + 1,x4,x5,x6,x7,x37=>if x37=true then (if (x5 == x7)=true then ((bE.f k x4 x6).bind fun t753=>(some t753)) else (some false)) else ((iO.f k x4).bind fun bt754=>(if bt754.2=true then ((bE.f k bt754.1 x4).bind fun t758=>(some t758)) else (some false)))
def lW.f (k:Nat) (l0:List Int):Option (Bool):=if (l0.length:Int) > 1048576 then (some true) else ((lS.f k l0).bind fun t741=>((iO.f k t741).bind fun bt744=>((nT.f k t741).bind fun bt748=>(if (bt744.2 != bt748.2)=true then (lW.j0 k bt744.1 bt744.2 bt748.1 bt748.2 true) else ((bE.f k bt744.1 bt748.1).bind fun t752=>(if t752=true then (lW.j0 k bt744.1 bt744.2 bt748.1 bt748.2 (!bt744.2)) else (lW.j0 k bt744.1 bt744.2 bt748.1 bt748.2 true)))))))
def aBb.f (a0:Int):Option (Int × Int × (List (S32))):=some (0,a0,([]:List (S32)))
def MZ.f (k:Nat) (l0:List Int):Option Bool:=if (l0.length:Int) > 1048576 then some true else (lS.f k l0).bind fun t=>(iO.f k t).bind fun a=>(nT.f k t).bind fun b=>if a.2=b.2 then ((bE.f k a.1 b.1).bind fun e=>if e=true then (if a.2=true then ((iO.f k [(⟨2,0,0,⟨0,1,[]⟩,t,[]⟩:S35)]).bind fun p=>(iO.f k [(⟨2,0,0,⟨0,0,[]⟩,t,[]⟩:S35)]).bind fun q=>(oI.f k [(⟨2,0,0,⟨0,1,[]⟩,t,[]⟩:S35)]).bind fun v=>if v=true then (if p.2=true then (if q.2=true then ((bE.f k p.1 a.1).bind fun s=>if s=true then some ((q.1.length:Int) == 0) else none) else none) else none) else (if p.2=false then (if q.2=false then some true else none) else none)) else some true) else none) else none
mutual
def kZ.l0:Nat→Int→List (S35)→Int→Int→Option (Int)
 |0,_,_,_,_=>none
 |k + 1,x3,x8,x9,x10=>if x10 < x9 then (if 0≤x10 then (if x10 < (x8.length:Int) then ((kZ.f k ((aC x8 x10).f4)).bind fun t762=>((kZ.f k ((aC x8 x10).f5)).bind fun t763=>(kZ.l0 k (wrap64 (x3 + (wrap64 (t762 + t763)))) x8 x9 (wrap64 (x10 + 1))))) else (none)) else (none)) else (some x3)
def kZ.f:Nat→List (S35)→Option (Int)
 |0,_=>none
 |k + 1,l0=>kZ.l0 k (l0.length:Int) l0 (l0.length:Int) 0
end
def vV.f (k:Nat) (l0:List (S35)):Option (Int):=(oI.f k l0).bind fun t764=>(if t764=true then ((kZ.f k l0).bind fun t765=>(some t765)) else (some (-1)))
def nW.j0:Nat→List (S35)→List (S35)→Bool→List (S35)→Bool→Bool→Option (Bool)
 |0,_,_,_,_,_,_=>none
 |k + 1,x3,x4,x5,x6,x7,x35=>if x35=true then (if (x5 == x7)=true then ((bE.f k x4 x6).bind fun t778=>(some t778)) else (some false)) else ((oI.f k x4).bind fun t779=>(if t779=true then ((vV.f k x4).bind fun t780=>((vV.f k x3).bind fun t781=>(some (decide (t780≤t781))))) else (some false)))
def nW.f (k:Nat) (l0:List Int):Option (Bool):=if (l0.length:Int) > 1048576 then (some true) else ((lS.f k l0).bind fun t766=>((iO.f k t766).bind fun bt769=>((nT.f k t766).bind fun bt773=>(if (bt769.2 != bt773.2)=true then (nW.j0 k t766 bt769.1 bt769.2 bt773.1 bt773.2 true) else ((bE.f k bt769.1 bt773.1).bind fun t777=>(if t777=true then (nW.j0 k t766 bt769.1 bt769.2 bt773.1 bt773.2 (!bt769.2)) else (nW.j0 k t766 bt769.1 bt769.2 bt773.1 bt773.2 true)))))))
mutual
def kK.l0:Nat→List (S35)→Int→Option (Bool)
 |0,_,_=>none
 |k + 1,x0,x3=>if x3 < (x0.length:Int) then (if 0≤x3 then (if ((aC x0 x3).f0)=2 then (if ((aC x0 x3).f3.f0)=0 then (kK.j1 k x0 x3 true ((aC x0 x3).f0) ((aC x0 x3).f1) ((aC x0 x3).f2) ((aC x0 x3).f3.f0) ((aC x0 x3).f3.f1) ((aC x0 x3).f3.f2) ((aC x0 x3).f4) ((aC x0 x3).f5)) else (if ((aC x0 x3).f0)=3 then (kK.j1 k x0 x3 false ((aC x0 x3).f0) ((aC x0 x3).f1) ((aC x0 x3).f2) ((aC x0 x3).f3.f0) ((aC x0 x3).f3.f1) ((aC x0 x3).f3.f2) ((aC x0 x3).f4) ((aC x0 x3).f5)) else (kK.j1 k x0 x3 false ((aC x0 x3).f0) ((aC x0 x3).f1) ((aC x0 x3).f2) ((aC x0 x3).f3.f0) ((aC x0 x3).f3.f1) ((aC x0 x3).f3.f2) ((aC x0 x3).f4) ((aC x0 x3).f5)))) else (if ((aC x0 x3).f0)=3 then (if ((aC x0 x3).f3.f0)=0 then (kK.j1 k x0 x3 (((aC x0 x3).f3.f1) == 0) ((aC x0 x3).f0) ((aC x0 x3).f1) ((aC x0 x3).f2) ((aC x0 x3).f3.f0) ((aC x0 x3).f3.f1) ((aC x0 x3).f3.f2) ((aC x0 x3).f4) ((aC x0 x3).f5)) else (kK.j1 k x0 x3 false ((aC x0 x3).f0) ((aC x0 x3).f1) ((aC x0 x3).f2) ((aC x0 x3).f3.f0) ((aC x0 x3).f3.f1) ((aC x0 x3).f3.f2) ((aC x0 x3).f4) ((aC x0 x3).f5))) else (kK.j1 k x0 x3 false ((aC x0 x3).f0) ((aC x0 x3).f1) ((aC x0 x3).f2) ((aC x0 x3).f3.f0) ((aC x0 x3).f3.f1) ((aC x0 x3).f3.f2) ((aC x0 x3).f4) ((aC x0 x3).f5)))) else (none)) else (some false)
def kK.j1:Nat→List (S35)→Int→Bool→Int→Int→Int→Int→Int→List (S32)→List (S35)→List (S35)→Option (Bool)
 |0,_,_,_,_,_,_,_,_,_,_,_=>none
 |k + 1,x0,x3,x40,x784000,x784001,x784002,x784003,x784004,x784005,x784006,x784007=>if x40=true then (some true) else ((kK.f k x784006).bind fun t784=>(if t784=true then (some true) else ((kK.f k x784007).bind fun t785=>(if t785=true then (some true) else (kK.l0 k x0 (wrap64 (x3 + 1)))))))
def kK.f:Nat→List (S35)→Option (Bool)
 |0,_=>none
 |k + 1,l0=>kK.l0 k l0 0
end
mutual
def kF.l0:Nat→List (S35)→Int→Int→Int→Option (Int)
 |0,_,_,_,_=>none
 |k + 1,x0,x1,x5,x6=>if x6 < (x0.length:Int) then (if 0≤x6 then (if ((aC x0 x6).f0)=x1 then ((kF.f k ((aC x0 x6).f4) x1).bind fun t788=>((kF.f k ((aC x0 x6).f5) x1).bind fun t790=>(kF.l0 k x0 x1 (wrap64 ((wrap64 ((wrap64 (x5 + 1)) + t788)) + t790)) (wrap64 (x6 + 1))))) else ((kF.f k ((aC x0 x6).f4) x1).bind fun t792=>((kF.f k ((aC x0 x6).f5) x1).bind fun t794=>(kF.l0 k x0 x1 (wrap64 ((wrap64 (x5 + t792)) + t794)) (wrap64 (x6 + 1)))))) else (none)) else (some x5)
def kF.f:Nat→List (S35)→Int→Option (Int)
 |0,_,_=>none
 |k + 1,l0,a1=>kF.l0 k l0 a1 0 0
end
def nC.j0:Nat→List (S35)→List (S35)→Bool→List (S35)→Bool→Bool→Option (Bool)
 |0,_,_,_,_,_,_=>none
 |k + 1,x3,x4,x5,x6,x7,x35=>if x35=true then (if (x5 == x7)=true then ((bE.f k x4 x6).bind fun t807=>(some t807)) else (some false)) else ((kK.f k x4).bind fun t808=>(if t808=true then (some false) else ((kF.f k x4 3).bind fun t809=>((kF.f k x3 3).bind fun t810=>(some (decide (t809≤t810)))))))
def nC.f (k:Nat) (l0:List Int):Option (Bool):=if (l0.length:Int) > 1048576 then (some true) else ((lS.f k l0).bind fun t795=>((iO.f k t795).bind fun bt798=>((nT.f k t795).bind fun bt802=>(if (bt798.2 != bt802.2)=true then (nC.j0 k t795 bt798.1 bt798.2 bt802.1 bt802.2 true) else ((bE.f k bt798.1 bt802.1).bind fun t806=>(if t806=true then (nC.j0 k t795 bt798.1 bt798.2 bt802.1 bt802.2 (!bt798.2)) else (nC.j0 k t795 bt798.1 bt798.2 bt802.1 bt802.2 true)))))))
def eB.l0:Nat→List Int→Int→Int→List Int→Int→Option (List Int × Int)
 |0,_,_,_,_,_=>none
 |k + 1,x3,x4,x5,x1000,x1001=>if x5 < x4 then ((some (([1,1,2,3,4]:List Int):List Int)).bind fun y820=>((aH.f k x1000 x1001 5).bind fun bt823=>(if 0≤bt823.1 then (if bt823.1 < (y820.length:Int) then (if x3.length < 17592186044416 then (eB.l0 k (x3 ++ [rd y820 bt823.1]) x4 (wrap64 (x5 + 1)) x1000 bt823.2) else (none)) else (none)) else (none)))) else (some (x3,x1001))
def eB.f (k:Nat) (s0_0:List Int) (s0_1:Int):Option (List Int × Int):=(some (([0,1,1,2,2,3]:List Int):List Int)).bind fun y814=>((aH.f k s0_0 s0_1 6).bind fun bt817=>(if 0≤bt817.1 then (if bt817.1 < (y814.length:Int) then (eB.l0 k (([]:List Int)) (rd y814 bt817.1) 0 s0_0 bt817.2) else (none)) else (none)))
def cK.l0:Nat→Int→Int→List Int→Int→List Int→List (List (S35))→Option (List Int × (List (List (S35))) × Int)
 |0,_,_,_,_,_,_=>none
 |k + 1,x4,x5,x1000,x1001,x838000,x838001=>if x5 < x4 then ((eH.f k x1000 x1001 (x838000.length:Int)).bind fun bt840=>(if x838001.length < 5864062014805 then (cK.l0 k x4 (wrap64 (x5 + 1)) x1000 bt840.2 x838000 (x838001 ++ [bt840.1])) else (none))) else ((aH.f k x1000 x1001 16).bind fun bt847=>(if bt847.1=0 then ((gY.f k x1000 bt847.2).bind fun bt849=>(if 0 < (x838001.length:Int) then (some (x838000,(x838001.set (0:Int).toNat (([(⟨bt849.1,bt849.2.1,bt849.2.2.1,(⟨bt849.2.2.2.1,bt849.2.2.2.2.1,bt849.2.2.2.2.2.1⟩:S32),bt849.2.2.2.2.2.2.1,bt849.2.2.2.2.2.2.2.1⟩:S35)]:List (S35)))),bt849.2.2.2.2.2.2.2.2)) else (none))) else (some (x838000,x838001,bt847.2))))
def cK.f (k:Nat) (s0_0:List Int) (s0_1:Int):Option (List Int × (List (List (S35))) × Int):=(eB.f k s0_0 s0_1).bind fun bt830=>((aH.f k s0_0 bt830.2 3).bind fun bt838=>(cK.l0 k (wrap64 (1 + bt838.1)) 0 s0_0 bt838.2 bt830.1 (([]:List (List (S35))))))
def dN.f (k:Nat) (s0_0:List Int) (s0_1:Int):Option (List Int × (List (List (S35))) × Int):=(cK.f k s0_0 s0_1).bind fun bt869=>((aH.f k s0_0 bt869.2.2 30).bind fun bt877=>(if bt877.1=0 then ((some (([0,5]:List Int):List Int)).bind fun y879=>((aH.f k s0_0 bt877.2 2).bind fun bt882=>(if 0≤bt882.1 then (if bt882.1 < (y879.length:Int) then (if bt869.1.length < 17592186044416 then (some ((bt869.1 ++ [rd y879 bt882.1]),bt869.2.1,bt882.2)) else (none)) else (none)) else (none)))) else (if bt877.1=1 then ((gT.f k s0_0 bt877.2).bind fun bt888=>(if bt869.2.1.length < 5864062014805 then (some (bt869.1,(bt869.2.1 ++ [(([(⟨4,0,(bt869.1.length:Int),(⟨bt888.1,bt888.2.1,bt888.2.2.1⟩:S32),([]:List (S35)),([]:List (S35))⟩:S35)]:List (S35)))]),bt888.2.2.2)) else (none))) else (if bt877.1=2 then (some (bt869.1,(([]:List (List (S35)))),bt877.2)) else (if bt877.1=3 then (if 0 < (bt869.2.1.length:Int) then ((some (([fJ bt869.2.1 0,fJ bt869.2.1 0,fJ bt869.2.1 0]:List (List (S35))):List (List (S35)))).bind fun y906=>(if bt869.2.1.length + y906.length < 5864062014805 then (some (bt869.1,(bt869.2.1 ++ y906),bt877.2)) else (none))) else (none)) else (if bt877.1=4 then (if 0 < (bt869.2.1.length:Int) then (if (fJ bt869.2.1 0).length + 1 < 1256584717458 then (some (bt869.1,bt869.2.1.set 0 (fJ bt869.2.1 0 ++ [⟨9,0,0,⟨0,0,[]⟩,[],[]⟩]),bt877.2)) else (none)) else (none)) else (some (bt869.1,bt869.2.1,bt877.2))))))))
def bV.j0:Nat→Bool→List Int→Int→List Int→List (List (S35))→Option (List Int × (List (List (S35))))
 |0,_,_,_,_,_=>none
 |k + 1,x18,x916000,x916001,x924000,x924001=>if x18=true then ((eU.f k x916000 x916001 (x924000.length:Int) 1 false).bind fun bt926=>((iR.f k x916000 bt926.2.2.2.2.2.2.2.2).bind fun bt942=>((aH.f k x916000 bt942.2 3).bind fun bt944=>((fF.f 0 bt944.1).bind fun bt946=>((aH.f k x916000 bt944.2 3).bind fun bt951=>((fF.f 0 bt951.1).bind fun bt953=>((kD.f bt942.1 bt946.1 bt946.2.1 bt946.2.2 bt953.1 bt953.2.1 bt953.2.2).bind fun bt958=>(if 0 < (x924001.length:Int) then (some (x924000,x924001.set 0 [(⟨bt926.1,bt926.2.1,bt926.2.2.1,⟨bt958.1,bt958.2.1,bt958.2.2⟩,bt926.2.2.2.2.2.2.1,bt926.2.2.2.2.2.2.2.1⟩:S35)])) else (none))))))))) else (some (x924000,x924001))
def bV.f (k:Nat) (l0:List Int):Option (List Int × (List (List (S35)))):=(mX.f l0).bind fun bt913=>((dN.f k bt913.1 bt913.2).bind fun bt916=>((aH.f k bt913.1 bt916.2.2 3).bind fun bt924=>(if bt924.1=0 then (bV.j0 k (decide ((bt916.2.1.length:Int) > 0)) bt913.1 bt924.2 bt916.1 bt916.2.1) else (bV.j0 k false bt913.1 bt924.2 bt916.1 bt916.2.1))))
def dP.l0:Nat→List Int→List Int→Int→Int→Option (Bool)
 |0,_,_,_,_=>none
 |k + 1,x0,x5,x6,x7=>if x7 < x6 then (if 0≤x7 then (if x7 < (x5.length:Int) then (if (rd x5 x7) < 1 then (some false) else (if (rd x5 x7) > 4 then (some false) else (dP.l0 k x0 x5 x6 (wrap64 (x7 + 1))))) else (none)) else (none)) else (some (decide ((x0.length:Int)≤3)))
def dP.f (k:Nat) (l0:List Int):Option (Bool):=dP.l0 k l0 l0 (l0.length:Int) 0
mutual
def bD.j0:Nat→Bool→List Int→List (List (S35))→Option (Bool)
 |0,_,_,_=>none
 |k + 1,x20,x965000,x965001=>if x20=true then (some false) else (bD.l0 k x965001 (x965001.length:Int) 0 x965000 x965001)
def bD.l0:Nat→List (List (S35))→Int→Int→List Int→List (List (S35))→Option (Bool)
 |0,_,_,_,_,_=>none
 |k + 1,x22,x23,x24,x965000,x965001=>if x24 < x23 then (if 0≤x24 then (if x24 < (x22.length:Int) then ((gH.f k (fJ x22 x24) (x965000.length:Int)).bind fun t967=>(if t967=true then (bD.l0 k x22 x23 (wrap64 (x24 + 1)) x965000 x965001) else (some false))) else (none)) else (none)) else (some true)
end
def bD.f (k:Nat) (l0_0:List Int) (l0_1:List (List (S35))):Option (Bool):=(dP.f k l0_0).bind fun t965=>(if t965=true then (if (l0_1.length:Int) < 1 then (bD.j0 k true l0_0 l0_1) else (bD.j0 k (decide ((l0_1.length:Int) > 3)) l0_0 l0_1)) else (bD.j0 k true l0_0 l0_1))
def iP.f (l0:List Int):Option (List Int):=(some (([]:List Int):List Int)).bind fun y968=>(if y968.length + l0.length < 17592186044416 then (some (y968 ++ l0)) else (none))
def bK.l0:Nat→List (List (S35))→Int→Int→List Int→List (List (S35))→Option (List Int × (List (List (S35))) × Bool)
 |0,_,_,_,_,_=>none
 |k + 1,x16,x17,x18,x981000,x981001=>if x18 < x17 then (if 0≤x18 then (if x18 < (x16.length:Int) then ((aX.f k (fJ x16 x18)).bind fun t982=>(if x981001.length < 5864062014805 then (bK.l0 k x16 x17 (wrap64 (x18 + 1)) x981000 (x981001 ++ [t982])) else (none))) else (none)) else (none)) else (some (x981000,x981001,true))
def bK.f (k:Nat) (l0_0:List Int) (l0_1:List (List (S35))):Option (List Int × (List (List (S35))) × Bool):=(bD.f k l0_0 l0_1).bind fun t976=>(if t976=true then ((iP.f l0_0).bind fun t977=>(bK.l0 k l0_1 (l0_1.length:Int) 0 t977 ([]:List (List (S35))))) else (some (([]:List Int),([]:List (List (S35))),false)))
def eG.l0:Nat→List Int→Int→Option (Bool)
 |0,_,_=>none
 |k + 1,x0,x3=>if x3 < (x0.length:Int) then (if 0≤x3 then ((fV.f (rd x0 x3) 1 4).bind fun t989=>(if t989=true then (eG.l0 k x0 (wrap64 (x3 + 1))) else (some false))) else (none)) else (some (decide ((x0.length:Int)≤3)))
def eG.f (k:Nat) (l0:List Int):Option (Bool):=eG.l0 k l0 0
mutual
def bW.l0:Nat→List (S35)→Int→Int→Option (Bool)
 |0,_,_,_=>none
 |k + 1,x0,x1,x5=>if x5 < (x0.length:Int) then (if 0≤x5 then (if ((aC x0 x5).f0)=4 then (bW.j1 k x0 x1 x5 (decide (((aC x0 x5).f2)≥x1)) ((aC x0 x5).f0) ((aC x0 x5).f1) ((aC x0 x5).f2) ((aC x0 x5).f3.f0) ((aC x0 x5).f3.f1) ((aC x0 x5).f3.f2) ((aC x0 x5).f4) ((aC x0 x5).f5)) else (if ((aC x0 x5).f0)=5 then (bW.j1 k x0 x1 x5 (decide (((aC x0 x5).f2)≥x1)) ((aC x0 x5).f0) ((aC x0 x5).f1) ((aC x0 x5).f2) ((aC x0 x5).f3.f0) ((aC x0 x5).f3.f1) ((aC x0 x5).f3.f2) ((aC x0 x5).f4) ((aC x0 x5).f5)) else (bW.j1 k x0 x1 x5 false ((aC x0 x5).f0) ((aC x0 x5).f1) ((aC x0 x5).f2) ((aC x0 x5).f3.f0) ((aC x0 x5).f3.f1) ((aC x0 x5).f3.f2) ((aC x0 x5).f4) ((aC x0 x5).f5)))) else (none)) else (some true)
def bW.j1:Nat→List (S35)→Int→Int→Bool→Int→Int→Int→Int→Int→List (S32)→List (S35)→List (S35)→Option (Bool)
 |0,_,_,_,_,_,_,_,_,_,_,_,_=>none
 |k + 1,x0,x1,x5,x30,x992000,x992001,x992002,x992003,x992004,x992005,x992006,x992007=>if x30=true then (some false) else ((bW.f k x992006 x1).bind fun t992=>(if t992=true then ((bW.f k x992007 x1).bind fun t993=>(if t993=true then (bW.l0 k x0 x1 (wrap64 (x5 + 1))) else (some false))) else (some false)))
def bW.f:Nat→List (S35)→Int→Option (Bool)
 |0,_,_=>none
 |k + 1,l0,a1=>bW.l0 k l0 a1 0
end
mutual
def bC.j0:Nat→Bool→List Int→List (List (S35))→Option (Bool)
 |0,_,_,_=>none
 |k + 1,x14,x995000,x995001=>if x14=true then (some false) else (bC.l0 k 0 x995000 x995001)
def bC.l0:Nat→Int→List Int→List (List (S35))→Option (Bool)
 |0,_,_,_=>none
 |k + 1,x3,x995000,x995001=>if x3 < (x995001.length:Int) then (if 0≤x3 then ((gI.f k (fJ x995001 x3)).bind fun t998=>(if t998=true then ((bW.f k (fJ x995001 x3) (x995000.length:Int)).bind fun t1000=>(if t1000=true then (bC.l0 k (wrap64 (x3 + 1)) x995000 x995001) else (some false))) else (some false))) else (none)) else (some true)
end
def bC.f (k:Nat) (l0_0:List Int) (l0_1:List (List (S35))):Option (Bool):=(eG.f k l0_0).bind fun t995=>(if t995=true then ((fV.f (l0_1.length:Int) 1 3).bind fun t996=>(bC.j0 k (!t996) l0_0 l0_1)) else (bC.j0 k true l0_0 l0_1))
def bL.l0:Nat→Int→List Int→List (List (S35))→List Int→List (List (S35))→Option (List Int × (List (List (S35))) × Bool)
 |0,_,_,_,_,_=>none
 |k + 1,x5,x1002000,x1002001,x1014000,x1014001=>if x5 < (x1002001.length:Int) then (if 0≤x5 then ((bM.f k (fJ x1002001 x5)).bind fun t1015=>(if x1014001.length < 5864062014805 then (bL.l0 k (wrap64 (x5 + 1)) x1002000 x1002001 x1014000 (x1014001 ++ [t1015])) else (none))) else (none)) else (some (x1014000,x1014001,true))
def bL.f (k:Nat) (l0_0:List Int) (l0_1:List (List (S35))):Option (List Int × (List (List (S35))) × Bool):=(bC.f k l0_0 l0_1).bind fun t1003=>(if t1003=true then ((some (([]:List Int):List Int)).bind fun y1004=>(if y1004.length + l0_0.length < 17592186044416 then (bL.l0 k 0 l0_0 l0_1 (y1004 ++ l0_0) (([]:List (List (S35))))) else (none))) else (some (([]:List Int),([]:List (List (S35))),false)))
def eD.l0:Nat→List Int→List Int→Int→Option (Bool)
 |0,_,_,_=>none
 |k + 1,x0,x1,x5=>if x5 < (x0.length:Int) then (if 0≤x5 then (if x5 < (x1.length:Int) then (if (rd x0 x5)=(rd x1 x5) then (eD.l0 k x0 x1 (wrap64 (x5 + 1))) else (some false)) else (none)) else (none)) else (some true)
def eD.f (k:Nat) (l0:List Int) (l1:List Int):Option (Bool):=if (l0.length:Int)=(l1.length:Int) then (eD.l0 k l0 l1 0) else (some false)
mutual
def bB.j0:Nat→Bool→List Int→List (List (S35))→List Int→List (List (S35))→Option (Bool)
 |0,_,_,_,_,_=>none
 |k + 1,x20,x1024000,x1024001,x1025000,x1025001=>if x20=true then (some false) else (bB.l0 k 0 x1024000 x1024001 x1025000 x1025001)
def bB.l0:Nat→Int→List Int→List (List (S35))→List Int→List (List (S35))→Option (Bool)
 |0,_,_,_,_,_=>none
 |k + 1,x5,x1024000,x1024001,x1025000,x1025001=>if x5 < (x1024001.length:Int) then (if 0≤x5 then (if x5 < (x1025001.length:Int) then ((bE.f k (fJ x1024001 x5) (fJ x1025001 x5)).bind fun t1028=>(if t1028=true then (bB.l0 k (wrap64 (x5 + 1)) x1024000 x1024001 x1025000 x1025001) else (some false))) else (none)) else (none)) else (some true)
end
def bB.f (k:Nat) (l0_0:List Int) (l0_1:List (List (S35))) (l1_0:List Int) (l1_1:List (List (S35))):Option (Bool):=(eD.f k l0_0 l1_0).bind fun t1025=>(if t1025=true then (bB.j0 k ((l0_1.length:Int) != (l1_1.length:Int)) l0_0 l0_1 l1_0 l1_1) else (bB.j0 k true l0_0 l0_1 l1_0 l1_1))
mutual
def dR.l0:Nat→List S35→Int→Option Bool
 |0,_,_=>none
 |k + 1,x,i=>if i < (x.length:Int) then (if 0≤i then ((dR.one k (aC x i)).bind fun b=>if b=true then some true else dR.l0 k x (wrap64 (i + 1))) else none) else some false
def dR.one:Nat→S35→Option Bool
 |0,_=>none
 |k + 1,s=>if s.f0=3 then some true else ((dR.f k s.f4).bind fun b=>if b=true then some true else dR.f k s.f5)
def dR.f:Nat→List S35→Option Bool
 |0,_=>none
 |k + 1,l=>dR.l0 k l 0
end
def iA.l0:Nat→List (List S35)→Int→Option Bool
 |0,_,_=>none
 |k + 1,x,i=>if i < (x.length:Int) then (if 0≤i then ((dR.f k (fJ x i)).bind fun b=>if b=true then some true else iA.l0 k x (wrap64 (i + 1))) else none) else some false
def fQ.f (k:Nat) (l0_0:List Int) (l0_1:List (List S35)):Option Bool:=(bD.f k l0_0 l0_1).bind fun v=>if v=true then ((iA.l0 k l0_1 0).bind fun b=>some (!b)) else some false
def bJ.j0:Nat→Bool→Bool→Bool→List Int→List (List (S35))→List Int→List (List (S35))→List Int→List (List (S35))→Option (Bool)
 |0,_,_,_,_,_,_,_,_,_=>none
 |k + 1,x5,x7,x37,x1036000,x1036001,x1044000,x1044001,x1052000,x1052001=>if x37=true then (if (x5 == x7)=true then ((bB.f k x1044000 x1044001 x1052000 x1052001).bind fun t1053=>(some t1053)) else (some false)) else ((bK.f k x1044000 x1044001).bind fun bt1054=>(if bt1054.2.2=true then ((bB.f k bt1054.1 bt1054.2.1 x1044000 x1044001).bind fun t1062=>(if t1062=true then ((fQ.f k x1036000 x1036001).bind fun t1063=>(if t1063=true then ((fQ.f k x1044000 x1044001).bind fun t1064=>(some t1064)) else (some true))) else (some false))) else (some false)))
def bJ.f (k:Nat) (l0:List Int):Option (Bool):=if (l0.length:Int) > 1048576 then (some true) else ((bV.f k l0).bind fun bt1029=>((bK.f k bt1029.1 bt1029.2).bind fun bt1036=>((bL.f k bt1029.1 bt1029.2).bind fun bt1044=>(if (bt1036.2.2 != bt1044.2.2)=true then (bJ.j0 k bt1036.2.2 bt1044.2.2 true bt1029.1 bt1029.2 bt1036.1 bt1036.2.1 bt1044.1 bt1044.2.1) else ((bB.f k bt1036.1 bt1036.2.1 bt1044.1 bt1044.2.1).bind fun t1052=>(if t1052=true then (bJ.j0 k bt1036.2.2 bt1044.2.2 (!bt1036.2.2) bt1029.1 bt1029.2 bt1036.1 bt1036.2.1 bt1044.1 bt1044.2.1) else (bJ.j0 k bt1036.2.2 bt1044.2.2 true bt1029.1 bt1029.2 bt1036.1 bt1036.2.1 bt1044.1 bt1044.2.1)))))))
def mO.l0:Nat→Int→List (List (S35))→Int→Int→Option (Int)
 |0,_,_,_,_=>none
 |k + 1,x3,x10,x11,x12=>if x12 < x11 then (if 0≤x12 then (if x12 < (x10.length:Int) then ((kZ.f k (fJ x10 x12)).bind fun t1068=>(mO.l0 k (wrap64 (x3 + t1068)) x10 x11 (wrap64 (x12 + 1)))) else (none)) else (none)) else (some x3)
def mO.f (k:Nat) (l0_0:List Int) (l0_1:List (List (S35))):Option (Int):=(bD.f k l0_0 l0_1).bind fun t1066=>(if t1066=true then (mO.l0 k 0 l0_1 (l0_1.length:Int) 0) else (some (-1)))
mutual
def kH.j0:Nat→Bool→Bool→Bool→List Int→List (List (S35))→List Int→List (List (S35))→List Int→List (List (S35))→Option (Bool)
 |0,_,_,_,_,_,_,_,_,_=>none
 |k + 1,x5,x7,x38,x1076000,x1076001,x1084000,x1084001,x1092000,x1092001=>if x38=true then (if (x5 == x7)=true then ((bB.f k x1084000 x1084001 x1092000 x1092001).bind fun t1093=>(some t1093)) else (some false)) else (kH.l0 k 0 x1076000 x1076001 x1084000 x1084001)
def kH.l0:Nat→Int→List Int→List (List (S35))→List Int→List (List (S35))→Option (Bool)
 |0,_,_,_,_,_=>none
 |k + 1,x8,x1076000,x1076001,x1084000,x1084001=>if x8 < (x1076001.length:Int) then (if 0≤x8 then ((iO.f k (fJ x1076001 x8)).bind fun bt1095=>(if bt1095.2=true then (if x8 < (x1084001.length:Int) then ((bE.f k bt1095.1 (fJ x1084001 x8)).bind fun t1100=>(if t1100=true then (kH.l0 k (wrap64 (x8 + 1)) x1076000 x1076001 x1084000 x1084001) else (some false))) else (none)) else (some false))) else (none)) else ((bD.f k x1084000 x1084001).bind fun t1101=>(if t1101=true then ((eD.f k x1084000 x1076000).bind fun t1102=>(if t1102=true then ((mO.f k x1084000 x1084001).bind fun t1103=>((mO.f k x1076000 x1076001).bind fun t1104=>(some (decide (t1103≤t1104))))) else (some false))) else (some false)))
end
def kH.f (k:Nat) (l0:List Int):Option (Bool):=if (l0.length:Int) > 1048576 then (some true) else ((bV.f k l0).bind fun bt1069=>((bK.f k bt1069.1 bt1069.2).bind fun bt1076=>((bL.f k bt1069.1 bt1069.2).bind fun bt1084=>(if (bt1076.2.2 != bt1084.2.2)=true then (kH.j0 k bt1076.2.2 bt1084.2.2 true bt1069.1 bt1069.2 bt1076.1 bt1076.2.1 bt1084.1 bt1084.2.1) else ((bB.f k bt1076.1 bt1076.2.1 bt1084.1 bt1084.2.1).bind fun t1092=>(if t1092=true then (kH.j0 k bt1076.2.2 bt1084.2.2 (!bt1076.2.2) bt1069.1 bt1069.2 bt1076.1 bt1076.2.1 bt1084.1 bt1084.2.1) else (kH.j0 k bt1076.2.2 bt1084.2.2 true bt1069.1 bt1069.2 bt1076.1 bt1076.2.1 bt1084.1 bt1084.2.1)))))))
def aQ (w0 W:World) (g:Nat) (f0:List Int) (f1:Int):Prop:=∃ A0 c0,W.heap[g]?=some (.cells #[.slice A0 f0.length c0, .int .i64 f1] 91 (0,0))∧w0.heap.size≤g∧Kd.C (Kd.int .u8) w0 A0 f0.length f0
theorem aQ.grown {w0 W:World} {g:Nat} {f0:List Int} {f1:Int} {W1:World} {row:Option Nat} (h:aQ w0 W g f0 f1) (hw:W.grownBy W1 row) (hne:some g≠row):aQ w0 W1 g f0 f1:=by
 obtain ⟨A0,c0,hb,hg,hr0⟩:=h
 exact ⟨A0,c0,gV hb hw hne,hg,hr0⟩
theorem aQ.BD {w0 W:World} {g:Nat} {f0:List Int} {f1:Int} {α:Type} {d:Kd α} {e:Nat} {base:Nat} {ok:Nat→Prop} {v:Value} {xs:List α} (h:aQ w0 W g f0 f1) (ho:Kd.N d e W base ok v xs) (ht:e≠91):some g≠v.ownBlock:=by
 obtain ⟨A0,c0,hb,hg,hr0⟩:=h
 exact Kd.BN ho hb ht
theorem aQ.fresh {w0 W:World} {g:Nat} {f0:List Int} {f1:Int} (h:aQ w0 W g f0 f1):∀ k,W.heap.size≤k→k≠g:=by
 obtain ⟨A0,c0,hb,hg,hr0⟩:=h
 exact Kd.lF hb
theorem aQ.kept {w0 W:World} {g:Nat} {f0:List Int} {f1:Int} {W1:World} {S:Nat→Prop} (h:aQ w0 W g f0 f1) (hk:Kept W W1 S) (hne:¬ S g):aQ w0 W1 g f0 f1:=by
 obtain ⟨A0,c0,hb,hg,hr0⟩:=h
 exact ⟨A0,c0,TD hb hk hne,hg,hr0⟩
theorem aQ.below {w0 W:World} {g:Nat} {f0:List Int} {f1:Int} {W1:World} (h:aQ w0 W g f0 f1) (hw:Below W.heap.size W W1):aQ w0 W1 g f0 f1:=h.grown (wJ hw none) (by simp)
theorem aQ.alloc {w0 W:World} {g:Nat} {f0:List Int} {f1:Int} (h:aQ w0 W g f0 f1) (o:Obj):aQ w0 (W.alloc o) g f0 f1:=h.below (bO (Below.refl _ _) o)
theorem aQ.drewN {w0 W:World} {g:Nat} {f0:List Int} {f1:Int} (h:aQ w0 W g f0 f1) (m:Nat):aQ w0 (W.drewN m) g f0 f1:=h
theorem aQ.drew {w0 W:World} {g:Nat} {f0:List Int} {f1:Int} (h:aQ w0 W g f0 f1):aQ w0 W.drew g f0 f1:=h
theorem aQ.at_ {w0 W:World} {g:Nat} {f0:List Int} {f1:Int} {w':World} {m:Nat} (hq:W.drewN m=w') (h:aQ w0 W g f0 f1):aQ w0 w' g f0 f1:=by subst hq;exact aQ.drewN h m
theorem aQ.apart {w0 W:World} {g:Nat} {f0:List Int} {f1:Int} {α:Type} {d:Kd α} {e:Nat} {base:Nat} {ok:Nat→Prop} {v:Value} {xs:List α} (h:aQ w0 W g f0 f1) (ho:d.R e W base ok v xs) (ht:∀ q,q ∈ e :: d.E→q≠91):d.R e W base (fun k=>ok k∧k≠g) v xs:=by
 obtain ⟨A0,c0,hb,hg,hr0⟩:=h
 exact Kd.eF ho hb ht
theorem aQ.own_ne {w0 W:World} {g:Nat} {f0:List Int} {f1:Int} {α:Type} {d:Kd α} {e:Nat} {base:Nat} {ok:Nat→Prop} {v:Value} {xs:List α} (h:aQ w0 W g f0 f1) (ho:d.R e W base ok v xs) (ht:e≠91):some g≠v.ownBlock:=by
 obtain ⟨A0,c0,hb,hg,hr0⟩:=h
 exact Kd.RD ho hb ht
theorem aQ.lt {w0 W:World} {g:Nat} {f0:List Int} {f1:Int} (h:aQ w0 W g f0 f1):g < W.heap.size:=by
 obtain ⟨A0,c0,hb,hg,hr0⟩:=h
 exact gQ hb
theorem aQ.ge {w0 W:World} {g:Nat} {f0:List Int} {f1:Int} (h:aQ w0 W g f0 f1):w0.heap.size≤g:=by
 obtain ⟨A0,c0,hb,hg,hr0⟩:=h
 exact hg
theorem aQ.NZ {w0 W:World} {g:Nat} {f0:List Int} {f1:Int} {a:Nat} {cs:Array Value} {t:TypeId} {fr:Nat × Nat} (h:aQ w0 W g f0 f1) (hb2:W.heap[a]?=some (.cells cs t fr)) (ht:t≠91):g≠a:=by
 obtain ⟨A0,c0,hb,hg,hr0⟩:=h
 rintro rfl
 rw [hb] at hb2
 injection hb2 with hb2
 injection hb2 with _ ht2
 exact ht ht2.symm
theorem aQ.far {w0 W:World} {g:Nat} {f0:List Int} {f1:Int} {p:Addr} (h:aQ w0 W g f0 f1) (hne:g≠p.block) (u:Value):aQ w0 (W.setCell p u) g f0 f1:=by
 obtain ⟨A0,c0,hb,hg,hr0⟩:=h
 exact ⟨A0,c0,aZ hb hne u,hg,hr0⟩
theorem wZ {W:World} {g:Nat} {A0:Option Addr} {c0:Nat} {f0:List Int} {f1:Int} (h:W.heap[g]?=some (.cells #[.slice A0 f0.length c0, .int .i64 f1] 91 (0,0))):W.cell? ⟨g,0,none⟩=some (.slice A0 f0.length c0):=(aA h 0).trans rfl
theorem xA {W:World} {g:Nat} {A0:Option Addr} {c0:Nat} {f0:List Int} {f1:Int} (h:W.heap[g]?=some (.cells #[.slice A0 f0.length c0, .int .i64 f1] 91 (0,0))):W.cell? ⟨g,1,none⟩=some (.int .i64 f1):=(aA h 1).trans rfl
theorem aQ.sJ {w0 W:World} {g:Nat} {f0:List Int} {f1:Int} (h:aQ w0 W g f0 f1) (x:Int):aQ w0 (W.setCell ⟨g,1,none⟩ (.int .i64 x)) g f0 x:=by
 obtain ⟨A0,c0,hb,hg,hr0⟩:=h
 exact ⟨A0,c0,by simpa using KJ hb 1 (.int .i64 x),hg,hr0⟩
theorem mX.calls (A0:Option Addr) (c0:Nat) (l0:List Int) (r1:List Int) (r2:Int) (w0 w:World) (hB:Below w0.heap.size w0 w) (hr0:Kd.C (Kd.int .u8) w0 A0 l0.length l0) (hc0:l0.length≤c0) (h:mX.f l0=some (r1,r2)):
  Calls Try.prog 39 #[.slice A0 l0.length c0] w fun e w'=>∃ g_:Nat,e= .returned (.pointer (some ⟨g_,0,none⟩))∧aQ w0 w' g_ r1 r2∧Below w0.heap.size w0 w'∧Below w.heap.size w w':=by
 have hu91:=Try.underlying91
 have jc:=am hr0
 have jd:=am hc0
 clear hr0 hc0
 have HBW:=am (Below.refl w.heap.size w)
 have HW0:=am hB.size
 have HB:=am hB
 clear hB
 have H:(if (l0.length:Int) > 2000 then (if 2000≤(l0.length:Int) then (some (l0.take 2000,0)) else (none)) else (some (l0,0)))=some (r1,r2):=h
 clear h
 by_cases c2:(l0.length:Int) > 2000
 ·rw [if_pos c2] at H
  have j5:decide (2000 < (l0.length:Int))=true:=decide_eq_true c2
  have j6:decide (2000 < l0.length)=true:=decide_eq_true (by omega)
  clear c2
  by_cases c3:2000≤(l0.length:Int)
  ·rw [if_pos c3] at H
   have je:=eq_true c3
   have jf:decide (2000≤(l0.length:Int))=true:=decide_eq_true c3
   clear c3
   simp only [Option.some.injEq,Prod.mk.injEq] at H
   obtain ⟨rfl,rfl⟩:=H
   obtain ⟨jh,hi04,_,hsz4,_⟩:=info_parts info5
   obtain ⟨hcut4,hA4,hC4⟩:=FW (P:=Try.prog) (Value.int .u8) 0 22 5 .i64 Try.underlying22 hi04 hsz4 A0 c0 l0 2000 (by omega) (of_decide_eq_true gL) jd.out
   have j7:=am (Kd.DY (h1:=fun _=>rfl) (hA4 _ (Kd.FC jc.out)))
   have jg:=am hC4
   clear hA4 hC4 hi04 hsz4
   go_enter Try.func39,Try.ntmps39
   go_wp2_with (first|((with_reducible refine bQ (N:=10) rfl ?_);refine dJ rfl (N:=10) rfl (cs:=#[.slice A0 (l0.take 2000).length c0, .int .i64 0]) (t:=91) rn_ ?_;intro j3 hg w5 hbox hb;replace HB:=am (aG gK hb);have j8:=am (hbox);have j9:=am ((by rw [hg];exact (aJ KH):w.heap.size≤j3));have GE21:=am ((Nat.le_trans HW0.out (by rw [hg];exact (aJ KH):w.heap.size≤j3):w0.heap.size≤j3));replace HBW:=am (aG HBW.out hb);clear hb hbox hg))
   go_ret
   exact ⟨_,rfl,(show aQ w0 _ j3 (l0.take 2000) 0 from ⟨_,_,by (with_reducible repeat (first|refine dQ ?_ _|refine bT ?_|refine dF ?_ _));exact j8.out,GE21.out,j7.out⟩),wI,by repeat (first|(with_reducible first|exact HBW.out|apply bO|apply bA|apply bG|refine below_set ?_ j9.out)|exact HBW.out)⟩
  rw [if_neg c3] at H
  exact absurd H (by simp)
 rw [if_neg c2] at H
 have j5:decide (2000 < (l0.length:Int))=false:=decide_eq_false c2
 have j6:decide (2000 < l0.length)=false:=decide_eq_false (by omega)
 clear c2
 simp only [Option.some.injEq,Prod.mk.injEq] at H
 obtain ⟨rfl,rfl⟩:=H
 go_enter Try.func39,Try.ntmps39
 go_wp2_with (first|((with_reducible refine bQ (N:=10) rfl ?_);refine dJ rfl (N:=10) rfl (cs:=#[.slice A0 l0.length c0, .int .i64 0]) (t:=91) rn_ ?_;intro j4 hg w6 hbox hb;replace HB:=am (aG gK hb);have ja:=am (hbox);have jb:=am ((by rw [hg];exact (aJ KH):w.heap.size≤j4));have GE23:=am ((Nat.le_trans HW0.out (by rw [hg];exact (aJ KH):w.heap.size≤j4):w0.heap.size≤j4));replace HBW:=am (aG HBW.out hb);clear hb hbox hg))
 go_ret
 exact ⟨_,rfl,(show aQ w0 _ j4 l0 0 from ⟨_,_,by (with_reducible repeat (first|refine dQ ?_ _|refine bT ?_|refine dF ?_ _));exact ja.out,GE23.out,jc.out⟩),oZ,by repeat (first|(with_reducible first|exact HBW.out|apply bO|apply bA|apply bG|refine below_set ?_ jb.out)|exact HBW.out)⟩
theorem aH.mono_l:∀ k,(∀ y0 y1 y2 y3,LeO (aH.j0 k y0 y1 y2 y3) (aH.j0 (k + 1) y0 y1 y2 y3))
 |0=>fun _ _ _ _ r h=>by simp [aH.j0] at h
 |k + 1=>by
  have ih0:=aH.mono_l k
  ·intro y0 y1 y2 y3
   unfold aH.j0
   exact mo_
theorem aH.mono:∀ a0 a1 a2 k,LeO (aH.f k a0 a1 a2) (aH.f (k + 1) a0 a1 a2):=by
 intro a0 a1 a2 k
 have ih0:=aH.mono_l k
 unfold aH.f
 exact mo_
theorem aH.calls (k:Nat) (g:Nat) (j3:List Int) (j4:Int) (a1:Int) (r1:Int) (r2:Int) (w0 w:World) (hI:aQ w0 w g j3 j4) (hB:Below w0.heap.size w0 w) (h:aH.f k j3 j4 a1=some (r1,r2)):
  Calls Try.prog 41 #[.pointer (some ⟨g,0,none⟩), .int .i64 a1] w fun e w'=>e= .returned (.int .i64 r1)∧aQ w0 w' g j3 r2∧Below w0.heap.size w0 w'∧aI w w' g none:=by
 have HI0:=am hI
 have HK:=am (aI.refl w g none)
 have HL:=am hB.size
 clear hI
 have HW0:=am hB.size
 have HB:=am hB
 clear hB
 have H:(if a1 < 1 then (aH.j0 k a1 true j3 (wrap64 (j4 + 1))) else (aH.j0 k a1 ((j3.length:Int) == 0) j3 (wrap64 (j4 + 1))))=some (r1,r2):=h
 clear h
 have jr:=am H
 clear H
 obtain ⟨ASz4_0,cSz4_0,HGz4,hgz4,HSz4_0⟩:=HI0.out
 have ja:=wZ HGz4
 have jb:=xA HGz4
 have jc:=aU HGz4 1
 clear HGz4 hgz4
 go_enter Try.func41,Try.ntmps41
 go_upto_region 2 with (fail)
 repeat (go_quiet (fail);go_upto_region 2 with (fail))
 go_cut [24] (fun jP wc=>∃ (kq:Nat) (j5:Bool),jP= .bool j5∧Aside0 (aH.j0 kq a1 j5 j3 (wrap64 (j4 + 1))=some (r1,r2))∧Aside0 (kq≤k)∧Aside0 (aQ w0 wc g j3 (wrap64 (j4 + 1)))∧Aside0 (aI w wc g none)∧Aside0 (Below w0.heap.size w0 wc))
 case first=>
  have H:=jr.out
  clear jr
  by_cases c5:a1 < 1
  ·rw [if_pos c5] at H
   have j6:decide (a1 < 1)=true:=decide_eq_true c5
   clear c5
   (first|rw [j6]|(simp only [dS,dV];rw [j6])|skip)
   have H':=am H
   clear H
   go_wp2
   repeat (go_quiet (fail);try go_wp2)
   go_meet
   case rel=>exact ⟨_,(true),sd_,H',⟨by first|omega|exact Nat.le_refl _⟩,⟨gB⟩,⟨fI⟩,⟨iT⟩⟩
  rw [if_neg c5] at H
  have j6:decide (a1 < 1)=false:=decide_eq_false c5
  clear c5
  (first|rw [j6]|(simp only [dS,dV];rw [j6])|skip)
  have H':=am H
  clear H
  obtain ⟨ASz6_0,cSz6_0,HGz6,hgz6,HSz6_0⟩:=HI0.out
  have js:=wZ HGz6
  have jt:=xA HGz6
  have ju:=aU HGz6 1
  clear HGz6 hgz6
  go_wp2
  repeat (go_quiet (fail);try go_wp2)
  go_meet
  case rel=>exact ⟨_,(((j3.length:Int) == 0)),sd_,H',⟨by first|omega|exact Nat.le_refl _⟩,⟨gB⟩,⟨fI⟩,⟨iT⟩⟩
 case rest=>
  clear jr
  try clear ja
  try clear jb
  try clear jc
  obtain ⟨kq,j5,rfl,HA,HJ2,HI0,HK,HB⟩:=hcut
  cases kq with
  |zero=>exact absurd HA.out (by simp [aH.j0])
  |succ jU=>
   have H:=HA.out
   clear HA
   simp only [aH.j0] at H
   by_cases c7:j5=true
   ·subst c7
    rw [if_pos rfl] at H
    simp only [Option.some.injEq,Prod.mk.injEq] at H
    obtain ⟨rfl,rfl⟩:=H
    go_wp2
    repeat (go_quiet (fail);try go_wp2)
    go_ret
    exact ⟨rr_,gB,iT,fI⟩
   replace c7:=Bool.eq_false_iff.mpr c7
   subst c7
   rw [if_neg (show ¬ (false=true) by decide)] at H
   by_cases c8:(wrap64 ((wrap64 (j4 + 1)) - 1)) < (j3.length:Int)
   ·rw [if_pos c8] at H
    have jd:decide ((wrap64 ((wrap64 (j4 + 1)) - 1)) < (j3.length:Int))=true:=decide_eq_true c8
    clear c8
    obtain ⟨ji9,hji9⟩:∃ j_:Int,(wrap64 ((wrap64 (j4 + 1)) - 1))=j_:=⟨_,rfl⟩
    replace H:(if 0≤(ji9) then (if a1=0 then (none) else (some (Int.tmod (wrap64 (rd j3 (ji9))) a1,(wrap64 (j4 + 1))))) else (none))=some (r1,r2):=by first|(rw [hji9] at H;exact H)|(simp only [hji9] at H ⊢;exact H)
    (try rw [hji9] at jd)
    have hji9w:(IntKind.i64.wrap ((wrap64 (j4 + 1)) - 1))=ji9:=(dS _).trans hji9
    by_cases c10:0≤(ji9)
    ·rw [if_pos c10] at H
     have jD:decide (0≤(ji9))=true:=decide_eq_true c10
     clear c10
     by_cases jf:a1=0
     ·rw [if_pos jf] at H
      exact absurd H (by simp)
     rw [if_neg jf] at H
     have jE:(a1 == 0)=false:=beq_eq_false_iff_ne.mpr jf
     have jF:(a1 != 0)=true:=bne_iff_ne.mpr jf
     simp only [Option.some.injEq,Prod.mk.injEq] at H
     obtain ⟨rfl,rfl⟩:=H
     obtain ⟨ASz12_0,cSz12_0,HGz12,hgz12,HSz12_0⟩:=HI0.out
     have jg:=wZ HGz12
     have jh:=xA HGz12
     have ji:=aU HGz12 1
     clear HGz12 hgz12
     have jv:0≤((ji9):Int):=of_decide_eq_true gL
     have jw:(ji9) < (j3.length:Int):=of_decide_eq_true gL
     obtain ⟨jQ,jR,j7⟩:=Kd.nJ HSz12_0 (ji9) jv jw
     cases jR
     replace j7:=bU HB.out j7
     replace jv:=eq_true jv
     replace jw:=eq_true jw
     go_wp2
     repeat (go_quiet (fail);try go_wp2)
     go_ret
     exact ⟨by first|rfl|(simp [nG,nH] <;> rfl)|(simp only [← hji9];first|rfl|(simp [nG,nH] <;> rfl))|(simp [*,nG,nH] <;> rfl),gB,iT,fI⟩
    rw [if_neg c10] at H
    exact absurd H (by simp)
   rw [if_neg c8] at H
   have jd:decide ((wrap64 ((wrap64 (j4 + 1)) - 1)) < (j3.length:Int))=false:=decide_eq_false c8
   clear c8
   by_cases je:(j3.length:Int)=0
   ·rw [if_pos je] at H
    exact absurd H (by simp)
   rw [if_neg je] at H
   have jG:((j3.length:Int) == 0)=false:=beq_eq_false_iff_ne.mpr je
   have jH:((j3.length:Int) != 0)=true:=bne_iff_ne.mpr je
   have jI:¬ (j3=[]):=fun h_=>je (by rw [h_];rfl)
   obtain ⟨ji14,hji14⟩:∃ j_:Int,(Int.tmod (wrap64 ((wrap64 (j4 + 1)) - 1)) (j3.length:Int))=j_:=⟨_,rfl⟩
   replace H:(if 0≤(ji14) then (if (ji14) < (j3.length:Int) then (if 0≤(Int.tmod (wrap64 ((wrap64 ((wrap64 ((wrap64 (j4 + 1)) - 1)) * 7)) + 3)) (j3.length:Int)) then (if (Int.tmod (wrap64 ((wrap64 ((wrap64 ((wrap64 (j4 + 1)) - 1)) * 7)) + 3)) (j3.length:Int)) < (j3.length:Int) then (if a1=0 then (none) else (some (Int.tmod (Go.bits .xor .i64 (wrap64 ((wrap64 ((wrap64 ((wrap64 ((wrap64 (rd j3 (ji14))) * 131)) + (wrap64 ((wrap64 (rd j3 (Int.tmod (wrap64 ((wrap64 ((wrap64 ((wrap64 (j4 + 1)) - 1)) * 7)) + 3)) (j3.length:Int)))) * 1117)))) + (wrap64 ((wrap64 ((wrap64 (j4 + 1)) - 1)) * 29)))) + (wrap64 ((wrap64 (Int.tdiv (wrap64 ((wrap64 (j4 + 1)) - 1)) (j3.length:Int))) * 53)))) (wrap64 (Int.tdiv (wrap64 ((wrap64 ((wrap64 ((wrap64 ((wrap64 (rd j3 (ji14))) * 131)) + (wrap64 ((wrap64 (rd j3 (Int.tmod (wrap64 ((wrap64 ((wrap64 ((wrap64 (j4 + 1)) - 1)) * 7)) + 3)) (j3.length:Int)))) * 1117)))) + (wrap64 ((wrap64 ((wrap64 (j4 + 1)) - 1)) * 29)))) + (wrap64 ((wrap64 (Int.tdiv (wrap64 ((wrap64 (j4 + 1)) - 1)) (j3.length:Int))) * 53)))) 64))) a1,(wrap64 (j4 + 1))))) else (none)) else (none)) else (none)) else (none))=some (r1,r2):=by first|(rw [hji14] at H;exact H)|(simp only [hji14] at H ⊢;exact H)
   by_cases jj:0≤(ji14)
   ·rw [if_pos jj] at H
    have jJ:decide (0≤(ji14))=true:=decide_eq_true jj
    clear jj
    by_cases jk:(ji14) < (j3.length:Int)
    ·rw [if_pos jk] at H
     have jK:decide ((ji14) < (j3.length:Int))=true:=decide_eq_true jk
     clear jk
     obtain ⟨ji17,hji17⟩:∃ j_:Int,(Int.tmod (wrap64 ((wrap64 ((wrap64 ((wrap64 (j4 + 1)) - 1)) * 7)) + 3)) (j3.length:Int))=j_:=⟨_,rfl⟩
     replace H:(if 0≤(ji17) then (if (ji17) < (j3.length:Int) then (if a1=0 then (none) else (some (Int.tmod (Go.bits .xor .i64 (wrap64 ((wrap64 ((wrap64 ((wrap64 ((wrap64 (rd j3 (ji14))) * 131)) + (wrap64 ((wrap64 (rd j3 (ji17))) * 1117)))) + (wrap64 ((wrap64 ((wrap64 (j4 + 1)) - 1)) * 29)))) + (wrap64 ((wrap64 (Int.tdiv (wrap64 ((wrap64 (j4 + 1)) - 1)) (j3.length:Int))) * 53)))) (wrap64 (Int.tdiv (wrap64 ((wrap64 ((wrap64 ((wrap64 ((wrap64 (rd j3 (ji14))) * 131)) + (wrap64 ((wrap64 (rd j3 (ji17))) * 1117)))) + (wrap64 ((wrap64 ((wrap64 (j4 + 1)) - 1)) * 29)))) + (wrap64 ((wrap64 (Int.tdiv (wrap64 ((wrap64 (j4 + 1)) - 1)) (j3.length:Int))) * 53)))) 64))) a1,(wrap64 (j4 + 1))))) else (none)) else (none))=some (r1,r2):=by first|(rw [hji17] at H;exact H)|(simp only [hji17] at H ⊢;exact H)
     by_cases jl:0≤(ji17)
     ·rw [if_pos jl] at H
      have jL:decide (0≤(ji17))=true:=decide_eq_true jl
      clear jl
      by_cases jm:(ji17) < (j3.length:Int)
      ·rw [if_pos jm] at H
       have jM:decide ((ji17) < (j3.length:Int))=true:=decide_eq_true jm
       clear jm
       by_cases jn:a1=0
       ·rw [if_pos jn] at H
        exact absurd H (by simp)
       rw [if_neg jn] at H
       have jN:(a1 == 0)=false:=beq_eq_false_iff_ne.mpr jn
       have jO:(a1 != 0)=true:=bne_iff_ne.mpr jn
       simp only [Option.some.injEq,Prod.mk.injEq] at H
       obtain ⟨rfl,rfl⟩:=H
       obtain ⟨ASz21_0,cSz21_0,HGz21,hgz21,HSz21_0⟩:=HI0.out
       have jo:=wZ HGz21
       have jp:=xA HGz21
       have jq:=aU HGz21 1
       clear HGz21 hgz21
       have jx:0≤((ji14):Int):=of_decide_eq_true gL
       have jy:(ji14) < (j3.length:Int):=of_decide_eq_true gL
       obtain ⟨jz,jS,j8⟩:=Kd.nJ HSz21_0 (ji14) jx jy
       cases jS
       replace j8:=bU HB.out j8
       replace jx:=eq_true jx
       replace jy:=eq_true jy
       have jA:0≤((ji17):Int):=of_decide_eq_true gL
       have jB:(ji17) < (j3.length:Int):=of_decide_eq_true gL
       obtain ⟨jC,jT,j9⟩:=Kd.nJ HSz21_0 (ji17) jA jB
       obtain rfl:jz=jC:=(by injection jT)
       replace j9:=bU HB.out j9
       replace jA:=eq_true jA
       replace jB:=eq_true jB
       go_wp2
       repeat (go_quiet (fail);try go_wp2)
       go_ret
       exact ⟨by first|rfl|(simp [nG,nH] <;> rfl)|(simp only [← hji14,← hji17];first|rfl|(simp [nG,nH] <;> rfl))|(simp [*,nG,nH] <;> rfl),gB,iT,fI⟩
      rw [if_neg jm] at H
      exact absurd H (by simp)
     rw [if_neg jl] at H
     exact absurd H (by simp)
    rw [if_neg jk] at H
    exact absurd H (by simp)
   rw [if_neg jj] at H
   exact absurd H (by simp)
theorem kD.calls (a0:Int) (j9:Int) (ja:Int) (P1_2_:Nat→Prop) (je:Option Addr) (jf:Nat) (j6:List (S32)) (jb:Int) (jc:Int) (P2_2_:Nat→Prop) (jg:Option Addr) (jh:Nat) (j7:List (S32)) (r1:Int) (r2:Int) (r3:List (S32)) (w:World) (hs1_2:Kd.V k32 32 w w.heap.size (fun k_=>P1_2_ k_) (.slice je j6.length jf) j6) (hs2_2:Kd.V k32 32 w w.heap.size (fun k_=>P2_2_ k_) (.slice jg j7.length jh) j7) (h:kD.f a0 j9 ja j6 jb jc j7=some (r1,r2,r3)):
  Calls Try.prog 43 #[.int .i64 a0, .agg #[.int .i64 j9, .int .i64 ja, .slice je j6.length jf], .agg #[.int .i64 jb, .int .i64 jc, .slice jg j7.length jh]] w fun e w'=>∃ v2_:Value,e= .returned (.agg #[.int .i64 r1, .int .i64 r2,v2_])∧Kd.N k32 32 w' w.heap.size (fun k_=>((P1_2_ k_∨P2_2_ k_)∨w.heap.size≤k_)) v2_ r3∧Below w.heap.size w w':=by
 have hu32:=Try.underlying32
 have HO1_2:=am (show Kd.V k32 32 w w.heap.size (fun k_=>((P1_2_ k_∨P2_2_ k_)∨w.heap.size≤k_)) (.slice je j6.length jf) j6 from Kd.oN hs1_2 (fun k_ hk=> .inl (.inl hk)))
 have HO2_2:=am (show Kd.V k32 32 w w.heap.size (fun k_=>((P1_2_ k_∨P2_2_ k_)∨w.heap.size≤k_)) (.slice jg j7.length jh) j7 from Kd.oN hs2_2 (fun k_ hk=> .inl (.inr hk)))
 have HB:=am (Below.refl w.heap.size w)
 have H:(some (a0,0,(([(⟨j9,ja,j6⟩:S32),(⟨jb,jc,j7⟩:S32)]:List (S32)))))=some (r1,r2,r3):=h
 clear h
 obtain ⟨jF,hy_⟩:∃ y_:List (S32),y_=(([(⟨j9,ja,j6⟩:S32),(⟨jb,jc,j7⟩:S32)]:List (S32))):=⟨_,rfl⟩
 replace H:(some (a0,0,jF))=some (r1,r2,r3):=rx_
 have jp:=am hy_
 clear hy_
 simp only [Option.some.injEq,Prod.mk.injEq] at H
 obtain ⟨rfl,rfl,rfl⟩:=H
 go_enter Try.func43,Try.ntmps43
 go_wp2_with (first|((with_reducible refine bQ (N:=4) rfl ?_);refine dJ rfl (N:=4) rfl (cs:=#[.int .i64 j9, .int .i64 ja, .slice je j6.length jf]) (t:=32) rn_ ?_;intro j4 hg w4 hbox hb;replace HO1_2:=am (Kd.wY (Kd.uV (by (with_reducible repeat (first|apply Kd.nK|apply Kd.nL|apply Kd.pW));exact HO1_2.out) j4 (Nat.le_of_eq hg.symm)) hb);replace HO2_2:=am (Kd.wY (Kd.uV (by (with_reducible repeat (first|apply Kd.nK|apply Kd.nL|apply Kd.pW));exact HO2_2.out) j4 (Nat.le_of_eq hg.symm)) hb);have j8:=am (hbox);have jP:=am ((by rw [hg];exact (aJ gK):w.heap.size≤j4));have GE21:=am ((by rw [hg];exact (aJ gK):w.heap.size≤j4));replace HB:=am (aG gK hb);clear hb hbox hg)|((with_reducible refine bQ (N:=5) rfl ?_);refine dJ rfl (N:=5) rfl (cs:=#[.int .i64 jb, .int .i64 jc, .slice jg j7.length jh]) (t:=32) rn_ ?_;intro j5 hg w5 hbox hb;replace HO1_2:=am (Kd.wY (Kd.uV (by (with_reducible repeat (first|apply Kd.nK|apply Kd.nL|apply Kd.pW));exact HO1_2.out) j5 (Nat.le_of_eq hg.symm)) hb);replace HO2_2:=am (Kd.wY (Kd.uV (by (with_reducible repeat (first|apply Kd.nK|apply Kd.nL|apply Kd.pW));exact HO2_2.out) j5 (Nat.le_of_eq hg.symm)) hb);have jd:=am (hbox);have jQ:=am ((by rw [hg];exact (aJ wI):w.heap.size≤j5));have GE22:=am ((by rw [hg];exact (aJ wI):w.heap.size≤j5));replace HB:=am (aG wI hb);have jj:=am ((by rw [hg];exact Nat.ne_of_lt (fO j8.out):j4≠j5));have jk:=am ((by rw [hg];exact Nat.ne_of_gt (fO j8.out):j5≠j4));replace j8:=bbP j8 hb;clear hb hbox hg)|((with_reducible refine bQ (N:=6) rfl ?_);refine dJ rfl (N:=6) rfl (cs:=#[.int .i64 0, .int .i64 0, .slice none 0 0]) (t:=32) rn_ ?_;intro j3 hg w6 hbox hb;replace HO1_2:=am (Kd.wY (Kd.uV (by (with_reducible repeat (first|apply Kd.nK|apply Kd.nL|apply Kd.pW));exact HO1_2.out) j3 (Nat.le_of_eq hg.symm)) hb);replace HO2_2:=am (Kd.wY (Kd.uV (by (with_reducible repeat (first|apply Kd.nK|apply Kd.nL|apply Kd.pW));exact HO2_2.out) j3 (Nat.le_of_eq hg.symm)) hb);have ji:=am (hbox);have jR:=am ((by rw [hg];exact (aJ NI):w.heap.size≤j3));have GE23:=am ((by rw [hg];exact (aJ NI):w.heap.size≤j3));replace HB:=am (aG NI hb);have jl:=am ((by rw [hg];exact Nat.ne_of_lt (fO j8.out):j4≠j3));have jm:=am ((by rw [hg];exact Nat.ne_of_gt (fO j8.out):j3≠j4));replace j8:=bbP j8 hb;have jn:=am ((by rw [hg];exact Nat.ne_of_lt (fO jd.out):j5≠j3));have jo:=am ((by rw [hg];exact Nat.ne_of_gt (fO jd.out):j3≠j5));replace jd:=bbP jd hb;clear hb hbox hg;have jS:=jj.out;have jT:=jk.out;have jU:=jl.out;have jV:=jm.out;obtain ⟨jG,jH,jI,jJ,jK,jL⟩:=fZ j8.out;have jN:=jn.out;have jO:=jo.out;obtain ⟨jt,ju,jv,jw,jx,jy⟩:=fZ jd.out)|((with_reducible refine bQ (N:=10) rfl ?_);refine Kd.oQ k32 _ 32 rfl (N':=10) rfl (xs:=([(⟨j9,ja,j6⟩:S32),(⟨jb,jc,j7⟩:S32)]:List (S32))) (inner:=[.int .i64 j9, .int .i64 ja, .slice je j6.length jf, .int .i64 jb, .int .i64 jc, .slice jg j7.length jh]) (ok:=(fun k_=>((P1_2_ k_∨P2_2_ k_)∨w.heap.size≤k_)∧k_≠j4∧k_≠j5∧k_≠j3)) (okp:=(fun k_=>((P1_2_ k_∨P2_2_ k_)∨w.heap.size≤k_)∧k_≠j4∧k_≠j5∧k_≠j3)) rn_ ?hp (fun _ hk=>hk) ((show ∀ k_,w6.heap.size≤k_→(fun k_=>((P1_2_ k_∨P2_2_ k_)∨w.heap.size≤k_)∧k_≠j4∧k_≠j5∧k_≠j3) k_ from fun k_ hk=>⟨(.inr (Nat.le_trans (aJ PL) hk)),fG j8.out k_ hk,fG jd.out k_ hk,fG ji.out k_ hk⟩) _ (Nat.le_refl _)) (Below.refl _ _) (Nat.le_refl _) (by simp) ?_;(case hp=>exact (eY.c3 (show Kd.FK k32 _ _ (⟨j9,ja,j6⟩:S32) [.int .i64 j9, .int .i64 ja, .slice je j6.length jf] from (uH _ _ (⟨j9,ja,j6⟩:S32) (Kd.wE (Kd.oN (ok':=(fun k_=>((P1_2_ k_∨P2_2_ k_)∨w.heap.size≤k_)∧k_≠j4∧k_≠j5∧k_≠j3)) (HO1_2.out) (fun k_ hk=>⟨hk.1.1.1,⟨hk.1.1.2,⟨hk.1.2,hk.2⟩⟩⟩))).2.1 (Kd.V_F (Kd.oN (ok':=(fun k_=>((P1_2_ k_∨P2_2_ k_)∨w.heap.size≤k_)∧k_≠j4∧k_≠j5∧k_≠j3)) (HO1_2.out) (fun k_ hk=>⟨hk.1.1.1,⟨hk.1.1.2,⟨hk.1.2,hk.2⟩⟩⟩))))) (eY.c3 (show Kd.FK k32 _ _ (⟨jb,jc,j7⟩:S32) [.int .i64 jb, .int .i64 jc, .slice jg j7.length jh] from (uH _ _ (⟨jb,jc,j7⟩:S32) (Kd.wE (Kd.oN (ok':=(fun k_=>((P1_2_ k_∨P2_2_ k_)∨w.heap.size≤k_)∧k_≠j4∧k_≠j5∧k_≠j3)) (HO2_2.out) (fun k_ hk=>⟨hk.1.1.1,⟨hk.1.1.2,⟨hk.1.2,hk.2⟩⟩⟩))).2.1 (Kd.V_F (Kd.oN (ok':=(fun k_=>((P1_2_ k_∨P2_2_ k_)∨w.heap.size≤k_)∧k_≠j4∧k_≠j5∧k_≠j3)) (HO2_2.out) (fun k_ hk=>⟨hk.1.1.1,⟨hk.1.1.2,⟨hk.1.2,hk.2⟩⟩⟩))))) (eY.none _ _))));intro jW jX ho13 hb hg_ hnew_;clear hg_ hnew_;(first|rw [← jp.out] at ho13|(simp only [Int.reduceToNat] at ho13;rw [← jp.out] at ho13));replace HO1_2:=am (Kd.wD (by (with_reducible repeat (first|apply Kd.nK|apply Kd.nL|apply Kd.pW));exact HO1_2.out) (Kd.dL ho13) hb);replace HO2_2:=am (Kd.wD (by (with_reducible repeat (first|apply Kd.nK|apply Kd.nL|apply Kd.pW));exact HO2_2.out) (Kd.dL ho13) hb);have jq:=am (Kd.dH ho13 (aJ PL));replace j8:=bbP j8 hb;replace jd:=bbP jd hb;replace ji:=bbP ji hb;replace HB:=am (aG PL hb);clear hb ho13;obtain ⟨jr,js,jM⟩:=Kd.dD jq.out;subst jM;obtain ⟨jz,jA,jB,jC,jD,jE⟩:=fZ ji.out))
 refine bodyPost_ret (results_cell_row rfl _ _ j3 32 #[.int .i64 a0, .int .i64 0, .slice jr jF.length js] (0,0) _ rfl (aM (aM (aM ji.out 0 _ rfl) 1 _ rfl) 2 _ rfl) Try.underlying32 rfl (by kernel_rfl)) rfl ?_
 exact ⟨_,iM,eO (Kd.aD (Kd.aT (p:=⟨j3,2,none⟩) (Kd.aT (p:=⟨j3,1,none⟩) (Kd.aT (p:=⟨j3,0,none⟩) (Kd.aD jq.out (fun k_ hk=>(⟨hk,hk.2.2.2⟩:_∧k_≠j3))) (fun _ hk=>hk.2) (.int .i64 a0)) (fun _ hk=>hk.2) (.int .i64 0)) (fun _ hk=>hk.2) (.slice jr jF.length js)) (fun _ hk=>hk.1.1)),PL⟩
theorem iR.mono:∀ a0 a1 k,LeO (iR.f k a0 a1) (iR.f (k + 1) a0 a1):=by
 intro a0 a1 k
 unfold iR.f
 have m0:=@aH.mono
 exact mo_
theorem iR.calls (k:Nat) (g:Nat) (j3:List Int) (j4:Int) (r1:Int) (r2:Int) (w0 w:World) (hI:aQ w0 w g j3 j4) (hB:Below w0.heap.size w0 w) (h:iR.f k j3 j4=some (r1,r2)):
  Calls Try.prog 44 #[.pointer (some ⟨g,0,none⟩)] w fun e w'=>e= .returned (.int .i64 r1)∧aQ w0 w' g j3 r2∧Below w0.heap.size w0 w'∧aI w w' g none:=by
 have HI0:=am hI
 have HK:=am (aI.refl w g none)
 have HL:=am hB.size
 clear hI
 have HW0:=am hB.size
 have HB:=am hB
 clear hB
 have H:((aH.f k j3 j4 12).bind fun j5=>(some (wrap64 (1 + j5.1),j5.2)))=some (r1,r2):=h
 clear h
 obtain ⟨⟨j6,j7⟩,A2,H⟩:=bsa H
 (try dsimp only at H)
 simp only [Option.some.injEq,Prod.mk.injEq] at H
 obtain ⟨rfl,rfl⟩:=H
 go_enter Try.func44,Try.ntmps44
 go_wp2_with (first|((with_reducible refine aN (f:=41) rfl ?_);refine gl_ 4 Try.func41 #[.pointer (some ⟨g,0,none⟩), .int .i64 12] ?_;(with_reducible refine (aH.calls k g j3 j4 12 j6 j7 w0 _ ?side1 ?side2 A2.out).mono ?_);(case side1=>exact gB);(case side2=>exact iT);rintro e w3 ⟨rfl,hi,hb,hk⟩;refine ⟨_,rfl,?_⟩;replace HK:=am (aI.trans fI hk (.inl rfl));replace HB:=am (hb);replace HI0:=am (hi);(try clear hb);(try clear hk);(try clear hi)))
 go_ret
 exact ⟨rr_,gB,iT,fI⟩
theorem fF.calls (a0:Int) (a1:Int) (r1:Int) (r2:Int) (r3:List (S32)) (w:World) (h:fF.f a0 a1=some (r1,r2,r3)):
  Calls Try.prog 45 #[.int .i64 a0, .int .i64 a1] w fun e w'=>∃ v2_:Value,e= .returned (.agg #[.int .i64 r1, .int .i64 r2,v2_])∧Kd.R k32 32 w' w.heap.size (fun _=>True) v2_ r3∧Below w.heap.size w w':=by
 have hu32:=Try.underlying32
 have HB:=am (Below.refl w.heap.size w)
 have H:(some (a0,a1,(([]:List (S32)))))=some (r1,r2,r3):=h
 clear h
 obtain ⟨j7,hy_⟩:∃ y_:List (S32),y_=(([]:List (S32))):=⟨_,rfl⟩
 replace H:(some (a0,a1,j7))=some (r1,r2,r3):=rx_
 have j5:=am hy_
 clear hy_
 simp only [Option.some.injEq,Prod.mk.injEq] at H
 obtain ⟨rfl,rfl,rfl⟩:=H
 go_enter Try.func45,Try.ntmps45
 go_wp2_with (first|((with_reducible refine bQ (N:=4) rfl ?_);refine dJ rfl (N:=4) rfl (cs:=#[.int .i64 0, .int .i64 0, .slice none 0 0]) (t:=32) rn_ ?_;intro j3 hg w3 hbox hb;have j4:=am (hbox);have jg:=am ((by rw [hg];exact (aJ gK):w.heap.size≤j3));have GE21:=am ((by rw [hg];exact (aJ gK):w.heap.size≤j3));replace HB:=am (aG gK hb);clear hb hbox hg)|((with_reducible refine bQ (N:=7) rfl ?_);refine Kd.CP k32 _ 32 rfl (N:=7) rfl (xs:=([]:List (S32))) (inner:=[]) (ok:=fun _=>True) (okp:=fun _=>True) rn_ ?hp (fun _ hk=>hk) trivial (Below.refl _ _) (Nat.le_refl _) (by simp) ?_;(case hp=>exact (eY.none _ _));intro ji w4 ho5 hb hg_ hnew_;clear hg_ hnew_;(first|rw [← j5.out] at ho5|(simp only [Int.reduceToNat] at ho5;rw [← j5.out] at ho5));have j6:=am (Kd.kC (Kd.KE ho5 (g:=j3) (o:= .cells #[.int .i64 0, .int .i64 0, .slice none 0 0] 32 (0,0)) (aG_ j4.out)) (aJ wI));replace j4:=bbP j4 hb;replace HB:=am (aG wI hb);clear hb ho5;obtain ⟨je,jf,jh⟩:=Kd.kP j6.out;subst jh;obtain ⟨j8,j9,ja,jb,jc,jd⟩:=fZ j4.out))
 refine bodyPost_ret (results_cell_row rfl _ _ j3 32 #[.int .i64 a0, .int .i64 a1, .slice je j7.length jf] (0,0) _ rfl (aM (aM (aM j4.out 0 _ rfl) 1 _ rfl) 2 _ rfl) Try.underlying32 rfl (by kernel_rfl)) rfl ?_
 exact ⟨_,iM,iC (Kd.cZ (Kd.dM (p:=⟨j3,2,none⟩) (Kd.dM (p:=⟨j3,1,none⟩) (Kd.dM (p:=⟨j3,0,none⟩) (Kd.cZ j6.out (fun k_ hk=>(⟨hk,hk.2⟩:_∧k_≠j3))) (fun _ hk=>hk.2) (.int .i64 a0)) (fun _ hk=>hk.2) (.int .i64 a1)) (fun _ hk=>hk.2) (.slice je j7.length jf)) (fun _ hk=>trivial)),wI⟩
theorem gT.mono:∀ a0 a1 k,LeO (gT.f k a0 a1) (gT.f (k + 1) a0 a1):=by
 intro a0 a1 k
 unfold gT.f
 have m0:=@aH.mono
 exact mo_
theorem gT.calls (k:Nat) (g:Nat) (j5:List Int) (j9:Int) (r1:Int) (r2:Int) (r3:List (S32)) (r4:Int) (w0 w:World) (hI:aQ w0 w g j5 j9) (hB:Below w0.heap.size w0 w) (h:gT.f k j5 j9=some (r1,r2,r3,r4)):
  Calls Try.prog 75 #[.pointer (some ⟨g,0,none⟩)] w fun e w'=>∃ v2_:Value,e= .returned (.agg #[.int .i64 r1, .int .i64 r2,v2_])∧Kd.R k32 32 w' w.heap.size (fun _=>True) v2_ r3∧aQ w0 w' g j5 r4∧Below w0.heap.size w0 w'∧aI w w' g none:=by
 have hu32:=Try.underlying32
 have HI0:=am hI
 have HK:=am (aI.refl w g none)
 have HL:=am hB.size
 clear hI
 have HW0:=am hB.size
 have HB:=am hB
 clear hB
 have H:((aH.f k j5 j9 4).bind fun jb=>(if jb.1=0 then ((aH.f k j5 jb.2 4).bind fun jj=>((fF.f 0 jj.1).bind fun jf=>(some (jf.1,jf.2.1,jf.2.2,jj.2)))) else (if jb.1=1 then ((some (([5,31,32,100,2047,2048,65536,99999]:List Int):List Int)).bind fun jd=>((aH.f k j5 jb.2 8).bind fun j7=>(if 0≤j7.1 then (if j7.1 < (jd.length:Int) then ((fF.f 0 (rd jd j7.1)).bind fun j8=>(some (j8.1,j8.2.1,j8.2.2,j7.2))) else (none)) else (none)))) else ((aH.f k j5 jb.2 4).bind fun jk=>((fF.f 13 jk.1).bind fun jg=>(some (jg.1,jg.2.1,jg.2.2,jk.2)))))))=some (r1,r2,r3,r4):=h
 clear h
 obtain ⟨⟨jc,ji⟩,A2,H⟩:=bsa H
 (try dsimp only at H)
 have HH_:=am H
 clear H
 go_enter Try.func75,Try.ntmps75
 go_upto_region 2 with (first|((with_reducible refine bQ (N:=2) rfl ?_);refine dJ rfl (N:=2) rfl (cs:=#[.int .i64 0, .int .i64 0, .slice none 0 0]) (t:=32) rn_ ?_;intro j3 hg w6 hbox hb;replace HB:=am (aG iT hb);have j4:=am (hbox);have GW48:=am ((by rw [hg];exact (aW (w:=w) (g:=g) (row:=none) fI):w.heap.size≤j3));have GE48:=am ((Nat.le_trans HW0.out (by rw [hg];exact (aW (w:=w) (g:=g) (row:=none) fI):w.heap.size≤j3):w0.heap.size≤j3));replace HK:=am (aI.trans fI (aI.of_below hb g none) (.inl rfl));have NB0_48:=am ((by rw [hg];exact Nat.ne_of_lt (aQ.lt (show aQ w0 _ g j5 j9 from gB)):g≠j3));have j6:=am ((by rw [hg];exact Nat.ne_of_gt (aQ.lt (show aQ w0 _ g j5 j9 from gB)):j3≠g));replace HI0:=am (aQ.below gB hb);clear hb hbox hg)|((with_reducible refine aN (f:=41) rfl ?_);refine gl_ 4 Try.func41 #[.pointer (some ⟨g,0,none⟩), .int .i64 4] ?_;(with_reducible refine (aH.calls k g j5 j9 4 jc ji w0 _ ?side1 ?side2 A2.out).mono ?_);(case side1=>exact vQ);(case side2=>exact wH);rintro e w7 ⟨rfl,hi,hb,hk⟩;refine ⟨_,rfl,?_⟩;replace j4:=am (aI.blk hk (g':=j3) (o:= .cells #[.int .i64 0, .int .i64 0, .slice none 0 0] 32 (0,0)) (aG_ j4.out) j6.out (by simp));replace HK:=am (aI.trans tL hk (.inl rfl));replace HB:=am (hb);replace HI0:=am (hi);(try clear hb);(try clear hk);(try clear hi)))
 have H:=HH_.out
 clear HH_
 by_cases c3:jc=0
 ·rw [if_pos c3] at H
  have jR:(jc == 0)=true:=beq_iff_eq.mpr c3
  have jS:(jc != 0)=false:=bne_eq_false_iff_eq.mpr c3
  clear c3
  obtain ⟨⟨jT,qn⟩,A4,H⟩:=bsa H
  (try dsimp only at H)
  obtain ⟨⟨jU,jV,jW⟩,A5,H⟩:=bsa H
  (try dsimp only at H)
  simp only [Option.some.injEq,Prod.mk.injEq] at H
  obtain ⟨rfl,rfl,rfl,rfl⟩:=H
  go_wp2_with (first|((with_reducible refine aN (f:=41) rfl ?_);refine gl_ 8 Try.func41 #[.pointer (some ⟨g,0,none⟩), .int .i64 4] ?_;(with_reducible refine (aH.calls k g j5 ji 4 jT qn w0 _ ?side1 ?side2 A4.out).mono ?_);(case side1=>exact vQ);(case side2=>exact wH);rintro e w8 ⟨rfl,hi,hb,hk⟩;refine ⟨_,rfl,?_⟩;replace j4:=am (aI.blk hk (g':=j3) (o:= .cells #[.int .i64 0, .int .i64 0, .slice none 0 0] 32 (0,0)) (aG_ j4.out) j6.out (by simp));replace HK:=am (aI.trans tL hk (.inl rfl));replace HB:=am (hb);replace HI0:=am (hi);(try clear hb);(try clear hk);(try clear hi))|((with_reducible refine aN (f:=45) rfl ?_);refine gl_ 9 Try.func45 #[.int .i64 0, .int .i64 jT] ?_;(with_reducible refine (fF.calls 0 jT jU jV jW _ A5.out).mono ?_);rintro e w9 ⟨qy,rfl,ho0,hb⟩;refine ⟨_,rfl,?_⟩;have jl:=am (Kd.kC (Kd.KE ho0 (g:=j3) (o:= .cells #[.int .i64 0, .int .i64 0, .slice none 0 0] 32 (0,0)) (aG_ j4.out)) (aW (w:=w) (g:=g) (row:=none) tL));replace j4:=bbP j4 hb;replace HK:=am (aI.trans tL (aI.of_below hb g none) (.inl rfl));replace HB:=am (aG wH hb);replace HI0:=am (aQ.below vQ hb);(try clear hb);(try clear ho0);have qb:=j6.out;have qc:=NB0_48.out;obtain ⟨jx,jy,jz,jA,jB,jC⟩:=fZ j4.out;obtain ⟨jm,jn,jX⟩:=Kd.kP jl.out;subst jX))
  refine bodyPost_ret (results_cell_row rfl _ _ j3 32 #[.int .i64 jU, .int .i64 jV, .slice jm jW.length jn] (0,0) _ rfl (aM (aM (aM j4.out 0 _ rfl) 1 _ rfl) 2 _ rfl) Try.underlying32 rfl (by kernel_rfl)) rfl ?_
  exact ⟨_,iM,iC (Kd.cZ (Kd.dM (p:=⟨j3,2,none⟩) (Kd.dM (p:=⟨j3,1,none⟩) (Kd.dM (p:=⟨j3,0,none⟩) (Kd.cZ jl.out (fun k_ hk=>(⟨hk,hk.2⟩:_∧k_≠j3))) (fun _ hk=>hk.2) (.int .i64 jU)) (fun _ hk=>hk.2) (.int .i64 jV)) (fun _ hk=>hk.2) (.slice jm jW.length jn)) (fun _ hk=>trivial)),vQ,wH,tL⟩
 rw [if_neg c3] at H
 have jR:(jc == 0)=false:=beq_eq_false_iff_ne.mpr c3
 have jS:(jc != 0)=true:=bne_iff_ne.mpr c3
 by_cases jh:jc=1
 ·rw [if_pos jh] at H
  have jo:(jc == 1)=true:=beq_iff_eq.mpr jh
  have jp:(jc != 1)=false:=bne_eq_false_iff_eq.mpr jh
  clear jh
  obtain ⟨jd,hy_⟩:∃ y_:List Int,y_=(([5,31,32,100,2047,2048,65536,99999]:List Int)):=⟨_,rfl⟩
  replace H:((aH.f k j5 ji 8).bind fun j7=>(if 0≤j7.1 then (if j7.1 < (jd.length:Int) then ((fF.f 0 (rd jd j7.1)).bind fun j8=>(some (j8.1,j8.2.1,j8.2.2,j7.2))) else (none)) else (none)))=some (r1,r2,r3,r4):=rx_
  have jq:=am hy_
  clear hy_
  obtain ⟨⟨je,qo⟩,qd,H⟩:=bsm H
  (try dsimp only at H)
  have qp:=am qd
  clear qd
  by_cases jD:0≤je
  ·rw [if_pos jD] at H
   have qe:decide (0≤je)=true:=decide_eq_true jD
   clear jD
   by_cases jE:je < (jd.length:Int)
   ·rw [if_pos jE] at H
    have qf:decide (je < (jd.length:Int))=true:=decide_eq_true jE
    clear jE
    obtain ⟨⟨jY,jZ,q0⟩,qg,H⟩:=bsm H
    (try dsimp only at H)
    have qq:=am qg
    clear qg
    simp only [Option.some.injEq,Prod.mk.injEq] at H
    obtain ⟨rfl,rfl,rfl,rfl⟩:=H
    go_wp2_with (first|((with_reducible refine bQ (N:=12) rfl ?_);refine Kd.CP (Kd.int .i64) _ 3 rfl (N:=12) rfl (xs:=([5,31,32,100,2047,2048,65536,99999]:List Int)) (inner:=[.int .i64 5, .int .i64 31, .int .i64 32, .int .i64 100, .int .i64 2047, .int .i64 2048, .int .i64 65536, .int .i64 99999]) (ok:=fun _=>True) (okp:=fun _=>True) rn_ ?hp (fun _ hk=>hk) trivial (Below.refl _ _) (Nat.le_refl _) (by simp) ?_;(case hp=>exact (eY.one (show Kd.M (Kd.int .i64) _ _ _ 5 [.int .i64 5] from rfl) (eY.one (show Kd.M (Kd.int .i64) _ _ _ 31 [.int .i64 31] from rfl) (eY.one (show Kd.M (Kd.int .i64) _ _ _ 32 [.int .i64 32] from rfl) (eY.one (show Kd.M (Kd.int .i64) _ _ _ 100 [.int .i64 100] from rfl) (eY.one (show Kd.M (Kd.int .i64) _ _ _ 2047 [.int .i64 2047] from rfl) (eY.one (show Kd.M (Kd.int .i64) _ _ _ 2048 [.int .i64 2048] from rfl) (eY.one (show Kd.M (Kd.int .i64) _ _ _ 65536 [.int .i64 65536] from rfl) (eY.one (show Kd.M (Kd.int .i64) _ _ _ 99999 [.int .i64 99999] from rfl) (eY.none _ _))))))))));intro qz qA ho21 hb hg_ hnew_;clear hg_ hnew_;(first|rw [← jq.out] at ho21|(simp only [Int.reduceToNat] at ho21;rw [← jq.out] at ho21));have ja:=am (Kd.kC ho21 (aW (w:=w) (g:=g) (row:=none) tL));replace j4:=bbP j4 hb;replace HK:=am (aI.trans tL (aI.of_below hb g none) (.inl rfl));replace HB:=am (aG wH hb);replace HI0:=am (aQ.below vQ hb);clear hb ho21)|((with_reducible refine aN (f:=41) rfl ?_);refine gl_ 14 Try.func41 #[.pointer (some ⟨g,0,none⟩), .int .i64 8] ?_;(with_reducible refine (aH.calls k g j5 ji 8 je qo w0 _ ?side1 ?side2 qp.out).mono ?_);(case side1=>exact vQ);(case side2=>exact wH);rintro e qB ⟨rfl,hi,hb,hk⟩;refine ⟨_,rfl,?_⟩;replace j4:=am (aI.blk hk (g':=j3) (o:= .cells #[.int .i64 0, .int .i64 0, .slice none 0 0] 32 (0,0)) (aG_ j4.out) j6.out (by simp));replace ja:=am (Kd.cZ (Kd.mF (aQ.apart (show aQ w0 _ g j5 ji from vQ) (aR_ ja.out) (by decide)) hk (fun _ h=>h.2)) (fun _ h=>h.1));replace HK:=am (aI.trans tL hk (.inl rfl));replace HB:=am (hb);replace HI0:=am (hi);(try clear hb);(try clear hk);(try clear hi);obtain ⟨qr,qs,q1⟩:=Kd.kP ja.out;subst q1;have q2:0≤(je:Int):=of_decide_eq_true gL;have q3:je < (jd.length:Int):=of_decide_eq_true gL;obtain ⟨qt,qu,q4⟩:=Kd.nJ (Kd.eT ja.out).2.2 je q2 q3;cases qu;replace q2:=eq_true q2;replace q3:=eq_true q3)|((with_reducible refine aN (f:=45) rfl ?_);refine gl_ 17 Try.func45 #[.int .i64 0, .int .i64 (rd jd je)] ?_;(with_reducible refine (fF.calls 0 (rd jd je) jY jZ q0 _ qq.out).mono ?_);rintro e qC ⟨qD,rfl,ho0,hb⟩;refine ⟨_,rfl,?_⟩;replace ja:=am (Kd.dW (aR_ ja.out) hb);have jr:=am (Kd.kC (Kd.KE ho0 (g:=j3) (o:= .cells #[.int .i64 0, .int .i64 0, .slice none 0 0] 32 (0,0)) (aG_ j4.out)) (aW (w:=w) (g:=g) (row:=none) tL));replace j4:=bbP j4 hb;replace HK:=am (aI.trans tL (aI.of_below hb g none) (.inl rfl));replace HB:=am (aG wH hb);replace HI0:=am (aQ.below vQ hb);(try clear hb);(try clear ho0);have qh:=j6.out;have qi:=NB0_48.out;obtain ⟨jF,jG,jH,jI,jJ,jK⟩:=fZ j4.out;obtain ⟨js,jt,q5⟩:=Kd.kP jr.out;subst q5))
    refine bodyPost_ret (results_cell_row rfl _ _ j3 32 #[.int .i64 jY, .int .i64 jZ, .slice js q0.length jt] (0,0) _ rfl (aM (aM (aM j4.out 0 _ rfl) 1 _ rfl) 2 _ rfl) Try.underlying32 rfl (by kernel_rfl)) rfl ?_
    exact ⟨_,iM,iC (Kd.cZ (Kd.dM (p:=⟨j3,2,none⟩) (Kd.dM (p:=⟨j3,1,none⟩) (Kd.dM (p:=⟨j3,0,none⟩) (Kd.cZ jr.out (fun k_ hk=>(⟨hk,hk.2⟩:_∧k_≠j3))) (fun _ hk=>hk.2) (.int .i64 jY)) (fun _ hk=>hk.2) (.int .i64 jZ)) (fun _ hk=>hk.2) (.slice js q0.length jt)) (fun _ hk=>trivial)),vQ,wH,tL⟩
   rw [if_neg jE] at H
   exact absurd H (by simp)
  rw [if_neg jD] at H
  exact absurd H (by simp)
 rw [if_neg jh] at H
 have jo:(jc == 1)=false:=beq_eq_false_iff_ne.mpr jh
 have jp:(jc != 1)=true:=bne_iff_ne.mpr jh
 obtain ⟨⟨q6,qv⟩,qj,H⟩:=bsm H
 (try dsimp only at H)
 have qw:=am qj
 clear qj
 obtain ⟨⟨q7,q8,q9⟩,qk,H⟩:=bsm H
 (try dsimp only at H)
 have qx:=am qk
 clear qk
 simp only [Option.some.injEq,Prod.mk.injEq] at H
 obtain ⟨rfl,rfl,rfl,rfl⟩:=H
 go_wp2_with (first|((with_reducible refine aN (f:=41) rfl ?_);refine gl_ 19 Try.func41 #[.pointer (some ⟨g,0,none⟩), .int .i64 4] ?_;(with_reducible refine (aH.calls k g j5 ji 4 q6 qv w0 _ ?side1 ?side2 qw.out).mono ?_);(case side1=>exact vQ);(case side2=>exact wH);rintro e qE ⟨rfl,hi,hb,hk⟩;refine ⟨_,rfl,?_⟩;replace j4:=am (aI.blk hk (g':=j3) (o:= .cells #[.int .i64 0, .int .i64 0, .slice none 0 0] 32 (0,0)) (aG_ j4.out) j6.out (by simp));replace HK:=am (aI.trans tL hk (.inl rfl));replace HB:=am (hb);replace HI0:=am (hi);(try clear hb);(try clear hk);(try clear hi))|((with_reducible refine aN (f:=45) rfl ?_);refine gl_ 20 Try.func45 #[.int .i64 13, .int .i64 q6] ?_;(with_reducible refine (fF.calls 13 q6 q7 q8 q9 _ qx.out).mono ?_);rintro e qF ⟨qG,rfl,ho0,hb⟩;refine ⟨_,rfl,?_⟩;have ju:=am (Kd.kC (Kd.KE ho0 (g:=j3) (o:= .cells #[.int .i64 0, .int .i64 0, .slice none 0 0] 32 (0,0)) (aG_ j4.out)) (aW (w:=w) (g:=g) (row:=none) tL));replace j4:=bbP j4 hb;replace HK:=am (aI.trans tL (aI.of_below hb g none) (.inl rfl));replace HB:=am (aG wH hb);replace HI0:=am (aQ.below vQ hb);(try clear hb);(try clear ho0);have ql:=j6.out;have qm:=NB0_48.out;obtain ⟨jL,jM,jN,jO,jP,jQ⟩:=fZ j4.out;obtain ⟨jv,jw,qa⟩:=Kd.kP ju.out;subst qa))
 refine bodyPost_ret (results_cell_row rfl _ _ j3 32 #[.int .i64 q7, .int .i64 q8, .slice jv q9.length jw] (0,0) _ rfl (aM (aM (aM j4.out 0 _ rfl) 1 _ rfl) 2 _ rfl) Try.underlying32 rfl (by kernel_rfl)) rfl ?_
 exact ⟨_,iM,iC (Kd.cZ (Kd.dM (p:=⟨j3,2,none⟩) (Kd.dM (p:=⟨j3,1,none⟩) (Kd.dM (p:=⟨j3,0,none⟩) (Kd.cZ ju.out (fun k_ hk=>(⟨hk,hk.2⟩:_∧k_≠j3))) (fun _ hk=>hk.2) (.int .i64 q7)) (fun _ hk=>hk.2) (.int .i64 q8)) (fun _ hk=>hk.2) (.slice jv q9.length jw)) (fun _ hk=>trivial)),vQ,wH,tL⟩
theorem bI.mono_l:∀ k,(∀ y0 y1 y2,LeO (bI.f k y0 y1 y2) (bI.f (k + 1) y0 y1 y2))∧(∀ y0 y1 y2 y3,LeO (bI.j0 k y0 y1 y2 y3) (bI.j0 (k + 1) y0 y1 y2 y3))
 |0=>⟨fun _ _ _ r h=>by simp [bI.f] at h,fun _ _ _ _ r h=>by simp [bI.j0] at h⟩
 |k + 1=>by
  obtain ⟨ih0,ih1⟩:=bI.mono_l k
  refine ⟨?_,?_⟩
  ·intro y0 y1 y2
   unfold bI.f
   have m0:=@aH.mono
   have m1:=@gT.mono
   have m2:=@iR.mono
   exact mo_
  ·intro y0 y1 y2 y3
   unfold bI.j0
   have m0:=@aH.mono
   have m1:=@gT.mono
   have m2:=@iR.mono
   exact mo_
theorem bI.mono:∀ a0 a1 a2 k,LeO (bI.f k a0 a1 a2) (bI.f (k + 1) a0 a1 a2):=by
 intro a0 a1 a2 k
 obtain ⟨ih0,ih1⟩:=bI.mono_l k
 exact ih0 a0 a1 a2
def bI.T5:Bool × List (List Nat × List Nat):=(true,[([],[]),([],[]),([],[]),([],[]),([3],[3]),([2,4],[2,4]),([0,1,5,5],[0,1,5]),([6,6,0,1,2,3,4,5,6],[6])])
def bI.B5:List Nat:=[0,0,0,0,8,28,63,127]
theorem bI.WT:lJ .any (opsOf Try.f76 5)=bI.T5:=by kernel_rfl
theorem bI.LH:iW bI.T5.2 bI.B5=true:=by kernel_rfl
theorem bI.calls (k:Nat):∀ (g:Nat) (j8:List Int) (je:Int) (a1:Int) (r1:Int) (r2:Int) (r3:List (S32)) (r4:Int) (w0 w:World) (hI:aQ w0 w g j8 je) (hB:Below w0.heap.size w0 w) (h:bI.f k j8 je a1=some (r1,r2,r3,r4)),
  Calls Try.prog 76 #[.pointer (some ⟨g,0,none⟩), .int .i64 a1] w fun e w'=>∃ v2_:Value,e= .returned (.agg #[.int .i64 r1, .int .i64 r2,v2_])∧Kd.N k32 32 w' w.heap.size (fun k_=>(w.heap.size≤k_)) v2_ r3∧aQ w0 w' g j8 r4∧Below w0.heap.size w0 w'∧aI w w' g none:=by
 induction k using Nat.strongRecOn with
 | _ k ih=>
 intro g j8 je a1 r1 r2 r3 r4 w0 w hI hB h
 cases k with
 |zero=>exact absurd h (by simp [bI.f])
 |succ k=>
 simp only [bI.f] at h
 have hu32:=Try.underlying32
 have HI0:=am hI
 have HK:=am (aI.refl w g none)
 have HL:=am hB.size
 clear hI
 have HW0:=am hB.size
 have HB:=am hB
 clear hB
 have H:(if a1 < 2 then (bI.j0 k a1 true j8 je) else ((aH.f k j8 je 3).bind fun jo=>(bI.j0 k a1 (jo.1 == 0) j8 jo.2)))=some (r1,r2,r3,r4):=h
 clear h
 have jO:=am H
 clear H
 go_enter Try.func76,Try.ntmps76
 go_upto_region 1 with (first|((with_reducible refine bQ (N:=4) rfl ?_);refine dJ rfl (N:=4) rfl (cs:=#[.int .i64 0, .int .i64 0, .slice none 0 0]) (t:=32) rn_ ?_;intro j3 hg w4 hbox hb;replace HB:=am (aG iT hb);have j5:=am (hbox);have GW35:=am ((by rw [hg];exact (aW (w:=w) (g:=g) (row:=none) fI):w.heap.size≤j3));have GE35:=am ((Nat.le_trans HW0.out (by rw [hg];exact (aW (w:=w) (g:=g) (row:=none) fI):w.heap.size≤j3):w0.heap.size≤j3));replace HK:=am (aI.trans fI (aI.of_below hb g none) (.inl rfl));have NB0_35:=am ((by rw [hg];exact Nat.ne_of_lt (aQ.lt (show aQ w0 _ g j8 je from gB)):g≠j3));have jd:=am ((by rw [hg];exact Nat.ne_of_gt (aQ.lt (show aQ w0 _ g j8 je from gB)):j3≠g));replace HI0:=am (aQ.below gB hb);clear hb hbox hg))
 (try simp only [Act.put,List.setIfInBounds_toArray,List.set_cons_zero,List.set_cons_succ])
 go_cut [13] (fun qk wc=>∃ (kq:Nat) (jh:Bool) (jg:Int),qk= .bool jh∧Aside0 (bI.j0 kq a1 jh j8 jg=some (r1,r2,r3,r4))∧Aside0 (kq≤k)∧Aside0 (wc.heap[j3]?=some (.cells #[.int .i64 0, .int .i64 0,(.slice none 0 0)] 32 (0,0)))∧Aside0 (aQ w0 wc g j8 jg)∧Aside0 (aI w wc g none)∧Aside0 (Below w0.heap.size w0 wc))
 case first=>
  have H:=jO.out
  clear jO
  by_cases c5:a1 < 2
  ·rw [if_pos c5] at H
   have jk:decide (a1 < 2)=true:=decide_eq_true c5
   clear c5
   (first|rw [jk]|(simp only [dS,dV];rw [jk])|skip)
   have H':=am H
   clear H
   go_wp2
   go_meet
   case rel=>exact ⟨_,(true),(je),sd_,H',⟨by first|omega|exact Nat.le_refl _⟩,⟨by (with_reducible repeat (first|refine dQ ?_ _|refine bT ?_|refine dF ?_ _));exact j5.out⟩,⟨vR⟩,⟨uF⟩,⟨CV⟩⟩
  rw [if_neg c5] at H
  have jk:decide (a1 < 2)=false:=decide_eq_false c5
  clear c5
  (first|rw [jk]|(simp only [dS,dV];rw [jk])|skip)
  obtain ⟨⟨q7,q8⟩,A6,H⟩:=bsa H
  (try dsimp only at H)
  have H':=am H
  clear H
  go_wp2_with (first|(go_at_call 41;(with_reducible refine (aH.calls k g j8 je 3 q7 q8 w0 _ ?side1 ?side2 A6.out).mono ?_);(case side1=>exact vR);(case side2=>exact CV);rintro e w7 ⟨rfl,hi,hb,hk⟩;replace j5:=am (aI.blk hk (g':=j3) (o:= .cells #[.int .i64 0, .int .i64 0, .slice none 0 0] 32 (0,0)) (aG_ j5.out) jd.out (by simp));replace HK:=am (aI.trans uF hk (.inl rfl));replace HB:=am (hb);replace HI0:=am (hi);(try clear hb);(try clear hk);(try clear hi)))
  go_meet
  case rel=>exact ⟨_,((q7 == 0)),(q8),sd_,H',⟨by first|omega|exact Nat.le_refl _⟩,⟨by (with_reducible repeat (first|refine dQ ?_ _|refine bT ?_|refine dF ?_ _));exact j5.out⟩,⟨vR⟩,⟨uF⟩,⟨CV⟩⟩
 case rest=>
  clear jO
  obtain ⟨kq,jh,jg,rfl,HA,HJ2,j5,HI0,HK,HB⟩:=hcut
  cases kq with
  |zero=>exact absurd HA.out (by simp [bI.j0])
  |succ jA=>
   have H:=HA.out
   clear HA
   simp only [bI.j0] at H
   by_cases c8:jh=true
   ·subst c8
    rw [if_pos rfl] at H
    obtain ⟨⟨jP,jQ,jR,ql⟩,A9,H⟩:=bsa H
    (try dsimp only at H)
    simp only [Option.some.injEq,Prod.mk.injEq] at H
    obtain ⟨rfl,rfl,rfl,rfl⟩:=H
    go_wp2_with (first|((with_reducible refine aN (f:=75) rfl ?_);refine gl_ 15 Try.func75 #[.pointer (some ⟨g,0,none⟩)] ?_;(with_reducible refine (gT.calls jA g j8 jg jP jQ jR ql w0 _ ?side1 ?side2 A9.out).mono ?_);(case side1=>exact vR);(case side2=>exact CV);rintro e qv ⟨qw,rfl,ho0,hi,hb,hk⟩;refine ⟨_,rfl,?_⟩;have jp:=am (Kd.dH (Kd.aD (ok':=fun k_=>(w.heap.size≤k_)∧k_≠j3∧k_≠g) (Kd.R_N (Kd.mK ho0)) (fun k_ hk_=>⟨(Nat.le_trans (aW (w:=w) (g:=g) (row:=none) uF) hk_.2.1),(fG j5.out k_ hk_.2.1),(aQ.fresh vR k_ hk_.2.1)⟩)) (aW (w:=w) (g:=g) (row:=none) uF));replace j5:=am (aI.blk hk (g':=j3) (o:= .cells #[.int .i64 0, .int .i64 0, .slice none 0 0] 32 (0,0)) (aG_ j5.out) jd.out (by simp));replace HK:=am (aI.trans uF hk (.inl rfl));replace HB:=am (hb);replace HI0:=am (hi);(try clear hb);(try clear hk);(try clear hi);(try clear ho0);have q9:=jd.out;have qa:=NB0_35.out;obtain ⟨jB,jC,jD,jE,jF,jG⟩:=fZ j5.out;obtain ⟨jq,jr,jS⟩:=Kd.dD jp.out;subst jS))
    refine bodyPost_ret (results_cell_row rfl _ _ j3 32 #[.int .i64 jP, .int .i64 jQ, .slice jq jR.length jr] (0,0) _ rfl (aM (aM (aM j5.out 0 _ rfl) 1 _ rfl) 2 _ rfl) Try.underlying32 rfl (by kernel_rfl)) rfl ?_
    exact ⟨_,iM,eO (Kd.aD (Kd.aT (p:=⟨j3,2,none⟩) (Kd.aT (p:=⟨j3,1,none⟩) (Kd.aT (p:=⟨j3,0,none⟩) (Kd.aD jp.out (fun k_ hk=>(⟨hk,hk.2.1⟩:_∧k_≠j3))) (fun _ hk=>hk.2) (.int .i64 jP)) (fun _ hk=>hk.2) (.int .i64 jQ)) (fun _ hk=>hk.2) (.slice jq jR.length jr)) (fun _ hk=>hk.1.1)),vR,CV,uF⟩
   replace c8:=Bool.eq_false_iff.mpr c8
   subst c8
   rw [if_neg (show ¬ (false=true) by decide)] at H
   obtain ⟨⟨jT,qb⟩,qc,H⟩:=bsm H
   (try dsimp only at H)
   have qm:=am qc
   clear qc
   obtain ⟨⟨ji,jj,jf,js⟩,qd,H⟩:=bsm H
   (try dsimp only at H)
   have qn:=am qd
   clear qd
   obtain ⟨⟨jU,jV,jH,qo⟩,qe,H⟩:=bsm H
   (try dsimp only at H)
   have qp:=am qe
   clear qe
   obtain ⟨⟨jW,jX,jY⟩,qf,H⟩:=bsm H
   (try dsimp only at H)
   have qq:=am qf
   clear qf
   simp only [Option.some.injEq,Prod.mk.injEq] at H
   obtain ⟨rfl,rfl,rfl,rfl⟩:=H
   try go_wp2_with (first|((with_reducible refine aN (f:=44) rfl ?_);refine gl_ 17 Try.func44 #[.pointer (some ⟨g,0,none⟩)] ?_;(with_reducible refine (iR.calls jA g j8 jg jT qb w0 _ ?side1 ?side2 qm.out).mono ?_);(case side1=>exact vR);(case side2=>exact CV);rintro e qx ⟨rfl,hi,hb,hk⟩;refine ⟨_,rfl,?_⟩;replace j5:=am (aI.blk hk (g':=j3) (o:= .cells #[.int .i64 0, .int .i64 0, .slice none 0 0] 32 (0,0)) (aG_ j5.out) jd.out (by simp));replace HK:=am (aI.trans uF hk (.inl rfl));replace HB:=am (hb);replace HI0:=am (hi);(try clear hb);(try clear hk);(try clear hi))|((with_reducible refine aN (f:=76) rfl ?_);refine gl_ 21 Try.func76 #[.pointer (some ⟨g,0,none⟩), .int .i64 (wrap64 (a1 - 1))] ?_;(with_reducible refine (ih jA (by have:=HJ2.out;omega) g j8 qb (wrap64 (a1 - 1)) ji jj jf js w0 _ ?side1 ?side2 qn.out).mono ?_);(case side1=>exact vR);(case side2=>exact CV);rintro e qy ⟨qz,rfl,ho0,hi,hb,hk⟩;refine ⟨_,rfl,?_⟩;have ja:=am (Kd.dH (Kd.aD (ok':=fun k_=>(w.heap.size≤k_)∧k_≠j3∧k_≠g) ho0 (fun k_ hk_=>⟨(Nat.le_trans (aW (w:=w) (g:=g) (row:=none) uF) hk_),(fG j5.out k_ hk_),(aQ.fresh vR k_ hk_)⟩)) (aW (w:=w) (g:=g) (row:=none) uF));replace j5:=am (aI.blk hk (g':=j3) (o:= .cells #[.int .i64 0, .int .i64 0, .slice none 0 0] 32 (0,0)) (aG_ j5.out) jd.out (by simp));replace HK:=am (aI.trans uF hk (.inl rfl));replace HB:=am (hb);replace HI0:=am (hi);(try clear hb);(try clear hk);(try clear hi);(try clear ho0))|((with_reducible refine bQ (N:=6) rfl ?_);refine dJ rfl (N:=6) rfl (cs:=#[.int .i64 0, .int .i64 0, .slice none 0 0]) (t:=32) rn_ ?_;intro j4 hg jn hbox hb;replace ja:=am (Kd.dG (Kd.fC (aN_ ja.out) j4 (Nat.le_of_eq hg.symm)) hb);replace HB:=am (aG CV hb);have j7:=am (hbox);have GW66:=am ((by rw [hg];exact (aW (w:=w) (g:=g) (row:=none) uF):w.heap.size≤j4));have GE66:=am ((Nat.le_trans HW0.out (by rw [hg];exact (aW (w:=w) (g:=g) (row:=none) uF):w.heap.size≤j4):w0.heap.size≤j4));replace HK:=am (aI.trans uF (aI.of_below hb g none) (.inl rfl));have j9:=am ((by rw [hg];exact Nat.ne_of_lt (fO j5.out):j3≠j4));have j6:=am ((by rw [hg];exact Nat.ne_of_gt (fO j5.out):j4≠j3));replace j5:=bbP j5 hb;have NB0_66:=am ((by rw [hg];exact Nat.ne_of_lt (aQ.lt (show aQ w0 _ g j8 js from vR)):g≠j4));have jl:=am ((by rw [hg];exact Nat.ne_of_gt (aQ.lt (show aQ w0 _ g j8 js from vR)):j4≠g));replace HI0:=am (aQ.below vR hb);clear hb hbox hg;have qg:=j6.out;have qh:=j9.out;have qi:=jl.out;have qj:=NB0_66.out;obtain ⟨jI,jJ,jK,jL,jM,jN⟩:=fZ j7.out;obtain ⟨jb,jc,jZ⟩:=Kd.dD ja.out;subst jZ))
   have q0:Aside0 (Kd.N k32 32 (((jn.setCell ⟨j4,0,none⟩ (.int .i64 ji)).setCell ⟨j4,1,none⟩ (.int .i64 jj)).setCell ⟨j4,2,none⟩ (.slice jb jf.length jc)) w.heap.size (fun k_=>(w.heap.size≤k_)∧k_≠j3∧k_≠g∧k_≠j4) (.slice jb jf.length jc) jf):=⟨eO (Kd.aD (Kd.aT (p:=⟨j4,2,none⟩) (Kd.aT (p:=⟨j4,1,none⟩) (Kd.aT (p:=⟨j4,0,none⟩) (Kd.aD ja.out (fun k_ hk=>(⟨hk,hk.2⟩:_∧k_≠j4))) (fun _ hk=>hk.2) (.int .i64 ji)) (fun _ hk=>hk.2) (.int .i64 jj)) (fun _ hk=>hk.2) (.slice jb jf.length jc)) (fun _ hk=>⟨hk.1.1.1,⟨hk.1.1.2.1,⟨hk.1.1.2.2,hk.1.2⟩⟩⟩))⟩
   have q1:Aside0 ((((jn.setCell ⟨j4,0,none⟩ (.int .i64 ji)).setCell ⟨j4,1,none⟩ (.int .i64 jj)).setCell ⟨j4,2,none⟩ (.slice jb jf.length jc)).heap[j3]?=some (.cells #[.int .i64 0, .int .i64 0, .slice none 0 0] 32 (0,0))):=⟨(aZ (aZ (aZ j5.out j9.out _) j9.out _) j9.out _)⟩
   have q2:Aside0 ((((jn.setCell ⟨j4,0,none⟩ (.int .i64 ji)).setCell ⟨j4,1,none⟩ (.int .i64 jj)).setCell ⟨j4,2,none⟩ (.slice jb jf.length jc)).heap[j4]?=some (.cells #[.int .i64 ji, .int .i64 jj, .slice jb jf.length jc] 32 (0,0))):=⟨(aM (aM (aM j7.out 0 _ rfl) 1 _ rfl) 2 _ rfl)⟩
   have q3:Aside0 (aQ w0 (((jn.setCell ⟨j4,0,none⟩ (.int .i64 ji)).setCell ⟨j4,1,none⟩ (.int .i64 jj)).setCell ⟨j4,2,none⟩ (.slice jb jf.length jc)) g j8 js):=⟨GR⟩
   have q4:Aside0 (aI w (((jn.setCell ⟨j4,0,none⟩ (.int .i64 ji)).setCell ⟨j4,1,none⟩ (.int .i64 jj)).setCell ⟨j4,2,none⟩ (.slice jb jf.length jc)) g none):=⟨CS⟩
   have q5:Aside0 (Below w0.heap.size w0 (((jn.setCell ⟨j4,0,none⟩ (.int .i64 ji)).setCell ⟨j4,1,none⟩ (.int .i64 jj)).setCell ⟨j4,2,none⟩ (.slice jb jf.length jc))):=⟨PK⟩
   (try clear ja)
   (try clear j5)
   (try clear j7)
   (try clear HI0)
   (try clear HK)
   (try clear HB)
   generalize (((jn.setCell ⟨j4,0,none⟩ (.int .i64 ji)).setCell ⟨j4,1,none⟩ (.int .i64 jj)).setCell ⟨j4,2,none⟩ (.slice jb jf.length jc))=qr at q0 q1 q2 q3 q4 q5 ⊢
   have ja:=q0
   have j5:=q1
   have j7:=q2
   have HI0:=q3
   have HK:=q4
   have HB:=q5
   clear q0 q1 q2 q3 q4 q5
   replace ja:=am (Kd.nO ja.out)
   replace j5:=am (bT j5.out)
   replace j7:=am (bT j7.out)
   replace HI0:=am (aQ.drew HI0.out)
   replace HK:=am (gW HK.out)
   replace HB:=am (bG HB.out)
   refine mR (n:=8) (S:=fun w'=>w'.cell? ⟨j4,0,none⟩=some (.int .i64 ji)∧w'.cell? ⟨j4,1,none⟩=some (.int .i64 jj)∧w'.cell? ⟨j4,2,none⟩=some (.slice jb jf.length jc)) (ds:=[]) (bz 8 0) (by kernel_rfl) rfl rfl ⟨(aA j7.out 0).trans rfl,(aA j7.out 1).trans rfl,(aA j7.out 2).trans rfl⟩ (fun hHeld=>?_);refine kE bI.WT bI.LH (fun HT_ HW_=>?_)
   generalize qr.drew=qA at ja j5 j7 HI0 HK HB hHeld ⊢
   refine pr_ 0 22 (bz 8 1) HT_ ?_
   refine pr_ 2 24 (bz 8 5) HT_ ?_
   refine pr_ 3 25 (bz 8 13) HT_ ?_
   refine pr_ 4 26 (bz 8 29) HT_ ?_
   refine aAw 1 23 (bz 8 31) HT_ HW_ hHeld ?_
   refine lH (i:=5) (N:=some 27) (bz 8 63) rfl rfl (gG HT_.out (by kernel_rfl)) (by decide) (fun K hK=>?_)
   refine kU Try.func76 (by kernel_rfl) rfl #[.pointer (some ⟨g,0,none⟩), .int .i64 (wrap64 (a1 - 1))] (by rfl) rfl rfl nX ?_
   with_reducible refine (ih jA (by have:=HJ2.out;omega) g j8 js (wrap64 (a1 - 1)) jU jV jH qo w0 _ ?side1 ?side2 qp.out).mono ?_
   (case side1=>exact GR)
   (case side2=>exact PK)
   rintro e qB ⟨qC,rfl,ho0,hi,hb,hk⟩
   refine ⟨_,rfl,?_⟩
   have jm:=am (Kd.dH (Kd.aD (ok':=fun k_=>(w.heap.size≤k_)∧some k_≠(.slice jb jf.length jc:Value).ownBlock∧k_≠j3∧k_≠j4∧k_≠g) ho0 (fun k_ hk_=>⟨(Nat.le_trans (aW (w:=w) (g:=g) (row:=none) CS) hk_),(Kd.fresh' (Kd.iH (aN_ ja.out)) k_ hk_),(fG j5.out k_ hk_),(fG j7.out k_ hk_),(aQ.fresh GR k_ hk_)⟩)) (aW (w:=w) (g:=g) (row:=none) CS))
   replace j5:=am (aI.blk hk (g':=j3) (o:= .cells #[.int .i64 0, .int .i64 0, .slice none 0 0] 32 (0,0)) (aG_ j5.out) jd.out (by simp))
   replace ja:=am (Kd.aD (Kd.gZ (Kd.uP (Kd.aD (ok:=fun k_=>(((w.heap.size≤k_))∧(k_≠j3∧(k_≠g∧k_≠j4)))) (aN_ ja.out) (fun k_ hk_=>(⟨hk_,hk_.2.2.1⟩:_∧k_≠g))) hk) (by first|exact Kd.dL ho0|exact Kd.dL (Kd.R_N ho0))) (fun _ h_=>h_.1))
   replace j7:=am (aI.blk hk (g':=j4) (o:= .cells #[.int .i64 ji, .int .i64 jj, .slice jb jf.length jc] 32 (0,0)) (aG_ j7.out) jl.out (by simp))
   replace HK:=am (aI.trans CS hk (.inl rfl))
   replace HB:=am (hb)
   replace HI0:=am (hi)
   (try clear hb)
   (try clear hb2)
   (try clear hk)
   (try clear hi)
   (try clear ho0)
   obtain ⟨jt,ju,jv⟩:=Kd.dD jm.out
   (first|subst jv|(injection jv with f1_ f2_ f3_;have f4_:=f1_.symm;have f5_:=f3_.symm;clear f1_ f2_ f3_;subst f4_;subst f5_))
   refine hK.out _ _ ⟨(aA j7.out 0).trans rfl,(aA j7.out 1).trans rfl,(aA j7.out 2).trans rfl⟩ (fun hHeld=>?_)
   clear hK K
   refine fB (a':=?_) ?_ ?_
   rotate_left
   ·show Act.put _ (some 27) _=_
    simp only [Act.put,List.setIfInBounds_toArray,List.set_cons_zero,List.set_cons_succ,dS,dV]
    rfl
   refine lH (i:=6) (N:=some 28) (bz 8 127) rfl rfl (gG HT_.out (by kernel_rfl)) (by decide) (fun K hK=>?_)
   refine kU Try.func43 (by kernel_rfl) rfl #[.int .i64 jT, .agg #[.int .i64 ji, .int .i64 jj, .slice jb jf.length jc], .agg #[.int .i64 jU, .int .i64 jV, .slice jt jH.length ju]] (by rfl) rfl rfl nX ?_
   with_reducible refine (kD.calls jT ji jj (fun k_=>(((w.heap.size≤k_)∧(k_≠j3∧(k_≠g∧k_≠j4)))∧some k_≠(.slice jt jH.length ju:Value).ownBlock)) _ _ jf jU jV (fun k_=>((w.heap.size≤k_)∧(some k_≠(.slice jb jf.length jc:Value).ownBlock∧(k_≠j3∧(k_≠j4∧k_≠g))))) _ _ jH jW jX jY _ ?side1 ?side2 qq.out).mono ?_
   (case side1=>exact Kd.N_V (ja.out))
   (case side2=>exact Kd.N_V (jm.out))
   rintro e q6 ⟨qD,rfl,ho0,hb⟩
   refine ⟨_,rfl,?_⟩
   replace ja:=am (Kd.fM (aN_ ja.out) (by first|exact Kd.dL ho0|exact Kd.dL (Kd.R_N ho0)) hb)
   replace jm:=am (Kd.fM (aN_ jm.out) (by first|exact Kd.dL ho0|exact Kd.dL (Kd.R_N ho0)) hb)
   have jw:=am (Kd.dH (Kd.aD (ok':=fun k_=>(w.heap.size≤k_)∧k_≠j3∧k_≠j4∧k_≠g) ho0 (fun k_ hk_=>⟨Or.elim hk_ (fun hs_=>Or.elim hs_ (fun hs_=>hs_.1.1) (fun hs_=>hs_.1)) (fun hn_=>(Nat.le_trans (aW (w:=w) (g:=g) (row:=none) CS) hn_)),Or.elim hk_ (fun hs_=>Or.elim hs_ (fun hs_=>hs_.1.2.1) (fun hs_=>hs_.2.2.1)) (fun hn_=>(fG j5.out k_ hn_)),Or.elim hk_ (fun hs_=>Or.elim hs_ (fun hs_=>hs_.1.2.2.2) (fun hs_=>hs_.2.2.2.1)) (fun hn_=>(fG j7.out k_ hn_)),Or.elim hk_ (fun hs_=>Or.elim hs_ (fun hs_=>hs_.1.2.2.1) (fun hs_=>hs_.2.2.2.2)) (fun hn_=>(aQ.fresh GR k_ hn_))⟩)) (aW (w:=w) (g:=g) (row:=none) CS))
   replace j5:=bbP j5 hb
   replace j7:=bbP j7 hb
   replace HK:=am (aI.trans CS (aI.of_below hb g none) (.inl rfl))
   replace HB:=am (aG PK hb)
   replace HI0:=am (aQ.below GR hb)
   (try clear hb)
   (try clear hb2)
   (try clear hk)
   (try clear hi)
   (try clear ho0)
   obtain ⟨jx,jy,jz⟩:=Kd.dD jw.out
   (first|subst jz|(injection jz with f1_ f2_ f3_;have f4_:=f1_.symm;have f5_:=f3_.symm;clear f1_ f2_ f3_;subst f4_;subst f5_))
   refine hK.out _ _ ⟨(aA j7.out 0).trans rfl,(aA j7.out 1).trans rfl,(aA j7.out 2).trans rfl⟩ (fun hHeld=>?_)
   clear hK K
   refine fB (a':=?_) ?_ ?_
   rotate_left
   ·show Act.put _ (some 28) _=_
    simp only [Act.put,List.setIfInBounds_toArray,List.set_cons_zero,List.set_cons_succ,dS,dV]
    rfl
   refine lH (i:=7) (N:=none) (bz 8 255) rfl rfl (gG HT_.out (by kernel_rfl)) (by decide) (fun K hK=>?_)
   have qs:q6.cell? ⟨j3,0,none⟩=some (.int .i64 0):=(aA j5.out 0).trans rfl
   have hfs30:=aU j5.out 0
   have hns30_1:=j6.out
   have hms30_1:=j9.out
   have qt:q6.cell? ⟨j3,1,none⟩=some (.int .i64 0):=(aA j5.out 1).trans rfl
   have hfs31:=aU j5.out 1
   have hns31_1:=j6.out
   have hms31_1:=j9.out
   have qu:q6.cell? ⟨j3,2,none⟩=some (.slice none 0 0):=(aA j5.out 2).trans rfl
   have hfs33:=aU j5.out 2
   have hns33_1:=j6.out
   have hms33_1:=j9.out
   refine rO (w1:=?_) (by rfl) rfl ?_ ?_
   rotate_left
   ·go_simp
    rfl
   refine hK.out _ _ ⟨((cell_far (p:=⟨j3,_,none⟩) j6.out _).trans (((cell_far (p:=⟨j3,_,none⟩) j6.out _).trans (((cell_far (p:=⟨j3,_,none⟩) j6.out _).trans (hHeld.1)))))),((cell_far (p:=⟨j3,_,none⟩) j6.out _).trans (((cell_far (p:=⟨j3,_,none⟩) j6.out _).trans (((cell_far (p:=⟨j3,_,none⟩) j6.out _).trans (hHeld.2.1)))))),((cell_far (p:=⟨j3,_,none⟩) j6.out _).trans (((cell_far (p:=⟨j3,_,none⟩) j6.out _).trans (((cell_far (p:=⟨j3,_,none⟩) j6.out _).trans (hHeld.2.2))))))⟩ (fun hHeld=>?_)
   clear hK K
   refine pE (lV HT_.out (by kernel_rfl)) ?_
   try go_wp2
   refine bodyPost_ret (results_cell_row rfl _ _ j3 32 #[.int .i64 jW, .int .i64 jX, .slice jx jY.length jy] (0,0) _ rfl (aM (aM (aM j5.out 0 _ rfl) 1 _ rfl) 2 _ rfl) Try.underlying32 rfl (by kernel_rfl)) rfl ?_
   exact ⟨_,iM,eO (Kd.aD (Kd.aT (p:=⟨j3,2,none⟩) (Kd.aT (p:=⟨j3,1,none⟩) (Kd.aT (p:=⟨j3,0,none⟩) (Kd.aD jw.out (fun k_ hk=>(⟨hk,hk.2.1⟩:_∧k_≠j3))) (fun _ hk=>hk.2) (.int .i64 jW)) (fun _ hk=>hk.2) (.int .i64 jX)) (fun _ hk=>hk.2) (.slice jx jY.length jy)) (fun _ hk=>hk.1.1)),GR,PK,CS⟩
theorem gN.mono:∀ a0 a1 k,LeO (gN.f k a0 a1) (gN.f (k + 1) a0 a1):=by
 intro a0 a1 k
 unfold gN.f
 have m0:=@aH.mono
 have m1:=@bI.mono
 exact mo_
theorem gN.calls (k:Nat) (g:Nat) (j4:List Int) (j7:Int) (r1:Int) (r2:Int) (r3:Int) (r4:Int) (r5:Int) (r6:List (S32)) (r7:List (S35)) (r8:List (S35)) (r9:Int) (w0 w:World) (hI:aQ w0 w g j4 j7) (hB:Below w0.heap.size w0 w) (h:gN.f k j4 j7=some (r1,r2,r3,r4,r5,r6,r7,r8,r9)):
  Calls Try.prog 103 #[.pointer (some ⟨g,0,none⟩)] w fun e w'=>∃ v5_ v6_ v7_:Value,e= .returned (.agg #[.int .i64 r1, .int .i64 r2, .int .i64 r3, .int .i64 r4, .int .i64 r5,v5_,v6_,v7_])∧Kd.N k32 32 w' w.heap.size (fun k_=>(w.heap.size≤k_)∧some k_≠(v6_:Value).ownBlock∧some k_≠(v7_:Value).ownBlock) v5_ r6∧Kd.N k35 35 w' w.heap.size (fun k_=>(w.heap.size≤k_)∧some k_≠(v5_:Value).ownBlock∧some k_≠(v7_:Value).ownBlock) v6_ r7∧Kd.N k35 35 w' w.heap.size (fun k_=>(w.heap.size≤k_)∧some k_≠(v5_:Value).ownBlock∧some k_≠(v6_:Value).ownBlock) v7_ r8∧aQ w0 w' g j4 r9∧Below w0.heap.size w0 w'∧aI w w' g none:=by
 have hu35:=Try.underlying35
 have HI0:=am hI
 have HK:=am (aI.refl w g none)
 have HL:=am hB.size
 clear hI
 have HW0:=am hB.size
 have HB:=am hB
 clear hB
 have H:((aH.f k j4 j7 3).bind fun j9=>((aH.f k j4 j9.2 3).bind fun ja=>((bI.f k j4 ja.2 (wrap64 (1 + ja.1))).bind fun j8=>(some (1,j9.1,0,j8.1,j8.2.1,j8.2.2.1,([]:List (S35)),([]:List (S35)),j8.2.2.2)))))=some (r1,r2,r3,r4,r5,r6,r7,r8,r9):=h
 clear h
 obtain ⟨⟨js,jx⟩,A2,H⟩:=bsa H
 (try dsimp only at H)
 obtain ⟨⟨jt,jy⟩,A3,H⟩:=bsa H
 (try dsimp only at H)
 obtain ⟨⟨ju,jv,jw,jD⟩,A4,H⟩:=bsa H
 (try dsimp only at H)
 simp only [Option.some.injEq,Prod.mk.injEq] at H
 obtain ⟨rfl,rfl,rfl,rfl,rfl,rfl,rfl,rfl,rfl⟩:=H
 go_enter Try.func103,Try.ntmps103
 go_wp2_with (first|((with_reducible refine bQ (N:=2) rfl ?_);refine dJ rfl (N:=2) rfl (cs:=#[.int .i64 0, .int .i64 0, .int .i64 0, .int .i64 0, .int .i64 0, .slice none 0 0, .slice none 0 0, .slice none 0 0]) (t:=35) rn_ ?_;intro j3 hg w5 hbox hb;replace HB:=am (aG iT hb);have j5:=am (hbox);have GW29:=am ((by rw [hg];exact (aW (w:=w) (g:=g) (row:=none) fI):w.heap.size≤j3));have GE29:=am ((Nat.le_trans HW0.out (by rw [hg];exact (aW (w:=w) (g:=g) (row:=none) fI):w.heap.size≤j3):w0.heap.size≤j3));replace HK:=am (aI.trans fI (aI.of_below hb g none) (.inl rfl));have NB0_29:=am ((by rw [hg];exact Nat.ne_of_lt (aQ.lt (show aQ w0 _ g j4 j7 from gB)):g≠j3));have j6:=am ((by rw [hg];exact Nat.ne_of_gt (aQ.lt (show aQ w0 _ g j4 j7 from gB)):j3≠g));replace HI0:=am (aQ.below gB hb);clear hb hbox hg)|((with_reducible refine aN (f:=41) rfl ?_);refine gl_ 5 Try.func41 #[.pointer (some ⟨g,0,none⟩), .int .i64 3] ?_;(with_reducible refine (aH.calls k g j4 j7 3 js jx w0 _ ?side1 ?side2 A2.out).mono ?_);(case side1=>exact LD);(case side2=>exact PO);rintro e w6 ⟨rfl,hi,hb,hk⟩;refine ⟨_,rfl,?_⟩;replace j5:=am (aI.blk hk (g':=j3) (o:= .cells #[.int .i64 0, .int .i64 0, .int .i64 0, .int .i64 0, .int .i64 0, .slice none 0 0, .slice none 0 0, .slice none 0 0] 35 (0,0)) (aG_ j5.out) j6.out (by simp));replace HK:=am (aI.trans GZ hk (.inl rfl));replace HB:=am (hb);replace HI0:=am (hi);(try clear hb);(try clear hk);(try clear hi))|((with_reducible refine aN (f:=41) rfl ?_);refine gl_ 9 Try.func41 #[.pointer (some ⟨g,0,none⟩), .int .i64 3] ?_;(with_reducible refine (aH.calls k g j4 jx 3 jt jy w0 _ ?side1 ?side2 A3.out).mono ?_);(case side1=>exact LD);(case side2=>exact PO);rintro e w7 ⟨rfl,hi,hb,hk⟩;refine ⟨_,rfl,?_⟩;replace j5:=am (aI.blk hk (g':=j3) (o:= .cells #[.int .i64 0, .int .i64 0, .int .i64 0, .int .i64 0, .int .i64 0, .slice none 0 0, .slice none 0 0, .slice none 0 0] 35 (0,0)) (aG_ j5.out) j6.out (by simp));replace HK:=am (aI.trans GZ hk (.inl rfl));replace HB:=am (hb);replace HI0:=am (hi);(try clear hb);(try clear hk);(try clear hi))|((with_reducible refine aN (f:=76) rfl ?_);refine gl_ 11 Try.func76 #[.pointer (some ⟨g,0,none⟩), .int .i64 (wrap64 (1 + jt))] ?_;(with_reducible refine (bI.calls k g j4 jy (wrap64 (1 + jt)) ju jv jw jD w0 _ ?side1 ?side2 A4.out).mono ?_);(case side1=>exact LD);(case side2=>exact PO);rintro e w8 ⟨jF,rfl,ho0,hi,hb,hk⟩;refine ⟨_,rfl,?_⟩;have jb:=am (Kd.dH (Kd.aD (ok':=fun k_=>(w.heap.size≤k_)∧k_≠j3∧k_≠g) ho0 (fun k_ hk_=>⟨(Nat.le_trans (aW (w:=w) (g:=g) (row:=none) GZ) hk_),(fG j5.out k_ hk_),(aQ.fresh LD k_ hk_)⟩)) (aW (w:=w) (g:=g) (row:=none) GZ));replace j5:=am (aI.blk hk (g':=j3) (o:= .cells #[.int .i64 0, .int .i64 0, .int .i64 0, .int .i64 0, .int .i64 0, .slice none 0 0, .slice none 0 0, .slice none 0 0] 35 (0,0)) (aG_ j5.out) j6.out (by simp));replace HK:=am (aI.trans GZ hk (.inl rfl));replace HB:=am (hb);replace HI0:=am (hi);(try clear hb);(try clear hk);(try clear hi);(try clear ho0);obtain ⟨jz,jA,jE⟩:=Kd.dD jb.out;subst jE;have jB:=j6.out;have jC:=NB0_29.out;obtain ⟨jc,jd,je,jf,jg,jh,ji,jj,jk,jl,jm,jn,jo,jp,jq,jr⟩:=eX j5.out))
 refine bodyPost_ret (results_cell_row rfl _ _ j3 35 #[.int .i64 1, .int .i64 js, .int .i64 0, .int .i64 ju, .int .i64 jv, .slice jz jw.length jA, .slice none 0 0, .slice none 0 0] (0,0) _ rfl (aM (aM (aM (aM (aM (aM (aM (aM j5.out 0 _ rfl) 1 _ rfl) 2 _ rfl) 3 _ rfl) 4 _ rfl) 5 _ rfl) 6 _ rfl) 7 _ rfl) Try.underlying35 rfl (by kernel_rfl)) rfl ?_
 exact ⟨_,_,_,iM,eO (Kd.aD (Kd.aT (p:=⟨j3,7,none⟩) (Kd.aT (p:=⟨j3,6,none⟩) (Kd.aT (p:=⟨j3,5,none⟩) (Kd.aT (p:=⟨j3,4,none⟩) (Kd.aT (p:=⟨j3,3,none⟩) (Kd.aT (p:=⟨j3,2,none⟩) (Kd.aT (p:=⟨j3,1,none⟩) (Kd.aT (p:=⟨j3,0,none⟩) (Kd.aD jb.out (fun k_ hk=>(⟨hk,hk.2.1⟩:_∧k_≠j3))) (fun _ hk=>hk.2) (.int .i64 1)) (fun _ hk=>hk.2) (.int .i64 js)) (fun _ hk=>hk.2) (.int .i64 0)) (fun _ hk=>hk.2) (.int .i64 ju)) (fun _ hk=>hk.2) (.int .i64 jv)) (fun _ hk=>hk.2) (.slice jz jw.length jA)) (fun _ hk=>hk.2) (.slice none 0 0)) (fun _ hk=>hk.2) (.slice none 0 0)) (fun _ hk=>⟨hk.1.1,⟨(by simp [Value.ownBlock]),(by simp [Value.ownBlock])⟩⟩)),by first|exact Kd.oU _ _ _ _ _|exact Kd.sP _ _ _ _ _|exact Kd.sU _ _ _ _ _|exact Kd.sQ _ _ _ _ _|exact Kd.sS _ _ _ _ _,by first|exact Kd.oU _ _ _ _ _|exact Kd.sP _ _ _ _ _|exact Kd.sU _ _ _ _ _|exact Kd.sQ _ _ _ _ _|exact Kd.sS _ _ _ _ _,LD,PO,GZ⟩
theorem gU.mono:∀ a0 a1 a2 k,LeO (gU.f k a0 a1 a2) (gU.f (k + 1) a0 a1 a2):=by
 intro a0 a1 a2 k
 unfold gU.f
 have m0:=@aH.mono
 have m1:=@bI.mono
 have m2:=@gN.mono
 exact mo_
theorem gU.calls (k:Nat) (g:Nat) (j6:List Int) (j7:Int) (a1:Int) (r1:Int) (r2:Int) (r3:Int) (r4:Int) (r5:Int) (r6:List (S32)) (r7:List (S35)) (r8:List (S35)) (r9:Int) (w0 w:World) (hI:aQ w0 w g j6 j7) (hB:Below w0.heap.size w0 w) (h:gU.f k j6 j7 a1=some (r1,r2,r3,r4,r5,r6,r7,r8,r9)):
  Calls Try.prog 105 #[.pointer (some ⟨g,0,none⟩), .int .i64 a1] w fun e w'=>∃ v5_ v6_ v7_:Value,e= .returned (.agg #[.int .i64 r1, .int .i64 r2, .int .i64 r3, .int .i64 r4, .int .i64 r5,v5_,v6_,v7_])∧Kd.N k32 32 w' w.heap.size (fun k_=>(w.heap.size≤k_)∧some k_≠(v6_:Value).ownBlock∧some k_≠(v7_:Value).ownBlock) v5_ r6∧Kd.N k35 35 w' w.heap.size (fun k_=>(w.heap.size≤k_)∧some k_≠(v5_:Value).ownBlock∧some k_≠(v7_:Value).ownBlock) v6_ r7∧Kd.N k35 35 w' w.heap.size (fun k_=>(w.heap.size≤k_)∧some k_≠(v5_:Value).ownBlock∧some k_≠(v6_:Value).ownBlock) v7_ r8∧aQ w0 w' g j6 r9∧Below w0.heap.size w0 w'∧aI w w' g none:=by
 have hu35:=Try.underlying35
 have HI0:=am hI
 have HK:=am (aI.refl w g none)
 have HL:=am hB.size
 clear hI
 have HW0:=am hB.size
 have HB:=am hB
 clear hB
 have H:(if a1 < 1 then ((gN.f k j6 j7).bind fun j8=>(some (j8.1,j8.2.1,j8.2.2.1,j8.2.2.2.1,j8.2.2.2.2.1,j8.2.2.2.2.2.1,j8.2.2.2.2.2.2.1,j8.2.2.2.2.2.2.2.1,j8.2.2.2.2.2.2.2.2))) else ((aH.f k j6 j7 a1).bind fun je=>((aH.f k j6 je.2 2).bind fun jf=>(if jf.1=0 then ((aH.f k j6 jf.2 3).bind fun ji=>((bI.f k j6 ji.2 (wrap64 (1 + ji.1))).bind fun j9=>(some (4,0,je.1,j9.1,j9.2.1,j9.2.2.1,([]:List (S35)),([]:List (S35)),j9.2.2.2)))) else ((aH.f k j6 jf.2 3).bind fun jj=>(some (5,jj.1,je.1,0,0,([]:List (S32)),([]:List (S35)),([]:List (S35)),jj.2)))))))=some (r1,r2,r3,r4,r5,r6,r7,r8,r9):=h
 clear h
 have HH_:=am H
 clear H
 go_enter Try.func105,Try.ntmps105
 go_upto_region 1 with (first|((with_reducible refine bQ (N:=4) rfl ?_);refine dJ rfl (N:=4) rfl (cs:=#[.int .i64 0, .int .i64 0, .int .i64 0, .int .i64 0, .int .i64 0, .slice none 0 0, .slice none 0 0, .slice none 0 0]) (t:=35) rn_ ?_;intro j3 hg w5 hbox hb;replace HB:=am (aG iT hb);have j4:=am (hbox);have GW39:=am ((by rw [hg];exact (aW (w:=w) (g:=g) (row:=none) fI):w.heap.size≤j3));have GE39:=am ((Nat.le_trans HW0.out (by rw [hg];exact (aW (w:=w) (g:=g) (row:=none) fI):w.heap.size≤j3):w0.heap.size≤j3));replace HK:=am (aI.trans fI (aI.of_below hb g none) (.inl rfl));have NB0_39:=am ((by rw [hg];exact Nat.ne_of_lt (aQ.lt (show aQ w0 _ g j6 j7 from gB)):g≠j3));have j5:=am ((by rw [hg];exact Nat.ne_of_gt (aQ.lt (show aQ w0 _ g j6 j7 from gB)):j3≠g));replace HI0:=am (aQ.below gB hb);clear hb hbox hg))
 have H:=HH_.out
 clear HH_
 by_cases c3:a1 < 1
 ·rw [if_pos c3] at H
  have qb:decide (a1 < 1)=true:=decide_eq_true c3
  clear c3
  obtain ⟨⟨jk,jl,jm,jn,jo,jp,jq,jr,qO⟩,A4,H⟩:=bsa H
  (try dsimp only at H)
  simp only [Option.some.injEq,Prod.mk.injEq] at H
  obtain ⟨rfl,rfl,rfl,rfl,rfl,rfl,rfl,rfl,rfl⟩:=H
  go_wp2_with (first|((with_reducible refine aN (f:=103) rfl ?_);refine gl_ 9 Try.func103 #[.pointer (some ⟨g,0,none⟩)] ?_;(with_reducible refine (gN.calls k g j6 j7 jk jl jm jn jo jp jq jr qO w0 _ ?side1 ?side2 A4.out).mono ?_);(case side1=>exact tK);(case side2=>exact wG);rintro e w6 ⟨qz,qA,qB,rfl,ho0,ho1,ho2,hi,hb,hk⟩;refine ⟨_,rfl,?_⟩;have js:=am (Kd.dH (Kd.aD (ok':=fun k_=>(w.heap.size≤k_)∧some k_≠(qA:Value).ownBlock∧some k_≠(qB:Value).ownBlock∧k_≠j3∧k_≠g) ho0 (fun k_ hk_=>⟨(Nat.le_trans (aW (w:=w) (g:=g) (row:=none) pY) hk_.1),hk_.2.1,hk_.2.2,(fG j4.out k_ hk_.1),(aQ.fresh tK k_ hk_.1)⟩)) (aW (w:=w) (g:=g) (row:=none) pY));have jt:=am (Kd.dH (Kd.aD (ok':=fun k_=>(w.heap.size≤k_)∧some k_≠(qz:Value).ownBlock∧some k_≠(qB:Value).ownBlock∧k_≠j3∧k_≠g) ho1 (fun k_ hk_=>⟨(Nat.le_trans (aW (w:=w) (g:=g) (row:=none) pY) hk_.1),hk_.2.1,hk_.2.2,(fG j4.out k_ hk_.1),(aQ.fresh tK k_ hk_.1)⟩)) (aW (w:=w) (g:=g) (row:=none) pY));have ju:=am (Kd.dH (Kd.aD (ok':=fun k_=>(w.heap.size≤k_)∧some k_≠(qz:Value).ownBlock∧some k_≠(qA:Value).ownBlock∧k_≠j3∧k_≠g) ho2 (fun k_ hk_=>⟨(Nat.le_trans (aW (w:=w) (g:=g) (row:=none) pY) hk_.1),hk_.2.1,hk_.2.2,(fG j4.out k_ hk_.1),(aQ.fresh tK k_ hk_.1)⟩)) (aW (w:=w) (g:=g) (row:=none) pY));replace j4:=am (aI.blk hk (g':=j3) (o:= .cells #[.int .i64 0, .int .i64 0, .int .i64 0, .int .i64 0, .int .i64 0, .slice none 0 0, .slice none 0 0, .slice none 0 0] 35 (0,0)) (aG_ j4.out) j5.out (by simp));replace HK:=am (aI.trans pY hk (.inl rfl));replace HB:=am (hb);replace HI0:=am (hi);(try clear hb);(try clear hk);(try clear hi);(try clear ho0);(try clear ho1);(try clear ho2);have qP:=j5.out;have qQ:=NB0_39.out;obtain ⟨qc,qd,qe,qf,qg,qh,qi,qj,qk,ql,qm,qn,qo,qp,qq,qr⟩:=eX j4.out;obtain ⟨jB,jC,qR⟩:=Kd.dD js.out;subst qR;obtain ⟨ja,jb,qs⟩:=Kd.dD jt.out;subst qs;obtain ⟨jc,jd,qt⟩:=Kd.dD ju.out;subst qt))
  refine bodyPost_ret (results_cell_row rfl _ _ j3 35 #[.int .i64 jk, .int .i64 jl, .int .i64 jm, .int .i64 jn, .int .i64 jo, .slice jB jp.length jC, .slice ja jq.length jb, .slice jc jr.length jd] (0,0) _ rfl (aM (aM (aM (aM (aM (aM (aM (aM j4.out 0 _ rfl) 1 _ rfl) 2 _ rfl) 3 _ rfl) 4 _ rfl) 5 _ rfl) 6 _ rfl) 7 _ rfl) Try.underlying35 rfl (by kernel_rfl)) rfl ?_
  exact ⟨_,_,_,iM,eO (Kd.aD (Kd.aT (p:=⟨j3,7,none⟩) (Kd.aT (p:=⟨j3,6,none⟩) (Kd.aT (p:=⟨j3,5,none⟩) (Kd.aT (p:=⟨j3,4,none⟩) (Kd.aT (p:=⟨j3,3,none⟩) (Kd.aT (p:=⟨j3,2,none⟩) (Kd.aT (p:=⟨j3,1,none⟩) (Kd.aT (p:=⟨j3,0,none⟩) (Kd.aD js.out (fun k_ hk=>(⟨hk,hk.2.2.2.1⟩:_∧k_≠j3))) (fun _ hk=>hk.2) (.int .i64 jk)) (fun _ hk=>hk.2) (.int .i64 jl)) (fun _ hk=>hk.2) (.int .i64 jm)) (fun _ hk=>hk.2) (.int .i64 jn)) (fun _ hk=>hk.2) (.int .i64 jo)) (fun _ hk=>hk.2) (.slice jB jp.length jC)) (fun _ hk=>hk.2) (.slice ja jq.length jb)) (fun _ hk=>hk.2) (.slice jc jr.length jd)) (fun _ hk=>⟨hk.1.1,⟨hk.1.2.1,hk.1.2.2.1⟩⟩)),eO (Kd.aD (Kd.aT (p:=⟨j3,7,none⟩) (Kd.aT (p:=⟨j3,6,none⟩) (Kd.aT (p:=⟨j3,5,none⟩) (Kd.aT (p:=⟨j3,4,none⟩) (Kd.aT (p:=⟨j3,3,none⟩) (Kd.aT (p:=⟨j3,2,none⟩) (Kd.aT (p:=⟨j3,1,none⟩) (Kd.aT (p:=⟨j3,0,none⟩) (Kd.aD jt.out (fun k_ hk=>(⟨hk,hk.2.2.2.1⟩:_∧k_≠j3))) (fun _ hk=>hk.2) (.int .i64 jk)) (fun _ hk=>hk.2) (.int .i64 jl)) (fun _ hk=>hk.2) (.int .i64 jm)) (fun _ hk=>hk.2) (.int .i64 jn)) (fun _ hk=>hk.2) (.int .i64 jo)) (fun _ hk=>hk.2) (.slice jB jp.length jC)) (fun _ hk=>hk.2) (.slice ja jq.length jb)) (fun _ hk=>hk.2) (.slice jc jr.length jd)) (fun _ hk=>⟨hk.1.1,⟨hk.1.2.1,hk.1.2.2.1⟩⟩)),eO (Kd.aD (Kd.aT (p:=⟨j3,7,none⟩) (Kd.aT (p:=⟨j3,6,none⟩) (Kd.aT (p:=⟨j3,5,none⟩) (Kd.aT (p:=⟨j3,4,none⟩) (Kd.aT (p:=⟨j3,3,none⟩) (Kd.aT (p:=⟨j3,2,none⟩) (Kd.aT (p:=⟨j3,1,none⟩) (Kd.aT (p:=⟨j3,0,none⟩) (Kd.aD ju.out (fun k_ hk=>(⟨hk,hk.2.2.2.1⟩:_∧k_≠j3))) (fun _ hk=>hk.2) (.int .i64 jk)) (fun _ hk=>hk.2) (.int .i64 jl)) (fun _ hk=>hk.2) (.int .i64 jm)) (fun _ hk=>hk.2) (.int .i64 jn)) (fun _ hk=>hk.2) (.int .i64 jo)) (fun _ hk=>hk.2) (.slice jB jp.length jC)) (fun _ hk=>hk.2) (.slice ja jq.length jb)) (fun _ hk=>hk.2) (.slice jc jr.length jd)) (fun _ hk=>⟨hk.1.1,⟨hk.1.2.1,hk.1.2.2.1⟩⟩)),tK,wG,pY⟩
 rw [if_neg c3] at H
 have qb:decide (a1 < 1)=false:=decide_eq_false c3
 clear c3
 obtain ⟨⟨jv,jD⟩,qC,H⟩:=bsm H
 (try dsimp only at H)
 have qD:=am qC
 clear qC
 obtain ⟨⟨jg,jE⟩,qE,H⟩:=bsm H
 (try dsimp only at H)
 have qF:=am qE
 clear qE
 by_cases jh:jg=0
 ·rw [if_pos jh] at H
  have jw:(jg == 0)=true:=beq_iff_eq.mpr jh
  have jx:(jg != 0)=false:=bne_eq_false_iff_eq.mpr jh
  clear jh
  obtain ⟨⟨qu,qG⟩,qH,H⟩:=bsm H
  (try dsimp only at H)
  have qS:=am qH
  clear qH
  obtain ⟨⟨qv,qw,qx,qT⟩,qI,H⟩:=bsm H
  (try dsimp only at H)
  have qU:=am qI
  clear qI
  simp only [Option.some.injEq,Prod.mk.injEq] at H
  obtain ⟨rfl,rfl,rfl,rfl,rfl,rfl,rfl,rfl,rfl⟩:=H
  go_wp2_with (first|((with_reducible refine aN (f:=41) rfl ?_);refine gl_ 12 Try.func41 #[.pointer (some ⟨g,0,none⟩), .int .i64 a1] ?_;(with_reducible refine (aH.calls k g j6 j7 a1 jv jD w0 _ ?side1 ?side2 qD.out).mono ?_);(case side1=>exact tK);(case side2=>exact wG);rintro e qX ⟨rfl,hi,hb,hk⟩;refine ⟨_,rfl,?_⟩;replace j4:=am (aI.blk hk (g':=j3) (o:= .cells #[.int .i64 0, .int .i64 0, .int .i64 0, .int .i64 0, .int .i64 0, .slice none 0 0, .slice none 0 0, .slice none 0 0] 35 (0,0)) (aG_ j4.out) j5.out (by simp));replace HK:=am (aI.trans pY hk (.inl rfl));replace HB:=am (hb);replace HI0:=am (hi);(try clear hb);(try clear hk);(try clear hi))|((with_reducible refine aN (f:=41) rfl ?_);refine gl_ 14 Try.func41 #[.pointer (some ⟨g,0,none⟩), .int .i64 2] ?_;(with_reducible refine (aH.calls k g j6 jD 2 jg jE w0 _ ?side1 ?side2 qF.out).mono ?_);(case side1=>exact tK);(case side2=>exact wG);rintro e qY ⟨rfl,hi,hb,hk⟩;refine ⟨_,rfl,?_⟩;replace j4:=am (aI.blk hk (g':=j3) (o:= .cells #[.int .i64 0, .int .i64 0, .int .i64 0, .int .i64 0, .int .i64 0, .slice none 0 0, .slice none 0 0, .slice none 0 0] 35 (0,0)) (aG_ j4.out) j5.out (by simp));replace HK:=am (aI.trans pY hk (.inl rfl));replace HB:=am (hb);replace HI0:=am (hi);(try clear hb);(try clear hk);(try clear hi))|((with_reducible refine aN (f:=41) rfl ?_);refine gl_ 19 Try.func41 #[.pointer (some ⟨g,0,none⟩), .int .i64 3] ?_;(with_reducible refine (aH.calls k g j6 jE 3 qu qG w0 _ ?side1 ?side2 qS.out).mono ?_);(case side1=>exact tK);(case side2=>exact wG);rintro e qZ ⟨rfl,hi,hb,hk⟩;refine ⟨_,rfl,?_⟩;replace j4:=am (aI.blk hk (g':=j3) (o:= .cells #[.int .i64 0, .int .i64 0, .int .i64 0, .int .i64 0, .int .i64 0, .slice none 0 0, .slice none 0 0, .slice none 0 0] 35 (0,0)) (aG_ j4.out) j5.out (by simp));replace HK:=am (aI.trans pY hk (.inl rfl));replace HB:=am (hb);replace HI0:=am (hi);(try clear hb);(try clear hk);(try clear hi))|((with_reducible refine aN (f:=76) rfl ?_);refine gl_ 21 Try.func76 #[.pointer (some ⟨g,0,none⟩), .int .i64 (wrap64 (1 + qu))] ?_;(with_reducible refine (bI.calls k g j6 qG (wrap64 (1 + qu)) qv qw qx qT w0 _ ?side1 ?side2 qU.out).mono ?_);(case side1=>exact tK);(case side2=>exact wG);rintro e z0 ⟨z1,rfl,ho0,hi,hb,hk⟩;refine ⟨_,rfl,?_⟩;have jy:=am (Kd.dH (Kd.aD (ok':=fun k_=>(w.heap.size≤k_)∧k_≠j3∧k_≠g) ho0 (fun k_ hk_=>⟨(Nat.le_trans (aW (w:=w) (g:=g) (row:=none) pY) hk_),(fG j4.out k_ hk_),(aQ.fresh tK k_ hk_)⟩)) (aW (w:=w) (g:=g) (row:=none) pY));replace j4:=am (aI.blk hk (g':=j3) (o:= .cells #[.int .i64 0, .int .i64 0, .int .i64 0, .int .i64 0, .int .i64 0, .slice none 0 0, .slice none 0 0, .slice none 0 0] 35 (0,0)) (aG_ j4.out) j5.out (by simp));replace HK:=am (aI.trans pY hk (.inl rfl));replace HB:=am (hb);replace HI0:=am (hi);(try clear hb);(try clear hk);(try clear hi);(try clear ho0);obtain ⟨jz,jA,qy⟩:=Kd.dD jy.out;subst qy;have qJ:=j5.out;have qK:=NB0_39.out;obtain ⟨jF,jG,jH,jI,jJ,jK,jL,jM,jN,jO,jP,jQ,jR,jS,jT,jU⟩:=eX j4.out))
  refine bodyPost_ret (results_cell_row rfl _ _ j3 35 #[.int .i64 4, .int .i64 0, .int .i64 jv, .int .i64 qv, .int .i64 qw, .slice jz qx.length jA, .slice none 0 0, .slice none 0 0] (0,0) _ rfl (aM (aM (aM (aM (aM (aM (aM (aM j4.out 0 _ rfl) 1 _ rfl) 2 _ rfl) 3 _ rfl) 4 _ rfl) 5 _ rfl) 6 _ rfl) 7 _ rfl) Try.underlying35 rfl (by kernel_rfl)) rfl ?_
  exact ⟨_,_,_,iM,eO (Kd.aD (Kd.aT (p:=⟨j3,7,none⟩) (Kd.aT (p:=⟨j3,6,none⟩) (Kd.aT (p:=⟨j3,5,none⟩) (Kd.aT (p:=⟨j3,4,none⟩) (Kd.aT (p:=⟨j3,3,none⟩) (Kd.aT (p:=⟨j3,2,none⟩) (Kd.aT (p:=⟨j3,1,none⟩) (Kd.aT (p:=⟨j3,0,none⟩) (Kd.aD jy.out (fun k_ hk=>(⟨hk,hk.2.1⟩:_∧k_≠j3))) (fun _ hk=>hk.2) (.int .i64 4)) (fun _ hk=>hk.2) (.int .i64 0)) (fun _ hk=>hk.2) (.int .i64 jv)) (fun _ hk=>hk.2) (.int .i64 qv)) (fun _ hk=>hk.2) (.int .i64 qw)) (fun _ hk=>hk.2) (.slice jz qx.length jA)) (fun _ hk=>hk.2) (.slice none 0 0)) (fun _ hk=>hk.2) (.slice none 0 0)) (fun _ hk=>⟨hk.1.1,⟨(by simp [Value.ownBlock]),(by simp [Value.ownBlock])⟩⟩)),by first|exact Kd.oU _ _ _ _ _|exact Kd.sP _ _ _ _ _|exact Kd.sU _ _ _ _ _|exact Kd.sQ _ _ _ _ _|exact Kd.sS _ _ _ _ _,by first|exact Kd.oU _ _ _ _ _|exact Kd.sP _ _ _ _ _|exact Kd.sU _ _ _ _ _|exact Kd.sQ _ _ _ _ _|exact Kd.sS _ _ _ _ _,tK,wG,pY⟩
 rw [if_neg jh] at H
 have jw:(jg == 0)=false:=beq_eq_false_iff_ne.mpr jh
 have jx:(jg != 0)=true:=bne_iff_ne.mpr jh
 obtain ⟨⟨qL,qV⟩,qW,H⟩:=bsa H
 (try dsimp only at H)
 simp only [Option.some.injEq,Prod.mk.injEq] at H
 obtain ⟨rfl,rfl,rfl,rfl,rfl,rfl,rfl,rfl,rfl⟩:=H
 go_wp2_with (first|((with_reducible refine aN (f:=41) rfl ?_);refine gl_ 12 Try.func41 #[.pointer (some ⟨g,0,none⟩), .int .i64 a1] ?_;(with_reducible refine (aH.calls k g j6 j7 a1 jv jD w0 _ ?side1 ?side2 qD.out).mono ?_);(case side1=>exact tK);(case side2=>exact wG);rintro e z2 ⟨rfl,hi,hb,hk⟩;refine ⟨_,rfl,?_⟩;replace j4:=am (aI.blk hk (g':=j3) (o:= .cells #[.int .i64 0, .int .i64 0, .int .i64 0, .int .i64 0, .int .i64 0, .slice none 0 0, .slice none 0 0, .slice none 0 0] 35 (0,0)) (aG_ j4.out) j5.out (by simp));replace HK:=am (aI.trans pY hk (.inl rfl));replace HB:=am (hb);replace HI0:=am (hi);(try clear hb);(try clear hk);(try clear hi))|((with_reducible refine aN (f:=41) rfl ?_);refine gl_ 14 Try.func41 #[.pointer (some ⟨g,0,none⟩), .int .i64 2] ?_;(with_reducible refine (aH.calls k g j6 jD 2 jg jE w0 _ ?side1 ?side2 qF.out).mono ?_);(case side1=>exact tK);(case side2=>exact wG);rintro e z3 ⟨rfl,hi,hb,hk⟩;refine ⟨_,rfl,?_⟩;replace j4:=am (aI.blk hk (g':=j3) (o:= .cells #[.int .i64 0, .int .i64 0, .int .i64 0, .int .i64 0, .int .i64 0, .slice none 0 0, .slice none 0 0, .slice none 0 0] 35 (0,0)) (aG_ j4.out) j5.out (by simp));replace HK:=am (aI.trans pY hk (.inl rfl));replace HB:=am (hb);replace HI0:=am (hi);(try clear hb);(try clear hk);(try clear hi))|((with_reducible refine aN (f:=41) rfl ?_);refine gl_ 25 Try.func41 #[.pointer (some ⟨g,0,none⟩), .int .i64 3] ?_;(with_reducible refine (aH.calls k g j6 jE 3 qL qV w0 _ ?side1 ?side2 qW.out).mono ?_);(case side1=>exact tK);(case side2=>exact wG);rintro e z4 ⟨rfl,hi,hb,hk⟩;refine ⟨_,rfl,?_⟩;replace j4:=am (aI.blk hk (g':=j3) (o:= .cells #[.int .i64 0, .int .i64 0, .int .i64 0, .int .i64 0, .int .i64 0, .slice none 0 0, .slice none 0 0, .slice none 0 0] 35 (0,0)) (aG_ j4.out) j5.out (by simp));replace HK:=am (aI.trans pY hk (.inl rfl));replace HB:=am (hb);replace HI0:=am (hi);(try clear hb);(try clear hk);(try clear hi);have qM:=j5.out;have qN:=NB0_39.out;obtain ⟨jV,jW,jX,jY,jZ,q0,q1,q2,q3,q4,q5,q6,q7,q8,q9,qa⟩:=eX j4.out))
 refine bodyPost_ret (results_cell_row rfl _ _ j3 35 #[.int .i64 5, .int .i64 qL, .int .i64 jv, .int .i64 0, .int .i64 0, .slice none 0 0, .slice none 0 0, .slice none 0 0] (0,0) _ rfl (aM (aM (aM (aM (aM (aM (aM (aM j4.out 0 _ rfl) 1 _ rfl) 2 _ rfl) 3 _ rfl) 4 _ rfl) 5 _ rfl) 6 _ rfl) 7 _ rfl) Try.underlying35 rfl (by kernel_rfl)) rfl ?_
 exact ⟨_,_,_,iM,by first|exact Kd.oU _ _ _ _ _|exact Kd.sP _ _ _ _ _|exact Kd.sU _ _ _ _ _|exact Kd.sQ _ _ _ _ _|exact Kd.sS _ _ _ _ _,by first|exact Kd.oU _ _ _ _ _|exact Kd.sP _ _ _ _ _|exact Kd.sU _ _ _ _ _|exact Kd.sQ _ _ _ _ _|exact Kd.sS _ _ _ _ _,by first|exact Kd.oU _ _ _ _ _|exact Kd.sP _ _ _ _ _|exact Kd.sU _ _ _ _ _|exact Kd.sQ _ _ _ _ _|exact Kd.sS _ _ _ _ _,tK,wG,pY⟩
theorem dX.mono_all:∀ k,(∀ y0 y1 y2 y3,LeO (dX.f k y0 y1 y2 y3) (dX.f (k + 1) y0 y1 y2 y3))∧(∀ y0 y1 y2 y3 y4,LeO (bF.f k y0 y1 y2 y3 y4) (bF.f (k + 1) y0 y1 y2 y3 y4))∧(∀ y0 y1 y2 y3 y4 y5 y6,LeO (bF.j0 k y0 y1 y2 y3 y4 y5 y6) (bF.j0 (k + 1) y0 y1 y2 y3 y4 y5 y6))∧(∀ y0 y1 y2 y3 y4,LeO (bF.j1 k y0 y1 y2 y3 y4) (bF.j1 (k + 1) y0 y1 y2 y3 y4))∧(∀ y0 y1 y2 y3 y4,LeO (bF.j2 k y0 y1 y2 y3 y4) (bF.j2 (k + 1) y0 y1 y2 y3 y4))∧(∀ y0 y1 y2 y3 y4 y5,LeO (bS.f k y0 y1 y2 y3 y4 y5) (bS.f (k + 1) y0 y1 y2 y3 y4 y5))∧(∀ y0 y1 y2 y3 y4 y5 y6 y7,LeO (bS.l0 k y0 y1 y2 y3 y4 y5 y6 y7) (bS.l0 (k + 1) y0 y1 y2 y3 y4 y5 y6 y7))∧(∀ y0 y1 y2 y3 y4,LeO (eU.f k y0 y1 y2 y3 y4) (eU.f (k + 1) y0 y1 y2 y3 y4))
 |0=>⟨fun _ _ _ _ r h=>by simp [dX.f] at h,fun _ _ _ _ _ r h=>by simp [bF.f] at h,fun _ _ _ _ _ _ _ r h=>by simp [bF.j0] at h,fun _ _ _ _ _ r h=>by simp [bF.j1] at h,fun _ _ _ _ _ r h=>by simp [bF.j2] at h,fun _ _ _ _ _ _ r h=>by simp [bS.f] at h,fun _ _ _ _ _ _ _ _ r h=>by simp [bS.l0] at h,fun _ _ _ _ _ r h=>by simp [eU.f] at h⟩
 |k + 1=>by
  obtain ⟨ih0,ih1,ih2,ih3,ih4,ih5,ih6,ih7⟩:=dX.mono_all k
  refine ⟨?_,?_,?_,?_,?_,?_,?_,?_⟩
  ·intro y0 y1 y2 y3
   unfold dX.f
   have m0:=@aH.mono
   have m1:=@bI.mono
   have m2:=@gN.mono
   have m3:=@gU.mono
   exact mo_
  ·intro y0 y1 y2 y3 y4
   unfold bF.f
   have m0:=@aH.mono
   have m1:=@bI.mono
   have m2:=@gN.mono
   have m3:=@gU.mono
   exact mo_
  ·intro y0 y1 y2 y3 y4 y5 y6
   unfold bF.j0
   have m0:=@aH.mono
   have m1:=@bI.mono
   have m2:=@gN.mono
   have m3:=@gU.mono
   exact mo_
  ·intro y0 y1 y2 y3 y4
   unfold bF.j1
   have m0:=@aH.mono
   have m1:=@bI.mono
   have m2:=@gN.mono
   have m3:=@gU.mono
   exact mo_
  ·intro y0 y1 y2 y3 y4
   unfold bF.j2
   have m0:=@aH.mono
   have m1:=@bI.mono
   have m2:=@gN.mono
   have m3:=@gU.mono
   exact mo_
  ·intro y0 y1 y2 y3 y4 y5
   unfold bS.f
   have m0:=@aH.mono
   have m1:=@bI.mono
   have m2:=@gN.mono
   have m3:=@gU.mono
   exact mo_
  ·intro y0 y1 y2 y3 y4 y5 y6 y7
   unfold bS.l0
   have m0:=@aH.mono
   have m1:=@bI.mono
   have m2:=@gN.mono
   have m3:=@gU.mono
   exact mo_
  ·intro y0 y1 y2 y3 y4
   unfold eU.f
   have m0:=@aH.mono
   have m1:=@bI.mono
   have m2:=@gN.mono
   have m3:=@gU.mono
   exact mo_
theorem dX.mono:∀ a0 a1 a2 a3 k,LeO (dX.f k a0 a1 a2 a3) (dX.f (k + 1) a0 a1 a2 a3):=by
 intro a0 a1 a2 a3 k
 obtain ⟨ih0,ih1,ih2,ih3,ih4,ih5,ih6,ih7⟩:=dX.mono_all k
 exact ih0 a0 a1 a2 a3
theorem bF.mono:∀ a0 a1 a2 a3 a4 k,LeO (bF.f k a0 a1 a2 a3 a4) (bF.f (k + 1) a0 a1 a2 a3 a4):=by
 intro a0 a1 a2 a3 a4 k
 obtain ⟨ih0,ih1,ih2,ih3,ih4,ih5,ih6,ih7⟩:=dX.mono_all k
 exact ih1 a0 a1 a2 a3 a4
theorem bS.mono:∀ a0 a1 a2 a3 a4 a5 k,LeO (bS.f k a0 a1 a2 a3 a4 a5) (bS.f (k + 1) a0 a1 a2 a3 a4 a5):=by
 intro a0 a1 a2 a3 a4 a5 k
 obtain ⟨ih0,ih1,ih2,ih3,ih4,ih5,ih6,ih7⟩:=dX.mono_all k
 exact ih5 a0 a1 a2 a3 a4 a5
theorem eU.mono:∀ a0 a1 a2 a3 a4 k,LeO (eU.f k a0 a1 a2 a3 a4) (eU.f (k + 1) a0 a1 a2 a3 a4):=by
 intro a0 a1 a2 a3 a4 k
 obtain ⟨ih0,ih1,ih2,ih3,ih4,ih5,ih6,ih7⟩:=dX.mono_all k
 exact ih7 a0 a1 a2 a3 a4
abbrev dX.fK (k:Nat):Prop:=∀ (g:Nat) (s0_0:List Int) (s0_1:Int) (a1:Int) (a2:Int) (r1:List (S35)) (r2:Int) (w0 w:World) (hI:aQ w0 w g s0_0 s0_1) (hB:Below w0.heap.size w0 w) (h:dX.f k s0_0 s0_1 a1 a2=some (r1,r2)),
  Calls Try.prog 104 #[.pointer (some ⟨g,0,none⟩), .int .i64 a1, .int .i64 a2] w fun e w'=>∃ v0_:Value,e= .returned (v0_)∧Kd.N k35 35 w' w.heap.size (fun k_=>(w.heap.size≤k_)) v0_ r1∧aQ w0 w' g s0_0 r2∧Below w0.heap.size w0 w'∧aI w w' g none
abbrev bF.fK (k:Nat):Prop:=∀ (g:Nat) (s0_0:List Int) (s0_1:Int) (a1:Int) (a2:Int) (a3:Bool) (r1:List (S35)) (r2:Int) (w0 w:World) (hI:aQ w0 w g s0_0 s0_1) (hB:Below w0.heap.size w0 w) (h:bF.f k s0_0 s0_1 a1 a2 a3=some (r1,r2)),
  Calls Try.prog 93 #[.pointer (some ⟨g,0,none⟩), .int .i64 a1, .int .i64 a2, .bool a3] w fun e w'=>∃ v0_:Value,e= .returned (v0_)∧Kd.N k35 35 w' w.heap.size (fun k_=>(w.heap.size≤k_)) v0_ r1∧aQ w0 w' g s0_0 r2∧Below w0.heap.size w0 w'∧aI w w' g none
abbrev bS.fK (k:Nat):Prop:=∀ (g:Nat) (s0_0:List Int) (s0_1:Int) (a1:Int) (a2:Int) (a3:Int) (a4:Bool) (r1:List (S35)) (r2:Int) (w0 w:World) (hI:aQ w0 w g s0_0 s0_1) (hB:Below w0.heap.size w0 w) (h:bS.f k s0_0 s0_1 a1 a2 a3 a4=some (r1,r2)),
  Calls Try.prog 77 #[.pointer (some ⟨g,0,none⟩), .int .i64 a1, .int .i64 a2, .int .i64 a3, .bool a4] w fun e w'=>∃ v0_:Value,e= .returned (v0_)∧Kd.N k35 35 w' w.heap.size (fun k_=>(w.heap.size≤k_)) v0_ r1∧aQ w0 w' g s0_0 r2∧Below w0.heap.size w0 w'∧aI w w' g none
abbrev eU.fK (k:Nat):Prop:=∀ (g:Nat) (s0_0:List Int) (s0_1:Int) (a1:Int) (a2:Int) (a3:Bool) (r1:Int) (r2:Int) (r3:Int) (r4:Int) (r5:Int) (r6:List (S32)) (r7:List (S35)) (r8:List (S35)) (r9:Int) (w0 w:World) (hI:aQ w0 w g s0_0 s0_1) (hB:Below w0.heap.size w0 w) (h:eU.f k s0_0 s0_1 a1 a2 a3=some (r1,r2,r3,r4,r5,r6,r7,r8,r9)),
  Calls Try.prog 42 #[.pointer (some ⟨g,0,none⟩), .int .i64 a1, .int .i64 a2, .bool a3] w fun e w'=>∃ v5_ v6_ v7_:Value,e= .returned (.agg #[.int .i64 r1, .int .i64 r2, .int .i64 r3, .int .i64 r4, .int .i64 r5,v5_,v6_,v7_])∧Kd.N k32 32 w' w.heap.size (fun k_=>(w.heap.size≤k_)∧some k_≠(v6_:Value).ownBlock∧some k_≠(v7_:Value).ownBlock) v5_ r6∧Kd.N k35 35 w' w.heap.size (fun k_=>(w.heap.size≤k_)∧some k_≠(v5_:Value).ownBlock∧some k_≠(v7_:Value).ownBlock) v6_ r7∧Kd.N k35 35 w' w.heap.size (fun k_=>(w.heap.size≤k_)∧some k_≠(v5_:Value).ownBlock∧some k_≠(v6_:Value).ownBlock) v7_ r8∧aQ w0 w' g s0_0 r9∧Below w0.heap.size w0 w'∧aI w w' g none
theorem KI {P:Program} {ops:Array Oper} {Q:Exit→Act→World→Prop} {n:Nat} {T:Bool × List (List Nat × List Nat)} (hn:ops.size=n) (hT:lJ .any ops=T)
  (hac:(List.range n).all (fun i=>match T.2[i]? with|some r=>r.1.all (fun j=>decide (j < i))|none=>false)=true)
  (I:(Nat→Bool)→Act→World→Prop)
  (hstep:∀ (i:Nat) (b:Nat→Bool) (a:Act) (w:World),i < n→b i=false→(∀ r,T.2[i]?=some r→∀ j ∈ r.1,b j=true)→(∀ j r,b j=true→T.2[j]?=some r→∀ q ∈ r.1,b q=true)→I b a w→wpOp P ops Q i (fun a' w'=>I (fun j=>if j=i then true else b j) a' w') a w)
  (hdone:∀ (b:Nat→Bool) (a:Act) (w:World),(∀ j,j < n→b j=true)→I b a w→Q .normal a w)
  (a:Act) (w:World) (h0:I (fun _=>false) a w):wpAny P .any ops Q n (Array.replicate n false) a w:=by
 have key:∀ (fuel:Nat) (l:Array Bool) (a:Act) (w:World),l.size=n→((List.range n).countP (fun j=>!l.getD j false))≤fuel→
   (∀ j r,l.getD j false=true→T.2[j]?=some r→∀ q ∈ r.1,l.getD q false=true)→I (fun j=>l.getD j false) a w→wpAny P .any ops Q fuel l a w:=by
  have all_of:∀ l:Array Bool,l.size=n→Region.ready .any ops l=[]→∀ j,j < n→l.getD j false=true:=by
   intro l hl hr j
   induction j using Nat.strongRecOn with
   | _ j ih=>
   intro hj
   cases hb:l.getD j false with
   |true=>rfl
   |false=>
    have hm:j ∈ Region.ready .any ops l:=by
     rw [ready_eq,hT]
     unfold vJ
     have hlen:T.2.length=n:=by rw [← hT,sI,hn]
     rw [List.mem_filter,List.mem_range,hlen]
     refine ⟨hj,?_⟩
     unfold rZ
     have e1:l.toList.getD j true=false:=by
      rw [← gd]
      have hlt:j < l.size:=by omega
      simp only [Array.getD_eq_getD_getElem?,Array.getElem?_eq_getElem hlt,Option.getD_some] at hb ⊢
      exact hb
     rw [e1]
     have h1:=List.all_eq_true.1 hac j (List.mem_range.2 hj)
     cases hq:T.2[j]? with
     |none=>rw [hq] at h1;cases h1
     |some r=>
      rw [hq] at h1
      simp only [List.all_eq_true,decide_eq_true_eq] at h1
      simp only [Bool.not_false,Bool.true_and,List.all_eq_true]
      intro q hqm
      rw [← gd]
      exact ih q (h1 q hqm) (by have:=h1 q hqm;omega)
    rw [hr] at hm
    cases hm
  intro fuel
  induction fuel with
  |zero=>
   intro l a w hl hc hcl hI
   have hall:∀ j,j < n→l.getD j false=true:=by
    intro j hj
    have:=List.countP_eq_zero.1 (Nat.le_zero.1 hc) j (List.mem_range.2 hj)
    simpa using this
   refine ⟨?_,hdone _ a w hall hI⟩
   cases hr:Region.ready .any ops l with
   |nil=>rfl
   |cons i rs=>
    have hm:i ∈ Region.ready .any ops l:=by rw [hr];exact List.mem_cons_self
    obtain ⟨h1,o,h2,_⟩:=mem_ready.1 hm
    have hi:i < l.size:=by rw [hl,← hn];exact (Array.getElem?_eq_some_iff.1 h2).1
    have:=hall i (by omega)
    simp only [Array.getD_eq_getD_getElem?,Array.getElem?_eq_getElem hi,Option.getD_some] at h1 this
    rw [h1] at this
    cases this
  |succ fuel ih=>
   intro l a w hl hc hcl hI
   refine ⟨fun hr=>hdone _ a w (all_of l hl hr) hI,fun i hm=>?_⟩
   obtain ⟨h1,o,h2,h3⟩:=mem_ready.1 hm
   have hi:i < n:=by rw [← hn];exact (Array.getElem?_eq_some_iff.1 h2).1
   have hil:i < l.size:=by omega
   have hbi:l.getD i false=false:=by
    simp only [Array.getD_eq_getD_getElem?,Array.getElem?_eq_getElem hil,Option.getD_some] at h1 ⊢
    exact h1
   have hneed:∀ r,T.2[i]?=some r→∀ j ∈ r.1,l.getD j false=true:=by
    intro r hr j hj
    rw [ready_eq,hT] at hm
    unfold vJ at hm
    have:=(List.mem_filter.1 hm).2
    unfold rZ at this
    rw [hr,Bool.and_eq_true] at this
    have h5:=List.all_eq_true.1 this.2 j hj
    rw [← gd] at h5
    exact h5
   have hf:∀ j,(l.setIfInBounds i true).getD j false=if j=i then true else l.getD j false:=by
    intro j
    by_cases hji:j=i
    ·subst hji
     rw [if_pos rfl]
     simp [Array.getD_eq_getD_getElem?,hil]
    rw [if_neg hji]
    simp [Array.getD_eq_getD_getElem?,Array.getElem?_setIfInBounds,Ne.symm hji]
   refine wpOp_mono (fun a' w' h'=>ih _ a' w' (by rw [Array.size_setIfInBounds];exact hl) ?_ ?_ ?_) (hstep i (fun j=>l.getD j false) a w hi hbi hneed hcl hI)
   ·have hlt:(List.range n).countP (fun j=>!(l.setIfInBounds i true).getD j false) < (List.range n).countP (fun j=>!l.getD j false):=by
     rw [List.countP_eq_length_filter,List.countP_eq_length_filter]
     have hsub:((List.range n).filter (fun j=>!(l.setIfInBounds i true).getD j false))=(((List.range n).filter (fun j=>!l.getD j false)).filter (fun j=>!(j == i))):=by
      rw [List.filter_filter]
      refine List.filter_congr (fun j _=>?_)
      rw [hf j]
      by_cases hji:j=i
      ·subst hji
       simp
      rw [if_neg hji]
      simp [hji]
     rw [hsub]
     have hmem:i ∈ (List.range n).filter (fun j=>!l.getD j false):=List.mem_filter.2 ⟨List.mem_range.2 hi,by rw [hbi];rfl⟩
     exact List.length_filter_lt_length_iff_exists.2 ⟨i,hmem,by simp⟩
    omega
   ·intro j r hj hr q hq
    rw [hf] at hj ⊢
    by_cases hji:j=i
    ·subst hji
     split
     ·rfl
     ·exact hneed r hr q hq
    rw [if_neg hji] at hj
    split
    ·rfl
    ·exact hcl j r hj hr q hq
   ·have:(fun j=>(l.setIfInBounds i true).getD j false)=fun j=>if j=i then true else l.getD j false:=funext hf
    rw [this]
    exact h'
 have hz:∀ j,(Array.replicate n false).getD j false=false:=by
  intro j
  simp only [Array.getD_eq_getD_getElem?,Array.getElem?_replicate]
  split <;> rfl
 refine key n _ a w (by simp) ?_ ?_ ?_
 ·exact Nat.le_trans List.countP_le_length (by rw [List.length_range];exact Nat.le_refl _)
 ·intro j r hj
  rw [hz] at hj
  cases hj
 ·have:(fun j=>(Array.replicate n false).getD j false)=fun _=>false:=funext hz
  rw [this]
  exact h0
theorem zz_ {b:Nat→Bool} {j q:Nat} (h:b j=true→b q=true) (hq:b q=false):b j=false:=by
 cases e:b j with
 |false=>rfl
 |true=>rw [h e] at hq;cases hq
theorem PW {α:Type} (d:Kd α) (e:Nat) (w:World) (base:Nat) (A:Option Addr) (c:Nat):Kd.V d e w base (fun _=>False) (.slice A ([]:List α).length c) []:=
 ⟨A,c,rfl,Nat.zero_le _,fun W' _=>⟨rfl,by simp,fun h=>absurd h (Nat.lt_irrefl 0)⟩⟩
theorem aAo {α:Type} (d:Kd α) (w:World) (ok:Nat→Prop) (A:Option Addr):Kd.F d w ok A ([]:List α).length []:=fun W' _=>⟨rfl,by simp,fun h=>absurd h (Nat.lt_irrefl 0)⟩
theorem wO (a b:Int) (w:World):Calls Try.prog 45 #[.int .i64 a, .int .i64 b] w fun e w'=>∃ A c,e= .returned (.agg #[.int .i64 a, .int .i64 b, .slice A 0 c])∧Below w.heap.size w w':=by
 refine (fF.calls a b a b [] w rfl).mono ?_
 rintro e w' ⟨v,rfl,hr,hb⟩
 obtain ⟨A,c,rfl⟩:=Kd.dD (Kd.R_N hr)
 exact ⟨A,c,rfl,hb⟩
theorem LJ (o a1 b1:Int) (A1:Option Addr) (c1:Nat) (a2 b2:Int) (A2:Option Addr) (c2:Nat) (w:World):Calls Try.prog 43 #[.int .i64 o, .agg #[.int .i64 a1, .int .i64 b1, .slice A1 0 c1], .agg #[.int .i64 a2, .int .i64 b2, .slice A2 0 c2]] w fun e w'=>∃ A c,e= .returned (.agg #[.int .i64 o, .int .i64 0, .slice A 2 c])∧Kd.N k32 32 w' w.heap.size (fun k=>w.heap.size≤k) (.slice A 2 c) [⟨a1,b1,[]⟩,⟨a2,b2,[]⟩]∧Below w.heap.size w w':=by
 refine (kD.calls o a1 b1 (fun _=>False) A1 c1 [] a2 b2 (fun _=>False) A2 c2 [] o 0 [⟨a1,b1,[]⟩,⟨a2,b2,[]⟩] w (PW k32 32 w _ A1 c1) (PW k32 32 w _ A2 c2) rfl).mono ?_
 rintro e w' ⟨v,rfl,hr,hb⟩
 obtain ⟨A,c,rfl⟩:=Kd.dD hr
 exact ⟨A,c,rfl,Kd.aD hr (fun k hk=>hk.elim (fun h=>h.elim False.elim False.elim) id),hb⟩
structure F92 (w0 w W0:World) (g h2:Nat) (s0_0:List Int) (t42 t44 t46:Int) (v8:Value) (t47:List S35) (A30:Option Addr) (c30:Nat) (A33:Option Addr) (c33:Nat) (A34:Option Addr) (c34:Nat) (g10:Nat) (b3 b6 b9 b10 b12 b13:Bool) (W:World):Prop where
 hK:aI W0 W g (cond b10 v8.ownBlock none)
 hI:aQ w0 W g s0_0 (cond b3 t46 t42)
 hB:Below w0.heap.size w0 W
 h30:b6=true→Kd.N k32 32 W W0.heap.size (fun k=>W0.heap.size≤k∧(b12=true→k≠g10)) (.slice A30 2 c30) [⟨13,3,[]⟩,⟨0,wrap64 (1 + t44),[]⟩]
 h33:b9=true→Kd.N k35 35 W h2 (fun k=>h2≤k∧(b12=true→k≠g10)) (.slice A33 1 c33) [(⟨1,3,0,⟨8,0,[⟨13,3,[]⟩,⟨0,1,[]⟩]⟩,[],[]⟩:S35)]
 h34:b10=true→Kd.N k35 35 W w.heap.size (fun k=>w.heap.size≤k∧(b12=true→k≠g10)) (.slice A34 (t47 ++ [(⟨1,3,0,⟨8,0,[⟨13,3,[]⟩,⟨0,1,[]⟩]⟩,[],[]⟩:S35)]).length c34) (t47 ++ [(⟨1,3,0,⟨8,0,[⟨13,3,[]⟩,⟨0,1,[]⟩]⟩,[],[]⟩:S35)])
 h10:b12=true→W0.heap.size≤g10∧W.heap[g10]?=some (.cells (cond b13 #[.int .i64 3, .int .i64 0, .int .i64 0, .int .i64 5, .int .i64 0, .slice A30 2 c30, .slice A34 (t47 ++ [(⟨1,3,0,⟨8,0,[⟨13,3,[]⟩,⟨0,1,[]⟩]⟩,[],[]⟩:S35)]).length c34, .slice none 0 0] #[.int .i64 0, .int .i64 0, .int .i64 0, .int .i64 0, .int .i64 0, .slice none 0 0, .slice none 0 0, .slice none 0 0]) 35 (0,0))
theorem F92.ext {w0 w W0:World} {g h2:Nat} {j3:List Int} {j4 j5 j6:Int} {v8:Value} {j7:List S35} {j8:Option Addr} {j9:Nat} {ja:Option Addr} {jb:Nat} {jc:Option Addr} {jd:Nat} {je:Nat} {b3 b6 b9 b10 b12 b13:Bool} {W W':World}
  (h:F92 w0 w W0 g h2 j3 j4 j5 j6 v8 j7 j8 j9 ja jb jc jd je b3 b6 b9 b10 b12 b13 W) (hb:Below W.heap.size W W'):F92 w0 w W0 g h2 j3 j4 j5 j6 v8 j7 j8 j9 ja jb jc jd je b3 b6 b9 b10 b12 b13 W':=
 ⟨h.hK.trans (aI.of_below hb g _) (.inl rfl),h.hI.below hb,aG h.hB hb,fun e=>Kd.dG (h.h30 e) hb,fun e=>Kd.dG (h.h33 e) hb,fun e=>Kd.dG (h.h34 e) hb,fun e=>⟨(h.h10 e).1,bY (h.h10 e).2 hb⟩⟩
def a92 (g g9:Nat) (a1 a2 t48 t44:Int) (v8:Value) (t47:List S35) (A20:Option Addr) (c20:Nat) (A21:Option Addr) (c21:Nat) (A22:Option Addr) (c22:Nat) (A1:Option Addr) (c1:Nat) (A2:Option Addr) (c2:Nat) (A30:Option Addr) (c30:Nat) (A33:Option Addr) (c33:Nat) (A34:Option Addr) (c34:Nat) (g10:Nat) (b0 b1 b2 b3 b4 b5 b6 b7 b8 b9 b10 b11 b12 b13:Bool):Act:=
 { tmps:=#[(.pointer (some ⟨g,0,none⟩)),(.int .i64 a1),(.int .i64 a2),undef,undef,undef,(.slice none 0 0),(.int .i64 3),v8,(.pointer (some ⟨g9,0,none⟩)),cond b12 (.pointer (some ⟨g10,0,none⟩)) undef,(.pointer (some ⟨g,0,none⟩)),(.int .i64 a1),(.int .i64 a2),(.int .i64 (wrap64 (a2 - 1))),(.pointer (some ⟨g,0,none⟩)),(.int .i64 t48),v8,(.int .i64 3),(.int .i64 3),(.agg #[.int .i64 13, .int .i64 3, .slice A20 0 c20]),(.agg #[.int .i64 0, .int .i64 1, .slice A21 0 c21]),(.agg #[.int .i64 8, .int .i64 0, .slice A22 2 c22]),(.agg #[.int .i64 1, .int .i64 3, .int .i64 0, .int .i64 8, .int .i64 0, .slice A22 2 c22, .slice none 0 0, .slice none 0 0]),cond b0 (.int .i64 3) undef,cond b1 (.agg #[.int .i64 13, .int .i64 3, .slice A1 0 c1]) undef,cond b2 (.pointer (some ⟨g,0,none⟩)) undef,cond b3 (.int .i64 t44) undef,cond b4 (.int .i64 (wrap64 (1 + t44))) undef,cond b5 (.agg #[.int .i64 0, .int .i64 (wrap64 (1 + t44)), .slice A2 0 c2]) undef,cond b6 (.agg #[.int .i64 5, .int .i64 0, .slice A30 2 c30]) undef,cond b7 v8 undef,cond b8 (.agg #[.int .i64 1, .int .i64 3, .int .i64 0, .int .i64 8, .int .i64 0, .slice A22 2 c22, .slice none 0 0, .slice none 0 0]) undef,cond b9 (.slice A33 1 c33) undef,cond b10 (.slice A34 (t47 ++ [(⟨1,3,0,⟨8,0,[⟨13,3,[]⟩,⟨0,1,[]⟩]⟩,[],[]⟩:S35)]).length c34) undef,cond b11 (.agg #[.int .i64 3, .int .i64 0, .int .i64 0, .int .i64 5, .int .i64 0, .slice A30 2 c30, .slice A34 (t47 ++ [(⟨1,3,0,⟨8,0,[⟨13,3,[]⟩,⟨0,1,[]⟩]⟩,[],[]⟩:S35)]).length c34, .slice none 0 0]) undef,undef,undef,undef,undef,undef],defers:=[] }
def L92 (w0 w W0:World) (g g9 h2:Nat) (s0_0:List Int) (a1 a2 t48 t42 t44 t46:Int) (v8:Value) (t47:List S35) (A20:Option Addr) (c20:Nat) (A21:Option Addr) (c21:Nat) (A22:Option Addr) (c22:Nat) (b0 b1 b2 b3 b4 b5 b6 b7 b8 b9 b10 b11 b12 b13:Bool) (a:Act) (W:World):Prop:=
 ∃ (A1:Option Addr) (c1:Nat) (A2:Option Addr) (c2:Nat) (A30:Option Addr) (c30:Nat) (A33:Option Addr) (c33:Nat) (A34:Option Addr) (c34:Nat) (g10:Nat),a=a92 g g9 a1 a2 t48 t44 v8 t47 A20 c20 A21 c21 A22 c22 A1 c1 A2 c2 A30 c30 A33 c33 A34 c34 g10 b0 b1 b2 b3 b4 b5 b6 b7 b8 b9 b10 b11 b12 b13∧F92 w0 w W0 g h2 s0_0 t42 t44 t46 v8 t47 A30 c30 A33 c33 A34 c34 g10 b3 b6 b9 b10 b12 b13 W
def dX.T4:Bool × List (List Nat × List Nat):=(true,[([],[]),([0],[0]),([],[]),([2,1],[2]),([3],[3]),([4,3],[4]),([1,5,5],[1,5]),([],[]),([],[]),([8],[8]),([7,9,6],[7,9]),([6,10],[6,10]),([],[]),([12,11,10,0,1,2,3,4,5,6,7,8,9,10,11,12],[11,12])])
theorem dX.aCs:lJ .any (opsOf Try.f104 4)=dX.T4:=by kernel_rfl
theorem dX.step (k:Nat) (ih_spec_l92If:∀ m,m < k→eU.fK m) (ih_spec_l92Loop:∀ m,m < k→dX.fK m) (ih_spec_l92Stmt:∀ m,m < k→bF.fK m) (ih_spec_l92Block:∀ m,m < k→bS.fK m):dX.fK k:=by
 intro g jh jK a1 a2 r1 r2 w0 w hI hB h
 cases k with
 |zero=>exact absurd h (by simp [dX.f])
 |succ k=>
 simp only [dX.f] at h
 replace h:=Option.bind_eq_some_iff.mp h
 obtain ⟨⟨jp,jQ⟩,hp,h⟩:=h
 replace h:=Option.bind_eq_some_iff.mp h
 obtain ⟨⟨jd,jA⟩,hbk,h⟩:=h
 simp only [fF.f,kD.f,Option.bind_some] at h
 replace h:=Option.bind_eq_some_iff.mp h
 obtain ⟨⟨jk,jB⟩,hp2,h⟩:=h
 dsimp only at h hp2 hbk
 by_cases jC:jd.length + 1 < 1256584717458
 case neg=>
  rw [if_neg (by simpa using jC)] at h
  exact absurd h (by simp)
 rw [if_pos (by simpa using jC)] at h
 have h1:=Option.some.inj h
 injection h1 with h1 h2
 subst h2
 have A4:=am hp
 have A5:=am hbk
 have jS:=am hp2
 have LM:=am jC
 have HR:=am h1
 have HI:=am hI
 have HB:=am hB
 have HK:=am (aI.refl w g none)
 have HGW:=am (aQ.lt hI)
 clear h1 h hp hbk hp2 jC hI hB
 go_enter Try.func104,Try.ntmps104
 go_wp2_with (first|((with_reducible refine aN (f:=41) rfl ?_);refine sN (some 16) rfl rfl Try.func41 (by kernel_rfl) rfl #[.pointer (some ⟨g,0,none⟩), .int .i64 3] rfl (by (try simp only [List.map_toArray,List.map_cons,List.map_nil]);first|done|rfl) ?_;(with_reducible refine (aH.calls k g jh jK 3 jp jQ w0 _ ?side1 ?side2 A4.out).mono ?_);(case side1=>repeat (first|(with_reducible first|exact HI.out|apply aQ.drewN|apply aQ.drew)|exact HI.out));(case side2=>repeat (first|(with_reducible first|exact HB.out|apply bA|apply bG)|exact HB.out));rintro e jT ⟨rfl,hi,hb,hk⟩;refine ⟨_,rfl,?_⟩;have jq:=am (aI.trans SV hk (.inl rfl));clear HK HB HI;have HK:=jq;have HB:=am hb;have HI:=am hi;have HS15:=am HK.out.1;clear jq hb hk hi)|((with_reducible refine aN (f:=77) rfl ?_);refine sN (some 17) rfl rfl Try.func77 (by kernel_rfl) rfl #[.pointer (some ⟨g,0,none⟩), .int .i64 a1, .int .i64 (wrap64 (a2 - 1)), .int .i64 jp, .bool false] rfl (by (try simp only [List.map_toArray,List.map_cons,List.map_nil]);first|done|rfl) ?_;(with_reducible refine (ih_spec_l92Block k (by omega) g jh jQ a1 (wrap64 (a2 - 1)) jp false jd jA w0 _ ?side1 ?side2 A5.out).mono ?_);(case side1=>repeat (first|(with_reducible first|exact HI.out|apply aQ.drewN|apply aQ.drew)|exact HI.out));(case side2=>repeat (first|(with_reducible first|exact HB.out|apply bA|apply bG)|exact HB.out));rintro e ji ⟨v8,rfl,ho0,hi,hb,hk⟩;refine ⟨_,rfl,?_⟩;have jq:=am (aI.trans SV hk (.inl rfl));have jl:=am (Kd.dH ho0 (by repeat (first|exact HK.out.1|apply iZ|apply gW)));clear HK HB HI;have HK:=jq;have HB:=am hb;have HI:=am hi;have H8:=jl;clear jq jl hb hk hi ho0)|((with_reducible refine aN (f:=45) rfl ?_);refine sN (some 20) rfl rfl Try.func45 (by kernel_rfl) rfl #[.int .i64 13, .int .i64 3] rfl (by (try simp only [List.map_toArray,List.map_cons,List.map_nil]);first|done|rfl) ?_;(with_reducible refine (wO 13 3 _).mono ?_);rintro e qj ⟨jD,jE,rfl,hb⟩;refine ⟨_,rfl,?_⟩;have jL:=am hb;clear hb)|((with_reducible refine aN (f:=45) rfl ?_);refine sN (some 21) rfl rfl Try.func45 (by kernel_rfl) rfl #[.int .i64 0, .int .i64 1] rfl (by (try simp only [List.map_toArray,List.map_cons,List.map_nil]);first|done|rfl) ?_;(with_reducible refine (wO 0 1 _).mono ?_);rintro e jr ⟨jF,jG,rfl,hb⟩;refine ⟨_,rfl,?_⟩;have jM:=am hb;clear hb)|((with_reducible refine aN (f:=43) rfl ?_);refine sN (some 22) rfl rfl Try.func43 (by kernel_rfl) rfl #[.int .i64 8, .agg #[.int .i64 13, .int .i64 3, .slice jD 0 jE], .agg #[.int .i64 0, .int .i64 1, .slice jF 0 jG]] rfl (by (try simp only [List.map_toArray,List.map_cons,List.map_nil]);first|done|rfl) ?_;(with_reducible refine (LJ 8 13 3 jD jE 0 1 jF jG _).mono ?_);rintro e jH ⟨je,jf,rfl,jj,hb⟩;refine ⟨_,rfl,?_⟩;have jN:=am jj;have jO:=am hb;clear hb jj)|((with_reducible refine bQ (N:=9) rfl ?_);refine dJ (N:=9) rfl rfl (cs:=#[.int .i64 0, .int .i64 0, .int .i64 0, .int .i64 0, .int .i64 0, .slice none 0 0, .slice none 0 0, .slice none 0 0]) (t:=35) rn_ ?_;intro g9 hg js hbox hb;have jR:=am (Nat.le_of_eq hg.symm);have jI:=am hb;have X9:=am hbox;have z9:=aU hbox 0;have jU:=aU hbox 1;have jV:=aU hbox 2;have jW:=aU hbox 3;have jX:=aU hbox 4;have jY:=aU hbox 5;have jZ:=aU hbox 6;have q8:=aU hbox 7;have q9:=aA hbox 0;have qa:=aA hbox 1;have qb:=aA hbox 2;have qc:=aA hbox 3;have qd:=aA hbox 4;have qe:=aA hbox 5;have qf:=aA hbox 6;have qg:=aA hbox 7;clear hb hg hbox)|fail)
 have jP:Aside0 (Below ji.heap.size ji jH):=⟨aG (aG jL.out jM.out) jO.out⟩
 have jt:=jP.out.size
 have ju:=jI.out.size
 have jv:=jO.out.size
 have jw:=(aG jL.out jM.out).size
 have h9lt:=gQ X9.out
 have hg9:=jR.out
 have hw16:=HK.out.1
 have hgw0:=HGW.out
 have b20:Below ji.heap.size ji js:=aG jP.out jI.out
 have HWQ:Aside0 (Below ji.heap.size ji ((((((((js.setCell ⟨g9,0,none⟩ (.int .i64 1)).setCell ⟨g9,1,none⟩ (.int .i64 3)).setCell ⟨g9,2,none⟩ (.int .i64 0)).setCell ⟨g9,3,none⟩ (.int .i64 8)).setCell ⟨g9,4,none⟩ (.int .i64 0)).setCell ⟨g9,5,none⟩ (.slice je 2 jf)).setCell ⟨g9,6,none⟩ (.slice none 0 0)).setCell ⟨g9,7,none⟩ (.slice none 0 0))):=⟨(below_set (j:=7) (v:=(.slice none 0 0)) (below_set (j:=6) (v:=(.slice none 0 0)) (below_set (j:=5) (v:=(.slice je 2 jf)) (below_set (j:=4) (v:=(.int .i64 0)) (below_set (j:=3) (v:=(.int .i64 8)) (below_set (j:=2) (v:=(.int .i64 0)) (below_set (j:=1) (v:=(.int .i64 3)) (below_set (j:=0) (v:=(.int .i64 1)) b20 (by omega)) (by omega)) (by omega)) (by omega)) (by omega)) (by omega)) (by omega)) (by omega))⟩
 have X9':Aside0 (((((((((js.setCell ⟨g9,0,none⟩ (.int .i64 1)).setCell ⟨g9,1,none⟩ (.int .i64 3)).setCell ⟨g9,2,none⟩ (.int .i64 0)).setCell ⟨g9,3,none⟩ (.int .i64 8)).setCell ⟨g9,4,none⟩ (.int .i64 0)).setCell ⟨g9,5,none⟩ (.slice je 2 jf)).setCell ⟨g9,6,none⟩ (.slice none 0 0)).setCell ⟨g9,7,none⟩ (.slice none 0 0)).heap[g9]?=some (.cells #[(.int .i64 1),(.int .i64 3),(.int .i64 0),(.int .i64 8),(.int .i64 0),(.slice je 2 jf),(.slice none 0 0),(.slice none 0 0)] 35 (0,0))):=⟨(aM (cs':=#[(.int .i64 1),(.int .i64 3),(.int .i64 0),(.int .i64 8),(.int .i64 0),(.slice je 2 jf),(.slice none 0 0),(.slice none 0 0)]) (aM (cs':=#[(.int .i64 1),(.int .i64 3),(.int .i64 0),(.int .i64 8),(.int .i64 0),(.slice je 2 jf),(.slice none 0 0),(.slice none 0 0)]) (aM (cs':=#[(.int .i64 1),(.int .i64 3),(.int .i64 0),(.int .i64 8),(.int .i64 0),(.slice je 2 jf),(.slice none 0 0),(.slice none 0 0)]) (aM (cs':=#[(.int .i64 1),(.int .i64 3),(.int .i64 0),(.int .i64 8),(.int .i64 0),(.slice none 0 0),(.slice none 0 0),(.slice none 0 0)]) (aM (cs':=#[(.int .i64 1),(.int .i64 3),(.int .i64 0),(.int .i64 8),(.int .i64 0),(.slice none 0 0),(.slice none 0 0),(.slice none 0 0)]) (aM (cs':=#[(.int .i64 1),(.int .i64 3),(.int .i64 0),(.int .i64 0),(.int .i64 0),(.slice none 0 0),(.slice none 0 0),(.slice none 0 0)]) (aM (cs':=#[(.int .i64 1),(.int .i64 3),(.int .i64 0),(.int .i64 0),(.int .i64 0),(.slice none 0 0),(.slice none 0 0),(.slice none 0 0)]) (aM (cs':=#[(.int .i64 1),(.int .i64 0),(.int .i64 0),(.int .i64 0),(.int .i64 0),(.slice none 0 0),(.slice none 0 0),(.slice none 0 0)]) X9.out 0 (.int .i64 1) rfl) 1 (.int .i64 3) rfl) 2 (.int .i64 0) rfl) 3 (.int .i64 8) rfl) 4 (.int .i64 0) rfl) 5 (.slice je 2 jf) rfl) 6 (.slice none 0 0) rfl) 7 (.slice none 0 0) rfl)⟩
 have N22':Aside0 (Kd.N k32 32 ((((((((js.setCell ⟨g9,0,none⟩ (.int .i64 1)).setCell ⟨g9,1,none⟩ (.int .i64 3)).setCell ⟨g9,2,none⟩ (.int .i64 0)).setCell ⟨g9,3,none⟩ (.int .i64 8)).setCell ⟨g9,4,none⟩ (.int .i64 0)).setCell ⟨g9,5,none⟩ (.slice je 2 jf)).setCell ⟨g9,6,none⟩ (.slice none 0 0)).setCell ⟨g9,7,none⟩ (.slice none 0 0)) jr.heap.size (fun k=>(jr.heap.size≤k∧k < jH.heap.size)∧k≠g9) (.slice je 2 jf) [⟨13,3,[]⟩,⟨0,1,[]⟩]):=⟨(Kd.aT (p:=⟨g9,7,none⟩) (Kd.aT (p:=⟨g9,6,none⟩) (Kd.aT (p:=⟨g9,5,none⟩) (Kd.aT (p:=⟨g9,4,none⟩) (Kd.aT (p:=⟨g9,3,none⟩) (Kd.aT (p:=⟨g9,2,none⟩) (Kd.aT (p:=⟨g9,1,none⟩) (Kd.aT (p:=⟨g9,0,none⟩) (Kd.aD (Kd.dG (Kd.nU jN.out) jI.out) (fun q (hq:jr.heap.size≤q∧q < jH.heap.size)=>(⟨hq,by have:=hq.2;omega⟩:(jr.heap.size≤q∧q < jH.heap.size)∧q≠g9))) (fun q hq=>hq.2) (.int .i64 1)) (fun q hq=>hq.2) (.int .i64 3)) (fun q hq=>hq.2) (.int .i64 0)) (fun q hq=>hq.2) (.int .i64 8)) (fun q hq=>hq.2) (.int .i64 0)) (fun q hq=>hq.2) (.slice je 2 jf)) (fun q hq=>hq.2) (.slice none 0 0)) (fun q hq=>hq.2) (.slice none 0 0))⟩
 clear q9 qa qb qc qd qe qf qg z9 jU jV jW jX jY jZ q8 X9
 generalize ((((((((js.setCell ⟨g9,0,none⟩ (.int .i64 1)).setCell ⟨g9,1,none⟩ (.int .i64 3)).setCell ⟨g9,2,none⟩ (.int .i64 0)).setCell ⟨g9,3,none⟩ (.int .i64 8)).setCell ⟨g9,4,none⟩ (.int .i64 0)).setCell ⟨g9,5,none⟩ (.slice je 2 jf)).setCell ⟨g9,6,none⟩ (.slice none 0 0)).setCell ⟨g9,7,none⟩ (.slice none 0 0))=jJ at HWQ X9' N22' ⊢
 have qh:=HWQ.out.size
 have h27':=gQ X9'.out
 refine wp_region_any (by kernel_rfl) ?_
 have B9:=am (bT X9'.out)
 have N22_:=Kd.nO N22'.out
 have H8_:=Kd.nO (Kd.dG (Kd.aD (Kd.nU H8.out) (fun q (hq:jT.heap.size≤q∧q < ji.heap.size)=>(⟨by have:=hq.1;have:=HS15.out;omega,hq.2⟩:w.heap.size≤q∧q < ji.heap.size))) HWQ.out)
 have HI_:=aQ.drew (HI.out.below HWQ.out)
 have HB_:=bG (aG HB.out HWQ.out)
 have HK_:=gW (aI.trans HK.out (aI.of_below HWQ.out g none) (.inl rfl))
 have hsz:jJ.drew.heap.size=jJ.heap.size:=rfl
 show wpAny _ _ _ _ _ _ _ jJ.drew
 generalize jJ.drew=W0 at B9 N22_ H8_ HI_ HB_ HK_ hsz ⊢
 have jN:Aside0 (Kd.N k32 32 W0 jr.heap.size (fun k=>ji.heap.size≤k∧k < W0.heap.size) (.slice je 2 jf) [⟨13,3,[]⟩,⟨0,1,[]⟩]):=⟨Kd.aD N22_ (fun q hq=>⟨by have:=hq.1.1;omega,by have:=hq.1.2;omega⟩)⟩
 have H8':=am H8_
 have HI':=am HI_
 have HB':=am HB_
 have HK':=am HK_
 have H24:Aside0 (ji.heap.size≤W0.heap.size):=⟨by omega⟩
 have HH2:Aside0 (w.heap.size≤ji.heap.size):=⟨hw16⟩
 have NE9:Aside0 (g9≠g):=⟨by omega⟩
 clear N22_ H8_ HI_ HB_ HK_ HI HB HK H8 N22' X9' HWQ b20 jP hsz qh h27' jt ju jv jw h9lt hg9 jL jM jO jI jR HS15 hw16 hgw0
 generalize ji.heap.size=h2 at *
 have H8:=H8'
 clear H8'
 refine KI (n:=14) (T:=dX.T4) rfl (by kernel_rfl) (by decide) (fun b a W=>L92 w0 w W0 g g9 h2 jh a1 a2 jp jA jk jB v8 jd jD jE jF jG je jf (b 0) (b 1) (b 2) (b 3) (b 4) (b 5) (b 6) (b 7) (b 8) (b 9) (b 10) (b 11) (b 12) (b 13) a W) ?hstep ?hdone _ _ ?hstart
 case hstart=>exact ⟨none,0,none,0,none,0,none,0,none,0,0,rfl,⟨aI.refl _ _ _,HI'.out,HB'.out,(fun e=>Bool.noConfusion e),(fun e=>Bool.noConfusion e),(fun e=>Bool.noConfusion e),(fun e=>Bool.noConfusion e)⟩⟩
 case hstep=>
  intro i b a W hi hbi hneed hcl hI
  have hcase:i=0∨i=1∨i=2∨i=3∨i=4∨i=5∨i=6∨i=7∨i=8∨i=9∨i=10∨i=11∨i=12∨i=13:=by omega
  rcases hcase with rfl|rfl|rfl|rfl|rfl|rfl|rfl|rfl|rfl|rfl|rfl|rfl|rfl|rfl
  ·
   have z1:=zz_ (fun h=>hcl 1 _ h rfl 0 (by decide)) hbi
   have z3:=zz_ (fun h=>hcl 3 _ h rfl 1 (by decide)) z1
   have z4:=zz_ (fun h=>hcl 4 _ h rfl 3 (by decide)) z3
   have z5:=zz_ (fun h=>hcl 5 _ h rfl 3 (by decide)) z3
   have z6:=zz_ (fun h=>hcl 6 _ h rfl 1 (by decide)) z1
   have j9:=zz_ (fun h=>hcl 10 _ h rfl 6 (by decide)) z6
   have ja:=zz_ (fun h=>hcl 11 _ h rfl 6 (by decide)) z6
   have j8:=zz_ (fun h=>hcl 13 _ h rfl 0 (by decide)) hbi
   simp only [hbi,z1,z3,z4,z5,z6,j9,ja,j8] at hI
   obtain ⟨A1,c1,A2,c2,j4,j5,jb,jc,j6,j7,j3,rfl,h⟩:=hI
   have hgw:=HGW.out
   have hh2:=HH2.out
   have jg:=H24.out
   refine wpOp_step rfl (fun K' hK'=>?_)
   simp (decide:=true) only [if_true,if_false,reduceIte,z1,z3,z4,z5,z6,j9,ja,j8] at hK'
   refine iN (W:=W) (w1:=W) (v:=?_) (by rfl) ?_ ?_
   rotate_left
   ·(try simp only [a92,cond_true,cond_false])
    go_simp
    first|with_reducible rfl|rfl
   refine hK' _ _ (⟨A1,c1,A2,c2,j4,j5,jb,jc,j6,j7,j3,?_,h⟩)
   show Act.put _ (some 24) _=_
   simp only [a92,Act.put,List.setIfInBounds_toArray,List.set_cons_zero,List.set_cons_succ,dS,dV]
   rfl
  ·
   have hn_:=hneed _ rfl
   have n0:=hn_ 0 (by decide)
   have z3:=zz_ (fun h=>hcl 3 _ h rfl 1 (by decide)) hbi
   have z4:=zz_ (fun h=>hcl 4 _ h rfl 3 (by decide)) z3
   have z5:=zz_ (fun h=>hcl 5 _ h rfl 3 (by decide)) z3
   have z6:=zz_ (fun h=>hcl 6 _ h rfl 1 (by decide)) hbi
   have j9:=zz_ (fun h=>hcl 10 _ h rfl 6 (by decide)) z6
   have ja:=zz_ (fun h=>hcl 11 _ h rfl 6 (by decide)) z6
   have j8:=zz_ (fun h=>hcl 13 _ h rfl 1 (by decide)) hbi
   simp only [hbi,n0,z3,z4,z5,z6,j9,ja,j8] at hI
   obtain ⟨A1,c1,A2,c2,j4,j5,jb,jc,j6,j7,j3,rfl,h⟩:=hI
   have hgw:=HGW.out
   have hh2:=HH2.out
   have jg:=H24.out
   refine wpOp_step rfl (fun K' hK'=>?_)
   simp (decide:=true) only [if_true,if_false,reduceIte,n0,z3,z4,z5,z6,j9,ja,j8] at hK'
   refine kU Try.func45 (by kernel_rfl) rfl #[.int .i64 13, .int .i64 3] (by rfl) rfl rfl (by (try simp only [List.map_toArray,List.map_cons,List.map_nil]);first|done|rfl) ?_
   refine (wO 13 3 _).mono ?_
   rintro e W' ⟨A,c,rfl,hb⟩
   refine ⟨_,rfl,hK' _ _ (⟨A,c,A2,c2,j4,j5,jb,jc,j6,j7,j3,?_,h.ext hb⟩)⟩
   show Act.put _ (some 25) _=_
   simp only [a92,Act.put,List.setIfInBounds_toArray,List.set_cons_zero,List.set_cons_succ]
   rfl
  ·
   have z3:=zz_ (fun h=>hcl 3 _ h rfl 2 (by decide)) hbi
   have z4:=zz_ (fun h=>hcl 4 _ h rfl 3 (by decide)) z3
   have z5:=zz_ (fun h=>hcl 5 _ h rfl 3 (by decide)) z3
   have z6:=zz_ (fun h=>hcl 6 _ h rfl 5 (by decide)) z5
   have j9:=zz_ (fun h=>hcl 10 _ h rfl 6 (by decide)) z6
   have ja:=zz_ (fun h=>hcl 11 _ h rfl 6 (by decide)) z6
   have j8:=zz_ (fun h=>hcl 13 _ h rfl 2 (by decide)) hbi
   simp only [hbi,z3,z4,z5,z6,j9,ja,j8] at hI
   obtain ⟨A1,c1,A2,c2,j4,j5,jb,jc,j6,j7,j3,rfl,h⟩:=hI
   have hgw:=HGW.out
   have hh2:=HH2.out
   have jg:=H24.out
   refine wpOp_step rfl (fun K' hK'=>?_)
   simp (decide:=true) only [if_true,if_false,reduceIte,z3,z4,z5,z6,j9,ja,j8] at hK'
   refine iN (W:=W) (w1:=W) (v:=?_) (by rfl) ?_ ?_
   rotate_left
   ·(try simp only [a92,cond_true,cond_false])
    go_simp
    first|with_reducible rfl|rfl
   refine hK' _ _ (⟨A1,c1,A2,c2,j4,j5,jb,jc,j6,j7,j3,?_,h⟩)
   show Act.put _ (some 26) _=_
   simp only [a92,Act.put,List.setIfInBounds_toArray,List.set_cons_zero,List.set_cons_succ,dS,dV]
   rfl
  ·
   have hn_:=hneed _ rfl
   have n1:=hn_ 1 (by decide)
   have n2:=hn_ 2 (by decide)
   have z4:=zz_ (fun h=>hcl 4 _ h rfl 3 (by decide)) hbi
   have z5:=zz_ (fun h=>hcl 5 _ h rfl 3 (by decide)) hbi
   have z6:=zz_ (fun h=>hcl 6 _ h rfl 5 (by decide)) z5
   have j9:=zz_ (fun h=>hcl 10 _ h rfl 6 (by decide)) z6
   have ja:=zz_ (fun h=>hcl 11 _ h rfl 6 (by decide)) z6
   have j8:=zz_ (fun h=>hcl 13 _ h rfl 3 (by decide)) hbi
   simp only [hbi,n1,n2,z4,z5,z6,j9,ja,j8] at hI
   obtain ⟨A1,c1,A2,c2,j4,j5,jb,jc,j6,j7,j3,rfl,h⟩:=hI
   have hgw:=HGW.out
   have hh2:=HH2.out
   have jg:=H24.out
   refine wpOp_step rfl (fun K' hK'=>?_)
   simp (decide:=true) only [if_true,if_false,reduceIte,n1,n2,z4,z5,z6,j9,ja,j8] at hK'
   refine kU Try.func41 (by kernel_rfl) rfl #[.pointer (some ⟨g,0,none⟩), .int .i64 3] (by rfl) rfl rfl (by (try simp only [List.map_toArray,List.map_cons,List.map_nil]);first|done|rfl) ?_
   refine (aH.calls k g jh jA 3 jk jB w0 _ h.hI h.hB jS.out).mono ?_
   rintro e W' ⟨rfl,hi,hb,hk⟩
   have hlt:=h.hK.1
   refine ⟨_,rfl,hK' _ _ (⟨A1,c1,A2,c2,j4,j5,jb,jc,j6,j7,j3,?_,⟨h.hK.trans hk ?_,hi,hb,fun e=>Kd.kM (h.h30 e) hk (fun q hq=>?_),fun e=>Kd.kM (h.h33 e) hk (fun q hq=>?_),fun e=>Kd.kM (h.h34 e) hk (fun q hq=>?_),fun e=>⟨(h.h10 e).1,hk.blk (h.h10 e).2 ?_ (by simp)⟩⟩⟩)⟩
   ·show Act.put _ (some 27) _=_
    simp only [a92,Act.put,List.setIfInBounds_toArray,List.set_cons_zero,List.set_cons_succ]
    rfl
   ·exact .inl rfl
   ·have:=hq.1;omega
   ·have:=hq.1;omega
   ·have:=hq.1;omega
   ·have:=(h.h10 e).1;omega
  ·
   have hn_:=hneed _ rfl
   have n3:=hn_ 3 (by decide)
   have z5:=zz_ (fun h=>hcl 5 _ h rfl 4 (by decide)) hbi
   have z6:=zz_ (fun h=>hcl 6 _ h rfl 5 (by decide)) z5
   have j9:=zz_ (fun h=>hcl 10 _ h rfl 6 (by decide)) z6
   have ja:=zz_ (fun h=>hcl 11 _ h rfl 6 (by decide)) z6
   have j8:=zz_ (fun h=>hcl 13 _ h rfl 4 (by decide)) hbi
   simp only [hbi,n3,z5,z6,j9,ja,j8] at hI
   obtain ⟨A1,c1,A2,c2,j4,j5,jb,jc,j6,j7,j3,rfl,h⟩:=hI
   have hgw:=HGW.out
   have hh2:=HH2.out
   have jg:=H24.out
   refine wpOp_step rfl (fun K' hK'=>?_)
   simp (decide:=true) only [if_true,if_false,reduceIte,n3,z5,z6,j9,ja,j8] at hK'
   refine iN (W:=W) (w1:=W) (v:=?_) (by rfl) ?_ ?_
   rotate_left
   ·(try simp only [a92,cond_true,cond_false])
    go_simp
    first|with_reducible rfl|rfl
   refine hK' _ _ (⟨A1,c1,A2,c2,j4,j5,jb,jc,j6,j7,j3,?_,h⟩)
   show Act.put _ (some 28) _=_
   simp only [a92,Act.put,List.setIfInBounds_toArray,List.set_cons_zero,List.set_cons_succ,dS,dV]
   rfl
  ·
   have hn_:=hneed _ rfl
   have n3:=hn_ 3 (by decide)
   have n4:=hn_ 4 (by decide)
   have z6:=zz_ (fun h=>hcl 6 _ h rfl 5 (by decide)) hbi
   have j9:=zz_ (fun h=>hcl 10 _ h rfl 6 (by decide)) z6
   have ja:=zz_ (fun h=>hcl 11 _ h rfl 6 (by decide)) z6
   have j8:=zz_ (fun h=>hcl 13 _ h rfl 5 (by decide)) hbi
   simp only [hbi,n3,n4,z6,j9,ja,j8] at hI
   obtain ⟨A1,c1,A2,c2,j4,j5,jb,jc,j6,j7,j3,rfl,h⟩:=hI
   have hgw:=HGW.out
   have hh2:=HH2.out
   have jg:=H24.out
   refine wpOp_step rfl (fun K' hK'=>?_)
   simp (decide:=true) only [if_true,if_false,reduceIte,n3,n4,z6,j9,ja,j8] at hK'
   refine kU Try.func45 (by kernel_rfl) rfl #[.int .i64 0, .int .i64 (wrap64 (1 + jk))] (by rfl) rfl rfl (by (try simp only [List.map_toArray,List.map_cons,List.map_nil]);first|done|rfl) ?_
   refine (wO 0 (wrap64 (1 + jk)) _).mono ?_
   rintro e W' ⟨A,c,rfl,hb⟩
   refine ⟨_,rfl,hK' _ _ (⟨A1,c1,A,c,j4,j5,jb,jc,j6,j7,j3,?_,h.ext hb⟩)⟩
   show Act.put _ (some 29) _=_
   simp only [a92,Act.put,List.setIfInBounds_toArray,List.set_cons_zero,List.set_cons_succ]
   rfl
  ·
   have hn_:=hneed _ rfl
   have n1:=hn_ 1 (by decide)
   have n5:=hn_ 5 (by decide)
   have j9:=zz_ (fun h=>hcl 10 _ h rfl 6 (by decide)) hbi
   have ja:=zz_ (fun h=>hcl 11 _ h rfl 6 (by decide)) hbi
   have j8:=zz_ (fun h=>hcl 13 _ h rfl 6 (by decide)) hbi
   simp only [hbi,n1,n5,j9,ja,j8] at hI
   obtain ⟨A1,c1,A2,c2,j4,j5,jb,jc,j6,j7,j3,rfl,h⟩:=hI
   have hgw:=HGW.out
   have hh2:=HH2.out
   have jg:=H24.out
   refine wpOp_step rfl (fun K' hK'=>?_)
   simp (decide:=true) only [if_true,if_false,reduceIte,n1,n5,j9,ja,j8] at hK'
   refine kU Try.func43 (by kernel_rfl) rfl #[.int .i64 5,(.agg #[.int .i64 13, .int .i64 3, .slice A1 0 c1]),(.agg #[.int .i64 0, .int .i64 (wrap64 (1 + jk)), .slice A2 0 c2])] (by rfl) rfl rfl (by (try simp only [List.map_toArray,List.map_cons,List.map_nil]);first|done|rfl) ?_
   refine (LJ 5 13 3 A1 c1 0 (wrap64 (1 + jk)) A2 c2 _).mono ?_
   rintro e W' ⟨A,c,rfl,hn,hb⟩
   have hlt:=h.hK.1
   have h':=h.ext hb
   refine ⟨_,rfl,hK' _ _ (⟨A1,c1,A2,c2,A,c,jb,jc,j6,j7,j3,?_,⟨h'.hK,h'.hI,h'.hB,fun _=>Kd.aD (Kd.dH hn hlt) (fun q hq=>⟨Nat.le_trans hlt hq,fun e=>?_⟩),h'.h33,(fun e=>Bool.noConfusion e),fun e=>⟨(h'.h10 e).1,(h'.h10 e).2⟩⟩⟩)⟩
   ·show Act.put _ (some 30) _=_
    simp only [a92,Act.put,List.setIfInBounds_toArray,List.set_cons_zero,List.set_cons_succ]
    rfl
   ·have:=gQ (h.h10 e).2;omega
  ·
   have j9:=zz_ (fun h=>hcl 10 _ h rfl 7 (by decide)) hbi
   have ja:=zz_ (fun h=>hcl 11 _ h rfl 10 (by decide)) j9
   have j8:=zz_ (fun h=>hcl 13 _ h rfl 7 (by decide)) hbi
   simp only [hbi,j9,ja,j8] at hI
   obtain ⟨A1,c1,A2,c2,j4,j5,jb,jc,j6,j7,j3,rfl,h⟩:=hI
   have hgw:=HGW.out
   have hh2:=HH2.out
   have jg:=H24.out
   refine wpOp_step rfl (fun K' hK'=>?_)
   simp (decide:=true) only [if_true,if_false,reduceIte,j9,ja,j8] at hK'
   refine iN (W:=W) (w1:=W) (v:=?_) (by rfl) ?_ ?_
   rotate_left
   ·(try simp only [a92,cond_true,cond_false])
    go_simp
    first|with_reducible rfl|rfl
   refine hK' _ _ (⟨A1,c1,A2,c2,j4,j5,jb,jc,j6,j7,j3,?_,h⟩)
   show Act.put _ (some 31) _=_
   simp only [a92,Act.put,List.setIfInBounds_toArray,List.set_cons_zero,List.set_cons_succ,dS,dV]
   rfl
  ·
   have z9:=zz_ (fun h=>hcl 9 _ h rfl 8 (by decide)) hbi
   have j9:=zz_ (fun h=>hcl 10 _ h rfl 9 (by decide)) z9
   have ja:=zz_ (fun h=>hcl 11 _ h rfl 10 (by decide)) j9
   have j8:=zz_ (fun h=>hcl 13 _ h rfl 8 (by decide)) hbi
   simp only [hbi,z9,j9,ja,j8] at hI
   obtain ⟨A1,c1,A2,c2,j4,j5,jb,jc,j6,j7,j3,rfl,h⟩:=hI
   have hgw:=HGW.out
   have hh2:=HH2.out
   have jg:=H24.out
   refine wpOp_step rfl (fun K' hK'=>?_)
   simp (decide:=true) only [if_true,if_false,reduceIte,z9,j9,ja,j8] at hK'
   have h9:=h.hK.blk B9.out NE9.out (by simp)
   have q0:W.cell? ⟨g9,0,none⟩=some (.int .i64 1):=aA h9 0
   have q1:W.cell? ⟨g9,1,none⟩=some (.int .i64 3):=aA h9 1
   have q2:W.cell? ⟨g9,2,none⟩=some (.int .i64 0):=aA h9 2
   have q3:W.cell? ⟨g9,3,none⟩=some (.int .i64 8):=aA h9 3
   have q4:W.cell? ⟨g9,4,none⟩=some (.int .i64 0):=aA h9 4
   have q5:W.cell? ⟨g9,5,none⟩=some (.slice je 2 jf):=aA h9 5
   have q6:W.cell? ⟨g9,6,none⟩=some (.slice none 0 0):=aA h9 6
   have q7:W.cell? ⟨g9,7,none⟩=some (.slice none 0 0):=aA h9 7
   refine iN (W:=W) (w1:=W) (v:=?_) (by rfl) ?_ ?_
   rotate_left
   ·(try simp only [a92,cond_true,cond_false])
    go_simp
    first|with_reducible rfl|rfl
   refine hK' _ _ (⟨A1,c1,A2,c2,j4,j5,jb,jc,j6,j7,j3,?_,h⟩)
   show Act.put _ (some 32) _=_
   simp only [a92,Act.put,List.setIfInBounds_toArray,List.set_cons_zero,List.set_cons_succ,dS,dV]
   rfl
  ·
   have hn_:=hneed _ rfl
   have n8:=hn_ 8 (by decide)
   have j9:=zz_ (fun h=>hcl 10 _ h rfl 9 (by decide)) hbi
   have ja:=zz_ (fun h=>hcl 11 _ h rfl 10 (by decide)) j9
   have j8:=zz_ (fun h=>hcl 13 _ h rfl 9 (by decide)) hbi
   simp only [hbi,n8,j9,ja,j8] at hI
   obtain ⟨A1,c1,A2,c2,j4,j5,jb,jc,j6,j7,j3,rfl,h⟩:=hI
   have hgw:=HGW.out
   have hh2:=HH2.out
   have jg:=H24.out
   refine wpOp_step rfl (fun K' hK'=>?_)
   simp (decide:=true) only [if_true,if_false,reduceIte,n8,j9,ja,j8] at hK'
   have hlt:=h.hK.1
   have jj:=Kd.kM jN.out (show aI W0 W g none from h.hK) (fun q hq=>by have:=hq.1;omega)
   refine Kd.rP k35 W.heap.size 35 ?hg (N':=33) ?hd (w0:=W) (xs:=[(⟨1,3,0,⟨8,0,[⟨13,3,[]⟩,⟨0,1,[]⟩]⟩,[],[]⟩:S35)]) (inner:=[.int .i64 1, .int .i64 3, .int .i64 0, .int .i64 8, .int .i64 0, .slice je 2 jf, .slice none 0 0, .slice none 0 0]) (ok:=fun k=>h2≤k∧(b 12=true→k≠j3)) (okp:=fun k=>h2≤k∧k < W0.heap.size) ?hr ?hp ?ho ?hf (Below.refl _ _) (Nat.le_refl _) (by simp) ?_
   case hd=>rfl
   case hg=>rfl
   case hr=>(try simp only [a92,cond_true,cond_false]);first|(go_simp;done)|(go_simp;rfl)
   case hp=>exact eY.c8 (show Kd.FK k35 _ _ ((⟨1,3,0,⟨8,0,[⟨13,3,[]⟩,⟨0,1,[]⟩]⟩,[],[]⟩:S35):S35) [.int .i64 1, .int .i64 3, .int .i64 0, .int .i64 8, .int .i64 0, .slice je 2 jf, .slice none 0 0, .slice none 0 0] from kY _ _ ((⟨1,3,0,⟨8,0,[⟨13,3,[]⟩,⟨0,1,[]⟩]⟩,[],[]⟩:S35):S35) (Kd.bN jj).2.1 (Kd.N_F jj) (Nat.le_refl _) (Kd.mU _ _ _) (Nat.le_refl _) (Kd.mU _ _ _)) (eY.none _ _)
   case ho=>exact fun q hq=>⟨hq.1,fun e=>by have:=(h.h10 e).1;omega⟩
   case hf=>exact ⟨by have:=H24.out;omega,fun e=>by have:=gQ (h.h10 e).2;omega⟩
   intro v1 W' hn hb _ _
   obtain ⟨A,c,rfl⟩:=Kd.dD hn
   have h':=h.ext hb
   refine hK' _ _ (⟨A1,c1,A2,c2,j4,j5,A,c,j6,j7,j3,?_,⟨h'.hK,h'.hI,h'.hB,h'.h30,fun _=>Kd.dH hn (by have:=H24.out;omega),h'.h34,h'.h10⟩⟩)
   show Act.put _ (some 33) _=_
   simp only [a92,Act.put,List.setIfInBounds_toArray,List.set_cons_zero,List.set_cons_succ]
   rfl
  ·
   have hn_:=hneed _ rfl
   have n6:=hn_ 6 (by decide)
   have n7:=hn_ 7 (by decide)
   have n9:=hn_ 9 (by decide)
   have ja:=zz_ (fun h=>hcl 11 _ h rfl 10 (by decide)) hbi
   have j8:=zz_ (fun h=>hcl 13 _ h rfl 10 (by decide)) hbi
   simp only [hbi,n6,n7,n9,ja,j8] at hI
   obtain ⟨A1,c1,A2,c2,j4,j5,jb,jc,j6,j7,j3,rfl,h⟩:=hI
   have hgw:=HGW.out
   have hh2:=HH2.out
   have jg:=H24.out
   refine wpOp_step rfl (fun K' hK'=>?_)
   simp (decide:=true) only [if_true,if_false,reduceIte,n6,n7,n9,ja,j8] at hK'
   have hlt:=h.hK.1
   have hK0:aI W0 W g none:=h.hK
   have h8:=Kd.kM H8.out hK0 (fun q hq=>by have:=hq.1;omega)
   have jx:=h.h33 rfl
   have own8:∀ q,v8.ownBlock=some q→w.heap.size≤q∧q < h2:=fun q hq=>H8.out.1 q hq
   refine Kd.oM k35 (w0:=W) w.heap.size (by rfl) (.tmp 31) (.tmp 33) 23 35 (.agg #[.int .i64 0, .int .i64 0, .int .i64 0, .int .i64 0, .int .i64 0, .slice none 0 0, .slice none 0 0, .slice none 0 0]) 112 rfl Try.underlying23 tN rfl (by decide) (by omega) v8 jd [(⟨1,3,0,⟨8,0,[⟨13,3,[]⟩,⟨0,1,[]⟩]⟩,[],[]⟩:S35)] jb 1 jc (fun k=>w.heap.size≤k∧(b 12=true→k≠j3)) (fun k=>h2≤k∧(b 12=true→k≠j3)) rfl rfl (Kd.aD h8 ?aO) (Kd.N_F jx) ?aK ?aF ?aB ?aS ?aL ?_
   case aO=>exact fun q hq=>⟨hq.1,fun e=>by have:=(h.h10 e).1;have:=hq.2;have:=H24.out;omega⟩
   case aK=>exact fun q hq=>⟨⟨by have:=HH2.out;have:=hq.1;omega,hq.2⟩,fun e=>by have:=(own8 q e.symm).2;have:=hq.1;omega⟩
   case aF=>exact fun q hq=>⟨by have:=HH2.out;have:=H24.out;omega,fun e=>by have:=gQ (h.h10 e).2;omega⟩
   case aB=>exact Below.refl _ _
   case aS=>have:=HH2.out;have:=H24.out;omega
   case aL=>have:=LM.out;omega
   intro v1 W' hn hb hg hat
   obtain ⟨A,c,rfl⟩:=Kd.dD hn
   have ne:∀ q,h2≤q→some q≠v8.ownBlock:=fun q hq e=>by have:=(own8 q e.symm).2;omega
   have neg:some g≠v8.ownBlock:=fun e=>by have:=(own8 g e.symm).1;omega
   refine hK' _ _ (⟨A1,c1,A2,c2,j4,j5,jb,jc,A,c,j3,?_,⟨aI.trans (row:=v8.ownBlock) ⟨hK0.1,fun q hq hq2 _=>hK0.2 q hq hq2 (by simp)⟩ (aI.oF hg g) (.inl rfl),h.hI.grown hg neg,nA h.hB (Nat.le_of_lt (Nat.lt_of_le_of_lt h.hI.ge hgw)) hb,fun e=>Kd.sM (h.h30 e) (fun q hq hl=>hg.block q hl (ne q (by have:=hq.1;omega))),fun _=>Kd.sM jx (fun q hq hl=>hg.block q hl (ne q hq.1)),fun _=>hn,fun e=>⟨(h.h10 e).1,gV (h.h10 e).2 hg (ne _ (by have:=(h.h10 e).1;have:=H24.out;omega))⟩⟩⟩)
   show Act.put _ (some 34) _=_
   simp only [a92,Act.put,List.setIfInBounds_toArray,List.set_cons_zero,List.set_cons_succ]
   rfl
  ·
   have hn_:=hneed _ rfl
   have n6:=hn_ 6 (by decide)
   have n10:=hn_ 10 (by decide)
   have j8:=zz_ (fun h=>hcl 13 _ h rfl 11 (by decide)) hbi
   simp only [hbi,n6,n10,j8] at hI
   obtain ⟨A1,c1,A2,c2,j4,j5,jb,jc,j6,j7,j3,rfl,h⟩:=hI
   have hgw:=HGW.out
   have hh2:=HH2.out
   have jg:=H24.out
   refine wpOp_step rfl (fun K' hK'=>?_)
   simp (decide:=true) only [if_true,if_false,reduceIte,n6,n10,j8] at hK'
   refine iN (W:=W) (w1:=W) (v:= .agg #[.int .i64 3, .int .i64 0, .int .i64 0, .int .i64 5, .int .i64 0, .slice j4 2 j5, .slice j6 (jd ++ [(⟨1,3,0,⟨8,0,[⟨13,3,[]⟩,⟨0,1,[]⟩]⟩,[],[]⟩:S35)]).length j7, .slice none 0 0]) (by rfl) ?_ ?_
   ·(try simp only [a92,cond_true,cond_false])
    go_simp
    (try rfl)
   refine hK' _ _ (⟨A1,c1,A2,c2,j4,j5,jb,jc,j6,j7,j3,?_,h⟩)
   show Act.put _ (some 35) _=_
   simp only [a92,Act.put,List.setIfInBounds_toArray,List.set_cons_zero,List.set_cons_succ,dS,dV]
   rfl
  ·
   have j8:=zz_ (fun h=>hcl 13 _ h rfl 12 (by decide)) hbi
   simp only [hbi,j8] at hI
   obtain ⟨A1,c1,A2,c2,j4,j5,jb,jc,j6,j7,j3,rfl,h⟩:=hI
   have hgw:=HGW.out
   have hh2:=HH2.out
   have jg:=H24.out
   refine wpOp_step rfl (fun K' hK'=>?_)
   simp (decide:=true) only [if_true,if_false,reduceIte,j8] at hK'
   refine mD ?hg (N:=10) ?hd (cs:=#[.int .i64 0, .int .i64 0, .int .i64 0, .int .i64 0, .int .i64 0, .slice none 0 0, .slice none 0 0, .slice none 0 0]) (t:=35) ?hr ?_
   case hd=>rfl
   case hg=>rfl
   case hr=>(try simp only [a92,cond_true,cond_false]);first|(go_simp;done)|(go_simp;rfl)
   intro gb hgb W' hbox hb
   have hlt:=h.hK.1
   have h':=h.ext hb
   refine hK' _ _ (⟨A1,c1,A2,c2,j4,j5,jb,jc,j6,j7,gb,?_,⟨h'.hK,h'.hI,h'.hB,fun e=>Kd.aD (Kd.dG (Kd.nU (h.h30 e)) hb) (fun q hq=>⟨hq.1.1,fun _=>by have:=hq.2;omega⟩),fun e=>Kd.aD (Kd.dG (Kd.nU (h.h33 e)) hb) (fun q hq=>⟨hq.1.1,fun _=>by have:=hq.2;omega⟩),fun e=>Kd.aD (Kd.dG (Kd.nU (h.h34 e)) hb) (fun q hq=>⟨hq.1.1,fun _=>by have:=hq.2;omega⟩),fun _=>⟨by omega,hbox⟩⟩⟩)
   show Act.put _ (some 10) _=_
   simp only [a92,Act.put,List.setIfInBounds_toArray,List.set_cons_zero,List.set_cons_succ]
   rfl
  ·
   have hn_:=hneed _ rfl
   have n0:=hn_ 0 (by decide)
   have n1:=hn_ 1 (by decide)
   have n2:=hn_ 2 (by decide)
   have n3:=hn_ 3 (by decide)
   have n4:=hn_ 4 (by decide)
   have n5:=hn_ 5 (by decide)
   have n6:=hn_ 6 (by decide)
   have n7:=hn_ 7 (by decide)
   have n8:=hn_ 8 (by decide)
   have n9:=hn_ 9 (by decide)
   have n10:=hn_ 10 (by decide)
   have n11:=hn_ 11 (by decide)
   have n12:=hn_ 12 (by decide)
   simp only [hbi,n0,n1,n2,n3,n4,n5,n6,n7,n8,n9,n10,n11,n12] at hI
   obtain ⟨A1,c1,A2,c2,j4,j5,jb,jc,j6,j7,j3,rfl,h⟩:=hI
   have hgw:=HGW.out
   have hh2:=HH2.out
   have jg:=H24.out
   refine wpOp_step rfl (fun K' hK'=>?_)
   simp (decide:=true) only [if_true,if_false,reduceIte,n0,n1,n2,n3,n4,n5,n6,n7,n8,n9,n10,n11,n12] at hK'
   obtain ⟨hg10,hbx⟩:=h.h10 rfl
   replace hbx:W.heap[j3]?=some (.cells #[.int .i64 0, .int .i64 0, .int .i64 0, .int .i64 0, .int .i64 0, .slice none 0 0, .slice none 0 0, .slice none 0 0] 35 (0,0)):=hbx
   have hlt:=h.hK.1
   have q0:W.cell? ⟨j3,0,none⟩=some (.int .i64 0):=aA hbx 0
   have f0:=aU hbx 0
   have q1:W.cell? ⟨j3,1,none⟩=some (.int .i64 0):=aA hbx 1
   have f1:=aU hbx 1
   have q2:W.cell? ⟨j3,2,none⟩=some (.int .i64 0):=aA hbx 2
   have f2:=aU hbx 2
   have q3:W.cell? ⟨j3,3,none⟩=some (.int .i64 0):=aA hbx 3
   have f3:=aU hbx 3
   have q4:W.cell? ⟨j3,4,none⟩=some (.int .i64 0):=aA hbx 4
   have f4:=aU hbx 4
   have q5:W.cell? ⟨j3,5,none⟩=some (.slice none 0 0):=aA hbx 5
   have f5:=aU hbx 5
   have q6:W.cell? ⟨j3,6,none⟩=some (.slice none 0 0):=aA hbx 6
   have f6:=aU hbx 6
   have q7:W.cell? ⟨j3,7,none⟩=some (.slice none 0 0):=aA hbx 7
   have f7:=aU hbx 7
   refine rO (w1:=((((((((W.setCell ⟨j3,0,none⟩ (.int .i64 3)).setCell ⟨j3,1,none⟩ (.int .i64 0)).setCell ⟨j3,2,none⟩ (.int .i64 0)).setCell ⟨j3,3,none⟩ (.int .i64 5)).setCell ⟨j3,4,none⟩ (.int .i64 0)).setCell ⟨j3,5,none⟩ (.slice j4 2 j5)).setCell ⟨j3,6,none⟩ (.slice j6 (jd ++ [(⟨1,3,0,⟨8,0,[⟨13,3,[]⟩,⟨0,1,[]⟩]⟩,[],[]⟩:S35)]).length j7)).setCell ⟨j3,7,none⟩ (.slice none 0 0))) (by rfl) rfl ?_ ?_
   ·(try simp only [a92,cond_true,cond_false])
    go_simp
    (try rfl)
   have ng:g≠j3:=by omega
   have hb0:w0.heap.size≤j3:=Nat.le_trans h.hI.ge (by omega)
   refine hK' _ _ (⟨A1,c1,A2,c2,j4,j5,jb,jc,j6,j7,j3,rfl,⟨(iB (p:=⟨j3,7,none⟩) (iB (p:=⟨j3,6,none⟩) (iB (p:=⟨j3,5,none⟩) (iB (p:=⟨j3,4,none⟩) (iB (p:=⟨j3,3,none⟩) (iB (p:=⟨j3,2,none⟩) (iB (p:=⟨j3,1,none⟩) (iB (p:=⟨j3,0,none⟩) h.hK hg10 (.int .i64 3)) hg10 (.int .i64 0)) hg10 (.int .i64 0)) hg10 (.int .i64 5)) hg10 (.int .i64 0)) hg10 (.slice j4 2 j5)) hg10 (.slice j6 (jd ++ [(⟨1,3,0,⟨8,0,[⟨13,3,[]⟩,⟨0,1,[]⟩]⟩,[],[]⟩:S35)]).length j7)) hg10 (.slice none 0 0)),(aQ.far (p:=⟨j3,7,none⟩) (aQ.far (p:=⟨j3,6,none⟩) (aQ.far (p:=⟨j3,5,none⟩) (aQ.far (p:=⟨j3,4,none⟩) (aQ.far (p:=⟨j3,3,none⟩) (aQ.far (p:=⟨j3,2,none⟩) (aQ.far (p:=⟨j3,1,none⟩) (aQ.far (p:=⟨j3,0,none⟩) h.hI ng (.int .i64 3)) ng (.int .i64 0)) ng (.int .i64 0)) ng (.int .i64 5)) ng (.int .i64 0)) ng (.slice j4 2 j5)) ng (.slice j6 (jd ++ [(⟨1,3,0,⟨8,0,[⟨13,3,[]⟩,⟨0,1,[]⟩]⟩,[],[]⟩:S35)]).length j7)) ng (.slice none 0 0)),(below_set (j:=7) (v:=(.slice none 0 0)) (below_set (j:=6) (v:=(.slice j6 (jd ++ [(⟨1,3,0,⟨8,0,[⟨13,3,[]⟩,⟨0,1,[]⟩]⟩,[],[]⟩:S35)]).length j7)) (below_set (j:=5) (v:=(.slice j4 2 j5)) (below_set (j:=4) (v:=(.int .i64 0)) (below_set (j:=3) (v:=(.int .i64 5)) (below_set (j:=2) (v:=(.int .i64 0)) (below_set (j:=1) (v:=(.int .i64 0)) (below_set (j:=0) (v:=(.int .i64 3)) h.hB hb0) hb0) hb0) hb0) hb0) hb0) hb0) hb0),fun e=>(Kd.aT (p:=⟨j3,7,none⟩) (Kd.aT (p:=⟨j3,6,none⟩) (Kd.aT (p:=⟨j3,5,none⟩) (Kd.aT (p:=⟨j3,4,none⟩) (Kd.aT (p:=⟨j3,3,none⟩) (Kd.aT (p:=⟨j3,2,none⟩) (Kd.aT (p:=⟨j3,1,none⟩) (Kd.aT (p:=⟨j3,0,none⟩) (h.h30 rfl) (fun q hq=>hq.2 rfl) (.int .i64 3)) (fun q hq=>hq.2 rfl) (.int .i64 0)) (fun q hq=>hq.2 rfl) (.int .i64 0)) (fun q hq=>hq.2 rfl) (.int .i64 5)) (fun q hq=>hq.2 rfl) (.int .i64 0)) (fun q hq=>hq.2 rfl) (.slice j4 2 j5)) (fun q hq=>hq.2 rfl) (.slice j6 (jd ++ [(⟨1,3,0,⟨8,0,[⟨13,3,[]⟩,⟨0,1,[]⟩]⟩,[],[]⟩:S35)]).length j7)) (fun q hq=>hq.2 rfl) (.slice none 0 0)),fun e=>(Kd.aT (p:=⟨j3,7,none⟩) (Kd.aT (p:=⟨j3,6,none⟩) (Kd.aT (p:=⟨j3,5,none⟩) (Kd.aT (p:=⟨j3,4,none⟩) (Kd.aT (p:=⟨j3,3,none⟩) (Kd.aT (p:=⟨j3,2,none⟩) (Kd.aT (p:=⟨j3,1,none⟩) (Kd.aT (p:=⟨j3,0,none⟩) (h.h33 rfl) (fun q hq=>hq.2 rfl) (.int .i64 3)) (fun q hq=>hq.2 rfl) (.int .i64 0)) (fun q hq=>hq.2 rfl) (.int .i64 0)) (fun q hq=>hq.2 rfl) (.int .i64 5)) (fun q hq=>hq.2 rfl) (.int .i64 0)) (fun q hq=>hq.2 rfl) (.slice j4 2 j5)) (fun q hq=>hq.2 rfl) (.slice j6 (jd ++ [(⟨1,3,0,⟨8,0,[⟨13,3,[]⟩,⟨0,1,[]⟩]⟩,[],[]⟩:S35)]).length j7)) (fun q hq=>hq.2 rfl) (.slice none 0 0)),fun e=>(Kd.aT (p:=⟨j3,7,none⟩) (Kd.aT (p:=⟨j3,6,none⟩) (Kd.aT (p:=⟨j3,5,none⟩) (Kd.aT (p:=⟨j3,4,none⟩) (Kd.aT (p:=⟨j3,3,none⟩) (Kd.aT (p:=⟨j3,2,none⟩) (Kd.aT (p:=⟨j3,1,none⟩) (Kd.aT (p:=⟨j3,0,none⟩) (h.h34 rfl) (fun q hq=>hq.2 rfl) (.int .i64 3)) (fun q hq=>hq.2 rfl) (.int .i64 0)) (fun q hq=>hq.2 rfl) (.int .i64 0)) (fun q hq=>hq.2 rfl) (.int .i64 5)) (fun q hq=>hq.2 rfl) (.int .i64 0)) (fun q hq=>hq.2 rfl) (.slice j4 2 j5)) (fun q hq=>hq.2 rfl) (.slice j6 (jd ++ [(⟨1,3,0,⟨8,0,[⟨13,3,[]⟩,⟨0,1,[]⟩]⟩,[],[]⟩:S35)]).length j7)) (fun q hq=>hq.2 rfl) (.slice none 0 0)),fun _=>⟨hg10,(aM (cs':=#[(.int .i64 3),(.int .i64 0),(.int .i64 0),(.int .i64 5),(.int .i64 0),(.slice j4 2 j5),(.slice j6 (jd ++ [(⟨1,3,0,⟨8,0,[⟨13,3,[]⟩,⟨0,1,[]⟩]⟩,[],[]⟩:S35)]).length j7),(.slice none 0 0)]) (aM (cs':=#[(.int .i64 3),(.int .i64 0),(.int .i64 0),(.int .i64 5),(.int .i64 0),(.slice j4 2 j5),(.slice j6 (jd ++ [(⟨1,3,0,⟨8,0,[⟨13,3,[]⟩,⟨0,1,[]⟩]⟩,[],[]⟩:S35)]).length j7),(.slice none 0 0)]) (aM (cs':=#[(.int .i64 3),(.int .i64 0),(.int .i64 0),(.int .i64 5),(.int .i64 0),(.slice j4 2 j5),(.slice none 0 0),(.slice none 0 0)]) (aM (cs':=#[(.int .i64 3),(.int .i64 0),(.int .i64 0),(.int .i64 5),(.int .i64 0),(.slice none 0 0),(.slice none 0 0),(.slice none 0 0)]) (aM (cs':=#[(.int .i64 3),(.int .i64 0),(.int .i64 0),(.int .i64 5),(.int .i64 0),(.slice none 0 0),(.slice none 0 0),(.slice none 0 0)]) (aM (cs':=#[(.int .i64 3),(.int .i64 0),(.int .i64 0),(.int .i64 0),(.int .i64 0),(.slice none 0 0),(.slice none 0 0),(.slice none 0 0)]) (aM (cs':=#[(.int .i64 3),(.int .i64 0),(.int .i64 0),(.int .i64 0),(.int .i64 0),(.slice none 0 0),(.slice none 0 0),(.slice none 0 0)]) (aM (cs':=#[(.int .i64 3),(.int .i64 0),(.int .i64 0),(.int .i64 0),(.int .i64 0),(.slice none 0 0),(.slice none 0 0),(.slice none 0 0)]) hbx 0 (.int .i64 3) rfl) 1 (.int .i64 0) rfl) 2 (.int .i64 0) rfl) 3 (.int .i64 5) rfl) 4 (.int .i64 0) rfl) 5 (.slice j4 2 j5) rfl) 6 (.slice j6 (jd ++ [(⟨1,3,0,⟨8,0,[⟨13,3,[]⟩,⟨0,1,[]⟩]⟩,[],[]⟩:S35)]).length j7) rfl) 7 (.slice none 0 0) rfl)⟩⟩⟩)
 case hdone=>
  intro b a W hall hI
  replace hI:L92 w0 w W0 g g9 h2 jh a1 a2 jp jA jk jB v8 jd jD jE jF jG je jf (b 0) (b 1) (b 2) (b 3) (b 4) (b 5) (b 6) (b 7) (b 8) (b 9) (b 10) (b 11) (b 12) (b 13) a W:=hI
  rw [hall 0 (by decide),hall 1 (by decide),hall 2 (by decide),hall 3 (by decide),hall 4 (by decide),hall 5 (by decide),hall 6 (by decide),hall 7 (by decide),hall 8 (by decide),hall 9 (by decide),hall 10 (by decide),hall 11 (by decide),hall 12 (by decide),hall 13 (by decide)] at hI
  obtain ⟨A1,c1,A2,c2,j4,j5,jb,jc,j6,j7,j3,rfl,h⟩:=hI
  simp only [a92,cond_true]
  try go_wp2
  have own8:∀ q,v8.ownBlock=some q→w.heap.size≤q:=fun q hq=>(H8.out.1 q hq).1
  have hh2:=HH2.out
  have jg:=H24.out
  have HKW:Aside0 (aI w W g none):=⟨aI.trans HK'.out h.hK (by cases hv:v8.ownBlock with|none=>exact .inl rfl|some q=>exact .inr ⟨q,rfl,own8 q hv⟩)⟩
  have HN30:=am (Kd.aD (h.h30 rfl) (ok':=fun q=>w.heap.size≤q) (fun q hq=>by have:=hq.1;omega))
  have HN34:=am (Kd.aD (h.h34 rfl) (ok':=fun q=>w.heap.size≤q) (fun q hq=>hq.1))
  have h10':=am (show W.heap[j3]?=some (.cells #[.int .i64 3, .int .i64 0, .int .i64 0, .int .i64 5, .int .i64 0, .slice j4 2 j5, .slice j6 (jd ++ [(⟨1,3,0,⟨8,0,[⟨13,3,[]⟩,⟨0,1,[]⟩]⟩,[],[]⟩:S35)]).length j7, .slice none 0 0] 35 (0,0)) from (h.h10 rfl).2)
  have HIW:=am (show aQ w0 W g jh jB from h.hI)
  have HBW:=am h.hB
  clear h hall own8 hh2 jg HI' HB' HK' H24 HH2 H8
  refine mR (n:=6) (S:=fun w'=>w'.cell? ⟨j3,0,none⟩=some (.int .i64 3)∧w'.cell? ⟨j3,1,none⟩=some (.int .i64 0)∧w'.cell? ⟨j3,2,none⟩=some (.int .i64 0)∧w'.cell? ⟨j3,3,none⟩=some (.int .i64 5)∧w'.cell? ⟨j3,4,none⟩=some (.int .i64 0)∧w'.cell? ⟨j3,5,none⟩=some (.slice j4 2 j5)∧w'.cell? ⟨j3,6,none⟩=some (.slice j6 (jd ++ [(⟨1,3,0,⟨8,0,[⟨13,3,[]⟩,⟨0,1,[]⟩]⟩,[],[]⟩:S35)]).length j7)∧w'.cell? ⟨j3,7,none⟩=some (.slice none 0 0)) (ds:=[]) (bz 6 0) (by kernel_rfl) rfl rfl ⟨(aA h10'.out 0).trans rfl,(aA h10'.out 1).trans rfl,(aA h10'.out 2).trans rfl,(aA h10'.out 3).trans rfl,(aA h10'.out 4).trans rfl,(aA h10'.out 5).trans rfl,(aA h10'.out 6).trans rfl,(aA h10'.out 7).trans rfl⟩ (fun hHeld=>?_)
  have jl:=am (gW HKW.out)
  have jy:=am (Kd.nO HN30.out)
  have jz:=am (Kd.nO HN34.out)
  have jm:=am (bT h10'.out)
  have jn:=am (aQ.drew HIW.out)
  have jo:=am (bG HBW.out)
  clear HKW HN30 HN34 h10' HIW HBW
  have HKW:=jl
  have HN30:=jy
  have HN34:=jz
  have h10':=jm
  have HIW:=jn
  have HBW:=jo
  clear jl jy jz jm jn jo
  generalize W.drew=W1 at HKW HN30 HN34 h10' HIW HBW hHeld ⊢
  refine DC (i:=0) (N:=some 36) (v:=?_) (a':=?_) (bz 6 1) rfl rfl (by kernel_rfl) (fun _ _ _ h=>h) (Or.inl ⟨by rfl,?_⟩) ?_ ?_
  rotate_left
  ·intro w'
   go_simp
   with_reducible rfl
  rotate_left
  ·simp only [Act.put,List.setIfInBounds_toArray,List.set_cons_zero,List.set_cons_succ,dS,dV]
   rfl
  refine uM (i:=3) (N:=some 39) (v:=?_) (a':=?_) (bz 6 9) rfl rfl (by kernel_rfl) (fun _ _ _ h=>h) (Or.inl ⟨by rfl,?_⟩) hHeld ?_ ?_
  rotate_left
  ·rintro w' ⟨s0,s1,s2,s3,s4,s5,s6,s7⟩
   go_simp
   with_reducible rfl
  rotate_left
  ·simp only [Act.put,List.setIfInBounds_toArray,List.set_cons_zero,List.set_cons_succ,dS,dV]
   rfl
  refine lH (i:=1) (N:=some 37) (bz 6 11) rfl rfl (by kernel_rfl) (by decide) (fun K hK=>?_)
  refine kU Try.func45 (by kernel_rfl) rfl #[.int .i64 0, .int .i64 0] (by rfl) rfl rfl (by (try simp only [List.map_toArray,List.map_cons,List.map_nil]);first|done|rfl) ?_
  refine (wO 0 0 _).mono ?_
  rintro e W2 ⟨AL,cL,rfl,hb⟩
  refine ⟨_,rfl,?_⟩
  have jl:=am (aI.trans HKW.out (aI.of_below hb g none) (.inl rfl))
  have jy:=am (Kd.dG HN30.out hb)
  have jz:=am (Kd.dG HN34.out hb)
  have jm:=am (bY h10'.out hb)
  have jn:=am (HIW.out.below hb)
  have jo:=am (aG HBW.out hb)
  clear HKW HN30 HN34 h10' HIW HBW
  have HKW:=jl
  have HN30:=jy
  have HN34:=jz
  have h10':=jm
  have HIW:=jn
  have HBW:=jo
  clear jl jy jz jm jn jo hb
  refine hK.out _ _ ⟨(aA h10'.out 0).trans rfl,(aA h10'.out 1).trans rfl,(aA h10'.out 2).trans rfl,(aA h10'.out 3).trans rfl,(aA h10'.out 4).trans rfl,(aA h10'.out 5).trans rfl,(aA h10'.out 6).trans rfl,(aA h10'.out 7).trans rfl⟩ (fun hHeld=>?_)
  clear hK K
  refine fB (a':=?_) ?_ ?_
  rotate_left
  ·show Act.put _ (some 37) _=_
   simp only [Act.put,List.setIfInBounds_toArray,List.set_cons_zero,List.set_cons_succ,dS,dV]
   rfl
  refine DC (i:=2) (N:=some 38) (v:=?_) (a':=?_) (bz 6 15) rfl rfl (by kernel_rfl) (fun _ _ _ h=>h) (Or.inl ⟨by rfl,?_⟩) ?_ ?_
  rotate_left
  ·intro w'
   go_simp
   with_reducible rfl
  rotate_left
  ·simp only [Act.put,List.setIfInBounds_toArray,List.set_cons_zero,List.set_cons_succ,dS,dV]
   rfl
  refine lH (i:=4) (N:=some 40) (bz 6 31) rfl rfl (by kernel_rfl) (by decide) (fun K hK=>?_)
  have hkw:=HKW.out.1
  refine Kd.rP k35 W2.heap.size 35 ?hg (N':=40) ?hd (w0:=W2) (xs:=[(⟨1,3,0,⟨0,0,[]⟩,[],[]⟩:S35),(⟨3,0,0,⟨5,0,[⟨13,3,[]⟩,⟨0,wrap64 (1 + jk),[]⟩]⟩,jd ++ [⟨1,3,0,⟨8,0,[⟨13,3,[]⟩,⟨0,1,[]⟩]⟩,[],[]⟩],[]⟩:S35)]) (inner:=[.int .i64 1, .int .i64 3, .int .i64 0, .int .i64 0, .int .i64 0, .slice AL 0 cL, .slice none 0 0, .slice none 0 0, .int .i64 3, .int .i64 0, .int .i64 0, .int .i64 5, .int .i64 0, .slice j4 2 j5, .slice j6 (jd ++ [(⟨1,3,0,⟨8,0,[⟨13,3,[]⟩,⟨0,1,[]⟩]⟩,[],[]⟩:S35)]).length j7, .slice none 0 0]) (ok:=fun q=>w.heap.size≤q) (okp:=fun q=>w.heap.size≤q) ?hr ?hp (fun _ hq=>hq) ?hf (Below.refl _ _) (Nat.le_refl _) (by simp) ?_
  case hd=>rfl
  case hg=>rfl
  case hr=>first|(go_simp;done)|(go_simp;rfl)
  case hf=>exact hkw
  case hp=>exact eY.c8 (show Kd.FK k35 _ _ (⟨1,3,0,⟨0,0,[]⟩,[],[]⟩:S35) [.int .i64 1, .int .i64 3, .int .i64 0, .int .i64 0, .int .i64 0, .slice AL 0 cL, .slice none 0 0, .slice none 0 0] from kY _ _ (⟨1,3,0,⟨0,0,[]⟩,[],[]⟩:S35) (Nat.zero_le _) (aAo k32 _ _ AL) (Nat.le_refl _) (Kd.mU _ _ _) (Nat.le_refl _) (Kd.mU _ _ _)) (eY.c8 (show Kd.FK k35 _ _ (⟨3,0,0,⟨5,0,[⟨13,3,[]⟩,⟨0,wrap64 (1 + jk),[]⟩]⟩,jd ++ [⟨1,3,0,⟨8,0,[⟨13,3,[]⟩,⟨0,1,[]⟩]⟩,[],[]⟩],[]⟩:S35) [.int .i64 3, .int .i64 0, .int .i64 0, .int .i64 5, .int .i64 0, .slice j4 2 j5, .slice j6 (jd ++ [(⟨1,3,0,⟨8,0,[⟨13,3,[]⟩,⟨0,1,[]⟩]⟩,[],[]⟩:S35)]).length j7, .slice none 0 0] from kY _ _ (⟨3,0,0,⟨5,0,[⟨13,3,[]⟩,⟨0,wrap64 (1 + jk),[]⟩]⟩,jd ++ [⟨1,3,0,⟨8,0,[⟨13,3,[]⟩,⟨0,1,[]⟩]⟩,[],[]⟩],[]⟩:S35) (Kd.bN HN30.out).2.1 (Kd.N_F HN30.out) (Kd.bN HN34.out).2.1 (Kd.N_F HN34.out) (Nat.le_refl _) (Kd.mU _ _ _)) (eY.none _ _))
  intro v1 W3 hn hb _ _
  have jl:=am (aI.trans HKW.out (aI.of_below hb g none) (.inl rfl))
  have jm:=am (bY h10'.out hb)
  have jn:=am (HIW.out.below hb)
  have jo:=am (aG HBW.out hb)
  have qi:=am (Kd.dH hn hkw)
  clear HKW HN30 HN34 h10' HIW HBW hb hn
  have h10':=jm
  refine hK.out _ _ ⟨(aA h10'.out 0).trans rfl,(aA h10'.out 1).trans rfl,(aA h10'.out 2).trans rfl,(aA h10'.out 3).trans rfl,(aA h10'.out 4).trans rfl,(aA h10'.out 5).trans rfl,(aA h10'.out 6).trans rfl,(aA h10'.out 7).trans rfl⟩ (fun hHeld=>?_)
  clear hK K
  refine fB (a':=?_) ?_ ?_
  rotate_left
  ·show Act.put _ (some 40) _=_
   simp only [Act.put,List.setIfInBounds_toArray,List.set_cons_zero,List.set_cons_succ,dS,dV]
   rfl
  refine DC (i:=5) (N:=some 6) (v:=?_) (a':=?_) (bz 6 63) rfl rfl (by kernel_rfl) (fun _ _ _ h=>h) (Or.inl ⟨by rfl,?_⟩) ?_ ?_
  rotate_left
  ·intro w'
   go_simp
   with_reducible rfl
  rotate_left
  ·simp only [Act.put,List.setIfInBounds_toArray,List.set_cons_zero,List.set_cons_succ,dS,dV]
   rfl
  refine pE (by kernel_rfl) ?_
  try go_wp2
  go_ret
  exact ⟨_,rfl,HR.out ▸ qi.out,jn.out,jo.out,jl.out⟩
theorem bF.step (k:Nat) (ih_spec_l92Loop:∀ m,m < k→dX.fK m) (ih_spec_l92Stmt:∀ m,m < k→bF.fK m) (ih_spec_l92Block:∀ m,m < k→bS.fK m) (ih_spec_l92If:∀ m,m < k→eU.fK m):bF.fK k:=by
 intro g j3 qk a1 a2 a3 r1 r2 w0 w hI hB h
 cases k with
 |zero=>exact absurd h (by simp [bF.f])
 |succ k=>
 simp only [bF.f] at h
 have hu35:=Try.underlying35
 have HI0:=am hI
 have HK:=am (aI.refl w g none)
 have HL:=am hB.size
 clear hI
 have HW0:=am hB.size
 have HB:=am hB
 clear hB
 have H:((aH.f k j3 qk 10).bind fun j9=>(if j9.1=0 then (bF.j0 k a1 a2 a3 j9.1 (j9.1 == 0) j3 j9.2) else (bF.j0 k a1 a2 a3 j9.1 (j9.1 == 1) j3 j9.2)))=some (r1,r2):=h
 clear h
 obtain ⟨⟨j4,ja⟩,A5,H⟩:=bsa H
 (try dsimp only at H)
 have zk:=am H
 clear H
 go_enter Try.func93,Try.ntmps93
 go_upto_if 11 with (first|((with_reducible refine aN (f:=41) rfl ?_);refine gl_ 10 Try.func41 #[.pointer (some ⟨g,0,none⟩), .int .i64 10] ?_;(with_reducible refine (aH.calls k g j3 qk 10 j4 ja w0 _ ?side1 ?side2 A5.out).mono ?_);(case side1=>exact gB);(case side2=>exact iT);rintro e w7 ⟨rfl,hi,hb,hk⟩;refine ⟨_,rfl,?_⟩;replace HK:=am (aI.trans fI hk (.inl rfl));replace HB:=am (hb);replace HI0:=am (hi);(try clear hb);(try clear hk);(try clear hi)))
 (try simp only [Act.put,List.setIfInBounds_toArray,List.set_cons_zero,List.set_cons_succ])
 go_cut [11] (fun zN wc=>∃ (kq:Nat) (jt:Bool),zN= .bool jt∧Aside0 (bF.j0 kq a1 a2 a3 j4 jt j3 ja=some (r1,r2))∧Aside0 (kq≤k)∧Aside0 (aQ w0 wc g j3 ja)∧Aside0 (aI w wc g none)∧Aside0 (Below w0.heap.size w0 wc))
 case first=>
  have H:=zk.out
  clear zk
  by_cases c8:j4=0
  ·rw [if_pos c8] at H
   have jD:(j4 == 0)=true:=beq_iff_eq.mpr c8
   have zl:(j4 != 0)=false:=bne_eq_false_iff_eq.mpr c8
   clear c8
   (first|rw [jD]|(simp only [dS,dV];rw [jD])|skip)
   have H':=am H
   clear H
   go_wp2
   go_meet
   case rel=>exact ⟨_,((j4 == 0)),sd_,H',⟨by first|omega|exact Nat.le_refl _⟩,⟨gB⟩,⟨fI⟩,⟨iT⟩⟩
  rw [if_neg c8] at H
  have jD:(j4 == 0)=false:=beq_eq_false_iff_ne.mpr c8
  have zl:(j4 != 0)=true:=bne_iff_ne.mpr c8
  (first|rw [jD]|(simp only [dS,dV];rw [jD])|skip)
  have H':=am H
  clear H
  go_wp2
  go_meet
  case rel=>exact ⟨_,((j4 == 1)),sd_,H',⟨by first|omega|exact Nat.le_refl _⟩,⟨gB⟩,⟨fI⟩,⟨iT⟩⟩
 case rest=>
  clear zk
  obtain ⟨kq,jt,rfl,HA,HJ5,HI0,HK,HB⟩:=hcut
  cases kq with
  |zero=>exact absurd HA.out (by simp [bF.j0])
  |succ qh=>
   have H:=HA.out
   clear HA
   simp only [bF.j0] at H
   by_cases c9:jt=true
   ·subst c9
    rw [if_pos rfl] at H
    obtain ⟨⟨jT,jU,jV,jW,jX,jY,jZ,q0,zI⟩,zJ,H⟩:=bsm H
    (try dsimp only at H)
    have zO:=am zJ
    clear zJ
    obtain ⟨zP,hy_⟩:∃ y_:List (S35),y_=(([(⟨jT,jU,jV,(⟨jW,jX,jY⟩:S32),jZ,q0⟩:S35)]:List (S35))):=⟨_,rfl⟩
    replace H:(some (zP,zI))=some (r1,r2):=rx_
    have ql:=am hy_
    clear hy_
    simp only [Option.some.injEq,Prod.mk.injEq] at H
    obtain ⟨rfl,rfl⟩:=H
    go_wp2_with (first|((with_reducible refine aN (f:=103) rfl ?_);refine gl_ 15 Try.func103 #[.pointer (some ⟨g,0,none⟩)] ?_;(with_reducible refine (gN.calls qh g j3 ja jT jU jV jW jX jY jZ q0 zI w0 _ ?side1 ?side2 zO.out).mono ?_);(case side1=>exact gB);(case side2=>exact iT);rintro e zQ ⟨zK,zL,zM,rfl,ho0,ho1,ho2,hi,hb,hk⟩;refine ⟨_,rfl,?_⟩;have jI:=am (Kd.dH (Kd.aD (ok':=fun k_=>(w.heap.size≤k_)∧some k_≠(zL:Value).ownBlock∧some k_≠(zM:Value).ownBlock∧k_≠g) ho0 (fun k_ hk_=>⟨(Nat.le_trans (aW (w:=w) (g:=g) (row:=none) fI) hk_.1),hk_.2.1,hk_.2.2,(aQ.fresh gB k_ hk_.1)⟩)) (aW (w:=w) (g:=g) (row:=none) fI));have jJ:=am (Kd.dH (Kd.aD (ok':=fun k_=>(w.heap.size≤k_)∧some k_≠(zK:Value).ownBlock∧some k_≠(zM:Value).ownBlock∧k_≠g) ho1 (fun k_ hk_=>⟨(Nat.le_trans (aW (w:=w) (g:=g) (row:=none) fI) hk_.1),hk_.2.1,hk_.2.2,(aQ.fresh gB k_ hk_.1)⟩)) (aW (w:=w) (g:=g) (row:=none) fI));have jK:=am (Kd.dH (Kd.aD (ok':=fun k_=>(w.heap.size≤k_)∧some k_≠(zK:Value).ownBlock∧some k_≠(zL:Value).ownBlock∧k_≠g) ho2 (fun k_ hk_=>⟨(Nat.le_trans (aW (w:=w) (g:=g) (row:=none) fI) hk_.1),hk_.2.1,hk_.2.2,(aQ.fresh gB k_ hk_.1)⟩)) (aW (w:=w) (g:=g) (row:=none) fI));replace HK:=am (aI.trans fI hk (.inl rfl));replace HB:=am (hb);replace HI0:=am (hi);(try clear hb);(try clear hk);(try clear hi);(try clear ho0);(try clear ho1);(try clear ho2);obtain ⟨qm,qn,zm⟩:=Kd.dD jI.out;subst zm;obtain ⟨qo,qp,zn⟩:=Kd.dD jJ.out;subst zn;obtain ⟨qq,qr,zo⟩:=Kd.dD jK.out;subst zo)|((with_reducible refine bQ (N:=16) rfl ?_);refine Kd.oQ k35 _ 35 rfl (N':=16) rfl (xs:=([(⟨jT,jU,jV,(⟨jW,jX,jY⟩:S32),jZ,q0⟩:S35)]:List (S35))) (inner:=[.int .i64 jT, .int .i64 jU, .int .i64 jV, .int .i64 jW, .int .i64 jX, .slice qm jY.length qn, .slice qo jZ.length qp, .slice qq q0.length qr]) (ok:=(fun k_=>(w.heap.size≤k_)∧k_≠g)) (okp:=(fun k_=>(w.heap.size≤k_)∧k_≠g)) rn_ ?hp (fun _ hk=>hk) ((show ∀ k_,zQ.heap.size≤k_→(fun k_=>(w.heap.size≤k_)∧k_≠g) k_ from fun k_ hk=>⟨(Nat.le_trans (aW (w:=w) (g:=g) (row:=none) fI) hk),aQ.fresh gB k_ hk⟩) _ (Nat.le_refl _)) (Below.refl _ _) (Nat.le_refl _) (by simp) ?_;(case hp=>exact (eY.c8 (show Kd.FK k35 _ _ (⟨jT,jU,jV,(⟨jW,jX,jY⟩:S32),jZ,q0⟩:S35) [.int .i64 jT, .int .i64 jU, .int .i64 jV, .int .i64 jW, .int .i64 jX, .slice qm jY.length qn, .slice qo jZ.length qp, .slice qq q0.length qr] from (kY _ _ (⟨jT,jU,jV,(⟨jW,jX,jY⟩:S32),jZ,q0⟩:S35) (Kd.bN (Kd.aD (ok':=(fun k_=>(w.heap.size≤k_)∧k_≠g)) (jI.out) (fun k_ hk=>⟨hk.1,hk.2.2.2⟩))).2.1 (Kd.N_F (Kd.aD (ok':=(fun k_=>(w.heap.size≤k_)∧k_≠g)) (jI.out) (fun k_ hk=>⟨hk.1,hk.2.2.2⟩))) (Kd.bN (Kd.aD (ok':=(fun k_=>(w.heap.size≤k_)∧k_≠g)) (jJ.out) (fun k_ hk=>⟨hk.1,hk.2.2.2⟩))).2.1 (Kd.N_F (Kd.aD (ok':=(fun k_=>(w.heap.size≤k_)∧k_≠g)) (jJ.out) (fun k_ hk=>⟨hk.1,hk.2.2.2⟩))) (Kd.bN (Kd.aD (ok':=(fun k_=>(w.heap.size≤k_)∧k_≠g)) (jK.out) (fun k_ hk=>⟨hk.1,hk.2.2.2⟩))).2.1 (Kd.N_F (Kd.aD (ok':=(fun k_=>(w.heap.size≤k_)∧k_≠g)) (jK.out) (fun k_ hk=>⟨hk.1,hk.2.2.2⟩))))) (eY.none _ _)));intro Jh Ji ho16 hb hg_ hnew_;clear hg_ hnew_;(first|rw [← ql.out] at ho16|(simp only [Int.reduceToNat] at ho16;rw [← ql.out] at ho16));have zp:=am (Kd.dH ho16 (aW (w:=w) (g:=g) (row:=none) fI));replace HK:=am (aI.trans fI (aI.of_below hb g none) (.inl rfl));replace HB:=am (aG iT hb);replace HI0:=am (aQ.below gB hb);clear jI jJ jK hb ho16))
    go_ret
    exact ⟨_,iM,eO (Kd.aD zp.out (fun _ hk=>hk.1)),gB,iT,fI⟩
   replace c9:=Bool.eq_false_iff.mpr c9
   subst c9
   rw [if_neg (show ¬ (false=true) by decide)] at H
   by_cases jL:j4=2
   ·rw [if_pos jL] at H
    have jE:(j4 == 2)=true:=beq_iff_eq.mpr jL
    have jF:(j4 != 2)=false:=bne_eq_false_iff_eq.mpr jL
    clear jL
    by_cases qi:a2 > 0
    ·rw [if_pos qi] at H
     have qs:decide (0 < a2)=true:=decide_eq_true qi
     clear qi
     obtain ⟨⟨q1,q2,q3,q4,q5,q6,jb,jc,qt⟩,qu,H⟩:=bsm H
     (try dsimp only at H)
     have zR:=am qu
     clear qu
     obtain ⟨zq,hy_⟩:∃ y_:List (S35),y_=(([(⟨q1,q2,q3,(⟨q4,q5,q6⟩:S32),jb,jc⟩:S35)]:List (S35))):=⟨_,rfl⟩
     replace H:(some (zq,qt))=some (r1,r2):=rx_
     have jN:=am hy_
     clear hy_
     simp only [Option.some.injEq,Prod.mk.injEq] at H
     obtain ⟨rfl,rfl⟩:=H
     go_wp2_with (first|((with_reducible refine aN (f:=42) rfl ?_);refine gl_ 25 Try.func42 #[.pointer (some ⟨g,0,none⟩), .int .i64 a1, .int .i64 a2, .bool a3] ?_;(with_reducible refine (ih_spec_l92If qh (by have:=HJ5.out;omega) g j3 ja a1 a2 a3 q1 q2 q3 q4 q5 q6 jb jc qt w0 _ ?side1 ?side2 zR.out).mono ?_);(case side1=>exact gB);(case side2=>exact iT);rintro e zS ⟨qv,qw,qx,rfl,ho0,ho1,ho2,hi,hb,hk⟩;refine ⟨_,rfl,?_⟩;have ju:=am (Kd.dH (Kd.aD (ok':=fun k_=>(w.heap.size≤k_)∧some k_≠(qw:Value).ownBlock∧some k_≠(qx:Value).ownBlock∧k_≠g) ho0 (fun k_ hk_=>⟨(Nat.le_trans (aW (w:=w) (g:=g) (row:=none) fI) hk_.1),hk_.2.1,hk_.2.2,(aQ.fresh gB k_ hk_.1)⟩)) (aW (w:=w) (g:=g) (row:=none) fI));have jv:=am (Kd.dH (Kd.aD (ok':=fun k_=>(w.heap.size≤k_)∧some k_≠(qv:Value).ownBlock∧some k_≠(qx:Value).ownBlock∧k_≠g) ho1 (fun k_ hk_=>⟨(Nat.le_trans (aW (w:=w) (g:=g) (row:=none) fI) hk_.1),hk_.2.1,hk_.2.2,(aQ.fresh gB k_ hk_.1)⟩)) (aW (w:=w) (g:=g) (row:=none) fI));have jw:=am (Kd.dH (Kd.aD (ok':=fun k_=>(w.heap.size≤k_)∧some k_≠(qv:Value).ownBlock∧some k_≠(qw:Value).ownBlock∧k_≠g) ho2 (fun k_ hk_=>⟨(Nat.le_trans (aW (w:=w) (g:=g) (row:=none) fI) hk_.1),hk_.2.1,hk_.2.2,(aQ.fresh gB k_ hk_.1)⟩)) (aW (w:=w) (g:=g) (row:=none) fI));replace HK:=am (aI.trans fI hk (.inl rfl));replace HB:=am (hb);replace HI0:=am (hi);(try clear hb);(try clear hk);(try clear hi);(try clear ho0);(try clear ho1);(try clear ho2);obtain ⟨qy,qz,zr⟩:=Kd.dD ju.out;subst zr;obtain ⟨qA,qB,zs⟩:=Kd.dD jv.out;subst zs;obtain ⟨qC,qD,zt⟩:=Kd.dD jw.out;subst zt)|((with_reducible refine bQ (N:=26) rfl ?_);refine Kd.oQ k35 _ 35 rfl (N':=26) rfl (xs:=([(⟨q1,q2,q3,(⟨q4,q5,q6⟩:S32),jb,jc⟩:S35)]:List (S35))) (inner:=[.int .i64 q1, .int .i64 q2, .int .i64 q3, .int .i64 q4, .int .i64 q5, .slice qy q6.length qz, .slice qA jb.length qB, .slice qC jc.length qD]) (ok:=(fun k_=>(w.heap.size≤k_)∧k_≠g)) (okp:=(fun k_=>(w.heap.size≤k_)∧k_≠g)) rn_ ?hp (fun _ hk=>hk) ((show ∀ k_,zS.heap.size≤k_→(fun k_=>(w.heap.size≤k_)∧k_≠g) k_ from fun k_ hk=>⟨(Nat.le_trans (aW (w:=w) (g:=g) (row:=none) fI) hk),aQ.fresh gB k_ hk⟩) _ (Nat.le_refl _)) (Below.refl _ _) (Nat.le_refl _) (by simp) ?_;(case hp=>exact (eY.c8 (show Kd.FK k35 _ _ (⟨q1,q2,q3,(⟨q4,q5,q6⟩:S32),jb,jc⟩:S35) [.int .i64 q1, .int .i64 q2, .int .i64 q3, .int .i64 q4, .int .i64 q5, .slice qy q6.length qz, .slice qA jb.length qB, .slice qC jc.length qD] from (kY _ _ (⟨q1,q2,q3,(⟨q4,q5,q6⟩:S32),jb,jc⟩:S35) (Kd.bN (Kd.aD (ok':=(fun k_=>(w.heap.size≤k_)∧k_≠g)) (ju.out) (fun k_ hk=>⟨hk.1,hk.2.2.2⟩))).2.1 (Kd.N_F (Kd.aD (ok':=(fun k_=>(w.heap.size≤k_)∧k_≠g)) (ju.out) (fun k_ hk=>⟨hk.1,hk.2.2.2⟩))) (Kd.bN (Kd.aD (ok':=(fun k_=>(w.heap.size≤k_)∧k_≠g)) (jv.out) (fun k_ hk=>⟨hk.1,hk.2.2.2⟩))).2.1 (Kd.N_F (Kd.aD (ok':=(fun k_=>(w.heap.size≤k_)∧k_≠g)) (jv.out) (fun k_ hk=>⟨hk.1,hk.2.2.2⟩))) (Kd.bN (Kd.aD (ok':=(fun k_=>(w.heap.size≤k_)∧k_≠g)) (jw.out) (fun k_ hk=>⟨hk.1,hk.2.2.2⟩))).2.1 (Kd.N_F (Kd.aD (ok':=(fun k_=>(w.heap.size≤k_)∧k_≠g)) (jw.out) (fun k_ hk=>⟨hk.1,hk.2.2.2⟩))))) (eY.none _ _)));intro zT Jj ho25 hb hg_ hnew_;clear hg_ hnew_;(first|rw [← jN.out] at ho25|(simp only [Int.reduceToNat] at ho25;rw [← jN.out] at ho25));have qE:=am (Kd.dH ho25 (aW (w:=w) (g:=g) (row:=none) fI));replace HK:=am (aI.trans fI (aI.of_below hb g none) (.inl rfl));replace HB:=am (aG iT hb);replace HI0:=am (aQ.below gB hb);clear ju jv jw hb ho25))
     go_ret
     exact ⟨_,iM,eO (Kd.aD qE.out (fun _ hk=>hk.1)),gB,iT,fI⟩
    rw [if_neg qi] at H
    have qs:decide (0 < a2)=false:=decide_eq_false qi
    clear qi
    obtain ⟨⟨zu,qF⟩,qG,H⟩:=bsm H
    (try dsimp only at H)
    have zU:=am qG
    clear qG
    obtain ⟨⟨q7,jd,je,qH⟩,qI,H⟩:=bsm H
    (try dsimp only at H)
    have zV:=am qI
    clear qI
    obtain ⟨zv,hy_⟩:∃ y_:List (S35),y_=(([(⟨7,0,0,(⟨q7,jd,je⟩:S32),([]:List (S35)),([]:List (S35))⟩:S35)]:List (S35))):=⟨_,rfl⟩
    replace H:(some (zv,qH))=some (r1,r2):=rx_
    have jO:=am hy_
    clear hy_
    simp only [Option.some.injEq,Prod.mk.injEq] at H
    obtain ⟨rfl,rfl⟩:=H
    go_wp2_with (first|((with_reducible refine aN (f:=41) rfl ?_);refine gl_ 52 Try.func41 #[.pointer (some ⟨g,0,none⟩), .int .i64 3] ?_;(with_reducible refine (aH.calls qh g j3 ja 3 zu qF w0 _ ?side1 ?side2 zU.out).mono ?_);(case side1=>exact gB);(case side2=>exact iT);rintro e Jk ⟨rfl,hi,hb,hk⟩;refine ⟨_,rfl,?_⟩;replace HK:=am (aI.trans fI hk (.inl rfl));replace HB:=am (hb);replace HI0:=am (hi);(try clear hb);(try clear hk);(try clear hi))|((with_reducible refine aN (f:=76) rfl ?_);refine gl_ 54 Try.func76 #[.pointer (some ⟨g,0,none⟩), .int .i64 (wrap64 (1 + zu))] ?_;(with_reducible refine (bI.calls qh g j3 qF (wrap64 (1 + zu)) q7 jd je qH w0 _ ?side1 ?side2 zV.out).mono ?_);(case side1=>exact gB);(case side2=>exact iT);rintro e zW ⟨zX,rfl,ho0,hi,hb,hk⟩;refine ⟨_,rfl,?_⟩;have jx:=am (Kd.dH (Kd.aD (ok':=fun k_=>(w.heap.size≤k_)∧k_≠g) ho0 (fun k_ hk_=>⟨(Nat.le_trans (aW (w:=w) (g:=g) (row:=none) fI) hk_),(aQ.fresh gB k_ hk_)⟩)) (aW (w:=w) (g:=g) (row:=none) fI));replace HK:=am (aI.trans fI hk (.inl rfl));replace HB:=am (hb);replace HI0:=am (hi);(try clear hb);(try clear hk);(try clear hi);(try clear ho0);obtain ⟨qJ,qK,zw⟩:=Kd.dD jx.out;subst zw)|((with_reducible refine bQ (N:=56) rfl ?_);refine Kd.oQ k35 _ 35 rfl (N':=56) rfl (xs:=([(⟨7,0,0,(⟨q7,jd,je⟩:S32),([]:List (S35)),([]:List (S35))⟩:S35)]:List (S35))) (inner:=[.int .i64 7, .int .i64 0, .int .i64 0, .int .i64 q7, .int .i64 jd, .slice qJ je.length qK, .slice none 0 0, .slice none 0 0]) (ok:=(fun k_=>(w.heap.size≤k_)∧k_≠g)) (okp:=(fun k_=>(w.heap.size≤k_)∧k_≠g)) rn_ ?hp (fun _ hk=>hk) ((show ∀ k_,zW.heap.size≤k_→(fun k_=>(w.heap.size≤k_)∧k_≠g) k_ from fun k_ hk=>⟨(Nat.le_trans (aW (w:=w) (g:=g) (row:=none) fI) hk),aQ.fresh gB k_ hk⟩) _ (Nat.le_refl _)) (Below.refl _ _) (Nat.le_refl _) (by simp) ?_;(case hp=>exact (eY.c8 (show Kd.FK k35 _ _ (⟨7,0,0,(⟨q7,jd,je⟩:S32),([]:List (S35)),([]:List (S35))⟩:S35) [.int .i64 7, .int .i64 0, .int .i64 0, .int .i64 q7, .int .i64 jd, .slice qJ je.length qK, .slice none 0 0, .slice none 0 0] from (kY _ _ (⟨7,0,0,(⟨q7,jd,je⟩:S32),([]:List (S35)),([]:List (S35))⟩:S35) (Kd.bN (Kd.aD (ok':=(fun k_=>(w.heap.size≤k_)∧k_≠g)) (jx.out) (fun k_ hk=>⟨hk.1,hk.2⟩))).2.1 (Kd.N_F (Kd.aD (ok':=(fun k_=>(w.heap.size≤k_)∧k_≠g)) (jx.out) (fun k_ hk=>⟨hk.1,hk.2⟩))) (Nat.le_refl _) (Kd.mU _ _ _) (Nat.le_refl _) (Kd.mU _ _ _))) (eY.none _ _)));intro zY Jl ho32 hb hg_ hnew_;clear hg_ hnew_;(first|rw [← jO.out] at ho32|(simp only [Int.reduceToNat] at ho32;rw [← jO.out] at ho32));have qL:=am (Kd.dH ho32 (aW (w:=w) (g:=g) (row:=none) fI));replace HK:=am (aI.trans fI (aI.of_below hb g none) (.inl rfl));replace HB:=am (aG iT hb);replace HI0:=am (aQ.below gB hb);clear jx hb ho32))
    go_ret
    exact ⟨_,iM,eO (Kd.aD qL.out (fun _ hk=>hk.1)),gB,iT,fI⟩
   rw [if_neg jL] at H
   have jE:(j4 == 2)=false:=beq_eq_false_iff_ne.mpr jL
   have jF:(j4 != 2)=true:=bne_iff_ne.mpr jL
   by_cases jM:j4=3
   ·rw [if_pos jM] at H
    have jG:(j4 == 3)=true:=beq_iff_eq.mpr jM
    have jH:(j4 != 3)=false:=bne_eq_false_iff_eq.mpr jM
    clear jM
    have q8:=am H
    clear H
    go_upto_region 9 with (fail)
    go_cut [33] (fun zZ wc=>∃ (kq:Nat) (j5:Bool),zZ= .bool j5∧Aside0 (bF.j1 kq a1 a2 j5 j3 ja=some (r1,r2))∧Aside0 (kq≤qh)∧Aside0 (aQ w0 wc g j3 ja)∧Aside0 (aI w wc g none)∧Aside0 (Below w0.heap.size w0 wc))
    case first=>
     have H:=q8.out
     clear q8
     by_cases qj:a2 > 0
     ·rw [if_pos qj] at H
      have j7:decide (0 < a2)=true:=decide_eq_true qj
      clear qj
      (first|rw [j7]|(simp only [dS,dV];rw [j7])|skip)
      have H':=am H
      clear H
      go_wp2
      go_meet
      case rel=>exact ⟨_,(a3),sd_,H',⟨by have:=HJ5.out;first|omega|exact Nat.le_refl _⟩,⟨gB⟩,⟨fI⟩,⟨iT⟩⟩
     rw [if_neg qj] at H
     have j7:decide (0 < a2)=false:=decide_eq_false qj
     clear qj
     (first|rw [j7]|(simp only [dS,dV];rw [j7])|skip)
     have H':=am H
     clear H
     go_wp2
     go_meet
     case rel=>exact ⟨_,(false),sd_,H',⟨by have:=HJ5.out;first|omega|exact Nat.le_refl _⟩,⟨gB⟩,⟨fI⟩,⟨iT⟩⟩
    case rest=>
     clear q8
     try clear c9
     try clear jL
     try clear jE
     try clear jF
     try clear jM
     try clear jG
     try clear jH
     obtain ⟨kq,j5,rfl,HA,HJ33,HI0,HK,HB⟩:=hcut
     cases kq with
     |zero=>exact absurd HA.out (by simp [bF.j1])
     |succ q9=>
      have H:=HA.out
      clear HA
      simp only [bF.j1] at H
      by_cases zi:j5=true
      ·subst zi
       rw [if_pos rfl] at H
       obtain ⟨⟨zx,zy⟩,J0,H⟩:=bsa H
       (try dsimp only at H)
       simp only [Option.some.injEq,Prod.mk.injEq] at H
       obtain ⟨rfl,rfl⟩:=H
       go_wp2_with (first|((with_reducible refine aN (f:=104) rfl ?_);refine gl_ 37 Try.func104 #[.pointer (some ⟨g,0,none⟩), .int .i64 a1, .int .i64 a2] ?_;(with_reducible refine (ih_spec_l92Loop q9 (by have:=HJ5.out;have:=HJ33.out;omega) g j3 ja a1 a2 zx zy w0 _ ?side1 ?side2 J0.out).mono ?_);(case side1=>exact gB);(case side2=>exact iT);rintro e Jm ⟨J1,rfl,ho0,hi,hb,hk⟩;refine ⟨_,rfl,?_⟩;have qM:=am (Kd.dH (Kd.aD (ok':=fun k_=>(w.heap.size≤k_)∧k_≠g) ho0 (fun k_ hk_=>⟨(Nat.le_trans (aW (w:=w) (g:=g) (row:=none) fI) hk_),(aQ.fresh gB k_ hk_)⟩)) (aW (w:=w) (g:=g) (row:=none) fI));replace HK:=am (aI.trans fI hk (.inl rfl));replace HB:=am (hb);replace HI0:=am (hi);(try clear hb);(try clear hk);(try clear hi);(try clear ho0)))
       go_ret
       exact ⟨_,iM,eO (Kd.aD qM.out (fun _ hk=>hk.1)),gB,iT,fI⟩
      replace zi:=Bool.eq_false_iff.mpr zi
      subst zi
      rw [if_neg (show ¬ (false=true) by decide)] at H
      obtain ⟨⟨qa,qN⟩,qO,H⟩:=bsm H
      (try dsimp only at H)
      have J2:=am qO
      clear qO
      obtain ⟨⟨jf,jg,jh,qP⟩,J3,H⟩:=bsa H
      (try dsimp only at H)
      obtain ⟨zz,hy_⟩:∃ y_:List (S35),y_=(([(⟨7,0,0,(⟨jf,jg,jh⟩:S32),([]:List (S35)),([]:List (S35))⟩:S35)]:List (S35))):=⟨_,rfl⟩
      replace H:(some (zz,qP))=some (r1,r2):=rx_
      have jP:=am hy_
      clear hy_
      simp only [Option.some.injEq,Prod.mk.injEq] at H
      obtain ⟨rfl,rfl⟩:=H
      go_wp2_with (first|((with_reducible refine aN (f:=41) rfl ?_);refine gl_ 52 Try.func41 #[.pointer (some ⟨g,0,none⟩), .int .i64 3] ?_;(with_reducible refine (aH.calls q9 g j3 ja 3 qa qN w0 _ ?side1 ?side2 J2.out).mono ?_);(case side1=>exact gB);(case side2=>exact iT);rintro e Jn ⟨rfl,hi,hb,hk⟩;refine ⟨_,rfl,?_⟩;replace HK:=am (aI.trans fI hk (.inl rfl));replace HB:=am (hb);replace HI0:=am (hi);(try clear hb);(try clear hk);(try clear hi))|((with_reducible refine aN (f:=76) rfl ?_);refine gl_ 54 Try.func76 #[.pointer (some ⟨g,0,none⟩), .int .i64 (wrap64 (1 + qa))] ?_;(with_reducible refine (bI.calls q9 g j3 qN (wrap64 (1 + qa)) jf jg jh qP w0 _ ?side1 ?side2 J3.out).mono ?_);(case side1=>exact gB);(case side2=>exact iT);rintro e J4 ⟨J5,rfl,ho0,hi,hb,hk⟩;refine ⟨_,rfl,?_⟩;have jy:=am (Kd.dH (Kd.aD (ok':=fun k_=>(w.heap.size≤k_)∧k_≠g) ho0 (fun k_ hk_=>⟨(Nat.le_trans (aW (w:=w) (g:=g) (row:=none) fI) hk_),(aQ.fresh gB k_ hk_)⟩)) (aW (w:=w) (g:=g) (row:=none) fI));replace HK:=am (aI.trans fI hk (.inl rfl));replace HB:=am (hb);replace HI0:=am (hi);(try clear hb);(try clear hk);(try clear hi);(try clear ho0);obtain ⟨qQ,qR,zA⟩:=Kd.dD jy.out;subst zA)|((with_reducible refine bQ (N:=56) rfl ?_);refine Kd.oQ k35 _ 35 rfl (N':=56) rfl (xs:=([(⟨7,0,0,(⟨jf,jg,jh⟩:S32),([]:List (S35)),([]:List (S35))⟩:S35)]:List (S35))) (inner:=[.int .i64 7, .int .i64 0, .int .i64 0, .int .i64 jf, .int .i64 jg, .slice qQ jh.length qR, .slice none 0 0, .slice none 0 0]) (ok:=(fun k_=>(w.heap.size≤k_)∧k_≠g)) (okp:=(fun k_=>(w.heap.size≤k_)∧k_≠g)) rn_ ?hp (fun _ hk=>hk) ((show ∀ k_,J4.heap.size≤k_→(fun k_=>(w.heap.size≤k_)∧k_≠g) k_ from fun k_ hk=>⟨(Nat.le_trans (aW (w:=w) (g:=g) (row:=none) fI) hk),aQ.fresh gB k_ hk⟩) _ (Nat.le_refl _)) (Below.refl _ _) (Nat.le_refl _) (by simp) ?_;(case hp=>exact (eY.c8 (show Kd.FK k35 _ _ (⟨7,0,0,(⟨jf,jg,jh⟩:S32),([]:List (S35)),([]:List (S35))⟩:S35) [.int .i64 7, .int .i64 0, .int .i64 0, .int .i64 jf, .int .i64 jg, .slice qQ jh.length qR, .slice none 0 0, .slice none 0 0] from (kY _ _ (⟨7,0,0,(⟨jf,jg,jh⟩:S32),([]:List (S35)),([]:List (S35))⟩:S35) (Kd.bN (Kd.aD (ok':=(fun k_=>(w.heap.size≤k_)∧k_≠g)) (jy.out) (fun k_ hk=>⟨hk.1,hk.2⟩))).2.1 (Kd.N_F (Kd.aD (ok':=(fun k_=>(w.heap.size≤k_)∧k_≠g)) (jy.out) (fun k_ hk=>⟨hk.1,hk.2⟩))) (Nat.le_refl _) (Kd.mU _ _ _) (Nat.le_refl _) (Kd.mU _ _ _))) (eY.none _ _)));intro J6 Jo ho45 hb hg_ hnew_;clear hg_ hnew_;(first|rw [← jP.out] at ho45|(simp only [Int.reduceToNat] at ho45;rw [← jP.out] at ho45));have qS:=am (Kd.dH ho45 (aW (w:=w) (g:=g) (row:=none) fI));replace HK:=am (aI.trans fI (aI.of_below hb g none) (.inl rfl));replace HB:=am (aG iT hb);replace HI0:=am (aQ.below gB hb);clear jy hb ho45))
      go_ret
      exact ⟨_,iM,eO (Kd.aD qS.out (fun _ hk=>hk.1)),gB,iT,fI⟩
   rw [if_neg jM] at H
   have jG:(j4 == 3)=false:=beq_eq_false_iff_ne.mpr jM
   have jH:(j4 != 3)=true:=bne_iff_ne.mpr jM
   have qb:=am H
   clear H
   go_upto_if 38 with (fail)
   go_cut [38] (fun J7 wc=>∃ (kq:Nat) (j6:Bool),J7= .bool j6∧Aside0 (bF.j2 kq a1 j4 j6 j3 ja=some (r1,r2))∧Aside0 (kq≤qh)∧Aside0 (aQ w0 wc g j3 ja)∧Aside0 (aI w wc g none)∧Aside0 (Below w0.heap.size w0 wc))
   case first=>
    have H:=qb.out
    clear qb
    by_cases qc:j4=4
    ·rw [if_pos qc] at H
     have j8:(j4 == 4)=true:=beq_iff_eq.mpr qc
     have qT:(j4 != 4)=false:=bne_eq_false_iff_eq.mpr qc
     clear qc
     (first|rw [j8]|(simp only [dS,dV];rw [j8])|skip)
     have H':=am H
     clear H
     go_wp2
     go_meet
     case rel=>exact ⟨_,((j4 == 4)),sd_,H',⟨by have:=HJ5.out;first|omega|exact Nat.le_refl _⟩,⟨gB⟩,⟨fI⟩,⟨iT⟩⟩
    rw [if_neg qc] at H
    have j8:(j4 == 4)=false:=beq_eq_false_iff_ne.mpr qc
    have qT:(j4 != 4)=true:=bne_iff_ne.mpr qc
    (first|rw [j8]|(simp only [dS,dV];rw [j8])|skip)
    by_cases qd:j4=5
    ·rw [if_pos qd] at H
     have qU:(j4 == 5)=true:=beq_iff_eq.mpr qd
     have qV:(j4 != 5)=false:=bne_eq_false_iff_eq.mpr qd
     clear qd
     have H':=am H
     clear H
     go_wp2
     go_meet
     case rel=>exact ⟨_,((j4 == 5)),sd_,H',⟨by have:=HJ5.out;first|omega|exact Nat.le_refl _⟩,⟨gB⟩,⟨fI⟩,⟨iT⟩⟩
    rw [if_neg qd] at H
    have qU:(j4 == 5)=false:=beq_eq_false_iff_ne.mpr qd
    have qV:(j4 != 5)=true:=bne_iff_ne.mpr qd
    have H':=am H
    clear H
    go_wp2
    go_meet
    case rel=>exact ⟨_,((j4 == 6)),sd_,H',⟨by have:=HJ5.out;first|omega|exact Nat.le_refl _⟩,⟨gB⟩,⟨fI⟩,⟨iT⟩⟩
   case rest=>
    clear qb
    try clear c9
    try clear jL
    try clear jE
    try clear jF
    try clear jM
    try clear jG
    try clear jH
    obtain ⟨kq,j6,rfl,HA,HJ45,HI0,HK,HB⟩:=hcut
    cases kq with
    |zero=>exact absurd HA.out (by simp [bF.j2])
    |succ qe=>
     have H:=HA.out
     clear HA
     simp only [bF.j2] at H
     by_cases zj:j6=true
     ·subst zj
      rw [if_pos rfl] at H
      obtain ⟨⟨ji,jj,jk,jl,jm,jn,jo,jp,qW⟩,qX,H⟩:=bsm H
      (try dsimp only at H)
      have J8:=am qX
      clear qX
      obtain ⟨zB,hy_⟩:∃ y_:List (S35),y_=(([(⟨ji,jj,jk,(⟨jl,jm,jn⟩:S32),jo,jp⟩:S35)]:List (S35))):=⟨_,rfl⟩
      replace H:(some (zB,qW))=some (r1,r2):=rx_
      have jQ:=am hy_
      clear hy_
      simp only [Option.some.injEq,Prod.mk.injEq] at H
      obtain ⟨rfl,rfl⟩:=H
      go_wp2_with (first|((with_reducible refine aN (f:=105) rfl ?_);refine gl_ 44 Try.func105 #[.pointer (some ⟨g,0,none⟩), .int .i64 a1] ?_;(with_reducible refine (gU.calls qe g j3 ja a1 ji jj jk jl jm jn jo jp qW w0 _ ?side1 ?side2 J8.out).mono ?_);(case side1=>exact gB);(case side2=>exact iT);rintro e J9 ⟨qY,qZ,z0,rfl,ho0,ho1,ho2,hi,hb,hk⟩;refine ⟨_,rfl,?_⟩;have jz:=am (Kd.dH (Kd.aD (ok':=fun k_=>(w.heap.size≤k_)∧some k_≠(qZ:Value).ownBlock∧some k_≠(z0:Value).ownBlock∧k_≠g) ho0 (fun k_ hk_=>⟨(Nat.le_trans (aW (w:=w) (g:=g) (row:=none) fI) hk_.1),hk_.2.1,hk_.2.2,(aQ.fresh gB k_ hk_.1)⟩)) (aW (w:=w) (g:=g) (row:=none) fI));have jA:=am (Kd.dH (Kd.aD (ok':=fun k_=>(w.heap.size≤k_)∧some k_≠(qY:Value).ownBlock∧some k_≠(z0:Value).ownBlock∧k_≠g) ho1 (fun k_ hk_=>⟨(Nat.le_trans (aW (w:=w) (g:=g) (row:=none) fI) hk_.1),hk_.2.1,hk_.2.2,(aQ.fresh gB k_ hk_.1)⟩)) (aW (w:=w) (g:=g) (row:=none) fI));have jB:=am (Kd.dH (Kd.aD (ok':=fun k_=>(w.heap.size≤k_)∧some k_≠(qY:Value).ownBlock∧some k_≠(qZ:Value).ownBlock∧k_≠g) ho2 (fun k_ hk_=>⟨(Nat.le_trans (aW (w:=w) (g:=g) (row:=none) fI) hk_.1),hk_.2.1,hk_.2.2,(aQ.fresh gB k_ hk_.1)⟩)) (aW (w:=w) (g:=g) (row:=none) fI));replace HK:=am (aI.trans fI hk (.inl rfl));replace HB:=am (hb);replace HI0:=am (hi);(try clear hb);(try clear hk);(try clear hi);(try clear ho0);(try clear ho1);(try clear ho2);obtain ⟨z1,z2,zC⟩:=Kd.dD jz.out;subst zC;obtain ⟨z3,z4,zD⟩:=Kd.dD jA.out;subst zD;obtain ⟨z5,z6,zE⟩:=Kd.dD jB.out;subst zE)|((with_reducible refine bQ (N:=45) rfl ?_);refine Kd.oQ k35 _ 35 rfl (N':=45) rfl (xs:=([(⟨ji,jj,jk,(⟨jl,jm,jn⟩:S32),jo,jp⟩:S35)]:List (S35))) (inner:=[.int .i64 ji, .int .i64 jj, .int .i64 jk, .int .i64 jl, .int .i64 jm, .slice z1 jn.length z2, .slice z3 jo.length z4, .slice z5 jp.length z6]) (ok:=(fun k_=>(w.heap.size≤k_)∧k_≠g)) (okp:=(fun k_=>(w.heap.size≤k_)∧k_≠g)) rn_ ?hp (fun _ hk=>hk) ((show ∀ k_,J9.heap.size≤k_→(fun k_=>(w.heap.size≤k_)∧k_≠g) k_ from fun k_ hk=>⟨(Nat.le_trans (aW (w:=w) (g:=g) (row:=none) fI) hk),aQ.fresh gB k_ hk⟩) _ (Nat.le_refl _)) (Below.refl _ _) (Nat.le_refl _) (by simp) ?_;(case hp=>exact (eY.c8 (show Kd.FK k35 _ _ (⟨ji,jj,jk,(⟨jl,jm,jn⟩:S32),jo,jp⟩:S35) [.int .i64 ji, .int .i64 jj, .int .i64 jk, .int .i64 jl, .int .i64 jm, .slice z1 jn.length z2, .slice z3 jo.length z4, .slice z5 jp.length z6] from (kY _ _ (⟨ji,jj,jk,(⟨jl,jm,jn⟩:S32),jo,jp⟩:S35) (Kd.bN (Kd.aD (ok':=(fun k_=>(w.heap.size≤k_)∧k_≠g)) (jz.out) (fun k_ hk=>⟨hk.1,hk.2.2.2⟩))).2.1 (Kd.N_F (Kd.aD (ok':=(fun k_=>(w.heap.size≤k_)∧k_≠g)) (jz.out) (fun k_ hk=>⟨hk.1,hk.2.2.2⟩))) (Kd.bN (Kd.aD (ok':=(fun k_=>(w.heap.size≤k_)∧k_≠g)) (jA.out) (fun k_ hk=>⟨hk.1,hk.2.2.2⟩))).2.1 (Kd.N_F (Kd.aD (ok':=(fun k_=>(w.heap.size≤k_)∧k_≠g)) (jA.out) (fun k_ hk=>⟨hk.1,hk.2.2.2⟩))) (Kd.bN (Kd.aD (ok':=(fun k_=>(w.heap.size≤k_)∧k_≠g)) (jB.out) (fun k_ hk=>⟨hk.1,hk.2.2.2⟩))).2.1 (Kd.N_F (Kd.aD (ok':=(fun k_=>(w.heap.size≤k_)∧k_≠g)) (jB.out) (fun k_ hk=>⟨hk.1,hk.2.2.2⟩))))) (eY.none _ _)));intro Ja Jp ho56 hb hg_ hnew_;clear hg_ hnew_;(first|rw [← jQ.out] at ho56|(simp only [Int.reduceToNat] at ho56;rw [← jQ.out] at ho56));have z7:=am (Kd.dH ho56 (aW (w:=w) (g:=g) (row:=none) fI));replace HK:=am (aI.trans fI (aI.of_below hb g none) (.inl rfl));replace HB:=am (aG iT hb);replace HI0:=am (aQ.below gB hb);clear jz jA jB hb ho56))
      go_ret
      exact ⟨_,iM,eO (Kd.aD z7.out (fun _ hk=>hk.1)),gB,iT,fI⟩
     replace zj:=Bool.eq_false_iff.mpr zj
     subst zj
     rw [if_neg (show ¬ (false=true) by decide)] at H
     by_cases qf:j4=7
     ·rw [if_pos qf] at H
      have z8:(j4 == 7)=true:=beq_iff_eq.mpr qf
      have z9:(j4 != 7)=false:=bne_eq_false_iff_eq.mpr qf
      clear qf
      obtain ⟨zF,hy_⟩:∃ y_:List (S35),y_=(([(⟨6,0,0,(⟨0,0,([]:List (S32))⟩:S32),([]:List (S35)),([]:List (S35))⟩:S35)]:List (S35))):=⟨_,rfl⟩
      replace H:(some (zF,ja))=some (r1,r2):=rx_
      have jR:=am hy_
      clear hy_
      simp only [Option.some.injEq,Prod.mk.injEq] at H
      obtain ⟨rfl,rfl⟩:=H
      go_wp2_with (first|((with_reducible refine bQ (N:=49) rfl ?_);refine Kd.oQ k35 _ 35 rfl (N':=49) rfl (xs:=([(⟨6,0,0,(⟨0,0,([]:List (S32))⟩:S32),([]:List (S35)),([]:List (S35))⟩:S35)]:List (S35))) (inner:=[.int .i64 6, .int .i64 0, .int .i64 0, .int .i64 0, .int .i64 0, .slice none 0 0, .slice none 0 0, .slice none 0 0]) (ok:=(fun k_=>(w.heap.size≤k_)∧k_≠g)) (okp:=(fun k_=>(w.heap.size≤k_)∧k_≠g)) rn_ ?hp (fun _ hk=>hk) ((show ∀ k_,wc.heap.size≤k_→(fun k_=>(w.heap.size≤k_)∧k_≠g) k_ from fun k_ hk=>⟨(Nat.le_trans (aW (w:=w) (g:=g) (row:=none) fI) hk),aQ.fresh gB k_ hk⟩) _ (Nat.le_refl _)) (Below.refl _ _) (Nat.le_refl _) (by simp) ?_;(case hp=>exact (eY.c8 (show Kd.FK k35 _ _ (⟨6,0,0,(⟨0,0,([]:List (S32))⟩:S32),([]:List (S35)),([]:List (S35))⟩:S35) [.int .i64 6, .int .i64 0, .int .i64 0, .int .i64 0, .int .i64 0, .slice none 0 0, .slice none 0 0, .slice none 0 0] from (kY _ _ (⟨6,0,0,(⟨0,0,([]:List (S32))⟩:S32),([]:List (S35)),([]:List (S35))⟩:S35) (Nat.le_refl _) (Kd.mU _ _ _) (Nat.le_refl _) (Kd.mU _ _ _) (Nat.le_refl _) (Kd.mU _ _ _))) (eY.none _ _)));intro Jb Jq ho59 hb hg_ hnew_;clear hg_ hnew_;(first|rw [← jR.out] at ho59|(simp only [Int.reduceToNat] at ho59;rw [← jR.out] at ho59));have za:=am (Kd.dH ho59 (aW (w:=w) (g:=g) (row:=none) fI));replace HK:=am (aI.trans fI (aI.of_below hb g none) (.inl rfl));replace HB:=am (aG iT hb);replace HI0:=am (aQ.below gB hb);clear hb ho59))
      go_ret
      exact ⟨_,iM,eO (Kd.aD za.out (fun _ hk=>hk.1)),gB,iT,fI⟩
     rw [if_neg qf] at H
     have z8:(j4 == 7)=false:=beq_eq_false_iff_ne.mpr qf
     have z9:(j4 != 7)=true:=bne_iff_ne.mpr qf
     obtain ⟨⟨qg,zb⟩,zc,H⟩:=bsm H
     (try dsimp only at H)
     have Jc:=am zc
     clear zc
     obtain ⟨⟨jq,jr,js,zd⟩,ze,H⟩:=bsm H
     (try dsimp only at H)
     have Jd:=am ze
     clear ze
     obtain ⟨zG,hy_⟩:∃ y_:List (S35),y_=(([(⟨7,0,0,(⟨jq,jr,js⟩:S32),([]:List (S35)),([]:List (S35))⟩:S35)]:List (S35))):=⟨_,rfl⟩
     replace H:(some (zG,zd))=some (r1,r2):=rx_
     have jS:=am hy_
     clear hy_
     simp only [Option.some.injEq,Prod.mk.injEq] at H
     obtain ⟨rfl,rfl⟩:=H
     go_wp2_with (first|((with_reducible refine aN (f:=41) rfl ?_);refine gl_ 52 Try.func41 #[.pointer (some ⟨g,0,none⟩), .int .i64 3] ?_;(with_reducible refine (aH.calls qe g j3 ja 3 qg zb w0 _ ?side1 ?side2 Jc.out).mono ?_);(case side1=>exact gB);(case side2=>exact iT);rintro e Jr ⟨rfl,hi,hb,hk⟩;refine ⟨_,rfl,?_⟩;replace HK:=am (aI.trans fI hk (.inl rfl));replace HB:=am (hb);replace HI0:=am (hi);(try clear hb);(try clear hk);(try clear hi))|((with_reducible refine aN (f:=76) rfl ?_);refine gl_ 54 Try.func76 #[.pointer (some ⟨g,0,none⟩), .int .i64 (wrap64 (1 + qg))] ?_;(with_reducible refine (bI.calls qe g j3 zb (wrap64 (1 + qg)) jq jr js zd w0 _ ?side1 ?side2 Jd.out).mono ?_);(case side1=>exact gB);(case side2=>exact iT);rintro e Je ⟨Jf,rfl,ho0,hi,hb,hk⟩;refine ⟨_,rfl,?_⟩;have jC:=am (Kd.dH (Kd.aD (ok':=fun k_=>(w.heap.size≤k_)∧k_≠g) ho0 (fun k_ hk_=>⟨(Nat.le_trans (aW (w:=w) (g:=g) (row:=none) fI) hk_),(aQ.fresh gB k_ hk_)⟩)) (aW (w:=w) (g:=g) (row:=none) fI));replace HK:=am (aI.trans fI hk (.inl rfl));replace HB:=am (hb);replace HI0:=am (hi);(try clear hb);(try clear hk);(try clear hi);(try clear ho0);obtain ⟨zf,zg,zH⟩:=Kd.dD jC.out;subst zH)|((with_reducible refine bQ (N:=56) rfl ?_);refine Kd.oQ k35 _ 35 rfl (N':=56) rfl (xs:=([(⟨7,0,0,(⟨jq,jr,js⟩:S32),([]:List (S35)),([]:List (S35))⟩:S35)]:List (S35))) (inner:=[.int .i64 7, .int .i64 0, .int .i64 0, .int .i64 jq, .int .i64 jr, .slice zf js.length zg, .slice none 0 0, .slice none 0 0]) (ok:=(fun k_=>(w.heap.size≤k_)∧k_≠g)) (okp:=(fun k_=>(w.heap.size≤k_)∧k_≠g)) rn_ ?hp (fun _ hk=>hk) ((show ∀ k_,Je.heap.size≤k_→(fun k_=>(w.heap.size≤k_)∧k_≠g) k_ from fun k_ hk=>⟨(Nat.le_trans (aW (w:=w) (g:=g) (row:=none) fI) hk),aQ.fresh gB k_ hk⟩) _ (Nat.le_refl _)) (Below.refl _ _) (Nat.le_refl _) (by simp) ?_;(case hp=>exact (eY.c8 (show Kd.FK k35 _ _ (⟨7,0,0,(⟨jq,jr,js⟩:S32),([]:List (S35)),([]:List (S35))⟩:S35) [.int .i64 7, .int .i64 0, .int .i64 0, .int .i64 jq, .int .i64 jr, .slice zf js.length zg, .slice none 0 0, .slice none 0 0] from (kY _ _ (⟨7,0,0,(⟨jq,jr,js⟩:S32),([]:List (S35)),([]:List (S35))⟩:S35) (Kd.bN (Kd.aD (ok':=(fun k_=>(w.heap.size≤k_)∧k_≠g)) (jC.out) (fun k_ hk=>⟨hk.1,hk.2⟩))).2.1 (Kd.N_F (Kd.aD (ok':=(fun k_=>(w.heap.size≤k_)∧k_≠g)) (jC.out) (fun k_ hk=>⟨hk.1,hk.2⟩))) (Nat.le_refl _) (Kd.mU _ _ _) (Nat.le_refl _) (Kd.mU _ _ _))) (eY.none _ _)));intro Jg Js ho66 hb hg_ hnew_;clear hg_ hnew_;(first|rw [← jS.out] at ho66|(simp only [Int.reduceToNat] at ho66;rw [← jS.out] at ho66));have zh:=am (Kd.dH ho66 (aW (w:=w) (g:=g) (row:=none) fI));replace HK:=am (aI.trans fI (aI.of_below hb g none) (.inl rfl));replace HB:=am (aG iT hb);replace HI0:=am (aQ.below gB hb);clear jC hb ho66))
     go_ret
     exact ⟨_,iM,eO (Kd.aD zh.out (fun _ hk=>hk.1)),gB,iT,fI⟩
end Go.Proofs.Ytodhbeeibagiaaa.PA

