/- Part 2. -/
import Derived.Test.YthiegfpcfedbgaaQFnExactExprFold0
import Derived.Test.YthiegfpcfedbgaaProg
import Derived.Below
import Derived.Deep.Draws
import Derived.Deep.AppendLies
import Derived.Maps.AppendAt
import Derived.OwnWalk
import Derived.Laws.BytesArg
import Derived.Laws.MakeOwn
import Derived.Laws.OwnMore
import Derived.Deep.OwnRows
import Derived.Tactics
import Derived.Lib.ConvBytes
import Derived.Laws.Slices
import Derived.WalkKit
import Derived.KernelRfl
import Derived.RowKit3
import Derived.Deep.LoopGhost
import Derived.Deep.QuietTactic
import Derived.BigQuiet
import Derived.WideLaws
import Derived.Deep.DeepCutAuto
import Derived.Deep.CutBlock
import Derived.Deep.RegionHeld3
import Derived.Laws.Rows
import Derived.Lib.AppendStr
import Derived.ArgAppend
import Derived.Laws.IdiomCopy
import Derived.OrdersHeld
import Derived.Laws.BitsLemmas
import Derived.RowKit
import Derived.Lib.SliceRun
import Derived.Deep.Slices
import Derived.ChangeArms
import Derived.ChangeSame
import Derived.WideShapes
set_option maxHeartbeats 8000000
set_option maxRecDepth 100000
namespace Go.Proofs.Ythiegfpcfedbgaa.PA
open Go.RowKit Go.Proofs.YthiegfpcfedbgaaW.PrintWords Go.Proofs.YthiegfpcfedbgaaW.PrintLast Go.Proofs.YthiegfpcfedbgaaW.PrintMore
attribute [local go_sem] max2_int min2_int max_two min_two max_three min_three max_four min_four
set_option linter.unusedVariables false
set_option linter.unusedSimpArgs false
def CZ:Option Int→Value
 |none=> .nilIface
 |some c=> .iface 0 (.int .i64 c)
theorem lQ:CZ none= .nilIface:=rfl
theorem lS (c:Int):CZ (some c)= .iface 0 (.int .i64 c):=rfl
theorem BR:(Try.prog.info? 28).map (fun i=>(i.zero,i.size,i.bytes))=some (some (.agg #[(.int .i64 0),(.int .i64 0),(.slice none 0 0)]),3,40):=by kernel_rfl
structure S24 where
 f0:Int
 f1:Int
 f2:(List S24)
def z24:S24:=⟨(0:Int),(0:Int),([]:List S24)⟩
def F24 (d:Kd S24):Kd S24:=Kd.iso (Kd.pair (Kd.int .i64) (Kd.pair (Kd.int .i64) (Kd.slice 24 d))) (fun x:S24=>(x.f0,x.f1,x.f2))
theorem mono24:Kd.kE F24:=Kd.mono_iso _ (Kd.mono_pair (Kd.mono_const _) (Kd.mono_pair (Kd.mono_const _) (Kd.mono_slice 24 Kd.mono_id)))
theorem DL:Kd.Sub F24 [24]:=Kd.sW _ (Kd.kJ (Kd.sub_const _ (by decide)) (Kd.kJ (Kd.sub_const _ (by decide)) (Kd.rM 24 (by decide) Kd.vJ)))
theorem DR:∀ n,(Kd.upto F24 3 [24] n).sz=3:=Kd.tC (fun _=>rfl)
def k24:Kd S24:=Kd.fix F24 3 [24] DR (Kd.sZ DL)
theorem xD {w:World} {x:S24} {cs:List Value} (h:k24.K w x cs):∃ A2 c2,cs=[.int .i64 x.f0, .int .i64 x.f1, .slice A2 x.f2.length c2]∧x.f2.length≤c2∧k24.C w A2 x.f2.length x.f2:=by
 obtain ⟨n,h⟩:=h
 cases n with
 |zero=>exact h.elim
 |succ n=>
  obtain ⟨_,_,rfl,rfl,⟨_,_,rfl,rfl,⟨A2,c2,rfl,l2,g2⟩⟩⟩:=h
  exact ⟨A2,c2,rfl,l2,Kd.AJ g2⟩
theorem BS (w:World) (x:S24) {A2:Option Addr} {c2:Nat} (l2:x.f2.length≤c2) (g2:k24.C w A2 x.f2.length x.f2):k24.K w x [.int .i64 x.f0, .int .i64 x.f1, .slice A2 x.f2.length c2]:=by
 obtain ⟨n2,q2⟩:=Kd.oN mono24 g2
 have r2:=Kd.rO mono24 DR (show n2≤n2 by omega) q2
 exact ⟨n2 + 1,⟨[.int .i64 x.f0],[.int .i64 x.f1, .slice A2 x.f2.length c2],rfl,rfl,⟨[.int .i64 x.f1],[.slice A2 x.f2.length c2],rfl,rfl,⟨A2,c2,rfl,l2,r2⟩⟩⟩⟩
def cO (xs:List S24) (i:Int):S24:=xs.getD i.toNat z24
theorem uV {w:World} {A:Option Addr} {n:Nat} {xs:List S24} (h:Kd.C k24 w A n xs) (i:Int) (h0:0≤i) (h1:i < n):∃ ad A2 c2,A=some ad∧w.cell? (ad.add (i.toNat * 3))=some (.int .i64 (cO xs i).f0)∧w.cell? ⟨(ad.add (i.toNat * 3)).block,(ad.add (i.toNat * 3)).off + 1,none⟩=some (.int .i64 (cO xs i).f1)∧w.cell? ⟨(ad.add (i.toNat * 3)).block,(ad.add (i.toNat * 3)).off + 2,none⟩=some (.slice A2 (cO xs i).f2.length c2)∧(cO xs i).f2.length≤c2∧k24.C w A2 (cO xs i).f2.length (cO xs i).f2:=by
 obtain ⟨ad,c,e,_,hK,hc0⟩:=Kd.yX h z24 i h0 h1
 have hc:∀ j u,c[j]?=some u→w.cell? (ad.add (i.toNat * 3 + j))=some u:=hc0
 obtain ⟨A2,c2,rfl,l2,g2⟩:=xD hK
 exact ⟨ad,A2,c2,e,hc 0 _ rfl,by rw [← lI _ _ 1 (by omega)];exact hc 1 _ rfl,by rw [← lI _ _ 2 (by omega)];exact hc 2 _ rfl,l2,g2⟩
structure S28 where
 f0:Int
 f1:Int
 f2:(List S28)
def z28:S28:=⟨(0:Int),(0:Int),([]:List S28)⟩
def F28 (d:Kd S28):Kd S28:=Kd.iso (Kd.pair (Kd.int .i64) (Kd.pair (Kd.int .i64) (Kd.slice 28 d))) (fun x:S28=>(x.f0,x.f1,x.f2))
theorem mono28:Kd.kE F28:=Kd.mono_iso _ (Kd.mono_pair (Kd.mono_const _) (Kd.mono_pair (Kd.mono_const _) (Kd.mono_slice 28 Kd.mono_id)))
theorem DN:Kd.Sub F28 [28]:=Kd.sW _ (Kd.kJ (Kd.sub_const _ (by decide)) (Kd.kJ (Kd.sub_const _ (by decide)) (Kd.rM 28 (by decide) Kd.vJ)))
theorem CF:∀ n,(Kd.upto F28 3 [28] n).sz=3:=Kd.tC (fun _=>rfl)
def k28:Kd S28:=Kd.fix F28 3 [28] CF (Kd.sZ DN)
theorem xE {w:World} {x:S28} {cs:List Value} (h:k28.K w x cs):∃ A2 c2,cs=[.int .i64 x.f0, .int .i64 x.f1, .slice A2 x.f2.length c2]∧x.f2.length≤c2∧k28.C w A2 x.f2.length x.f2:=by
 obtain ⟨n,h⟩:=h
 cases n with
 |zero=>exact h.elim
 |succ n=>
  obtain ⟨_,_,rfl,rfl,⟨_,_,rfl,rfl,⟨A2,c2,rfl,l2,g2⟩⟩⟩:=h
  exact ⟨A2,c2,rfl,l2,Kd.AJ g2⟩
theorem BU (w:World) (x:S28) {A2:Option Addr} {c2:Nat} (l2:x.f2.length≤c2) (g2:k28.C w A2 x.f2.length x.f2):k28.K w x [.int .i64 x.f0, .int .i64 x.f1, .slice A2 x.f2.length c2]:=by
 obtain ⟨n2,q2⟩:=Kd.oN mono28 g2
 have r2:=Kd.rO mono28 CF (show n2≤n2 by omega) q2
 exact ⟨n2 + 1,⟨[.int .i64 x.f0],[.int .i64 x.f1, .slice A2 x.f2.length c2],rfl,rfl,⟨[.int .i64 x.f1],[.slice A2 x.f2.length c2],rfl,rfl,⟨A2,c2,rfl,l2,r2⟩⟩⟩⟩
theorem wE (W:World) (ok:Nat→Prop) (x:S28) {A2:Option Addr} {c2:Nat} (l2:x.f2.length≤c2) (g2:Kd.F k28 W ok A2 x.f2.length x.f2):Kd.FK k28 W ok x [.int .i64 x.f0, .int .i64 x.f1, .slice A2 x.f2.length c2]:=fun W2 hW=>BU W2 x l2 (g2 W2 hW)
def aH (xs:List S28) (i:Int):S28:=xs.getD i.toNat z28
theorem dU {w:World} {A:Option Addr} {n:Nat} {xs:List S28} (h:Kd.C k28 w A n xs) (i:Int) (h0:0≤i) (h1:i < n):∃ ad A2 c2,A=some ad∧w.cell? (ad.add (i.toNat * 3))=some (.int .i64 (aH xs i).f0)∧w.cell? ⟨(ad.add (i.toNat * 3)).block,(ad.add (i.toNat * 3)).off + 1,none⟩=some (.int .i64 (aH xs i).f1)∧w.cell? ⟨(ad.add (i.toNat * 3)).block,(ad.add (i.toNat * 3)).off + 2,none⟩=some (.slice A2 (aH xs i).f2.length c2)∧(aH xs i).f2.length≤c2∧k28.C w A2 (aH xs i).f2.length (aH xs i).f2:=by
 obtain ⟨ad,c,e,_,hK,hc0⟩:=Kd.yX h z28 i h0 h1
 have hc:∀ j u,c[j]?=some u→w.cell? (ad.add (i.toNat * 3 + j))=some u:=hc0
 obtain ⟨A2,c2,rfl,l2,g2⟩:=xE hK
 exact ⟨ad,A2,c2,e,hc 0 _ rfl,by rw [← lI _ _ 1 (by omega)];exact hc 1 _ rfl,by rw [← lI _ _ 2 (by omega)];exact hc 2 _ rfl,l2,g2⟩
structure S66 where
 f0:Int
 f1:Int
 f2:Int
 f3:S24
 f4:(List S66)
 f5:(List S66)
def z66:S66:=⟨(0:Int),(0:Int),(0:Int),z24,([]:List S66),([]:List S66)⟩
def kP (xs:List S66) (i:Int):S66:=xs.getD i.toNat z66
structure S70 where
 f0:Int
 f1:Int
 f2:Int
 f3:S28
 f4:(List S70)
 f5:(List S70)
def z70:S70:=⟨(0:Int),(0:Int),(0:Int),z28,([]:List S70),([]:List S70)⟩
def aN (xs:List S70) (i:Int):S70:=xs.getD i.toNat z70
def mZ (xs:List (List S70)) (i:Int):(List S70):=xs.getD i.toNat ([]:List S70)
def AX (xs:List (List S66)) (i:Int):(List S66):=xs.getD i.toNat ([]:List S66)
theorem dO {p:Prop} (h:p:=by repeat (first|(with_reducible first|exact HB.out|apply bB|apply bE|apply bO)|exact HB.out)):p:=h
theorem bY {p:Prop} (h:p:=by (try simp only [List.map_toArray,List.map_cons,List.map_nil]);first|done|rfl|(simp only [List.length_drop,List.length_take];rfl)):p:=h
theorem dD {p:Prop} (h:p:=by repeat (first|exact dK.refl _|apply dK.step)):p:=h
theorem iR {p:Prop} (h:p:=by repeat (first|(with_reducible first|exact HB.out|apply bB|apply bE|apply bO|refine below_set ?_ GE23.out)|exact HB.out)):p:=h
theorem kX {p:Prop} (h:p:=by repeat (first|(with_reducible first|exact HB.out|apply bB|apply bE|apply bO|refine below_set ?_ GE94.out|refine below_set ?_ GE95.out|refine below_set ?_ GE107.out|refine below_set ?_ GE111.out)|exact HB.out)):p:=h
theorem vX {p:Prop} (h:p:=by repeat (first|(with_reducible first|exact HB.out|apply bB|apply bE|apply bO|refine below_set ?_ GE22.out)|exact HB.out)):p:=h
theorem iV {p:Prop} (h:p:=by repeat (first|(with_reducible first|exact HB.out|apply bB|apply bE|apply bO|refine below_set ?_ GE21.out)|exact HB.out)):p:=h
theorem oL {p:Prop} (h:p:=by repeat (first|(with_reducible first|exact HB.out|apply bB|apply bE|apply bO|refine below_set ?_ GE23.out|refine below_set ?_ GE24.out)|exact HB.out)):p:=h
theorem iM {p:Prop} (h:p:=by repeat (first|(with_reducible first|exact HB.out|apply bB|apply bE|apply bO|refine below_set ?_ GE44.out)|exact HB.out)):p:=h
theorem nQ {p:Prop} (h:p:=by first|rfl|(simp [lQ,lS] <;> rfl)|(simp [*,lQ,lS] <;> rfl)):p:=h
theorem lZ {p:Prop} (h:p:=by repeat (first|(with_reducible first|exact HB.out|apply bB|apply bE|apply bO|refine below_set ?_ GE94.out|refine below_set ?_ GE95.out)|exact HB.out)):p:=h
theorem mQ {p:Prop} (h:p:=by repeat (first|(with_reducible first|exact HB.out|apply bB|apply bE|apply bO|refine below_set ?_ GE21.out|refine below_set ?_ GE22.out)|exact HB.out)):p:=h
theorem oM {p:Prop} (h:p:=by repeat (first|(with_reducible first|exact HB.out|apply bB|apply bE|apply bO|refine below_set ?_ GE94.out|refine below_set ?_ GE95.out|refine below_set ?_ GE107.out)|exact HB.out)):p:=h
theorem pX {p:Prop} (h:p:=by repeat (first|(with_reducible first|exact HB.out|apply bB|apply bE|apply bO|refine below_set ?_ GE94.out)|exact HB.out)):p:=h
theorem vY {p:Prop} (h:p:=by repeat (first|(with_reducible first|exact HB.out|apply bB|apply bE|apply bO|refine below_set ?_ GE21.out|refine below_set ?_ GE22.out|refine below_set ?_ GE23.out)|exact HB.out)):p:=h
theorem aN_ {p q:Prop} (x:q) (h:q→p:=by intro hx_;(with_reducible repeat (first|apply Kd.vS|apply Kd.vT|apply Kd.uS));exact hx_):p:=h x
theorem aG_ {p q:Prop} (x:q) (h:q→p:=by intro hx_;(with_reducible repeat (first|refine lK ?_ _|refine fG ?_|refine lJ ?_ _));exact hx_):p:=h x
theorem rr_ {p:Prop} (h:p:=by first|rfl|(simp [lQ,lS] <;> rfl)|(simp [*,lQ,lS] <;> rfl)):p:=h
theorem bsm {α β:Type} {o:Option α} {f:α→Option β} {b:β} (h:o.bind f=some b):∃ a,o=some a∧f a=some b:=Option.bind_eq_some_iff.mp h
theorem am {p:Prop} (h:p):Aside0 p:=⟨h⟩
theorem iG {w:World} {g:Nat} {t:TypeId} {x0:Value} (h:w.heap[g]?=some (.cells #[x0] t (0,0))):w.cell? ⟨g,0,none⟩=some x0∧w.frozen? ⟨g,0,none⟩=false:=⟨(aA h 0).trans rfl,aD h 0⟩
theorem bQ {w:World} {g:Nat} {t:TypeId} {x0 x1 x2:Value} (h:w.heap[g]?=some (.cells #[x0,x1,x2] t (0,0))):w.cell? ⟨g,0,none⟩=some x0∧w.cell? ⟨g,1,none⟩=some x1∧w.cell? ⟨g,2,none⟩=some x2∧w.frozen? ⟨g,0,none⟩=false∧w.frozen? ⟨g,1,none⟩=false∧w.frozen? ⟨g,2,none⟩=false:=⟨(aA h 0).trans rfl,(aA h 1).trans rfl,(aA h 2).trans rfl,aD h 0,aD h 1,aD h 2⟩
theorem gL {W0 W W1:World} {g:Nat} {o:Obj} (x:W0.heap[g]?=some o) (hb:Below W.heap.size W W1) (h:W0.heap[g]?=some o→W.heap[g]?=some o:=by intro hx_;(with_reducible repeat (first|refine lK ?_ _|refine fG ?_|refine lJ ?_ _));exact hx_):W1.heap[g]?=some o:=aB (h x) hb
theorem bbP {W0 W W1:World} {g:Nat} {o:Obj} (x:Aside0 (W0.heap[g]?=some o)) (hb:Below W.heap.size W W1) (h:W0.heap[g]?=some o→W.heap[g]?=some o:=by intro hx_;(with_reducible repeat (first|refine lK ?_ _|refine fG ?_|refine lJ ?_ _));exact hx_):Aside0 (W1.heap[g]?=some o):=⟨aB (h x.out) hb⟩
theorem pK {W0 W:World} {g:Nat} {o:Obj} (x:W0.heap[g]?=some o) (h:W0.heap[g]?=some o→W.heap[g]?=some o:=by intro hx_;(with_reducible repeat (first|refine lK ?_ _|refine fG ?_|refine lJ ?_ _));exact hx_):g < W.heap.size:=bG (h x)
theorem xC {W0 W:World} {g:Nat} {o:Obj} (x:W0.heap[g]?=some o) (k:Nat) (hk:W.heap.size≤k) (h:W0.heap[g]?=some o→W.heap[g]?=some o:=by intro hx_;(with_reducible repeat (first|refine lK ?_ _|refine fG ?_|refine lJ ?_ _));exact hx_):k≠g:=Kd.eB (h x) k hk
theorem aC_ {p q:Prop} (x:q) (h:q→p:=by intro hx_;repeat (first|exact hx_|(with_reducible refine Kd.xY ?_ _)|(with_reducible refine Kd.xZ ?_ _)|(with_reducible refine Kd.BA ?_))):p:=h x
theorem rn_ {p:Prop} (h:p:=by first|(go_simp;done)|(go_simp;rfl)):p:=h
theorem sd_ {p:Prop} (h:p:=by first|rfl|(simp;done)|(simp [*];done)):p:=h
theorem eT {p:Prop} (h:p:=by first|(with_reducible assumption)|assumption):p:=h
theorem nb_ {p q:Prop} (x:q) (h:q→p:=by intro hx_;first|(rw [add_block];exact hx_)|(show (Addr.add _ _).block≠_;rw [add_block];exact hx_)|exact hx_):p:=h x
theorem pr_ (i N:Nat) (l':Array Bool) {P:Program} {md:Region.Mode} {ops:Array Oper} {Q:Exit→Act→World→Prop} {S:World→Prop} {ds:List Nat} {oi:Oper} {v:Value} {fuel:Nat} {l:Array Bool} {a a':Act} {w:World} {T:Bool × List (List Nat × List Nat)} (HT:Aside0 (iF md ops=T)) (h:bC P md ops Q S ds fuel l' a' w) (hi:ops[i]?=some oi:=by rfl) (hN:oi.dst=some N:=by rfl) (hc:BP T l.toList l'.toList i=true:=by kernel_rfl) (hQ:∀ c a w,Q (.panic c) (a.put oi.dst v) w→Q (.panic c) a w:=by exact fun _ _ _ h_=>h_) (hg:Region.wanted oi (yielded ops a.tmps)=true:=by rfl) (hy:∀ w,(execOp a.eval oi).run P w= .ok (.value v) w:=by (intro w';go_simp;with_reducible rfl)) (ha:a.put (some N) v=a':=by first|(simp only [Act.put,List.setIfInBounds_toArray,List.set_cons_zero,List.set_cons_succ,fT,iH];rfl)|rfl):bC P md ops Q S ds (fuel + 1) l a w:=DK l' hi hN (BQ HT.out hc) hQ (Or.inl ⟨hg,hy⟩) ha h
theorem yU (i N:Nat) (l':Array Bool) {P:Program} {md:Region.Mode} {ops:Array Oper} {Q:Exit→Act→World→Prop} {S:World→Prop} {ds:List Nat} {oi:Oper} {v:Value} {fuel:Nat} {l:Array Bool} {a a':Act} {w:World} {T:Bool × List (List Nat × List Nat)} {B:List Nat} (HT:Aside0 (iF md ops=T)) (HW:Aside0 (lX T.2 B=true)) (hS:S w) (h:bC P md ops Q S ds fuel l' a' w) (hi:ops[i]?=some oi:=by rfl) (hN:oi.dst=some N:=by rfl) (hc:xP T B ds l.toList l'.toList i=true:=by kernel_rfl) (hQ:∀ c a w,Q (.panic c) (a.put oi.dst v) w→Q (.panic c) a w:=by exact fun _ _ _ h_=>h_) (hg:Region.wanted oi (yielded ops a.tmps)=true:=by rfl) (hy:∀ w,S w→(execOp a.eval oi).run P w= .ok (.value v) w:=by (rintro w' ⟨s0,s1,s2,s3,s4,s5⟩;go_simp;with_reducible rfl)) (ha:a.put (some N) v=a':=by first|(simp only [Act.put,List.setIfInBounds_toArray,List.set_cons_zero,List.set_cons_succ,fT,iH];rfl)|rfl):bC P md ops Q S ds (fuel + 1) l a w:=xQ l' hi hN (xR HT.out HW.out hc) hQ (Or.inl ⟨hg,hy⟩) hS ha h
theorem nU {α:Type} {d:Kd α} {e:Nat} {W0 W:World} {base:Nat} {ok:Nat→Prop} {v:Value} {xs:List α} (x:Kd.N d e W0 base ok v xs) (h:Kd.N d e W0 base ok v xs→Kd.N d e W base ok v xs:=by intro hx_;(with_reducible repeat (first|apply Kd.vS|apply Kd.vT|apply Kd.uS));exact hx_):Kd.N d e W base ok v xs:=h x
theorem DV {α:Type} {d:Kd α} {e:Nat} {W0 W:World} {base:Nat} {ok:Nat→Prop} {v:Value} {xs:List α} (x:Kd.R d e W0 base ok v xs) (h:Kd.R d e W0 base ok v xs→Kd.R d e W base ok v xs:=by intro hx_;(with_reducible repeat (first|apply Kd.yI|apply Kd.yJ|apply Kd.BJ));exact hx_):Kd.R d e W base ok v xs:=h x
theorem ap_ {a a':Act} {v:Value} {N:Nat} (h:a.put (some N) v=a':=by first|(simp only [Act.put,List.setIfInBounds_toArray,List.set_cons_zero,List.set_cons_succ,fT,iH];rfl)|rfl):a.put (some N) v=a':=h
def bz (n m:Nat):Array Bool:=((List.range n).map (fun i=>m.testBit i)).toArray
theorem rx_ {p:Prop} (h:p:=by first|(rw [hy_];with_reducible exact H)|(have H2_:=(Option.bind_some _ _).symm.trans H;rw [hy_];with_reducible exact H2_)|(have H2_:=(Option.bind_some _ _).symm.trans H;with_reducible exact H2_)|with_reducible exact H|(rw [hy_];exact H)|exact H):p:=h
theorem bsa {α β:Type} {o:Option α} {f:α→Option β} {b:β} (h:o.bind f=some b):∃ a,Aside0 (o=some a)∧f a=some b:=by
 obtain ⟨a,h1,h2⟩:=Option.bind_eq_some_iff.mp h
 exact ⟨a,⟨h1⟩,h2⟩
theorem mo_ {p:Prop} (h:p:=by repeat' first|(with_reducible exact ih0 ..)|(with_reducible exact ih1 ..)|(with_reducible exact ih2 ..)|(with_reducible exact ih3 ..)|(with_reducible exact ih4 ..)|(with_reducible exact ih5 ..)|(with_reducible exact ih6 ..)|(with_reducible exact ih7 ..)|(with_reducible exact m0 ..)|(with_reducible exact m1 ..)|(with_reducible exact m2 ..)|(with_reducible exact m3 ..)|(with_reducible exact LeO.refl _)|(with_reducible exact LeO.none _)|(with_reducible refine LeO.ite ?_ ?_)|(with_reducible refine LeO.bind ?_ (fun _=>?_))):p:=h
mutual
def aL.l0:Nat→List (S24)→Int→Int→Option (Int)
 |0,_,_,_=>none
 |k + 1,x0,x1,x5=>if x5 < (x0.length:Int) then (if 0≤x5 then ((aT.f k ((cO x0 x5).f0) ((cO x0 x5).f1) ((cO x0 x5).f2) x1).bind fun t102=>(if t102 < 0 then (some (-1)) else (aL.l0 k x0 t102 (wrap64 (x5 + 1))))) else (none)) else (some x1)
def aL.f:Nat→List (S24)→Int→Option (Int)
 |0,_,_=>none
 |k + 1,l0,a1=>if (wrap64 (a1 - (l0.length:Int))) < 0 then (some (-1)) else (aL.l0 k l0 (wrap64 (a1 - (l0.length:Int))) 0)
def aT.f:Nat→Int→Int→List (S24)→Int→Option (Int)
 |0,_,_,_,_=>none
 |k + 1,a0_0,a0_1,l0_2,a1=>(aL.f k l0_2 a1).bind fun t104=>(if t104 < 0 then (some (-1)) else (some t104))
end
def bI.f (a0:Int) (a1:Int) (a2:Int):Option (Bool):=if a0≥a1 then (some (decide (a0≤a2))) else (some false)
def bP.f (a0:Int):Option (Bool):=(bI.f a0 1 12).bind fun t105=>(some t105)
def bH.f:Nat→Int→Int→List (S28)→Int→Option (Bool)
 |0,_,_,_,_=>none
 |k + 1,a0_0,a0_1,l0_2,a1=>if a1 < 1 then (some false) else (if a0_0=0 then ((bI.f a0_1 0 99999).bind fun t107=>(if t107=true then (some ((l0_2.length:Int) == 0)) else (some false))) else (if a0_0=13 then ((bI.f a0_1 0 3).bind fun t108=>(if t108=true then (some ((l0_2.length:Int) == 0)) else (some false))) else ((bP.f a0_0).bind fun t109=>(if t109=true then (if a0_1=0 then (if (l0_2.length:Int)=2 then (if 0 < (l0_2.length:Int) then ((bH.f k ((aH l0_2 0).f0) ((aH l0_2 0).f1) ((aH l0_2 0).f2) (wrap64 (a1 - 1))).bind fun t111=>(if t111=true then (if 1 < (l0_2.length:Int) then ((bH.f k ((aH l0_2 1).f0) ((aH l0_2 1).f1) ((aH l0_2 1).f2) (wrap64 (a1 - 1))).bind fun t113=>(some t113)) else (none)) else (some false))) else (none)) else (some false)) else (some false)) else (some false)))))
def bF.f (k:Nat) (a0_0:Int) (a0_1:Int) (l0_2:List (S28)):Option (Bool):=(bH.f k a0_0 a0_1 l0_2 5).bind fun t115=>(some t115)
def gB.f (a0:Int) (a1:Int):Option (Int × Int × (List (S28))):=some (a0,a1,(([]:List (S28))))
def dA.f (a0:Int):Option (Bool):=(bI.f a0 (-2147483648) 2147483647).bind fun t120=>(some t120)
def eG.f (a0:Bool):Option (Int):=if a0=true then (some 1) else (some 0)
def bW.f (a0:Int):Option (Int):=if (Int.tmod a0 4294967296) > 2147483647 then (some (wrap64 ((Int.tmod a0 4294967296) - 4294967296))) else (if (Int.tmod a0 4294967296) < (-2147483648) then (some (wrap64 ((Int.tmod a0 4294967296) + 4294967296))) else (some (Int.tmod a0 4294967296)))
def dP.f (a0:Int) (a1:Int) (a2:Bool):Option (Int):=if a2=true then (if 0≤(Go.bits .and .i64 a1 31) then (some (shr .i64 a0 (Go.bits .and .i64 a1 31))) else (none)) else (if 0≤(Go.bits .and .i64 a1 31) then ((bW.f (shl .i64 a0 (Go.bits .and .i64 a1 31))).bind fun t121=>(some t121)) else (none))
def fI.f (a0:Int) (a1:Int):Option (Int):=if a1=0 then (some (-1)) else ((bW.f (wrap64 (Int.tdiv a0 a1))).bind fun t122=>(some t122))
def fJ.f (a0:Int) (a1:Int):Option (Int):=if a1=0 then (some a0) else (some (Int.tmod a0 a1))
def aX.j0:Nat→Int→Int→Int→Bool→Option (Int × Bool)
 |0,_,_,_,_=>none
 |k + 1,x0,x1,x2,x20=>if x20=true then (some (0,false)) else (if x0=1 then (some (Go.bits .or .i64 x1 x2,true)) else (if x0=2 then (some (Go.bits .xor .i64 x1 x2,true)) else (if x0=3 then (some (Go.bits .and .i64 x1 x2,true)) else (if x0=4 then ((eG.f (x1 == x2)).bind fun t126=>(some (t126,true))) else (if x0=5 then ((eG.f (decide (x1 < x2))).bind fun t127=>(some (t127,true))) else (if x0=6 then ((dP.f x1 x2 false).bind fun t128=>(some (t128,true))) else (if x0=7 then ((dP.f x1 x2 true).bind fun t129=>(some (t129,true))) else (if x0=8 then ((bW.f (wrap64 (x1 + x2))).bind fun t130=>(some (t130,true))) else (if x0=9 then ((bW.f (wrap64 (x1 - x2))).bind fun t131=>(some (t131,true))) else (if x0=10 then ((bW.f (wrap64 (x1 * x2))).bind fun t132=>(some (t132,true))) else (if x0=11 then ((fI.f x1 x2).bind fun t133=>(some (t133,true))) else ((fJ.f x1 x2).bind fun t134=>(some (t134,true))))))))))))))
def aX.f (k:Nat) (a0:Int) (a1:Int) (a2:Int):Option (Int × Bool):=(bP.f a0).bind fun t123=>(if t123=true then ((dA.f a1).bind fun t124=>(if t124=true then ((dA.f a2).bind fun t125=>(aX.j0 k a0 a1 a2 (!t125))) else (aX.j0 k a0 a1 a2 true))) else (aX.j0 k a0 a1 a2 true))
def fZ.f (a0:Int) (a1_0:Int) (a1_1:Int) (l1_2:List (S28)) (a2_0:Int) (a2_1:Int) (l2_2:List (S28)):Option (Int × Int × (List (S28))):=some (a0,0,(([(⟨a1_0,a1_1,l1_2⟩:S28),(⟨a2_0,a2_1,l2_2⟩:S28)]:List (S28))))
mutual
def aQ.j0:Nat→Bool→Int→Int→List (S28)→Int→Int→List (S28)→Int→Int→List (S28)→Option (Int × Int × (List (S28)))
 |0,_,_,_,_,_,_,_,_,_,_=>none
 |k + 1,x33,x142000,x142001,x142002,x155000,x155001,x155002,x162000,x162001,x162002=>if x33=true then ((aX.f k x142000 x155001 x162001).bind fun bt162=>((bI.f bt162.1 0 99999).bind fun t164=>(if t164=true then ((gB.f 0 bt162.1).bind fun bt165=>(some (bt165.1,bt165.2.1,bt165.2.2))) else ((fZ.f x142000 x155000 x155001 x155002 x162000 x162001 x162002).bind fun bt170=>(some (bt170.1,bt170.2.1,bt170.2.2)))))) else ((fZ.f x142000 x155000 x155001 x155002 x162000 x162001 x162002).bind fun bt175=>(some (bt175.1,bt175.2.1,bt175.2.2)))
def aQ.f:Nat→Int→Int→List (S28)→Option (Int × Int × (List (S28)))
 |0,_,_,_=>none
 |k + 1,a0_0,a0_1,l0_2=>if (l0_2.length:Int)=0 then ((gB.f a0_0 a0_1).bind fun bt143=>(some (bt143.1,bt143.2.1,bt143.2.2))) else (if 0 < (l0_2.length:Int) then ((aQ.f k ((aH l0_2 0).f0) ((aH l0_2 0).f1) ((aH l0_2 0).f2)).bind fun bt149=>(if 1 < (l0_2.length:Int) then ((aQ.f k ((aH l0_2 1).f0) ((aH l0_2 1).f1) ((aH l0_2 1).f2)).bind fun bt156=>(if bt149.1=0 then (aQ.j0 k (bt156.1 == 0) a0_0 a0_1 l0_2 bt149.1 bt149.2.1 bt149.2.2 bt156.1 bt156.2.1 bt156.2.2) else (aQ.j0 k false a0_0 a0_1 l0_2 bt149.1 bt149.2.1 bt149.2.2 bt156.1 bt156.2.1 bt156.2.2))) else (none))) else (none))
end
def bJ.f (k:Nat) (a0_0:Int) (a0_1:Int) (l0_2:List (S28)):Option (Int × Int × (List (S28)) × Bool):=(bF.f k a0_0 a0_1 l0_2).bind fun t182=>(if t182=true then ((aQ.f k a0_0 a0_1 l0_2).bind fun bt183=>(some (bt183.1,bt183.2.1,bt183.2.2,true))) else (some (0,0,([]:List (S28)),false)))
mutual
def aU.l0:Nat→List (S24)→List (S28)→Int→Option ((List (S28)))
 |0,_,_,_=>none
 |k + 1,x0,x3,x4=>if x4 < (x0.length:Int) then (if 0≤x4 then ((bD.f k ((cO x0 x4).f0) ((cO x0 x4).f1) ((cO x0 x4).f2)).bind fun bt192=>(if x4 < (x3.length:Int) then (aU.l0 k x0 (x3.set (x4:Int).toNat (⟨bt192.1,bt192.2.1,bt192.2.2⟩:S28)) (wrap64 (x4 + 1))) else (none))) else (none)) else (some x3)
def aU.f:Nat→List (S24)→Option ((List (S28)))
 |0,_=>none
 |k + 1,l0=>if 0≤(l0.length:Int) then (if ((l0.length:Int):Int).toNat≤7036874417766 then (aU.l0 k l0 (List.replicate ((l0.length:Int):Int).toNat z28) 0) else (none)) else (none)
def bD.f:Nat→Int→Int→List (S24)→Option (Int × Int × (List (S28)))
 |0,_,_,_=>none
 |k + 1,a0_0,a0_1,l0_2=>(aU.f k l0_2).bind fun t201=>(some (a0_0,a0_1,t201))
end
def cK.f (a0:Int):Option (Bool):=if a0≥1 then (some (decide (a0≤12))) else (some false)
def aS.f:Nat→Int→Int→List (S28)→Int→Option (Bool)
 |0,_,_,_,_=>none
 |k + 1,a0_0,a0_1,l0_2,a1=>if a0_0=0 then (if a0_1≥0 then (if a0_1≤99999 then (if (l0_2.length:Int)=0 then (some (decide (a1 > 0))) else (some false)) else (some false)) else (some false)) else (if a0_0=13 then (if a0_1≥0 then (if a0_1 < 4 then (if (l0_2.length:Int)=0 then (some (decide (a1 > 0))) else (some false)) else (some false)) else (some false)) else ((cK.f a0_0).bind fun t205=>(if t205=true then (if a0_1=0 then (if (l0_2.length:Int)=2 then (if a1 > 1 then (if 0 < (l0_2.length:Int) then ((aS.f k ((aH l0_2 0).f0) ((aH l0_2 0).f1) ((aH l0_2 0).f2) (wrap64 (a1 - 1))).bind fun t207=>(if t207=true then (if 1 < (l0_2.length:Int) then ((aS.f k ((aH l0_2 1).f0) ((aH l0_2 1).f1) ((aH l0_2 1).f2) (wrap64 (a1 - 1))).bind fun t209=>(some t209)) else (none)) else (some false))) else (none)) else (some false)) else (some false)) else (some false)) else (some false))))
def bN.f (k:Nat) (a0_0:Int) (a0_1:Int) (l0_2:List (S28)):Option (Bool):=(aS.f k a0_0 a0_1 l0_2 5).bind fun t211=>(some t211)
def fA.f (a0:Bool):Option (Int):=if a0=true then (some 1) else (some 0)
def dF.f (a0:Int):Option (Int):=some (wrap64 (wrap32 (a0)))
def dG.f (a0:Int) (a1:Int) (a2:Int):Option (Int):=if a0=1 then (some (Go.bits .or .i64 a1 a2)) else (if a0=2 then (some (Go.bits .xor .i64 a1 a2)) else (if a0=3 then (some (Go.bits .and .i64 a1 a2)) else (if a0=4 then ((fA.f (a1 == a2)).bind fun t212=>(some t212)) else (if a0=5 then ((fA.f (decide (a1 < a2))).bind fun t213=>(some t213)) else (if a0=6 then (if 0≤(Go.bits .and .i64 a2 31) then ((dF.f (shl .i64 a1 (Go.bits .and .i64 a2 31))).bind fun t214=>(some t214)) else (none)) else (if a0=7 then (if 0≤(Go.bits .and .i64 a2 31) then (some (shr .i64 a1 (Go.bits .and .i64 a2 31))) else (none)) else (if a0=8 then ((dF.f (wrap64 (a1 + a2))).bind fun t215=>(some t215)) else (if a0=9 then ((dF.f (wrap64 (a1 - a2))).bind fun t216=>(some t216)) else (if a0=10 then ((dF.f (wrap64 (a1 * a2))).bind fun t217=>(some t217)) else (if a0=11 then (if a2=0 then (some (-1)) else ((dF.f (wrap64 (Int.tdiv a1 a2))).bind fun t218=>(some t218))) else (if a2=0 then (some a1) else (some (Int.tmod a1 a2)))))))))))))
mutual
def aK.j0:Nat→Bool→Int→Int→List (S28)→Int→Int→List (S28)→Int→Int→List (S28)→Option (Int × Int × (List (S28)))
 |0,_,_,_,_,_,_,_,_,_,_=>none
 |k + 1,x32,a0,a1,l,x0,x1,x2,y0,y1,y2=>if x32=true then ((dG.f a0 x1 y1).bind fun n=>(if n≥0 then (if n≤99999 then (some (0,n,([]:List (S28)))) else (some (a0,0,([(⟨x0,x1,x2⟩:S28),(⟨y0,y1,y2⟩:S28)]:List (S28))))) else (some (a0,0,([(⟨x0,x1,x2⟩:S28),(⟨y0,y1,y2⟩:S28)]:List (S28)))))) else (some (a0,0,([(⟨x0,x1,x2⟩:S28),(⟨y0,y1,y2⟩:S28)]:List (S28))))
def aK.f:Nat→Int→Int→List (S28)→Option (Int × Int × (List (S28)))
 |0,_,_,_=>none
 |k + 1,a0,a1,l=>if (l.length:Int)=0 then (some (a0,a1,([]:List (S28)))) else (if 0 < (l.length:Int) then ((aK.f k ((aH l 0).f0) ((aH l 0).f1) ((aH l 0).f2)).bind fun x=>(if 1 < (l.length:Int) then ((aK.f k ((aH l 1).f0) ((aH l 1).f1) ((aH l 1).f2)).bind fun y=>(if x.1=0 then (aK.j0 k (y.1 == 0) a0 a1 l x.1 x.2.1 x.2.2 y.1 y.2.1 y.2.2) else (aK.j0 k false a0 a1 l x.1 x.2.1 x.2.2 y.1 y.2.1 y.2.2))) else (none))) else (none))
end
def bV.f (k:Nat) (a0_0:Int) (a0_1:Int) (l0_2:List (S28)):Option (Int × Int × (List (S28)) × Bool):=(bN.f k a0_0 a0_1 l0_2).bind fun t221=>(if t221=true then ((aK.f k a0_0 a0_1 l0_2).bind fun bt222=>(some (bt222.1,bt222.2.1,bt222.2.2,true))) else (some (0,0,([]:List (S28)),false)))
mutual
def aG.l0:Nat→List (S28)→List (S28)→Int→Option (Bool)
 |0,_,_,_=>none
 |k + 1,x0,x1,x5=>if x5 < (x0.length:Int) then (if 0≤x5 then (if x5 < (x1.length:Int) then ((aR.f k ((aH x0 x5).f0) ((aH x0 x5).f1) ((aH x0 x5).f2) ((aH x1 x5).f0) ((aH x1 x5).f1) ((aH x1 x5).f2)).bind fun t229=>(if t229=true then (aG.l0 k x0 x1 (wrap64 (x5 + 1))) else (some false))) else (none)) else (none)) else (some true)
def aG.f:Nat→List (S28)→List (S28)→Option (Bool)
 |0,_,_=>none
 |k + 1,l0,l1=>if (l0.length:Int)=(l1.length:Int) then (aG.l0 k l0 l1 0) else (some false)
def aR.f:Nat→Int→Int→List (S28)→Int→Int→List (S28)→Option (Bool)
 |0,_,_,_,_,_,_=>none
 |k + 1,a0_0,a0_1,l0_2,a1_0,a1_1,l1_2=>if a0_0=a1_0 then (if a0_1=a1_1 then ((aG.f k l0_2 l1_2).bind fun t232=>(if t232=true then (some true) else (some false))) else (some false)) else (some false)
end
mutual
def aM.l0:Nat→List S28→Int→Int→Option (Int × List S28)
 |0,_,_,_=>none
 |k + 1,xs,n,i=>if i < (xs.length:Int) then (if 0≤i then ((aM.f k (aH xs i).f2 (wrap64 ((wrap64 (n + 1)) + 1))).bind fun t=>aM.l0 k (xs.set i.toNat ⟨n,(wrap64 (n + 1)),t.2⟩) t.1 (wrap64 (i + 1))) else none) else some (n,xs)
def aM.f:Nat→List S28→Int→Option (Int × List S28)
 |0,_,_=>none
 |k + 1,xs,n=>aM.l0 k xs n 0
end
def eU.f (k:Nat) (a0 a1:Int) (l:List S28) (n:Int):Option (Int × List S28):=aM.f k l n
mutual
def aI.l0:Nat→List (S28)→Int→Int→Option (Int)
 |0,_,_,_=>none
 |k + 1,x0,x1,x5=>if x5 < (x0.length:Int) then (if 0≤x5 then (if ((aH x0 x5).f0)=x1 then (if ((aH x0 x5).f1)=(wrap64 (x1 + 1)) then ((aI.f k ((aH x0 x5).f2) (wrap64 ((wrap64 (x1 + 1)) + 1))).bind fun t236=>(if t236 < 0 then (some (-1)) else (aI.l0 k x0 t236 (wrap64 (x5 + 1))))) else (some (-1))) else (some (-1))) else (none)) else (some x1)
def aI.f:Nat→List (S28)→Int→Option (Int)
 |0,_,_=>none
 |k + 1,l0,a1=>aI.l0 k l0 a1 0
end
def bZ.f (k:Nat) (a0_0:Int) (a0_1:Int) (l0_2:List (S28)) (a1:Int):Option (Int):=(aI.f k l0_2 a1).bind fun t238=>(if t238 < 0 then (some (-1)) else (some t238))
def bL.f (k:Nat) (a0 a1:Int) (l:List S24):Option Bool:=(aT.f k a0 a1 l 1048576).bind fun left=>if left < 0 then some true else
 (bD.f k a0 a1 l).bind fun x=>(bJ.f k x.1 x.2.1 x.2.2).bind fun w=>(bV.f k x.1 x.2.1 x.2.2).bind fun g=>
 (aR.f k g.1 g.2.1 g.2.2.1 w.1 w.2.1 w.2.2.1).bind fun e1=>if e1=false then none else if g.2.2.2≠w.2.2.2 then none else
 (aR.f k x.1 x.2.1 x.2.2 x.1 x.2.1 x.2.2).bind fun e2=>if e2=false then none else
 (eU.f k x.1 x.2.1 x.2.2 1).bind fun m1=>if m1.1 < 0 then none else
 (eU.f k g.1 g.2.1 g.2.2.1 1).bind fun m=>(bZ.f k g.1 g.2.1 m.2 1).bind fun q=>if q < 0 then none else if q≠m.1 then none else some true
mutual
def uH.f:Nat→Int→Int→Int→Int→Int→List (S24)→List (S66)→List (S66)→Int→Option (Int)
 |0,_,_,_,_,_,_,_,_,_=>none
 |k + 1,a0_0,a0_1,a0_2,a0_3,a0_4,l0_5,l0_6,l0_7,a1=>(aT.f k a0_3 a0_4 l0_5 a1).bind fun t240=>(if t240 < 0 then (some (-1)) else ((eO.f k l0_6 t240).bind fun t241=>(if t241 < 0 then (some (-1)) else ((eO.f k l0_7 t241).bind fun t242=>(if t242 < 0 then (some (-1)) else (some t242))))))
def eO.l0:Nat→List (S66)→Int→Int→Option (Int)
 |0,_,_,_=>none
 |k + 1,x0,x1,x5=>if x5 < (x0.length:Int) then (if 0≤x5 then ((uH.f k ((kP x0 x5).f0) ((kP x0 x5).f1) ((kP x0 x5).f2) ((kP x0 x5).f3.f0) ((kP x0 x5).f3.f1) ((kP x0 x5).f3.f2) ((kP x0 x5).f4) ((kP x0 x5).f5) x1).bind fun t244=>(if t244 < 0 then (some (-1)) else (eO.l0 k x0 t244 (wrap64 (x5 + 1))))) else (none)) else (some x1)
def eO.f:Nat→List (S66)→Int→Option (Int)
 |0,_,_=>none
 |k + 1,l0,a1=>if (wrap64 (a1 - (l0.length:Int))) < 0 then (some (-1)) else (eO.l0 k l0 (wrap64 (a1 - (l0.length:Int))) 0)
end
def fV.f (a0_0:Int) (a0_1:Int) (a0_2:Int) (a0_3:Int) (a0_4:Int) (l0_5:List (S28)) (l0_6:List (S70)) (l0_7:List (S70)) (a1:Bool):Option (Bool):=if a1=true then ((bI.f a0_1 0 3).bind fun t246=>(some t246)) else (some (a0_1 == 0))
def fU.f (a0_0:Int) (a0_1:Int) (a0_2:Int) (a0_3:Int) (a0_4:Int) (l0_5:List (S28)) (l0_6:List (S70)) (l0_7:List (S70)) (a1:Bool):Option (Bool):=if a1=true then ((bI.f a0_2 0 2).bind fun t248=>(some t248)) else (some (a0_2 == 0))
def mH.f (a0_0:Int) (a0_1:Int) (l0_2:List (S28)):Option (Bool):=if a0_0=0 then (if a0_1=0 then (some ((l0_2.length:Int) == 0)) else (some false)) else (some false)
def gK.j0:Nat→Bool→Int→Int→Int→Int→Int→List (S28)→List (S70)→List (S70)→Option (Bool)
 |0,_,_,_,_,_,_,_,_,_=>none
 |k + 1,x12,x251000,x251001,x251002,x251003,x251004,x251005,x251006,x251007=>if x12=true then (some false) else (if x251000=1 then ((fV.f x251000 x251001 x251002 x251003 x251004 x251005 x251006 x251007 true).bind fun t251=>(if t251=true then ((fU.f x251000 x251001 x251002 x251003 x251004 x251005 x251006 x251007 false).bind fun t252=>(if t252=true then ((bF.f k x251003 x251004 x251005).bind fun t253=>(some t253)) else (some false))) else (some false))) else (if x251000=4 then ((fV.f x251000 x251001 x251002 x251003 x251004 x251005 x251006 x251007 false).bind fun t254=>(if t254=true then ((fU.f x251000 x251001 x251002 x251003 x251004 x251005 x251006 x251007 true).bind fun t255=>(if t255=true then ((bF.f k x251003 x251004 x251005).bind fun t256=>(some t256)) else (some false))) else (some false))) else (if x251000=5 then ((fV.f x251000 x251001 x251002 x251003 x251004 x251005 x251006 x251007 true).bind fun t257=>(if t257=true then ((fU.f x251000 x251001 x251002 x251003 x251004 x251005 x251006 x251007 true).bind fun t258=>(if t258=true then ((mH.f x251003 x251004 x251005).bind fun t259=>(some t259)) else (some false))) else (some false))) else (if x251000=6 then ((fV.f x251000 x251001 x251002 x251003 x251004 x251005 x251006 x251007 false).bind fun t260=>(if t260=true then ((fU.f x251000 x251001 x251002 x251003 x251004 x251005 x251006 x251007 false).bind fun t261=>(if t261=true then ((mH.f x251003 x251004 x251005).bind fun t262=>(some t262)) else (some false))) else (some false))) else (if x251000=7 then ((fV.f x251000 x251001 x251002 x251003 x251004 x251005 x251006 x251007 false).bind fun t263=>(if t263=true then ((fU.f x251000 x251001 x251002 x251003 x251004 x251005 x251006 x251007 false).bind fun t264=>(if t264=true then ((bF.f k x251003 x251004 x251005).bind fun t265=>(some t265)) else (some false))) else (some false))) else (some false))))))
def gK.f (k:Nat) (a0_0:Int) (a0_1:Int) (a0_2:Int) (a0_3:Int) (a0_4:Int) (l0_5:List (S28)) (l0_6:List (S70)) (l0_7:List (S70)):Option (Bool):=if (l0_6.length:Int) > 0 then (gK.j0 k true a0_0 a0_1 a0_2 a0_3 a0_4 l0_5 l0_6 l0_7) else (gK.j0 k (decide ((l0_7.length:Int) > 0)) a0_0 a0_1 a0_2 a0_3 a0_4 l0_5 l0_6 l0_7)
mutual
def fB.j0:Nat→Int→Bool→Int→Int→Int→Int→Int→List (S28)→List (S70)→List (S70)→Option (Bool)
 |0,_,_,_,_,_,_,_,_,_,_=>none
 |k + 1,x1,x12,x267000,x267001,x267002,x267003,x267004,x267005,x267006,x267007=>if x12=true then ((gK.f k x267000 x267001 x267002 x267003 x267004 x267005 x267006 x267007).bind fun t267=>(some t267)) else (if x1 < 1 then (fB.j1 k x1 true x267000 x267001 x267002 x267003 x267004 x267005 x267006 x267007) else (if x267000=3 then (fB.j1 k x1 (decide ((x267007.length:Int) > 0)) x267000 x267001 x267002 x267003 x267004 x267005 x267006 x267007) else (fB.j1 k x1 false x267000 x267001 x267002 x267003 x267004 x267005 x267006 x267007)))
def fB.j1:Nat→Int→Bool→Int→Int→Int→Int→Int→List (S28)→List (S70)→List (S70)→Option (Bool)
 |0,_,_,_,_,_,_,_,_,_,_=>none
 |k + 1,x1,x27,x267000,x267001,x267002,x267003,x267004,x267005,x267006,x267007=>if x27=true then (some false) else ((fV.f x267000 x267001 x267002 x267003 x267004 x267005 x267006 x267007 false).bind fun t268=>(if t268=true then ((fU.f x267000 x267001 x267002 x267003 x267004 x267005 x267006 x267007 false).bind fun t269=>(if t269=true then ((bF.f k x267003 x267004 x267005).bind fun t270=>(if t270=true then ((eF.f k x267006 (wrap64 (x1 - 1))).bind fun t271=>(if t271=true then ((eF.f k x267007 (wrap64 (x1 - 1))).bind fun t272=>(some t272)) else (some false))) else (some false))) else (some false))) else (some false)))
def fB.f:Nat→Int→Int→Int→Int→Int→List (S28)→List (S70)→List (S70)→Int→Option (Bool)
 |0,_,_,_,_,_,_,_,_,_=>none
 |k + 1,a0_0,a0_1,a0_2,a0_3,a0_4,l0_5,l0_6,l0_7,a1=>if a0_0=2 then (fB.j0 k a1 false a0_0 a0_1 a0_2 a0_3 a0_4 l0_5 l0_6 l0_7) else (fB.j0 k a1 (a0_0 != 3) a0_0 a0_1 a0_2 a0_3 a0_4 l0_5 l0_6 l0_7)
def eF.l0:Nat→List (S70)→Int→Int→Option (Bool)
 |0,_,_,_=>none
 |k + 1,x0,x1,x5=>if x5 < (x0.length:Int) then (if 0≤x5 then ((fB.f k ((aN x0 x5).f0) ((aN x0 x5).f1) ((aN x0 x5).f2) ((aN x0 x5).f3.f0) ((aN x0 x5).f3.f1) ((aN x0 x5).f3.f2) ((aN x0 x5).f4) ((aN x0 x5).f5) x1).bind fun t274=>(if t274=true then (eF.l0 k x0 x1 (wrap64 (x5 + 1))) else (some false))) else (none)) else (some true)
def eF.f:Nat→List (S70)→Int→Option (Bool)
 |0,_,_=>none
 |k + 1,l0,a1=>eF.l0 k l0 a1 0
end
mutual
def eX.l0:Nat→List (S70)→Int→Int→Option (Int)
 |0,_,_,_=>none
 |k + 1,x0,x3,x4=>if x4 < (x0.length:Int) then (if 0≤x4 then ((eX.f k ((aN x0 x4).f4)).bind fun t276=>((eX.f k ((aN x0 x4).f5)).bind fun t278=>(eX.l0 k x0 (wrap64 ((wrap64 ((wrap64 (x3 + 1)) + t276)) + t278)) (wrap64 (x4 + 1))))) else (none)) else (some x3)
def eX.f:Nat→List (S70)→Option (Int)
 |0,_=>none
 |k + 1,l0=>eX.l0 k l0 0 0
end
def kW.f (k:Nat) (l0:List (S70)):Option (Bool):=(eF.f k l0 3).bind fun t279=>(if t279=true then ((eX.f k l0).bind fun t280=>(some (decide (t280≤16)))) else (some false))
def DJ (x:S70) (op n:Int) (a:List S28) (b l:List S70):List S70:=if (x.f0 == 2 && (op == 0 && n != 0))=true then b else if (x.f0 == 2 && op == 0)=true then l else if (x.f0 == 3 && (op == 0 && n == 0))=true then [] else [⟨x.f0,x.f1,x.f2,⟨op,n,a⟩,b,l⟩]
mutual
def dN.l0:Nat→List S70→List S70→Int→Option (List S70)
 |0,_,_,_=>none
 |k + 1,l0,x3,x4=>if x4 < (l0.length:Int) then (if 0≤x4 then ((nX.f k (aN l0 x4)).bind fun y=>if x3.length + y.length < 1256584717458 then dN.l0 k l0 (x3 ++ y) (wrap64 (x4 + 1)) else none) else none) else some x3
def dN.f:Nat→List S70→Option (List S70)
 |0,_=>none
 |k + 1,l0=>dN.l0 k l0 [] 0
def nX.f:Nat→S70→Option (List S70)
 |0,_=>none
 |k + 1,x=>(aQ.f k x.f3.f0 x.f3.f1 x.f3.f2).bind fun e=>(dN.f k x.f4).bind fun b=>(dN.f k x.f5).bind fun l=>some (DJ x e.1 e.2.1 e.2.2 b l)
end
def pF.f (k:Nat) (l0:List (S70)):Option ((List (S70)) × Bool):=(kW.f k l0).bind fun t281=>(if t281=true then ((dN.f k l0).bind fun t282=>(some (t282,true))) else (some ((([]:List (S70))),false)))
mutual
def eP.l0:Nat→List S66→List S70→Int→Option (List S70)
 |0,_,_,_=>none
 |k + 1,x0,x3,x4=>if x4 < (x0.length:Int) then (if 0≤x4 then ((uI.f k (kP x0 x4)).bind fun s=>(if x4 < (x3.length:Int) then eP.l0 k x0 (x3.set (x4:Int).toNat s) (wrap64 (x4 + 1)) else none)) else none) else some x3
def eP.f:Nat→List S66→Option (List S70)
 |0,_=>none
 |k + 1,l0=>if l0.length≤2513169434916 then eP.l0 k l0 (List.replicate l0.length z70) 0 else none
def uI.f:Nat→S66→Option S70
 |0,_=>none
 |k + 1,s=>(bD.f k s.f3.f0 s.f3.f1 s.f3.f2).bind fun e=>(eP.f k s.f4).bind fun b=>(eP.f k s.f5).bind fun c=>some ⟨s.f0,s.f1,s.f2,⟨e.1,e.2.1,e.2.2⟩,b,c⟩
end
def inr (n limit:Int) (needed:Bool):Bool:=(n == 0) || (needed && (decide (n > 0) && decide (n < limit)))
def iQ (k:Nat) (nv nb ne nd no:Bool) (va bx op n:Int) (la:List S28) (lb le:Nat) (boxes:Int):Option Bool:=
  if inr va 4 nv=true then (if inr bx boxes nb=true then (if nb=true∧boxes≤bx then some false else
    (if ne=true then ((bN.f k op n la).bind fun t=>if t=true then some ((nd || lb == 0) && (no || le == 0)) else some false)
     else (if op=0 then (if n=0 then (if 0 < (la.length:Int) then some false else some ((nd || lb == 0) && (no || le == 0))) else some false) else some false))) else some false) else some false
def oU.f (k:Nat) (kd va bx op n:Int) (la:List S28) (lb le:Nat) (boxes:Int):Option Bool:=
 if kd=1 then iQ k true false true false false va bx op n la lb le boxes
 else if kd=2 then iQ k false false true true true va bx op n la lb le boxes
 else if kd=3 then iQ k false false true true false va bx op n la lb le boxes
 else if kd=4 then iQ k false true true false false va bx op n la lb le boxes
 else if kd=5 then iQ k true true false false false va bx op n la lb le boxes
 else if kd=7 then iQ k false false true false false va bx op n la lb le boxes
 else if kd=6 then iQ k false false false false false va bx op n la lb le boxes
 else some false
mutual
def dM.f:Nat→List S70→Int→Int→Int→Option (Bool × Int)
 |0,_,_,_,_=>none
 |k + 1,l,boxes,blocks,cnt=>if 16 < wrap64 (cnt + (l.length:Int)) then some (false,wrap64 (cnt + (l.length:Int))) else dM.l0 k l boxes blocks 0 (wrap64 (cnt + (l.length:Int)))
def dM.l0:Nat→List S70→Int→Int→Int→Int→Option (Bool × Int)
 |0,_,_,_,_,_=>none
 | k + 1,l,boxes,blocks,i,cnt=>if i < (l.length:Int) then (if 0≤i then
   ((oU.f k (aN l i).f0 (aN l i).f1 (aN l i).f2 (aN l i).f3.f0 (aN l i).f3.f1 (aN l i).f3.f2 (aN l i).f4.length (aN l i).f5.length boxes).bind fun t=>
    if t=true then (if 3 < blocks then some (false,cnt) else
     (if (aN l i).f0=2∨(aN l i).f0=3 then (if 3≤blocks then some (false,cnt) else
      ((dM.f k (aN l i).f4 boxes (wrap64 (blocks + 1)) cnt).bind fun p=>if p.1=true then
       ((dM.f k (aN l i).f5 boxes (wrap64 (blocks + 1)) p.2).bind fun q=>if q.1=true then dM.l0 k l boxes blocks (wrap64 (i + 1)) q.2 else some (false,q.2)) else some (false,p.2)))
     else dM.l0 k l boxes blocks (wrap64 (i + 1)) cnt)) else some (false,cnt)) else none) else some (true,cnt)
end
def kU.f (k:Nat) (l0:List (S70)) (a1:Int):Option Bool:=(dM.f k l0 a1 0 0).bind fun p=>some p.1
def nV.f (k:Nat) (l0:List (S70)):Option (Bool):=(kU.f k l0 3).bind fun t288=>(some t288)
mutual
def aW.l0:Nat→List (S70)→List (S70)→Int→Int→Option ((List (S70)))
 |0,_,_,_,_=>none
 |k + 1,x3,l,n,i=>if i < n then (if 0≤i then (if i < (l.length:Int) then ((aW.f k ((aN l i).f4)).bind fun yb=>((aW.f k ((aN l i).f5)).bind fun ye=>((aK.f k ((aN l i).f3.f0) ((aN l i).f3.f1) ((aN l i).f3.f2)).bind fun x=>(if ((aN l i).f0)=2 then (if x.1=0 then (aW.j1 k x3 (x.1 == 0) l n i (x.2.1 != 0) ((aN l i).f0) ((aN l i).f1) ((aN l i).f2) x.1 x.2.1 x.2.2 yb ye) else (aW.j1 k x3 (x.1 == 0) l n i false ((aN l i).f0) ((aN l i).f1) ((aN l i).f2) x.1 x.2.1 x.2.2 yb ye)) else (aW.j1 k x3 (x.1 == 0) l n i false ((aN l i).f0) ((aN l i).f1) ((aN l i).f2) x.1 x.2.1 x.2.2 yb ye))))) else (none)) else (none)) else (some x3)
def aW.j1:Nat→List (S70)→Bool→List (S70)→Int→Int→Bool→Int→Int→Int→Int→Int→List (S28)→List (S70)→List (S70)→Option ((List (S70)))
 |0,_,_,_,_,_,_,_,_,_,_,_,_,_,_=>none
 |k + 1,x3,x6,l,n,i,x33,f0,f1,f2,x0,x1,x2,yb,ye=>if x33=true then (if x3.length + yb.length < 1256584717458 then (aW.l0 k (x3 ++ yb) l n (wrap64 (i + 1))) else (none)) else (if f0=2 then (aW.j2 k x3 x6 l n i x6 f0 f1 f2 x0 x1 x2 yb ye) else (aW.j2 k x3 x6 l n i false f0 f1 f2 x0 x1 x2 yb ye))
def aW.j2:Nat→List (S70)→Bool→List (S70)→Int→Int→Bool→Int→Int→Int→Int→Int→List (S28)→List (S70)→List (S70)→Option ((List (S70)))
 |0,_,_,_,_,_,_,_,_,_,_,_,_,_,_=>none
 |k + 1,x3,x6,l,n,i,x50,f0,f1,f2,x0,x1,x2,yb,ye=>if x50=true then (if x3.length + ye.length < 1256584717458 then (aW.l0 k (x3 ++ ye) l n (wrap64 (i + 1))) else (none)) else (if f0=3 then (if x6=true then (if x1=0 then (aW.l0 k x3 l n (wrap64 (i + 1))) else (if x3.length < 1256584717458 then (aW.l0 k (x3 ++ [(⟨f0,f1,f2,(⟨x0,x1,x2⟩:S28),yb,ye⟩:S70)]) l n (wrap64 (i + 1))) else (none))) else (if x3.length < 1256584717458 then (aW.l0 k (x3 ++ [(⟨f0,f1,f2,(⟨x0,x1,x2⟩:S28),yb,ye⟩:S70)]) l n (wrap64 (i + 1))) else (none))) else (if x3.length < 1256584717458 then (aW.l0 k (x3 ++ [(⟨f0,f1,f2,(⟨x0,x1,x2⟩:S28),yb,ye⟩:S70)]) l n (wrap64 (i + 1))) else (none)))
def aW.f:Nat→List (S70)→Option ((List (S70)))
 |0,_=>none
 |k + 1,l=>aW.l0 k ([]:List (S70)) l (l.length:Int) 0
end
def oQ.f (k:Nat) (l0:List (S70)):Option ((List (S70)) × Bool):=(nV.f k l0).bind fun t289=>(if t289=true then ((aW.f k l0).bind fun t290=>(some (t290,true))) else (some (([]:List (S70)),false)))
mutual
def uF.f:Nat→Int→Int→Int→Int→Int→List (S28)→List (S70)→List (S70)→Int→Int→Int→Int→Int→List (S28)→List (S70)→List (S70)→Option (Bool)
 |0,_,_,_,_,_,_,_,_,_,_,_,_,_,_,_,_=>none
 |k + 1,a0_0,a0_1,a0_2,a0_3,a0_4,l0_5,l0_6,l0_7,a1_0,a1_1,a1_2,a1_3,a1_4,l1_5,l1_6,l1_7=>if a0_0=a1_0 then (if a0_1=a1_1 then (if a0_2=a1_2 then ((aR.f k a0_3 a0_4 l0_5 a1_3 a1_4 l1_5).bind fun t295=>(if t295=true then ((dX.f k l0_6 l1_6).bind fun t296=>(if t296=true then ((dX.f k l0_7 l1_7).bind fun t297=>(if t297=true then (some true) else (some false))) else (some false))) else (some false))) else (some false)) else (some false)) else (some false)
def dX.l0:Nat→List (S70)→List (S70)→Int→Option (Bool)
 |0,_,_,_=>none
 |k + 1,x0,x1,x5=>if x5 < (x0.length:Int) then (if 0≤x5 then (if x5 < (x1.length:Int) then ((uF.f k ((aN x0 x5).f0) ((aN x0 x5).f1) ((aN x0 x5).f2) ((aN x0 x5).f3.f0) ((aN x0 x5).f3.f1) ((aN x0 x5).f3.f2) ((aN x0 x5).f4) ((aN x0 x5).f5) ((aN x1 x5).f0) ((aN x1 x5).f1) ((aN x1 x5).f2) ((aN x1 x5).f3.f0) ((aN x1 x5).f3.f1) ((aN x1 x5).f3.f2) ((aN x1 x5).f4) ((aN x1 x5).f5)).bind fun t300=>(if t300=true then (dX.l0 k x0 x1 (wrap64 (x5 + 1))) else (some false))) else (none)) else (none)) else (some true)
def dX.f:Nat→List (S70)→List (S70)→Option (Bool)
 |0,_,_=>none
 |k + 1,l0,l1=>if (l0.length:Int)=(l1.length:Int) then (dX.l0 k l0 l1 0) else (some false)
end
mutual
def dJ.l0:Nat→List S70→Int→Int→Option (Int × List S70)
 |0,_,_,_=>none
 |k + 1,xs,n,i=>if i < (xs.length:Int) then (if 0≤i then ((aM.f k (aN xs i).f3.f2 (wrap64 ((wrap64 ((wrap64 ((wrap64 ((wrap64 (n + 1)) + 1)) + 1)) + 1)) + 1))).bind fun t=>(dJ.f k (aN xs i).f4 t.1).bind fun u=>(dJ.f k (aN xs i).f5 u.1).bind fun v=>dJ.l0 k (xs.set i.toNat ⟨n,(wrap64 (n + 1)),(wrap64 ((wrap64 (n + 1)) + 1)),⟨(wrap64 ((wrap64 ((wrap64 (n + 1)) + 1)) + 1)),(wrap64 ((wrap64 ((wrap64 ((wrap64 (n + 1)) + 1)) + 1)) + 1)),t.2⟩,u.2,v.2⟩) v.1 (wrap64 (i + 1))) else none) else some (n,xs)
def dJ.f:Nat→List S70→Int→Option (Int × List S70)
 |0,_,_=>none
 |k + 1,xs,n=>dJ.l0 k xs n 0
end
mutual
def dV.l0:Nat→List (S70)→Int→Int→Option (Int)
 |0,_,_,_=>none
 |k + 1,x0,x1,x5=>if x5 < (x0.length:Int) then (if 0≤x5 then (if ((aN x0 x5).f0)=x1 then (if ((aN x0 x5).f1)=(wrap64 (x1 + 1)) then (if ((aN x0 x5).f2)=(wrap64 ((wrap64 (x1 + 1)) + 1)) then (if ((aN x0 x5).f3.f0)=(wrap64 ((wrap64 ((wrap64 (x1 + 1)) + 1)) + 1)) then (if ((aN x0 x5).f3.f1)=(wrap64 ((wrap64 ((wrap64 ((wrap64 (x1 + 1)) + 1)) + 1)) + 1)) then ((aI.f k ((aN x0 x5).f3.f2) (wrap64 ((wrap64 ((wrap64 ((wrap64 ((wrap64 (x1 + 1)) + 1)) + 1)) + 1)) + 1))).bind fun t307=>(if t307 < 0 then (some (-1)) else ((dV.f k ((aN x0 x5).f4) t307).bind fun t309=>(if t309 < 0 then (some (-1)) else ((dV.f k ((aN x0 x5).f5) t309).bind fun t311=>(if t311 < 0 then (some (-1)) else (dV.l0 k x0 t311 (wrap64 (x5 + 1))))))))) else (some (-1))) else (some (-1))) else (some (-1))) else (some (-1))) else (some (-1))) else (none)) else (some x1)
def dV.f:Nat→List (S70)→Int→Option (Int)
 |0,_,_=>none
 |k + 1,l0,a1=>dV.l0 k l0 a1 0
end
def tJ.f (k:Nat) (l:List S66):Option Bool:=(eO.f k l 1048576).bind fun left=>if left < 0 then some true else
 (eP.f k l).bind fun x=>(pF.f k x).bind fun w=>(oQ.f k x).bind fun g=>
 (dX.f k g.1 w.1).bind fun e1=>if e1=false then none else if g.2≠w.2 then none else
 (dX.f k x x).bind fun e2=>if e2=false then none else
 (dJ.f k x 1).bind fun m1=>if m1.1 < 0 then none else
 (dJ.f k g.1 1).bind fun m=>(dV.f k m.2 1).bind fun q=>if q < 0 then none else if q≠m.1 then none else some true
def uG.f (l0:List Int) (a1:Int):Option (Int):=if (wrap64 (a1 - (l0.length:Int))) < 0 then (some (-1)) else (some (wrap64 (a1 - (l0.length:Int))))
def gX.l0:Nat→List (List (S66))→Int→Int→Option (Int)
 |0,_,_,_=>none
 |k + 1,x0,x1,x5=>if x5 < (x0.length:Int) then (if 0≤x5 then ((eO.f k (AX x0 x5) x1).bind fun t313=>(if t313 < 0 then (some (-1)) else (gX.l0 k x0 t313 (wrap64 (x5 + 1))))) else (none)) else (some x1)
def gX.f (k:Nat) (l0:List (List (S66))) (a1:Int):Option (Int):=if (wrap64 (a1 - (l0.length:Int))) < 0 then (some (-1)) else (gX.l0 k l0 (wrap64 (a1 - (l0.length:Int))) 0)
def oV.f (k:Nat) (l0_0:List Int) (l0_1:List (List (S66))) (a1:Int):Option (Int):=(uG.f l0_0 a1).bind fun t315=>(if t315 < 0 then (some (-1)) else ((gX.f k l0_1 t315).bind fun t316=>(if t316 < 0 then (some (-1)) else (some t316))))
def iA.l0:Nat→List Int→Int→Option (Bool)
 |0,_,_=>none
 |k + 1,x0,x3=>if x3 < (x0.length:Int) then (if 0≤x3 then ((bI.f (rd x0 x3) 1 4).bind fun t318=>(if t318=true then (iA.l0 k x0 (wrap64 (x3 + 1))) else (some false))) else (none)) else (some (decide ((x0.length:Int)≤3)))
def iA.f (k:Nat) (l0:List Int):Option (Bool):=iA.l0 k l0 0
mutual
def cB.l0:Nat→List (S70)→Int→Int→Option (Bool)
 |0,_,_,_=>none
 |k + 1,x0,x1,x5=>if x5 < (x0.length:Int) then (if 0≤x5 then (if ((aN x0 x5).f0)=4 then (cB.j1 k x0 x1 x5 (decide (((aN x0 x5).f2)≥x1)) ((aN x0 x5).f0) ((aN x0 x5).f1) ((aN x0 x5).f2) ((aN x0 x5).f3.f0) ((aN x0 x5).f3.f1) ((aN x0 x5).f3.f2) ((aN x0 x5).f4) ((aN x0 x5).f5)) else (if ((aN x0 x5).f0)=5 then (cB.j1 k x0 x1 x5 (decide (((aN x0 x5).f2)≥x1)) ((aN x0 x5).f0) ((aN x0 x5).f1) ((aN x0 x5).f2) ((aN x0 x5).f3.f0) ((aN x0 x5).f3.f1) ((aN x0 x5).f3.f2) ((aN x0 x5).f4) ((aN x0 x5).f5)) else (cB.j1 k x0 x1 x5 false ((aN x0 x5).f0) ((aN x0 x5).f1) ((aN x0 x5).f2) ((aN x0 x5).f3.f0) ((aN x0 x5).f3.f1) ((aN x0 x5).f3.f2) ((aN x0 x5).f4) ((aN x0 x5).f5)))) else (none)) else (some true)
def cB.j1:Nat→List (S70)→Int→Int→Bool→Int→Int→Int→Int→Int→List (S28)→List (S70)→List (S70)→Option (Bool)
 |0,_,_,_,_,_,_,_,_,_,_,_,_=>none
 |k + 1,x0,x1,x5,x30,x321000,x321001,x321002,x321003,x321004,x321005,x321006,x321007=>if x30=true then (some false) else ((cB.f k x321006 x1).bind fun t321=>(if t321=true then ((cB.f k x321007 x1).bind fun t322=>(if t322=true then (cB.l0 k x0 x1 (wrap64 (x5 + 1))) else (some false))) else (some false)))
def cB.f:Nat→List (S70)→Int→Option (Bool)
 |0,_,_=>none
 |k + 1,l0,a1=>cB.l0 k l0 a1 0
end
mutual
def cZ.j0:Nat→Bool→List Int→List (List (S70))→Option (Bool)
 |0,_,_,_=>none
 |k + 1,x14,x324000,x324001=>if x14=true then (some false) else (cZ.l0 k 0 x324000 x324001)
def cZ.l0:Nat→Int→List Int→List (List (S70))→Option (Bool)
 |0,_,_,_=>none
 |k + 1,x3,x324000,x324001=>if x3 < (x324001.length:Int) then (if 0≤x3 then ((kW.f k (mZ x324001 x3)).bind fun t327=>(if t327=true then ((cB.f k (mZ x324001 x3) (x324000.length:Int)).bind fun t329=>(if t329=true then (cZ.l0 k (wrap64 (x3 + 1)) x324000 x324001) else (some false))) else (some false))) else (none)) else (some true)
end
def cZ.f (k:Nat) (l0_0:List Int) (l0_1:List (List (S70))):Option (Bool):=(iA.f k l0_0).bind fun t324=>(if t324=true then ((bI.f (l0_1.length:Int) 1 3).bind fun t325=>(cZ.j0 k (!t325) l0_0 l0_1)) else (cZ.j0 k true l0_0 l0_1))
def fD.l0:Nat→Int→List Int→List (List (S70))→List Int→List (List (S70))→Option (List Int × (List (List (S70))) × Bool)
 |0,_,_,_,_,_=>none
 |k + 1,x5,x331000,x331001,x343000,x343001=>if x5 < (x331001.length:Int) then (if 0≤x5 then ((dN.f k (mZ x331001 x5)).bind fun t344=>(if x343001.length < 5864062014805 then (fD.l0 k (wrap64 (x5 + 1)) x331000 x331001 x343000 (x343001 ++ [t344])) else (none))) else (none)) else (some (x343000,x343001,true))
def fD.f (k:Nat) (l0_0:List Int) (l0_1:List (List (S70))):Option (List Int × (List (List (S70))) × Bool):=(cZ.f k l0_0 l0_1).bind fun t332=>(if t332=true then ((some (([]:List Int):List Int)).bind fun y333=>(if y333.length + l0_0.length < 17592186044416 then (fD.l0 k 0 l0_0 l0_1 (y333 ++ l0_0) (([]:List (List (S70))))) else (none))) else (some (([]:List Int),([]:List (List (S70))),false)))
def iY.l0:Nat→List Int→List Int→Int→Option (List Int)
 |0,_,_,_=>none
 |k + 1,x0,x3,x4=>if x4 < (x0.length:Int) then (if 0≤x4 then (if x4 < (x3.length:Int) then (iY.l0 k x0 (x3.set (x4:Int).toNat (rd x0 x4)) (wrap64 (x4 + 1))) else (none)) else (none)) else (some x3)
def iY.f (k:Nat) (l0:List Int):Option (List Int):=if 0≤(l0.length:Int) then (if ((l0.length:Int):Int).toNat≤35184372088832 then (iY.l0 k l0 (List.replicate ((l0.length:Int):Int).toNat 0) 0) else (none)) else (none)
def gY.l0:Nat→List (List (S66))→List (List (S70))→Int→Option ((List (List (S70))))
 |0,_,_,_=>none
 |k + 1,x0,x3,x4=>if x4 < (x0.length:Int) then (if 0≤x4 then ((eP.f k (AX x0 x4)).bind fun t359=>(if x4 < (x3.length:Int) then (gY.l0 k x0 (x3.set (x4:Int).toNat t359) (wrap64 (x4 + 1))) else (none))) else (none)) else (some x3)
def gY.f (k:Nat) (l0:List (List (S66))):Option ((List (List (S70)))):=if 0≤(l0.length:Int) then (if ((l0.length:Int):Int).toNat≤11728124029610 then (gY.l0 k l0 (List.replicate ((l0.length:Int):Int).toNat []) 0) else (none)) else (none)
def oW.f (k:Nat) (l0_0:List Int) (l0_1:List (List (S66))):Option (List Int × (List (List (S70)))):=(iY.f k l0_0).bind fun t366=>((gY.f k l0_1).bind fun t369=>(some (t366,t369)))
def fM.l0:Nat→List Int→List Int→Int→Int→Option (Bool)
 |0,_,_,_,_=>none
 |k + 1,x0,x5,x6,x7=>if x7 < x6 then (if 0≤x7 then (if x7 < (x5.length:Int) then (if (rd x5 x7) < 1 then (some false) else (if (rd x5 x7) > 4 then (some false) else (fM.l0 k x0 x5 x6 (wrap64 (x7 + 1))))) else (none)) else (none)) else (some (decide ((x0.length:Int)≤3)))
def fM.f (k:Nat) (l0:List Int):Option (Bool):=fM.l0 k l0 l0 (l0.length:Int) 0
mutual
def bU.j0:Nat→Bool→List Int→List (List (S70))→Option (Bool)
 |0,_,_,_=>none
 |k + 1,x20,x374000,x374001=>if x20=true then (some false) else (bU.l0 k x374001 (x374001.length:Int) 0 x374000 x374001)
def bU.l0:Nat→List (List (S70))→Int→Int→List Int→List (List (S70))→Option (Bool)
 |0,_,_,_,_,_=>none
 |k + 1,x22,x23,x24,x374000,x374001=>if x24 < x23 then (if 0≤x24 then (if x24 < (x22.length:Int) then ((kU.f k (mZ x22 x24) (x374000.length:Int)).bind fun t376=>(if t376=true then (bU.l0 k x22 x23 (wrap64 (x24 + 1)) x374000 x374001) else (some false))) else (none)) else (none)) else (some true)
end
def bU.f (k:Nat) (l0_0:List Int) (l0_1:List (List (S70))):Option (Bool):=(fM.f k l0_0).bind fun t374=>(if t374=true then (if (l0_1.length:Int) < 1 then (bU.j0 k true l0_0 l0_1) else (bU.j0 k (decide ((l0_1.length:Int) > 3)) l0_0 l0_1)) else (bU.j0 k true l0_0 l0_1))
def lD.f (l0:List Int):Option (List Int):=(some (([]:List Int):List Int)).bind fun y377=>(if y377.length + l0.length < 17592186044416 then (some (y377 ++ l0)) else (none))
def fC.l0:Nat→List (List (S70))→Int→Int→List Int→List (List (S70))→Option (List Int × (List (List (S70))) × Bool)
 |0,_,_,_,_,_=>none
 |k + 1,x16,x17,x18,x390000,x390001=>if x18 < x17 then (if 0≤x18 then (if x18 < (x16.length:Int) then ((aW.f k (mZ x16 x18)).bind fun t391=>(if x390001.length < 5864062014805 then (fC.l0 k x16 x17 (wrap64 (x18 + 1)) x390000 (x390001 ++ [t391])) else (none))) else (none)) else (none)) else (some (x390000,x390001,true))
def fC.f (k:Nat) (l0_0:List Int) (l0_1:List (List (S70))):Option (List Int × (List (List (S70))) × Bool):=(bU.f k l0_0 l0_1).bind fun t385=>(if t385=true then ((lD.f l0_0).bind fun t386=>(fC.l0 k l0_1 (l0_1.length:Int) 0 t386 ([]:List (List (S70))))) else (some (([]:List Int),([]:List (List (S70))),false)))
def iX.l0:Nat→List Int→List Int→Int→Option (Bool)
 |0,_,_,_=>none
 |k + 1,x0,x1,x5=>if x5 < (x0.length:Int) then (if 0≤x5 then (if x5 < (x1.length:Int) then (if (rd x0 x5)=(rd x1 x5) then (iX.l0 k x0 x1 (wrap64 (x5 + 1))) else (some false)) else (none)) else (none)) else (some true)
def iX.f (k:Nat) (l0:List Int) (l1:List Int):Option (Bool):=if (l0.length:Int)=(l1.length:Int) then (iX.l0 k l0 l1 0) else (some false)
def gU.l0:Nat→List (List (S70))→List (List (S70))→Int→Option (Bool)
 |0,_,_,_=>none
 |k + 1,x0,x1,x5=>if x5 < (x0.length:Int) then (if 0≤x5 then (if x5 < (x1.length:Int) then ((dX.f k (mZ x0 x5) (mZ x1 x5)).bind fun t401=>(if t401=true then (gU.l0 k x0 x1 (wrap64 (x5 + 1))) else (some false))) else (none)) else (none)) else (some true)
def gU.f (k:Nat) (l0:List (List (S70))) (l1:List (List (S70))):Option (Bool):=if (l0.length:Int)=(l1.length:Int) then (gU.l0 k l0 l1 0) else (some false)
def kZ.f (k:Nat) (l0_0:List Int) (l0_1:List (List (S70))) (l1_0:List Int) (l1_1:List (List (S70))):Option (Bool):=(iX.f k l0_0 l1_0).bind fun t404=>(if t404=true then ((gU.f k l0_1 l1_1).bind fun t405=>(if t405=true then (some true) else (some false))) else (some false))
def gW.l0:Nat→List Int→Int→Int→Option (Int × List Int)
 |0,_,_,_=>none
 |k + 1,x0,x1,x5=>if x5 < (x0.length:Int) then (if 0≤x5 then (gW.l0 k (x0.set (x5:Int).toNat x1) (wrap64 (x1 + 1)) (wrap64 (x5 + 1))) else (none)) else (some (x1,x0))
def gW.f (k:Nat) (l0:List Int) (a1:Int):Option (Int × List Int):=gW.l0 k l0 a1 0
def fP.l0:Nat→List (List S70)→Int→Int→Option (Int × List (List S70))
 |0,_,_,_=>none
 |k + 1,xs,n,i=>if i < (xs.length:Int) then (if 0≤i then ((dJ.f k (mZ xs i) n).bind fun t=>fP.l0 k (xs.set i.toNat t.2) t.1 (wrap64 (i + 1))) else none) else some (n,xs)
def fP.f (k:Nat) (xs:List (List S70)) (n:Int):Option (Int × List (List S70)):=fP.l0 k xs n 0
def kI.f (k:Nat) (a:List Int) (b:List (List S70)) (n:Int):Option (Int × List Int × List (List S70)):=(gW.f k a n).bind fun t=>(fP.f k b t.1).bind fun u=>some (u.1,t.2,u.2)
def gV.l0:Nat→List Int→Int→Int→Option (Int)
 |0,_,_,_=>none
 |k + 1,x0,x1,x5=>if x5 < (x0.length:Int) then (if 0≤x5 then (if (rd x0 x5)=x1 then (gV.l0 k x0 (wrap64 (x1 + 1)) (wrap64 (x5 + 1))) else (some (-1))) else (none)) else (some x1)
def gV.f (k:Nat) (l0:List Int) (a1:Int):Option (Int):=gV.l0 k l0 a1 0
def fO.l0:Nat→List (List (S70))→Int→Int→Option (Int)
 |0,_,_,_=>none
 |k + 1,x0,x1,x5=>if x5 < (x0.length:Int) then (if 0≤x5 then ((dV.f k (mZ x0 x5) x1).bind fun t409=>(if t409 < 0 then (some (-1)) else (fO.l0 k x0 t409 (wrap64 (x5 + 1))))) else (none)) else (some x1)
def fO.f (k:Nat) (l0:List (List (S70))) (a1:Int):Option (Int):=fO.l0 k l0 a1 0
def nL.f (k:Nat) (l0_0:List Int) (l0_1:List (List (S70))) (a1:Int):Option (Int):=(gV.f k l0_0 a1).bind fun t411=>(if t411 < 0 then (some (-1)) else ((fO.f k l0_1 t411).bind fun t412=>(if t412 < 0 then (some (-1)) else (some t412))))
def rC.f (k:Nat) (l0:List Int) (l1:List (List S66)):Option Bool:=(oV.f k l0 l1 1048576).bind fun left=>if left < 0 then some true else
 (oW.f k l0 l1).bind fun x=>(fD.f k x.1 x.2).bind fun w=>(fC.f k x.1 x.2).bind fun g=>
 (kZ.f k g.1 g.2.1 w.1 w.2.1).bind fun e1=>if e1=false then none else if g.2.2≠w.2.2 then none else
 (kZ.f k x.1 x.2 x.1 x.2).bind fun e2=>if e2=false then none else
 (kI.f k x.1 x.2 1).bind fun m1=>if m1.1 < 0 then none else
 (kI.f k g.1 g.2.1 1).bind fun m=>(nL.f k m.2.1 m.2.2 1).bind fun q=>if q < 0 then none else if q≠m.1 then none else some true
end Go.Proofs.Ythiegfpcfedbgaa.PA

namespace Go.Proofs.Ythiegfpcfedbgaa.Open
open Go.ChangeShapes Go.WideShapes Go.RowKit Go.Proofs.YthiegfpcfedbgaaW.PrintWords
section
variable {H:Type} {enc:TypeId × Value→H} {P:Program} {w:World} {base:Nat} {spare:Nat→Bool} {held:Bool}
def Opn {α:Type} (enc:TypeId × Value→H) (P:Program) (w:World) (base:Nat) (spare:Nat→Bool) (held:Bool) (F:Nat) (t:TypeId) (d:Kd α) (G:α→Prop):Prop:=
 ∀ f,f≤F→∀ cs x,DataW.trod enc P w base spare held f t cs=some x→∃ a,d.K w a cs∧G a
theorem Opn.le {α:Type} {F F':Nat} {t:TypeId} {d:Kd α} {G:α→Prop} (h:Opn enc P w base spare held F t d G) (hf:F'≤F):Opn enc P w base spare held F' t d G:=
 fun f hl=>h f (Nat.le_trans hl hf)
theorem Opn.int {F:Nat} {t:TypeId} {k:IntKind} (hu:P.underlying t=some (.int k)):Opn enc P w base spare held F t (Kd.int k) (fun n=>(Lit.int k n).wf=true):=by
 intro f _ cs x h
 cases f with
 |zero=>simp [DataW.trod] at h
 |succ n=>
  obtain ⟨m,rfl,hw⟩:∃ m,cs=[.int k m]∧(Lit.int k m).wf=true:=by
   unfold DataW.trod at h
   rw [hu] at h
   split at h <;> simp_all
  exact ⟨m,rfl,hw⟩
theorem collect {α:Type} {Q:Nat→α→Prop}:∀ m,(∀ i,i < m→∃ a,Q i a)→∃ l:List α,l.length=m∧∀ i p,l[i]?=some p→Q i p
 |0,_=>⟨[],rfl,fun i p h=>by simp at h⟩
 |m + 1,h=>by
  obtain ⟨l,hl,hq⟩:=collect m (fun i hi=>h i (by omega))
  obtain ⟨a,ha⟩:=h m (by omega)
  refine ⟨l ++ [a],by simp [hl],fun i p hp=>?_⟩
  rcases Nat.lt_or_ge i l.length with hlt|hge
  ·rw [List.getElem?_append_left hlt] at hp
   exact hq i p hp
  ·rw [List.getElem?_append_right hge] at hp
   have hi:i - l.length=0:=by
    rcases Nat.eq_zero_or_pos (i - l.length) with h0|h0
    ·exact h0
    ·rw [List.getElem?_eq_none (by simp;omega)] at hp
     cases hp
   rw [hi] at hp
   simp at hp
   subst hp
   have:i=m:=by omega
   subst this
   exact ha
theorem Opn.slice {α:Type} {F:Nat} {t e:TypeId} {d:Kd α} {G:α→Prop} (hu:P.underlying t=some (.slice e)) (hc:P.cellsOf e=d.sz) (h:∀ F',F' < F→Opn enc P w base spare held F' e d G):
  Opn enc P w base spare held F t (Kd.slice e d) (fun l=>l.length≤maxLen∧∀ x ∈ l,G x):=by
 intro f hfF cs x hx
 rcases DataW.trod_slice hu hx with ⟨rfl,_⟩|⟨a,len,cap,elems,rest,n,rfl,rfl,_,_,hl,hm,hlen,hel,_,_⟩
 ·exact ⟨[],⟨none,0,rfl,Nat.le_refl _,rfl,by simp,fun hp=>absurd hp (Nat.lt_irrefl 0)⟩,by simp,fun x hx=>by simp at hx⟩
 ·obtain ⟨l,hll,hq⟩:=collect (Q:=fun i p=>(∃ c,c.length=d.sz∧d.K w p c∧∀ j u,c[j]?=some u→w.cell? (a.add (i * d.sz + j))=some u)∧G p) len (fun i hi=>by
   have h1:=hel i hi
   have h2:elems[i]?=some (elems[i]'(by omega)):=List.getElem?_eq_getElem (by omega)
   rw [h2] at h1
   obtain ⟨c,hc1,hc2⟩:=Option.bind_eq_some_iff.1 h1
   obtain ⟨p,hp,hg⟩:=h n (by omega) n (Nat.le_refl _) c _ hc2
   obtain ⟨_,hcl,hat⟩:=World.cells?_some hc1
   refine ⟨p,⟨c,d.K_len hp,hp,fun j u hj=>?_⟩,hg⟩
   have hjl:j < c.length:=(List.getElem?_eq_some_iff.1 hj).1
   have h3:=hat j (by omega)
   rw [hj] at h3
   rw [← hc,← Go.Deep.add_add]
   exact h3)
  have hml:maxLen=9223372036854775807:=rfl
  refine ⟨l,⟨some a,cap,by rw [hll],by omega,rfl,by omega,fun _=>⟨a,rfl,fun j p hj=>(hq j p hj).1⟩⟩,by omega,fun x hx=>?_⟩
  obtain ⟨i,hi,rfl⟩:=List.getElem_of_mem hx
  exact (hq i _ (List.getElem?_eq_getElem hi)).2
theorem field {α:Type} {n o s j:Nat} {t:TypeId} {fs:Array Field} {f:Field} {cs:List Value} {xs:List (DataW H × List MemPlace)} {d:Kd α} {G:α→Prop}
  (hg:∀ (i:Nat) (f:Field),fs[i]?=some f→DataW.trod enc P w base spare held n f.type ((cs.drop f.offset).take (P.cellsOf f.type))=xs[i]?) (hxl:xs.length=fs.size)
  (hj:fs[j]?=some f) (ho:f.offset=o) (hs:P.cellsOf f.type=s) (ht:f.type=t) (h:Opn enc P w base spare held n t d G):∃ a,d.K w a ((cs.drop o).take s)∧G a:=by
 have h1:=hg j f hj
 have hjl:j < fs.size:=(Array.getElem?_eq_some_iff.1 hj).1
 rw [List.getElem?_eq_getElem (by omega),ho,hs,ht] at h1
 exact h n (Nat.le_refl _) _ _ h1
theorem gQ {o s o':Nat} {cs c0:List Value} (h:(cs.drop o).take s=c0) (ho:o + s=o'):cs.drop o=c0 ++ cs.drop o':=by
 rw [← h,← ho,← List.drop_drop,List.take_append_drop]
theorem rF {o:Nat} {cs:List Value} (h:cs.length=o):cs.drop o=[]:=by rw [List.drop_eq_nil_iff];omega
end
end Go.Proofs.Ythiegfpcfedbgaa.Open

namespace Go.Proofs.Ythiegfpcfedbgaa.PA
open Go.RowKit Go.Proofs.YthiegfpcfedbgaaW.PrintWords Go.Proofs.Ythiegfpcfedbgaa.Open
set_option linter.unusedVariables false
inductive tV:S24→Prop
 |mk (x:S24) (h0:(Lit.int .i64 x.f0).wf=true) (h1:(Lit.int .i64 x.f1).wf=true) (h2:x.f2.length≤maxLen) (g2:∀ y ∈ x.f2,tV y):tV x
theorem DI {H:Type} {enc:TypeId × Value→H} {w:World} {base:Nat} {spare:Nat→Bool} {held:Bool} (F:Nat):Opn enc Try.prog w base spare held F 24 k24 tV:=by
 induction F using Nat.strongRecOn with
 | _ F ih=>
 intro f hfF cs x h
 obtain ⟨xs,n,rfl,_,hcs,hxl,hg⟩:=DataW.trod_struct Try.underlying24 h
 replace hcs:cs.length=3:=hcs.trans (by kernel_rfl)
 obtain ⟨a0,K0,G0⟩:=field (j:=0) (o:=0) (s:=1) (t:=3) hg hxl rfl rfl (by kernel_rfl) rfl (Opn.int Try.underlying3)
 have E0:(cs.drop 0).take 1=[.int .i64 a0]:=K0
 obtain ⟨a1,K1,G1⟩:=field (j:=1) (o:=1) (s:=1) (t:=3) hg hxl rfl rfl (by kernel_rfl) rfl (Opn.int Try.underlying3)
 have E1:(cs.drop 1).take 1=[.int .i64 a1]:=K1
 obtain ⟨a2,K2,G2⟩:=field (j:=2) (o:=2) (s:=1) (t:=22) hg hxl rfl rfl (by kernel_rfl) rfl (Opn.slice Try.underlying22 (by kernel_rfl) (fun F' hF'=>(ih F' (by omega))))
 obtain ⟨A2,c2,E2,L2,C2⟩:=K2
 have e:cs=[.int .i64 a0, .int .i64 a1, .slice A2 a2.length c2]:=by
  rw [show cs=cs.drop 0 from rfl,(gQ (o':=1) E0 rfl),(gQ (o':=2) E1 rfl),(gQ (o':=3) E2 rfl),rF hcs]
  rfl
 subst e
 exact ⟨⟨a0,a1,a2⟩,BS w ⟨a0,a1,a2⟩ L2 C2,tV.mk _ G0 G1 G2.1 G2.2⟩
def bL.Pure:Prop:=∀ (a0_0:Int) (a0_1:Int) (l0_2:List (S24)),(Lit.int .i64 a0_0).wf=true→(Lit.int .i64 a0_1).wf=true→(l0_2.length≤maxLen∧∀ y ∈ l0_2,tV y)→∃ k,bL.f k a0_0 a0_1 l0_2=some true
open Go.Proofs.YthiegfpcfedbgaaW.PrintLast Go.Proofs.YthiegfpcfedbgaaW.PrintMore
attribute [local go_sem] max2_int min2_int max_two min_two max_three min_three max_four min_four
set_option linter.unusedVariables false
set_option linter.unusedSimpArgs false
theorem cK.calls (a0:Int) (r:Bool) (w:World) (h:cK.f a0=some r):
  Calls Try.prog 77 #[.int .i64 a0] w fun e w'=>e= .returned (.bool r)∧dK w w':=by
 have H:(if a0≥1 then (some (decide (a0≤12))) else (some false))=some r:=h
 clear h
 by_cases c2:a0≥1
 ·rw [if_pos c2] at H
  have j3:decide (1≤a0)=true:=decide_eq_true c2
  clear c2
  obtain rfl:=Option.some.inj H
  go_enter Try.func77,Try.ntmps77
  go_wp2
  go_ret
  exact ⟨sd_,dD⟩
 rw [if_neg c2] at H
 have j3:decide (1≤a0)=false:=decide_eq_false c2
 clear c2
 obtain rfl:=Option.some.inj H
 go_enter Try.func77,Try.ntmps77
 go_wp2
 go_ret
 exact ⟨sd_,dD⟩
theorem aS.mono_l:∀ k,(∀ y0 y1 y2 y3,LeO (aS.f k y0 y1 y2 y3) (aS.f (k + 1) y0 y1 y2 y3))
 |0=>fun _ _ _ _ r h=>by simp [aS.f] at h
 |k + 1=>by
  have ih0:=aS.mono_l k
  ·intro y0 y1 y2 y3
   unfold aS.f
   exact mo_
theorem aS.mono:∀ a0 a1 a2 a3 k,LeO (aS.f k a0 a1 a2 a3) (aS.f (k + 1) a0 a1 a2 a3):=by
 intro a0 a1 a2 a3 k
 have ih0:=aS.mono_l k
 exact ih0 a0 a1 a2 a3
theorem aS.calls (k:Nat):∀ (j7:Int) (j8:Int) (jg:Option Addr) (jh:Nat) (j3:List (S28)) (a1:Int) (r:Bool) (w:World) (hr0_2:Kd.C k28 w jg j3.length j3) (hc0_2:j3.length≤jh) (h:aS.f k j7 j8 j3 a1=some r),
  Calls Try.prog 61 #[.agg #[.int .i64 j7, .int .i64 j8, .slice jg j3.length jh], .int .i64 a1] w fun e w'=>e= .returned (.bool r)∧Below w.heap.size w w':=by
 induction k using Nat.strongRecOn with
 | _ k ih=>
 intro j7 j8 jg jh j3 a1 r w hr0_2 hc0_2 h
 cases k with
 |zero=>exact absurd h (by simp [aS.f])
 |succ k=>
 simp only [aS.f] at h
 have hu28:=Try.underlying28
 have jf:=am hr0_2
 have qa:=am hc0_2
 clear hr0_2 hc0_2
 have HB:=am (Below.refl w.heap.size w)
 have H:=h
 clear h
 have HH_:=am H
 clear H
 go_enter Try.func61,Try.ntmps61
 go_upto_region 1 with (first|((with_reducible refine aV (N:=2) rfl ?_);(try (refine oO (by rfl) ?_;dsimp only));refine aY rfl (N:=2) rfl (cs:=#[.int .i64 j7, .int .i64 j8, .slice jg j3.length jh]) (t:=28) rn_ ?_;intro ju hg w7 hbox hb;have jc:=am (hbox);have qm:=am ((by rw [hg];exact (aJ dO):w.heap.size≤ju));have GE23:=am ((by rw [hg];exact (aJ dO):w.heap.size≤ju));replace HB:=am (aF dO hb);clear hb hbox hg;obtain ⟨jT,jU,jV,jW,jX,jY⟩:=bQ jc.out))
 have H:=HH_.out
 clear HH_
 by_cases c3:j7=0
 ·rw [if_pos c3] at H
  have jZ:(j7 == 0)=true:=beq_iff_eq.mpr c3
  have q0:(j7 != 0)=false:=bne_eq_false_iff_eq.mpr c3
  clear c3
  by_cases c4:j8≥0
  ·rw [if_pos c4] at H
   have q1:decide (0≤j8)=true:=decide_eq_true c4
   clear c4
   by_cases c5:j8≤99999
   ·rw [if_pos c5] at H
    have q2:decide (j8≤99999)=true:=decide_eq_true c5
    clear c5
    by_cases c6:(j3.length:Int)=0
    ·rw [if_pos c6] at H
     have q3:((j3.length:Int) == 0)=true:=beq_iff_eq.mpr c6
     have q4:((j3.length:Int) != 0)=false:=bne_eq_false_iff_eq.mpr c6
     clear c6
     obtain rfl:=Option.some.inj H
     go_wp2
     go_ret
     exact ⟨rr_,iR⟩
    rw [if_neg c6] at H
    have q3:((j3.length:Int) == 0)=false:=beq_eq_false_iff_ne.mpr c6
    have q4:((j3.length:Int) != 0)=true:=bne_iff_ne.mpr c6
    have qn:¬ (j3=[]):=fun h_=>c6 (by rw [h_];rfl)
    obtain rfl:=Option.some.inj H
    go_wp2
    go_ret
    exact ⟨rr_,iR⟩
   rw [if_neg c5] at H
   have q2:decide (j8≤99999)=false:=decide_eq_false c5
   clear c5
   obtain rfl:=Option.some.inj H
   go_wp2
   go_ret
   exact ⟨rr_,iR⟩
  rw [if_neg c4] at H
  have q1:decide (0≤j8)=false:=decide_eq_false c4
  clear c4
  obtain rfl:=Option.some.inj H
  go_wp2
  go_ret
  exact ⟨rr_,iR⟩
 rw [if_neg c3] at H
 have jZ:(j7 == 0)=false:=beq_eq_false_iff_ne.mpr c3
 have q0:(j7 != 0)=true:=bne_iff_ne.mpr c3
 by_cases jj:j7=13
 ·rw [if_pos jj] at H
  have jv:(j7 == 13)=true:=beq_iff_eq.mpr jj
  have jw:(j7 != 13)=false:=bne_eq_false_iff_eq.mpr jj
  clear jj
  by_cases jq:j8≥0
  ·rw [if_pos jq] at H
   have jx:decide (0≤j8)=true:=decide_eq_true jq
   clear jq
   by_cases jr:j8 < 4
   ·rw [if_pos jr] at H
    have jy:decide (j8 < 4)=true:=decide_eq_true jr
    clear jr
    by_cases ji:(j3.length:Int)=0
    ·rw [if_pos ji] at H
     have jz:((j3.length:Int) == 0)=true:=beq_iff_eq.mpr ji
     have jA:((j3.length:Int) != 0)=false:=bne_eq_false_iff_eq.mpr ji
     clear ji
     obtain rfl:=Option.some.inj H
     go_wp2
     go_ret
     exact ⟨rr_,iR⟩
    rw [if_neg ji] at H
    have jz:((j3.length:Int) == 0)=false:=beq_eq_false_iff_ne.mpr ji
    have jA:((j3.length:Int) != 0)=true:=bne_iff_ne.mpr ji
    have qb:¬ (j3=[]):=fun h_=>ji (by rw [h_];rfl)
    obtain rfl:=Option.some.inj H
    go_wp2
    go_ret
    exact ⟨rr_,iR⟩
   rw [if_neg jr] at H
   have jy:decide (j8 < 4)=false:=decide_eq_false jr
   clear jr
   obtain rfl:=Option.some.inj H
   go_wp2
   go_ret
   exact ⟨rr_,iR⟩
  rw [if_neg jq] at H
  have jx:decide (0≤j8)=false:=decide_eq_false jq
  clear jq
  obtain rfl:=Option.some.inj H
  go_wp2
  go_ret
  exact ⟨rr_,iR⟩
 rw [if_neg jj] at H
 have jv:(j7 == 13)=false:=beq_eq_false_iff_ne.mpr jj
 have jw:(j7 != 13)=true:=bne_iff_ne.mpr jj
 obtain ⟨qo,qc,H⟩:=bsm H
 (try dsimp only at H)
 have js:=am qc
 clear qc
 by_cases jJ:qo=true
 ·subst jJ
  rw [if_pos rfl] at H
  by_cases jk:j8=0
  ·rw [if_pos jk] at H
   have jB:(j8 == 0)=true:=beq_iff_eq.mpr jk
   have jC:(j8 != 0)=false:=bne_eq_false_iff_eq.mpr jk
   clear jk
   by_cases jl:(j3.length:Int)=2
   ·rw [if_pos jl] at H
    have jD:((j3.length:Int) == 2)=true:=beq_iff_eq.mpr jl
    have jE:((j3.length:Int) != 2)=false:=bne_eq_false_iff_eq.mpr jl
    clear jl
    by_cases jt:a1 > 1
    ·rw [if_pos jt] at H
     have jF:decide (1 < a1)=true:=decide_eq_true jt
     clear jt
     by_cases jK:0 < (j3.length:Int)
     ·rw [if_pos jK] at H
      have qd:decide (0 < (j3.length:Int))=true:=decide_eq_true jK
      have qe:decide (0 < j3.length)=true:=decide_eq_true (by omega)
      clear jK
      obtain ⟨qp,qf,H⟩:=bsm H
      (try dsimp only at H)
      have qg:=am qf
      clear qf
      by_cases jL:qp=true
      ·subst jL
       rw [if_pos rfl] at H
       by_cases jM:1 < (j3.length:Int)
       ·rw [if_pos jM] at H
        have qh:decide (1 < (j3.length:Int))=true:=decide_eq_true jM
        have qi:decide (1 < j3.length)=true:=decide_eq_true (by omega)
        clear jM
        obtain ⟨qq,qj,H⟩:=bsm H
        (try dsimp only at H)
        have qr:=am qj
        clear qj
        obtain rfl:=Option.some.inj H
        go_wp2_with (first|((with_reducible refine aC (f:=77) rfl ?_);refine aP (some 51) rfl rfl Try.func77 (by kernel_rfl) rfl #[.int .i64 j7] rfl bY ?_;(with_reducible refine (cK.calls j7 true _ js.out).mono ?_);rintro e w' ⟨rfl,⟨nd,rfl⟩⟩;refine ⟨_,rfl,?_⟩;have jm:0≤(0:Int):=(by omega);have jn:0 < (j3.length:Int):=of_decide_eq_true eT;obtain ⟨jG,jH,jI,q5,j4,j5,j6,hl37_2,hi37_2⟩:=dU jf.out 0 jm jn;cases q5;have q6:(0 < j3.length)=True:=eq_true (by omega);(try rw [show ((0:Int)).toNat=0 from rfl] at j4);(try rw [show 0 * 3=0 from rfl] at j4);(try rw [Addr.add_zero'] at j4);(try rw [show ((0:Int)).toNat=0 from rfl] at j5);(try rw [show 0 * 3=0 from rfl] at j5);(try rw [Addr.add_zero'] at j5);(try rw [show ((0:Int)).toNat=0 from rfl] at j6);(try rw [show 0 * 3=0 from rfl] at j6);(try rw [Addr.add_zero'] at j6);replace j4:=(HB.out.cell (World.block_lt_of_cell? w _ j4)).trans j4;replace j5:=(HB.out.cell (World.block_lt_of_cell? w _ j5)).trans j5;replace j6:=(HB.out.cell (World.block_lt_of_cell? w _ j6)).trans j6;have jd:=am hi37_2;have je:=am hl37_2;clear hi37_2 hl37_2;replace jm:=eq_true jm;replace jn:=eq_true jn)|(go_at_call 61;(with_reducible refine (ih k (by omega) ((aH j3 0).f0) ((aH j3 0).f1) _ _ ((aH j3 0).f2) (wrap64 (a1 - 1)) true _ (aC_ (Kd.bA jd.out iR)) je.out qg.out).mono ?_);rintro e qu ⟨rfl,hb⟩;replace jc:=bbP jc hb;replace HB:=am (aF iR hb);(try clear hb);obtain ⟨jN,jO,jP,jQ,jR,jS⟩:=bQ jc.out;have q7:0≤(1:Int):=(by omega);have q8:1 < (j3.length:Int):=of_decide_eq_true eT;obtain ⟨q9,qk,ql,qs,j9,ja,jb,hl38_2,hi38_2⟩:=dU jf.out 1 q7 q8;obtain rfl:jG=q9:=(by injection qs);(try simp only [show (1:Int).toNat=1 from rfl,Nat.reduceMul,Nat.reduceEqDiff,Go.Addr.add,↓reduceIte] at j9);(try simp only [show (1:Int).toNat=1 from rfl,Nat.reduceMul,Nat.reduceEqDiff,Go.Addr.add,↓reduceIte] at ja);(try simp only [show (1:Int).toNat=1 from rfl,Nat.reduceMul,Nat.reduceEqDiff,Go.Addr.add,↓reduceIte] at jb);have qt:(1 < j3.length)=True:=eq_true (by omega);(try rw [show ((1:Int)).toNat=1 from rfl] at j9);(try rw [show 1 * 3=3 from rfl] at j9);(try rw [show ((1:Int)).toNat=1 from rfl] at ja);(try rw [show 1 * 3=3 from rfl] at ja);(try rw [show ((1:Int)).toNat=1 from rfl] at jb);(try rw [show 1 * 3=3 from rfl] at jb);replace j9:=(HB.out.cell (World.block_lt_of_cell? w _ j9)).trans j9;replace ja:=(HB.out.cell (World.block_lt_of_cell? w _ ja)).trans ja;replace jb:=(HB.out.cell (World.block_lt_of_cell? w _ jb)).trans jb;have jo:=am hi38_2;have jp:=am hl38_2;clear hi38_2 hl38_2;replace q7:=eq_true q7;replace q8:=eq_true q8)|(go_at_call 61;(with_reducible refine (ih k (by omega) ((aH j3 1).f0) ((aH j3 1).f1) _ _ ((aH j3 1).f2) (wrap64 (a1 - 1)) qq _ (aC_ (Kd.bA jo.out HB.out)) jp.out qr.out).mono ?_);rintro e qv ⟨rfl,hb⟩;replace jc:=bbP jc hb;replace HB:=am (aF iR hb);(try clear hb)))
        go_ret
        exact ⟨rr_,iR⟩
       rw [if_neg jM] at H
       exact absurd H (by simp)
      replace jL:=Bool.eq_false_iff.mpr jL
      subst jL
      rw [if_neg (show ¬ (false=true) by decide)] at H
      obtain rfl:=Option.some.inj H
      go_wp2_with (first|((with_reducible refine aC (f:=77) rfl ?_);refine aP (some 51) rfl rfl Try.func77 (by kernel_rfl) rfl #[.int .i64 j7] rfl bY ?_;(with_reducible refine (cK.calls j7 true _ js.out).mono ?_);rintro e w' ⟨rfl,⟨nd,rfl⟩⟩;refine ⟨_,rfl,?_⟩;have jm:0≤(0:Int):=(by omega);have jn:0 < (j3.length:Int):=of_decide_eq_true eT;obtain ⟨jG,jH,jI,q5,j4,j5,j6,hl37_2,hi37_2⟩:=dU jf.out 0 jm jn;cases q5;have q6:(0 < j3.length)=True:=eq_true (by omega);(try rw [show ((0:Int)).toNat=0 from rfl] at j4);(try rw [show 0 * 3=0 from rfl] at j4);(try rw [Addr.add_zero'] at j4);(try rw [show ((0:Int)).toNat=0 from rfl] at j5);(try rw [show 0 * 3=0 from rfl] at j5);(try rw [Addr.add_zero'] at j5);(try rw [show ((0:Int)).toNat=0 from rfl] at j6);(try rw [show 0 * 3=0 from rfl] at j6);(try rw [Addr.add_zero'] at j6);replace j4:=(HB.out.cell (World.block_lt_of_cell? w _ j4)).trans j4;replace j5:=(HB.out.cell (World.block_lt_of_cell? w _ j5)).trans j5;replace j6:=(HB.out.cell (World.block_lt_of_cell? w _ j6)).trans j6;have jd:=am hi37_2;have je:=am hl37_2;clear hi37_2 hl37_2;replace jm:=eq_true jm;replace jn:=eq_true jn)|(go_at_call 61;(with_reducible refine (ih k (by omega) ((aH j3 0).f0) ((aH j3 0).f1) _ _ ((aH j3 0).f2) (wrap64 (a1 - 1)) false _ (aC_ (Kd.bA jd.out iR)) je.out qg.out).mono ?_);rintro e qw ⟨rfl,hb⟩;replace jc:=bbP jc hb;replace HB:=am (aF iR hb);(try clear hb)))
      go_ret
      exact ⟨rr_,iR⟩
     rw [if_neg jK] at H
     exact absurd H (by simp)
    rw [if_neg jt] at H
    have jF:decide (1 < a1)=false:=decide_eq_false jt
    clear jt
    obtain rfl:=Option.some.inj H
    go_wp2_with (first|((with_reducible refine aC (f:=77) rfl ?_);refine aP (some 51) rfl rfl Try.func77 (by kernel_rfl) rfl #[.int .i64 j7] rfl bY ?_;(with_reducible refine (cK.calls j7 true _ js.out).mono ?_);rintro e w' ⟨rfl,⟨nd,rfl⟩⟩;refine ⟨_,rfl,?_⟩))
    go_ret
    exact ⟨rr_,iR⟩
   rw [if_neg jl] at H
   have jD:((j3.length:Int) == 2)=false:=beq_eq_false_iff_ne.mpr jl
   have jE:((j3.length:Int) != 2)=true:=bne_iff_ne.mpr jl
   obtain rfl:=Option.some.inj H
   go_wp2_with (first|((with_reducible refine aC (f:=77) rfl ?_);refine aP (some 51) rfl rfl Try.func77 (by kernel_rfl) rfl #[.int .i64 j7] rfl bY ?_;(with_reducible refine (cK.calls j7 true _ js.out).mono ?_);rintro e w' ⟨rfl,⟨nd,rfl⟩⟩;refine ⟨_,rfl,?_⟩))
   go_ret
   exact ⟨rr_,iR⟩
  rw [if_neg jk] at H
  have jB:(j8 == 0)=false:=beq_eq_false_iff_ne.mpr jk
  have jC:(j8 != 0)=true:=bne_iff_ne.mpr jk
  obtain rfl:=Option.some.inj H
  go_wp2_with (first|((with_reducible refine aC (f:=77) rfl ?_);refine aP (some 51) rfl rfl Try.func77 (by kernel_rfl) rfl #[.int .i64 j7] rfl bY ?_;(with_reducible refine (cK.calls j7 true _ js.out).mono ?_);rintro e w' ⟨rfl,⟨nd,rfl⟩⟩;refine ⟨_,rfl,?_⟩))
  go_ret
  exact ⟨rr_,iR⟩
 replace jJ:=Bool.eq_false_iff.mpr jJ
 subst jJ
 rw [if_neg (show ¬ (false=true) by decide)] at H
 obtain rfl:=Option.some.inj H
 go_wp2_with (first|((with_reducible refine aC (f:=77) rfl ?_);refine aP (some 51) rfl rfl Try.func77 (by kernel_rfl) rfl #[.int .i64 j7] rfl bY ?_;(with_reducible refine (cK.calls j7 false _ js.out).mono ?_);rintro e w' ⟨rfl,⟨nd,rfl⟩⟩;refine ⟨_,rfl,?_⟩))
 go_ret
 exact ⟨rr_,iR⟩
theorem bN.mono:∀ a0 a1 a2 k,LeO (bN.f k a0 a1 a2) (bN.f (k + 1) a0 a1 a2):=by
 intro a0 a1 a2 k
 unfold bN.f
 have m0:=@aS.mono
 exact mo_
theorem bN.calls (k:Nat) (j4:Int) (j5:Int) (j6:Option Addr) (j7:Nat) (j3:List (S28)) (r:Bool) (w:World) (hr0_2:Kd.C k28 w j6 j3.length j3) (hc0_2:j3.length≤j7) (h:bN.f k j4 j5 j3=some r):
  Calls Try.prog 31 #[.agg #[.int .i64 j4, .int .i64 j5, .slice j6 j3.length j7]] w fun e w'=>e= .returned (.bool r)∧Below w.heap.size w w':=by
 have hu28:=Try.underlying28
 have j9:=am hr0_2
 have ja:=am hc0_2
 clear hr0_2 hc0_2
 have HB:=am (Below.refl w.heap.size w)
 have H:((aS.f k j4 j5 j3 5).bind fun jc=>(some jc))=some r:=h
 clear h
 obtain ⟨jc,A2,H⟩:=bsa H
 (try dsimp only at H)
 obtain rfl:=Option.some.inj H
 go_enter Try.func31,Try.ntmps31
 go_wp2_with (first|((with_reducible refine aV (N:=1) rfl ?_);refine aY rfl (N:=1) rfl (cs:=#[.int .i64 j4, .int .i64 j5, .slice j6 j3.length j7]) (t:=28) rn_ ?_;intro jb hg w3 hbox hb;have j8:=am (hbox);have jj:=am ((by rw [hg];exact (aJ dO):w.heap.size≤jb));have GE22:=am ((by rw [hg];exact (aJ dO):w.heap.size≤jb));replace HB:=am (aF dO hb);clear hb hbox hg;obtain ⟨jd,je,jf,jg,jh,ji⟩:=bQ j8.out)|((with_reducible refine aC (f:=61) rfl ?_);refine aP (some 4) rfl rfl Try.func61 (by kernel_rfl) rfl #[.agg #[.int .i64 j4, .int .i64 j5, .slice j6 j3.length j7], .int .i64 5] rfl bY ?_;(with_reducible refine (aS.calls k j4 j5 _ _ j3 5 jc _ (aC_ (Kd.bA j9.out HB.out)) ja.out A2.out).mono ?_);rintro e w5 ⟨rfl,hb⟩;refine ⟨_,rfl,?_⟩;replace j8:=bbP j8 hb;replace HB:=am (aF vX hb);(try clear hb)))
 go_ret
 exact ⟨rr_,vX⟩
theorem fA.calls (a0:Bool) (r:Int) (w:World) (h:fA.f a0=some r):
  Calls Try.prog 78 #[.bool a0] w fun e w'=>e= .returned (.int .i64 r)∧dK w w':=by
 have H:(if a0=true then (some 1) else (some 0))=some r:=h
 clear h
 by_cases c2:a0=true
 ·subst c2
  rw [if_pos rfl] at H
  obtain rfl:=Option.some.inj H
  go_enter Try.func78,Try.ntmps78
  go_wp2
  go_ret
  exact ⟨sd_,dD⟩
 replace c2:=Bool.eq_false_iff.mpr c2
 subst c2
 rw [if_neg (show ¬ (false=true) by decide)] at H
 obtain rfl:=Option.some.inj H
 go_enter Try.func78,Try.ntmps78
 go_wp2
 go_ret
 exact ⟨sd_,dD⟩
theorem dF.calls (a0:Int) (r:Int) (w:World) (h:dF.f a0=some r):
  Calls Try.prog 79 #[.int .i64 a0] w fun e w'=>e= .returned (.int .i64 r)∧dK w w':=by
 have H:(some (wrap64 (wrap32 (a0))))=some r:=h
 clear h
 obtain rfl:=Option.some.inj H
 go_enter Try.func79,Try.ntmps79
 go_wp2
 go_ret
 exact ⟨sd_,dD⟩
theorem dG.calls (a0:Int) (a1:Int) (a2:Int) (r:Int) (w:World) (h:dG.f a0 a1 a2=some r):
  Calls Try.prog 62 #[.int .i64 a0, .int .i64 a1, .int .i64 a2] w fun e w'=>e= .returned (.int .i64 r)∧dK w w':=by
 unfold dG.f at h
 have H:=h
 clear h
 by_cases c4:a0=1
 ·rw [if_pos c4] at H
  have jt:(a0 == 1)=true:=beq_iff_eq.mpr c4
  have ju:(a0 != 1)=false:=bne_eq_false_iff_eq.mpr c4
  clear c4
  obtain rfl:=Option.some.inj H
  go_enter Try.func62,Try.ntmps62
  go_wp2
  go_ret
  exact ⟨sd_,dD⟩
 rw [if_neg c4] at H
 have jt:(a0 == 1)=false:=beq_eq_false_iff_ne.mpr c4
 have ju:(a0 != 1)=true:=bne_iff_ne.mpr c4
 by_cases c5:a0=2
 ·rw [if_pos c5] at H
  have jv:(a0 == 2)=true:=beq_iff_eq.mpr c5
  have jw:(a0 != 2)=false:=bne_eq_false_iff_eq.mpr c5
  clear c5
  obtain rfl:=Option.some.inj H
  go_enter Try.func62,Try.ntmps62
  go_wp2
  go_ret
  exact ⟨sd_,dD⟩
 rw [if_neg c5] at H
 have jv:(a0 == 2)=false:=beq_eq_false_iff_ne.mpr c5
 have jw:(a0 != 2)=true:=bne_iff_ne.mpr c5
 by_cases c6:a0=3
 ·rw [if_pos c6] at H
  have jx:(a0 == 3)=true:=beq_iff_eq.mpr c6
  have jy:(a0 != 3)=false:=bne_eq_false_iff_eq.mpr c6
  clear c6
  obtain rfl:=Option.some.inj H
  go_enter Try.func62,Try.ntmps62
  go_wp2
  go_ret
  exact ⟨sd_,dD⟩
 rw [if_neg c6] at H
 have jx:(a0 == 3)=false:=beq_eq_false_iff_ne.mpr c6
 have jy:(a0 != 3)=true:=bne_iff_ne.mpr c6
 by_cases c7:a0=4
 ·rw [if_pos c7] at H
  have jz:(a0 == 4)=true:=beq_iff_eq.mpr c7
  have jA:(a0 != 4)=false:=bne_eq_false_iff_eq.mpr c7
  clear c7
  obtain ⟨jN,A8,H⟩:=bsa H
  (try dsimp only at H)
  obtain rfl:=Option.some.inj H
  go_enter Try.func62,Try.ntmps62
  go_wp2_with (first|((with_reducible refine aC (f:=78) rfl ?_);refine aP (some 28) rfl rfl Try.func78 (by kernel_rfl) rfl #[.bool (a1 == a2)] rfl bY ?_;(with_reducible refine (fA.calls (a1 == a2) jN _ A8.out).mono ?_);rintro e w' ⟨rfl,⟨nd,rfl⟩⟩;refine ⟨_,rfl,?_⟩))
  go_ret
  exact ⟨sd_,dD⟩
 rw [if_neg c7] at H
 have jz:(a0 == 4)=false:=beq_eq_false_iff_ne.mpr c7
 have jA:(a0 != 4)=true:=bne_iff_ne.mpr c7
 by_cases c9:a0=5
 ·rw [if_pos c9] at H
  have jB:(a0 == 5)=true:=beq_iff_eq.mpr c9
  have jC:(a0 != 5)=false:=bne_eq_false_iff_eq.mpr c9
  clear c9
  obtain ⟨jO,jE,H⟩:=bsm H
  (try dsimp only at H)
  have jP:=am jE
  clear jE
  obtain rfl:=Option.some.inj H
  go_enter Try.func62,Try.ntmps62
  go_wp2_with (first|((with_reducible refine aC (f:=78) rfl ?_);refine aP (some 34) rfl rfl Try.func78 (by kernel_rfl) rfl #[.bool (decide (a1 < a2))] rfl bY ?_;(with_reducible refine (fA.calls (decide (a1 < a2)) jO _ jP.out).mono ?_);rintro e w' ⟨rfl,⟨nd,rfl⟩⟩;refine ⟨_,rfl,?_⟩))
  go_ret
  exact ⟨sd_,dD⟩
 rw [if_neg c9] at H
 have jB:(a0 == 5)=false:=beq_eq_false_iff_ne.mpr c9
 have jC:(a0 != 5)=true:=bne_iff_ne.mpr c9
 by_cases j3:a0=6
 ·rw [if_pos j3] at H
  have jb:(a0 == 6)=true:=beq_iff_eq.mpr j3
  have jc:(a0 != 6)=false:=bne_eq_false_iff_eq.mpr j3
  clear j3
  by_cases jd:0≤(Go.bits .and .i64 a2 31)
  ·rw [if_pos jd] at H
   have jF:=eq_true jd
   have jG:decide (0≤(Go.bits .and .i64 a2 31))=true:=decide_eq_true jd
   clear jd
   obtain ⟨ji13,hji13⟩:∃ j_:Int,(shl .i64 a1 (Go.bits .and .i64 a2 31))=j_:=⟨_,rfl⟩
   replace H:((dF.f (ji13)).bind fun jD=>(some jD))=some r:=by first|(rw [hji13] at H;exact H)|(simp only [hji13] at H ⊢;exact H)
   have hji13_:(IntKind.i64.wrap (a1 * 2 ^ min (Go.bits .and .i64 a2 31).toNat 64))=ji13:=hji13
   have hji13z:(Go.bits .and .i64 a2 31)≤64→(IntKind.i64.wrap (a1 * 2 ^ (Go.bits .and .i64 a2 31).toNat))=ji13:=rH hji13
   have hji13y:(wrap64 (a1 * 2 ^ min (Go.bits .and .i64 a2 31).toNat 64))=ji13:=(fT _).symm.trans hji13_
   have hji13x:(Go.bits .and .i64 a2 31)≤64→(wrap64 (a1 * 2 ^ (Go.bits .and .i64 a2 31).toNat))=ji13:=fun h_=>(fT _).symm.trans (hji13z h_)
   obtain ⟨jD,jH,H⟩:=bsm H
   (try dsimp only at H)
   have jQ:=am jH
   clear jH
   obtain rfl:=Option.some.inj H
   go_enter Try.func62,Try.ntmps62
   go_wp2_with (first|((with_reducible refine aC (f:=79) rfl ?_);refine aP (some 41) rfl rfl Try.func79 (by kernel_rfl) rfl #[.int .i64 ji13] rfl (by (try simp only [List.map_toArray,List.map_cons,List.map_nil]);first|done|(simp only [hji13];rfl)|rfl|(simp only [List.length_drop,List.length_take];rfl)) ?_;(with_reducible refine (dF.calls ji13 jD _ jQ.out).mono ?_);rintro e w' ⟨rfl,⟨nd,rfl⟩⟩;refine ⟨_,rfl,?_⟩))
   go_ret
   exact ⟨by first|rfl|(simp;done)|(simp only [← hji13] <;> (first|rfl|simp))|(simp [*];done),dD⟩
  rw [if_neg jd] at H
  exact absurd H (by simp)
 rw [if_neg j3] at H
 have jb:(a0 == 6)=false:=beq_eq_false_iff_ne.mpr j3
 have jc:(a0 != 6)=true:=bne_iff_ne.mpr j3
 by_cases j4:a0=7
 ·rw [if_pos j4] at H
  have je:(a0 == 7)=true:=beq_iff_eq.mpr j4
  have jf:(a0 != 7)=false:=bne_eq_false_iff_eq.mpr j4
  clear j4
  by_cases jg:0≤(Go.bits .and .i64 a2 31)
  ·rw [if_pos jg] at H
   have jI:=eq_true jg
   have jJ:decide (0≤(Go.bits .and .i64 a2 31))=true:=decide_eq_true jg
   clear jg
   obtain ⟨ji17,hji17⟩:∃ j_:Int,(shr .i64 a1 (Go.bits .and .i64 a2 31))=j_:=⟨_,rfl⟩
   replace H:(some ji17)=some r:=by first|(rw [hji17] at H;exact H)|(simp only [hji17] at H ⊢;exact H)
   have hji17_:(a1 / 2 ^ min (Go.bits .and .i64 a2 31).toNat 64)=ji17:=hji17
   have hji17z:(Go.bits .and .i64 a2 31)≤64→(a1 / 2 ^ (Go.bits .and .i64 a2 31).toNat)=ji17:=rJ hji17
   obtain rfl:=Option.some.inj H
   go_enter Try.func62,Try.ntmps62
   go_wp2
   go_ret
   exact ⟨by first|rfl|(simp;done)|(simp only [← hji17] <;> (first|rfl|simp))|(simp [*];done),dD⟩
  rw [if_neg jg] at H
  exact absurd H (by simp)
 rw [if_neg j4] at H
 have je:(a0 == 7)=false:=beq_eq_false_iff_ne.mpr j4
 have jf:(a0 != 7)=true:=bne_iff_ne.mpr j4
 by_cases j5:a0=8
 ·rw [if_pos j5] at H
  have jh:(a0 == 8)=true:=beq_iff_eq.mpr j5
  have ji:(a0 != 8)=false:=bne_eq_false_iff_eq.mpr j5
  clear j5
  obtain ⟨jR,jS,H⟩:=bsa H
  (try dsimp only at H)
  obtain rfl:=Option.some.inj H
  go_enter Try.func62,Try.ntmps62
  go_wp2_with (first|((with_reducible refine aC (f:=79) rfl ?_);refine aP (some 53) rfl rfl Try.func79 (by kernel_rfl) rfl #[.int .i64 (wrap64 (a1 + a2))] rfl bY ?_;(with_reducible refine (dF.calls (wrap64 (a1 + a2)) jR _ jS.out).mono ?_);rintro e w' ⟨rfl,⟨nd,rfl⟩⟩;refine ⟨_,rfl,?_⟩))
  go_ret
  exact ⟨sd_,dD⟩
 rw [if_neg j5] at H
 have jh:(a0 == 8)=false:=beq_eq_false_iff_ne.mpr j5
 have ji:(a0 != 8)=true:=bne_iff_ne.mpr j5
 by_cases j6:a0=9
 ·rw [if_pos j6] at H
  have jj:(a0 == 9)=true:=beq_iff_eq.mpr j6
  have jk:(a0 != 9)=false:=bne_eq_false_iff_eq.mpr j6
  clear j6
  obtain ⟨jT,jK,H⟩:=bsm H
  (try dsimp only at H)
  have jU:=am jK
  clear jK
  obtain rfl:=Option.some.inj H
  go_enter Try.func62,Try.ntmps62
  go_wp2_with (first|((with_reducible refine aC (f:=79) rfl ?_);refine aP (some 59) rfl rfl Try.func79 (by kernel_rfl) rfl #[.int .i64 (wrap64 (a1 - a2))] rfl bY ?_;(with_reducible refine (dF.calls (wrap64 (a1 - a2)) jT _ jU.out).mono ?_);rintro e w' ⟨rfl,⟨nd,rfl⟩⟩;refine ⟨_,rfl,?_⟩))
  go_ret
  exact ⟨sd_,dD⟩
 rw [if_neg j6] at H
 have jj:(a0 == 9)=false:=beq_eq_false_iff_ne.mpr j6
 have jk:(a0 != 9)=true:=bne_iff_ne.mpr j6
 by_cases j7:a0=10
 ·rw [if_pos j7] at H
  have jl:(a0 == 10)=true:=beq_iff_eq.mpr j7
  have jm:(a0 != 10)=false:=bne_eq_false_iff_eq.mpr j7
  clear j7
  obtain ⟨jV,jL,H⟩:=bsm H
  (try dsimp only at H)
  have jW:=am jL
  clear jL
  obtain rfl:=Option.some.inj H
  go_enter Try.func62,Try.ntmps62
  go_wp2_with (first|((with_reducible refine aC (f:=79) rfl ?_);refine aP (some 65) rfl rfl Try.func79 (by kernel_rfl) rfl #[.int .i64 (wrap64 (a1 * a2))] rfl bY ?_;(with_reducible refine (dF.calls (wrap64 (a1 * a2)) jV _ jW.out).mono ?_);rintro e w' ⟨rfl,⟨nd,rfl⟩⟩;refine ⟨_,rfl,?_⟩))
  go_ret
  exact ⟨sd_,dD⟩
 rw [if_neg j7] at H
 have jl:(a0 == 10)=false:=beq_eq_false_iff_ne.mpr j7
 have jm:(a0 != 10)=true:=bne_iff_ne.mpr j7
 by_cases j8:a0=11
 ·rw [if_pos j8] at H
  have jn:(a0 == 11)=true:=beq_iff_eq.mpr j8
  have jo:(a0 != 11)=false:=bne_eq_false_iff_eq.mpr j8
  clear j8
  by_cases j9:a2=0
  ·rw [if_pos j9] at H
   have jp:(a2 == 0)=true:=beq_iff_eq.mpr j9
   have jq:(a2 != 0)=false:=bne_eq_false_iff_eq.mpr j9
   clear j9
   obtain rfl:=Option.some.inj H
   go_enter Try.func62,Try.ntmps62
   go_wp2
   go_ret
   exact ⟨sd_,dD⟩
  rw [if_neg j9] at H
  have jp:(a2 == 0)=false:=beq_eq_false_iff_ne.mpr j9
  have jq:(a2 != 0)=true:=bne_iff_ne.mpr j9
  obtain ⟨jX,jM,H⟩:=bsm H
  (try dsimp only at H)
  have jY:=am jM
  clear jM
  obtain rfl:=Option.some.inj H
  go_enter Try.func62,Try.ntmps62
  go_wp2_with (first|((with_reducible refine aC (f:=79) rfl ?_);refine aP (some 73) rfl rfl Try.func79 (by kernel_rfl) rfl #[.int .i64 (wrap64 (Int.tdiv a1 a2))] rfl bY ?_;(with_reducible refine (dF.calls (wrap64 (Int.tdiv a1 a2)) jX _ jY.out).mono ?_);rintro e w' ⟨rfl,⟨nd,rfl⟩⟩;refine ⟨_,rfl,?_⟩))
  go_ret
  exact ⟨sd_,dD⟩
 rw [if_neg j8] at H
 have jn:(a0 == 11)=false:=beq_eq_false_iff_ne.mpr j8
 have jo:(a0 != 11)=true:=bne_iff_ne.mpr j8
 by_cases ja:a2=0
 ·rw [if_pos ja] at H
  have jr:(a2 == 0)=true:=beq_iff_eq.mpr ja
  have js:(a2 != 0)=false:=bne_eq_false_iff_eq.mpr ja
  clear ja
  obtain rfl:=Option.some.inj H
  go_enter Try.func62,Try.ntmps62
  go_wp2
  go_ret
  exact ⟨sd_,dD⟩
 rw [if_neg ja] at H
 have jr:(a2 == 0)=false:=beq_eq_false_iff_ne.mpr ja
 have js:(a2 != 0)=true:=bne_iff_ne.mpr ja
 obtain rfl:=Option.some.inj H
 go_enter Try.func62,Try.ntmps62
 go_wp2
 go_ret
 exact ⟨sd_,dD⟩
theorem aK.mono_l:∀ k,(∀ y0 y1 y2,LeO (aK.f k y0 y1 y2) (aK.f (k + 1) y0 y1 y2))∧(∀ y0 y1 y2 y3 y4 y5 y6 y7 y8 y9,LeO (aK.j0 k y0 y1 y2 y3 y4 y5 y6 y7 y8 y9) (aK.j0 (k + 1) y0 y1 y2 y3 y4 y5 y6 y7 y8 y9))
 |0=>⟨fun _ _ _ r h=>by simp [aK.f] at h,fun _ _ _ _ _ _ _ _ _ _ r h=>by simp [aK.j0] at h⟩
 |k + 1=>by
  obtain ⟨ih0,ih1⟩:=aK.mono_l k
  refine ⟨?_,?_⟩
  ·intro y0 y1 y2
   unfold aK.f
   exact mo_
  ·intro y0 y1 y2 y3 y4 y5 y6 y7 y8 y9
   unfold aK.j0
   exact mo_
theorem aK.mono:∀ a0 a1 a2 k,LeO (aK.f k a0 a1 a2) (aK.f (k + 1) a0 a1 a2):=by
 intro a0 a1 a2 k
 obtain ⟨ih0,ih1⟩:=aK.mono_l k
 exact ih0 a0 a1 a2
def wQ (d:Kd S28):Kd S28:=Kd.iso (Kd.pair (Kd.int .i64) (Kd.pair (Kd.int .i64) (vH 28 d))) (fun x:S28=>(x.f0,x.f1,x.f2))
theorem monoS28:Kd.kE wQ:=Kd.mono_iso _ (Kd.mono_pair (Kd.mono_const _) (Kd.mono_pair (Kd.mono_const _) (mono_sliceS 28 Kd.mono_id)))
theorem CB:Kd.Sub wQ [28]:=Kd.sW _ (Kd.kJ (Kd.sub_const _ (by decide)) (Kd.kJ (Kd.sub_const _ (by decide)) (vK 28 (by decide) Kd.vJ)))
theorem AZ:∀ n,(Kd.upto wQ 3 [28] n).sz=3:=Kd.tC (fun _=>rfl)
def gP:Kd S28:=Kd.fix wQ 3 [28] AZ (Kd.sZ CB)
theorem mO {w:World} {base:Nat} {ok:Nat→Prop} {x:S28} {cs:List Value} (h:gP.M w base ok x cs):∃ v2,cs=[.int .i64 x.f0, .int .i64 x.f1,v2]∧Kd.S gP 28 w base ok v2 x.f2:=by
 obtain ⟨n,h⟩:=h
 cases n with
 |zero=>exact h.elim
 |succ n=>
  obtain ⟨_,_,rfl,rfl,⟨_,_,rfl,rfl,⟨v2,rfl,g2⟩⟩⟩:=h
  exact ⟨v2,rfl,DC g2⟩
theorem eD (w:World) (base:Nat) (ok:Nat→Prop) (x:S28) {v2:Value} (g2:Kd.S gP 28 w base ok v2 x.f2):gP.M w base ok x [.int .i64 x.f0, .int .i64 x.f1,v2]:=by
 obtain ⟨n2,r2⟩:=vC monoS28 g2
 exact ⟨n2 + 1,⟨[.int .i64 x.f0],[.int .i64 x.f1,v2],rfl,rfl,⟨[.int .i64 x.f1],[v2],rfl,rfl,⟨v2,rfl,r2⟩⟩⟩⟩
theorem uE:∀ n {w base ok x cs},(Kd.upto wQ 3 [28] n).M w base ok x cs→(Kd.upto F28 3 [28] n).M w base ok x cs
 |0,_,_,_,_,_,h=>h.elim
 |n + 1,w,base,ok,x,cs,h=>by
  obtain ⟨_,_,rfl,rfl,⟨_,_,rfl,rfl,⟨v2,rfl,g2⟩⟩⟩:=h
  exact ⟨_,_,rfl,rfl,⟨_,_,rfl,rfl,⟨v2,rfl,Kd.vU (by rw [AZ n,CF n]) (fun _ _ _ _ _ hp=>uE n hp) (Kd.S_R g2)⟩⟩⟩
theorem dY {w:World} {base:Nat} {ok:Nat→Prop} {v:Value} {xs:List S28} (h:Kd.S gP 28 w base ok v xs):k28.R 28 w base ok v xs:=
 Kd.vU (d:=gP) (d':=k28) rfl (fun w base ok x cs hp=>by obtain ⟨n,hp⟩:=hp;exact ⟨n,uE n hp⟩) (Kd.S_R h)
structure FXF (w W0:World) (x0 x1:Int) (x2:List S28) (y0 y1:Int) (y2:List S28) (A19:Option Addr) (c19:Nat) (A24:Option Addr) (c24:Nat) (g3 g4 hA:Nat) (b4 b9 b10 b11 b12 b13:Bool) (W:World):Prop where
 hB:Below W0.heap.size W0 W
 hA_:b4=true→hA≤W.heap.size
 h4:b4=true→Kd.S gP 28 W W0.heap.size (fun q=>q < hA∧(b10=true→q≠g3)∧(b11=true→q≠g4)) (.slice A19 x2.length c19) x2
 h9:b9=true→Kd.S gP 28 W W0.heap.size (fun q=>hA≤q∧(b10=true→q≠g3)∧(b11=true→q≠g4)) (.slice A24 y2.length c24) y2
 h10:b10=true→W0.heap.size≤g3∧W.heap[g3]?=some (.cells (cond b12 #[(.int .i64 x0),(.int .i64 x1),(.slice A19 x2.length c19)] #[(.int .i64 0),(.int .i64 0),(.slice none 0 0)]) 28 (0,0))
 h11:b11=true→W0.heap.size≤g4∧W.heap[g4]?=some (.cells (cond b13 #[(.int .i64 y0),(.int .i64 y1),(.slice A24 y2.length c24)] #[(.int .i64 0),(.int .i64 0),(.slice none 0 0)]) 28 (0,0))
 hne:b10=true→b11=true→g3≠g4
def aXF (w W0:World) (g1 g2:Nat) (a0 a1:Int) (ad:Addr) (c0:Nat) (l:List S28) (p0 p1:Int) (Ap:Option Addr) (cp:Nat) (p2:List S28) (q0 q1:Int) (Aq:Option Addr) (cq:Nat) (q2:List S28) (x0 x1:Int) (x2:List S28) (y0 y1:Int) (y2:List S28) (A19:Option Addr) (c19:Nat) (A24:Option Addr) (c24:Nat) (g3:Nat) (g4:Nat) (hA:Nat) (b0 b1 b2 b3 b4 b5 b6 b7 b8 b9 b10 b11 b12 b13:Bool):Act:=
 { tmps:=#[(.agg #[(.int .i64 a0),(.int .i64 a1),(.slice (some ad) l.length c0)]),(.pointer (some ⟨g1,0,none⟩)),(.pointer (some ⟨g2,0,none⟩)),cond b10 (.pointer (some ⟨g3,0,none⟩)) undef,cond b11 (.pointer (some ⟨g4,0,none⟩)) undef,undef,(.pointer (some ⟨g1,2,none⟩)),(.slice (some ad) l.length c0),(.int .i64 (l.length:Int)),(.bool false),undef,undef,undef,undef,undef,cond b0 (.pointer (some ⟨g1,2,none⟩)) undef,cond b1 (.slice (some ad) l.length c0) undef,cond b2 (.pointer (some ad)) undef,cond b3 (.agg #[(.int .i64 p0),(.int .i64 p1),(.slice Ap p2.length cp)]) undef,cond b4 (.agg #[(.int .i64 x0),(.int .i64 x1),(.slice A19 x2.length c19)]) undef,cond b5 (.pointer (some ⟨g1,2,none⟩)) undef,cond b6 (.slice (some ad) l.length c0) undef,cond b7 (.pointer (some ⟨ad.block,ad.off + 3,none⟩)) undef,cond b8 (.agg #[(.int .i64 q0),(.int .i64 q1),(.slice Aq q2.length cq)]) undef,cond b9 (.agg #[(.int .i64 y0),(.int .i64 y1),(.slice A24 y2.length c24)]) undef,undef,undef,undef,undef,undef,undef,undef,undef,undef,undef,undef,undef,undef,undef,undef,undef,undef,undef,undef,undef,undef,undef,undef,undef,undef,undef,undef,undef,undef],defers:=[] }
def LXF (w W0:World) (g1 g2:Nat) (a0 a1:Int) (ad:Addr) (c0:Nat) (l:List S28) (p0 p1:Int) (Ap:Option Addr) (cp:Nat) (p2:List S28) (q0 q1:Int) (Aq:Option Addr) (cq:Nat) (q2:List S28) (x0 x1:Int) (x2:List S28) (y0 y1:Int) (y2:List S28) (b0 b1 b2 b3 b4 b5 b6 b7 b8 b9 b10 b11 b12 b13:Bool) (a:Act) (W:World):Prop:=
 ∃ (A19:Option Addr) (c19:Nat) (A24:Option Addr) (c24:Nat) (g3:Nat) (g4:Nat) (hA:Nat),a=aXF w W0 g1 g2 a0 a1 ad c0 l p0 p1 Ap cp p2 q0 q1 Aq cq q2 x0 x1 x2 y0 y1 y2 A19 c19 A24 c24 g3 g4 hA b0 b1 b2 b3 b4 b5 b6 b7 b8 b9 b10 b11 b12 b13∧FXF w W0 x0 x1 x2 y0 y1 y2 A19 c19 A24 c24 g3 g4 hA b4 b9 b10 b11 b12 b13 W
theorem aK.tail {k:Nat} {a0 a1:Int} {l:List S28} {x0 x1:Int} {x2:List S28} {y0 y1:Int} {y2:List S28} {r1 r2:Int} {r3:List S28} (h:(if x0=0 then aK.j0 k (y0 == 0) a0 a1 l x0 x1 x2 y0 y1 y2 else aK.j0 k false a0 a1 l x0 x1 x2 y0 y1 y2)=some (r1,r2,r3)):
  (x0=0∧y0=0∧∃ n,dG.f a0 x1 y1=some n∧((0≤n∧n≤99999∧(0,n,([]:List S28))=(r1,r2,r3))∨(¬ (0≤n∧n≤99999)∧(a0,0,[(⟨x0,x1,x2⟩:S28),⟨y0,y1,y2⟩])=(r1,r2,r3))))∨(¬ (x0=0∧y0=0)∧(a0,0,[(⟨x0,x1,x2⟩:S28),⟨y0,y1,y2⟩])=(r1,r2,r3)):=by
 cases k with
 |zero=>revert h;split <;> simp [aK.j0]
 |succ k=>
  simp only [aK.j0] at h
  by_cases h0:x0=0
  ·rw [if_pos h0] at h
   by_cases h1:y0=0
   ·rw [if_pos (beq_iff_eq.mpr h1)] at h
    obtain ⟨n,hn,h⟩:=Option.bind_eq_some_iff.mp h
    refine .inl ⟨h0,h1,n,hn,?_⟩
    by_cases h2:n≥0
    ·rw [if_pos h2] at h
     by_cases h3:n≤99999
     ·rw [if_pos h3] at h
      exact .inl ⟨h2,h3,Option.some.inj h⟩
     rw [if_neg h3] at h
     exact .inr ⟨fun e=>h3 e.2,Option.some.inj h⟩
    rw [if_neg h2] at h
    exact .inr ⟨fun e=>h2 e.1,Option.some.inj h⟩
   rw [if_neg (fun e=>h1 (beq_iff_eq.mp e))] at h
   exact .inr ⟨fun e=>h1 e.2,Option.some.inj h⟩
  rw [if_neg h0,if_neg Bool.false_ne_true] at h
  exact .inr ⟨fun e=>h0 e.1,Option.some.inj h⟩
theorem dG.callsB (a b c r:Int) (w:World) (h:dG.f a b c=some r):Calls Try.prog 62 #[.int .i64 a, .int .i64 b, .int .i64 c] w fun e w'=>e= .returned (.int .i64 r)∧Below w.heap.size w w':=by
 refine (dG.calls a b c r w h).mono ?_
 rintro e w' ⟨rfl,⟨nd,rfl⟩⟩
 exact ⟨rfl,bE (Below.refl _ _) nd⟩
theorem aZ {w:World} {g:Nat} {o:Obj} {p:Addr} (h:w.heap[g]?=some o) (hne:g≠p.block) (u:Value):(w.setCell p u).heap[g]?=some o:=(Below.heap_setCell w p u g hne).trans h
theorem aK.callsS (k:Nat):∀ (a0 a1:Int) (A0:Option Addr) (c0:Nat) (l:List (S28)) (r1 r2:Int) (r3:List (S28)) (w:World) (hr0:Kd.C k28 w A0 l.length l) (hc0:l.length≤c0) (h:aK.f k a0 a1 l=some (r1,r2,r3)),
  Calls Try.prog 32 #[.agg #[.int .i64 a0, .int .i64 a1, .slice A0 l.length c0]] w fun e w'=>∃ v2_:Value,e= .returned (.agg #[.int .i64 r1, .int .i64 r2,v2_])∧Kd.S gP 28 w' w.heap.size (fun q=>w.heap.size≤q) v2_ r3∧Below w.heap.size w w':=by
 induction k using Nat.strongRecOn with
 | _ k ih=>
 intro a0 a1 A0 c0 l r1 r2 r3 w hr0 hc0 h
 cases k with
 |zero=>exact absurd h (by simp [aK.f])
 |succ k=>
 simp only [aK.f] at h
 have jh:=am hr0
 have jk:=am hc0
 have HB:=am (Below.refl w.heap.size w)
 have HH:=am h
 clear hr0 hc0 h
 go_enter Try.func32,Try.ntmps32
 go_upto_region 1 with (first|((with_reducible refine aV (N:=1) rfl ?_);refine aY (N:=1) rfl rfl (cs:=#[.int .i64 a0, .int .i64 a1, .slice A0 l.length c0]) (t:=28) rn_ ?_;intro g1 hg w2 hbox hb;have B1:=am hbox;have G1:=am (hg:_=_);have ja:=am hb;clear hbox hg hb)|((with_reducible refine aV (N:=2) rfl ?_);refine aY (N:=2) rfl rfl (cs:=#[.int .i64 0, .int .i64 0, .slice none 0 0]) (t:=28) rn_ ?_;intro g2 hg w3 hbox hb;have B2:=am hbox;have G2:=am (hg:_=_);have j9:=am (show w.heap.size≤g2 from Nat.le_trans ja.out.size (Nat.le_of_eq G2.out.symm));replace B1:=am (aB B1.out hb);replace HB:=am (aF ja.out hb);clear hbox hg hb ja)|fail)
 have z2:w3.cell? ⟨g1,2,none⟩=some (.slice A0 l.length c0):=aA B1.out 2
 have h:=HH.out
 clear HH
 by_cases c2:(l.length:Int)=0
 ·rw [if_pos c2] at h
  have jb:((l.length:Int) == 0)=true:=beq_iff_eq.mpr c2
  have jc:((l.length:Int) != 0)=false:=bne_eq_false_iff_eq.mpr c2
  clear c2
  simp only [Option.some.injEq,Prod.mk.injEq] at h
  obtain ⟨rfl,rfl,rfl⟩:=h
  have z0:w3.cell? ⟨g1,0,none⟩=some (.int .i64 a0):=aA B1.out 0
  have z1:w3.cell? ⟨g1,1,none⟩=some (.int .i64 a1):=aA B1.out 1
  have u0:w3.cell? ⟨g2,0,none⟩=some (.int .i64 0):=aA B2.out 0
  have u1:w3.cell? ⟨g2,1,none⟩=some (.int .i64 0):=aA B2.out 1
  have u2:w3.cell? ⟨g2,2,none⟩=some (.slice none 0 0):=aA B2.out 2
  have f0:=aD B2.out 0
  have f1:=aD B2.out 1
  have f2:=aD B2.out 2
  go_wp2
  refine bodyPost_ret (results_cell_row rfl _ _ g2 28 #[.int .i64 a0, .int .i64 a1, .slice none 0 0] (0,0) _ rfl (aO (aO (aO B2.out 0 _ rfl) 1 _ rfl) 2 _ rfl) Try.underlying28 rfl (by kernel_rfl)) rfl ?_
  exact ⟨_,rfl,Kd.tN _ _ _ _ _,below_set (below_set (below_set HB.out j9.out) j9.out) j9.out⟩
 rw [if_neg c2] at h
 have jb:((l.length:Int) == 0)=false:=beq_eq_false_iff_ne.mpr c2
 have jc:((l.length:Int) != 0)=true:=bne_iff_ne.mpr c2
 clear c2
 by_cases c8:0 < (l.length:Int)
 case neg=>rw [if_neg c8] at h;exact absurd h (by simp)
 rw [if_pos c8] at h
 replace h:=Option.bind_eq_some_iff.mp h
 obtain ⟨⟨x0,x1,x2⟩,h1,h⟩:=h
 by_cases c10:1 < (l.length:Int)
 case neg=>rw [if_neg c10] at h;exact absurd h (by simp)
 rw [if_pos c10] at h
 replace h:=Option.bind_eq_some_iff.mp h
 obtain ⟨⟨y0,y1,y2⟩,h2,h⟩:=h
 (try dsimp only at h1 h2 h)
 obtain ⟨ad,Ap,cp,e0,P0,P1,P2,LP,CP⟩:=dU jh.out 0 (by omega) c8
 obtain ⟨ad',Aq,cq,e1,Q0,Q1,Q2,LQ,CQ⟩:=dU jh.out 1 (by omega) c10
 subst e0
 injection e1 with e1
 subst e1
 rcases hrp:aH l 0 with ⟨p0,p1,p2⟩
 rcases hrq:aH l 1 with ⟨q0,q1,q2⟩
 rw [hrp] at h1 P0 P1 P2 LP CP
 rw [hrq] at h2 Q0 Q1 Q2 LQ CQ
 dsimp only at h1 h2 P0 P1 P2 Q0 Q1 Q2 LP LQ CP CQ
 have HE1:=am h1
 have HE2:=am h2
 have HT:=am h
 clear h h1 h2 hrp hrq
 rw [show ((0:Int)).toNat * 3=0 from rfl,Addr.add_zero'] at P0 P1 P2
 rw [show ((1:Int)).toNat * 3=3 from rfl] at Q0 Q1 Q2
 simp only [Go.Addr.add,Nat.reduceEqDiff,↓reduceIte] at Q0 Q1 Q2
 replace P0:=am P0
 replace P1:=am P1
 replace P2:=am P2
 replace Q0:=am Q0
 replace Q1:=am Q1
 replace Q2:=am Q2
 replace LP:=am LP
 replace LQ:=am LQ
 replace CP:=am CP
 replace CQ:=am CQ
 have i0:(0:Int) < (l.length:Int):=c8
 have i1:(1:Int) < (l.length:Int):=c10
 have i0b:(0 < l.length)=True:=eq_true (by omega)
 have i1b:(1 < l.length)=True:=eq_true (by omega)
 have i0c:decide ((0:Int) < (l.length:Int))=true:=decide_eq_true c8
 have i1c:decide ((1:Int) < (l.length:Int))=true:=decide_eq_true c10
 clear c8 c10
 go_upto_region 3 with fail
 refine wp_region_any (by kernel_rfl) ?_
 have b_:=am (bO HB.out)
 have jd:=am (fG B1.out)
 have je:=am (fG B2.out)
 show wpAny _ _ _ _ _ _ _ w3.drew
 clear z2 B1 B2 HB
 generalize w3.drew=W0 at b_ jd je ⊢
 have HB:=b_
 have B1:=jd
 have B2:=je
 clear b_ jd je
 refine vZ (n:=14) (T:=(true,[([],[]),([0],[0]),([1],[1]),([2],[2]),([3],[3]),([],[]),([5],[5]),([6],[6]),([7],[7]),([8,4],[8]),([],[]),([],[]),([10,4,9,0,1,2,3,4,10,11],[4,10]),([11,9,12,0,1,2,3,4,5,6,7,8,9,10,11,12],[9,11])])) rfl (by kernel_rfl) (by decide) (fun b a W=>LXF w W0 g1 g2 a0 a1 ad c0 l p0 p1 Ap cp p2 q0 q1 Aq cq q2 x0 x1 x2 y0 y1 y2 (b 0) (b 1) (b 2) (b 3) (b 4) (b 5) (b 6) (b 7) (b 8) (b 9) (b 10) (b 11) (b 12) (b 13) a W) ?hstep ?hdone _ _ ?hstart
 case hstart=>exact ⟨none,0,none,0,0,0,0,rfl,⟨Below.refl _ _,(fun e=>Bool.noConfusion e),(fun e=>Bool.noConfusion e),(fun e=>Bool.noConfusion e),(fun e=>Bool.noConfusion e),(fun e=>Bool.noConfusion e),(fun e=>Bool.noConfusion e)⟩⟩
 case hstep=>
  intro i b a W hi hbi hneed hcl hI
  have hcase:i=0∨i=1∨i=2∨i=3∨i=4∨i=5∨i=6∨i=7∨i=8∨i=9∨i=10∨i=11∨i=12∨i=13:=by omega
  rcases hcase with rfl|rfl|rfl|rfl|rfl|rfl|rfl|rfl|rfl|rfl|rfl|rfl|rfl|rfl
  ·
   have z1:=zz_ (fun h=>hcl 1 _ h rfl 0 (by decide)) hbi
   have z2:=zz_ (fun h=>hcl 2 _ h rfl 1 (by decide)) z1
   have z3:=zz_ (fun h=>hcl 3 _ h rfl 2 (by decide)) z2
   have z4:=zz_ (fun h=>hcl 4 _ h rfl 3 (by decide)) z3
   have z9:=zz_ (fun h=>hcl 9 _ h rfl 4 (by decide)) z4
   have j8:=zz_ (fun h=>hcl 12 _ h rfl 4 (by decide)) z4
   have j7:=zz_ (fun h=>hcl 13 _ h rfl 0 (by decide)) hbi
   simp only [hbi,z1,z2,z3,z4,z9,j8,j7] at hI
   obtain ⟨j3,j4,j5,j6,g3,g4,hA,rfl,h⟩:=hI
   refine wpOp_step rfl (fun K' hK'=>?_)
   simp (decide:=true) only [if_true,if_false,reduceIte,z1,z2,z3,z4,z9,j8,j7] at hK'
   refine dL (W:=W) (w1:=W) (v:=?_) (by rfl) ?_ ?_
   rotate_left
   ·(try simp only [aXF,cond_true,cond_false])
    go_simp
    first|with_reducible rfl|rfl
   refine hK' _ _ (⟨j3,j4,j5,j6,g3,g4,hA,?_,h⟩)
   show Act.put _ (some 15) _=_
   simp only [aXF,Act.put,List.setIfInBounds_toArray,List.set_cons_zero,List.set_cons_succ,fT,iH]
   rfl
  ·
   have hn_:=hneed _ rfl
   have n0:=hn_ 0 (by decide)
   have z2:=zz_ (fun h=>hcl 2 _ h rfl 1 (by decide)) hbi
   have z3:=zz_ (fun h=>hcl 3 _ h rfl 2 (by decide)) z2
   have z4:=zz_ (fun h=>hcl 4 _ h rfl 3 (by decide)) z3
   have z9:=zz_ (fun h=>hcl 9 _ h rfl 4 (by decide)) z4
   have j8:=zz_ (fun h=>hcl 12 _ h rfl 4 (by decide)) z4
   have j7:=zz_ (fun h=>hcl 13 _ h rfl 1 (by decide)) hbi
   simp only [hbi,n0,z2,z3,z4,z9,j8,j7] at hI
   obtain ⟨j3,j4,j5,j6,g3,g4,hA,rfl,h⟩:=hI
   refine wpOp_step rfl (fun K' hK'=>?_)
   simp (decide:=true) only [if_true,if_false,reduceIte,n0,z2,z3,z4,z9,j8,j7] at hK'
   have jf:=aB B1.out h.hB
   have z2:W.cell? ⟨g1,2,none⟩=some (.slice (some ad) l.length c0):=aA jf 2
   refine dL (W:=W) (w1:=W) (v:=?_) (by rfl) ?_ ?_
   rotate_left
   ·(try simp only [aXF,cond_true,cond_false])
    go_simp
    first|with_reducible rfl|rfl
   refine hK' _ _ (⟨j3,j4,j5,j6,g3,g4,hA,?_,h⟩)
   show Act.put _ (some 16) _=_
   simp only [aXF,Act.put,List.setIfInBounds_toArray,List.set_cons_zero,List.set_cons_succ,fT,iH]
   rfl
  ·
   have hn_:=hneed _ rfl
   have n1:=hn_ 1 (by decide)
   have n0:=hcl 1 _ n1 rfl 0 (by decide)
   have z3:=zz_ (fun h=>hcl 3 _ h rfl 2 (by decide)) hbi
   have z4:=zz_ (fun h=>hcl 4 _ h rfl 3 (by decide)) z3
   have z9:=zz_ (fun h=>hcl 9 _ h rfl 4 (by decide)) z4
   have j8:=zz_ (fun h=>hcl 12 _ h rfl 4 (by decide)) z4
   have j7:=zz_ (fun h=>hcl 13 _ h rfl 2 (by decide)) hbi
   simp only [hbi,n0,n1,z3,z4,z9,j8,j7] at hI
   obtain ⟨j3,j4,j5,j6,g3,g4,hA,rfl,h⟩:=hI
   refine wpOp_step rfl (fun K' hK'=>?_)
   simp (decide:=true) only [if_true,if_false,reduceIte,n0,n1,z3,z4,z9,j8,j7] at hK'
   refine dL (W:=W) (w1:=W) (v:=(.pointer (some ad))) (by rfl) ?_ ?_
   ·(try simp only [aXF,cond_true,cond_false])
    go_simp
    (try rfl)
   refine hK' _ _ (⟨j3,j4,j5,j6,g3,g4,hA,?_,h⟩)
   show Act.put _ (some 17) _=_
   simp only [aXF,Act.put,List.setIfInBounds_toArray,List.set_cons_zero,List.set_cons_succ,fT,iH]
   rfl
  ·
   have hn_:=hneed _ rfl
   have n2:=hn_ 2 (by decide)
   have n1:=hcl 2 _ n2 rfl 1 (by decide)
   have n0:=hcl 1 _ n1 rfl 0 (by decide)
   have z4:=zz_ (fun h=>hcl 4 _ h rfl 3 (by decide)) hbi
   have z9:=zz_ (fun h=>hcl 9 _ h rfl 4 (by decide)) z4
   have j8:=zz_ (fun h=>hcl 12 _ h rfl 4 (by decide)) z4
   have j7:=zz_ (fun h=>hcl 13 _ h rfl 3 (by decide)) hbi
   simp only [hbi,n0,n1,n2,z4,z9,j8,j7] at hI
   obtain ⟨j3,j4,j5,j6,g3,g4,hA,rfl,h⟩:=hI
   refine wpOp_step rfl (fun K' hK'=>?_)
   simp (decide:=true) only [if_true,if_false,reduceIte,n0,n1,n2,z4,z9,j8,j7] at hK'
   have z0:W.cell? ad=some (.int .i64 p0):=((aF HB.out h.hB).cell (World.block_lt_of_cell? w _ P0.out)).trans P0.out
   have z1:W.cell? ⟨ad.block,ad.off + 1,none⟩=some (.int .i64 p1):=((aF HB.out h.hB).cell (World.block_lt_of_cell? w _ P1.out)).trans P1.out
   have z2:W.cell? ⟨ad.block,ad.off + 2,none⟩=some (.slice Ap p2.length cp):=((aF HB.out h.hB).cell (World.block_lt_of_cell? w _ P2.out)).trans P2.out
   refine dL (W:=W) (w1:=W) (v:=(.agg #[(.int .i64 p0),(.int .i64 p1),(.slice Ap p2.length cp)])) (by rfl) ?_ ?_
   ·(try simp only [aXF,cond_true,cond_false])
    go_simp
    (try rfl)
   refine hK' _ _ (⟨j3,j4,j5,j6,g3,g4,hA,?_,h⟩)
   show Act.put _ (some 18) _=_
   simp only [aXF,Act.put,List.setIfInBounds_toArray,List.set_cons_zero,List.set_cons_succ,fT,iH]
   rfl
  ·
   have hn_:=hneed _ rfl
   have n3:=hn_ 3 (by decide)
   have n2:=hcl 3 _ n3 rfl 2 (by decide)
   have n1:=hcl 2 _ n2 rfl 1 (by decide)
   have n0:=hcl 1 _ n1 rfl 0 (by decide)
   have z9:=zz_ (fun h=>hcl 9 _ h rfl 4 (by decide)) hbi
   have j8:=zz_ (fun h=>hcl 12 _ h rfl 4 (by decide)) hbi
   have j7:=zz_ (fun h=>hcl 13 _ h rfl 4 (by decide)) hbi
   simp only [hbi,n0,n1,n2,n3,z9,j8,j7] at hI
   obtain ⟨j3,j4,j5,j6,g3,g4,hA,rfl,h⟩:=hI
   refine wpOp_step rfl (fun K' hK'=>?_)
   simp (decide:=true) only [if_true,if_false,reduceIte,n0,n1,n2,n3,z9,j8,j7] at hK'
   refine rA Try.func32 (by kernel_rfl) rfl #[(.agg #[(.int .i64 p0),(.int .i64 p1),(.slice Ap p2.length cp)])] (by rfl) rfl rfl (by (try simp only [List.map_toArray,List.map_cons,List.map_nil]);first|done|rfl) ?_
   refine (ih k (Nat.lt_succ_self k) _ _ _ _ _ x0 x1 x2 _ (Kd.bA CP.out (aF HB.out h.hB)) LP.out HE1.out).mono ?_
   rintro e W' ⟨v,rfl,hn,hb⟩
   obtain ⟨B_,d_,rfl⟩:=Kd.dW hn
   have hlt:=h.hB.size
   have hle:=hb.size
   have jg:=Kd.fK hn
   refine ⟨_,rfl,hK' _ _ (⟨B_,d_,j5,j6,g3,g4,W'.heap.size,?_,⟨aF h.hB hb,fun _=>Nat.le_refl _,fun _=>Kd.dB (Kd.gF jg hlt) (fun q hq=>⟨hq.2.2.1,⟨fun e=>by have:=bG (h.h10 e).2;have:=hq.2.1;omega,fun e=>by have:=bG (h.h11 e).2;have:=hq.2.1;omega⟩⟩),(fun e=>Bool.noConfusion e),fun e=>⟨(h.h10 e).1,aB (h.h10 e).2 hb⟩,fun e=>⟨(h.h11 e).1,aB (h.h11 e).2 hb⟩,h.hne⟩⟩)⟩
   show Act.put _ (some 19) _=_
   simp only [aXF,Act.put,List.setIfInBounds_toArray,List.set_cons_zero,List.set_cons_succ]
   rfl
  ·
   have z6:=zz_ (fun h=>hcl 6 _ h rfl 5 (by decide)) hbi
   have z7:=zz_ (fun h=>hcl 7 _ h rfl 6 (by decide)) z6
   have z8:=zz_ (fun h=>hcl 8 _ h rfl 7 (by decide)) z7
   have z9:=zz_ (fun h=>hcl 9 _ h rfl 8 (by decide)) z8
   have j8:=zz_ (fun h=>hcl 12 _ h rfl 9 (by decide)) z9
   have j7:=zz_ (fun h=>hcl 13 _ h rfl 5 (by decide)) hbi
   simp only [hbi,z6,z7,z8,z9,j8,j7] at hI
   obtain ⟨j3,j4,j5,j6,g3,g4,hA,rfl,h⟩:=hI
   refine wpOp_step rfl (fun K' hK'=>?_)
   simp (decide:=true) only [if_true,if_false,reduceIte,z6,z7,z8,z9,j8,j7] at hK'
   refine dL (W:=W) (w1:=W) (v:=?_) (by rfl) ?_ ?_
   rotate_left
   ·(try simp only [aXF,cond_true,cond_false])
    go_simp
    first|with_reducible rfl|rfl
   refine hK' _ _ (⟨j3,j4,j5,j6,g3,g4,hA,?_,h⟩)
   show Act.put _ (some 20) _=_
   simp only [aXF,Act.put,List.setIfInBounds_toArray,List.set_cons_zero,List.set_cons_succ,fT,iH]
   rfl
  ·
   have hn_:=hneed _ rfl
   have n5:=hn_ 5 (by decide)
   have z7:=zz_ (fun h=>hcl 7 _ h rfl 6 (by decide)) hbi
   have z8:=zz_ (fun h=>hcl 8 _ h rfl 7 (by decide)) z7
   have z9:=zz_ (fun h=>hcl 9 _ h rfl 8 (by decide)) z8
   have j8:=zz_ (fun h=>hcl 12 _ h rfl 9 (by decide)) z9
   have j7:=zz_ (fun h=>hcl 13 _ h rfl 6 (by decide)) hbi
   simp only [hbi,n5,z7,z8,z9,j8,j7] at hI
   obtain ⟨j3,j4,j5,j6,g3,g4,hA,rfl,h⟩:=hI
   refine wpOp_step rfl (fun K' hK'=>?_)
   simp (decide:=true) only [if_true,if_false,reduceIte,n5,z7,z8,z9,j8,j7] at hK'
   have jf:=aB B1.out h.hB
   have z2:W.cell? ⟨g1,2,none⟩=some (.slice (some ad) l.length c0):=aA jf 2
   refine dL (W:=W) (w1:=W) (v:=?_) (by rfl) ?_ ?_
   rotate_left
   ·(try simp only [aXF,cond_true,cond_false])
    go_simp
    first|with_reducible rfl|rfl
   refine hK' _ _ (⟨j3,j4,j5,j6,g3,g4,hA,?_,h⟩)
   show Act.put _ (some 21) _=_
   simp only [aXF,Act.put,List.setIfInBounds_toArray,List.set_cons_zero,List.set_cons_succ,fT,iH]
   rfl
  ·
   have hn_:=hneed _ rfl
   have n6:=hn_ 6 (by decide)
   have n5:=hcl 6 _ n6 rfl 5 (by decide)
   have z8:=zz_ (fun h=>hcl 8 _ h rfl 7 (by decide)) hbi
   have z9:=zz_ (fun h=>hcl 9 _ h rfl 8 (by decide)) z8
   have j8:=zz_ (fun h=>hcl 12 _ h rfl 9 (by decide)) z9
   have j7:=zz_ (fun h=>hcl 13 _ h rfl 7 (by decide)) hbi
   simp only [hbi,n5,n6,z8,z9,j8,j7] at hI
   obtain ⟨j3,j4,j5,j6,g3,g4,hA,rfl,h⟩:=hI
   refine wpOp_step rfl (fun K' hK'=>?_)
   simp (decide:=true) only [if_true,if_false,reduceIte,n5,n6,z8,z9,j8,j7] at hK'
   refine dL (W:=W) (w1:=W) (v:=(.pointer (some ⟨ad.block,ad.off + 3,none⟩))) (by rfl) ?_ ?_
   ·(try simp only [aXF,cond_true,cond_false])
    go_simp
    (try rfl)
   refine hK' _ _ (⟨j3,j4,j5,j6,g3,g4,hA,?_,h⟩)
   show Act.put _ (some 22) _=_
   simp only [aXF,Act.put,List.setIfInBounds_toArray,List.set_cons_zero,List.set_cons_succ,fT,iH]
   rfl
  ·
   have hn_:=hneed _ rfl
   have n7:=hn_ 7 (by decide)
   have n6:=hcl 7 _ n7 rfl 6 (by decide)
   have n5:=hcl 6 _ n6 rfl 5 (by decide)
   have z9:=zz_ (fun h=>hcl 9 _ h rfl 8 (by decide)) hbi
   have j8:=zz_ (fun h=>hcl 12 _ h rfl 9 (by decide)) z9
   have j7:=zz_ (fun h=>hcl 13 _ h rfl 8 (by decide)) hbi
   simp only [hbi,n5,n6,n7,z9,j8,j7] at hI
   obtain ⟨j3,j4,j5,j6,g3,g4,hA,rfl,h⟩:=hI
   refine wpOp_step rfl (fun K' hK'=>?_)
   simp (decide:=true) only [if_true,if_false,reduceIte,n5,n6,n7,z9,j8,j7] at hK'
   have z0:W.cell? ⟨ad.block,ad.off + 3,none⟩=some (.int .i64 q0):=((aF HB.out h.hB).cell (World.block_lt_of_cell? w _ Q0.out)).trans Q0.out
   have z1:W.cell? ⟨ad.block,ad.off + 3 + 1,none⟩=some (.int .i64 q1):=((aF HB.out h.hB).cell (World.block_lt_of_cell? w _ Q1.out)).trans Q1.out
   have z2:W.cell? ⟨ad.block,ad.off + 3 + 2,none⟩=some (.slice Aq q2.length cq):=((aF HB.out h.hB).cell (World.block_lt_of_cell? w _ Q2.out)).trans Q2.out
   refine dL (W:=W) (w1:=W) (v:=(.agg #[(.int .i64 q0),(.int .i64 q1),(.slice Aq q2.length cq)])) (by rfl) ?_ ?_
   ·(try simp only [aXF,cond_true,cond_false])
    go_simp
    (try rfl)
   refine hK' _ _ (⟨j3,j4,j5,j6,g3,g4,hA,?_,h⟩)
   show Act.put _ (some 23) _=_
   simp only [aXF,Act.put,List.setIfInBounds_toArray,List.set_cons_zero,List.set_cons_succ,fT,iH]
   rfl
  ·
   have hn_:=hneed _ rfl
   have n4:=hn_ 4 (by decide)
   have n8:=hn_ 8 (by decide)
   have n3:=hcl 4 _ n4 rfl 3 (by decide)
   have n7:=hcl 8 _ n8 rfl 7 (by decide)
   have n2:=hcl 3 _ n3 rfl 2 (by decide)
   have n6:=hcl 7 _ n7 rfl 6 (by decide)
   have n1:=hcl 2 _ n2 rfl 1 (by decide)
   have n5:=hcl 6 _ n6 rfl 5 (by decide)
   have n0:=hcl 1 _ n1 rfl 0 (by decide)
   have j8:=zz_ (fun h=>hcl 12 _ h rfl 9 (by decide)) hbi
   have j7:=zz_ (fun h=>hcl 13 _ h rfl 9 (by decide)) hbi
   simp only [hbi,n0,n1,n2,n3,n4,n5,n6,n7,n8,j8,j7] at hI
   obtain ⟨j3,j4,j5,j6,g3,g4,hA,rfl,h⟩:=hI
   refine wpOp_step rfl (fun K' hK'=>?_)
   simp (decide:=true) only [if_true,if_false,reduceIte,n0,n1,n2,n3,n4,n5,n6,n7,n8,j8,j7] at hK'
   refine rA Try.func32 (by kernel_rfl) rfl #[(.agg #[(.int .i64 q0),(.int .i64 q1),(.slice Aq q2.length cq)])] (by rfl) rfl rfl (by (try simp only [List.map_toArray,List.map_cons,List.map_nil]);first|done|rfl) ?_
   refine (ih k (Nat.lt_succ_self k) _ _ _ _ _ y0 y1 y2 _ (Kd.bA CQ.out (aF HB.out h.hB)) LQ.out HE2.out).mono ?_
   rintro e W' ⟨v,rfl,hn,hb⟩
   obtain ⟨B_,d_,rfl⟩:=Kd.dW hn
   have hlt:=h.hB.size
   have hle:=hb.size
   have jg:=Kd.fK hn
   refine ⟨_,rfl,hK' _ _ (⟨j3,j4,B_,d_,g3,g4,hA,?_,⟨aF h.hB hb,fun e=>Nat.le_trans (h.hA_ e) hle,fun e=>Kd.bM (h.h4 e) hb,fun _=>Kd.dB (Kd.gF jg hlt) (fun q hq=>⟨Nat.le_trans (h.hA_ rfl) hq.1,⟨fun e=>by have:=bG (h.h10 e).2;have:=hq.2.1;omega,fun e=>by have:=bG (h.h11 e).2;have:=hq.2.1;omega⟩⟩),fun e=>⟨(h.h10 e).1,aB (h.h10 e).2 hb⟩,fun e=>⟨(h.h11 e).1,aB (h.h11 e).2 hb⟩,h.hne⟩⟩)⟩
   show Act.put _ (some 24) _=_
   simp only [aXF,Act.put,List.setIfInBounds_toArray,List.set_cons_zero,List.set_cons_succ]
   rfl
  ·
   have j8:=zz_ (fun h=>hcl 12 _ h rfl 10 (by decide)) hbi
   have j7:=zz_ (fun h=>hcl 13 _ h rfl 10 (by decide)) hbi
   simp only [hbi,j8,j7] at hI
   obtain ⟨j3,j4,j5,j6,g3,g4,hA,rfl,h⟩:=hI
   refine wpOp_step rfl (fun K' hK'=>?_)
   simp (decide:=true) only [if_true,if_false,reduceIte,j8,j7] at hK'
   refine tX ?hg (N:=3) ?hd (cs:=#[(.int .i64 0),(.int .i64 0),(.slice none 0 0)]) (t:=28) ?hr ?_
   case hd=>rfl
   case hg=>rfl
   case hr=>(try simp only [aXF,cond_true,cond_false]);first|(go_simp;done)|(go_simp;rfl)
   intro gb hgb W' hbox hb
   have hlt:=h.hB.size
   have hle:=hb.size
   refine hK' _ _ (⟨j3,j4,j5,j6,gb,g4,hA,?_,⟨aF h.hB hb,fun e=>Nat.le_trans (h.hA_ e) hle,fun e=>Kd.dB (Kd.bM (Kd.fK (h.h4 e)) hb) (fun q hq=>⟨hq.1.1,fun _=>by have:=hq.2.2.1;omega,hq.1.2.2⟩),fun e=>Kd.dB (Kd.bM (Kd.fK (h.h9 e)) hb) (fun q hq=>⟨hq.1.1,fun _=>by have:=hq.2.2.1;omega,hq.1.2.2⟩),fun _=>⟨by omega,hbox⟩,fun e=>⟨(h.h11 e).1,aB (h.h11 e).2 hb⟩,fun _ e2 e3=>by have:=bG (h.h11 e2).2;omega⟩⟩)
   show Act.put _ (some 3) _=_
   simp only [aXF,Act.put,List.setIfInBounds_toArray,List.set_cons_zero,List.set_cons_succ]
   rfl
  ·
   have j8:=zz_ (fun h=>hcl 12 _ h rfl 11 (by decide)) hbi
   have j7:=zz_ (fun h=>hcl 13 _ h rfl 11 (by decide)) hbi
   simp only [hbi,j8,j7] at hI
   obtain ⟨j3,j4,j5,j6,g3,g4,hA,rfl,h⟩:=hI
   refine wpOp_step rfl (fun K' hK'=>?_)
   simp (decide:=true) only [if_true,if_false,reduceIte,j8,j7] at hK'
   refine tX ?hg (N:=4) ?hd (cs:=#[(.int .i64 0),(.int .i64 0),(.slice none 0 0)]) (t:=28) ?hr ?_
   case hd=>rfl
   case hg=>rfl
   case hr=>(try simp only [aXF,cond_true,cond_false]);first|(go_simp;done)|(go_simp;rfl)
   intro gb hgb W' hbox hb
   have hlt:=h.hB.size
   have hle:=hb.size
   refine hK' _ _ (⟨j3,j4,j5,j6,g3,gb,hA,?_,⟨aF h.hB hb,fun e=>Nat.le_trans (h.hA_ e) hle,fun e=>Kd.dB (Kd.bM (Kd.fK (h.h4 e)) hb) (fun q hq=>⟨hq.1.1,hq.1.2.1,fun _=>by have:=hq.2.2.1;omega⟩),fun e=>Kd.dB (Kd.bM (Kd.fK (h.h9 e)) hb) (fun q hq=>⟨hq.1.1,hq.1.2.1,fun _=>by have:=hq.2.2.1;omega⟩),fun e=>⟨(h.h10 e).1,aB (h.h10 e).2 hb⟩,fun _=>⟨by omega,hbox⟩,fun e2 _ e3=>by have:=bG (h.h10 e2).2;omega⟩⟩)
   show Act.put _ (some 4) _=_
   simp only [aXF,Act.put,List.setIfInBounds_toArray,List.set_cons_zero,List.set_cons_succ]
   rfl
  ·
   have hn_:=hneed _ rfl
   have n4:=hn_ 4 (by decide)
   have n9:=hn_ 9 (by decide)
   have n10:=hn_ 10 (by decide)
   have n11:=hn_ 11 (by decide)
   have n3:=hcl 4 _ n4 rfl 3 (by decide)
   have n8:=hcl 9 _ n9 rfl 8 (by decide)
   have n2:=hcl 3 _ n3 rfl 2 (by decide)
   have n7:=hcl 8 _ n8 rfl 7 (by decide)
   have n1:=hcl 2 _ n2 rfl 1 (by decide)
   have n6:=hcl 7 _ n7 rfl 6 (by decide)
   have n0:=hcl 1 _ n1 rfl 0 (by decide)
   have n5:=hcl 6 _ n6 rfl 5 (by decide)
   have j7:=zz_ (fun h=>hcl 13 _ h rfl 12 (by decide)) hbi
   simp only [hbi,n0,n1,n2,n3,n4,n5,n6,n7,n8,n9,n10,n11,j7] at hI
   obtain ⟨j3,j4,j5,j6,g3,g4,hA,rfl,h⟩:=hI
   refine wpOp_step rfl (fun K' hK'=>?_)
   simp (decide:=true) only [if_true,if_false,reduceIte,n0,n1,n2,n3,n4,n5,n6,n7,n8,n9,n10,n11,j7] at hK'
   obtain ⟨hg6,hbx⟩:=h.h10 rfl
   replace hbx:W.heap[g3]?=some (.cells #[(.int .i64 0),(.int .i64 0),(.slice none 0 0)] 28 (0,0)):=hbx
   have q0:W.cell? ⟨g3,0,none⟩=some (.int .i64 0):=aA hbx 0
   have f0:=aD hbx 0
   have q1:W.cell? ⟨g3,1,none⟩=some (.int .i64 0):=aA hbx 1
   have f1:=aD hbx 1
   have q2:W.cell? ⟨g3,2,none⟩=some (.slice none 0 0):=aA hbx 2
   have f2:=aD hbx 2
   refine AY (w1:=(((W.setCell ⟨g3,0,none⟩ (.int .i64 x0)).setCell ⟨g3,1,none⟩ (.int .i64 x1)).setCell ⟨g3,2,none⟩ (.slice j3 x2.length j4))) (by rfl) rfl ?_ ?_
   ·(try simp only [aXF,cond_true,cond_false])
    go_simp
    (try rfl)
   refine hK' _ _ (⟨j3,j4,j5,j6,g3,g4,hA,rfl,⟨(below_set (j:=2) (v:=(.slice j3 x2.length j4)) (below_set (j:=1) (v:=(.int .i64 x1)) (below_set (j:=0) (v:=(.int .i64 x0)) h.hB hg6) hg6) hg6),fun e=>Nat.le_trans (h.hA_ e) (by simp [World.setCell]),fun _=>(Kd.dS (p:=⟨g3,2,none⟩) (Kd.dS (p:=⟨g3,1,none⟩) (Kd.dS (p:=⟨g3,0,none⟩) (h.h4 rfl) (fun q hq=>hq.2.1 rfl) (.int .i64 x0)) (fun q hq=>hq.2.1 rfl) (.int .i64 x1)) (fun q hq=>hq.2.1 rfl) (.slice j3 x2.length j4)),fun _=>(Kd.dS (p:=⟨g3,2,none⟩) (Kd.dS (p:=⟨g3,1,none⟩) (Kd.dS (p:=⟨g3,0,none⟩) (h.h9 rfl) (fun q hq=>hq.2.1 rfl) (.int .i64 x0)) (fun q hq=>hq.2.1 rfl) (.int .i64 x1)) (fun q hq=>hq.2.1 rfl) (.slice j3 x2.length j4)),fun _=>⟨hg6,(aO (cs':=#[(.int .i64 x0),(.int .i64 x1),(.slice j3 x2.length j4)]) (aO (cs':=#[(.int .i64 x0),(.int .i64 x1),(.slice none 0 0)]) (aO (cs':=#[(.int .i64 x0),(.int .i64 0),(.slice none 0 0)]) hbx 0 (.int .i64 x0) rfl) 1 (.int .i64 x1) rfl) 2 (.slice j3 x2.length j4) rfl)⟩,fun _=>⟨(h.h11 rfl).1,(aZ (p:=⟨g3,2,none⟩) (aZ (p:=⟨g3,1,none⟩) (aZ (p:=⟨g3,0,none⟩) (h.h11 rfl).2 (h.hne rfl rfl).symm (.int .i64 x0)) (h.hne rfl rfl).symm (.int .i64 x1)) (h.hne rfl rfl).symm (.slice j3 x2.length j4))⟩,h.hne⟩⟩)
  ·
   have hn_:=hneed _ rfl
   have n0:=hn_ 0 (by decide)
   have n1:=hn_ 1 (by decide)
   have n2:=hn_ 2 (by decide)
   have n3:=hn_ 3 (by decide)
   have n4:=hn_ 4 (by decide)
   have n5:=hn_ 5 (by decide)
   have n6:=hn_ 6 (by decide)
   have n7:=hn_ 7 (by decide)
   have n8:=hn_ 8 (by decide)
   have n9:=hn_ 9 (by decide)
   have n10:=hn_ 10 (by decide)
   have n11:=hn_ 11 (by decide)
   have n12:=hn_ 12 (by decide)
   simp only [hbi,n0,n1,n2,n3,n4,n5,n6,n7,n8,n9,n10,n11,n12] at hI
   obtain ⟨j3,j4,j5,j6,g3,g4,hA,rfl,h⟩:=hI
   refine wpOp_step rfl (fun K' hK'=>?_)
   simp (decide:=true) only [if_true,if_false,reduceIte,n0,n1,n2,n3,n4,n5,n6,n7,n8,n9,n10,n11,n12] at hK'
   obtain ⟨hg6,hbx⟩:=h.h11 rfl
   replace hbx:W.heap[g4]?=some (.cells #[(.int .i64 0),(.int .i64 0),(.slice none 0 0)] 28 (0,0)):=hbx
   have q0:W.cell? ⟨g4,0,none⟩=some (.int .i64 0):=aA hbx 0
   have f0:=aD hbx 0
   have q1:W.cell? ⟨g4,1,none⟩=some (.int .i64 0):=aA hbx 1
   have f1:=aD hbx 1
   have q2:W.cell? ⟨g4,2,none⟩=some (.slice none 0 0):=aA hbx 2
   have f2:=aD hbx 2
   refine AY (w1:=(((W.setCell ⟨g4,0,none⟩ (.int .i64 y0)).setCell ⟨g4,1,none⟩ (.int .i64 y1)).setCell ⟨g4,2,none⟩ (.slice j5 y2.length j6))) (by rfl) rfl ?_ ?_
   ·(try simp only [aXF,cond_true,cond_false])
    go_simp
    (try rfl)
   refine hK' _ _ (⟨j3,j4,j5,j6,g3,g4,hA,rfl,⟨(below_set (j:=2) (v:=(.slice j5 y2.length j6)) (below_set (j:=1) (v:=(.int .i64 y1)) (below_set (j:=0) (v:=(.int .i64 y0)) h.hB hg6) hg6) hg6),fun e=>Nat.le_trans (h.hA_ e) (by simp [World.setCell]),fun _=>(Kd.dS (p:=⟨g4,2,none⟩) (Kd.dS (p:=⟨g4,1,none⟩) (Kd.dS (p:=⟨g4,0,none⟩) (h.h4 rfl) (fun q hq=>hq.2.2 rfl) (.int .i64 y0)) (fun q hq=>hq.2.2 rfl) (.int .i64 y1)) (fun q hq=>hq.2.2 rfl) (.slice j5 y2.length j6)),fun _=>(Kd.dS (p:=⟨g4,2,none⟩) (Kd.dS (p:=⟨g4,1,none⟩) (Kd.dS (p:=⟨g4,0,none⟩) (h.h9 rfl) (fun q hq=>hq.2.2 rfl) (.int .i64 y0)) (fun q hq=>hq.2.2 rfl) (.int .i64 y1)) (fun q hq=>hq.2.2 rfl) (.slice j5 y2.length j6)),fun _=>⟨(h.h10 rfl).1,(aZ (p:=⟨g4,2,none⟩) (aZ (p:=⟨g4,1,none⟩) (aZ (p:=⟨g4,0,none⟩) (h.h10 rfl).2 (h.hne rfl rfl) (.int .i64 y0)) (h.hne rfl rfl) (.int .i64 y1)) (h.hne rfl rfl) (.slice j5 y2.length j6))⟩,fun _=>⟨hg6,(aO (cs':=#[(.int .i64 y0),(.int .i64 y1),(.slice j5 y2.length j6)]) (aO (cs':=#[(.int .i64 y0),(.int .i64 y1),(.slice none 0 0)]) (aO (cs':=#[(.int .i64 y0),(.int .i64 0),(.slice none 0 0)]) hbx 0 (.int .i64 y0) rfl) 1 (.int .i64 y1) rfl) 2 (.slice j5 y2.length j6) rfl)⟩,h.hne⟩⟩)
 case hdone=>
  intro b a W1 hall hI
  replace hI:LXF w W0 g1 g2 a0 a1 ad c0 l p0 p1 Ap cp p2 q0 q1 Aq cq q2 x0 x1 x2 y0 y1 y2 (b 0) (b 1) (b 2) (b 3) (b 4) (b 5) (b 6) (b 7) (b 8) (b 9) (b 10) (b 11) (b 12) (b 13) a W1:=hI
  rw [hall 0 (by decide),hall 1 (by decide),hall 2 (by decide),hall 3 (by decide),hall 4 (by decide),hall 5 (by decide),hall 6 (by decide),hall 7 (by decide),hall 8 (by decide),hall 9 (by decide),hall 10 (by decide),hall 11 (by decide),hall 12 (by decide),hall 13 (by decide)] at hI
  obtain ⟨j3,j4,j5,j6,g3,g4,hA,rfl,h⟩:=hI
  simp only [aXF,cond_true]
  have S4:=am (Kd.dB (ok':=fun q=>q < hA∧(w.heap.size≤q∧q≠g2)) (Kd.gF (Kd.fK (h.h4 rfl)) HB.out.size) (fun q hq=>⟨hq.1.1,Nat.le_trans HB.out.size hq.2.1,by have:=bG B2.out;have:=hq.2.1;omega⟩))
  have S9:=am (Kd.dB (ok':=fun q=>hA≤q∧(w.heap.size≤q∧q≠g2)) (Kd.gF (Kd.fK (h.h9 rfl)) HB.out.size) (fun q hq=>⟨hq.1.1,Nat.le_trans HB.out.size hq.2.1,by have:=bG B2.out;have:=hq.2.1;omega⟩))
  have X3:Aside0 (W1.heap[g3]?=some (.cells #[(.int .i64 x0),(.int .i64 x1),(.slice j3 x2.length j4)] 28 (0,0))):=⟨(h.h10 rfl).2⟩
  have X4:Aside0 (W1.heap[g4]?=some (.cells #[(.int .i64 y0),(.int .i64 y1),(.slice j5 y2.length j6)] 28 (0,0))):=⟨(h.h11 rfl).2⟩
  replace B1:=am (aB B1.out h.hB)
  replace B2:=am (aB B2.out h.hB)
  replace HB:=am (aF HB.out h.hB)
  clear h hall
  have z0:W1.cell? ⟨g1,0,none⟩=some (.int .i64 a0):=aA B1.out 0
  have x_0:W1.cell? ⟨g3,0,none⟩=some (.int .i64 x0):=aA X3.out 0
  have x_1:W1.cell? ⟨g3,1,none⟩=some (.int .i64 x1):=aA X3.out 1
  have x_2:W1.cell? ⟨g3,2,none⟩=some (.slice j3 x2.length j4):=aA X3.out 2
  have y_0:W1.cell? ⟨g4,0,none⟩=some (.int .i64 y0):=aA X4.out 0
  have y_1:W1.cell? ⟨g4,1,none⟩=some (.int .i64 y1):=aA X4.out 1
  have y_2:W1.cell? ⟨g4,2,none⟩=some (.slice j5 y2.length j6):=aA X4.out 2
  have u0:W1.cell? ⟨g2,0,none⟩=some (.int .i64 0):=aA B2.out 0
  have u1:W1.cell? ⟨g2,1,none⟩=some (.int .i64 0):=aA B2.out 1
  have u2:W1.cell? ⟨g2,2,none⟩=some (.slice none 0 0):=aA B2.out 2
  have f0:=aD B2.out 0
  have f1:=aD B2.out 1
  have f2:=aD B2.out 2
  rcases aK.tail HT.out with ⟨ha,hb,n,hn,h3⟩|⟨h4,h3⟩
  ·have HN:=am hn
   have e0:(x0 == 0)=true:=beq_iff_eq.mpr ha
   have e1:(y0 == 0)=true:=beq_iff_eq.mpr hb
   clear hn ha hb
   rcases h3 with ⟨h1,h2,h3⟩|⟨h4,h3⟩
   ·have ji:decide (0≤n)=true:=decide_eq_true h1
    have jj:decide (n≤99999)=true:=decide_eq_true h2
    clear h1 h2
    simp only [Prod.mk.injEq] at h3
    obtain ⟨rfl,rfl,rfl⟩:=h3
    go_wp2_with (first|((with_reducible refine aC (f:=62) rfl ?_);refine aP (some 39) rfl rfl Try.func62 (by kernel_rfl) rfl #[.int .i64 a0, .int .i64 x1, .int .i64 y1] rfl (by (try simp only [List.map_toArray,List.map_cons,List.map_nil]);first|done|rfl) ?_;(with_reducible refine (dG.callsB a0 x1 y1 n _ HN.out).mono ?_);rintro e W5 ⟨rfl,hb⟩;refine ⟨_,rfl,?_⟩;replace S4:=am (Kd.bM S4.out hb);replace S9:=am (Kd.bM S9.out hb);replace X3:=am (aB X3.out hb);replace X4:=am (aB X4.out hb);replace B1:=am (aB B1.out hb);replace B2:=am (aB B2.out hb);replace HB:=am (aF HB.out hb);clear hb z0 x_0 x_1 x_2 y_0 y_1 y_2 u0 u1 u2 f0 f1 f2;have z0:W5.cell? ⟨g1,0,none⟩=some (.int .i64 a0):=aA B1.out 0;have x_0:W5.cell? ⟨g3,0,none⟩=some (.int .i64 x0):=aA X3.out 0;have x_1:W5.cell? ⟨g3,1,none⟩=some (.int .i64 x1):=aA X3.out 1;have x_2:W5.cell? ⟨g3,2,none⟩=some (.slice j3 x2.length j4):=aA X3.out 2;have y_0:W5.cell? ⟨g4,0,none⟩=some (.int .i64 y0):=aA X4.out 0;have y_1:W5.cell? ⟨g4,1,none⟩=some (.int .i64 y1):=aA X4.out 1;have y_2:W5.cell? ⟨g4,2,none⟩=some (.slice j5 y2.length j6):=aA X4.out 2;have u0:W5.cell? ⟨g2,0,none⟩=some (.int .i64 0):=aA B2.out 0;have u1:W5.cell? ⟨g2,1,none⟩=some (.int .i64 0):=aA B2.out 1;have u2:W5.cell? ⟨g2,2,none⟩=some (.slice none 0 0):=aA B2.out 2;have f0:=aD B2.out 0;have f1:=aD B2.out 1;have f2:=aD B2.out 2)|fail)
    refine bodyPost_ret (results_cell_row rfl _ _ g2 28 #[(.int .i64 0),(.int .i64 n), .slice none 0 0] (0,0) _ rfl (aO (aO (aO B2.out 0 _ rfl) 1 _ rfl) 2 _ rfl) Try.underlying28 rfl (by kernel_rfl)) rfl ?_
    exact ⟨_,rfl,Kd.tN _ _ _ _ _,below_set (below_set (below_set HB.out j9.out) j9.out) j9.out⟩
   ·by_cases h1:0≤n
    ·have ji:decide (0≤n)=true:=decide_eq_true h1
     have jj:decide (n≤99999)=false:=decide_eq_false (fun h2=>h4 ⟨h1,h2⟩)
     clear h1 h4
     simp only [Prod.mk.injEq] at h3
     obtain ⟨rfl,rfl,rfl⟩:=h3
     go_wp2_with (first|((with_reducible refine aC (f:=62) rfl ?_);refine aP (some 39) rfl rfl Try.func62 (by kernel_rfl) rfl #[.int .i64 a0, .int .i64 x1, .int .i64 y1] rfl (by (try simp only [List.map_toArray,List.map_cons,List.map_nil]);first|done|rfl) ?_;(with_reducible refine (dG.callsB a0 x1 y1 n _ HN.out).mono ?_);rintro e W5 ⟨rfl,hb⟩;refine ⟨_,rfl,?_⟩;replace S4:=am (Kd.bM S4.out hb);replace S9:=am (Kd.bM S9.out hb);replace X3:=am (aB X3.out hb);replace X4:=am (aB X4.out hb);replace B1:=am (aB B1.out hb);replace B2:=am (aB B2.out hb);replace HB:=am (aF HB.out hb);clear hb z0 x_0 x_1 x_2 y_0 y_1 y_2 u0 u1 u2 f0 f1 f2;have z0:W5.cell? ⟨g1,0,none⟩=some (.int .i64 a0):=aA B1.out 0;have x_0:W5.cell? ⟨g3,0,none⟩=some (.int .i64 x0):=aA X3.out 0;have x_1:W5.cell? ⟨g3,1,none⟩=some (.int .i64 x1):=aA X3.out 1;have x_2:W5.cell? ⟨g3,2,none⟩=some (.slice j3 x2.length j4):=aA X3.out 2;have y_0:W5.cell? ⟨g4,0,none⟩=some (.int .i64 y0):=aA X4.out 0;have y_1:W5.cell? ⟨g4,1,none⟩=some (.int .i64 y1):=aA X4.out 1;have y_2:W5.cell? ⟨g4,2,none⟩=some (.slice j5 y2.length j6):=aA X4.out 2;have u0:W5.cell? ⟨g2,0,none⟩=some (.int .i64 0):=aA B2.out 0;have u1:W5.cell? ⟨g2,1,none⟩=some (.int .i64 0):=aA B2.out 1;have u2:W5.cell? ⟨g2,2,none⟩=some (.slice none 0 0):=aA B2.out 2;have f0:=aD B2.out 0;have f1:=aD B2.out 1;have f2:=aD B2.out 2)|((with_reducible refine aV (N:=52) rfl ?_);refine Kd.rY gP w.heap.size 28 rfl (N:=52) rfl (w0:=w) (xs:=[(⟨x0,x1,x2⟩:S28),(⟨y0,y1,y2⟩:S28)]) (inner:=[(.int .i64 x0),(.int .i64 x1),(.slice j3 x2.length j4),(.int .i64 y0),(.int .i64 y1),(.slice j5 y2.length j6)]) (ok:=fun q=>w.heap.size≤q∧q≠g2) (fun j q=>((j=0∧q < hA)∨(j=1∧hA≤q))∧w.heap.size≤q∧q≠g2) ?hr rfl ?hrep ?hap (fun j q hq=>hq.2) ?hfr HB.out HB.out.size (by simp) ?_;(case hr=>first|(go_simp;done)|(go_simp;rfl));(case hrep=>(intro j x hj;rcases j with _| _|j;(obtain rfl:=Option.some.inj hj;exact eD _ _ _ (⟨x0,x1,x2⟩:S28) (Kd.dB S4.out (fun q hq=>⟨.inl ⟨rfl,hq.1⟩,hq.2⟩)));(obtain rfl:=Option.some.inj hj;exact eD _ _ _ (⟨y0,y1,y2⟩:S28) (Kd.dB S9.out (fun q hq=>⟨.inr ⟨rfl,hq.1⟩,hq.2⟩)));exact absurd hj (by simp)));(case hap=>(intro i j q h1 h2;rcases h1.1 with ⟨rfl,a⟩|⟨rfl,a⟩ <;> rcases h2.1 with ⟨rfl,b⟩|⟨rfl,b⟩ <;> omega));(case hfr=>exact ⟨HB.out.size,by have:=bG B2.out;omega⟩);intro v9 W9 hs hb9 hg9 _;obtain ⟨B9,d9,e9⟩:=Kd.dW hs;replace e9:v9= .slice B9 2 d9:=e9;subst e9;have SR:=am hs;replace HB:=am hb9;replace B2:=am (lM B2.out hg9 (by simp));clear hs hb9 hg9 z0 x_0 x_1 x_2 y_0 y_1 y_2 u0 u1 u2 f0 f1 f2 X3 X4 B1 S4 S9;have u0:W9.cell? ⟨g2,0,none⟩=some (.int .i64 0):=aA B2.out 0;have u1:W9.cell? ⟨g2,1,none⟩=some (.int .i64 0):=aA B2.out 1;have u2:W9.cell? ⟨g2,2,none⟩=some (.slice none 0 0):=aA B2.out 2;have f0:=aD B2.out 0;have f1:=aD B2.out 1;have f2:=aD B2.out 2)|fail)
     refine bodyPost_ret (results_cell_row rfl _ _ g2 28 #[(.int .i64 a0),(.int .i64 0), .slice B9 2 d9] (0,0) _ rfl (aO (aO (aO B2.out 0 _ rfl) 1 _ rfl) 2 _ rfl) Try.underlying28 rfl (by kernel_rfl)) rfl ?_
     exact ⟨_,rfl,Kd.dB (Kd.dS (p:=⟨g2,2,none⟩) (Kd.dS (p:=⟨g2,1,none⟩) (Kd.dS (p:=⟨g2,0,none⟩) SR.out (fun q hq=>hq.2) _) (fun q hq=>hq.2) _) (fun q hq=>hq.2) _) (fun q hq=>hq.1),below_set (below_set (below_set HB.out j9.out) j9.out) j9.out⟩
    ·have ji:decide (0≤n)=false:=decide_eq_false h1
     clear h1 h4
     simp only [Prod.mk.injEq] at h3
     obtain ⟨rfl,rfl,rfl⟩:=h3
     go_wp2_with (first|((with_reducible refine aC (f:=62) rfl ?_);refine aP (some 39) rfl rfl Try.func62 (by kernel_rfl) rfl #[.int .i64 a0, .int .i64 x1, .int .i64 y1] rfl (by (try simp only [List.map_toArray,List.map_cons,List.map_nil]);first|done|rfl) ?_;(with_reducible refine (dG.callsB a0 x1 y1 n _ HN.out).mono ?_);rintro e W5 ⟨rfl,hb⟩;refine ⟨_,rfl,?_⟩;replace S4:=am (Kd.bM S4.out hb);replace S9:=am (Kd.bM S9.out hb);replace X3:=am (aB X3.out hb);replace X4:=am (aB X4.out hb);replace B1:=am (aB B1.out hb);replace B2:=am (aB B2.out hb);replace HB:=am (aF HB.out hb);clear hb z0 x_0 x_1 x_2 y_0 y_1 y_2 u0 u1 u2 f0 f1 f2;have z0:W5.cell? ⟨g1,0,none⟩=some (.int .i64 a0):=aA B1.out 0;have x_0:W5.cell? ⟨g3,0,none⟩=some (.int .i64 x0):=aA X3.out 0;have x_1:W5.cell? ⟨g3,1,none⟩=some (.int .i64 x1):=aA X3.out 1;have x_2:W5.cell? ⟨g3,2,none⟩=some (.slice j3 x2.length j4):=aA X3.out 2;have y_0:W5.cell? ⟨g4,0,none⟩=some (.int .i64 y0):=aA X4.out 0;have y_1:W5.cell? ⟨g4,1,none⟩=some (.int .i64 y1):=aA X4.out 1;have y_2:W5.cell? ⟨g4,2,none⟩=some (.slice j5 y2.length j6):=aA X4.out 2;have u0:W5.cell? ⟨g2,0,none⟩=some (.int .i64 0):=aA B2.out 0;have u1:W5.cell? ⟨g2,1,none⟩=some (.int .i64 0):=aA B2.out 1;have u2:W5.cell? ⟨g2,2,none⟩=some (.slice none 0 0):=aA B2.out 2;have f0:=aD B2.out 0;have f1:=aD B2.out 1;have f2:=aD B2.out 2)|((with_reducible refine aV (N:=52) rfl ?_);refine Kd.rY gP w.heap.size 28 rfl (N:=52) rfl (w0:=w) (xs:=[(⟨x0,x1,x2⟩:S28),(⟨y0,y1,y2⟩:S28)]) (inner:=[(.int .i64 x0),(.int .i64 x1),(.slice j3 x2.length j4),(.int .i64 y0),(.int .i64 y1),(.slice j5 y2.length j6)]) (ok:=fun q=>w.heap.size≤q∧q≠g2) (fun j q=>((j=0∧q < hA)∨(j=1∧hA≤q))∧w.heap.size≤q∧q≠g2) ?hr rfl ?hrep ?hap (fun j q hq=>hq.2) ?hfr HB.out HB.out.size (by simp) ?_;(case hr=>first|(go_simp;done)|(go_simp;rfl));(case hrep=>(intro j x hj;rcases j with _| _|j;(obtain rfl:=Option.some.inj hj;exact eD _ _ _ (⟨x0,x1,x2⟩:S28) (Kd.dB S4.out (fun q hq=>⟨.inl ⟨rfl,hq.1⟩,hq.2⟩)));(obtain rfl:=Option.some.inj hj;exact eD _ _ _ (⟨y0,y1,y2⟩:S28) (Kd.dB S9.out (fun q hq=>⟨.inr ⟨rfl,hq.1⟩,hq.2⟩)));exact absurd hj (by simp)));(case hap=>(intro i j q h1 h2;rcases h1.1 with ⟨rfl,a⟩|⟨rfl,a⟩ <;> rcases h2.1 with ⟨rfl,b⟩|⟨rfl,b⟩ <;> omega));(case hfr=>exact ⟨HB.out.size,by have:=bG B2.out;omega⟩);intro v9 W9 hs hb9 hg9 _;obtain ⟨B9,d9,e9⟩:=Kd.dW hs;replace e9:v9= .slice B9 2 d9:=e9;subst e9;have SR:=am hs;replace HB:=am hb9;replace B2:=am (lM B2.out hg9 (by simp));clear hs hb9 hg9 z0 x_0 x_1 x_2 y_0 y_1 y_2 u0 u1 u2 f0 f1 f2 X3 X4 B1 S4 S9;have u0:W9.cell? ⟨g2,0,none⟩=some (.int .i64 0):=aA B2.out 0;have u1:W9.cell? ⟨g2,1,none⟩=some (.int .i64 0):=aA B2.out 1;have u2:W9.cell? ⟨g2,2,none⟩=some (.slice none 0 0):=aA B2.out 2;have f0:=aD B2.out 0;have f1:=aD B2.out 1;have f2:=aD B2.out 2)|fail)
     refine bodyPost_ret (results_cell_row rfl _ _ g2 28 #[(.int .i64 a0),(.int .i64 0), .slice B9 2 d9] (0,0) _ rfl (aO (aO (aO B2.out 0 _ rfl) 1 _ rfl) 2 _ rfl) Try.underlying28 rfl (by kernel_rfl)) rfl ?_
     exact ⟨_,rfl,Kd.dB (Kd.dS (p:=⟨g2,2,none⟩) (Kd.dS (p:=⟨g2,1,none⟩) (Kd.dS (p:=⟨g2,0,none⟩) SR.out (fun q hq=>hq.2) _) (fun q hq=>hq.2) _) (fun q hq=>hq.2) _) (fun q hq=>hq.1),below_set (below_set (below_set HB.out j9.out) j9.out) j9.out⟩
  ·by_cases h1:x0=0
   ·have e0:(x0 == 0)=true:=beq_iff_eq.mpr h1
    have e1:(y0 == 0)=false:=beq_eq_false_iff_ne.mpr (fun h2=>h4 ⟨h1,h2⟩)
    clear h1 h4
    simp only [Prod.mk.injEq] at h3
    obtain ⟨rfl,rfl,rfl⟩:=h3
    go_wp2_with (first|((with_reducible refine aV (N:=52) rfl ?_);refine Kd.rY gP w.heap.size 28 rfl (N:=52) rfl (w0:=w) (xs:=[(⟨x0,x1,x2⟩:S28),(⟨y0,y1,y2⟩:S28)]) (inner:=[(.int .i64 x0),(.int .i64 x1),(.slice j3 x2.length j4),(.int .i64 y0),(.int .i64 y1),(.slice j5 y2.length j6)]) (ok:=fun q=>w.heap.size≤q∧q≠g2) (fun j q=>((j=0∧q < hA)∨(j=1∧hA≤q))∧w.heap.size≤q∧q≠g2) ?hr rfl ?hrep ?hap (fun j q hq=>hq.2) ?hfr HB.out HB.out.size (by simp) ?_;(case hr=>first|(go_simp;done)|(go_simp;rfl));(case hrep=>(intro j x hj;rcases j with _| _|j;(obtain rfl:=Option.some.inj hj;exact eD _ _ _ (⟨x0,x1,x2⟩:S28) (Kd.dB S4.out (fun q hq=>⟨.inl ⟨rfl,hq.1⟩,hq.2⟩)));(obtain rfl:=Option.some.inj hj;exact eD _ _ _ (⟨y0,y1,y2⟩:S28) (Kd.dB S9.out (fun q hq=>⟨.inr ⟨rfl,hq.1⟩,hq.2⟩)));exact absurd hj (by simp)));(case hap=>(intro i j q h1 h2;rcases h1.1 with ⟨rfl,a⟩|⟨rfl,a⟩ <;> rcases h2.1 with ⟨rfl,b⟩|⟨rfl,b⟩ <;> omega));(case hfr=>exact ⟨HB.out.size,by have:=bG B2.out;omega⟩);intro v9 W9 hs hb9 hg9 _;obtain ⟨B9,d9,e9⟩:=Kd.dW hs;replace e9:v9= .slice B9 2 d9:=e9;subst e9;have SR:=am hs;replace HB:=am hb9;replace B2:=am (lM B2.out hg9 (by simp));clear hs hb9 hg9 z0 x_0 x_1 x_2 y_0 y_1 y_2 u0 u1 u2 f0 f1 f2 X3 X4 B1 S4 S9;have u0:W9.cell? ⟨g2,0,none⟩=some (.int .i64 0):=aA B2.out 0;have u1:W9.cell? ⟨g2,1,none⟩=some (.int .i64 0):=aA B2.out 1;have u2:W9.cell? ⟨g2,2,none⟩=some (.slice none 0 0):=aA B2.out 2;have f0:=aD B2.out 0;have f1:=aD B2.out 1;have f2:=aD B2.out 2)|fail)
    refine bodyPost_ret (results_cell_row rfl _ _ g2 28 #[(.int .i64 a0),(.int .i64 0), .slice B9 2 d9] (0,0) _ rfl (aO (aO (aO B2.out 0 _ rfl) 1 _ rfl) 2 _ rfl) Try.underlying28 rfl (by kernel_rfl)) rfl ?_
    exact ⟨_,rfl,Kd.dB (Kd.dS (p:=⟨g2,2,none⟩) (Kd.dS (p:=⟨g2,1,none⟩) (Kd.dS (p:=⟨g2,0,none⟩) SR.out (fun q hq=>hq.2) _) (fun q hq=>hq.2) _) (fun q hq=>hq.2) _) (fun q hq=>hq.1),below_set (below_set (below_set HB.out j9.out) j9.out) j9.out⟩
   ·have e0:(x0 == 0)=false:=beq_eq_false_iff_ne.mpr h1
    clear h1 h4
    simp only [Prod.mk.injEq] at h3
    obtain ⟨rfl,rfl,rfl⟩:=h3
    go_wp2_with (first|((with_reducible refine aV (N:=52) rfl ?_);refine Kd.rY gP w.heap.size 28 rfl (N:=52) rfl (w0:=w) (xs:=[(⟨x0,x1,x2⟩:S28),(⟨y0,y1,y2⟩:S28)]) (inner:=[(.int .i64 x0),(.int .i64 x1),(.slice j3 x2.length j4),(.int .i64 y0),(.int .i64 y1),(.slice j5 y2.length j6)]) (ok:=fun q=>w.heap.size≤q∧q≠g2) (fun j q=>((j=0∧q < hA)∨(j=1∧hA≤q))∧w.heap.size≤q∧q≠g2) ?hr rfl ?hrep ?hap (fun j q hq=>hq.2) ?hfr HB.out HB.out.size (by simp) ?_;(case hr=>first|(go_simp;done)|(go_simp;rfl));(case hrep=>(intro j x hj;rcases j with _| _|j;(obtain rfl:=Option.some.inj hj;exact eD _ _ _ (⟨x0,x1,x2⟩:S28) (Kd.dB S4.out (fun q hq=>⟨.inl ⟨rfl,hq.1⟩,hq.2⟩)));(obtain rfl:=Option.some.inj hj;exact eD _ _ _ (⟨y0,y1,y2⟩:S28) (Kd.dB S9.out (fun q hq=>⟨.inr ⟨rfl,hq.1⟩,hq.2⟩)));exact absurd hj (by simp)));(case hap=>(intro i j q h1 h2;rcases h1.1 with ⟨rfl,a⟩|⟨rfl,a⟩ <;> rcases h2.1 with ⟨rfl,b⟩|⟨rfl,b⟩ <;> omega));(case hfr=>exact ⟨HB.out.size,by have:=bG B2.out;omega⟩);intro v9 W9 hs hb9 hg9 _;obtain ⟨B9,d9,e9⟩:=Kd.dW hs;replace e9:v9= .slice B9 2 d9:=e9;subst e9;have SR:=am hs;replace HB:=am hb9;replace B2:=am (lM B2.out hg9 (by simp));clear hs hb9 hg9 z0 x_0 x_1 x_2 y_0 y_1 y_2 u0 u1 u2 f0 f1 f2 X3 X4 B1 S4 S9;have u0:W9.cell? ⟨g2,0,none⟩=some (.int .i64 0):=aA B2.out 0;have u1:W9.cell? ⟨g2,1,none⟩=some (.int .i64 0):=aA B2.out 1;have u2:W9.cell? ⟨g2,2,none⟩=some (.slice none 0 0):=aA B2.out 2;have f0:=aD B2.out 0;have f1:=aD B2.out 1;have f2:=aD B2.out 2)|fail)
    refine bodyPost_ret (results_cell_row rfl _ _ g2 28 #[(.int .i64 a0),(.int .i64 0), .slice B9 2 d9] (0,0) _ rfl (aO (aO (aO B2.out 0 _ rfl) 1 _ rfl) 2 _ rfl) Try.underlying28 rfl (by kernel_rfl)) rfl ?_
    exact ⟨_,rfl,Kd.dB (Kd.dS (p:=⟨g2,2,none⟩) (Kd.dS (p:=⟨g2,1,none⟩) (Kd.dS (p:=⟨g2,0,none⟩) SR.out (fun q hq=>hq.2) _) (fun q hq=>hq.2) _) (fun q hq=>hq.2) _) (fun q hq=>hq.1),below_set (below_set (below_set HB.out j9.out) j9.out) j9.out⟩
theorem aK.calls (k:Nat):∀ (j4:Int) (j5:Int) (j6:Option Addr) (j7:Nat) (j3:List (S28)) (r1:Int) (r2:Int) (r3:List (S28)) (w:World) (hr0_2:Kd.C k28 w j6 j3.length j3) (hc0_2:j3.length≤j7) (h:aK.f k j4 j5 j3=some (r1,r2,r3)),
  Calls Try.prog 32 #[.agg #[.int .i64 j4, .int .i64 j5, .slice j6 j3.length j7]] w fun e w'=>∃ v2_:Value,e= .returned (.agg #[.int .i64 r1, .int .i64 r2,v2_])∧Kd.N k28 28 w' w.heap.size (fun k_=>(w.heap.size≤k_)) v2_ r3∧Below w.heap.size w w':=by
 intro a0 a1 A0 c0 l r1 r2 r3 w hr hc h
 refine (aK.callsS k a0 a1 A0 c0 l r1 r2 r3 w hr hc h).mono ?_
 rintro e w' ⟨v,rfl,hs,hb⟩
 exact ⟨v,rfl,Kd.R_N (dY hs),hb⟩
set_option linter.unusedVariables false
set_option linter.unusedSimpArgs false
theorem bV.callsS (k:Nat) (a0 a1:Int) (A:Option Addr) (c:Nat) (l:List (S28)) (r1 r2:Int) (r3:List (S28)) (r4:Bool) (w:World) (hr:Kd.C k28 w A l.length l) (hl:l.length≤c) (h:bV.f k a0 a1 l=some (r1,r2,r3,r4)):
  Calls Try.prog 9 #[.agg #[.int .i64 a0, .int .i64 a1, .slice A l.length c]] w fun e w'=>∃ v2_:Value,e= .returned (.tuple #[.agg #[.int .i64 r1, .int .i64 r2,v2_], .bool r4])∧Kd.S gP 28 w' w.heap.size (fun q=>w.heap.size≤q) v2_ r3∧Below w.heap.size w w':=by
 unfold bV.f at h
 obtain ⟨b,hv,h⟩:=Option.bind_eq_some_iff.mp h
 have HR:=Aside0.mk hr
 have HL:=Aside0.mk hl
 have HV:=Aside0.mk hv
 clear hr hl hv
 cases b
 case false=>
  rw [if_neg Bool.false_ne_true] at h
  simp only [Option.some.injEq,Prod.mk.injEq] at h
  obtain ⟨rfl,rfl,rfl,rfl⟩:=h
  go_enter Try.func9,Try.ntmps9
  go_wp2_with (first|((with_reducible refine aV (N:=1) rfl ?_);refine aY ?hg (N:=1) ?hd (cs:=#[(.int .i64 a0),(.int .i64 a1),(.slice A l.length c)]) (t:=28) ?hr ?_;(case hd=>rfl);(case hg=>rfl);(case hr=>first|(go_simp;done)|(go_simp;rfl));intro g1 hg w1 hbox hb;have X1:=Aside0.mk hbox;have B0:=Aside0.mk hb;clear hb hbox hg)|((with_reducible refine aV (N:=2) rfl ?_);refine aY ?hg (N:=2) ?hd (cs:=#[(.int .i64 0),(.int .i64 0),(.slice none 0 0)]) (t:=28) ?hr ?_;(case hd=>rfl);(case hg=>rfl);(case hr=>first|(go_simp;done)|(go_simp;rfl));intro g2 hg w2 hbox hb;have j3:=Aside0.mk (show w.heap.size≤g2 by rw [hg];exact B0.out.size);have NE:Aside0 (g1≠g2):=⟨by have:=bG X1.out;omega⟩;replace X1:=Aside0.mk (aB X1.out hb);replace B0:=Aside0.mk (aF B0.out hb);have X2:=Aside0.mk hbox;have ne12:=NE.out;have ne21:=Ne.symm NE.out;have yp0:w2.cell? ⟨g1,0,none⟩=some (.int .i64 a0):=aA X1.out 0;have yp1:w2.cell? ⟨g1,1,none⟩=some (.int .i64 a1):=aA X1.out 1;have yp2:w2.cell? ⟨g1,2,none⟩=some (.slice A l.length c):=aA X1.out 2;have yo0:w2.cell? ⟨g2,0,none⟩=some (.int .i64 0):=aA X2.out 0;have fo0:=aD X2.out 0;have yo1:w2.cell? ⟨g2,1,none⟩=some (.int .i64 0):=aA X2.out 1;have fo1:=aD X2.out 1;have yo2:w2.cell? ⟨g2,2,none⟩=some (.slice none 0 0):=aA X2.out 2;have fo2:=aD X2.out 2;clear hb hbox hg)|((with_reducible refine aC (f:=31) rfl ?_);refine aP (some 5) rfl rfl Try.func31 (by kernel_rfl) rfl #[.agg #[(.int .i64 a0),(.int .i64 a1),(.slice A l.length c)]] rfl (by (try simp only [List.map_toArray,List.map_cons,List.map_nil]);first|done|rfl) ?_;(with_reducible refine (bN.calls k a0 a1 _ _ l false _ (Kd.bA HR.out B0.out) HL.out HV.out).mono ?_);rintro e w3 ⟨rfl,hb⟩;refine ⟨_,rfl,?_⟩;replace X1:=Aside0.mk (aB X1.out hb);replace X2:=Aside0.mk (aB X2.out hb);replace B0:=Aside0.mk (aF B0.out hb);clear hb;clear yp0 yp1 yp2 yo0 yo1 yo2 fo0 fo1 fo2;have yp0:w3.cell? ⟨g1,0,none⟩=some (.int .i64 a0):=aA X1.out 0;have yp1:w3.cell? ⟨g1,1,none⟩=some (.int .i64 a1):=aA X1.out 1;have yp2:w3.cell? ⟨g1,2,none⟩=some (.slice A l.length c):=aA X1.out 2;have yo0:w3.cell? ⟨g2,0,none⟩=some (.int .i64 0):=aA X2.out 0;have fo0:=aD X2.out 0;have yo1:w3.cell? ⟨g2,1,none⟩=some (.int .i64 0):=aA X2.out 1;have fo1:=aD X2.out 1;have yo2:w3.cell? ⟨g2,2,none⟩=some (.slice none 0 0):=aA X2.out 2;have fo2:=aD X2.out 2)|fail)
  refine bodyPost_ret (kQ rfl _ _ g2 28 #[(.int .i64 0),(.int .i64 0),(.slice none 0 0)] (0,0) _ rfl (aO (cs':=#[(.int .i64 0),(.int .i64 0),(.slice none 0 0)]) (aO (cs':=#[(.int .i64 0),(.int .i64 0),(.slice none 0 0)]) (aO (cs':=#[(.int .i64 0),(.int .i64 0),(.slice none 0 0)]) X2.out 0 (.int .i64 0) rfl) 1 (.int .i64 0) rfl) 2 (.slice none 0 0) rfl) Try.underlying28 rfl (by kernel_rfl)) rfl ?_
  exact ⟨_,rfl,Kd.tN _ _ _ _ _,(below_set (j:=2) (v:=(.slice none 0 0)) (below_set (j:=1) (v:=(.int .i64 0)) (below_set (j:=0) (v:=(.int .i64 0)) B0.out j3.out) j3.out) j3.out)⟩
 rw [if_pos rfl] at h
 obtain ⟨⟨q1,q2,q3⟩,hf,h⟩:=Option.bind_eq_some_iff.mp h
 simp only [Option.some.injEq,Prod.mk.injEq] at h
 obtain ⟨rfl,rfl,rfl,rfl⟩:=h
 have HF:=Aside0.mk hf
 clear hf
 go_enter Try.func9,Try.ntmps9
 go_wp2_with (first|((with_reducible refine aV (N:=1) rfl ?_);refine aY ?hg (N:=1) ?hd (cs:=#[(.int .i64 a0),(.int .i64 a1),(.slice A l.length c)]) (t:=28) ?hr ?_;(case hd=>rfl);(case hg=>rfl);(case hr=>first|(go_simp;done)|(go_simp;rfl));intro g1 hg w1 hbox hb;have X1:=Aside0.mk hbox;have B0:=Aside0.mk hb;clear hb hbox hg)|((with_reducible refine aV (N:=2) rfl ?_);refine aY ?hg (N:=2) ?hd (cs:=#[(.int .i64 0),(.int .i64 0),(.slice none 0 0)]) (t:=28) ?hr ?_;(case hd=>rfl);(case hg=>rfl);(case hr=>first|(go_simp;done)|(go_simp;rfl));intro g2 hg w2 hbox hb;have j3:=Aside0.mk (show w.heap.size≤g2 by rw [hg];exact B0.out.size);have NE:Aside0 (g1≠g2):=⟨by have:=bG X1.out;omega⟩;replace X1:=Aside0.mk (aB X1.out hb);replace B0:=Aside0.mk (aF B0.out hb);have X2:=Aside0.mk hbox;have ne12:=NE.out;have ne21:=Ne.symm NE.out;have yp0:w2.cell? ⟨g1,0,none⟩=some (.int .i64 a0):=aA X1.out 0;have yp1:w2.cell? ⟨g1,1,none⟩=some (.int .i64 a1):=aA X1.out 1;have yp2:w2.cell? ⟨g1,2,none⟩=some (.slice A l.length c):=aA X1.out 2;have yo0:w2.cell? ⟨g2,0,none⟩=some (.int .i64 0):=aA X2.out 0;have fo0:=aD X2.out 0;have yo1:w2.cell? ⟨g2,1,none⟩=some (.int .i64 0):=aA X2.out 1;have fo1:=aD X2.out 1;have yo2:w2.cell? ⟨g2,2,none⟩=some (.slice none 0 0):=aA X2.out 2;have fo2:=aD X2.out 2;clear hb hbox hg)|((with_reducible refine aC (f:=31) rfl ?_);refine aP (some 5) rfl rfl Try.func31 (by kernel_rfl) rfl #[.agg #[(.int .i64 a0),(.int .i64 a1),(.slice A l.length c)]] rfl (by (try simp only [List.map_toArray,List.map_cons,List.map_nil]);first|done|rfl) ?_;(with_reducible refine (bN.calls k a0 a1 _ _ l true _ (Kd.bA HR.out B0.out) HL.out HV.out).mono ?_);rintro e w3 ⟨rfl,hb⟩;refine ⟨_,rfl,?_⟩;replace X1:=Aside0.mk (aB X1.out hb);replace X2:=Aside0.mk (aB X2.out hb);replace B0:=Aside0.mk (aF B0.out hb);clear hb;clear yp0 yp1 yp2 yo0 yo1 yo2 fo0 fo1 fo2;have yp0:w3.cell? ⟨g1,0,none⟩=some (.int .i64 a0):=aA X1.out 0;have yp1:w3.cell? ⟨g1,1,none⟩=some (.int .i64 a1):=aA X1.out 1;have yp2:w3.cell? ⟨g1,2,none⟩=some (.slice A l.length c):=aA X1.out 2;have yo0:w3.cell? ⟨g2,0,none⟩=some (.int .i64 0):=aA X2.out 0;have fo0:=aD X2.out 0;have yo1:w3.cell? ⟨g2,1,none⟩=some (.int .i64 0):=aA X2.out 1;have fo1:=aD X2.out 1;have yo2:w3.cell? ⟨g2,2,none⟩=some (.slice none 0 0):=aA X2.out 2;have fo2:=aD X2.out 2)|((with_reducible refine aC (f:=32) rfl ?_);refine aP (some 9) rfl rfl Try.func32 (by kernel_rfl) rfl #[.agg #[(.int .i64 a0),(.int .i64 a1),(.slice A l.length c)]] rfl (by (try simp only [List.map_toArray,List.map_cons,List.map_nil]);first|done|rfl) ?_;(with_reducible refine (aK.callsS k a0 a1 _ _ l q1 q2 q3 _ (Kd.bA HR.out B0.out) HL.out HF.out).mono ?_);rintro e w4 ⟨v,rfl,hn,hb⟩;refine ⟨_,rfl,?_⟩;obtain ⟨B,d,rfl⟩:=Kd.dW hn;have hle:=B0.out.size;have hl2:=bG X2.out;have SR:=Aside0.mk (Kd.dB (ok':=fun q=>w.heap.size≤q∧q≠g2) (Kd.gF hn hle) (fun q hq=>⟨Nat.le_trans hle hq,by omega⟩));replace X1:=Aside0.mk (aB X1.out hb);replace X2:=Aside0.mk (aB X2.out hb);replace B0:=Aside0.mk (aF B0.out hb);clear hb hn hle hl2;clear yp0 yp1 yp2 yo0 yo1 yo2 fo0 fo1 fo2;have yp0:w4.cell? ⟨g1,0,none⟩=some (.int .i64 a0):=aA X1.out 0;have yp1:w4.cell? ⟨g1,1,none⟩=some (.int .i64 a1):=aA X1.out 1;have yp2:w4.cell? ⟨g1,2,none⟩=some (.slice A l.length c):=aA X1.out 2;have yo0:w4.cell? ⟨g2,0,none⟩=some (.int .i64 0):=aA X2.out 0;have fo0:=aD X2.out 0;have yo1:w4.cell? ⟨g2,1,none⟩=some (.int .i64 0):=aA X2.out 1;have fo1:=aD X2.out 1;have yo2:w4.cell? ⟨g2,2,none⟩=some (.slice none 0 0):=aA X2.out 2;have fo2:=aD X2.out 2)|fail)
 refine bodyPost_ret (kQ rfl _ _ g2 28 #[(.int .i64 q1),(.int .i64 q2),(.slice B q3.length d)] (0,0) _ rfl (aO (cs':=#[(.int .i64 q1),(.int .i64 q2),(.slice B q3.length d)]) (aO (cs':=#[(.int .i64 q1),(.int .i64 q2),(.slice none 0 0)]) (aO (cs':=#[(.int .i64 q1),(.int .i64 0),(.slice none 0 0)]) X2.out 0 (.int .i64 q1) rfl) 1 (.int .i64 q2) rfl) 2 (.slice B q3.length d) rfl) Try.underlying28 rfl (by kernel_rfl)) rfl ?_
 exact ⟨_,rfl,(Kd.dB (Kd.dS (p:=⟨g2,2,none⟩) (Kd.dS (p:=⟨g2,1,none⟩) (Kd.dS (p:=⟨g2,0,none⟩) SR.out (fun q hq=>hq.2) (.int .i64 q1)) (fun q hq=>hq.2) (.int .i64 q2)) (fun q hq=>hq.2) (.slice B q3.length d)) (fun q hq=>hq.1)),(below_set (j:=2) (v:=(.slice B q3.length d)) (below_set (j:=1) (v:=(.int .i64 q2)) (below_set (j:=0) (v:=(.int .i64 q1)) B0.out j3.out) j3.out) j3.out)⟩
abbrev aM.bS (k:Nat):Prop:=∀ (base:Nat) (ok:Nat→Prop) (v:Value) (l:List S28) (n r:Int) (l':List S28) (w:World) (hs:Kd.S gP 28 w base ok v l) (h:aM.f k l n=some (r,l')),
  Calls Try.prog 34 #[v, .int .i64 n] w fun e w'=>e= .returned (.int .i64 r)∧Kd.S gP 28 w' base ok v l'∧Below base w w'∧Kept w w' ok
theorem mD {α:Type} (l:List α) (i:Nat) (x z:α) (h:i < l.length):(l.set i x).getD i z=x:=by
 rw [List.getD_eq_getElem?_getD,List.getElem?_set_self h]
 rfl
theorem aM.step (k:Nat) (ih:∀ m,m < k→aM.bS m):aM.bS k:=by
 intro base ok v l n r l' w hs h
 cases k with
 |zero=>exact absurd h (by simp [aM.f])
 |succ k=>
 simp only [aM.f] at h
 obtain ⟨A0,c0,rfl⟩:=Kd.dW hs
 have HS:=Aside0.mk hs
 have H':=Aside0.mk h
 have HL:=Aside0.mk (Kd.tO hs).2.1
 clear hs h
 go_enter Try.func34,Try.ntmps34
 go_wp2
 go_loopg [1,5] k (fun kq v1 v5 w'=>∃ (xs:List S28) (m i:Int),v1= .int .i64 m∧v5= .int .i64 i∧Aside0 (xs.length=l.length)∧Aside0 (aM.l0 kq xs m i=some (r,l'))∧Aside0 (kq≤k)∧Aside0 (Kd.S gP 28 w' base ok (.slice A0 l.length c0) xs)∧Aside0 (Below base w w')∧Aside0 (Kept w w' ok))
 case atStart=>exact ⟨l,n,0,rfl,(by first|rfl|(simp;done)),⟨rfl⟩,H',⟨Nat.le_refl _⟩,HS,⟨Below.refl _ _⟩,⟨Kept.refl _ _⟩⟩
 case round=>
  clear H' HS
  obtain ⟨xs,m,i,rfl,rfl,LE,HA,j5,HS,HB,HK⟩:=hrel
  cases gk with
  |zero=>exact absurd HA.out (by simp [aM.l0])
  |succ k1=>
   have H:=HA.out
   clear HA
   simp only [aM.l0] at H
   rw [LE.out] at H
   by_cases c6:i < (l.length:Int)
   case neg=>
    rw [if_neg c6] at H
    have j9:decide (i < (l.length:Int))=false:=decide_eq_false c6
    clear c6
    simp only [Option.some.injEq,Prod.mk.injEq] at H
    obtain ⟨rfl,rfl⟩:=H
    go_wp2
    go_ret
    exact ⟨rfl,HS.out,HB.out,HK.out⟩
   rw [if_pos c6] at H
   by_cases c7:0≤i
   case neg=>rw [if_neg c7] at H;exact absurd H (by simp)
   rw [if_pos c7] at H
   rcases hx:aH xs i with ⟨f0,f1,f2⟩
   rw [hx] at H
   obtain ⟨⟨n2,t2⟩,h1,H⟩:=Option.bind_eq_some_iff.mp H
   dsimp only at h1 H
   have H1:=Aside0.mk h1
   have HR:=Aside0.mk H
   have HX:Aside0 (xs.getD i.toNat z28=⟨f0,f1,f2⟩):=⟨hx⟩
   clear h1 H hx
   obtain ⟨go,co,eo,gb,gl,hgc⟩:=Kd.wZ HS.out (by have:=LE.out;omega)
   injection eo with ea_ en_ ec_
   subst ea_
   have C6:=Aside0.mk c6
   have C7:=Aside0.mk c7
   have CL:Aside0 (i.toNat < xs.length):=⟨by have:=LE.out;omega⟩
   have GOK:=Aside0.mk ((Kd.S_R HS.out).1 go (by simp [Value.ownBlock]))
   have j9:decide (i < (l.length:Int))=true:=decide_eq_true c6
   have q0:=eq_true c7
   have q1:=eq_true c6
   clear gb gl hgc en_ ec_ c6 c7
   go_wp2_with (first|((with_reducible refine mM (t:=3) (p:=16) rfl ?_);refine vI ?_)|fail)
   refine ⟨?_⟩
   obtain ⟨oki,c,hcl,hM,hcc,hoki,hH⟩:=Kd.rX HS.out z28 i C7.out C6.out
   rw [HX.out] at hM
   obtain ⟨v2,rfl,hS2⟩:=mO hM
   refine Kd.rT gP (w0:=wr) base rfl rfl 3 (.tmp 16) (.tmp 14) rfl 28 (g:=go) (o':=i.toNat * 3) i 0 xs ⟨m,f1,f2⟩ (.int .i64 m) [.int .i64 m] _ ok oki oki ?ha rfl rfl rfl (by kernel_rfl) ?h1 hH C7.out C6.out (show 0 + 1≤3 by decide) (eD wr base oki ⟨m,f1,f2⟩ hS2) (fun _ h=>h) (Below.refl _ _) ?_
   (case ha=>first|rfl|(go_simp;done)|(go_simp;rfl))
   (case h1=>intro q hq;rw [List.mem_singleton.1 hq];rfl)
   clear hM hcc hoki hH hcl hS2
   intro w1 hn hb hg
   have HS1:=Aside0.mk hn
   have j6:=Aside0.mk (HB.out.trans hb)
   have j3:=Aside0.mk (Kept.oZ hg HK.out (fun k hk=> .inl (by injection hk with hk;rw [← hk];exact GOK.out)))
   clear hn hb hg HS HB HK
   go_wp2_with (first|((with_reducible refine mM (t:=3) (p:=23) rfl ?_);refine vI ?_)|fail)
   refine ⟨?_⟩
   obtain ⟨oki,c,hcl,hM,hcc,hoki,hH⟩:=Kd.rX HS1.out z28 i C7.out C6.out
   rw [mD _ _ _ _ CL.out] at hM
   obtain ⟨v2,rfl,hS2⟩:=mO hM
   refine Kd.rT gP (w0:=w1) base rfl rfl 3 (.tmp 23) (.tmp 21) rfl 28 (g:=go) (o':=i.toNat * 3 + 1) i 1 _ ⟨m,wrap64 (m + 1),f2⟩ (.int .i64 (wrap64 (m + 1))) [.int .i64 (wrap64 (m + 1))] _ ok oki oki ?ha rfl rfl rfl (by kernel_rfl) ?h1 hH C7.out C6.out (show 1 + 1≤3 by decide) (eD w1 base oki ⟨m,wrap64 (m + 1),f2⟩ hS2) (fun _ h=>h) (Below.refl _ _) ?_
   (case ha=>first|rfl|(go_simp;done)|(go_simp;rfl))
   (case h1=>intro q hq;rw [List.mem_singleton.1 hq];rfl)
   clear hM hcc hoki hH hcl hS2
   intro w2 hn hb hg
   rw [List.set_set] at hn
   obtain ⟨oki,c,hcl,hM,hcc,hoki,hH⟩:=Kd.rX hn z28 i C7.out C6.out
   rw [mD _ _ _ _ CL.out] at hM
   obtain ⟨v2,rfl,hS2⟩:=mO hM
   obtain ⟨A2,c2,rfl⟩:=Kd.dW hS2
   have HS2:=Aside0.mk hS2
   have HH:=Aside0.mk hH
   have j7:=Aside0.mk (j6.out.trans hb)
   have j4:=Aside0.mk (Kept.oZ hg j3.out (fun k hk=> .inl (by injection hk with hk;rw [← hk];exact GOK.out)))
   have HOI:=Aside0.mk hoki
   have z2:w2.cell? ⟨go,i.toNat * 3 + 2,none⟩=some (.slice A2 f2.length c2):=hcc 2 _ rfl
   clear hn hb hg HS1 j6 j3 hM hcc hoki hH hcl hS2
   go_wp2_with (first|((with_reducible refine aC (f:=34) rfl ?_);refine aP (some 32) rfl rfl Try.func34 (by kernel_rfl) rfl #[.slice A2 f2.length c2, .int .i64 (wrap64 (wrap64 (m + 1) + 1))] rfl (by (try simp only [List.map_toArray,List.map_cons,List.map_nil]);first|done|rfl) ?_;(with_reducible refine (ih k1 (by have:=j5.out;omega) base oki _ f2 _ n2 t2 _ HS2.out H1.out).mono ?_);rintro e jc ⟨rfl,j8,hb,hk⟩;refine ⟨_,rfl,?_⟩;have HN:=Aside0.mk (Kd.wT (Kd.BG HH.out hk (fun _ _ hn hs=>hn hs)) (eD _ _ _ ⟨m,wrap64 (m + 1),t2⟩ j8) (fun _ h=>h));have ja:=Aside0.mk (j7.out.trans hb);have jb:=Aside0.mk (j4.out.then_ hk (fun q hq=> .inl (HOI.out q hq).1));clear j8 hb hk HH j7 j4 HOI HS2 z2)|fail)
   rw [List.set_set] at HN
   go_roundg k1
   case measure=>have:=j5.out;omega
   case rel=>exact ⟨_,n2,wrap64 (i + 1),rfl,(by first|rfl|(simp;done)|(simp [*];done)),⟨by rw [List.length_set];exact LE.out⟩,HR,⟨by have:=j5.out;omega⟩,HN,ja,jb⟩
theorem aM.calls (k:Nat):aM.bS k:=by
 induction k using Nat.strongRecOn with
 | _ k ih=>exact aM.step k ih
theorem eU.calls (k:Nat) (base:Nat) (ok:Nat→Prop) (a0 a1:Int) (A:Option Addr) (c:Nat) (l:List S28) (n r:Int) (l':List S28) (w:World) (hw:base≤w.heap.size) (hs:Kd.S gP 28 w base ok (.slice A l.length c) l) (h:eU.f k a0 a1 l n=some (r,l')):
  Calls Try.prog 11 #[.agg #[.int .i64 a0, .int .i64 a1, .slice A l.length c], .int .i64 n] w fun e w'=>e= .returned (.int .i64 r)∧Kd.S gP 28 w' base ok (.slice A l.length c) l'∧Below base w w'∧Kept w w' ok:=by
 have HS:=Aside0.mk hs
 have H:Aside0 (aM.f k l n=some (r,l')):=⟨h⟩
 have HW:=Aside0.mk hw
 clear hs h hw
 go_enter Try.func11,Try.ntmps11
 go_wp2_with (first|((with_reducible refine aV (N:=2) rfl ?_);refine aY (N:=2) ?hg ?hd (cs:=#[.int .i64 a0, .int .i64 a1, .slice A l.length c]) (t:=28) ?hr ?_;(case hd=>rfl);(case hg=>rfl);(case hr=>first|(go_simp;done)|(go_simp;rfl));intro g1 hg w1 hbox hb;have B1:=Aside0.mk hbox;have HB:=Aside0.mk hb;have HS1:=Aside0.mk (Kd.bM HS.out hb);have z2:w1.cell? ⟨g1,2,none⟩=some (.slice A l.length c):=aA hbox 2;clear hbox hg hb HS)|((with_reducible refine aC (f:=34) rfl ?_);refine aP (some 8) rfl rfl Try.func34 (by kernel_rfl) rfl #[.slice A l.length c, .int .i64 n] rfl (by (try simp only [List.map_toArray,List.map_cons,List.map_nil]);first|done|rfl) ?_;(with_reducible refine (aM.calls k base ok _ l n r l' _ HS1.out H.out).mono ?_);rintro e w2 ⟨rfl,j3,hb,hk⟩;refine ⟨_,rfl,?_⟩;have HS2:=Aside0.mk j3;have j4:=Aside0.mk ((HB.out.mono HW.out).trans hb);have j5:=Aside0.mk ((Kept.of_below HB.out ok).then_ hk (fun _ h=> .inl h));clear j3 hb hk)|fail)
 go_ret
 exact ⟨rfl,HS2.out,j4.out,j5.out⟩
abbrev aU.kK (k:Nat):Prop:=∀ (A0:Option Addr) (c0:Nat) (l0:List (S24)) (r:List (S28)) (w:World) (hr0:Kd.C k24 w A0 l0.length l0) (hc0:l0.length≤c0) (h:aU.f k l0=some r),
  Calls Try.prog 30 #[.slice A0 l0.length c0] w fun e w'=>∃ v0_:Value,e= .returned (v0_)∧Kd.S gP 28 w' w.heap.size (fun q=>w.heap.size≤q) v0_ r∧Below w.heap.size w w'
abbrev bD.kK (k:Nat):Prop:=∀ (a0 a1:Int) (A:Option Addr) (c:Nat) (l:List (S24)) (r1 r2:Int) (r3:List (S28)) (w:World) (hr0:Kd.C k24 w A l.length l) (hc0:l.length≤c) (h:bD.f k a0 a1 l=some (r1,r2,r3)),
  Calls Try.prog 8 #[.agg #[.int .i64 a0, .int .i64 a1, .slice A l.length c]] w fun e w'=>∃ v2_:Value,e= .returned (.agg #[.int .i64 r1, .int .i64 r2,v2_])∧Kd.S gP 28 w' w.heap.size (fun q=>w.heap.size≤q) v2_ r3∧Below w.heap.size w w'
theorem bD.xM (k:Nat) (ihS:∀ m,m < k→aU.kK m):bD.kK k:=by
 intro a0 a1 A c l r1 r2 r3 w hr hl h
 cases k with
 |zero=>exact absurd h (by simp [bD.f])
 |succ k=>
 simp only [bD.f] at h
 obtain ⟨t,ht,h⟩:=Option.bind_eq_some_iff.mp h
 simp only [Option.some.injEq,Prod.mk.injEq] at h
 obtain ⟨rfl,rfl,rfl⟩:=h
 have HR:=Aside0.mk hr
 have HL:=Aside0.mk hl
 have HT:=Aside0.mk ht
 clear hr hl ht
 go_enter Try.func8,Try.ntmps8
 go_wp2_with (first|((with_reducible refine aV (N:=1) rfl ?_);refine aY ?hg (N:=1) ?hd (cs:=#[(.int .i64 a0),(.int .i64 a1),(.slice A l.length c)]) (t:=24) ?hr ?_;(case hd=>rfl);(case hg=>rfl);(case hr=>first|(go_simp;done)|(go_simp;rfl));intro g1 hg w1 hbox hb;have X1:=Aside0.mk hbox;have B0:=Aside0.mk hb;have j5:Aside0 (w.heap.size≤g1):=⟨Nat.le_of_eq hg.symm⟩;clear hb hbox hg)|((with_reducible refine aV (N:=2) rfl ?_);refine aY ?hg (N:=2) ?hd (cs:=#[(.int .i64 0),(.int .i64 0),(.slice none 0 0)]) (t:=28) ?hr ?_;(case hd=>rfl);(case hg=>rfl);(case hr=>first|(go_simp;done)|(go_simp;rfl));intro g2 hg w2 hbox hb;have NE12:Aside0 (g1 < g2):=⟨by rw [hg];exact bG X1.out⟩;replace X1:=Aside0.mk (aB X1.out hb);replace B0:=Aside0.mk (aF B0.out hb);have X2:=Aside0.mk hbox;clear hb hbox hg)|((with_reducible refine aV (N:=3) rfl ?_);refine aY ?hg (N:=3) ?hd (cs:=#[(.int .i64 0),(.int .i64 0),(.slice none 0 0)]) (t:=28) ?hr ?_;(case hd=>rfl);(case hg=>rfl);(case hr=>first|(go_simp;done)|(go_simp;rfl));intro g3 hg w3 hbox hb;have NE23:Aside0 (g2 < g3):=⟨by rw [hg];exact bG X2.out⟩;replace X1:=Aside0.mk (aB X1.out hb);replace X2:=Aside0.mk (aB X2.out hb);replace B0:=Aside0.mk (aF B0.out hb);have X3:=Aside0.mk hbox;have j4:Aside0 (w.heap.size≤g2):=⟨by have:=j5.out;have:=NE12.out;omega⟩;have j3:Aside0 (w.heap.size≤g3):=⟨by have:=j4.out;have:=NE23.out;omega⟩;have ne13:g1≠g3:=(by have:=NE12.out;have:=NE23.out;omega);have ne31:g3≠g1:=Ne.symm ne13;have ne23:g2≠g3:=(by have:=NE23.out;omega);have ne32:g3≠g2:=Ne.symm ne23;have yp0:w3.cell? ⟨g1,0,none⟩=some (.int .i64 a0):=aA X1.out 0;have yp1:w3.cell? ⟨g1,1,none⟩=some (.int .i64 a1):=aA X1.out 1;have yp2:w3.cell? ⟨g1,2,none⟩=some (.slice A l.length c):=aA X1.out 2;have yo0:w3.cell? ⟨g3,0,none⟩=some (.int .i64 0):=aA X3.out 0;have fo0:=aD X3.out 0;have yo1:w3.cell? ⟨g3,1,none⟩=some (.int .i64 0):=aA X3.out 1;have fo1:=aD X3.out 1;have yo2:w3.cell? ⟨g3,2,none⟩=some (.slice none 0 0):=aA X3.out 2;have fo2:=aD X3.out 2;clear hb hbox hg)|((with_reducible refine aC (f:=30) rfl ?_);refine aP (some 12) rfl rfl Try.func30 (by kernel_rfl) rfl #[.slice A l.length c] rfl (by (try simp only [List.map_toArray,List.map_cons,List.map_nil]);first|done|rfl) ?_;(with_reducible refine (ihS k (Nat.lt_succ_self k) _ _ l t _ (Kd.bA HR.out (below_set (j:=1) (v:=(.int .i64 a1)) (below_set (j:=0) (v:=(.int .i64 a0)) B0.out j3.out) j3.out)) HL.out HT.out).mono ?_);rintro e w4 ⟨v,rfl,hn,hb⟩;refine ⟨_,rfl,?_⟩;obtain ⟨B,d,rfl⟩:=Kd.dW hn;have hle:=((below_set (j:=1) (v:=(.int .i64 a1)) (below_set (j:=0) (v:=(.int .i64 a0)) B0.out j3.out) j3.out)).size;have hl2:=bG (aZ (p:=⟨g3,1,none⟩) (aZ (p:=⟨g3,0,none⟩) X2.out ne23 (.int .i64 a0)) ne23 (.int .i64 a1));have hl3:=bG (aO (cs':=#[(.int .i64 a0),(.int .i64 a1),(.slice none 0 0)]) (aO (cs':=#[(.int .i64 a0),(.int .i64 0),(.slice none 0 0)]) X3.out 0 (.int .i64 a0) rfl) 1 (.int .i64 a1) rfl);have SR:=Aside0.mk (Kd.dB (ok':=fun q=>w.heap.size≤q∧q≠g2∧q≠g3) (Kd.gF hn hle) (fun q hq=>⟨Nat.le_trans hle hq,by omega,by omega⟩));replace X1:=Aside0.mk (aB (aZ (p:=⟨g3,1,none⟩) (aZ (p:=⟨g3,0,none⟩) X1.out ne13 (.int .i64 a0)) ne13 (.int .i64 a1)) hb);replace X2:=Aside0.mk (aB (aZ (p:=⟨g3,1,none⟩) (aZ (p:=⟨g3,0,none⟩) X2.out ne23 (.int .i64 a0)) ne23 (.int .i64 a1)) hb);replace X3:=Aside0.mk (aB (aO (cs':=#[(.int .i64 a0),(.int .i64 a1),(.slice none 0 0)]) (aO (cs':=#[(.int .i64 a0),(.int .i64 0),(.slice none 0 0)]) X3.out 0 (.int .i64 a0) rfl) 1 (.int .i64 a1) rfl) hb);replace B0:=Aside0.mk (aF (below_set (j:=1) (v:=(.int .i64 a1)) (below_set (j:=0) (v:=(.int .i64 a0)) B0.out j3.out) j3.out) hb);clear hb hn hle hl2 hl3 yp0 yp1 yp2 yo0 yo1 yo2 fo0 fo1 fo2;have yp0:w4.cell? ⟨g1,0,none⟩=some (.int .i64 a0):=aA X1.out 0;have yp1:w4.cell? ⟨g1,1,none⟩=some (.int .i64 a1):=aA X1.out 1;have yp2:w4.cell? ⟨g1,2,none⟩=some (.slice A l.length c):=aA X1.out 2;have yo0:w4.cell? ⟨g3,0,none⟩=some (.int .i64 a0):=aA X3.out 0;have fo0:=aD X3.out 0;have yo1:w4.cell? ⟨g3,1,none⟩=some (.int .i64 a1):=aA X3.out 1;have fo1:=aD X3.out 1;have yo2:w4.cell? ⟨g3,2,none⟩=some (.slice none 0 0):=aA X3.out 2;have fo2:=aD X3.out 2;have yr0:w4.cell? ⟨g2,0,none⟩=some (.int .i64 0):=aA X2.out 0;have fr0:=aD X2.out 0;have yr1:w4.cell? ⟨g2,1,none⟩=some (.int .i64 0):=aA X2.out 1;have fr1:=aD X2.out 1;have yr2:w4.cell? ⟨g2,2,none⟩=some (.slice none 0 0):=aA X2.out 2;have fr2:=aD X2.out 2)|fail)
 refine bodyPost_ret (results_cell_row rfl _ _ g2 28 #[(.int .i64 a0),(.int .i64 a1),(.slice B t.length d)] (0,0) _ rfl (aO (cs':=#[(.int .i64 a0),(.int .i64 a1),(.slice B t.length d)]) (aO (cs':=#[(.int .i64 a0),(.int .i64 a1),(.slice none 0 0)]) (aO (cs':=#[(.int .i64 a0),(.int .i64 0),(.slice none 0 0)]) (aZ (p:=⟨g3,2,none⟩) X2.out ne23 (.slice B t.length d)) 0 (.int .i64 a0) rfl) 1 (.int .i64 a1) rfl) 2 (.slice B t.length d) rfl) Try.underlying28 rfl (by kernel_rfl)) rfl ?_
 exact ⟨_,rfl,(Kd.dB (Kd.dS (p:=⟨g2,2,none⟩) (Kd.dS (p:=⟨g2,1,none⟩) (Kd.dS (p:=⟨g2,0,none⟩) (Kd.dS (p:=⟨g3,2,none⟩) SR.out (fun q hq=>hq.2.2) (.slice B t.length d)) (fun q hq=>hq.2.1) (.int .i64 a0)) (fun q hq=>hq.2.1) (.int .i64 a1)) (fun q hq=>hq.2.1) (.slice B t.length d)) (fun q hq=>hq.1)),(below_set (j:=2) (v:=(.slice B t.length d)) (below_set (j:=1) (v:=(.int .i64 a1)) (below_set (j:=0) (v:=(.int .i64 a0)) (below_set (j:=2) (v:=(.slice B t.length d)) B0.out j3.out) j4.out) j4.out) j4.out)⟩
theorem aU.xM (k:Nat) (ihT:∀ m,m < k→bD.kK m):aU.kK k:=by
 intro A0 c0 l0 r w hr0 hc0 h
 cases k with
 |zero=>exact absurd h (by simp [aU.f])
 |succ k=>
 simp only [aU.f] at h
 rw [if_pos (by omega)] at h
 by_cases c2:((l0.length:Int):Int).toNat≤7036874417766
 case neg=>rw [if_neg c2] at h;exact absurd h (by simp)
 rw [if_pos c2] at h
 have j4:=Aside0.mk hr0
 have ja:=Aside0.mk hc0
 have H':=Aside0.mk h
 have C2:=Aside0.mk c2
 clear hr0 hc0 h c2
 have p0:=eq_true (show 0≤(l0.length:Int) by omega)
 have p1:decide (0≤(l0.length:Int))=true:=decide_eq_true (by omega)
 go_enter Try.func30,Try.ntmps30
 go_wp2_with (first|((with_reducible refine aV (N:=7) rfl ?_);refine Kd.BO gP _ 28 rfl (N:=7) rfl 26 _ _ rfl (l0.length:Int) rfl rfl Try.underlying26 (.agg #[(.int .i64 0),(.int .i64 0),(.slice none 0 0)]) 40 BR rfl (by decide) (by omega) z28 (ok:=fun q=>w.heap.size≤q) (okp:=fun _=>False) (eD _ _ _ z28 (Kd.tN _ _ _ _ _)) (fun _ hq=>hq.elim) (Nat.le_refl _) (by omega) (by have:=C2.out;omega) (Below.refl _ _) (Nat.le_refl _) ?_;intro v3 w4 hn hb hg_ hnew_;clear hg_ hnew_;simp only [Int.toNat_natCast] at hn H';have HO:=Aside0.mk hn;have HB:=Aside0.mk hb;clear hn hb)|fail)
 go_loopg [4] k (fun kq v4 w'=>∃ (x3:List S28) (x4:Int),v4= .int .i64 x4∧Aside0 (aU.l0 kq l0 x3 x4=some r)∧Aside0 (kq≤k)∧Aside0 (Kd.S gP 28 w' w.heap.size (fun q=>w.heap.size≤q) v3 x3)∧Aside0 (Below w.heap.size w w'))
 case atStart=>exact ⟨_,0,rfl,H',⟨Nat.le_refl _⟩,HO,HB⟩
 case round=>
  clear H' p0 p1 HO HB
  obtain ⟨x3,x4,rfl,HA,j3,HO,HB⟩:=hrel
  cases gk with
  |zero=>exact absurd HA.out (by simp [aU.l0])
  |succ k1=>
   have H:=HA.out
   clear HA
   simp only [aU.l0] at H
   by_cases c6:x4 < (l0.length:Int)
   case neg=>
    rw [if_neg c6] at H
    have j5:decide (x4 < (l0.length:Int))=false:=decide_eq_false c6
    clear c6
    obtain rfl:=Option.some.inj H
    go_wp2
    go_ret
    exact ⟨_,rfl,HO.out,HB.out⟩
   rw [if_pos c6] at H
   by_cases c7:0≤x4
   case neg=>rw [if_neg c7] at H;exact absurd H (by simp)
   rw [if_pos c7] at H
   obtain ⟨⟨s0,s1,s2⟩,hs,H⟩:=Option.bind_eq_some_iff.mp H
   by_cases c9:x4 < (x3.length:Int)
   case neg=>rw [if_neg c9] at H;exact absurd H (by simp)
   rw [if_pos c9] at H
   dsimp only at hs H
   have HS:=Aside0.mk hs
   have H':=Aside0.mk H
   clear hs H
   obtain ⟨ad,A2,c2,e0,m0,m1,m2,l2,g2⟩:=uV j4.out x4 c7 c6
   cases e0
   replace m0:=(HB.out.cell (World.block_lt_of_cell? w _ m0)).trans m0
   replace m1:=(HB.out.cell (World.block_lt_of_cell? w _ m1)).trans m1
   replace m2:=(HB.out.cell (World.block_lt_of_cell? w _ m2)).trans m2
   obtain ⟨go,co,eo,gb,gl,hgc⟩:=Kd.wZ HO.out (by omega)
   subst eo
   have G2:=Aside0.mk (Kd.bA g2 HB.out)
   have L2:=Aside0.mk l2
   have C7:=Aside0.mk c7
   have C9:=Aside0.mk c9
   have j5:decide (x4 < (l0.length:Int))=true:=decide_eq_true c6
   have q0:=eq_true c7
   have q1:=eq_true c6
   have q2:=eq_true c9
   clear g2 l2 gb gl hgc c6 c7 c9
   go_wp2_with (first|((with_reducible refine aC (f:=8) rfl ?_);refine aP (some 20) rfl rfl Try.func8 (by kernel_rfl) rfl #[.agg #[.int .i64 (cO l0 x4).f0, .int .i64 (cO l0 x4).f1, .slice A2 (cO l0 x4).f2.length c2]] rfl (by (try simp only [List.map_toArray,List.map_cons,List.map_nil]);first|done|rfl) ?_;(with_reducible refine (ihT k1 (by have:=j3.out;omega) _ _ A2 c2 _ s0 s1 s2 _ G2.out L2.out HS.out).mono ?_);rintro e j6 ⟨jb,rfl,hn,hb⟩;refine ⟨_,rfl,?_⟩;obtain ⟨B5,d5,rfl⟩:=Kd.dW hn;have SN:=Aside0.mk (Kd.gF hn HB.out.size);have WS:=Aside0.mk HB.out.size;obtain ⟨oki,c,hcl,hM,hcc,hoki,hH⟩:=Kd.rX HO.out z28 x4 C7.out C9.out;have HH:=Aside0.mk (Kd.yE (Kd.yF hH) hb);have HCL:=Aside0.mk hcl;have j7:=Aside0.mk (aF HB.out hb);clear hn hb hcl hM hcc hoki hH HB HO)|((with_reducible refine mM (t:=28) (p:=21) rfl ?_);refine vI ?_)|fail)
   refine ⟨?_⟩
   refine Kd.rT gP (w0:=j6) w.heap.size rfl rfl 28 (.tmp 21) (.tmp 20) rfl 28 (g:=go) (o':=x4.toNat * 3) x4 0 x3 (⟨s0,s1,s2⟩:S28) _ [.int .i64 s0, .int .i64 s1, .slice B5 s2.length d5] c (fun q=>w.heap.size≤q) _ (fun q=>wr.heap.size≤q) ?ha ?ho rfl rfl ?ht ?h1 HH.out C7.out C9.out (Nat.le_refl 3) ?hM (fun q hq=> .inr ⟨Nat.le_trans WS.out hq,hq⟩) (Below.refl _ _) ?_
   (case ha=>first|rfl|(go_simp;done)|(go_simp;rfl))
   (case ho=>rfl)
   (case ht=>kernel_rfl)
   (case h1=>intro q hq;simp only [List.mem_cons,List.not_mem_nil,or_false] at hq;rcases hq with rfl|rfl|rfl <;> rfl)
   (case hM=>have hd:c.drop 3=[]:=List.drop_eq_nil_of_le (Nat.le_of_eq HCL.out);show gP.M _ _ _ _ ([] ++ _ ++ c.drop 3);rw [hd];exact eD _ _ _ (⟨s0,s1,s2⟩:S28) SN.out)
   intro jc hn hb hg_
   have j8:=Aside0.mk hn
   have j9:=Aside0.mk (j7.out.trans hb)
   clear hn hb hg_
   go_wp2
   go_roundg k1
   case measure=>have:=j3.out;omega
   case rel=>exact ⟨_,wrap64 (x4 + 1),(by first|rfl|(simp;done)|(simp [*];done)),H',⟨by have:=j3.out;omega⟩,j8,j9⟩
theorem aU.calls_allS (k:Nat):aU.kK k∧bD.kK k:=by
 induction k using Nat.strongRecOn with
 | _ k ih=>exact ⟨aU.xM k (fun m hm=>(ih m hm).2),bD.xM k (fun m hm=>(ih m hm).1)⟩
theorem aU.callsS (k:Nat):aU.kK k:=(aU.calls_allS k).1
theorem bD.callsS (k:Nat):bD.kK k:=(aU.calls_allS k).2
attribute [local go_sem] max2_int min2_int max_two min_two max_three min_three max_four min_four
set_option linter.unusedVariables false
set_option linter.unusedSimpArgs false
theorem aL.mono_all:∀ k,(∀ y0 y1,LeO (aL.f k y0 y1) (aL.f (k + 1) y0 y1))∧(∀ y0 y1 y2,LeO (aL.l0 k y0 y1 y2) (aL.l0 (k + 1) y0 y1 y2))∧(∀ y0 y1 y2 y3,LeO (aT.f k y0 y1 y2 y3) (aT.f (k + 1) y0 y1 y2 y3))
 |0=>⟨fun _ _ r h=>by simp [aL.f] at h,fun _ _ _ r h=>by simp [aL.l0] at h,fun _ _ _ _ r h=>by simp [aT.f] at h⟩
 |k + 1=>by
  obtain ⟨ih0,ih1,ih2⟩:=aL.mono_all k
  refine ⟨?_,?_,?_⟩
  ·intro y0 y1
   unfold aL.f
   exact mo_
  ·intro y0 y1 y2
   unfold aL.l0
   exact mo_
  ·intro y0 y1 y2 y3
   unfold aT.f
   exact mo_
theorem aL.mono:∀ a0 a1 k,LeO (aL.f k a0 a1) (aL.f (k + 1) a0 a1):=by
 intro a0 a1 k
 obtain ⟨ih0,ih1,ih2⟩:=aL.mono_all k
 exact ih0 a0 a1
theorem aT.mono:∀ a0 a1 a2 a3 k,LeO (aT.f k a0 a1 a2 a3) (aT.f (k + 1) a0 a1 a2 a3):=by
 intro a0 a1 a2 a3 k
 obtain ⟨ih0,ih1,ih2⟩:=aL.mono_all k
 exact ih2 a0 a1 a2 a3
abbrev aL.bS (k:Nat):Prop:=∀ (A0:Option Addr) (c0:Nat) (l0:List (S24)) (a1:Int) (r:Int) (w:World) (hr0:Kd.C k24 w A0 l0.length l0) (hc0:l0.length≤c0) (h:aL.f k l0 a1=some r),
  Calls Try.prog 27 #[.slice A0 l0.length c0, .int .i64 a1] w fun e w'=>e= .returned (.int .i64 r)∧Below w.heap.size w w'
abbrev aT.bS (k:Nat):Prop:=∀ (a0_0:Int) (a0_1:Int) (A0_2:Option Addr) (c0_2:Nat) (l0_2:List (S24)) (a1:Int) (r:Int) (w:World) (hr0_2:Kd.C k24 w A0_2 l0_2.length l0_2) (hc0_2:l0_2.length≤c0_2) (h:aT.f k a0_0 a0_1 l0_2 a1=some r),
  Calls Try.prog 6 #[.agg #[.int .i64 a0_0, .int .i64 a0_1, .slice A0_2 l0_2.length c0_2], .int .i64 a1] w fun e w'=>e= .returned (.int .i64 r)∧Below w.heap.size w w'
theorem aL.step (k:Nat) (ih_laws_szExprS:∀ m,m < k→aL.bS m) (ih_laws_szExpr:∀ m,m < k→aT.bS m):aL.bS k:=by
 intro A0 c0 l0 a1 r w hr0 hc0 h
 cases k with
 |zero=>exact absurd h (by simp [aL.f])
 |succ k=>
 simp only [aL.f] at h
 have hu24:=Try.underlying24
 have jl:=am hr0
 have jn:=am hc0
 clear hr0 hc0
 have HB:=am (Below.refl w.heap.size w)
 have H:(if (wrap64 (a1 - (l0.length:Int))) < 0 then (some (-1)) else (aL.l0 k l0 (wrap64 (a1 - (l0.length:Int))) 0))=some r:=h
 clear h
 by_cases c3:(wrap64 (a1 - (l0.length:Int))) < 0
 ·rw [if_pos c3] at H
  have jf:decide ((wrap64 (a1 - (l0.length:Int))) < 0)=true:=decide_eq_true c3
  clear c3
  obtain rfl:=Option.some.inj H
  go_enter Try.func27,Try.ntmps27
  go_wp2
  go_ret
  exact ⟨rr_,dO⟩
 rw [if_neg c3] at H
 have jf:decide ((wrap64 (a1 - (l0.length:Int))) < 0)=false:=decide_eq_false c3
 clear c3
 have H':=am H
 clear H
 go_enter Try.func27,Try.ntmps27
 go_wp2
 go_loopg [1,5] k (fun kq v1 v5 w'=>∃ (j7:Int) (j3:Int),v1= .int .i64 j7∧v5= .int .i64 j3∧Aside0 (aL.l0 kq l0 j7 j3=some r)∧Aside0 (kq≤k)∧Aside0 (Below w.heap.size w w'))
 case atStart=>exact ⟨(wrap64 (a1 - (l0.length:Int))),(0),sd_,sd_,H',⟨Nat.le_refl _⟩,⟨dO⟩⟩
 case round=>
  clear H'
  try clear c3
  try clear jf
  obtain ⟨j7,j3,rfl,rfl,HA,jg,HB⟩:=hrel
  cases gk with
  |zero=>exact absurd HA.out (by simp [aL.l0])
  |succ k1=>
   have H:=HA.out
   clear HA
   simp only [aL.l0] at H
   by_cases c4:j3 < (l0.length:Int)
   ·rw [if_pos c4] at H
    have jh:decide (j3 < (l0.length:Int))=true:=decide_eq_true c4
    clear c4
    by_cases c5:0≤j3
    ·rw [if_pos c5] at H
     have jm:decide (0≤j3)=true:=decide_eq_true c5
     clear c5
     obtain ⟨je,A6,H⟩:=bsa H
     (try dsimp only at H)
     by_cases c7:je < 0
     ·rw [if_pos c7] at H
      have ji:decide (je < 0)=true:=decide_eq_true c7
      clear c7
      obtain rfl:=Option.some.inj H
      have jc:0≤(j3:Int):=of_decide_eq_true eT
      have jd:j3 < (l0.length:Int):=of_decide_eq_true eT
      obtain ⟨jj,ja,jb,jk,j4,j5,j6,hl21_2,hi21_2⟩:=uV jl.out j3 jc jd
      cases jk
      replace j4:=(HB.out.cell (World.block_lt_of_cell? w _ j4)).trans j4
      replace j5:=(HB.out.cell (World.block_lt_of_cell? w _ j5)).trans j5
      replace j6:=(HB.out.cell (World.block_lt_of_cell? w _ j6)).trans j6
      have j8:=am hi21_2
      have j9:=am hl21_2
      clear hi21_2 hl21_2
      replace jc:=eq_true jc
      replace jd:=eq_true jd
      go_wp2_with (first|((with_reducible refine aC (f:=6) rfl ?_);refine aP (some 23) rfl rfl Try.func6 (by kernel_rfl) rfl #[.agg #[.int .i64 ((cO l0 j3).f0), .int .i64 ((cO l0 j3).f1), .slice ja ((cO l0 j3).f2).length jb], .int .i64 j7] rfl bY ?_;(with_reducible refine (ih_laws_szExpr k1 (by have:=jg.out;omega) ((cO l0 j3).f0) ((cO l0 j3).f1) _ _ ((cO l0 j3).f2) j7 je _ (aC_ (Kd.bA j8.out HB.out)) j9.out A6.out).mono ?_);rintro e w8 ⟨rfl,hb⟩;refine ⟨_,rfl,?_⟩;replace HB:=am (aF dO hb);(try clear hb)))
      go_ret
      exact ⟨rr_,dO⟩
     rw [if_neg c7] at H
     have ji:decide (je < 0)=false:=decide_eq_false c7
     clear c7
     have H':=am H
     clear H
     have jc:0≤(j3:Int):=of_decide_eq_true eT
     have jd:j3 < (l0.length:Int):=of_decide_eq_true eT
     obtain ⟨jj,ja,jb,jk,j4,j5,j6,hl21_2,hi21_2⟩:=uV jl.out j3 jc jd
     cases jk
     replace j4:=(HB.out.cell (World.block_lt_of_cell? w _ j4)).trans j4
     replace j5:=(HB.out.cell (World.block_lt_of_cell? w _ j5)).trans j5
     replace j6:=(HB.out.cell (World.block_lt_of_cell? w _ j6)).trans j6
     have j8:=am hi21_2
     have j9:=am hl21_2
     clear hi21_2 hl21_2
     replace jc:=eq_true jc
     replace jd:=eq_true jd
     go_wp2_with (first|((with_reducible refine aC (f:=6) rfl ?_);refine aP (some 23) rfl rfl Try.func6 (by kernel_rfl) rfl #[.agg #[.int .i64 ((cO l0 j3).f0), .int .i64 ((cO l0 j3).f1), .slice ja ((cO l0 j3).f2).length jb], .int .i64 j7] rfl bY ?_;(with_reducible refine (ih_laws_szExpr k1 (by have:=jg.out;omega) ((cO l0 j3).f0) ((cO l0 j3).f1) _ _ ((cO l0 j3).f2) j7 je _ (aC_ (Kd.bA j8.out HB.out)) j9.out A6.out).mono ?_);rintro e w9 ⟨rfl,hb⟩;refine ⟨_,rfl,?_⟩;replace HB:=am (aF dO hb);(try clear hb)))
     go_roundg k1
     case measure=>have:=jg.out;omega
     case rel=>exact ⟨(je),(wrap64 (j3 + 1)),sd_,sd_,H',⟨by have:=jg.out;omega⟩,⟨dO⟩⟩
    rw [if_neg c5] at H
    exact absurd H (by simp)
   rw [if_neg c4] at H
   have jh:decide (j3 < (l0.length:Int))=false:=decide_eq_false c4
   clear c4
   obtain rfl:=Option.some.inj H
   go_wp2
   go_ret
   exact ⟨rr_,dO⟩
theorem aT.step (k:Nat) (ih_laws_szExprS:∀ m,m < k→aL.bS m) (ih_laws_szExpr:∀ m,m < k→aT.bS m):aT.bS k:=by
 intro jb jc j6 j7 j3 a1 r w hr0_2 hc0_2 h
 cases k with
 |zero=>exact absurd h (by simp [aT.f])
 |succ k=>
 simp only [aT.f] at h
 have hu24:=Try.underlying24
 have j8:=am hr0_2
 have j9:=am hc0_2
 clear hr0_2 hc0_2
 have HB:=am (Below.refl w.heap.size w)
 have H:((aL.f k j3 a1).bind fun j4=>(if j4 < 0 then (some (-1)) else (some j4)))=some r:=h
 clear h
 obtain ⟨j4,A3,H⟩:=bsa H
 (try dsimp only at H)
 have HH_:=am H
 clear H
 go_enter Try.func6,Try.ntmps6
 go_upto_region 2 with (first|((with_reducible refine aV (N:=2) rfl ?_);refine aY rfl (N:=2) rfl (cs:=#[.int .i64 jb, .int .i64 jc, .slice j6 j3.length j7]) (t:=24) rn_ ?_;intro ja hg w5 hbox hb;have j5:=am (hbox);have jk:=am ((by rw [hg];exact (aJ dO):w.heap.size≤ja));have GE21:=am ((by rw [hg];exact (aJ dO):w.heap.size≤ja));replace HB:=am (aF dO hb);clear hb hbox hg;obtain ⟨jd,je,jf,jg,jh,ji⟩:=bQ j5.out)|((with_reducible refine aC (f:=27) rfl ?_);refine aP (some 8) rfl rfl Try.func27 (by kernel_rfl) rfl #[.slice j6 j3.length j7, .int .i64 a1] rfl bY ?_;(with_reducible refine (ih_laws_szExprS k (by omega) _ _ j3 a1 j4 _ (aC_ (Kd.bA j8.out HB.out)) j9.out A3.out).mono ?_);rintro e w7 ⟨rfl,hb⟩;refine ⟨_,rfl,?_⟩;replace j5:=bbP j5 hb;replace HB:=am (aF iV hb);(try clear hb)))
 have H:=HH_.out
 clear HH_
 by_cases c4:j4 < 0
 ·rw [if_pos c4] at H
  have jj:decide (j4 < 0)=true:=decide_eq_true c4
  clear c4
  obtain rfl:=Option.some.inj H
  go_wp2
  go_ret
  exact ⟨rr_,iV⟩
 rw [if_neg c4] at H
 have jj:decide (j4 < 0)=false:=decide_eq_false c4
 clear c4
 obtain rfl:=Option.some.inj H
 go_wp2
 go_ret
 exact ⟨rr_,iV⟩
theorem aL.calls_all (k:Nat):aL.bS k∧aT.bS k:=by
 induction k using Nat.strongRecOn with
 | _ k ih=>exact ⟨aL.step k (ih_laws_szExprS:=fun m hm=>(ih m hm).1) (ih_laws_szExpr:=fun m hm=>(ih m hm).2),aT.step k (ih_laws_szExprS:=fun m hm=>(ih m hm).1) (ih_laws_szExpr:=fun m hm=>(ih m hm).2)⟩
theorem aL.calls (k:Nat):aL.bS k:=(aL.calls_all k).1
theorem aT.calls (k:Nat):aT.bS k:=(aL.calls_all k).2
theorem bI.calls (a0:Int) (a1:Int) (a2:Int) (r:Bool) (w:World) (h:bI.f a0 a1 a2=some r):
  Calls Try.prog 59 #[.int .i64 a0, .int .i64 a1, .int .i64 a2] w fun e w'=>e= .returned (.bool r)∧dK w w':=by
 have H:(if a0≥a1 then (some (decide (a0≤a2))) else (some false))=some r:=h
 clear h
 by_cases c4:a0≥a1
 ·rw [if_pos c4] at H
  have j3:decide (a1≤a0)=true:=decide_eq_true c4
  clear c4
  obtain rfl:=Option.some.inj H
  go_enter Try.func59,Try.ntmps59
  go_wp2
  go_ret
  exact ⟨sd_,dD⟩
 rw [if_neg c4] at H
 have j3:decide (a1≤a0)=false:=decide_eq_false c4
 clear c4
 obtain rfl:=Option.some.inj H
 go_enter Try.func59,Try.ntmps59
 go_wp2
 go_ret
 exact ⟨sd_,dD⟩
theorem bP.calls (a0:Int) (r:Bool) (w:World) (h:bP.f a0=some r):
  Calls Try.prog 70 #[.int .i64 a0] w fun e w'=>e= .returned (.bool r)∧dK w w':=by
 have H:((bI.f a0 1 12).bind fun j3=>(some j3))=some r:=h
 clear h
 obtain ⟨j3,A2,H⟩:=bsa H
 (try dsimp only at H)
 obtain rfl:=Option.some.inj H
 go_enter Try.func70,Try.ntmps70
 go_wp2_with (first|((with_reducible refine aC (f:=59) rfl ?_);refine aP (some 4) rfl rfl Try.func59 (by kernel_rfl) rfl #[.int .i64 a0, .int .i64 1, .int .i64 12] rfl bY ?_;(with_reducible refine (bI.calls a0 1 12 j3 _ A2.out).mono ?_);rintro e w' ⟨rfl,⟨nd,rfl⟩⟩;refine ⟨_,rfl,?_⟩))
 go_ret
 exact ⟨sd_,dD⟩
theorem bH.mono_l:∀ k,(∀ y0 y1 y2 y3,LeO (bH.f k y0 y1 y2 y3) (bH.f (k + 1) y0 y1 y2 y3))
 |0=>fun _ _ _ _ r h=>by simp [bH.f] at h
 |k + 1=>by
  have ih0:=bH.mono_l k
  ·intro y0 y1 y2 y3
   unfold bH.f
   exact mo_
theorem bH.mono:∀ a0 a1 a2 a3 k,LeO (bH.f k a0 a1 a2 a3) (bH.f (k + 1) a0 a1 a2 a3):=by
 intro a0 a1 a2 a3 k
 have ih0:=bH.mono_l k
 exact ih0 a0 a1 a2 a3
theorem bH.calls (k:Nat):∀ (j7:Int) (j8:Int) (jg:Option Addr) (jh:Nat) (j3:List (S28)) (a1:Int) (r:Bool) (w:World) (hr0_2:Kd.C k28 w jg j3.length j3) (hc0_2:j3.length≤jh) (h:bH.f k j7 j8 j3 a1=some r),
  Calls Try.prog 56 #[.agg #[.int .i64 j7, .int .i64 j8, .slice jg j3.length jh], .int .i64 a1] w fun e w'=>e= .returned (.bool r)∧Below w.heap.size w w':=by
 induction k using Nat.strongRecOn with
 | _ k ih=>
 intro j7 j8 jg jh j3 a1 r w hr0_2 hc0_2 h
 cases k with
 |zero=>exact absurd h (by simp [bH.f])
 |succ k=>
 simp only [bH.f] at h
 have hu28:=Try.underlying28
 have jf:=am hr0_2
 have qL:=am hc0_2
 clear hr0_2 hc0_2
 have HB:=am (Below.refl w.heap.size w)
 have H:=h
 clear h
 have HH_:=am H
 clear H
 go_enter Try.func56,Try.ntmps56
 go_upto_region 1 with (first|((with_reducible refine aV (N:=2) rfl ?_);(try (refine oO (by rfl) ?_;dsimp only));refine aY rfl (N:=2) rfl (cs:=#[.int .i64 j7, .int .i64 j8, .slice jg j3.length jh]) (t:=28) rn_ ?_;intro jp hg w4 hbox hb;have j9:=am (hbox);have qY:=am ((by rw [hg];exact (aJ dO):w.heap.size≤jp));have GE44:=am ((by rw [hg];exact (aJ dO):w.heap.size≤jp));replace HB:=am (aF dO hb);clear hb hbox hg))
 have H:=HH_.out
 clear HH_
 by_cases c3:a1 < 1
 ·rw [if_pos c3] at H
  have qx:decide (a1 < 1)=true:=decide_eq_true c3
  clear c3
  obtain rfl:=Option.some.inj H
  go_wp2
  go_ret
  exact ⟨rr_,iM⟩
 rw [if_neg c3] at H
 have qx:decide (a1 < 1)=false:=decide_eq_false c3
 clear c3
 by_cases c5:j7=0
 ·rw [if_pos c5] at H
  have qy:(j7 == 0)=true:=beq_iff_eq.mpr c5
  have qz:(j7 != 0)=false:=bne_eq_false_iff_eq.mpr c5
  clear c5
  obtain ⟨qZ,A6,H⟩:=bsa H
  (try dsimp only at H)
  by_cases c7:qZ=true
  ·subst c7
   rw [if_pos rfl] at H
   obtain rfl:=Option.some.inj H
   obtain ⟨qA,qB,qC,qD,qE,qF⟩:=bQ j9.out
   go_wp2_with (first|((with_reducible refine aC (f:=59) rfl ?_);refine aP (some 12) rfl rfl Try.func59 (by kernel_rfl) rfl #[.int .i64 j8, .int .i64 0, .int .i64 99999] rfl bY ?_;(with_reducible refine (bI.calls j8 0 99999 true _ A6.out).mono ?_);rintro e w' ⟨rfl,⟨nd,rfl⟩⟩;refine ⟨_,rfl,?_⟩))
   go_ret
   exact ⟨rr_,iM⟩
  replace c7:=Bool.eq_false_iff.mpr c7
  subst c7
  rw [if_neg (show ¬ (false=true) by decide)] at H
  obtain rfl:=Option.some.inj H
  obtain ⟨jA,jB,jC,jD,jE,jF⟩:=bQ j9.out
  go_wp2_with (first|((with_reducible refine aC (f:=59) rfl ?_);refine aP (some 12) rfl rfl Try.func59 (by kernel_rfl) rfl #[.int .i64 j8, .int .i64 0, .int .i64 99999] rfl bY ?_;(with_reducible refine (bI.calls j8 0 99999 false _ A6.out).mono ?_);rintro e w' ⟨rfl,⟨nd,rfl⟩⟩;refine ⟨_,rfl,?_⟩))
  go_ret
  exact ⟨rr_,iM⟩
 rw [if_neg c5] at H
 have qy:(j7 == 0)=false:=beq_eq_false_iff_ne.mpr c5
 have qz:(j7 != 0)=true:=bne_iff_ne.mpr c5
 by_cases ji:j7=13
 ·rw [if_pos ji] at H
  have jq:(j7 == 13)=true:=beq_iff_eq.mpr ji
  have jr:(j7 != 13)=false:=bne_eq_false_iff_eq.mpr ji
  clear ji
  obtain ⟨z0,qM,H⟩:=bsm H
  (try dsimp only at H)
  have qN:=am qM
  clear qM
  by_cases jG:z0=true
  ·subst jG
   rw [if_pos rfl] at H
   obtain rfl:=Option.some.inj H
   obtain ⟨jH,jI,jJ,jK,jL,jM⟩:=bQ j9.out
   go_wp2_with (first|((with_reducible refine aC (f:=59) rfl ?_);refine aP (some 24) rfl rfl Try.func59 (by kernel_rfl) rfl #[.int .i64 j8, .int .i64 0, .int .i64 3] rfl bY ?_;(with_reducible refine (bI.calls j8 0 3 true _ qN.out).mono ?_);rintro e w' ⟨rfl,⟨nd,rfl⟩⟩;refine ⟨_,rfl,?_⟩))
   go_ret
   exact ⟨rr_,iM⟩
  replace jG:=Bool.eq_false_iff.mpr jG
  subst jG
  rw [if_neg (show ¬ (false=true) by decide)] at H
  obtain rfl:=Option.some.inj H
  obtain ⟨jN,jO,jP,jQ,jR,jS⟩:=bQ j9.out
  go_wp2_with (first|((with_reducible refine aC (f:=59) rfl ?_);refine aP (some 24) rfl rfl Try.func59 (by kernel_rfl) rfl #[.int .i64 j8, .int .i64 0, .int .i64 3] rfl bY ?_;(with_reducible refine (bI.calls j8 0 3 false _ qN.out).mono ?_);rintro e w' ⟨rfl,⟨nd,rfl⟩⟩;refine ⟨_,rfl,?_⟩))
  go_ret
  exact ⟨rr_,iM⟩
 rw [if_neg ji] at H
 have jq:(j7 == 13)=false:=beq_eq_false_iff_ne.mpr ji
 have jr:(j7 != 13)=true:=bne_iff_ne.mpr ji
 obtain ⟨z1,qO,H⟩:=bsm H
 (try dsimp only at H)
 have js:=am qO
 clear qO
 by_cases jT:z1=true
 ·subst jT
  rw [if_pos rfl] at H
  by_cases jj:j8=0
  ·rw [if_pos jj] at H
   have jt:(j8 == 0)=true:=beq_iff_eq.mpr jj
   have ju:(j8 != 0)=false:=bne_eq_false_iff_eq.mpr jj
   clear jj
   by_cases jk:(j3.length:Int)=2
   ·rw [if_pos jk] at H
    have jv:((j3.length:Int) == 2)=true:=beq_iff_eq.mpr jk
    have jw:((j3.length:Int) != 2)=false:=bne_eq_false_iff_eq.mpr jk
    clear jk
    by_cases jU:0 < (j3.length:Int)
    ·rw [if_pos jU] at H
     have qP:decide (0 < (j3.length:Int))=true:=decide_eq_true jU
     have qQ:decide (0 < j3.length)=true:=decide_eq_true (by omega)
     clear jU
     obtain ⟨z2,qR,H⟩:=bsm H
     (try dsimp only at H)
     have qS:=am qR
     clear qR
     by_cases jV:z2=true
     ·subst jV
      rw [if_pos rfl] at H
      by_cases jW:1 < (j3.length:Int)
      ·rw [if_pos jW] at H
       have qT:decide (1 < (j3.length:Int))=true:=decide_eq_true jW
       have qU:decide (1 < j3.length)=true:=decide_eq_true (by omega)
       clear jW
       obtain ⟨z3,qV,H⟩:=bsm H
       (try dsimp only at H)
       have z4:=am qV
       clear qV
       obtain rfl:=Option.some.inj H
       obtain ⟨jX,jY,jZ,q0,q1,q2⟩:=bQ j9.out
       go_wp2_with (first|((with_reducible refine aC (f:=70) rfl ?_);refine aP (some 33) rfl rfl Try.func70 (by kernel_rfl) rfl #[.int .i64 j7] rfl bY ?_;(with_reducible refine (bP.calls j7 true _ js.out).mono ?_);rintro e w' ⟨rfl,⟨nd,rfl⟩⟩;refine ⟨_,rfl,?_⟩;have jl:0≤(0:Int):=(by omega);have jm:0 < (j3.length:Int):=of_decide_eq_true eT;obtain ⟨jx,jy,jz,qG,j4,j5,j6,hl49_2,hi49_2⟩:=dU jf.out 0 jl jm;cases qG;have qH:(0 < j3.length)=True:=eq_true (by omega);(try rw [show ((0:Int)).toNat=0 from rfl] at j4);(try rw [show 0 * 3=0 from rfl] at j4);(try rw [Addr.add_zero'] at j4);(try rw [show ((0:Int)).toNat=0 from rfl] at j5);(try rw [show 0 * 3=0 from rfl] at j5);(try rw [Addr.add_zero'] at j5);(try rw [show ((0:Int)).toNat=0 from rfl] at j6);(try rw [show 0 * 3=0 from rfl] at j6);(try rw [Addr.add_zero'] at j6);replace j4:=(HB.out.cell (World.block_lt_of_cell? w _ j4)).trans j4;replace j5:=(HB.out.cell (World.block_lt_of_cell? w _ j5)).trans j5;replace j6:=(HB.out.cell (World.block_lt_of_cell? w _ j6)).trans j6;have jd:=am hi49_2;have je:=am hl49_2;clear hi49_2 hl49_2;replace jl:=eq_true jl;replace jm:=eq_true jm)|(go_at_call 56;(with_reducible refine (ih k (by omega) ((aH j3 0).f0) ((aH j3 0).f1) _ _ ((aH j3 0).f2) (wrap64 (a1 - 1)) true _ (aC_ (Kd.bA jd.out iM)) je.out qS.out).mono ?_);rintro e z7 ⟨rfl,hb⟩;replace j9:=bbP j9 hb;replace HB:=am (aF iM hb);(try clear hb);obtain ⟨q3,q4,q5,q6,q7,q8⟩:=bQ j9.out;have qI:0≤(1:Int):=(by omega);have qJ:1 < (j3.length:Int):=of_decide_eq_true eT;obtain ⟨qK,qW,qX,z5,ja,jb,jc,hl50_2,hi50_2⟩:=dU jf.out 1 qI qJ;obtain rfl:jx=qK:=(by injection z5);(try simp only [show (1:Int).toNat=1 from rfl,Nat.reduceMul,Nat.reduceEqDiff,Go.Addr.add,↓reduceIte] at ja);(try simp only [show (1:Int).toNat=1 from rfl,Nat.reduceMul,Nat.reduceEqDiff,Go.Addr.add,↓reduceIte] at jb);(try simp only [show (1:Int).toNat=1 from rfl,Nat.reduceMul,Nat.reduceEqDiff,Go.Addr.add,↓reduceIte] at jc);have z6:(1 < j3.length)=True:=eq_true (by omega);(try rw [show ((1:Int)).toNat=1 from rfl] at ja);(try rw [show 1 * 3=3 from rfl] at ja);(try rw [show ((1:Int)).toNat=1 from rfl] at jb);(try rw [show 1 * 3=3 from rfl] at jb);(try rw [show ((1:Int)).toNat=1 from rfl] at jc);(try rw [show 1 * 3=3 from rfl] at jc);replace ja:=(HB.out.cell (World.block_lt_of_cell? w _ ja)).trans ja;replace jb:=(HB.out.cell (World.block_lt_of_cell? w _ jb)).trans jb;replace jc:=(HB.out.cell (World.block_lt_of_cell? w _ jc)).trans jc;have jn:=am hi50_2;have jo:=am hl50_2;clear hi50_2 hl50_2;replace qI:=eq_true qI;replace qJ:=eq_true qJ)|(go_at_call 56;(with_reducible refine (ih k (by omega) ((aH j3 1).f0) ((aH j3 1).f1) _ _ ((aH j3 1).f2) (wrap64 (a1 - 1)) z3 _ (aC_ (Kd.bA jn.out HB.out)) jo.out z4.out).mono ?_);rintro e z8 ⟨rfl,hb⟩;replace j9:=bbP j9 hb;replace HB:=am (aF iM hb);(try clear hb)))
       go_ret
       exact ⟨rr_,iM⟩
      rw [if_neg jW] at H
      exact absurd H (by simp)
     replace jV:=Bool.eq_false_iff.mpr jV
     subst jV
     rw [if_neg (show ¬ (false=true) by decide)] at H
     obtain rfl:=Option.some.inj H
     obtain ⟨q9,qa,qb,qc,qd,qe⟩:=bQ j9.out
     go_wp2_with (first|((with_reducible refine aC (f:=70) rfl ?_);refine aP (some 33) rfl rfl Try.func70 (by kernel_rfl) rfl #[.int .i64 j7] rfl bY ?_;(with_reducible refine (bP.calls j7 true _ js.out).mono ?_);rintro e w' ⟨rfl,⟨nd,rfl⟩⟩;refine ⟨_,rfl,?_⟩;have jl:0≤(0:Int):=(by omega);have jm:0 < (j3.length:Int):=of_decide_eq_true eT;obtain ⟨jx,jy,jz,qG,j4,j5,j6,hl49_2,hi49_2⟩:=dU jf.out 0 jl jm;cases qG;have qH:(0 < j3.length)=True:=eq_true (by omega);(try rw [show ((0:Int)).toNat=0 from rfl] at j4);(try rw [show 0 * 3=0 from rfl] at j4);(try rw [Addr.add_zero'] at j4);(try rw [show ((0:Int)).toNat=0 from rfl] at j5);(try rw [show 0 * 3=0 from rfl] at j5);(try rw [Addr.add_zero'] at j5);(try rw [show ((0:Int)).toNat=0 from rfl] at j6);(try rw [show 0 * 3=0 from rfl] at j6);(try rw [Addr.add_zero'] at j6);replace j4:=(HB.out.cell (World.block_lt_of_cell? w _ j4)).trans j4;replace j5:=(HB.out.cell (World.block_lt_of_cell? w _ j5)).trans j5;replace j6:=(HB.out.cell (World.block_lt_of_cell? w _ j6)).trans j6;have jd:=am hi49_2;have je:=am hl49_2;clear hi49_2 hl49_2;replace jl:=eq_true jl;replace jm:=eq_true jm)|(go_at_call 56;(with_reducible refine (ih k (by omega) ((aH j3 0).f0) ((aH j3 0).f1) _ _ ((aH j3 0).f2) (wrap64 (a1 - 1)) false _ (aC_ (Kd.bA jd.out iM)) je.out qS.out).mono ?_);rintro e z9 ⟨rfl,hb⟩;replace j9:=bbP j9 hb;replace HB:=am (aF iM hb);(try clear hb)))
     go_ret
     exact ⟨rr_,iM⟩
    rw [if_neg jU] at H
    exact absurd H (by simp)
   rw [if_neg jk] at H
   have jv:((j3.length:Int) == 2)=false:=beq_eq_false_iff_ne.mpr jk
   have jw:((j3.length:Int) != 2)=true:=bne_iff_ne.mpr jk
   obtain rfl:=Option.some.inj H
   obtain ⟨qf,qg,qh,qi,qj,qk⟩:=bQ j9.out
   go_wp2_with (first|((with_reducible refine aC (f:=70) rfl ?_);refine aP (some 33) rfl rfl Try.func70 (by kernel_rfl) rfl #[.int .i64 j7] rfl bY ?_;(with_reducible refine (bP.calls j7 true _ js.out).mono ?_);rintro e w' ⟨rfl,⟨nd,rfl⟩⟩;refine ⟨_,rfl,?_⟩))
   go_ret
   exact ⟨rr_,iM⟩
  rw [if_neg jj] at H
  have jt:(j8 == 0)=false:=beq_eq_false_iff_ne.mpr jj
  have ju:(j8 != 0)=true:=bne_iff_ne.mpr jj
  obtain rfl:=Option.some.inj H
  obtain ⟨ql,qm,qn,qo,qp,qq⟩:=bQ j9.out
  go_wp2_with (first|((with_reducible refine aC (f:=70) rfl ?_);refine aP (some 33) rfl rfl Try.func70 (by kernel_rfl) rfl #[.int .i64 j7] rfl bY ?_;(with_reducible refine (bP.calls j7 true _ js.out).mono ?_);rintro e w' ⟨rfl,⟨nd,rfl⟩⟩;refine ⟨_,rfl,?_⟩))
  go_ret
  exact ⟨rr_,iM⟩
 replace jT:=Bool.eq_false_iff.mpr jT
 subst jT
 rw [if_neg (show ¬ (false=true) by decide)] at H
 obtain rfl:=Option.some.inj H
 obtain ⟨qr,qs,qt,qu,qv,qw⟩:=bQ j9.out
 go_wp2_with (first|((with_reducible refine aC (f:=70) rfl ?_);refine aP (some 33) rfl rfl Try.func70 (by kernel_rfl) rfl #[.int .i64 j7] rfl bY ?_;(with_reducible refine (bP.calls j7 false _ js.out).mono ?_);rintro e w' ⟨rfl,⟨nd,rfl⟩⟩;refine ⟨_,rfl,?_⟩))
 go_ret
 exact ⟨rr_,iM⟩
theorem bF.mono:∀ a0 a1 a2 k,LeO (bF.f k a0 a1 a2) (bF.f (k + 1) a0 a1 a2):=by
 intro a0 a1 a2 k
 unfold bF.f
 have m0:=@bH.mono
 exact mo_
theorem bF.calls (k:Nat) (j4:Int) (j5:Int) (j6:Option Addr) (j7:Nat) (j3:List (S28)) (r:Bool) (w:World) (hr0_2:Kd.C k28 w j6 j3.length j3) (hc0_2:j3.length≤j7) (h:bF.f k j4 j5 j3=some r):
  Calls Try.prog 28 #[.agg #[.int .i64 j4, .int .i64 j5, .slice j6 j3.length j7]] w fun e w'=>e= .returned (.bool r)∧Below w.heap.size w w':=by
 have hu28:=Try.underlying28
 have j9:=am hr0_2
 have ja:=am hc0_2
 clear hr0_2 hc0_2
 have HB:=am (Below.refl w.heap.size w)
 have H:((bH.f k j4 j5 j3 5).bind fun jc=>(some jc))=some r:=h
 clear h
 obtain ⟨jc,A2,H⟩:=bsa H
 (try dsimp only at H)
 obtain rfl:=Option.some.inj H
 go_enter Try.func28,Try.ntmps28
 go_wp2_with (first|((with_reducible refine aV (N:=1) rfl ?_);refine aY rfl (N:=1) rfl (cs:=#[.int .i64 j4, .int .i64 j5, .slice j6 j3.length j7]) (t:=28) rn_ ?_;intro jb hg w3 hbox hb;have j8:=am (hbox);have jj:=am ((by rw [hg];exact (aJ dO):w.heap.size≤jb));have GE22:=am ((by rw [hg];exact (aJ dO):w.heap.size≤jb));replace HB:=am (aF dO hb);clear hb hbox hg;obtain ⟨jd,je,jf,jg,jh,ji⟩:=bQ j8.out)|((with_reducible refine aC (f:=56) rfl ?_);refine aP (some 4) rfl rfl Try.func56 (by kernel_rfl) rfl #[.agg #[.int .i64 j4, .int .i64 j5, .slice j6 j3.length j7], .int .i64 5] rfl bY ?_;(with_reducible refine (bH.calls k j4 j5 _ _ j3 5 jc _ (aC_ (Kd.bA j9.out HB.out)) ja.out A2.out).mono ?_);rintro e w5 ⟨rfl,hb⟩;refine ⟨_,rfl,?_⟩;replace j8:=bbP j8 hb;replace HB:=am (aF vX hb);(try clear hb)))
 go_ret
 exact ⟨rr_,vX⟩
theorem gB.calls (a0:Int) (a1:Int) (r1:Int) (r2:Int) (r3:List (S28)) (w:World) (h:gB.f a0 a1=some (r1,r2,r3)):
  Calls Try.prog 57 #[.int .i64 a0, .int .i64 a1] w fun e w'=>∃ v2_:Value,e= .returned (.agg #[.int .i64 r1, .int .i64 r2,v2_])∧Kd.R k28 28 w' w.heap.size (fun _=>True) v2_ r3∧Below w.heap.size w w':=by
 have hu28:=Try.underlying28
 have HB:=am (Below.refl w.heap.size w)
 have H:(some (a0,a1,(([]:List (S28)))))=some (r1,r2,r3):=h
 clear h
 obtain ⟨j7,hy_⟩:∃ y_:List (S28),y_=(([]:List (S28))):=⟨_,rfl⟩
 replace H:(some (a0,a1,j7))=some (r1,r2,r3):=rx_
 have j5:=am hy_
 clear hy_
 simp only [Option.some.injEq,Prod.mk.injEq] at H
 obtain ⟨rfl,rfl,rfl⟩:=H
 go_enter Try.func57,Try.ntmps57
 go_wp2_with (first|((with_reducible refine aV (N:=4) rfl ?_);refine aY rfl (N:=4) rfl (cs:=#[.int .i64 0, .int .i64 0, .slice none 0 0]) (t:=28) rn_ ?_;intro j3 hg w3 hbox hb;have j4:=am (hbox);have jg:=am ((by rw [hg];exact (aJ dO):w.heap.size≤j3));have GE21:=am ((by rw [hg];exact (aJ dO):w.heap.size≤j3));replace HB:=am (aF dO hb);clear hb hbox hg)|((with_reducible refine aV (N:=7) rfl ?_);refine Kd.vV k28 _ 28 rfl (N:=7) rfl (xs:=([]:List (S28))) (inner:=[]) (ok:=fun _=>True) (okp:=fun _=>True) rn_ ?hp (fun _ hk=>hk) trivial (Below.refl _ _) (Nat.le_refl _) (by simp) ?_;(case hp=>exact (bX.none _ _));intro ji w4 ho5 hb hg_ hnew_;clear hg_ hnew_;(first|rw [← j5.out] at ho5|(simp only [Int.reduceToNat] at ho5;rw [← j5.out] at ho5));have j6:=am (Kd.oF (Kd.BM ho5 (g:=j3) (o:= .cells #[.int .i64 0, .int .i64 0, .slice none 0 0] 28 (0,0)) (aG_ j4.out)) (aJ iV));replace j4:=bbP j4 hb;replace HB:=am (aF iV hb);clear hb ho5;obtain ⟨je,jf,jh⟩:=Kd.rV j6.out;subst jh;obtain ⟨j8,j9,ja,jb,jc,jd⟩:=bQ j4.out))
 refine bodyPost_ret (results_cell_row rfl _ _ j3 28 #[.int .i64 a0, .int .i64 a1, .slice je j7.length jf] (0,0) _ rfl (aO (aO (aO j4.out 0 _ rfl) 1 _ rfl) 2 _ rfl) Try.underlying28 rfl (by kernel_rfl)) rfl ?_
 exact ⟨_,nQ,DV (Kd.mJ (Kd.wW (p:=⟨j3,2,none⟩) (Kd.wW (p:=⟨j3,1,none⟩) (Kd.wW (p:=⟨j3,0,none⟩) (Kd.mJ j6.out (fun k_ hk=>(⟨hk,hk.2⟩:_∧k_≠j3))) (fun _ hk=>hk.2) (.int .i64 a0)) (fun _ hk=>hk.2) (.int .i64 a1)) (fun _ hk=>hk.2) (.slice je j7.length jf)) (fun _ hk=>trivial)),iV⟩
theorem dA.calls (a0:Int) (r:Bool) (w:World) (h:dA.f a0=some r):
  Calls Try.prog 71 #[.int .i64 a0] w fun e w'=>e= .returned (.bool r)∧dK w w':=by
 have H:((bI.f a0 (-2147483648) 2147483647).bind fun j3=>(some j3))=some r:=h
 clear h
 obtain ⟨j3,A2,H⟩:=bsa H
 (try dsimp only at H)
 obtain rfl:=Option.some.inj H
 go_enter Try.func71,Try.ntmps71
 go_wp2_with (first|((with_reducible refine aC (f:=59) rfl ?_);refine aP (some 4) rfl rfl Try.func59 (by kernel_rfl) rfl #[.int .i64 a0, .int .i64 (-2147483648), .int .i64 2147483647] rfl bY ?_;(with_reducible refine (bI.calls a0 (-2147483648) 2147483647 j3 _ A2.out).mono ?_);rintro e w' ⟨rfl,⟨nd,rfl⟩⟩;refine ⟨_,rfl,?_⟩))
 go_ret
 exact ⟨sd_,dD⟩
theorem eG.calls (a0:Bool) (r:Int) (w:World) (h:eG.f a0=some r):
  Calls Try.prog 72 #[.bool a0] w fun e w'=>e= .returned (.int .i64 r)∧dK w w':=by
 have H:(if a0=true then (some 1) else (some 0))=some r:=h
 clear h
 by_cases c2:a0=true
 ·subst c2
  rw [if_pos rfl] at H
  obtain rfl:=Option.some.inj H
  go_enter Try.func72,Try.ntmps72
  go_wp2
  go_ret
  exact ⟨sd_,dD⟩
 replace c2:=Bool.eq_false_iff.mpr c2
 subst c2
 rw [if_neg (show ¬ (false=true) by decide)] at H
 obtain rfl:=Option.some.inj H
 go_enter Try.func72,Try.ntmps72
 go_wp2
 go_ret
 exact ⟨sd_,dD⟩
theorem bW.calls (a0:Int) (r:Int) (w:World) (h:bW.f a0=some r):
  Calls Try.prog 74 #[.int .i64 a0] w fun e w'=>e= .returned (.int .i64 r)∧dK w w':=by
 unfold bW.f at h
 have H:=h
 clear h
 by_cases c2:(Int.tmod a0 4294967296) > 2147483647
 ·rw [if_pos c2] at H
  have j3:decide (2147483647 < (Int.tmod a0 4294967296))=true:=decide_eq_true c2
  clear c2
  obtain rfl:=Option.some.inj H
  go_enter Try.func74,Try.ntmps74
  go_wp2
  go_ret
  exact ⟨sd_,dD⟩
 rw [if_neg c2] at H
 have j3:decide (2147483647 < (Int.tmod a0 4294967296))=false:=decide_eq_false c2
 clear c2
 by_cases c3:(Int.tmod a0 4294967296) < (-2147483648)
 ·rw [if_pos c3] at H
  have j4:decide ((Int.tmod a0 4294967296) < (-2147483648))=true:=decide_eq_true c3
  clear c3
  obtain rfl:=Option.some.inj H
  go_enter Try.func74,Try.ntmps74
  go_wp2
  go_ret
  exact ⟨sd_,dD⟩
 rw [if_neg c3] at H
 have j4:decide ((Int.tmod a0 4294967296) < (-2147483648))=false:=decide_eq_false c3
 clear c3
 obtain rfl:=Option.some.inj H
 go_enter Try.func74,Try.ntmps74
 go_wp2
 go_ret
 exact ⟨sd_,dD⟩
theorem dP.calls (a0:Int) (a1:Int) (a2:Bool) (r:Int) (w:World) (h:dP.f a0 a1 a2=some r):
  Calls Try.prog 73 #[.int .i64 a0, .int .i64 a1, .bool a2] w fun e w'=>e= .returned (.int .i64 r)∧dK w w':=by
 unfold dP.f at h
 have H:=h
 clear h
 by_cases c4:a2=true
 ·subst c4
  rw [if_pos rfl] at H
  by_cases c5:0≤(Go.bits .and .i64 a1 31)
  ·rw [if_pos c5] at H
   have j4:=eq_true c5
   have j5:decide (0≤(Go.bits .and .i64 a1 31))=true:=decide_eq_true c5
   clear c5
   obtain ⟨ji6,hji6⟩:∃ j_:Int,(shr .i64 a0 (Go.bits .and .i64 a1 31))=j_:=⟨_,rfl⟩
   replace H:(some ji6)=some r:=by first|(rw [hji6] at H;exact H)|(simp only [hji6] at H ⊢;exact H)
   have hji6_:(a0 / 2 ^ min (Go.bits .and .i64 a1 31).toNat 64)=ji6:=hji6
   have hji6z:(Go.bits .and .i64 a1 31)≤64→(a0 / 2 ^ (Go.bits .and .i64 a1 31).toNat)=ji6:=rJ hji6
   obtain rfl:=Option.some.inj H
   go_enter Try.func73,Try.ntmps73
   go_wp2
   go_ret
   exact ⟨by first|rfl|(simp;done)|(simp only [← hji6] <;> (first|rfl|simp))|(simp [*];done),dD⟩
  rw [if_neg c5] at H
  exact absurd H (by simp)
 replace c4:=Bool.eq_false_iff.mpr c4
 subst c4
 rw [if_neg (show ¬ (false=true) by decide)] at H
 by_cases c7:0≤(Go.bits .and .i64 a1 31)
 ·rw [if_pos c7] at H
  have j6:=eq_true c7
  have j7:decide (0≤(Go.bits .and .i64 a1 31))=true:=decide_eq_true c7
  clear c7
  obtain ⟨ji8,hji8⟩:∃ j_:Int,(shl .i64 a0 (Go.bits .and .i64 a1 31))=j_:=⟨_,rfl⟩
  replace H:((bW.f (ji8)).bind fun j3=>(some j3))=some r:=by first|(rw [hji8] at H;exact H)|(simp only [hji8] at H ⊢;exact H)
  have hji8_:(IntKind.i64.wrap (a0 * 2 ^ min (Go.bits .and .i64 a1 31).toNat 64))=ji8:=hji8
  have hji8z:(Go.bits .and .i64 a1 31)≤64→(IntKind.i64.wrap (a0 * 2 ^ (Go.bits .and .i64 a1 31).toNat))=ji8:=rH hji8
  have hji8y:(wrap64 (a0 * 2 ^ min (Go.bits .and .i64 a1 31).toNat 64))=ji8:=(fT _).symm.trans hji8_
  have hji8x:(Go.bits .and .i64 a1 31)≤64→(wrap64 (a0 * 2 ^ (Go.bits .and .i64 a1 31).toNat))=ji8:=fun h_=>(fT _).symm.trans (hji8z h_)
  obtain ⟨j3,A9,H⟩:=bsa H
  (try dsimp only at H)
  obtain rfl:=Option.some.inj H
  go_enter Try.func73,Try.ntmps73
  go_wp2_with (first|((with_reducible refine aC (f:=74) rfl ?_);refine aP (some 16) rfl rfl Try.func74 (by kernel_rfl) rfl #[.int .i64 ji8] rfl (by (try simp only [List.map_toArray,List.map_cons,List.map_nil]);first|done|(simp only [hji8];rfl)|rfl|(simp only [List.length_drop,List.length_take];rfl)) ?_;(with_reducible refine (bW.calls ji8 j3 _ A9.out).mono ?_);rintro e w' ⟨rfl,⟨nd,rfl⟩⟩;refine ⟨_,rfl,?_⟩))
  go_ret
  exact ⟨by first|rfl|(simp;done)|(simp only [← hji8] <;> (first|rfl|simp))|(simp [*];done),dD⟩
 rw [if_neg c7] at H
 exact absurd H (by simp)
theorem fI.calls (a0:Int) (a1:Int) (r:Int) (w:World) (h:fI.f a0 a1=some r):
  Calls Try.prog 75 #[.int .i64 a0, .int .i64 a1] w fun e w'=>e= .returned (.int .i64 r)∧dK w w':=by
 have H:(if a1=0 then (some (-1)) else ((bW.f (wrap64 (Int.tdiv a0 a1))).bind fun j3=>(some j3)))=some r:=h
 clear h
 by_cases c3:a1=0
 ·rw [if_pos c3] at H
  have j4:(a1 == 0)=true:=beq_iff_eq.mpr c3
  have j5:(a1 != 0)=false:=bne_eq_false_iff_eq.mpr c3
  clear c3
  obtain rfl:=Option.some.inj H
  go_enter Try.func75,Try.ntmps75
  go_wp2
  go_ret
  exact ⟨sd_,dD⟩
 rw [if_neg c3] at H
 have j4:(a1 == 0)=false:=beq_eq_false_iff_ne.mpr c3
 have j5:(a1 != 0)=true:=bne_iff_ne.mpr c3
 obtain ⟨j3,A4,H⟩:=bsa H
 (try dsimp only at H)
 obtain rfl:=Option.some.inj H
 go_enter Try.func75,Try.ntmps75
 go_wp2_with (first|((with_reducible refine aC (f:=74) rfl ?_);refine aP (some 10) rfl rfl Try.func74 (by kernel_rfl) rfl #[.int .i64 (wrap64 (Int.tdiv a0 a1))] rfl bY ?_;(with_reducible refine (bW.calls (wrap64 (Int.tdiv a0 a1)) j3 _ A4.out).mono ?_);rintro e w' ⟨rfl,⟨nd,rfl⟩⟩;refine ⟨_,rfl,?_⟩))
 go_ret
 exact ⟨sd_,dD⟩
theorem fJ.calls (a0:Int) (a1:Int) (r:Int) (w:World) (h:fJ.f a0 a1=some r):
  Calls Try.prog 76 #[.int .i64 a0, .int .i64 a1] w fun e w'=>e= .returned (.int .i64 r)∧dK w w':=by
 have H:(if a1=0 then (some a0) else (some (Int.tmod a0 a1)))=some r:=h
 clear h
 by_cases c3:a1=0
 ·rw [if_pos c3] at H
  have j3:(a1 == 0)=true:=beq_iff_eq.mpr c3
  have j4:(a1 != 0)=false:=bne_eq_false_iff_eq.mpr c3
  clear c3
  obtain rfl:=Option.some.inj H
  go_enter Try.func76,Try.ntmps76
  go_wp2
  go_ret
  exact ⟨sd_,dD⟩
 rw [if_neg c3] at H
 have j3:(a1 == 0)=false:=beq_eq_false_iff_ne.mpr c3
 have j4:(a1 != 0)=true:=bne_iff_ne.mpr c3
 obtain rfl:=Option.some.inj H
 go_enter Try.func76,Try.ntmps76
 go_wp2
 go_ret
 exact ⟨sd_,dD⟩
theorem aX.mono_l:∀ k,(∀ y0 y1 y2 y3,LeO (aX.j0 k y0 y1 y2 y3) (aX.j0 (k + 1) y0 y1 y2 y3))
 |0=>fun _ _ _ _ r h=>by simp [aX.j0] at h
 |k + 1=>by
  have ih0:=aX.mono_l k
  ·intro y0 y1 y2 y3
   unfold aX.j0
   exact mo_
theorem aX.mono:∀ a0 a1 a2 k,LeO (aX.f k a0 a1 a2) (aX.f (k + 1) a0 a1 a2):=by
 intro a0 a1 a2 k
 have ih0:=aX.mono_l k
 unfold aX.f
 exact mo_
theorem aX.calls (k:Nat) (a0:Int) (a1:Int) (a2:Int) (r1:Int) (r2:Bool) (w:World) (h:aX.f k a0 a1 a2=some (r1,r2)):
  Calls Try.prog 58 #[.int .i64 a0, .int .i64 a1, .int .i64 a2] w fun e w'=>e= .returned (.tuple #[.int .i64 r1, .bool r2])∧dK w w':=by
 unfold aX.f at h
 have H:=h
 clear h
 have jB:=am H
 clear H
 go_enter Try.func58,Try.ntmps58
 go_upto_region 1 with (fail)
 go_cut [20] (fun jM wc=>∃ (kq:Nat) (j3:Bool),jM= .bool j3∧Aside0 (aX.j0 kq a0 a1 a2 j3=some (r1,r2))∧Aside0 (kq≤k)∧dK w wc)
 case first=>
  have H:=jB.out
  clear jB
  obtain ⟨jN,A5,H⟩:=bsa H
  (try dsimp only at H)
  by_cases c6:jN=true
  ·subst c6
   rw [if_pos rfl] at H
   obtain ⟨jO,A7,H⟩:=bsa H
   (try dsimp only at H)
   by_cases c8:jO=true
   ·subst c8
    rw [if_pos rfl] at H
    obtain ⟨jC,A9,H⟩:=bsa H
    (try dsimp only at H)
    have H':=am H
    clear H
    go_wp2_with (first|((with_reducible refine aC (f:=70) rfl ?_);refine aP (some 9) rfl rfl Try.func70 (by kernel_rfl) rfl #[.int .i64 a0] rfl bY ?_;(with_reducible refine (bP.calls a0 true _ A5.out).mono ?_);rintro e w' ⟨rfl,⟨nd,rfl⟩⟩;refine ⟨_,rfl,?_⟩)|(go_at_call 71;(with_reducible refine (dA.calls a1 true _ A7.out).mono ?_);rintro e w' ⟨rfl,⟨nd,rfl⟩⟩)|(go_at_call 71;(with_reducible refine (dA.calls a2 jC _ A9.out).mono ?_);rintro e w' ⟨rfl,⟨nd,rfl⟩⟩))
    go_meet
    case rel=>exact ⟨_,(!jC),sd_,H',⟨by first|omega|exact Nat.le_refl _⟩,dD⟩
   replace c8:=Bool.eq_false_iff.mpr c8
   subst c8
   rw [if_neg (show ¬ (false=true) by decide)] at H
   have H':=am H
   clear H
   go_wp2_with (first|((with_reducible refine aC (f:=70) rfl ?_);refine aP (some 9) rfl rfl Try.func70 (by kernel_rfl) rfl #[.int .i64 a0] rfl bY ?_;(with_reducible refine (bP.calls a0 true _ A5.out).mono ?_);rintro e w' ⟨rfl,⟨nd,rfl⟩⟩;refine ⟨_,rfl,?_⟩)|(go_at_call 71;(with_reducible refine (dA.calls a1 false _ A7.out).mono ?_);rintro e w' ⟨rfl,⟨nd,rfl⟩⟩))
   go_meet
   case rel=>exact ⟨_,(true),sd_,H',⟨by first|omega|exact Nat.le_refl _⟩,dD⟩
  replace c6:=Bool.eq_false_iff.mpr c6
  subst c6
  rw [if_neg (show ¬ (false=true) by decide)] at H
  have H':=am H
  clear H
  go_wp2_with (first|((with_reducible refine aC (f:=70) rfl ?_);refine aP (some 9) rfl rfl Try.func70 (by kernel_rfl) rfl #[.int .i64 a0] rfl bY ?_;(with_reducible refine (bP.calls a0 false _ A5.out).mono ?_);rintro e w' ⟨rfl,⟨nd,rfl⟩⟩;refine ⟨_,rfl,?_⟩))
  go_meet
  case rel=>exact ⟨_,(true),sd_,H',⟨by first|omega|exact Nat.le_refl _⟩,dD⟩
 case rest=>
  clear jB
  obtain ⟨kq,j3,rfl,HA,HJ3,⟨mc3,rfl⟩⟩:=hcut
  cases kq with
  |zero=>exact absurd HA.out (by simp [aX.j0])
  |succ q7=>
   have H:=HA.out
   clear HA
   simp only [aX.j0] at H
   by_cases c10:j3=true
   ·subst c10
    rw [if_pos rfl] at H
    simp only [Option.some.injEq,Prod.mk.injEq] at H
    obtain ⟨rfl,rfl⟩:=H
    go_wp2
    go_ret2
    exact ⟨sd_,dD⟩
   replace c10:=Bool.eq_false_iff.mpr c10
   subst c10
   rw [if_neg (show ¬ (false=true) by decide)] at H
   by_cases j4:a0=1
   ·rw [if_pos j4] at H
    have jf:(a0 == 1)=true:=beq_iff_eq.mpr j4
    have jg:(a0 != 1)=false:=bne_eq_false_iff_eq.mpr j4
    clear j4
    simp only [Option.some.injEq,Prod.mk.injEq] at H
    obtain ⟨rfl,rfl⟩:=H
    go_wp2
    go_ret2
    exact ⟨sd_,dD⟩
   rw [if_neg j4] at H
   have jf:(a0 == 1)=false:=beq_eq_false_iff_ne.mpr j4
   have jg:(a0 != 1)=true:=bne_iff_ne.mpr j4
   by_cases j5:a0=2
   ·rw [if_pos j5] at H
    have jh:(a0 == 2)=true:=beq_iff_eq.mpr j5
    have ji:(a0 != 2)=false:=bne_eq_false_iff_eq.mpr j5
    clear j5
    simp only [Option.some.injEq,Prod.mk.injEq] at H
    obtain ⟨rfl,rfl⟩:=H
    go_wp2
    go_ret2
    exact ⟨sd_,dD⟩
   rw [if_neg j5] at H
   have jh:(a0 == 2)=false:=beq_eq_false_iff_ne.mpr j5
   have ji:(a0 != 2)=true:=bne_iff_ne.mpr j5
   by_cases j6:a0=3
   ·rw [if_pos j6] at H
    have jj:(a0 == 3)=true:=beq_iff_eq.mpr j6
    have jk:(a0 != 3)=false:=bne_eq_false_iff_eq.mpr j6
    clear j6
    simp only [Option.some.injEq,Prod.mk.injEq] at H
    obtain ⟨rfl,rfl⟩:=H
    go_wp2
    go_ret2
    exact ⟨sd_,dD⟩
   rw [if_neg j6] at H
   have jj:(a0 == 3)=false:=beq_eq_false_iff_ne.mpr j6
   have jk:(a0 != 3)=true:=bne_iff_ne.mpr j6
   by_cases j7:a0=4
   ·rw [if_pos j7] at H
    have jl:(a0 == 4)=true:=beq_iff_eq.mpr j7
    have jm:(a0 != 4)=false:=bne_eq_false_iff_eq.mpr j7
    clear j7
    obtain ⟨jP,jD,H⟩:=bsm H
    (try dsimp only at H)
    have jQ:=am jD
    clear jD
    simp only [Option.some.injEq,Prod.mk.injEq] at H
    obtain ⟨rfl,rfl⟩:=H
    go_wp2_with (first|((with_reducible refine aC (f:=72) rfl ?_);refine aP (some 42) rfl rfl Try.func72 (by kernel_rfl) rfl #[.bool (a1 == a2)] rfl bY ?_;(with_reducible refine (eG.calls (a1 == a2) jP _ jQ.out).mono ?_);rintro e w' ⟨rfl,⟨nd,rfl⟩⟩;refine ⟨_,rfl,?_⟩))
    go_ret2
    exact ⟨sd_,dD⟩
   rw [if_neg j7] at H
   have jl:(a0 == 4)=false:=beq_eq_false_iff_ne.mpr j7
   have jm:(a0 != 4)=true:=bne_iff_ne.mpr j7
   by_cases j8:a0=5
   ·rw [if_pos j8] at H
    have jn:(a0 == 5)=true:=beq_iff_eq.mpr j8
    have jo:(a0 != 5)=false:=bne_eq_false_iff_eq.mpr j8
    clear j8
    obtain ⟨jR,jE,H⟩:=bsm H
    (try dsimp only at H)
    have jS:=am jE
    clear jE
    simp only [Option.some.injEq,Prod.mk.injEq] at H
    obtain ⟨rfl,rfl⟩:=H
    go_wp2_with (first|((with_reducible refine aC (f:=72) rfl ?_);refine aP (some 48) rfl rfl Try.func72 (by kernel_rfl) rfl #[.bool (decide (a1 < a2))] rfl bY ?_;(with_reducible refine (eG.calls (decide (a1 < a2)) jR _ jS.out).mono ?_);rintro e w' ⟨rfl,⟨nd,rfl⟩⟩;refine ⟨_,rfl,?_⟩))
    go_ret2
    exact ⟨sd_,dD⟩
   rw [if_neg j8] at H
   have jn:(a0 == 5)=false:=beq_eq_false_iff_ne.mpr j8
   have jo:(a0 != 5)=true:=bne_iff_ne.mpr j8
   by_cases j9:a0=6
   ·rw [if_pos j9] at H
    have jp:(a0 == 6)=true:=beq_iff_eq.mpr j9
    have jq:(a0 != 6)=false:=bne_eq_false_iff_eq.mpr j9
    clear j9
    obtain ⟨jT,jF,H⟩:=bsm H
    (try dsimp only at H)
    have jU:=am jF
    clear jF
    simp only [Option.some.injEq,Prod.mk.injEq] at H
    obtain ⟨rfl,rfl⟩:=H
    go_wp2_with (first|((with_reducible refine aC (f:=73) rfl ?_);refine aP (some 53) rfl rfl Try.func73 (by kernel_rfl) rfl #[.int .i64 a1, .int .i64 a2, .bool false] rfl bY ?_;(with_reducible refine (dP.calls a1 a2 false jT _ jU.out).mono ?_);rintro e w' ⟨rfl,⟨nd,rfl⟩⟩;refine ⟨_,rfl,?_⟩))
    go_ret2
    exact ⟨sd_,dD⟩
   rw [if_neg j9] at H
   have jp:(a0 == 6)=false:=beq_eq_false_iff_ne.mpr j9
   have jq:(a0 != 6)=true:=bne_iff_ne.mpr j9
   by_cases ja:a0=7
   ·rw [if_pos ja] at H
    have jr:(a0 == 7)=true:=beq_iff_eq.mpr ja
    have js:(a0 != 7)=false:=bne_eq_false_iff_eq.mpr ja
    clear ja
    obtain ⟨jV,jG,H⟩:=bsm H
    (try dsimp only at H)
    have jW:=am jG
    clear jG
    simp only [Option.some.injEq,Prod.mk.injEq] at H
    obtain ⟨rfl,rfl⟩:=H
    go_wp2_with (first|((with_reducible refine aC (f:=73) rfl ?_);refine aP (some 58) rfl rfl Try.func73 (by kernel_rfl) rfl #[.int .i64 a1, .int .i64 a2, .bool true] rfl bY ?_;(with_reducible refine (dP.calls a1 a2 true jV _ jW.out).mono ?_);rintro e w' ⟨rfl,⟨nd,rfl⟩⟩;refine ⟨_,rfl,?_⟩))
    go_ret2
    exact ⟨sd_,dD⟩
   rw [if_neg ja] at H
   have jr:(a0 == 7)=false:=beq_eq_false_iff_ne.mpr ja
   have js:(a0 != 7)=true:=bne_iff_ne.mpr ja
   by_cases jb:a0=8
   ·rw [if_pos jb] at H
    have jt:(a0 == 8)=true:=beq_iff_eq.mpr jb
    have ju:(a0 != 8)=false:=bne_eq_false_iff_eq.mpr jb
    clear jb
    obtain ⟨jX,jH,H⟩:=bsm H
    (try dsimp only at H)
    have jY:=am jH
    clear jH
    simp only [Option.some.injEq,Prod.mk.injEq] at H
    obtain ⟨rfl,rfl⟩:=H
    go_wp2_with (first|((with_reducible refine aC (f:=74) rfl ?_);refine aP (some 64) rfl rfl Try.func74 (by kernel_rfl) rfl #[.int .i64 (wrap64 (a1 + a2))] rfl bY ?_;(with_reducible refine (bW.calls (wrap64 (a1 + a2)) jX _ jY.out).mono ?_);rintro e w' ⟨rfl,⟨nd,rfl⟩⟩;refine ⟨_,rfl,?_⟩))
    go_ret2
    exact ⟨sd_,dD⟩
   rw [if_neg jb] at H
   have jt:(a0 == 8)=false:=beq_eq_false_iff_ne.mpr jb
   have ju:(a0 != 8)=true:=bne_iff_ne.mpr jb
   by_cases jc:a0=9
   ·rw [if_pos jc] at H
    have jv:(a0 == 9)=true:=beq_iff_eq.mpr jc
    have jw:(a0 != 9)=false:=bne_eq_false_iff_eq.mpr jc
    clear jc
    obtain ⟨jZ,jI,H⟩:=bsm H
    (try dsimp only at H)
    have q0:=am jI
    clear jI
    simp only [Option.some.injEq,Prod.mk.injEq] at H
    obtain ⟨rfl,rfl⟩:=H
    go_wp2_with (first|((with_reducible refine aC (f:=74) rfl ?_);refine aP (some 70) rfl rfl Try.func74 (by kernel_rfl) rfl #[.int .i64 (wrap64 (a1 - a2))] rfl bY ?_;(with_reducible refine (bW.calls (wrap64 (a1 - a2)) jZ _ q0.out).mono ?_);rintro e w' ⟨rfl,⟨nd,rfl⟩⟩;refine ⟨_,rfl,?_⟩))
    go_ret2
    exact ⟨sd_,dD⟩
   rw [if_neg jc] at H
   have jv:(a0 == 9)=false:=beq_eq_false_iff_ne.mpr jc
   have jw:(a0 != 9)=true:=bne_iff_ne.mpr jc
   by_cases jd:a0=10
   ·rw [if_pos jd] at H
    have jx:(a0 == 10)=true:=beq_iff_eq.mpr jd
    have jy:(a0 != 10)=false:=bne_eq_false_iff_eq.mpr jd
    clear jd
    obtain ⟨q1,jJ,H⟩:=bsm H
    (try dsimp only at H)
    have q2:=am jJ
    clear jJ
    simp only [Option.some.injEq,Prod.mk.injEq] at H
    obtain ⟨rfl,rfl⟩:=H
    go_wp2_with (first|((with_reducible refine aC (f:=74) rfl ?_);refine aP (some 76) rfl rfl Try.func74 (by kernel_rfl) rfl #[.int .i64 (wrap64 (a1 * a2))] rfl bY ?_;(with_reducible refine (bW.calls (wrap64 (a1 * a2)) q1 _ q2.out).mono ?_);rintro e w' ⟨rfl,⟨nd,rfl⟩⟩;refine ⟨_,rfl,?_⟩))
    go_ret2
    exact ⟨sd_,dD⟩
   rw [if_neg jd] at H
   have jx:(a0 == 10)=false:=beq_eq_false_iff_ne.mpr jd
   have jy:(a0 != 10)=true:=bne_iff_ne.mpr jd
   by_cases je:a0=11
   ·rw [if_pos je] at H
    have jz:(a0 == 11)=true:=beq_iff_eq.mpr je
    have jA:(a0 != 11)=false:=bne_eq_false_iff_eq.mpr je
    clear je
    obtain ⟨q3,jK,H⟩:=bsm H
    (try dsimp only at H)
    have q4:=am jK
    clear jK
    simp only [Option.some.injEq,Prod.mk.injEq] at H
    obtain ⟨rfl,rfl⟩:=H
    go_wp2_with (first|((with_reducible refine aC (f:=75) rfl ?_);refine aP (some 81) rfl rfl Try.func75 (by kernel_rfl) rfl #[.int .i64 a1, .int .i64 a2] rfl bY ?_;(with_reducible refine (fI.calls a1 a2 q3 _ q4.out).mono ?_);rintro e w' ⟨rfl,⟨nd,rfl⟩⟩;refine ⟨_,rfl,?_⟩))
    go_ret2
    exact ⟨sd_,dD⟩
   rw [if_neg je] at H
   have jz:(a0 == 11)=false:=beq_eq_false_iff_ne.mpr je
   have jA:(a0 != 11)=true:=bne_iff_ne.mpr je
   obtain ⟨q5,jL,H⟩:=bsm H
   (try dsimp only at H)
   have q6:=am jL
   clear jL
   simp only [Option.some.injEq,Prod.mk.injEq] at H
   obtain ⟨rfl,rfl⟩:=H
   go_wp2_with (first|((with_reducible refine aC (f:=76) rfl ?_);refine aP (some 84) rfl rfl Try.func76 (by kernel_rfl) rfl #[.int .i64 a1, .int .i64 a2] rfl bY ?_;(with_reducible refine (fJ.calls a1 a2 q5 _ q6.out).mono ?_);rintro e w' ⟨rfl,⟨nd,rfl⟩⟩;refine ⟨_,rfl,?_⟩))
   go_ret2
   exact ⟨sd_,dD⟩
theorem fZ.calls (a0:Int) (j9:Int) (ja:Int) (P1_2_:Nat→Prop) (je:Option Addr) (jf:Nat) (j6:List (S28)) (jb:Int) (jc:Int) (P2_2_:Nat→Prop) (jg:Option Addr) (jh:Nat) (j7:List (S28)) (r1:Int) (r2:Int) (r3:List (S28)) (w:World) (hs1_2:Kd.V k28 28 w w.heap.size (fun k_=>P1_2_ k_) (.slice je j6.length jf) j6) (hs2_2:Kd.V k28 28 w w.heap.size (fun k_=>P2_2_ k_) (.slice jg j7.length jh) j7) (h:fZ.f a0 j9 ja j6 jb jc j7=some (r1,r2,r3)):
  Calls Try.prog 60 #[.int .i64 a0, .agg #[.int .i64 j9, .int .i64 ja, .slice je j6.length jf], .agg #[.int .i64 jb, .int .i64 jc, .slice jg j7.length jh]] w fun e w'=>∃ v2_:Value,e= .returned (.agg #[.int .i64 r1, .int .i64 r2,v2_])∧Kd.N k28 28 w' w.heap.size (fun k_=>((P1_2_ k_∨P2_2_ k_)∨w.heap.size≤k_)) v2_ r3∧Below w.heap.size w w':=by
 have hu28:=Try.underlying28
 have HO1_2:=am (show Kd.V k28 28 w w.heap.size (fun k_=>((P1_2_ k_∨P2_2_ k_)∨w.heap.size≤k_)) (.slice je j6.length jf) j6 from Kd.nH hs1_2 (fun k_ hk=> .inl (.inl hk)))
 have HO2_2:=am (show Kd.V k28 28 w w.heap.size (fun k_=>((P1_2_ k_∨P2_2_ k_)∨w.heap.size≤k_)) (.slice jg j7.length jh) j7 from Kd.nH hs2_2 (fun k_ hk=> .inl (.inr hk)))
 have HB:=am (Below.refl w.heap.size w)
 have H:(some (a0,0,(([(⟨j9,ja,j6⟩:S28),(⟨jb,jc,j7⟩:S28)]:List (S28)))))=some (r1,r2,r3):=h
 clear h
 obtain ⟨jF,hy_⟩:∃ y_:List (S28),y_=(([(⟨j9,ja,j6⟩:S28),(⟨jb,jc,j7⟩:S28)]:List (S28))):=⟨_,rfl⟩
 replace H:(some (a0,0,jF))=some (r1,r2,r3):=rx_
 have jp:=am hy_
 clear hy_
 simp only [Option.some.injEq,Prod.mk.injEq] at H
 obtain ⟨rfl,rfl,rfl⟩:=H
 go_enter Try.func60,Try.ntmps60
 go_wp2_with (first|((with_reducible refine aV (N:=4) rfl ?_);refine aY rfl (N:=4) rfl (cs:=#[.int .i64 j9, .int .i64 ja, .slice je j6.length jf]) (t:=28) rn_ ?_;intro j4 hg w4 hbox hb;replace HO1_2:=am (Kd.lH (Kd.kG (by (with_reducible repeat (first|apply Kd.iT|apply Kd.iU|apply Kd.kY));exact HO1_2.out) j4 (Nat.le_of_eq hg.symm)) hb);replace HO2_2:=am (Kd.lH (Kd.kG (by (with_reducible repeat (first|apply Kd.iT|apply Kd.iU|apply Kd.kY));exact HO2_2.out) j4 (Nat.le_of_eq hg.symm)) hb);have j8:=am (hbox);have jP:=am ((by rw [hg];exact (aJ dO):w.heap.size≤j4));have GE21:=am ((by rw [hg];exact (aJ dO):w.heap.size≤j4));replace HB:=am (aF dO hb);clear hb hbox hg)|((with_reducible refine aV (N:=5) rfl ?_);refine aY rfl (N:=5) rfl (cs:=#[.int .i64 jb, .int .i64 jc, .slice jg j7.length jh]) (t:=28) rn_ ?_;intro j5 hg w5 hbox hb;replace HO1_2:=am (Kd.lH (Kd.kG (by (with_reducible repeat (first|apply Kd.iT|apply Kd.iU|apply Kd.kY));exact HO1_2.out) j5 (Nat.le_of_eq hg.symm)) hb);replace HO2_2:=am (Kd.lH (Kd.kG (by (with_reducible repeat (first|apply Kd.iT|apply Kd.iU|apply Kd.kY));exact HO2_2.out) j5 (Nat.le_of_eq hg.symm)) hb);have jd:=am (hbox);have jQ:=am ((by rw [hg];exact (aJ iV):w.heap.size≤j5));have GE22:=am ((by rw [hg];exact (aJ iV):w.heap.size≤j5));replace HB:=am (aF iV hb);have jj:=am ((by rw [hg];exact Nat.ne_of_lt (pK j8.out):j4≠j5));have jk:=am ((by rw [hg];exact Nat.ne_of_gt (pK j8.out):j5≠j4));replace j8:=bbP j8 hb;clear hb hbox hg)|((with_reducible refine aV (N:=6) rfl ?_);refine aY rfl (N:=6) rfl (cs:=#[.int .i64 0, .int .i64 0, .slice none 0 0]) (t:=28) rn_ ?_;intro j3 hg w6 hbox hb;replace HO1_2:=am (Kd.lH (Kd.kG (by (with_reducible repeat (first|apply Kd.iT|apply Kd.iU|apply Kd.kY));exact HO1_2.out) j3 (Nat.le_of_eq hg.symm)) hb);replace HO2_2:=am (Kd.lH (Kd.kG (by (with_reducible repeat (first|apply Kd.iT|apply Kd.iU|apply Kd.kY));exact HO2_2.out) j3 (Nat.le_of_eq hg.symm)) hb);have ji:=am (hbox);have jR:=am ((by rw [hg];exact (aJ mQ):w.heap.size≤j3));have GE23:=am ((by rw [hg];exact (aJ mQ):w.heap.size≤j3));replace HB:=am (aF mQ hb);have jl:=am ((by rw [hg];exact Nat.ne_of_lt (pK j8.out):j4≠j3));have jm:=am ((by rw [hg];exact Nat.ne_of_gt (pK j8.out):j3≠j4));replace j8:=bbP j8 hb;have jn:=am ((by rw [hg];exact Nat.ne_of_lt (pK jd.out):j5≠j3));have jo:=am ((by rw [hg];exact Nat.ne_of_gt (pK jd.out):j3≠j5));replace jd:=bbP jd hb;clear hb hbox hg;have jS:=jj.out;have jT:=jk.out;have jU:=jl.out;have jV:=jm.out;obtain ⟨jG,jH,jI,jJ,jK,jL⟩:=bQ j8.out;have jN:=jn.out;have jO:=jo.out;obtain ⟨jt,ju,jv,jw,jx,jy⟩:=bQ jd.out)|((with_reducible refine aV (N:=10) rfl ?_);refine Kd.CS k28 _ 28 rfl (N':=10) rfl (xs:=([(⟨j9,ja,j6⟩:S28),(⟨jb,jc,j7⟩:S28)]:List (S28))) (inner:=[.int .i64 j9, .int .i64 ja, .slice je j6.length jf, .int .i64 jb, .int .i64 jc, .slice jg j7.length jh]) (ok:=(fun k_=>((P1_2_ k_∨P2_2_ k_)∨w.heap.size≤k_)∧k_≠j4∧k_≠j5∧k_≠j3)) (okp:=(fun k_=>((P1_2_ k_∨P2_2_ k_)∨w.heap.size≤k_)∧k_≠j4∧k_≠j5∧k_≠j3)) rn_ ?hp (fun _ hk=>hk) ((show ∀ k_,w6.heap.size≤k_→(fun k_=>((P1_2_ k_∨P2_2_ k_)∨w.heap.size≤k_)∧k_≠j4∧k_≠j5∧k_≠j3) k_ from fun k_ hk=>⟨(.inr (Nat.le_trans (aJ vY) hk)),xC j8.out k_ hk,xC jd.out k_ hk,xC ji.out k_ hk⟩) _ (Nat.le_refl _)) (Below.refl _ _) (Nat.le_refl _) (by simp) ?_;(case hp=>exact (bX.c3 (show Kd.FK k28 _ _ (⟨j9,ja,j6⟩:S28) [.int .i64 j9, .int .i64 ja, .slice je j6.length jf] from (wE _ _ (⟨j9,ja,j6⟩:S28) (Kd.tT (Kd.nH (ok':=(fun k_=>((P1_2_ k_∨P2_2_ k_)∨w.heap.size≤k_)∧k_≠j4∧k_≠j5∧k_≠j3)) (HO1_2.out) (fun k_ hk=>⟨hk.1.1.1,⟨hk.1.1.2,⟨hk.1.2,hk.2⟩⟩⟩))).2.1 (Kd.V_F (Kd.nH (ok':=(fun k_=>((P1_2_ k_∨P2_2_ k_)∨w.heap.size≤k_)∧k_≠j4∧k_≠j5∧k_≠j3)) (HO1_2.out) (fun k_ hk=>⟨hk.1.1.1,⟨hk.1.1.2,⟨hk.1.2,hk.2⟩⟩⟩))))) (bX.c3 (show Kd.FK k28 _ _ (⟨jb,jc,j7⟩:S28) [.int .i64 jb, .int .i64 jc, .slice jg j7.length jh] from (wE _ _ (⟨jb,jc,j7⟩:S28) (Kd.tT (Kd.nH (ok':=(fun k_=>((P1_2_ k_∨P2_2_ k_)∨w.heap.size≤k_)∧k_≠j4∧k_≠j5∧k_≠j3)) (HO2_2.out) (fun k_ hk=>⟨hk.1.1.1,⟨hk.1.1.2,⟨hk.1.2,hk.2⟩⟩⟩))).2.1 (Kd.V_F (Kd.nH (ok':=(fun k_=>((P1_2_ k_∨P2_2_ k_)∨w.heap.size≤k_)∧k_≠j4∧k_≠j5∧k_≠j3)) (HO2_2.out) (fun k_ hk=>⟨hk.1.1.1,⟨hk.1.1.2,⟨hk.1.2,hk.2⟩⟩⟩))))) (bX.none _ _))));intro jW jX ho13 hb hg_ hnew_;clear hg_ hnew_;(first|rw [← jp.out] at ho13|(simp only [Int.reduceToNat] at ho13;rw [← jp.out] at ho13));replace HO1_2:=am (Kd.tQ (by (with_reducible repeat (first|apply Kd.iT|apply Kd.iU|apply Kd.kY));exact HO1_2.out) (Kd.fE ho13) hb);replace HO2_2:=am (Kd.tQ (by (with_reducible repeat (first|apply Kd.iT|apply Kd.iU|apply Kd.kY));exact HO2_2.out) (Kd.fE ho13) hb);have jq:=am (Kd.iI ho13 (aJ vY));replace j8:=bbP j8 hb;replace jd:=bbP jd hb;replace ji:=bbP ji hb;replace HB:=am (aF vY hb);clear hb ho13;obtain ⟨jr,js,jM⟩:=Kd.gT jq.out;subst jM;obtain ⟨jz,jA,jB,jC,jD,jE⟩:=bQ ji.out))
 refine bodyPost_ret (results_cell_row rfl _ _ j3 28 #[.int .i64 a0, .int .i64 0, .slice jr jF.length js] (0,0) _ rfl (aO (aO (aO ji.out 0 _ rfl) 1 _ rfl) 2 _ rfl) Try.underlying28 rfl (by kernel_rfl)) rfl ?_
 exact ⟨_,nQ,nU (Kd.bT (Kd.dH (p:=⟨j3,2,none⟩) (Kd.dH (p:=⟨j3,1,none⟩) (Kd.dH (p:=⟨j3,0,none⟩) (Kd.bT jq.out (fun k_ hk=>(⟨hk,hk.2.2.2⟩:_∧k_≠j3))) (fun _ hk=>hk.2) (.int .i64 a0)) (fun _ hk=>hk.2) (.int .i64 0)) (fun _ hk=>hk.2) (.slice jr jF.length js)) (fun _ hk=>hk.1.1)),vY⟩
theorem aQ.mono_l:∀ k,(∀ y0 y1 y2,LeO (aQ.f k y0 y1 y2) (aQ.f (k + 1) y0 y1 y2))∧(∀ y0 y1 y2 y3 y4 y5 y6 y7 y8 y9,LeO (aQ.j0 k y0 y1 y2 y3 y4 y5 y6 y7 y8 y9) (aQ.j0 (k + 1) y0 y1 y2 y3 y4 y5 y6 y7 y8 y9))
 |0=>⟨fun _ _ _ r h=>by simp [aQ.f] at h,fun _ _ _ _ _ _ _ _ _ _ r h=>by simp [aQ.j0] at h⟩
 |k + 1=>by
  obtain ⟨ih0,ih1⟩:=aQ.mono_l k
  refine ⟨?_,?_⟩
  ·intro y0 y1 y2
   unfold aQ.f
   have m0:=@aX.mono
   exact mo_
  ·intro y0 y1 y2 y3 y4 y5 y6 y7 y8 y9
   unfold aQ.j0
   have m0:=@aX.mono
   exact mo_
theorem aQ.mono:∀ a0 a1 a2 k,LeO (aQ.f k a0 a1 a2) (aQ.f (k + 1) a0 a1 a2):=by
 intro a0 a1 a2 k
 obtain ⟨ih0,ih1⟩:=aQ.mono_l k
 exact ih0 a0 a1 a2
theorem aQ.calls (k:Nat):∀ (jc:Int) (jg:Int) (jK:Option Addr) (jj:Nat) (j8:List (S28)) (r1:Int) (r2:Int) (r3:List (S28)) (w:World) (hr0_2:Kd.C k28 w jK j8.length j8) (hc0_2:j8.length≤jj) (h:aQ.f k jc jg j8=some (r1,r2,r3)),
  Calls Try.prog 29 #[.agg #[.int .i64 jc, .int .i64 jg, .slice jK j8.length jj]] w fun e w'=>∃ v2_:Value,e= .returned (.agg #[.int .i64 r1, .int .i64 r2,v2_])∧Kd.N k28 28 w' w.heap.size (fun k_=>(w.heap.size≤k_)) v2_ r3∧Below w.heap.size w w':=by
 induction k using Nat.strongRecOn with
 | _ k ih=>
 intro jc jg jK jj j8 r1 r2 r3 w hr0_2 hc0_2 h
 cases k with
 |zero=>exact absurd h (by simp [aQ.f])
 |succ k=>
 simp only [aQ.f] at h
 have hu28:=Try.underlying28
 have qq:=am hr0_2
 have ZD:=am hc0_2
 clear hr0_2 hc0_2
 have HB:=am (Below.refl w.heap.size w)
 have H:=h
 clear h
 by_cases c2:(j8.length:Int)=0
 ·rw [if_pos c2] at H
  have qJ:((j8.length:Int) == 0)=true:=beq_iff_eq.mpr c2
  have qK:((j8.length:Int) != 0)=false:=bne_eq_false_iff_eq.mpr c2
  clear c2
  obtain ⟨⟨Zc,Zd,Ze⟩,A3,H⟩:=bsa H
  (try dsimp only at H)
  simp only [Option.some.injEq,Prod.mk.injEq] at H
  obtain ⟨rfl,rfl,rfl⟩:=H
  go_enter Try.func29,Try.ntmps29
  go_wp2_with (first|((with_reducible refine aV (N:=1) rfl ?_);refine aY rfl (N:=1) rfl (cs:=#[.int .i64 jc, .int .i64 jg, .slice jK j8.length jj]) (t:=28) rn_ ?_;intro j9 hg w4 hbox hb;have j7:=am (hbox);have Zf:=am ((by rw [hg];exact (aJ dO):w.heap.size≤j9));have GE94:=am ((by rw [hg];exact (aJ dO):w.heap.size≤j9));replace HB:=am (aF dO hb);clear hb hbox hg)|((with_reducible refine aV (N:=2) rfl ?_);refine aY rfl (N:=2) rfl (cs:=#[.int .i64 0, .int .i64 0, .slice none 0 0]) (t:=28) rn_ ?_;intro j5 hg w5 hbox hb;have jb:=am (hbox);have Zg:=am ((by rw [hg];exact (aJ pX):w.heap.size≤j5));have GE95:=am ((by rw [hg];exact (aJ pX):w.heap.size≤j5));replace HB:=am (aF pX hb);have jF:=am ((by rw [hg];exact Nat.ne_of_lt (bG (g:=j9) (o:= .cells #[.int .i64 jc, .int .i64 jg, .slice jK j8.length jj] 28 (0,0)) (aG_ j7.out)):j9≠j5));have jG:=am ((by rw [hg];exact Nat.ne_of_gt (bG (g:=j9) (o:= .cells #[.int .i64 jc, .int .i64 jg, .slice jK j8.length jj] 28 (0,0)) (aG_ j7.out)):j5≠j9));replace j7:=am (aB (g:=j9) (o:= .cells #[.int .i64 jc, .int .i64 jg, .slice jK j8.length jj] 28 (0,0)) (aG_ j7.out) hb);clear hb hbox hg;have YL:=jF.out;have YM:=jG.out;obtain ⟨Zh,Zi,Zj,Zk,Zl,Zm⟩:=bQ j7.out)|((with_reducible refine aC (f:=57) rfl ?_);refine aP (some 15) rfl rfl Try.func57 (by kernel_rfl) rfl #[.int .i64 jc, .int .i64 jg] rfl bY ?_;(with_reducible refine (gB.calls jc jg Zc Zd Ze _ A3.out).mono ?_);rintro e w8 ⟨YY,rfl,ho0,hb⟩;refine ⟨_,rfl,?_⟩;have qL:=am (Kd.iI (Kd.bT (ok':=fun k_=>(w.heap.size≤k_)∧k_≠j9∧k_≠j5) (Kd.R_N (Kd.kL ho0)) (fun k_ hk_=>⟨(Nat.le_trans (aJ lZ) hk_.2.1),(Kd.eB (g:=j9) (o:= .cells #[.int .i64 jc, .int .i64 jg, .slice jK j8.length jj] 28 (0,0)) (aG_ j7.out) k_ hk_.2.1),(Kd.eB (g:=j5) (o:= .cells #[.int .i64 0, .int .i64 0, .slice none 0 0] 28 (0,0)) (aG_ jb.out) k_ hk_.2.1)⟩)) (aJ lZ));replace j7:=am (aB (g:=j9) (o:= .cells #[.int .i64 jc, .int .i64 jg, .slice jK j8.length jj] 28 (0,0)) (aG_ j7.out) hb);replace jb:=am (aB (g:=j5) (o:= .cells #[.int .i64 0, .int .i64 0, .slice none 0 0] 28 (0,0)) (aG_ jb.out) hb);replace HB:=am (aF lZ hb);(try clear hb);(try clear ho0);obtain ⟨Zn,Zo,Zp,Zq,Zr,Zs⟩:=bQ jb.out;obtain ⟨qM,qN,Zt⟩:=Kd.gT qL.out;subst Zt))
  refine bodyPost_ret (results_cell_row rfl _ _ j5 28 #[.int .i64 Zc, .int .i64 Zd, .slice qM Ze.length qN] (0,0) _ rfl (aO (aO (aO jb.out 0 _ rfl) 1 _ rfl) 2 _ rfl) Try.underlying28 rfl (by kernel_rfl)) rfl ?_
  exact ⟨_,nQ,nU (Kd.bT (Kd.dH (p:=⟨j5,2,none⟩) (Kd.dH (p:=⟨j5,1,none⟩) (Kd.dH (p:=⟨j5,0,none⟩) (Kd.bT qL.out (fun k_ hk=>(⟨hk,hk.2.2⟩:_∧k_≠j5))) (fun _ hk=>hk.2) (.int .i64 Zc)) (fun _ hk=>hk.2) (.int .i64 Zd)) (fun _ hk=>hk.2) (.slice qM Ze.length qN)) (fun _ hk=>hk.1.1)),lZ⟩
 rw [if_neg c2] at H
 have qJ:((j8.length:Int) == 0)=false:=beq_eq_false_iff_ne.mpr c2
 have qK:((j8.length:Int) != 0)=true:=bne_iff_ne.mpr c2
 have Zu:¬ (j8=[]):=fun h_=>c2 (by rw [h_];rfl)
 by_cases qO:0 < (j8.length:Int)
 ·rw [if_pos qO] at H
  have qP:decide (0 < (j8.length:Int))=true:=decide_eq_true qO
  have qQ:decide (0 < j8.length)=true:=decide_eq_true (by omega)
  clear qO
  obtain ⟨⟨jJ,jH,jw⟩,YN,H⟩:=bsa H
  (try dsimp only at H)
  by_cases qR:1 < (j8.length:Int)
  ·rw [if_pos qR] at H
   have qS:decide (1 < (j8.length:Int))=true:=decide_eq_true qR
   have qT:decide (1 < j8.length)=true:=decide_eq_true (by omega)
   clear qR
   obtain ⟨⟨jM,jt,jf⟩,qU,H⟩:=bsm H
   (try dsimp only at H)
   have YO:=am qU
   clear qU
   have qu:=am H
   clear H
   go_enter Try.func29,Try.ntmps29
   go_upto_region 5 with (first|((with_reducible refine aV (N:=1) rfl ?_);refine aY rfl (N:=1) rfl (cs:=#[.int .i64 jc, .int .i64 jg, .slice jK j8.length jj]) (t:=28) rn_ ?_;intro j9 hg YZ hbox hb;have j7:=am (hbox);have Zf:=am ((by rw [hg];exact (aJ dO):w.heap.size≤j9));have GE94:=am ((by rw [hg];exact (aJ dO):w.heap.size≤j9));replace HB:=am (aF dO hb);clear hb hbox hg)|((with_reducible refine aV (N:=2) rfl ?_);refine aY rfl (N:=2) rfl (cs:=#[.int .i64 0, .int .i64 0, .slice none 0 0]) (t:=28) rn_ ?_;intro j5 hg U0 hbox hb;have jb:=am (hbox);have Zg:=am ((by rw [hg];exact (aJ pX):w.heap.size≤j5));have GE95:=am ((by rw [hg];exact (aJ pX):w.heap.size≤j5));replace HB:=am (aF pX hb);have jF:=am ((by rw [hg];exact Nat.ne_of_lt (bG (g:=j9) (o:= .cells #[.int .i64 jc, .int .i64 jg, .slice jK j8.length jj] 28 (0,0)) (aG_ j7.out)):j9≠j5));have jG:=am ((by rw [hg];exact Nat.ne_of_gt (bG (g:=j9) (o:= .cells #[.int .i64 jc, .int .i64 jg, .slice jK j8.length jj] 28 (0,0)) (aG_ j7.out)):j5≠j9));replace j7:=am (aB (g:=j9) (o:= .cells #[.int .i64 jc, .int .i64 jg, .slice jK j8.length jj] 28 (0,0)) (aG_ j7.out) hb);clear hb hbox hg;have ZE:=jF.out;have ZF:=jG.out;obtain ⟨jS,jT,jU,jV,jW,jX⟩:=bQ j7.out;have jY:0≤(0:Int):=(by omega);have jZ:0 < (j8.length:Int):=of_decide_eq_true eT;obtain ⟨je,qv,qw,Zv,jA,jB,jC,hl104_2,hi104_2⟩:=dU qq.out 0 jY jZ;cases Zv;have ZG:(0 < j8.length)=True:=eq_true (by omega);(try rw [show ((0:Int)).toNat=0 from rfl] at jA);(try rw [show 0 * 3=0 from rfl] at jA);(try rw [Addr.add_zero'] at jA);(try rw [show ((0:Int)).toNat=0 from rfl] at jB);(try rw [show 0 * 3=0 from rfl] at jB);(try rw [Addr.add_zero'] at jB);(try rw [show ((0:Int)).toNat=0 from rfl] at jC);(try rw [show 0 * 3=0 from rfl] at jC);(try rw [Addr.add_zero'] at jC);replace jA:=(HB.out.cell (World.block_lt_of_cell? w _ jA)).trans jA;replace jB:=(HB.out.cell (World.block_lt_of_cell? w _ jB)).trans jB;replace jC:=(HB.out.cell (World.block_lt_of_cell? w _ jC)).trans jC;have q0:=am hi104_2;have q1:=am hl104_2;clear hi104_2 hl104_2;replace jY:=eq_true jY;replace jZ:=eq_true jZ)|((with_reducible refine aC (f:=29) rfl ?_);refine aP (some 20) rfl rfl Try.func29 (by kernel_rfl) rfl #[.agg #[.int .i64 ((aH j8 0).f0), .int .i64 ((aH j8 0).f1), .slice qv ((aH j8 0).f2).length qw]] rfl bY ?_;(with_reducible refine (ih k (by omega) ((aH j8 0).f0) ((aH j8 0).f1) _ _ ((aH j8 0).f2) jJ jH jw _ (aC_ (Kd.bA q0.out HB.out)) q1.out YN.out).mono ?_);rintro e U1 ⟨YP,rfl,ho0,hb⟩;refine ⟨_,rfl,?_⟩;have jI:=am (Kd.iI (Kd.bT (ok':=fun k_=>(w.heap.size≤k_)∧k_≠j9∧k_≠j5) ho0 (fun k_ hk_=>⟨(Nat.le_trans (aJ lZ) hk_),(Kd.eB (g:=j9) (o:= .cells #[.int .i64 jc, .int .i64 jg, .slice (some je) j8.length jj] 28 (0,0)) (aG_ j7.out) k_ hk_),(Kd.eB (g:=j5) (o:= .cells #[.int .i64 0, .int .i64 0, .slice none 0 0] 28 (0,0)) (aG_ jb.out) k_ hk_)⟩)) (aJ lZ));replace j7:=am (aB (g:=j9) (o:= .cells #[.int .i64 jc, .int .i64 jg, .slice (some je) j8.length jj] 28 (0,0)) (aG_ j7.out) hb);replace jb:=am (aB (g:=j5) (o:= .cells #[.int .i64 0, .int .i64 0, .slice none 0 0] 28 (0,0)) (aG_ jb.out) hb);replace HB:=am (aF lZ hb);(try clear hb);(try clear ho0))|((with_reducible refine aV (N:=3) rfl ?_);refine aY rfl (N:=3) rfl (cs:=#[.int .i64 0, .int .i64 0, .slice none 0 0]) (t:=28) rn_ ?_;intro j3 hg U2 hbox hb;replace jI:=am (Kd.dI (Kd.oI (aN_ jI.out) j3 (Nat.le_of_eq hg.symm)) hb);have j6:=am (hbox);have jR:=am ((by rw [hg];exact (aJ lZ):w.heap.size≤j3));have GE107:=am ((by rw [hg];exact (aJ lZ):w.heap.size≤j3));replace HB:=am (aF lZ hb);have jk:=am ((by rw [hg];exact Nat.ne_of_lt (bG (g:=j9) (o:= .cells #[.int .i64 jc, .int .i64 jg, .slice (some je) j8.length jj] 28 (0,0)) (aG_ j7.out)):j9≠j3));have jy:=am ((by rw [hg];exact Nat.ne_of_gt (bG (g:=j9) (o:= .cells #[.int .i64 jc, .int .i64 jg, .slice (some je) j8.length jj] 28 (0,0)) (aG_ j7.out)):j3≠j9));replace j7:=am (aB (g:=j9) (o:= .cells #[.int .i64 jc, .int .i64 jg, .slice (some je) j8.length jj] 28 (0,0)) (aG_ j7.out) hb);have jl:=am ((by rw [hg];exact Nat.ne_of_lt (bG (g:=j5) (o:= .cells #[.int .i64 0, .int .i64 0, .slice none 0 0] 28 (0,0)) (aG_ jb.out)):j5≠j3));have jz:=am ((by rw [hg];exact Nat.ne_of_gt (bG (g:=j5) (o:= .cells #[.int .i64 0, .int .i64 0, .slice none 0 0] 28 (0,0)) (aG_ jb.out)):j3≠j5));replace jb:=am (aB (g:=j5) (o:= .cells #[.int .i64 0, .int .i64 0, .slice none 0 0] 28 (0,0)) (aG_ jb.out) hb);clear hb hbox hg;have ZH:=jy.out;have ZI:=jk.out;have ZJ:=jz.out;have ZK:=jl.out;obtain ⟨q2,q3,q4,q5,q6,q7⟩:=bQ j6.out;obtain ⟨jh,ji,Zw⟩:=Kd.gT jI.out;subst Zw;obtain ⟨q8,q9,qa,qb,qc,qd⟩:=bQ j7.out;have qe:0≤(1:Int):=(by omega);have qf:1 < (j8.length:Int):=of_decide_eq_true eT;obtain ⟨qV,qx,qy,Zx,js,ju,jv,hl108_2,hi108_2⟩:=dU qq.out 1 qe qf;obtain rfl:je=qV:=(by injection Zx);(try simp only [show (1:Int).toNat=1 from rfl,Nat.reduceMul,Nat.reduceEqDiff,Go.Addr.add,↓reduceIte] at js);(try simp only [show (1:Int).toNat=1 from rfl,Nat.reduceMul,Nat.reduceEqDiff,Go.Addr.add,↓reduceIte] at ju);(try simp only [show (1:Int).toNat=1 from rfl,Nat.reduceMul,Nat.reduceEqDiff,Go.Addr.add,↓reduceIte] at jv);have ZL:(1 < j8.length)=True:=eq_true (by omega);(try rw [show ((1:Int)).toNat=1 from rfl] at js);(try rw [show 1 * 3=3 from rfl] at js);(try rw [show ((1:Int)).toNat=1 from rfl] at ju);(try rw [show 1 * 3=3 from rfl] at ju);(try rw [show ((1:Int)).toNat=1 from rfl] at jv);(try rw [show 1 * 3=3 from rfl] at jv);have jL:je.block≠j3:=Nat.ne_of_lt (Nat.lt_of_lt_of_le (by have:=World.block_lt_of_cell? _ _ js;first|rwa [add_block] at this|exact this) jR.out);have qg:je.block≠j3:=Nat.ne_of_lt (Nat.lt_of_lt_of_le (by have:=World.block_lt_of_cell? _ _ js;first|rwa [add_block] at this|exact this) jR.out);have qh:je.block≠j3:=Nat.ne_of_lt (Nat.lt_of_lt_of_le (by have:=World.block_lt_of_cell? _ _ js;first|rwa [add_block] at this|exact this) jR.out);replace js:=(HB.out.cell (World.block_lt_of_cell? w _ js)).trans js;replace ju:=(HB.out.cell (World.block_lt_of_cell? w _ ju)).trans ju;replace jv:=(HB.out.cell (World.block_lt_of_cell? w _ jv)).trans jv;have qi:=am hi108_2;have qj:=am hl108_2;clear hi108_2 hl108_2;have FR_:=fun {W_:World} {a_:Addr} {x_:Value} (b_:a_.block≠j3) (h_:W_.cell? a_=some x_)=>((cell_far (p:=⟨j3,2,none⟩) b_ (.slice jh jw.length ji)).trans ((cell_far (p:=⟨j3,1,none⟩) b_ (.int .i64 jH)).trans ((cell_far (p:=⟨j3,0,none⟩) b_ (.int .i64 jJ)).trans h_)));replace js:=FR_ (nb_ jL) js;replace ju:=FR_ (nb_ jL) ju;replace jv:=FR_ (nb_ jL) jv;clear FR_;clear jL qg qh;replace qe:=eq_true qe;replace qf:=eq_true qf)|((with_reducible refine aC (f:=29) rfl ?_);refine aP (some 25) rfl rfl Try.func29 (by kernel_rfl) rfl #[.agg #[.int .i64 ((aH j8 1).f0), .int .i64 ((aH j8 1).f1), .slice qx ((aH j8 1).f2).length qy]] rfl bY ?_;(with_reducible refine (ih k (by omega) ((aH j8 1).f0) ((aH j8 1).f1) _ _ ((aH j8 1).f2) jM jt jf _ ?side1 qj.out YO.out).mono ?_);(case side1=>exact Kd.bA qi.out oM);rintro e U3 ⟨YQ,rfl,ho0,hb⟩;refine ⟨_,rfl,?_⟩;have jO:=am (Kd.iI (Kd.bT (ok':=fun k_=>(w.heap.size≤k_)∧some k_≠(.slice jh jw.length ji:Value).ownBlock∧k_≠j9∧k_≠j5∧k_≠j3) ho0 (fun k_ hk_=>⟨(Nat.le_trans (aJ oM) hk_),(Kd.fresh' (Kd.yH (nU ((Kd.bT (Kd.dH (p:=⟨j3,2,none⟩) (Kd.dH (p:=⟨j3,1,none⟩) (Kd.dH (p:=⟨j3,0,none⟩) (Kd.bT jI.out (fun k_ hk=>(⟨hk,hk.2⟩:_∧k_≠j3))) (fun _ hk=>hk.2) (.int .i64 jJ)) (fun _ hk=>hk.2) (.int .i64 jH)) (fun _ hk=>hk.2) (.slice jh jw.length ji)) (fun _ h_=>h_.1))))) k_ hk_),(Kd.eB (g:=j9) (o:= .cells #[.int .i64 jc, .int .i64 jg, .slice (some je) j8.length jj] 28 (0,0)) (aZ (aZ (aZ j7.out jk.out _) jk.out _) jk.out _) k_ hk_),(Kd.eB (g:=j5) (o:= .cells #[.int .i64 0, .int .i64 0, .slice none 0 0] 28 (0,0)) (aZ (aZ (aZ jb.out jl.out _) jl.out _) jl.out _) k_ hk_),(Kd.eB (g:=j3) (o:= .cells #[.int .i64 jJ, .int .i64 jH, .slice jh jw.length ji] 28 (0,0)) (aO (aO (aO j6.out 0 _ rfl) 1 _ rfl) 2 _ rfl) k_ hk_)⟩)) (aJ oM));replace jI:=am (Kd.iL (nU ((Kd.bT (Kd.dH (p:=⟨j3,2,none⟩) (Kd.dH (p:=⟨j3,1,none⟩) (Kd.dH (p:=⟨j3,0,none⟩) (Kd.bT jI.out (fun k_ hk=>(⟨hk,hk.2⟩:_∧k_≠j3))) (fun _ hk=>hk.2) (.int .i64 jJ)) (fun _ hk=>hk.2) (.int .i64 jH)) (fun _ hk=>hk.2) (.slice jh jw.length ji)) (fun _ h_=>h_.1)))) (by first|exact Kd.fE ho0|exact Kd.fE (Kd.R_N ho0)) hb);replace j7:=am (aB (g:=j9) (o:= .cells #[.int .i64 jc, .int .i64 jg, .slice (some je) j8.length jj] 28 (0,0)) (aZ (aZ (aZ j7.out jk.out _) jk.out _) jk.out _) hb);replace jb:=am (aB (g:=j5) (o:= .cells #[.int .i64 0, .int .i64 0, .slice none 0 0] 28 (0,0)) (aZ (aZ (aZ jb.out jl.out _) jl.out _) jl.out _) hb);replace j6:=am (aB (g:=j3) (o:= .cells #[.int .i64 jJ, .int .i64 jH, .slice jh jw.length ji] 28 (0,0)) (aO (aO (aO j6.out 0 _ rfl) 1 _ rfl) 2 _ rfl) hb);replace HB:=am (aF oM hb);(try clear hb);(try clear ho0))|((with_reducible refine aV (N:=4) rfl ?_);refine aY rfl (N:=4) rfl (cs:=#[.int .i64 0, .int .i64 0, .slice none 0 0]) (t:=28) rn_ ?_;intro j4 hg U4 hbox hb;replace jI:=am (Kd.dI (Kd.oI (aN_ jI.out) j4 (Nat.le_of_eq hg.symm)) hb);replace jO:=am (Kd.dI (Kd.oI (aN_ jO.out) j4 (Nat.le_of_eq hg.symm)) hb);have ja:=am (hbox);have ZM:=am ((by rw [hg];exact (aJ oM):w.heap.size≤j4));have GE111:=am ((by rw [hg];exact (aJ oM):w.heap.size≤j4));replace HB:=am (aF oM hb);have jm:=am ((by rw [hg];exact Nat.ne_of_lt (bG (g:=j9) (o:= .cells #[.int .i64 jc, .int .i64 jg, .slice (some je) j8.length jj] 28 (0,0)) (aG_ j7.out)):j9≠j4));have jD:=am ((by rw [hg];exact Nat.ne_of_gt (bG (g:=j9) (o:= .cells #[.int .i64 jc, .int .i64 jg, .slice (some je) j8.length jj] 28 (0,0)) (aG_ j7.out)):j4≠j9));replace j7:=am (aB (g:=j9) (o:= .cells #[.int .i64 jc, .int .i64 jg, .slice (some je) j8.length jj] 28 (0,0)) (aG_ j7.out) hb);have jn:=am ((by rw [hg];exact Nat.ne_of_lt (bG (g:=j5) (o:= .cells #[.int .i64 0, .int .i64 0, .slice none 0 0] 28 (0,0)) (aG_ jb.out)):j5≠j4));have jE:=am ((by rw [hg];exact Nat.ne_of_gt (bG (g:=j5) (o:= .cells #[.int .i64 0, .int .i64 0, .slice none 0 0] 28 (0,0)) (aG_ jb.out)):j4≠j5));replace jb:=am (aB (g:=j5) (o:= .cells #[.int .i64 0, .int .i64 0, .slice none 0 0] 28 (0,0)) (aG_ jb.out) hb);have jd:=am ((by rw [hg];exact Nat.ne_of_lt (bG (g:=j3) (o:= .cells #[.int .i64 jJ, .int .i64 jH, .slice jh jw.length ji] 28 (0,0)) (aG_ j6.out)):j3≠j4));have jx:=am ((by rw [hg];exact Nat.ne_of_gt (bG (g:=j3) (o:= .cells #[.int .i64 jJ, .int .i64 jH, .slice jh jw.length ji] 28 (0,0)) (aG_ j6.out)):j4≠j3));replace j6:=am (aB (g:=j3) (o:= .cells #[.int .i64 jJ, .int .i64 jH, .slice jh jw.length ji] 28 (0,0)) (aG_ j6.out) hb);clear hb hbox hg;have ZN:=jD.out;have ZO:=jm.out;have ZP:=jE.out;have ZQ:=jn.out;have ZR:=jx.out;have ZS:=jd.out;obtain ⟨qk,ql,qm,qn,qo,qp⟩:=bQ ja.out;obtain ⟨jq,jr,Zy⟩:=Kd.gT jO.out;subst Zy))
   (try simp only [Act.put,List.setIfInBounds_toArray,List.set_cons_zero,List.set_cons_succ])
   go_cut [33] (fun YR wc=>∃ (kq:Nat) (jN:Bool),YR= .bool jN∧Aside0 (aQ.j0 kq jN jc jg j8 jJ jH jw jM jt jf=some (r1,r2,r3))∧Aside0 (kq≤k)∧Aside0 (Kd.N k28 28 wc w.heap.size (fun k_=>(w.heap.size≤k_)∧some k_≠((.slice jq jf.length jr):Value).ownBlock∧k_≠j9∧k_≠j5∧k_≠j3∧k_≠j4) (.slice jh jw.length ji) jw)∧Aside0 (Kd.N k28 28 wc w.heap.size (fun k_=>(w.heap.size≤k_)∧some k_≠((.slice jh jw.length ji):Value).ownBlock∧k_≠j9∧k_≠j5∧k_≠j3∧k_≠j4) (.slice jq jf.length jr) jf)∧Aside0 (wc.heap[j9]?=some (.cells #[.int .i64 jc, .int .i64 jg,(.slice (some je) j8.length jj)] 28 (0,0)))∧Aside0 (wc.heap[j5]?=some (.cells #[.int .i64 0, .int .i64 0,(.slice none 0 0)] 28 (0,0)))∧Aside0 (wc.heap[j3]?=some (.cells #[.int .i64 jJ, .int .i64 jH,(.slice jh jw.length ji)] 28 (0,0)))∧Aside0 (wc.heap[j4]?=some (.cells #[.int .i64 jM, .int .i64 jt,(.slice jq jf.length jr)] 28 (0,0)))∧Aside0 (Below w.heap.size w wc))
   case first=>
    have H:=qu.out
    clear qu
    by_cases qz:jJ=0
    ·rw [if_pos qz] at H
     have jP:(jJ == 0)=true:=beq_iff_eq.mpr qz
     have qW:(jJ != 0)=false:=bne_eq_false_iff_eq.mpr qz
     clear qz
     (first|rw [jP]|(simp only [fT,iH];rw [jP])|skip)
     have H':=am H
     clear H
     have ZT:=jy.out
     have ZU:=jk.out
     have ZV:=jz.out
     have ZW:=jl.out
     have ZX:=jd.out
     have ZY:=jx.out
     obtain ⟨zQ,zR,zS,zT,zU,zV⟩:=bQ j6.out
     have ZZ:=jD.out
     have Y0:=jm.out
     have Y1:=jE.out
     have Y2:=jn.out
     obtain ⟨zW,zX,zY,zZ,J0,J1⟩:=bQ ja.out
     go_wp2
     go_meet
     case rel=>exact ⟨_,((jM == 0)),sd_,H',⟨by first|omega|exact Nat.le_refl _⟩,⟨nU (Kd.bT (Kd.dH (p:=⟨j4,2,none⟩) (Kd.dH (p:=⟨j4,1,none⟩) (Kd.dH (p:=⟨j4,0,none⟩) (Kd.bT jI.out (fun k_ hk=>(⟨hk,hk.2⟩:_∧k_≠j4))) (fun _ hk=>hk.2) (.int .i64 jM)) (fun _ hk=>hk.2) (.int .i64 jt)) (fun _ hk=>hk.2) (.slice jq jf.length jr)) (fun _ hk=>⟨hk.1.1.1.1.1,⟨hk.1.1.2,⟨hk.1.1.1.1.2.1,⟨hk.1.1.1.1.2.2,⟨hk.1.1.1.2,hk.1.2⟩⟩⟩⟩⟩))⟩,⟨nU (Kd.bT (Kd.dH (p:=⟨j4,2,none⟩) (Kd.dH (p:=⟨j4,1,none⟩) (Kd.dH (p:=⟨j4,0,none⟩) (Kd.bT jO.out (fun k_ hk=>(⟨hk,hk.2⟩:_∧k_≠j4))) (fun _ hk=>hk.2) (.int .i64 jM)) (fun _ hk=>hk.2) (.int .i64 jt)) (fun _ hk=>hk.2) (.slice jq jf.length jr)) (fun _ hk=>⟨hk.1.1.1,⟨hk.1.1.2.1,⟨hk.1.1.2.2.1,⟨hk.1.1.2.2.2.1,⟨hk.1.1.2.2.2.2,hk.1.2⟩⟩⟩⟩⟩))⟩,⟨(aZ (aZ (aZ j7.out jm.out _) jm.out _) jm.out _)⟩,⟨(aZ (aZ (aZ jb.out jn.out _) jn.out _) jn.out _)⟩,⟨(aZ (aZ (aZ j6.out jd.out _) jd.out _) jd.out _)⟩,⟨(aO (aO (aO ja.out 0 _ rfl) 1 _ rfl) 2 _ rfl)⟩,⟨kX⟩⟩
    rw [if_neg qz] at H
    have jP:(jJ == 0)=false:=beq_eq_false_iff_ne.mpr qz
    have qW:(jJ != 0)=true:=bne_iff_ne.mpr qz
    (first|rw [jP]|(simp only [fT,iH];rw [jP])|skip)
    have H':=am H
    clear H
    have Y3:=jy.out
    have Y4:=jk.out
    have Y5:=jz.out
    have Y6:=jl.out
    have Y7:=jd.out
    have Y8:=jx.out
    obtain ⟨J2,J3,J4,J5,J6,J7⟩:=bQ j6.out
    go_wp2
    go_meet
    case rel=>exact ⟨_,(false),sd_,H',⟨by first|omega|exact Nat.le_refl _⟩,⟨nU (Kd.bT (Kd.dH (p:=⟨j4,2,none⟩) (Kd.dH (p:=⟨j4,1,none⟩) (Kd.dH (p:=⟨j4,0,none⟩) (Kd.bT jI.out (fun k_ hk=>(⟨hk,hk.2⟩:_∧k_≠j4))) (fun _ hk=>hk.2) (.int .i64 jM)) (fun _ hk=>hk.2) (.int .i64 jt)) (fun _ hk=>hk.2) (.slice jq jf.length jr)) (fun _ hk=>⟨hk.1.1.1.1.1,⟨hk.1.1.2,⟨hk.1.1.1.1.2.1,⟨hk.1.1.1.1.2.2,⟨hk.1.1.1.2,hk.1.2⟩⟩⟩⟩⟩))⟩,⟨nU (Kd.bT (Kd.dH (p:=⟨j4,2,none⟩) (Kd.dH (p:=⟨j4,1,none⟩) (Kd.dH (p:=⟨j4,0,none⟩) (Kd.bT jO.out (fun k_ hk=>(⟨hk,hk.2⟩:_∧k_≠j4))) (fun _ hk=>hk.2) (.int .i64 jM)) (fun _ hk=>hk.2) (.int .i64 jt)) (fun _ hk=>hk.2) (.slice jq jf.length jr)) (fun _ hk=>⟨hk.1.1.1,⟨hk.1.1.2.1,⟨hk.1.1.2.2.1,⟨hk.1.1.2.2.2.1,⟨hk.1.1.2.2.2.2,hk.1.2⟩⟩⟩⟩⟩))⟩,⟨(aZ (aZ (aZ j7.out jm.out _) jm.out _) jm.out _)⟩,⟨(aZ (aZ (aZ jb.out jn.out _) jn.out _) jn.out _)⟩,⟨(aZ (aZ (aZ j6.out jd.out _) jd.out _) jd.out _)⟩,⟨(aO (aO (aO ja.out 0 _ rfl) 1 _ rfl) 2 _ rfl)⟩,⟨kX⟩⟩
   case rest=>
    clear qu
    try clear c2
    try clear qJ
    try clear qK
    try clear Zu
    try clear qO
    try clear qP
    try clear qQ
    try clear qR
    try clear qS
    try clear qT
    try clear jS
    try clear jT
    try clear jU
    try clear q2
    try clear q3
    try clear q4
    try clear q8
    try clear q9
    try clear qa
    try clear qk
    try clear ql
    try clear qm
    try clear jV
    try clear jW
    try clear jX
    try clear q5
    try clear q6
    try clear q7
    try clear qb
    try clear qc
    try clear qd
    try clear qn
    try clear qo
    try clear qp
    try clear jA
    try clear jB
    try clear jC
    try clear js
    try clear ju
    try clear jv
    try clear jY
    try clear qe
    try clear jZ
    try clear qf
    obtain ⟨kq,jN,rfl,HA,HJ14,jo,jp,j7,jb,j6,ja,HB⟩:=hcut
    cases kq with
    |zero=>exact absurd HA.out (by simp [aQ.j0])
    |succ qX=>
     have H:=HA.out
     clear HA
     simp only [aQ.j0] at H
     by_cases J8:jN=true
     ·subst J8
      rw [if_pos rfl] at H
      obtain ⟨⟨jQ,qY⟩,qZ,H⟩:=bsm H
      (try dsimp only at H)
      have Y9:=am qZ
      clear qZ
      obtain ⟨Zz,z0,H⟩:=bsm H
      (try dsimp only at H)
      have Ya:=am z0
      clear z0
      by_cases J9:Zz=true
      ·subst J9
       rw [if_pos rfl] at H
       obtain ⟨⟨qA,qB,qC⟩,z1,H⟩:=bsm H
       (try dsimp only at H)
       have YS:=am z1
       clear z1
       simp only [Option.some.injEq,Prod.mk.injEq] at H
       obtain ⟨rfl,rfl,rfl⟩:=H
       have Yb:=jF.out
       have Yc:=jG.out
       have Yd:=jk.out
       have Ye:=jy.out
       have Yf:=jm.out
       have Yg:=jD.out
       obtain ⟨Ja,Jb,Jc,Jd,Je,Jf⟩:=bQ j7.out
       have Yh:=jz.out
       have Yi:=jl.out
       have Yj:=jd.out
       have Yk:=jx.out
       obtain ⟨Jg,Jh,Ji,Jj,Jk,Jl⟩:=bQ j6.out
       have Yl:=jE.out
       have Ym:=jn.out
       obtain ⟨Jm,Jn,Jo,Jp,Jq,Jr⟩:=bQ ja.out
       go_wp2_with (first|((with_reducible refine aC (f:=58) rfl ?_);refine aP (some 41) rfl rfl Try.func58 (by kernel_rfl) rfl #[.int .i64 jc, .int .i64 jH, .int .i64 jt] rfl bY ?_;(with_reducible refine (aX.calls qX jc jH jt jQ qY _ Y9.out).mono ?_);rintro e w' ⟨rfl,⟨nd,rfl⟩⟩;refine ⟨_,rfl,?_⟩;(try (rw [kM wc];generalize hq_:World.drewN wc _=wc;replace jo:Aside0 (Kd.N k28 28 wc w.heap.size (fun k_=>(w.heap.size≤k_)∧some k_≠(.slice jq jf.length jr:Value).ownBlock∧k_≠j9∧k_≠j5∧k_≠j3∧k_≠j4) (.slice jh jw.length ji) jw):=⟨by rw [← hq_];exact (aN_ jo.out)⟩;replace jp:Aside0 (Kd.N k28 28 wc w.heap.size (fun k_=>(w.heap.size≤k_)∧some k_≠(.slice jh jw.length ji:Value).ownBlock∧k_≠j9∧k_≠j5∧k_≠j3∧k_≠j4) (.slice jq jf.length jr) jf):=⟨by rw [← hq_];exact (aN_ jp.out)⟩;replace j7:Aside0 (wc.heap[j9]?=some (.cells #[.int .i64 jc, .int .i64 jg, .slice (some je) j8.length jj] 28 (0,0))):=⟨by rw [← hq_];exact (aG_ j7.out)⟩;replace jb:Aside0 (wc.heap[j5]?=some (.cells #[.int .i64 0, .int .i64 0, .slice none 0 0] 28 (0,0))):=⟨by rw [← hq_];exact (aG_ jb.out)⟩;replace j6:Aside0 (wc.heap[j3]?=some (.cells #[.int .i64 jJ, .int .i64 jH, .slice jh jw.length ji] 28 (0,0))):=⟨by rw [← hq_];exact (aG_ j6.out)⟩;replace ja:Aside0 (wc.heap[j4]?=some (.cells #[.int .i64 jM, .int .i64 jt, .slice jq jf.length jr] 28 (0,0))):=⟨by rw [← hq_];exact (aG_ ja.out)⟩;replace HB:Aside0 (Below w.heap.size w wc):=⟨by rw [← hq_];exact kX⟩;clear hq_;obtain ⟨Js,Jt⟩:=iG j7.out;have Ju:wc.cell? ⟨j9,1,none⟩=some (.int .i64 jg):=(aA j7.out 1).trans rfl;have Jv:=aD j7.out 1;have Jw:wc.cell? ⟨j9,2,none⟩=some (.slice (some je) j8.length jj):=(aA j7.out 2).trans rfl;have Jx:=aD j7.out 2;obtain ⟨Jy,Jz⟩:=iG jb.out;have JA:wc.cell? ⟨j5,1,none⟩=some (.int .i64 0):=(aA jb.out 1).trans rfl;have JB:=aD jb.out 1;have JC:wc.cell? ⟨j5,2,none⟩=some (.slice none 0 0):=(aA jb.out 2).trans rfl;have JD:=aD jb.out 2;obtain ⟨JE,JF⟩:=iG j6.out;have JG:wc.cell? ⟨j3,1,none⟩=some (.int .i64 jH):=(aA j6.out 1).trans rfl;have JH:=aD j6.out 1;have JI:wc.cell? ⟨j3,2,none⟩=some (.slice jh jw.length ji):=(aA j6.out 2).trans rfl;have JJ:=aD j6.out 2;obtain ⟨JK,JL⟩:=iG ja.out;have JM:wc.cell? ⟨j4,1,none⟩=some (.int .i64 jt):=(aA ja.out 1).trans rfl;have JN:=aD ja.out 1;have JO:wc.cell? ⟨j4,2,none⟩=some (.slice jq jf.length jr):=(aA ja.out 2).trans rfl;have JP:=aD ja.out 2)))|((with_reducible refine aC (f:=59) rfl ?_);refine aP (some 45) rfl rfl Try.func59 (by kernel_rfl) rfl #[.int .i64 jQ, .int .i64 0, .int .i64 99999] rfl bY ?_;(with_reducible refine (bI.calls jQ 0 99999 true _ Ya.out).mono ?_);rintro e w' ⟨rfl,⟨nd,rfl⟩⟩;refine ⟨_,rfl,?_⟩;(try (rw [kM wc];generalize hq_:World.drewN wc _=wc;replace jo:Aside0 (Kd.N k28 28 wc w.heap.size (fun k_=>(w.heap.size≤k_)∧some k_≠(.slice jq jf.length jr:Value).ownBlock∧k_≠j9∧k_≠j5∧k_≠j3∧k_≠j4) (.slice jh jw.length ji) jw):=⟨by rw [← hq_];exact (aN_ jo.out)⟩;replace jp:Aside0 (Kd.N k28 28 wc w.heap.size (fun k_=>(w.heap.size≤k_)∧some k_≠(.slice jh jw.length ji:Value).ownBlock∧k_≠j9∧k_≠j5∧k_≠j3∧k_≠j4) (.slice jq jf.length jr) jf):=⟨by rw [← hq_];exact (aN_ jp.out)⟩;replace j7:Aside0 (wc.heap[j9]?=some (.cells #[.int .i64 jc, .int .i64 jg, .slice (some je) j8.length jj] 28 (0,0))):=⟨by rw [← hq_];exact (aG_ j7.out)⟩;replace jb:Aside0 (wc.heap[j5]?=some (.cells #[.int .i64 0, .int .i64 0, .slice none 0 0] 28 (0,0))):=⟨by rw [← hq_];exact (aG_ jb.out)⟩;replace j6:Aside0 (wc.heap[j3]?=some (.cells #[.int .i64 jJ, .int .i64 jH, .slice jh jw.length ji] 28 (0,0))):=⟨by rw [← hq_];exact (aG_ j6.out)⟩;replace ja:Aside0 (wc.heap[j4]?=some (.cells #[.int .i64 jM, .int .i64 jt, .slice jq jf.length jr] 28 (0,0))):=⟨by rw [← hq_];exact (aG_ ja.out)⟩;replace HB:Aside0 (Below w.heap.size w wc):=⟨by rw [← hq_];exact kX⟩;clear hq_;obtain ⟨JQ,JR⟩:=iG j7.out;have JS:wc.cell? ⟨j9,1,none⟩=some (.int .i64 jg):=(aA j7.out 1).trans rfl;have JT:=aD j7.out 1;have JU:wc.cell? ⟨j9,2,none⟩=some (.slice (some je) j8.length jj):=(aA j7.out 2).trans rfl;have JV:=aD j7.out 2;obtain ⟨JW,JX⟩:=iG jb.out;have JY:wc.cell? ⟨j5,1,none⟩=some (.int .i64 0):=(aA jb.out 1).trans rfl;have JZ:=aD jb.out 1;have Q0:wc.cell? ⟨j5,2,none⟩=some (.slice none 0 0):=(aA jb.out 2).trans rfl;have Q1:=aD jb.out 2;obtain ⟨Q2,Q3⟩:=iG j6.out;have Q4:wc.cell? ⟨j3,1,none⟩=some (.int .i64 jH):=(aA j6.out 1).trans rfl;have Q5:=aD j6.out 1;have Q6:wc.cell? ⟨j3,2,none⟩=some (.slice jh jw.length ji):=(aA j6.out 2).trans rfl;have Q7:=aD j6.out 2;obtain ⟨Q8,Q9⟩:=iG ja.out;have Qa:wc.cell? ⟨j4,1,none⟩=some (.int .i64 jt):=(aA ja.out 1).trans rfl;have Qb:=aD ja.out 1;have Qc:wc.cell? ⟨j4,2,none⟩=some (.slice jq jf.length jr):=(aA ja.out 2).trans rfl;have Qd:=aD ja.out 2)))|((with_reducible refine aC (f:=57) rfl ?_);refine aP (some 47) rfl rfl Try.func57 (by kernel_rfl) rfl #[.int .i64 0, .int .i64 jQ] rfl bY ?_;(with_reducible refine (gB.calls 0 jQ qA qB qC _ YS.out).mono ?_);rintro e U5 ⟨YT,rfl,ho0,hb⟩;refine ⟨_,rfl,?_⟩;have qr:=am (Kd.iI (Kd.bT (ok':=fun k_=>(w.heap.size≤k_)∧some k_≠(.slice jh jw.length ji:Value).ownBlock∧some k_≠(.slice jq jf.length jr:Value).ownBlock∧k_≠j9∧k_≠j5∧k_≠j3∧k_≠j4) (Kd.R_N (Kd.kL ho0)) (fun k_ hk_=>⟨(Nat.le_trans (aJ kX) hk_.2.1),(Kd.fresh' (Kd.yH (aN_ jo.out)) k_ hk_.2.1),(Kd.fresh' (Kd.yH (aN_ jp.out)) k_ hk_.2.1),(Kd.eB (g:=j9) (o:= .cells #[.int .i64 jc, .int .i64 jg, .slice (some je) j8.length jj] 28 (0,0)) (aG_ j7.out) k_ hk_.2.1),(Kd.eB (g:=j5) (o:= .cells #[.int .i64 0, .int .i64 0, .slice none 0 0] 28 (0,0)) (aG_ jb.out) k_ hk_.2.1),(Kd.eB (g:=j3) (o:= .cells #[.int .i64 jJ, .int .i64 jH, .slice jh jw.length ji] 28 (0,0)) (aG_ j6.out) k_ hk_.2.1),(Kd.eB (g:=j4) (o:= .cells #[.int .i64 jM, .int .i64 jt, .slice jq jf.length jr] 28 (0,0)) (aG_ ja.out) k_ hk_.2.1)⟩)) (aJ kX));replace jo:=am (Kd.iL (aN_ jo.out) (by first|exact Kd.fE ho0|exact Kd.fE (Kd.R_N ho0)) hb);replace jp:=am (Kd.iL (aN_ jp.out) (by first|exact Kd.fE ho0|exact Kd.fE (Kd.R_N ho0)) hb);replace j7:=am (aB (g:=j9) (o:= .cells #[.int .i64 jc, .int .i64 jg, .slice (some je) j8.length jj] 28 (0,0)) (aG_ j7.out) hb);replace jb:=am (aB (g:=j5) (o:= .cells #[.int .i64 0, .int .i64 0, .slice none 0 0] 28 (0,0)) (aG_ jb.out) hb);replace j6:=am (aB (g:=j3) (o:= .cells #[.int .i64 jJ, .int .i64 jH, .slice jh jw.length ji] 28 (0,0)) (aG_ j6.out) hb);replace ja:=am (aB (g:=j4) (o:= .cells #[.int .i64 jM, .int .i64 jt, .slice jq jf.length jr] 28 (0,0)) (aG_ ja.out) hb);replace HB:=am (aF kX hb);(try clear hb);(try clear ho0);obtain ⟨Qe,Qf,Qg,Qh,Qi,Qj⟩:=bQ jb.out;obtain ⟨z2,z3,ZA⟩:=Kd.gT qr.out;subst ZA))
       refine bodyPost_ret (results_cell_row rfl _ _ j5 28 #[.int .i64 qA, .int .i64 qB, .slice z2 qC.length z3] (0,0) _ rfl (aO (aO (aO jb.out 0 _ rfl) 1 _ rfl) 2 _ rfl) Try.underlying28 rfl (by kernel_rfl)) rfl ?_
       exact ⟨_,nQ,nU (Kd.bT (Kd.dH (p:=⟨j5,2,none⟩) (Kd.dH (p:=⟨j5,1,none⟩) (Kd.dH (p:=⟨j5,0,none⟩) (Kd.bT qr.out (fun k_ hk=>(⟨hk,hk.2.2.2.2.1⟩:_∧k_≠j5))) (fun _ hk=>hk.2) (.int .i64 qA)) (fun _ hk=>hk.2) (.int .i64 qB)) (fun _ hk=>hk.2) (.slice z2 qC.length z3)) (fun _ hk=>hk.1.1)),kX⟩
      replace J9:=Bool.eq_false_iff.mpr J9
      subst J9
      rw [if_neg (show ¬ (false=true) by decide)] at H
      obtain ⟨⟨qD,qE,qF⟩,z4,H⟩:=bsm H
      (try dsimp only at H)
      have YU:=am z4
      clear z4
      simp only [Option.some.injEq,Prod.mk.injEq] at H
      obtain ⟨rfl,rfl,rfl⟩:=H
      have Yn:=jF.out
      have Yo:=jG.out
      have Yp:=jk.out
      have Yq:=jy.out
      have Yr:=jm.out
      have Ys:=jD.out
      obtain ⟨Qk,Ql,Qm,Qn,Qo,Qp⟩:=bQ j7.out
      have Yt:=jz.out
      have Yu:=jl.out
      have Yv:=jd.out
      have Yw:=jx.out
      obtain ⟨Qq,Qr,Qs,Qt,Qu,Qv⟩:=bQ j6.out
      have Yx:=jE.out
      have Yy:=jn.out
      obtain ⟨Qw,Qx,Qy,Qz,QA,QB⟩:=bQ ja.out
      go_wp2_with (first|((with_reducible refine aC (f:=58) rfl ?_);refine aP (some 41) rfl rfl Try.func58 (by kernel_rfl) rfl #[.int .i64 jc, .int .i64 jH, .int .i64 jt] rfl bY ?_;(with_reducible refine (aX.calls qX jc jH jt jQ qY _ Y9.out).mono ?_);rintro e w' ⟨rfl,⟨nd,rfl⟩⟩;refine ⟨_,rfl,?_⟩;(try (rw [kM wc];generalize hq_:World.drewN wc _=wc;replace jo:Aside0 (Kd.N k28 28 wc w.heap.size (fun k_=>(w.heap.size≤k_)∧some k_≠(.slice jq jf.length jr:Value).ownBlock∧k_≠j9∧k_≠j5∧k_≠j3∧k_≠j4) (.slice jh jw.length ji) jw):=⟨by rw [← hq_];exact (aN_ jo.out)⟩;replace jp:Aside0 (Kd.N k28 28 wc w.heap.size (fun k_=>(w.heap.size≤k_)∧some k_≠(.slice jh jw.length ji:Value).ownBlock∧k_≠j9∧k_≠j5∧k_≠j3∧k_≠j4) (.slice jq jf.length jr) jf):=⟨by rw [← hq_];exact (aN_ jp.out)⟩;replace j7:Aside0 (wc.heap[j9]?=some (.cells #[.int .i64 jc, .int .i64 jg, .slice (some je) j8.length jj] 28 (0,0))):=⟨by rw [← hq_];exact (aG_ j7.out)⟩;replace jb:Aside0 (wc.heap[j5]?=some (.cells #[.int .i64 0, .int .i64 0, .slice none 0 0] 28 (0,0))):=⟨by rw [← hq_];exact (aG_ jb.out)⟩;replace j6:Aside0 (wc.heap[j3]?=some (.cells #[.int .i64 jJ, .int .i64 jH, .slice jh jw.length ji] 28 (0,0))):=⟨by rw [← hq_];exact (aG_ j6.out)⟩;replace ja:Aside0 (wc.heap[j4]?=some (.cells #[.int .i64 jM, .int .i64 jt, .slice jq jf.length jr] 28 (0,0))):=⟨by rw [← hq_];exact (aG_ ja.out)⟩;replace HB:Aside0 (Below w.heap.size w wc):=⟨by rw [← hq_];exact kX⟩;clear hq_;obtain ⟨QC,QD⟩:=iG j7.out;have QE:wc.cell? ⟨j9,1,none⟩=some (.int .i64 jg):=(aA j7.out 1).trans rfl;have QF:=aD j7.out 1;have QG:wc.cell? ⟨j9,2,none⟩=some (.slice (some je) j8.length jj):=(aA j7.out 2).trans rfl;have QH:=aD j7.out 2;obtain ⟨z5,z6⟩:=iG jb.out;have z7:wc.cell? ⟨j5,1,none⟩=some (.int .i64 0):=(aA jb.out 1).trans rfl;have z8:=aD jb.out 1;have z9:wc.cell? ⟨j5,2,none⟩=some (.slice none 0 0):=(aA jb.out 2).trans rfl;have za:=aD jb.out 2;obtain ⟨zb,zc⟩:=iG j6.out;have zd:wc.cell? ⟨j3,1,none⟩=some (.int .i64 jH):=(aA j6.out 1).trans rfl;have ze:=aD j6.out 1;have zf:wc.cell? ⟨j3,2,none⟩=some (.slice jh jw.length ji):=(aA j6.out 2).trans rfl;have zg:=aD j6.out 2;obtain ⟨zh,zi⟩:=iG ja.out;have zj:wc.cell? ⟨j4,1,none⟩=some (.int .i64 jt):=(aA ja.out 1).trans rfl;have zk:=aD ja.out 1;have zl:wc.cell? ⟨j4,2,none⟩=some (.slice jq jf.length jr):=(aA ja.out 2).trans rfl;have zm:=aD ja.out 2)))|((with_reducible refine aC (f:=59) rfl ?_);refine aP (some 45) rfl rfl Try.func59 (by kernel_rfl) rfl #[.int .i64 jQ, .int .i64 0, .int .i64 99999] rfl bY ?_;(with_reducible refine (bI.calls jQ 0 99999 false _ Ya.out).mono ?_);rintro e w' ⟨rfl,⟨nd,rfl⟩⟩;refine ⟨_,rfl,?_⟩;(try (rw [kM wc];generalize hq_:World.drewN wc _=wc;replace jo:Aside0 (Kd.N k28 28 wc w.heap.size (fun k_=>(w.heap.size≤k_)∧some k_≠(.slice jq jf.length jr:Value).ownBlock∧k_≠j9∧k_≠j5∧k_≠j3∧k_≠j4) (.slice jh jw.length ji) jw):=⟨by rw [← hq_];exact (aN_ jo.out)⟩;replace jp:Aside0 (Kd.N k28 28 wc w.heap.size (fun k_=>(w.heap.size≤k_)∧some k_≠(.slice jh jw.length ji:Value).ownBlock∧k_≠j9∧k_≠j5∧k_≠j3∧k_≠j4) (.slice jq jf.length jr) jf):=⟨by rw [← hq_];exact (aN_ jp.out)⟩;replace j7:Aside0 (wc.heap[j9]?=some (.cells #[.int .i64 jc, .int .i64 jg, .slice (some je) j8.length jj] 28 (0,0))):=⟨by rw [← hq_];exact (aG_ j7.out)⟩;replace jb:Aside0 (wc.heap[j5]?=some (.cells #[.int .i64 0, .int .i64 0, .slice none 0 0] 28 (0,0))):=⟨by rw [← hq_];exact (aG_ jb.out)⟩;replace j6:Aside0 (wc.heap[j3]?=some (.cells #[.int .i64 jJ, .int .i64 jH, .slice jh jw.length ji] 28 (0,0))):=⟨by rw [← hq_];exact (aG_ j6.out)⟩;replace ja:Aside0 (wc.heap[j4]?=some (.cells #[.int .i64 jM, .int .i64 jt, .slice jq jf.length jr] 28 (0,0))):=⟨by rw [← hq_];exact (aG_ ja.out)⟩;replace HB:Aside0 (Below w.heap.size w wc):=⟨by rw [← hq_];exact kX⟩;clear hq_;obtain ⟨zn,zo⟩:=iG j7.out;have zp:wc.cell? ⟨j9,1,none⟩=some (.int .i64 jg):=(aA j7.out 1).trans rfl;have zq:=aD j7.out 1;have zr:wc.cell? ⟨j9,2,none⟩=some (.slice (some je) j8.length jj):=(aA j7.out 2).trans rfl;have zs:=aD j7.out 2;obtain ⟨zt,zu⟩:=iG jb.out;have zv:wc.cell? ⟨j5,1,none⟩=some (.int .i64 0):=(aA jb.out 1).trans rfl;have zw:=aD jb.out 1;have zx:wc.cell? ⟨j5,2,none⟩=some (.slice none 0 0):=(aA jb.out 2).trans rfl;have zy:=aD jb.out 2;obtain ⟨zz,zA⟩:=iG j6.out;have zB:wc.cell? ⟨j3,1,none⟩=some (.int .i64 jH):=(aA j6.out 1).trans rfl;have zC:=aD j6.out 1;have zD:wc.cell? ⟨j3,2,none⟩=some (.slice jh jw.length ji):=(aA j6.out 2).trans rfl;have zE:=aD j6.out 2;obtain ⟨zF,zG⟩:=iG ja.out;have zH:wc.cell? ⟨j4,1,none⟩=some (.int .i64 jt):=(aA ja.out 1).trans rfl;have zI:=aD ja.out 1;have zJ:wc.cell? ⟨j4,2,none⟩=some (.slice jq jf.length jr):=(aA ja.out 2).trans rfl;have zK:=aD ja.out 2)))|((with_reducible refine aC (f:=60) rfl ?_);refine aP (some 52) rfl rfl Try.func60 (by kernel_rfl) rfl #[.int .i64 jc, .agg #[.int .i64 jJ, .int .i64 jH, .slice jh jw.length ji], .agg #[.int .i64 jM, .int .i64 jt, .slice jq jf.length jr]] rfl bY ?_;(with_reducible refine (fZ.calls jc jJ jH (fun k_=>((w.heap.size≤k_)∧(some k_≠(.slice jq jf.length jr:Value).ownBlock∧(k_≠j9∧(k_≠j5∧(k_≠j3∧k_≠j4)))))) _ _ jw jM jt (fun k_=>((w.heap.size≤k_)∧(some k_≠(.slice jh jw.length ji:Value).ownBlock∧(k_≠j9∧(k_≠j5∧(k_≠j3∧k_≠j4)))))) _ _ jf qD qE qF _ ?side1 ?side2 YU.out).mono ?_);(case side1=>exact Kd.N_V (jo.out));(case side2=>exact Kd.N_V (jp.out));rintro e U6 ⟨YV,rfl,ho0,hb⟩;refine ⟨_,rfl,?_⟩;replace jo:=am (Kd.iL (aN_ jo.out) (by first|exact Kd.fE ho0|exact Kd.fE (Kd.R_N ho0)) hb);replace jp:=am (Kd.iL (aN_ jp.out) (by first|exact Kd.fE ho0|exact Kd.fE (Kd.R_N ho0)) hb);have qs:=am (Kd.iI (Kd.bT (ok':=fun k_=>(w.heap.size≤k_)∧k_≠j9∧k_≠j5∧k_≠j3∧k_≠j4) ho0 (fun k_ hk_=>⟨Or.elim hk_ (fun hs_=>Or.elim hs_ (fun hs_=>hs_.1) (fun hs_=>hs_.1)) (fun hn_=>(Nat.le_trans (aJ kX) hn_)),Or.elim hk_ (fun hs_=>Or.elim hs_ (fun hs_=>hs_.2.2.1) (fun hs_=>hs_.2.2.1)) (fun hn_=>(Kd.eB (g:=j9) (o:= .cells #[.int .i64 jc, .int .i64 jg, .slice (some je) j8.length jj] 28 (0,0)) (aG_ j7.out) k_ hn_)),Or.elim hk_ (fun hs_=>Or.elim hs_ (fun hs_=>hs_.2.2.2.1) (fun hs_=>hs_.2.2.2.1)) (fun hn_=>(Kd.eB (g:=j5) (o:= .cells #[.int .i64 0, .int .i64 0, .slice none 0 0] 28 (0,0)) (aG_ jb.out) k_ hn_)),Or.elim hk_ (fun hs_=>Or.elim hs_ (fun hs_=>hs_.2.2.2.2.1) (fun hs_=>hs_.2.2.2.2.1)) (fun hn_=>(Kd.eB (g:=j3) (o:= .cells #[.int .i64 jJ, .int .i64 jH, .slice jh jw.length ji] 28 (0,0)) (aG_ j6.out) k_ hn_)),Or.elim hk_ (fun hs_=>Or.elim hs_ (fun hs_=>hs_.2.2.2.2.2) (fun hs_=>hs_.2.2.2.2.2)) (fun hn_=>(Kd.eB (g:=j4) (o:= .cells #[.int .i64 jM, .int .i64 jt, .slice jq jf.length jr] 28 (0,0)) (aG_ ja.out) k_ hn_))⟩)) (aJ kX));replace j7:=am (aB (g:=j9) (o:= .cells #[.int .i64 jc, .int .i64 jg, .slice (some je) j8.length jj] 28 (0,0)) (aG_ j7.out) hb);replace jb:=am (aB (g:=j5) (o:= .cells #[.int .i64 0, .int .i64 0, .slice none 0 0] 28 (0,0)) (aG_ jb.out) hb);replace j6:=am (aB (g:=j3) (o:= .cells #[.int .i64 jJ, .int .i64 jH, .slice jh jw.length ji] 28 (0,0)) (aG_ j6.out) hb);replace ja:=am (aB (g:=j4) (o:= .cells #[.int .i64 jM, .int .i64 jt, .slice jq jf.length jr] 28 (0,0)) (aG_ ja.out) hb);replace HB:=am (aF kX hb);(try clear hb);(try clear ho0);obtain ⟨QI,QJ,QK,QL,QM,QN⟩:=bQ jb.out;obtain ⟨zL,zM,ZB⟩:=Kd.gT qs.out;subst ZB))
      refine bodyPost_ret (results_cell_row rfl _ _ j5 28 #[.int .i64 qD, .int .i64 qE, .slice zL qF.length zM] (0,0) _ rfl (aO (aO (aO jb.out 0 _ rfl) 1 _ rfl) 2 _ rfl) Try.underlying28 rfl (by kernel_rfl)) rfl ?_
      exact ⟨_,nQ,nU (Kd.bT (Kd.dH (p:=⟨j5,2,none⟩) (Kd.dH (p:=⟨j5,1,none⟩) (Kd.dH (p:=⟨j5,0,none⟩) (Kd.bT qs.out (fun k_ hk=>(⟨hk,hk.2.2.1⟩:_∧k_≠j5))) (fun _ hk=>hk.2) (.int .i64 qD)) (fun _ hk=>hk.2) (.int .i64 qE)) (fun _ hk=>hk.2) (.slice zL qF.length zM)) (fun _ hk=>hk.1.1)),kX⟩
     replace J8:=Bool.eq_false_iff.mpr J8
     subst J8
     rw [if_neg (show ¬ (false=true) by decide)] at H
     obtain ⟨⟨qG,qH,qI⟩,zN,H⟩:=bsm H
     (try dsimp only at H)
     have YW:=am zN
     clear zN
     simp only [Option.some.injEq,Prod.mk.injEq] at H
     obtain ⟨rfl,rfl,rfl⟩:=H
     have Yz:=jF.out
     have YA:=jG.out
     have YB:=jk.out
     have YC:=jy.out
     have YD:=jm.out
     have YE:=jD.out
     obtain ⟨QO,QP,QQ,QR,QS,QT⟩:=bQ j7.out
     have YF:=jz.out
     have YG:=jl.out
     have YH:=jd.out
     have YI:=jx.out
     obtain ⟨QU,QV,QW,QX,QY,QZ⟩:=bQ j6.out
     have YJ:=jE.out
     have YK:=jn.out
     obtain ⟨Z0,Z1,Z2,Z3,Z4,Z5⟩:=bQ ja.out
     go_wp2_with (first|((with_reducible refine aC (f:=60) rfl ?_);refine aP (some 52) rfl rfl Try.func60 (by kernel_rfl) rfl #[.int .i64 jc, .agg #[.int .i64 jJ, .int .i64 jH, .slice jh jw.length ji], .agg #[.int .i64 jM, .int .i64 jt, .slice jq jf.length jr]] rfl bY ?_;(with_reducible refine (fZ.calls jc jJ jH (fun k_=>((w.heap.size≤k_)∧(some k_≠(.slice jq jf.length jr:Value).ownBlock∧(k_≠j9∧(k_≠j5∧(k_≠j3∧k_≠j4)))))) _ _ jw jM jt (fun k_=>((w.heap.size≤k_)∧(some k_≠(.slice jh jw.length ji:Value).ownBlock∧(k_≠j9∧(k_≠j5∧(k_≠j3∧k_≠j4)))))) _ _ jf qG qH qI _ ?side1 ?side2 YW.out).mono ?_);(case side1=>exact Kd.N_V (jo.out));(case side2=>exact Kd.N_V (jp.out));rintro e U7 ⟨YX,rfl,ho0,hb⟩;refine ⟨_,rfl,?_⟩;replace jo:=am (Kd.iL (aN_ jo.out) (by first|exact Kd.fE ho0|exact Kd.fE (Kd.R_N ho0)) hb);replace jp:=am (Kd.iL (aN_ jp.out) (by first|exact Kd.fE ho0|exact Kd.fE (Kd.R_N ho0)) hb);have qt:=am (Kd.iI (Kd.bT (ok':=fun k_=>(w.heap.size≤k_)∧k_≠j9∧k_≠j5∧k_≠j3∧k_≠j4) ho0 (fun k_ hk_=>⟨Or.elim hk_ (fun hs_=>Or.elim hs_ (fun hs_=>hs_.1) (fun hs_=>hs_.1)) (fun hn_=>(Nat.le_trans (aJ kX) hn_)),Or.elim hk_ (fun hs_=>Or.elim hs_ (fun hs_=>hs_.2.2.1) (fun hs_=>hs_.2.2.1)) (fun hn_=>(Kd.eB (g:=j9) (o:= .cells #[.int .i64 jc, .int .i64 jg, .slice (some je) j8.length jj] 28 (0,0)) (aG_ j7.out) k_ hn_)),Or.elim hk_ (fun hs_=>Or.elim hs_ (fun hs_=>hs_.2.2.2.1) (fun hs_=>hs_.2.2.2.1)) (fun hn_=>(Kd.eB (g:=j5) (o:= .cells #[.int .i64 0, .int .i64 0, .slice none 0 0] 28 (0,0)) (aG_ jb.out) k_ hn_)),Or.elim hk_ (fun hs_=>Or.elim hs_ (fun hs_=>hs_.2.2.2.2.1) (fun hs_=>hs_.2.2.2.2.1)) (fun hn_=>(Kd.eB (g:=j3) (o:= .cells #[.int .i64 jJ, .int .i64 jH, .slice jh jw.length ji] 28 (0,0)) (aG_ j6.out) k_ hn_)),Or.elim hk_ (fun hs_=>Or.elim hs_ (fun hs_=>hs_.2.2.2.2.2) (fun hs_=>hs_.2.2.2.2.2)) (fun hn_=>(Kd.eB (g:=j4) (o:= .cells #[.int .i64 jM, .int .i64 jt, .slice jq jf.length jr] 28 (0,0)) (aG_ ja.out) k_ hn_))⟩)) (aJ kX));replace j7:=am (aB (g:=j9) (o:= .cells #[.int .i64 jc, .int .i64 jg, .slice (some je) j8.length jj] 28 (0,0)) (aG_ j7.out) hb);replace jb:=am (aB (g:=j5) (o:= .cells #[.int .i64 0, .int .i64 0, .slice none 0 0] 28 (0,0)) (aG_ jb.out) hb);replace j6:=am (aB (g:=j3) (o:= .cells #[.int .i64 jJ, .int .i64 jH, .slice jh jw.length ji] 28 (0,0)) (aG_ j6.out) hb);replace ja:=am (aB (g:=j4) (o:= .cells #[.int .i64 jM, .int .i64 jt, .slice jq jf.length jr] 28 (0,0)) (aG_ ja.out) hb);replace HB:=am (aF kX hb);(try clear hb);(try clear ho0);obtain ⟨Z6,Z7,Z8,Z9,Za,Zb⟩:=bQ jb.out;obtain ⟨zO,zP,ZC⟩:=Kd.gT qt.out;subst ZC))
     refine bodyPost_ret (results_cell_row rfl _ _ j5 28 #[.int .i64 qG, .int .i64 qH, .slice zO qI.length zP] (0,0) _ rfl (aO (aO (aO jb.out 0 _ rfl) 1 _ rfl) 2 _ rfl) Try.underlying28 rfl (by kernel_rfl)) rfl ?_
     exact ⟨_,nQ,nU (Kd.bT (Kd.dH (p:=⟨j5,2,none⟩) (Kd.dH (p:=⟨j5,1,none⟩) (Kd.dH (p:=⟨j5,0,none⟩) (Kd.bT qt.out (fun k_ hk=>(⟨hk,hk.2.2.1⟩:_∧k_≠j5))) (fun _ hk=>hk.2) (.int .i64 qG)) (fun _ hk=>hk.2) (.int .i64 qH)) (fun _ hk=>hk.2) (.slice zO qI.length zP)) (fun _ hk=>hk.1.1)),kX⟩
  rw [if_neg qR] at H
  exact absurd H (by simp)
 rw [if_neg qO] at H
 exact absurd H (by simp)
theorem bJ.mono:∀ a0 a1 a2 k,LeO (bJ.f k a0 a1 a2) (bJ.f (k + 1) a0 a1 a2):=by
 intro a0 a1 a2 k
 unfold bJ.f
 have m0:=@bF.mono
 have m1:=@aQ.mono
 exact mo_
theorem bJ.calls (k:Nat) (j7:Int) (j8:Int) (j9:Option Addr) (ja:Nat) (j4:List (S28)) (r1:Int) (r2:Int) (r3:List (S28)) (r4:Bool) (w:World) (hr0_2:Kd.C k28 w j9 j4.length j4) (hc0_2:j4.length≤ja) (h:bJ.f k j7 j8 j4=some (r1,r2,r3,r4)):
  Calls Try.prog 7 #[.agg #[.int .i64 j7, .int .i64 j8, .slice j9 j4.length ja]] w fun e w'=>∃ v2_:Value,e= .returned (.tuple #[.agg #[.int .i64 r1, .int .i64 r2,v2_], .bool r4])∧Kd.N k28 28 w' w.heap.size (fun k_=>(w.heap.size≤k_)) v2_ r3∧Below w.heap.size w w':=by
 have hu28:=Try.underlying28
 have jb:=am hr0_2
 have jc:=am hc0_2
 clear hr0_2 hc0_2
 have HB:=am (Below.refl w.heap.size w)
 unfold bJ.f at h
 have H:=h
 clear h
 obtain ⟨jL,A2,H⟩:=bsa H
 (try dsimp only at H)
 have HH_:=am H
 clear H
 go_enter Try.func7,Try.ntmps7
 go_upto_region 1 with (first|((with_reducible refine aV (N:=1) rfl ?_);refine aY rfl (N:=1) rfl (cs:=#[.int .i64 j7, .int .i64 j8, .slice j9 j4.length ja]) (t:=28) rn_ ?_;intro jd hg w5 hbox hb;have j3:=am (hbox);have jM:=am ((by rw [hg];exact (aJ dO):w.heap.size≤jd));have GE23:=am ((by rw [hg];exact (aJ dO):w.heap.size≤jd));replace HB:=am (aF dO hb);clear hb hbox hg)|((with_reducible refine aV (N:=2) rfl ?_);refine aY rfl (N:=2) rfl (cs:=#[.int .i64 0, .int .i64 0, .slice none 0 0]) (t:=28) rn_ ?_;intro j5 hg w6 hbox hb;have j6:=am (hbox);have jN:=am ((by rw [hg];exact (aJ iR):w.heap.size≤j5));have GE24:=am ((by rw [hg];exact (aJ iR):w.heap.size≤j5));replace HB:=am (aF iR hb);have je:=am ((by rw [hg];exact Nat.ne_of_lt (pK j3.out):jd≠j5));have jf:=am ((by rw [hg];exact Nat.ne_of_gt (pK j3.out):j5≠jd));replace j3:=bbP j3 hb;clear hb hbox hg;have jO:=je.out;have jP:=jf.out;obtain ⟨jB,jC,jD,jE,jF,jG⟩:=bQ j3.out))
 have H:=HH_.out
 clear HH_
 by_cases c3:jL=true
 ·subst c3
  rw [if_pos rfl] at H
  obtain ⟨⟨jH,jI,jJ⟩,A4,H⟩:=bsa H
  (try dsimp only at H)
  simp only [Option.some.injEq,Prod.mk.injEq] at H
  obtain ⟨rfl,rfl,rfl,rfl⟩:=H
  go_wp2_with (first|((with_reducible refine aC (f:=28) rfl ?_);refine aP (some 5) rfl rfl Try.func28 (by kernel_rfl) rfl #[.agg #[.int .i64 j7, .int .i64 j8, .slice j9 j4.length ja]] rfl bY ?_;(with_reducible refine (bF.calls k j7 j8 _ _ j4 true _ (aC_ (Kd.bA jb.out HB.out)) jc.out A2.out).mono ?_);rintro e w9 ⟨rfl,hb⟩;refine ⟨_,rfl,?_⟩;replace j3:=bbP j3 hb;replace j6:=bbP j6 hb;replace HB:=am (aF oL hb);(try clear hb);obtain ⟨jj,jk,jl,jm,jn,jo⟩:=bQ j3.out)|((with_reducible refine aC (f:=29) rfl ?_);refine aP (some 9) rfl rfl Try.func29 (by kernel_rfl) rfl #[.agg #[.int .i64 j7, .int .i64 j8, .slice j9 j4.length ja]] rfl bY ?_;(with_reducible refine (aQ.calls k j7 j8 _ _ j4 jH jI jJ _ (aC_ (Kd.bA jb.out HB.out)) jc.out A4.out).mono ?_);rintro e jQ ⟨jR,rfl,ho0,hb⟩;refine ⟨_,rfl,?_⟩;have jg:=am (Kd.iI (Kd.bT (ok':=fun k_=>(w.heap.size≤k_)∧k_≠jd∧k_≠j5) ho0 (fun k_ hk_=>⟨(Nat.le_trans (aJ oL) hk_),(xC j3.out k_ hk_),(xC j6.out k_ hk_)⟩)) (aJ oL));replace j3:=bbP j3 hb;replace j6:=bbP j6 hb;replace HB:=am (aF oL hb);(try clear hb);(try clear ho0);obtain ⟨jp,jq,jr,js,jt,ju⟩:=bQ j6.out;obtain ⟨jh,ji,jK⟩:=Kd.gT jg.out;subst jK))
  refine bodyPost_ret (kQ rfl _ _ j5 28 #[.int .i64 jH, .int .i64 jI, .slice jh jJ.length ji] (0,0) _ rfl (aO (aO (aO j6.out 0 _ rfl) 1 _ rfl) 2 _ rfl) Try.underlying28 rfl (by kernel_rfl)) rfl ?_
  exact ⟨_,nQ,nU (Kd.bT (Kd.dH (p:=⟨j5,2,none⟩) (Kd.dH (p:=⟨j5,1,none⟩) (Kd.dH (p:=⟨j5,0,none⟩) (Kd.bT jg.out (fun k_ hk=>(⟨hk,hk.2.2⟩:_∧k_≠j5))) (fun _ hk=>hk.2) (.int .i64 jH)) (fun _ hk=>hk.2) (.int .i64 jI)) (fun _ hk=>hk.2) (.slice jh jJ.length ji)) (fun _ hk=>hk.1.1)),oL⟩
 replace c3:=Bool.eq_false_iff.mpr c3
 subst c3
 rw [if_neg (show ¬ (false=true) by decide)] at H
 simp only [Option.some.injEq,Prod.mk.injEq] at H
 obtain ⟨rfl,rfl,rfl,rfl⟩:=H
 go_wp2_with (first|((with_reducible refine aC (f:=28) rfl ?_);refine aP (some 5) rfl rfl Try.func28 (by kernel_rfl) rfl #[.agg #[.int .i64 j7, .int .i64 j8, .slice j9 j4.length ja]] rfl bY ?_;(with_reducible refine (bF.calls k j7 j8 _ _ j4 false _ (aC_ (Kd.bA jb.out HB.out)) jc.out A2.out).mono ?_);rintro e jS ⟨rfl,hb⟩;refine ⟨_,rfl,?_⟩;replace j3:=bbP j3 hb;replace j6:=bbP j6 hb;replace HB:=am (aF oL hb);(try clear hb);obtain ⟨jv,jw,jx,jy,jz,jA⟩:=bQ j6.out))
 refine bodyPost_ret (kQ rfl _ _ j5 28 #[.int .i64 0, .int .i64 0, .slice none 0 0] (0,0) _ rfl (aO (aO (aO j6.out 0 _ rfl) 1 _ rfl) 2 _ rfl) Try.underlying28 rfl (by kernel_rfl)) rfl ?_
 exact ⟨_,nQ,by first|exact Kd.vW _ _ _ _ _|exact Kd.CU _ _ _ _ _|exact Kd.CY _ _ _ _ _|exact Kd.CW _ _ _ _ _|exact Kd.tN _ _ _ _ _,oL⟩
theorem aG.mono_all:∀ k,(∀ y0 y1,LeO (aG.f k y0 y1) (aG.f (k + 1) y0 y1))∧(∀ y0 y1 y2,LeO (aG.l0 k y0 y1 y2) (aG.l0 (k + 1) y0 y1 y2))∧(∀ y0 y1 y2 y3 y4 y5,LeO (aR.f k y0 y1 y2 y3 y4 y5) (aR.f (k + 1) y0 y1 y2 y3 y4 y5))
 |0=>⟨fun _ _ r h=>by simp [aG.f] at h,fun _ _ _ r h=>by simp [aG.l0] at h,fun _ _ _ _ _ _ r h=>by simp [aR.f] at h⟩
 |k + 1=>by
  obtain ⟨ih0,ih1,ih2⟩:=aG.mono_all k
  refine ⟨?_,?_,?_⟩
  ·intro y0 y1
   unfold aG.f
   exact mo_
  ·intro y0 y1 y2
   unfold aG.l0
   exact mo_
  ·intro y0 y1 y2 y3 y4 y5
   unfold aR.f
   exact mo_
theorem aG.mono:∀ a0 a1 k,LeO (aG.f k a0 a1) (aG.f (k + 1) a0 a1):=by
 intro a0 a1 k
 obtain ⟨ih0,ih1,ih2⟩:=aG.mono_all k
 exact ih0 a0 a1
theorem aR.mono:∀ a0 a1 a2 a3 a4 a5 k,LeO (aR.f k a0 a1 a2 a3 a4 a5) (aR.f (k + 1) a0 a1 a2 a3 a4 a5):=by
 intro a0 a1 a2 a3 a4 a5 k
 obtain ⟨ih0,ih1,ih2⟩:=aG.mono_all k
 exact ih2 a0 a1 a2 a3 a4 a5
abbrev aG.bS (k:Nat):Prop:=∀ (A0:Option Addr) (c0:Nat) (l0:List (S28)) (A1:Option Addr) (c1:Nat) (l1:List (S28)) (r:Bool) (w:World) (hr0:Kd.C k28 w A0 l0.length l0) (hc0:l0.length≤c0) (hr1:Kd.C k28 w A1 l1.length l1) (hc1:l1.length≤c1) (h:aG.f k l0 l1=some r),
  Calls Try.prog 33 #[.slice A0 l0.length c0, .slice A1 l1.length c1] w fun e w'=>e= .returned (.bool r)∧Below w.heap.size w w'
abbrev aR.bS (k:Nat):Prop:=∀ (a0_0:Int) (a0_1:Int) (A0_2:Option Addr) (c0_2:Nat) (l0_2:List (S28)) (a1_0:Int) (a1_1:Int) (A1_2:Option Addr) (c1_2:Nat) (l1_2:List (S28)) (r:Bool) (w:World) (hr0_2:Kd.C k28 w A0_2 l0_2.length l0_2) (hc0_2:l0_2.length≤c0_2) (hr1_2:Kd.C k28 w A1_2 l1_2.length l1_2) (hc1_2:l1_2.length≤c1_2) (h:aR.f k a0_0 a0_1 l0_2 a1_0 a1_1 l1_2=some r),
  Calls Try.prog 10 #[.agg #[.int .i64 a0_0, .int .i64 a0_1, .slice A0_2 l0_2.length c0_2], .agg #[.int .i64 a1_0, .int .i64 a1_1, .slice A1_2 l1_2.length c1_2]] w fun e w'=>e= .returned (.bool r)∧Below w.heap.size w w'
def aG.T6:Bool × List (List Nat × List Nat):=(true,[([],[]),([],[]),([0,1],[0,1]),([2],[2]),([],[]),([],[]),([4,5],[4,5]),([6],[6]),([3,7],[3,7]),([8],[8])])
def aG.B6:List Nat:=[0,0,3,7,0,0,48,112,255,511]
theorem aG.DT:iF .any (opsOf Try.f33 6)=aG.T6:=by kernel_rfl
theorem aG.AA:lX aG.T6.2 aG.B6=true:=by kernel_rfl
theorem aG.step (k:Nat) (ih_laws_eqExprS:∀ m,m < k→aG.bS m) (ih_laws_eqExpr:∀ m,m < k→aR.bS m):aG.bS k:=by
 intro A0 c0 l0 A1 c1 l1 r w hr0 hc0 hr1 hc1 h
 cases k with
 |zero=>exact absurd h (by simp [aG.f])
 |succ k=>
 simp only [aG.f] at h
 have hu28:=Try.underlying28
 have jv:=am hr0
 have jA:=am hc0
 clear hr0 hc0
 have jw:=am hr1
 have jB:=am hc1
 clear hr1 hc1
 have HB:=am (Below.refl w.heap.size w)
 have H:(if (l0.length:Int)=(l1.length:Int) then (aG.l0 k l0 l1 0) else (some false))=some r:=h
 clear h
 by_cases c3:(l0.length:Int)=(l1.length:Int)
 ·rw [if_pos c3] at H
  have jo:((l0.length:Int) == (l1.length:Int))=true:=beq_iff_eq.mpr c3
  have jp:((l0.length:Int) != (l1.length:Int))=false:=bne_eq_false_iff_eq.mpr c3
  have jq:(l0.length == l1.length)=true:=by first|simpa using c3|(simp at c3 ⊢;omega)
  clear c3
  have H':=am H
  clear H
  go_enter Try.func33,Try.ntmps33
  go_wp2
  go_loopg [5] k (fun kq v5 w'=>∃ (j3:Int),v5= .int .i64 j3∧Aside0 (aG.l0 kq l0 l1 j3=some r)∧Aside0 (kq≤k)∧Aside0 (Below w.heap.size w w'))
  case atStart=>exact ⟨(0),sd_,H',⟨Nat.le_refl _⟩,⟨dO⟩⟩
  case round=>
   clear H'
   try clear c1
   try clear c3
   try clear jo
   try clear jp
   try clear jq
   obtain ⟨j3,rfl,HA,jr,HB⟩:=hrel
   cases gk with
   |zero=>exact absurd HA.out (by simp [aG.l0])
   |succ k1=>
    have H:=HA.out
    clear HA
    simp only [aG.l0] at H
    by_cases c4:j3 < (l0.length:Int)
    ·rw [if_pos c4] at H
     have js:decide (j3 < (l0.length:Int))=true:=decide_eq_true c4
     clear c4
     by_cases c5:0≤j3
     ·rw [if_pos c5] at H
      have jx:decide (0≤j3)=true:=decide_eq_true c5
      clear c5
      by_cases c6:j3 < (l1.length:Int)
      ·rw [if_pos c6] at H
       have jy:decide (j3 < (l1.length:Int))=true:=decide_eq_true c6
       clear c6
       obtain ⟨jz,A7,H⟩:=bsa H
       (try dsimp only at H)
       by_cases c8:jz=true
       ·subst c8
        rw [if_pos rfl] at H
        have H':=am H
        clear H
        try go_wp2
        replace HB:=am (bO HB.out)
        have jk:0≤(j3:Int):=of_decide_eq_true eT
        have jl:j3 < (l0.length:Int):=of_decide_eq_true eT
        obtain ⟨ja,je,jf,jt,j4,j5,j6,hl29_2,hi29_2⟩:=dU jv.out j3 jk jl
        have hw29_2:=j6
        have hw29_1:=j5
        have hw29_0:=j4
        cases jt
        replace j4:=(HB.out.cell (World.block_lt_of_cell? w _ j4)).trans j4
        replace j5:=(HB.out.cell (World.block_lt_of_cell? w _ j5)).trans j5
        replace j6:=(HB.out.cell (World.block_lt_of_cell? w _ j6)).trans j6
        have jb:=am hi29_2
        have ji:=am hl29_2
        clear hi29_2 hl29_2
        replace jk:=eq_true jk
        replace jl:=eq_true jl
        have jm:0≤(j3:Int):=of_decide_eq_true eT
        have jn:j3 < (l1.length:Int):=of_decide_eq_true eT
        obtain ⟨jc,jg,jh,ju,j7,j8,j9,hl30_2,hi30_2⟩:=dU jw.out j3 jm jn
        have hw30_2:=j9
        have hw30_1:=j8
        have hw30_0:=j7
        cases ju
        replace j7:=(HB.out.cell (World.block_lt_of_cell? w _ j7)).trans j7
        replace j8:=(HB.out.cell (World.block_lt_of_cell? w _ j8)).trans j8
        replace j9:=(HB.out.cell (World.block_lt_of_cell? w _ j9)).trans j9
        have jd:=am hi30_2
        have jj:=am hl30_2
        clear hi30_2 hl30_2
        replace jm:=eq_true jm
        replace jn:=eq_true jn
        refine xL (n:=10) (S:=fun w'=>w'.cell? (ja.add ((j3).toNat * 3))=some (.int .i64 ((aH l0 j3).f0))∧w'.cell? ⟨(ja.add ((j3).toNat * 3)).block,(ja.add ((j3).toNat * 3)).off + 1,none⟩=some (.int .i64 ((aH l0 j3).f1))∧w'.cell? ⟨(ja.add ((j3).toNat * 3)).block,(ja.add ((j3).toNat * 3)).off + 2,none⟩=some (.slice je ((aH l0 j3).f2).length jf)∧w'.cell? (jc.add ((j3).toNat * 3))=some (.int .i64 ((aH l1 j3).f0))∧w'.cell? ⟨(jc.add ((j3).toNat * 3)).block,(jc.add ((j3).toNat * 3)).off + 1,none⟩=some (.int .i64 ((aH l1 j3).f1))∧w'.cell? ⟨(jc.add ((j3).toNat * 3)).block,(jc.add ((j3).toNat * 3)).off + 2,none⟩=some (.slice jg ((aH l1 j3).f2).length jh)) (ds:=[]) (bz 10 0) (by kernel_rfl) rfl rfl ⟨((HB.out.cell (World.block_lt_of_cell? w _ hw29_0)).trans hw29_0),((HB.out.cell (World.block_lt_of_cell? w _ hw29_1)).trans hw29_1),((HB.out.cell (World.block_lt_of_cell? w _ hw29_2)).trans hw29_2),((HB.out.cell (World.block_lt_of_cell? w _ hw30_0)).trans hw30_0),((HB.out.cell (World.block_lt_of_cell? w _ hw30_1)).trans hw30_1),((HB.out.cell (World.block_lt_of_cell? w _ hw30_2)).trans hw30_2)⟩ (fun hHeld=>?_);refine rQ aG.DT aG.AA (fun HT_ HW_=>?_)
        generalize wr.drew=w9 at HB jb jd j4 j5 j6 j7 j8 j9 hHeld ⊢
        refine pr_ 0 17 (bz 10 1) HT_ ?_
        refine pr_ 1 18 (bz 10 3) HT_ ?_
        refine pr_ 2 19 (bz 10 7) HT_ ?_
        refine pr_ 4 21 (bz 10 23) HT_ ?_
        refine pr_ 5 22 (bz 10 55) HT_ ?_
        refine pr_ 6 23 (bz 10 119) HT_ ?_
        refine yU 3 20 (bz 10 127) HT_ HW_ hHeld ?_
        refine yU 7 24 (bz 10 255) HT_ HW_ hHeld ?_
        refine DF (i:=8) (N:=some 25) (bz 10 511) rfl rfl (xG HT_.out (by kernel_rfl)) (by decide) (fun K hK=>?_)
        refine rA Try.func10 (by kernel_rfl) rfl #[.agg #[.int .i64 ((aH l0 j3).f0), .int .i64 ((aH l0 j3).f1), .slice je ((aH l0 j3).f2).length jf], .agg #[.int .i64 ((aH l1 j3).f0), .int .i64 ((aH l1 j3).f1), .slice jg ((aH l1 j3).f2).length jh]] (by rfl) rfl rfl bY ?_
        with_reducible refine (ih_laws_eqExpr k1 (by have:=jr.out;omega) ((aH l0 j3).f0) ((aH l0 j3).f1) _ _ ((aH l0 j3).f2) ((aH l1 j3).f0) ((aH l1 j3).f1) _ _ ((aH l1 j3).f2) true _ (aC_ (Kd.bA jb.out HB.out)) ji.out (aC_ (Kd.bA jd.out HB.out)) jj.out A7.out).mono ?_
        rintro e jC ⟨rfl,hb⟩
        refine ⟨_,rfl,?_⟩
        replace HB:=am (aF dO hb)
        (try clear hb)
        (try clear hb2)
        (try clear hk)
        (try clear hi)
        refine hK.out _ _ ⟨((HB.out.cell (World.block_lt_of_cell? w _ hw29_0)).trans hw29_0),((HB.out.cell (World.block_lt_of_cell? w _ hw29_1)).trans hw29_1),((HB.out.cell (World.block_lt_of_cell? w _ hw29_2)).trans hw29_2),((HB.out.cell (World.block_lt_of_cell? w _ hw30_0)).trans hw30_0),((HB.out.cell (World.block_lt_of_cell? w _ hw30_1)).trans hw30_1),((HB.out.cell (World.block_lt_of_cell? w _ hw30_2)).trans hw30_2)⟩ (fun hHeld=>?_)
        clear hK K
        refine AQ (a':=?_) ?_ ?_
        rotate_left
        ·exact ap_ (N:=25)
        refine pr_ 9 26 (bz 10 1023) HT_ ?_
        refine AB (wC HT_.out (by kernel_rfl)) ?_
        try go_wp2
        go_roundg k1
        case measure=>have:=jr.out;omega
        case rel=>exact ⟨(wrap64 (j3 + 1)),sd_,H',⟨by have:=jr.out;omega⟩,⟨dO⟩⟩
       replace c8:=Bool.eq_false_iff.mpr c8
       subst c8
       rw [if_neg (show ¬ (false=true) by decide)] at H
       obtain rfl:=Option.some.inj H
       try go_wp2
       replace HB:=am (bO HB.out)
       have jk:0≤(j3:Int):=of_decide_eq_true eT
       have jl:j3 < (l0.length:Int):=of_decide_eq_true eT
       obtain ⟨ja,je,jf,jt,j4,j5,j6,hl29_2,hi29_2⟩:=dU jv.out j3 jk jl
       have hw29_2:=j6
       have hw29_1:=j5
       have hw29_0:=j4
       cases jt
       replace j4:=(HB.out.cell (World.block_lt_of_cell? w _ j4)).trans j4
       replace j5:=(HB.out.cell (World.block_lt_of_cell? w _ j5)).trans j5
       replace j6:=(HB.out.cell (World.block_lt_of_cell? w _ j6)).trans j6
       have jb:=am hi29_2
       have ji:=am hl29_2
       clear hi29_2 hl29_2
       replace jk:=eq_true jk
       replace jl:=eq_true jl
       have jm:0≤(j3:Int):=of_decide_eq_true eT
       have jn:j3 < (l1.length:Int):=of_decide_eq_true eT
       obtain ⟨jc,jg,jh,ju,j7,j8,j9,hl30_2,hi30_2⟩:=dU jw.out j3 jm jn
       have hw30_2:=j9
       have hw30_1:=j8
       have hw30_0:=j7
       cases ju
       replace j7:=(HB.out.cell (World.block_lt_of_cell? w _ j7)).trans j7
       replace j8:=(HB.out.cell (World.block_lt_of_cell? w _ j8)).trans j8
       replace j9:=(HB.out.cell (World.block_lt_of_cell? w _ j9)).trans j9
       have jd:=am hi30_2
       have jj:=am hl30_2
       clear hi30_2 hl30_2
       replace jm:=eq_true jm
       replace jn:=eq_true jn
       refine xL (n:=10) (S:=fun w'=>w'.cell? (ja.add ((j3).toNat * 3))=some (.int .i64 ((aH l0 j3).f0))∧w'.cell? ⟨(ja.add ((j3).toNat * 3)).block,(ja.add ((j3).toNat * 3)).off + 1,none⟩=some (.int .i64 ((aH l0 j3).f1))∧w'.cell? ⟨(ja.add ((j3).toNat * 3)).block,(ja.add ((j3).toNat * 3)).off + 2,none⟩=some (.slice je ((aH l0 j3).f2).length jf)∧w'.cell? (jc.add ((j3).toNat * 3))=some (.int .i64 ((aH l1 j3).f0))∧w'.cell? ⟨(jc.add ((j3).toNat * 3)).block,(jc.add ((j3).toNat * 3)).off + 1,none⟩=some (.int .i64 ((aH l1 j3).f1))∧w'.cell? ⟨(jc.add ((j3).toNat * 3)).block,(jc.add ((j3).toNat * 3)).off + 2,none⟩=some (.slice jg ((aH l1 j3).f2).length jh)) (ds:=[]) (bz 10 0) (by kernel_rfl) rfl rfl ⟨((HB.out.cell (World.block_lt_of_cell? w _ hw29_0)).trans hw29_0),((HB.out.cell (World.block_lt_of_cell? w _ hw29_1)).trans hw29_1),((HB.out.cell (World.block_lt_of_cell? w _ hw29_2)).trans hw29_2),((HB.out.cell (World.block_lt_of_cell? w _ hw30_0)).trans hw30_0),((HB.out.cell (World.block_lt_of_cell? w _ hw30_1)).trans hw30_1),((HB.out.cell (World.block_lt_of_cell? w _ hw30_2)).trans hw30_2)⟩ (fun hHeld=>?_);refine rQ aG.DT aG.AA (fun HT_ HW_=>?_)
       generalize wr.drew=jD at HB jb jd j4 j5 j6 j7 j8 j9 hHeld ⊢
       refine pr_ 0 17 (bz 10 1) HT_ ?_
       refine pr_ 1 18 (bz 10 3) HT_ ?_
       refine pr_ 2 19 (bz 10 7) HT_ ?_
       refine pr_ 4 21 (bz 10 23) HT_ ?_
       refine pr_ 5 22 (bz 10 55) HT_ ?_
       refine pr_ 6 23 (bz 10 119) HT_ ?_
       refine yU 3 20 (bz 10 127) HT_ HW_ hHeld ?_
       refine yU 7 24 (bz 10 255) HT_ HW_ hHeld ?_
       refine DF (i:=8) (N:=some 25) (bz 10 511) rfl rfl (xG HT_.out (by kernel_rfl)) (by decide) (fun K hK=>?_)
       refine rA Try.func10 (by kernel_rfl) rfl #[.agg #[.int .i64 ((aH l0 j3).f0), .int .i64 ((aH l0 j3).f1), .slice je ((aH l0 j3).f2).length jf], .agg #[.int .i64 ((aH l1 j3).f0), .int .i64 ((aH l1 j3).f1), .slice jg ((aH l1 j3).f2).length jh]] (by rfl) rfl rfl bY ?_
       with_reducible refine (ih_laws_eqExpr k1 (by have:=jr.out;omega) ((aH l0 j3).f0) ((aH l0 j3).f1) _ _ ((aH l0 j3).f2) ((aH l1 j3).f0) ((aH l1 j3).f1) _ _ ((aH l1 j3).f2) false _ (aC_ (Kd.bA jb.out HB.out)) ji.out (aC_ (Kd.bA jd.out HB.out)) jj.out A7.out).mono ?_
       rintro e jE ⟨rfl,hb⟩
       refine ⟨_,rfl,?_⟩
       replace HB:=am (aF dO hb)
       (try clear hb)
       (try clear hb2)
       (try clear hk)
       (try clear hi)
       refine hK.out _ _ ⟨((HB.out.cell (World.block_lt_of_cell? w _ hw29_0)).trans hw29_0),((HB.out.cell (World.block_lt_of_cell? w _ hw29_1)).trans hw29_1),((HB.out.cell (World.block_lt_of_cell? w _ hw29_2)).trans hw29_2),((HB.out.cell (World.block_lt_of_cell? w _ hw30_0)).trans hw30_0),((HB.out.cell (World.block_lt_of_cell? w _ hw30_1)).trans hw30_1),((HB.out.cell (World.block_lt_of_cell? w _ hw30_2)).trans hw30_2)⟩ (fun hHeld=>?_)
       clear hK K
       refine AQ (a':=?_) ?_ ?_
       rotate_left
       ·exact ap_ (N:=25)
       refine pr_ 9 26 (bz 10 1023) HT_ ?_
       refine AB (wC HT_.out (by kernel_rfl)) ?_
       try go_wp2
       go_ret
       exact ⟨rr_,dO⟩
      rw [if_neg c6] at H
      exact absurd H (by simp)
     rw [if_neg c5] at H
     exact absurd H (by simp)
    rw [if_neg c4] at H
    have js:decide (j3 < (l0.length:Int))=false:=decide_eq_false c4
    clear c4
    obtain rfl:=Option.some.inj H
    go_wp2
    go_ret
    exact ⟨rr_,dO⟩
 rw [if_neg c3] at H
 have jo:((l0.length:Int) == (l1.length:Int))=false:=beq_eq_false_iff_ne.mpr c3
 have jp:((l0.length:Int) != (l1.length:Int))=true:=bne_iff_ne.mpr c3
 have jq:(l0.length == l1.length)=false:=by first|simpa using c3|(simp at c3 ⊢;omega)
 obtain rfl:=Option.some.inj H
 go_enter Try.func33,Try.ntmps33
 go_wp2
 go_ret
 exact ⟨rr_,dO⟩
theorem aR.step (k:Nat) (ih_laws_eqExprS:∀ m,m < k→aG.bS m) (ih_laws_eqExpr:∀ m,m < k→aR.bS m):aR.bS k:=by
 intro j4 j5 jj jk j8 j6 j7 jl jm j9 r w hr0_2 hc0_2 hr1_2 hc1_2 h
 cases k with
 |zero=>exact absurd h (by simp [aR.f])
 |succ k=>
 simp only [aR.f] at h
 have hu28:=Try.underlying28
 have jf:=am hr0_2
 have jg:=am hc0_2
 clear hr0_2 hc0_2
 have jh:=am hr1_2
 have ji:=am hc1_2
 clear hr1_2 hc1_2
 have HB:=am (Below.refl w.heap.size w)
 have H:=h
 clear h
 have HH_:=am H
 clear H
 go_enter Try.func10,Try.ntmps10
 go_upto_region 1 with (first|((with_reducible refine aV (N:=2) rfl ?_);refine aY rfl (N:=2) rfl (cs:=#[.int .i64 j4, .int .i64 j5, .slice jj j8.length jk]) (t:=28) rn_ ?_;intro jb hg w7 hbox hb;have j3:=am (hbox);have jD:=am ((by rw [hg];exact (aJ dO):w.heap.size≤jb));have GE21:=am ((by rw [hg];exact (aJ dO):w.heap.size≤jb));replace HB:=am (aF dO hb);clear hb hbox hg)|((with_reducible refine aV (N:=3) rfl ?_);refine aY rfl (N:=3) rfl (cs:=#[.int .i64 j6, .int .i64 j7, .slice jl j9.length jm]) (t:=28) rn_ ?_;intro jc hg w8 hbox hb;have ja:=am (hbox);have jE:=am ((by rw [hg];exact (aJ iV):w.heap.size≤jc));have GE22:=am ((by rw [hg];exact (aJ iV):w.heap.size≤jc));replace HB:=am (aF iV hb);have jd:=am ((by rw [hg];exact Nat.ne_of_lt (pK j3.out):jb≠jc));have je:=am ((by rw [hg];exact Nat.ne_of_gt (pK j3.out):jc≠jb));replace j3:=bbP j3 hb;clear hb hbox hg;have jF:=jd.out;have jG:=je.out;obtain ⟨jn,jo,jp,jq,jr,js⟩:=bQ j3.out;obtain ⟨jt,ju,jv,jw,jx,jy⟩:=bQ ja.out))
 have H:=HH_.out
 clear HH_
 by_cases c3:j4=j6
 ·rw [if_pos c3] at H
  have jz:(j4 == j6)=true:=beq_iff_eq.mpr c3
  have jA:(j4 != j6)=false:=bne_eq_false_iff_eq.mpr c3
  clear c3
  by_cases c4:j5=j7
  ·rw [if_pos c4] at H
   have jB:(j5 == j7)=true:=beq_iff_eq.mpr c4
   have jC:(j5 != j7)=false:=bne_eq_false_iff_eq.mpr c4
   clear c4
   obtain ⟨jH,A5,H⟩:=bsa H
   (try dsimp only at H)
   by_cases c6:jH=true
   ·subst c6
    rw [if_pos rfl] at H
    obtain rfl:=Option.some.inj H
    go_wp2_with (first|((with_reducible refine aC (f:=33) rfl ?_);refine aP (some 19) rfl rfl Try.func33 (by kernel_rfl) rfl #[.slice jj j8.length jk, .slice jl j9.length jm] rfl bY ?_;(with_reducible refine (ih_laws_eqExprS k (by omega) _ _ j8 _ _ j9 true _ (aC_ (Kd.bA jf.out HB.out)) jg.out (aC_ (Kd.bA jh.out HB.out)) ji.out A5.out).mono ?_);rintro e jI ⟨rfl,hb⟩;refine ⟨_,rfl,?_⟩;replace j3:=bbP j3 hb;replace ja:=bbP ja hb;replace HB:=am (aF mQ hb);(try clear hb)))
    go_ret
    exact ⟨rr_,mQ⟩
   replace c6:=Bool.eq_false_iff.mpr c6
   subst c6
   rw [if_neg (show ¬ (false=true) by decide)] at H
   obtain rfl:=Option.some.inj H
   go_wp2_with (first|((with_reducible refine aC (f:=33) rfl ?_);refine aP (some 19) rfl rfl Try.func33 (by kernel_rfl) rfl #[.slice jj j8.length jk, .slice jl j9.length jm] rfl bY ?_;(with_reducible refine (ih_laws_eqExprS k (by omega) _ _ j8 _ _ j9 false _ (aC_ (Kd.bA jf.out HB.out)) jg.out (aC_ (Kd.bA jh.out HB.out)) ji.out A5.out).mono ?_);rintro e jJ ⟨rfl,hb⟩;refine ⟨_,rfl,?_⟩;replace j3:=bbP j3 hb;replace ja:=bbP ja hb;replace HB:=am (aF mQ hb);(try clear hb)))
   go_ret
   exact ⟨rr_,mQ⟩
  rw [if_neg c4] at H
  have jB:(j5 == j7)=false:=beq_eq_false_iff_ne.mpr c4
  have jC:(j5 != j7)=true:=bne_iff_ne.mpr c4
  obtain rfl:=Option.some.inj H
  go_wp2
  go_ret
  exact ⟨rr_,mQ⟩
 rw [if_neg c3] at H
 have jz:(j4 == j6)=false:=beq_eq_false_iff_ne.mpr c3
 have jA:(j4 != j6)=true:=bne_iff_ne.mpr c3
 obtain rfl:=Option.some.inj H
 go_wp2
 go_ret
 exact ⟨rr_,mQ⟩
theorem aG.calls_all (k:Nat):aG.bS k∧aR.bS k:=by
 induction k using Nat.strongRecOn with
 | _ k ih=>exact ⟨aG.step k (ih_laws_eqExprS:=fun m hm=>(ih m hm).1) (ih_laws_eqExpr:=fun m hm=>(ih m hm).2),aR.step k (ih_laws_eqExprS:=fun m hm=>(ih m hm).1) (ih_laws_eqExpr:=fun m hm=>(ih m hm).2)⟩
theorem aG.calls (k:Nat):aG.bS k:=(aG.calls_all k).1
theorem aR.calls (k:Nat):aR.bS k:=(aG.calls_all k).2
end Go.Proofs.Ythiegfpcfedbgaa.PA

