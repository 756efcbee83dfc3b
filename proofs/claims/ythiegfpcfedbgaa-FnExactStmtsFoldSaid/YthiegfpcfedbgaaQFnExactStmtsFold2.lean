/- Part 3. -/
import Derived.Test.YthiegfpcfedbgaaQFnExactStmtsFold1
import Derived.Test.YthiegfpcfedbgaaProg
import Derived.Below
import Derived.Deep.Draws
import Derived.Deep.AppendLies
import Derived.OwnWalk
import Derived.Tactics
import Derived.WalkKit
import Derived.KernelRfl
import Derived.RowKit3
import Derived.Deep.LoopGhost
import Derived.Deep.QuietTactic
import Derived.BigQuiet
import Derived.WideLaws
import Derived.Laws.Rows
import Derived.RowKit
import Derived.Lib.SliceRun
set_option maxHeartbeats 8000000
set_option maxRecDepth 100000
namespace Go.Proofs.Ythiegfpcfedbgaa.PA
open Go.RowKit Go.Proofs.YthiegfpcfedbgaaW.PrintWords Go.Proofs.YthiegfpcfedbgaaW.PrintLast Go.Proofs.YthiegfpcfedbgaaW.PrintMore
set_option linter.unusedVariables false
set_option linter.unusedSimpArgs false
abbrev bJ.iJ (k:Nat):Prop:=∀ (A0:Option Addr) (c0:Nat) (l0:List S66) (r:List S70) (w:World) (hr0:Kd.C k66 w A0 l0.length l0) (hc0:l0.length≤c0) (h:bJ.f k l0=some r),
  Calls Try.prog 15 #[.slice A0 l0.length c0] w fun e w'=>∃ v0_:Value,e= .returned v0_∧Kd.S iU 70 w' w.heap.size (fun q=>w.heap.size≤q) v0_ r∧Below w.heap.size w w'
abbrev eX.iJ (k:Nat):Prop:=∀ (s:S66) (A5:Option Addr) (c5:Nat) (A6:Option Addr) (c6:Nat) (A7:Option Addr) (c7:Nat) (r:S70) (w:World) (h5:Kd.C k24 w A5 s.f3.f2.length s.f3.f2) (l5:s.f3.f2.length≤c5) (h6:Kd.C k66 w A6 s.f4.length s.f4) (l6:s.f4.length≤c6) (h7:Kd.C k66 w A7 s.f5.length s.f5) (l7:s.f5.length≤c7) (h:eX.f k s=some r),
  Calls Try.prog 39 #[.agg #[(.int .i64 s.f0),(.int .i64 s.f1),(.int .i64 s.f2),(.int .i64 s.f3.f0),(.int .i64 s.f3.f1),(.slice A5 s.f3.f2.length c5),(.slice A6 s.f4.length c6),(.slice A7 s.f5.length c7)]] w fun e w'=>∃ B5 d5 B6 d6 B7 d7,e= .returned (.agg #[.int .i64 r.f0, .int .i64 r.f1, .int .i64 r.f2, .int .i64 r.f3.f0, .int .i64 r.f3.f1, .slice B5 r.f3.f2.length d5, .slice B6 r.f4.length d6, .slice B7 r.f5.length d7])∧iU.M w' w.heap.size (fun q=>w.heap.size≤q) r [.int .i64 r.f0, .int .i64 r.f1, .int .i64 r.f2, .int .i64 r.f3.f0, .int .i64 r.f3.f1, .slice B5 r.f3.f2.length d5, .slice B6 r.f4.length d6, .slice B7 r.f5.length d7]∧Below w.heap.size w w'
theorem eX.wN (k:Nat) (ihS:∀ m,m < k→bJ.iJ m):eX.iJ k:=by
 intro s A5 c5 A6 c6 A7 c7 r w h5 q5 h6 q6 h7 q7 h
 cases k with
 |zero=>exact absurd h (by simp [eX.f])
 |succ k=>
 simp only [eX.f] at h
 replace h:=Option.bind_eq_some_iff.mp h
 obtain ⟨⟨e1,e2,l5⟩,he,h⟩:=h
 replace h:=Option.bind_eq_some_iff.mp h
 obtain ⟨l6,hb6,h⟩:=h
 replace h:=Option.bind_eq_some_iff.mp h
 obtain ⟨l7,hb7,h⟩:=h
 obtain rfl:=Option.some.inj h
 have H5:=Aside0.mk h5
 have H6:=Aside0.mk h6
 have H7:=Aside0.mk h7
 have L5:=Aside0.mk q5
 have L6:=Aside0.mk q6
 have L7:=Aside0.mk q7
 have HE:=Aside0.mk he
 have j5:=Aside0.mk hb6
 have j6:=Aside0.mk hb7
 clear h h5 h6 h7 q5 q6 q7 he hb6 hb7
 go_enter Try.func39,Try.ntmps39
 go_wp2_with (first|((with_reducible refine bL (N:=1) rfl ?_);refine cB ?hg (N:=1) ?hd (cs:=#[(.int .i64 s.f0),(.int .i64 s.f1),(.int .i64 s.f2),(.int .i64 s.f3.f0),(.int .i64 s.f3.f1),(.slice A5 s.f3.f2.length c5),(.slice A6 s.f4.length c6),(.slice A7 s.f5.length c7)]) (t:=66) ?hr ?_;(case hd=>rfl);(case hg=>rfl);(case hr=>first|(go_simp;done)|(go_simp;rfl));intro g1 hg w1 hbox hb;have X1:=Aside0.mk hbox;have B0:=Aside0.mk hb;have j7:Aside0 (w.heap.size≤g1):=⟨Nat.le_of_eq hg.symm⟩;clear hb hbox hg)|((with_reducible refine bL (N:=2) rfl ?_);refine cB ?hg (N:=2) ?hd (cs:=#[(.int .i64 0),(.int .i64 0),(.int .i64 0),(.int .i64 0),(.int .i64 0),(.slice none 0 0),(.slice none 0 0),(.slice none 0 0)]) (t:=70) ?hr ?_;(case hd=>rfl);(case hg=>rfl);(case hr=>first|(go_simp;done)|(go_simp;rfl));intro g2 hg w2 hbox hb;have NE12:Aside0 (g1 < g2):=⟨by rw [hg];exact cK X1.out⟩;replace X1:=Aside0.mk (aN X1.out hb);replace B0:=Aside0.mk (aB B0.out hb);have X2:=Aside0.mk hbox;clear hb hbox hg)|((with_reducible refine bL (N:=3) rfl ?_);refine cB ?hg (N:=3) ?hd (cs:=#[(.int .i64 0),(.int .i64 0),(.int .i64 0),(.int .i64 0),(.int .i64 0),(.slice none 0 0),(.slice none 0 0),(.slice none 0 0)]) (t:=70) ?hr ?_;(case hd=>rfl);(case hg=>rfl);(case hr=>first|(go_simp;done)|(go_simp;rfl));intro g3 hg w3 hbox hb;have NE23:Aside0 (g2 < g3):=⟨by rw [hg];exact cK X2.out⟩;replace X1:=Aside0.mk (aN X1.out hb);replace X2:=Aside0.mk (aN X2.out hb);replace B0:=Aside0.mk (aB B0.out hb);have X3:=Aside0.mk hbox;have j4:Aside0 (w.heap.size≤g2):=⟨by have:=j7.out;have:=NE12.out;omega⟩;have j3:Aside0 (w.heap.size≤g3):=⟨by have:=j4.out;have:=NE23.out;omega⟩;have ne13:g1≠g3:=(by have:=NE12.out;have:=NE23.out;omega);have ne31:g3≠g1:=Ne.symm ne13;have ne23:g2≠g3:=(by have:=NE23.out;omega);have ne32:g3≠g2:=Ne.symm ne23;have yp0:w3.cell? ⟨g1,0,none⟩=some (.int .i64 s.f0):=aA X1.out 0;have yp1:w3.cell? ⟨g1,1,none⟩=some (.int .i64 s.f1):=aA X1.out 1;have yp2:w3.cell? ⟨g1,2,none⟩=some (.int .i64 s.f2):=aA X1.out 2;have yp3:w3.cell? ⟨g1,3,none⟩=some (.int .i64 s.f3.f0):=aA X1.out 3;have yp4:w3.cell? ⟨g1,4,none⟩=some (.int .i64 s.f3.f1):=aA X1.out 4;have yp5:w3.cell? ⟨g1,5,none⟩=some (.slice A5 s.f3.f2.length c5):=aA X1.out 5;have yp6:w3.cell? ⟨g1,6,none⟩=some (.slice A6 s.f4.length c6):=aA X1.out 6;have yp7:w3.cell? ⟨g1,7,none⟩=some (.slice A7 s.f5.length c7):=aA X1.out 7;have yo0:w3.cell? ⟨g3,0,none⟩=some (.int .i64 0):=aA X3.out 0;have fo0:=aG X3.out 0;have yo1:w3.cell? ⟨g3,1,none⟩=some (.int .i64 0):=aA X3.out 1;have fo1:=aG X3.out 1;have yo2:w3.cell? ⟨g3,2,none⟩=some (.int .i64 0):=aA X3.out 2;have fo2:=aG X3.out 2;have yo3:w3.cell? ⟨g3,3,none⟩=some (.int .i64 0):=aA X3.out 3;have fo3:=aG X3.out 3;have yo4:w3.cell? ⟨g3,4,none⟩=some (.int .i64 0):=aA X3.out 4;have fo4:=aG X3.out 4;have yo5:w3.cell? ⟨g3,5,none⟩=some (.slice none 0 0):=aA X3.out 5;have fo5:=aG X3.out 5;have yo6:w3.cell? ⟨g3,6,none⟩=some (.slice none 0 0):=aA X3.out 6;have fo6:=aG X3.out 6;have yo7:w3.cell? ⟨g3,7,none⟩=some (.slice none 0 0):=aA X3.out 7;have fo7:=aG X3.out 7;clear hb hbox hg)|((with_reducible refine aD (f:=8) rfl ?_);refine aM (some 15) rfl rfl Try.func8 (by kernel_rfl) rfl #[.agg #[(.int .i64 s.f3.f0),(.int .i64 s.f3.f1),(.slice A5 s.f3.f2.length c5)]] rfl (by (try simp only [List.map_toArray,List.map_cons,List.map_nil]);first|done|rfl) ?_;(with_reducible refine (dP.callsS k s.f3.f0 s.f3.f1 A5 c5 s.f3.f2 e1 e2 l5 _ (Kd.aH H5.out (below_set (j:=2) (v:=(.int .i64 s.f2)) (below_set (j:=1) (v:=(.int .i64 s.f1)) (below_set (j:=0) (v:=(.int .i64 s.f0)) B0.out j3.out) j3.out) j3.out)) L5.out HE.out).mono ?_);rintro e w4 ⟨v,rfl,hn,hb⟩;refine ⟨_,rfl,?_⟩;obtain ⟨B5,d5,rfl⟩:=Kd.eP hn;have hle:=((below_set (j:=2) (v:=(.int .i64 s.f2)) (below_set (j:=1) (v:=(.int .i64 s.f1)) (below_set (j:=0) (v:=(.int .i64 s.f0)) B0.out j3.out) j3.out) j3.out)).size;have hl2:=cK (bI (p:=⟨g3,2,none⟩) (bI (p:=⟨g3,1,none⟩) (bI (p:=⟨g3,0,none⟩) X2.out ne23 (.int .i64 s.f0)) ne23 (.int .i64 s.f1)) ne23 (.int .i64 s.f2));have hl3:=cK (aS (cs':=#[(.int .i64 s.f0),(.int .i64 s.f1),(.int .i64 s.f2),(.int .i64 0),(.int .i64 0),(.slice none 0 0),(.slice none 0 0),(.slice none 0 0)]) (aS (cs':=#[(.int .i64 s.f0),(.int .i64 s.f1),(.int .i64 0),(.int .i64 0),(.int .i64 0),(.slice none 0 0),(.slice none 0 0),(.slice none 0 0)]) (aS (cs':=#[(.int .i64 s.f0),(.int .i64 0),(.int .i64 0),(.int .i64 0),(.int .i64 0),(.slice none 0 0),(.slice none 0 0),(.slice none 0 0)]) X3.out 0 (.int .i64 s.f0) rfl) 1 (.int .i64 s.f1) rfl) 2 (.int .i64 s.f2) rfl);have hps:w3.heap.size≤(((w3.setCell ⟨g3,0,none⟩ (.int .i64 s.f0)).setCell ⟨g3,1,none⟩ (.int .i64 s.f1)).setCell ⟨g3,2,none⟩ (.int .i64 s.f2)).heap.size:=(by simp [World.setCell]);have hq2:=fun q (hq:(((w3.setCell ⟨g3,0,none⟩ (.int .i64 s.f0)).setCell ⟨g3,1,none⟩ (.int .i64 s.f1)).setCell ⟨g3,2,none⟩ (.int .i64 s.f2)).heap.size≤q)=>Nat.ne_of_gt (Nat.lt_of_lt_of_le hl2 hq);have hq3:=fun q (hq:(((w3.setCell ⟨g3,0,none⟩ (.int .i64 s.f0)).setCell ⟨g3,1,none⟩ (.int .i64 s.f1)).setCell ⟨g3,2,none⟩ (.int .i64 s.f2)).heap.size≤q)=>Nat.ne_of_gt (Nat.lt_of_lt_of_le hl3 hq);have hO:=Kd.gL (Kd.fZ hn) hle;have O5:=Aside0.mk (Kd.dU (ok':=fun q=>(w.heap.size≤q∧q≠g2∧q≠g3)∧0≤q∧q < w4.heap.size) hO (fun q hq=>⟨⟨Nat.le_trans hle hq.2.1,hq2 q hq.2.1,hq3 q hq.2.1⟩,Nat.zero_le _,hq.2.2.1⟩));clear hq2 hq3 hO;replace X1:=Aside0.mk (aN (bI (p:=⟨g3,2,none⟩) (bI (p:=⟨g3,1,none⟩) (bI (p:=⟨g3,0,none⟩) X1.out ne13 (.int .i64 s.f0)) ne13 (.int .i64 s.f1)) ne13 (.int .i64 s.f2)) hb);replace X2:=Aside0.mk (aN (bI (p:=⟨g3,2,none⟩) (bI (p:=⟨g3,1,none⟩) (bI (p:=⟨g3,0,none⟩) X2.out ne23 (.int .i64 s.f0)) ne23 (.int .i64 s.f1)) ne23 (.int .i64 s.f2)) hb);replace X3:=Aside0.mk (aN (aS (cs':=#[(.int .i64 s.f0),(.int .i64 s.f1),(.int .i64 s.f2),(.int .i64 0),(.int .i64 0),(.slice none 0 0),(.slice none 0 0),(.slice none 0 0)]) (aS (cs':=#[(.int .i64 s.f0),(.int .i64 s.f1),(.int .i64 0),(.int .i64 0),(.int .i64 0),(.slice none 0 0),(.slice none 0 0),(.slice none 0 0)]) (aS (cs':=#[(.int .i64 s.f0),(.int .i64 0),(.int .i64 0),(.int .i64 0),(.int .i64 0),(.slice none 0 0),(.slice none 0 0),(.slice none 0 0)]) X3.out 0 (.int .i64 s.f0) rfl) 1 (.int .i64 s.f1) rfl) 2 (.int .i64 s.f2) rfl) hb);replace B0:=Aside0.mk (aB (below_set (j:=2) (v:=(.int .i64 s.f2)) (below_set (j:=1) (v:=(.int .i64 s.f1)) (below_set (j:=0) (v:=(.int .i64 s.f0)) B0.out j3.out) j3.out) j3.out) hb);clear hb hn hle hl2 hl3 hps;clear yp0 yo0 fo0 yp1 yo1 fo1 yp2 yo2 fo2 yp3 yo3 fo3 yp4 yo4 fo4 yp5 yo5 fo5 yp6 yo6 fo6 yp7 yo7 fo7;have yp0:w4.cell? ⟨g1,0,none⟩=some (.int .i64 s.f0):=aA X1.out 0;have yp1:w4.cell? ⟨g1,1,none⟩=some (.int .i64 s.f1):=aA X1.out 1;have yp2:w4.cell? ⟨g1,2,none⟩=some (.int .i64 s.f2):=aA X1.out 2;have yp3:w4.cell? ⟨g1,3,none⟩=some (.int .i64 s.f3.f0):=aA X1.out 3;have yp4:w4.cell? ⟨g1,4,none⟩=some (.int .i64 s.f3.f1):=aA X1.out 4;have yp5:w4.cell? ⟨g1,5,none⟩=some (.slice A5 s.f3.f2.length c5):=aA X1.out 5;have yp6:w4.cell? ⟨g1,6,none⟩=some (.slice A6 s.f4.length c6):=aA X1.out 6;have yp7:w4.cell? ⟨g1,7,none⟩=some (.slice A7 s.f5.length c7):=aA X1.out 7;have yo0:w4.cell? ⟨g3,0,none⟩=some (.int .i64 s.f0):=aA X3.out 0;have fo0:=aG X3.out 0;have yo1:w4.cell? ⟨g3,1,none⟩=some (.int .i64 s.f1):=aA X3.out 1;have fo1:=aG X3.out 1;have yo2:w4.cell? ⟨g3,2,none⟩=some (.int .i64 s.f2):=aA X3.out 2;have fo2:=aG X3.out 2;have yo3:w4.cell? ⟨g3,3,none⟩=some (.int .i64 0):=aA X3.out 3;have fo3:=aG X3.out 3;have yo4:w4.cell? ⟨g3,4,none⟩=some (.int .i64 0):=aA X3.out 4;have fo4:=aG X3.out 4;have yo5:w4.cell? ⟨g3,5,none⟩=some (.slice none 0 0):=aA X3.out 5;have fo5:=aG X3.out 5;have yo6:w4.cell? ⟨g3,6,none⟩=some (.slice none 0 0):=aA X3.out 6;have fo6:=aG X3.out 6;have yo7:w4.cell? ⟨g3,7,none⟩=some (.slice none 0 0):=aA X3.out 7;have fo7:=aG X3.out 7)|((with_reducible refine aD (f:=15) rfl ?_);refine aM (some 19) rfl rfl Try.func15 (by kernel_rfl) rfl #[(.slice A6 s.f4.length c6)] rfl (by (try simp only [List.map_toArray,List.map_cons,List.map_nil]);first|done|rfl) ?_;(with_reducible refine (ihS k (Nat.lt_succ_self k) A6 c6 s.f4 l6 _ (Kd.aH H6.out (below_set (j:=5) (v:=(.slice B5 l5.length d5)) (below_set (j:=4) (v:=(.int .i64 e2)) (below_set (j:=3) (v:=(.int .i64 e1)) B0.out j3.out) j3.out) j3.out)) L6.out j5.out).mono ?_);rintro e w5 ⟨v,rfl,hn,hb⟩;refine ⟨_,rfl,?_⟩;obtain ⟨B6,d6,rfl⟩:=Kd.eP hn;have hle:=((below_set (j:=5) (v:=(.slice B5 l5.length d5)) (below_set (j:=4) (v:=(.int .i64 e2)) (below_set (j:=3) (v:=(.int .i64 e1)) B0.out j3.out) j3.out) j3.out)).size;have hl2:=cK (bI (p:=⟨g3,5,none⟩) (bI (p:=⟨g3,4,none⟩) (bI (p:=⟨g3,3,none⟩) X2.out ne23 (.int .i64 e1)) ne23 (.int .i64 e2)) ne23 (.slice B5 l5.length d5));have hl3:=cK (aS (cs':=#[(.int .i64 s.f0),(.int .i64 s.f1),(.int .i64 s.f2),(.int .i64 e1),(.int .i64 e2),(.slice B5 l5.length d5),(.slice none 0 0),(.slice none 0 0)]) (aS (cs':=#[(.int .i64 s.f0),(.int .i64 s.f1),(.int .i64 s.f2),(.int .i64 e1),(.int .i64 e2),(.slice none 0 0),(.slice none 0 0),(.slice none 0 0)]) (aS (cs':=#[(.int .i64 s.f0),(.int .i64 s.f1),(.int .i64 s.f2),(.int .i64 e1),(.int .i64 0),(.slice none 0 0),(.slice none 0 0),(.slice none 0 0)]) X3.out 3 (.int .i64 e1) rfl) 4 (.int .i64 e2) rfl) 5 (.slice B5 l5.length d5) rfl);have hps:w4.heap.size≤(((w4.setCell ⟨g3,3,none⟩ (.int .i64 e1)).setCell ⟨g3,4,none⟩ (.int .i64 e2)).setCell ⟨g3,5,none⟩ (.slice B5 l5.length d5)).heap.size:=(by simp [World.setCell]);have hq2:=fun q (hq:(((w4.setCell ⟨g3,3,none⟩ (.int .i64 e1)).setCell ⟨g3,4,none⟩ (.int .i64 e2)).setCell ⟨g3,5,none⟩ (.slice B5 l5.length d5)).heap.size≤q)=>Nat.ne_of_gt (Nat.lt_of_lt_of_le hl2 hq);have hq3:=fun q (hq:(((w4.setCell ⟨g3,3,none⟩ (.int .i64 e1)).setCell ⟨g3,4,none⟩ (.int .i64 e2)).setCell ⟨g3,5,none⟩ (.slice B5 l5.length d5)).heap.size≤q)=>Nat.ne_of_gt (Nat.lt_of_lt_of_le hl3 hq);have hO:=Kd.gL (Kd.fZ hn) hle;have O6:=Aside0.mk (Kd.dU (ok':=fun q=>(w.heap.size≤q∧q≠g2∧q≠g3)∧w4.heap.size≤q∧q < w5.heap.size) hO (fun q hq=>⟨⟨Nat.le_trans hle hq.2.1,hq2 q hq.2.1,hq3 q hq.2.1⟩,Nat.le_trans hps hq.2.1,hq.2.2.1⟩));clear hq2 hq3 hO;replace O5:=Aside0.mk (Kd.dM (Kd.cO (p:=⟨g3,5,none⟩) (Kd.cO (p:=⟨g3,4,none⟩) (Kd.cO (p:=⟨g3,3,none⟩) O5.out (fun q hq=>hq.1.2.2) (.int .i64 e1)) (fun q hq=>hq.1.2.2) (.int .i64 e2)) (fun q hq=>hq.1.2.2) (.slice B5 l5.length d5)) hb);replace X1:=Aside0.mk (aN (bI (p:=⟨g3,5,none⟩) (bI (p:=⟨g3,4,none⟩) (bI (p:=⟨g3,3,none⟩) X1.out ne13 (.int .i64 e1)) ne13 (.int .i64 e2)) ne13 (.slice B5 l5.length d5)) hb);replace X2:=Aside0.mk (aN (bI (p:=⟨g3,5,none⟩) (bI (p:=⟨g3,4,none⟩) (bI (p:=⟨g3,3,none⟩) X2.out ne23 (.int .i64 e1)) ne23 (.int .i64 e2)) ne23 (.slice B5 l5.length d5)) hb);replace X3:=Aside0.mk (aN (aS (cs':=#[(.int .i64 s.f0),(.int .i64 s.f1),(.int .i64 s.f2),(.int .i64 e1),(.int .i64 e2),(.slice B5 l5.length d5),(.slice none 0 0),(.slice none 0 0)]) (aS (cs':=#[(.int .i64 s.f0),(.int .i64 s.f1),(.int .i64 s.f2),(.int .i64 e1),(.int .i64 e2),(.slice none 0 0),(.slice none 0 0),(.slice none 0 0)]) (aS (cs':=#[(.int .i64 s.f0),(.int .i64 s.f1),(.int .i64 s.f2),(.int .i64 e1),(.int .i64 0),(.slice none 0 0),(.slice none 0 0),(.slice none 0 0)]) X3.out 3 (.int .i64 e1) rfl) 4 (.int .i64 e2) rfl) 5 (.slice B5 l5.length d5) rfl) hb);replace B0:=Aside0.mk (aB (below_set (j:=5) (v:=(.slice B5 l5.length d5)) (below_set (j:=4) (v:=(.int .i64 e2)) (below_set (j:=3) (v:=(.int .i64 e1)) B0.out j3.out) j3.out) j3.out) hb);have j8:Aside0 (w4.heap.size≤w5.heap.size):=⟨Nat.le_trans hps hb.size⟩;clear hb hn hle hl2 hl3 hps;clear yp0 yo0 fo0 yp1 yo1 fo1 yp2 yo2 fo2 yp3 yo3 fo3 yp4 yo4 fo4 yp5 yo5 fo5 yp6 yo6 fo6 yp7 yo7 fo7;have yp0:w5.cell? ⟨g1,0,none⟩=some (.int .i64 s.f0):=aA X1.out 0;have yp1:w5.cell? ⟨g1,1,none⟩=some (.int .i64 s.f1):=aA X1.out 1;have yp2:w5.cell? ⟨g1,2,none⟩=some (.int .i64 s.f2):=aA X1.out 2;have yp3:w5.cell? ⟨g1,3,none⟩=some (.int .i64 s.f3.f0):=aA X1.out 3;have yp4:w5.cell? ⟨g1,4,none⟩=some (.int .i64 s.f3.f1):=aA X1.out 4;have yp5:w5.cell? ⟨g1,5,none⟩=some (.slice A5 s.f3.f2.length c5):=aA X1.out 5;have yp6:w5.cell? ⟨g1,6,none⟩=some (.slice A6 s.f4.length c6):=aA X1.out 6;have yp7:w5.cell? ⟨g1,7,none⟩=some (.slice A7 s.f5.length c7):=aA X1.out 7;have yo0:w5.cell? ⟨g3,0,none⟩=some (.int .i64 s.f0):=aA X3.out 0;have fo0:=aG X3.out 0;have yo1:w5.cell? ⟨g3,1,none⟩=some (.int .i64 s.f1):=aA X3.out 1;have fo1:=aG X3.out 1;have yo2:w5.cell? ⟨g3,2,none⟩=some (.int .i64 s.f2):=aA X3.out 2;have fo2:=aG X3.out 2;have yo3:w5.cell? ⟨g3,3,none⟩=some (.int .i64 e1):=aA X3.out 3;have fo3:=aG X3.out 3;have yo4:w5.cell? ⟨g3,4,none⟩=some (.int .i64 e2):=aA X3.out 4;have fo4:=aG X3.out 4;have yo5:w5.cell? ⟨g3,5,none⟩=some (.slice B5 l5.length d5):=aA X3.out 5;have fo5:=aG X3.out 5;have yo6:w5.cell? ⟨g3,6,none⟩=some (.slice none 0 0):=aA X3.out 6;have fo6:=aG X3.out 6;have yo7:w5.cell? ⟨g3,7,none⟩=some (.slice none 0 0):=aA X3.out 7;have fo7:=aG X3.out 7)|((with_reducible refine aD (f:=15) rfl ?_);refine aM (some 23) rfl rfl Try.func15 (by kernel_rfl) rfl #[(.slice A7 s.f5.length c7)] rfl (by (try simp only [List.map_toArray,List.map_cons,List.map_nil]);first|done|rfl) ?_;(with_reducible refine (ihS k (Nat.lt_succ_self k) A7 c7 s.f5 l7 _ (Kd.aH H7.out (below_set (j:=6) (v:=(.slice B6 l6.length d6)) B0.out j3.out)) L7.out j6.out).mono ?_);rintro e w6 ⟨v,rfl,hn,hb⟩;refine ⟨_,rfl,?_⟩;obtain ⟨B7,d7,rfl⟩:=Kd.eP hn;have hle:=((below_set (j:=6) (v:=(.slice B6 l6.length d6)) B0.out j3.out)).size;have hl2:=cK (bI (p:=⟨g3,6,none⟩) X2.out ne23 (.slice B6 l6.length d6));have hl3:=cK (aS (cs':=#[(.int .i64 s.f0),(.int .i64 s.f1),(.int .i64 s.f2),(.int .i64 e1),(.int .i64 e2),(.slice B5 l5.length d5),(.slice B6 l6.length d6),(.slice none 0 0)]) X3.out 6 (.slice B6 l6.length d6) rfl);have hps:w5.heap.size≤(w5.setCell ⟨g3,6,none⟩ (.slice B6 l6.length d6)).heap.size:=(by simp [World.setCell]);have hq2:=fun q (hq:(w5.setCell ⟨g3,6,none⟩ (.slice B6 l6.length d6)).heap.size≤q)=>Nat.ne_of_gt (Nat.lt_of_lt_of_le hl2 hq);have hq3:=fun q (hq:(w5.setCell ⟨g3,6,none⟩ (.slice B6 l6.length d6)).heap.size≤q)=>Nat.ne_of_gt (Nat.lt_of_lt_of_le hl3 hq);have hO:=Kd.gL (Kd.fZ hn) hle;have O7:=Aside0.mk (Kd.dU (ok':=fun q=>(w.heap.size≤q∧q≠g2∧q≠g3)∧w5.heap.size≤q∧q < w6.heap.size) hO (fun q hq=>⟨⟨Nat.le_trans hle hq.2.1,hq2 q hq.2.1,hq3 q hq.2.1⟩,Nat.le_trans hps hq.2.1,hq.2.2.1⟩));clear hq2 hq3 hO;replace O5:=Aside0.mk (Kd.dM (Kd.cO (p:=⟨g3,6,none⟩) O5.out (fun q hq=>hq.1.2.2) (.slice B6 l6.length d6)) hb);replace O6:=Aside0.mk (Kd.dM (Kd.cO (p:=⟨g3,6,none⟩) O6.out (fun q hq=>hq.1.2.2) (.slice B6 l6.length d6)) hb);replace X1:=Aside0.mk (aN (bI (p:=⟨g3,6,none⟩) X1.out ne13 (.slice B6 l6.length d6)) hb);replace X2:=Aside0.mk (aN (bI (p:=⟨g3,6,none⟩) X2.out ne23 (.slice B6 l6.length d6)) hb);replace X3:=Aside0.mk (aN (aS (cs':=#[(.int .i64 s.f0),(.int .i64 s.f1),(.int .i64 s.f2),(.int .i64 e1),(.int .i64 e2),(.slice B5 l5.length d5),(.slice B6 l6.length d6),(.slice none 0 0)]) X3.out 6 (.slice B6 l6.length d6) rfl) hb);replace B0:=Aside0.mk (aB (below_set (j:=6) (v:=(.slice B6 l6.length d6)) B0.out j3.out) hb);clear hb hn hle hl2 hl3 hps;clear yp0 yo0 fo0 yp1 yo1 fo1 yp2 yo2 fo2 yp3 yo3 fo3 yp4 yo4 fo4 yp5 yo5 fo5 yp6 yo6 fo6 yp7 yo7 fo7;have yp0:w6.cell? ⟨g1,0,none⟩=some (.int .i64 s.f0):=aA X1.out 0;have yp1:w6.cell? ⟨g1,1,none⟩=some (.int .i64 s.f1):=aA X1.out 1;have yp2:w6.cell? ⟨g1,2,none⟩=some (.int .i64 s.f2):=aA X1.out 2;have yp3:w6.cell? ⟨g1,3,none⟩=some (.int .i64 s.f3.f0):=aA X1.out 3;have yp4:w6.cell? ⟨g1,4,none⟩=some (.int .i64 s.f3.f1):=aA X1.out 4;have yp5:w6.cell? ⟨g1,5,none⟩=some (.slice A5 s.f3.f2.length c5):=aA X1.out 5;have yp6:w6.cell? ⟨g1,6,none⟩=some (.slice A6 s.f4.length c6):=aA X1.out 6;have yp7:w6.cell? ⟨g1,7,none⟩=some (.slice A7 s.f5.length c7):=aA X1.out 7;have yo0:w6.cell? ⟨g3,0,none⟩=some (.int .i64 s.f0):=aA X3.out 0;have fo0:=aG X3.out 0;have yo1:w6.cell? ⟨g3,1,none⟩=some (.int .i64 s.f1):=aA X3.out 1;have fo1:=aG X3.out 1;have yo2:w6.cell? ⟨g3,2,none⟩=some (.int .i64 s.f2):=aA X3.out 2;have fo2:=aG X3.out 2;have yo3:w6.cell? ⟨g3,3,none⟩=some (.int .i64 e1):=aA X3.out 3;have fo3:=aG X3.out 3;have yo4:w6.cell? ⟨g3,4,none⟩=some (.int .i64 e2):=aA X3.out 4;have fo4:=aG X3.out 4;have yo5:w6.cell? ⟨g3,5,none⟩=some (.slice B5 l5.length d5):=aA X3.out 5;have fo5:=aG X3.out 5;have yo6:w6.cell? ⟨g3,6,none⟩=some (.slice B6 l6.length d6):=aA X3.out 6;have fo6:=aG X3.out 6;have yo7:w6.cell? ⟨g3,7,none⟩=some (.slice none 0 0):=aA X3.out 7;have fo7:=aG X3.out 7;have yr0:w6.cell? ⟨g2,0,none⟩=some (.int .i64 0):=aA X2.out 0;have fr0:=aG X2.out 0;have yr1:w6.cell? ⟨g2,1,none⟩=some (.int .i64 0):=aA X2.out 1;have fr1:=aG X2.out 1;have yr2:w6.cell? ⟨g2,2,none⟩=some (.int .i64 0):=aA X2.out 2;have fr2:=aG X2.out 2;have yr3:w6.cell? ⟨g2,3,none⟩=some (.int .i64 0):=aA X2.out 3;have fr3:=aG X2.out 3;have yr4:w6.cell? ⟨g2,4,none⟩=some (.int .i64 0):=aA X2.out 4;have fr4:=aG X2.out 4;have yr5:w6.cell? ⟨g2,5,none⟩=some (.slice none 0 0):=aA X2.out 5;have fr5:=aG X2.out 5;have yr6:w6.cell? ⟨g2,6,none⟩=some (.slice none 0 0):=aA X2.out 6;have fr6:=aG X2.out 6;have yr7:w6.cell? ⟨g2,7,none⟩=some (.slice none 0 0):=aA X2.out 7;have fr7:=aG X2.out 7)|fail)
 refine bodyPost_ret (results_cell_row rfl _ _ g2 70 #[(.int .i64 s.f0),(.int .i64 s.f1),(.int .i64 s.f2),(.int .i64 e1),(.int .i64 e2),(.slice B5 l5.length d5),(.slice B6 l6.length d6),(.slice B7 l7.length d7)] (0,0) _ rfl (aS (cs':=#[(.int .i64 s.f0),(.int .i64 s.f1),(.int .i64 s.f2),(.int .i64 e1),(.int .i64 e2),(.slice B5 l5.length d5),(.slice B6 l6.length d6),(.slice B7 l7.length d7)]) (aS (cs':=#[(.int .i64 s.f0),(.int .i64 s.f1),(.int .i64 s.f2),(.int .i64 e1),(.int .i64 e2),(.slice B5 l5.length d5),(.slice B6 l6.length d6),(.slice none 0 0)]) (aS (cs':=#[(.int .i64 s.f0),(.int .i64 s.f1),(.int .i64 s.f2),(.int .i64 e1),(.int .i64 e2),(.slice B5 l5.length d5),(.slice none 0 0),(.slice none 0 0)]) (aS (cs':=#[(.int .i64 s.f0),(.int .i64 s.f1),(.int .i64 s.f2),(.int .i64 e1),(.int .i64 e2),(.slice none 0 0),(.slice none 0 0),(.slice none 0 0)]) (aS (cs':=#[(.int .i64 s.f0),(.int .i64 s.f1),(.int .i64 s.f2),(.int .i64 e1),(.int .i64 0),(.slice none 0 0),(.slice none 0 0),(.slice none 0 0)]) (aS (cs':=#[(.int .i64 s.f0),(.int .i64 s.f1),(.int .i64 s.f2),(.int .i64 0),(.int .i64 0),(.slice none 0 0),(.slice none 0 0),(.slice none 0 0)]) (aS (cs':=#[(.int .i64 s.f0),(.int .i64 s.f1),(.int .i64 0),(.int .i64 0),(.int .i64 0),(.slice none 0 0),(.slice none 0 0),(.slice none 0 0)]) (aS (cs':=#[(.int .i64 s.f0),(.int .i64 0),(.int .i64 0),(.int .i64 0),(.int .i64 0),(.slice none 0 0),(.slice none 0 0),(.slice none 0 0)]) (bI (p:=⟨g3,7,none⟩) X2.out ne23 (.slice B7 l7.length d7)) 0 (.int .i64 s.f0) rfl) 1 (.int .i64 s.f1) rfl) 2 (.int .i64 s.f2) rfl) 3 (.int .i64 e1) rfl) 4 (.int .i64 e2) rfl) 5 (.slice B5 l5.length d5) rfl) 6 (.slice B6 l6.length d6) rfl) 7 (.slice B7 l7.length d7) rfl) Try.underlying70 rfl (by kernel_rfl)) rfl ?_
 have E5:=(Kd.cO (p:=⟨g2,7,none⟩) (Kd.cO (p:=⟨g2,6,none⟩) (Kd.cO (p:=⟨g2,5,none⟩) (Kd.cO (p:=⟨g2,4,none⟩) (Kd.cO (p:=⟨g2,3,none⟩) (Kd.cO (p:=⟨g2,2,none⟩) (Kd.cO (p:=⟨g2,1,none⟩) (Kd.cO (p:=⟨g2,0,none⟩) (Kd.cO (p:=⟨g3,7,none⟩) O5.out (fun q hq=>hq.1.2.2) (.slice B7 l7.length d7)) (fun q hq=>hq.1.2.1) (.int .i64 s.f0)) (fun q hq=>hq.1.2.1) (.int .i64 s.f1)) (fun q hq=>hq.1.2.1) (.int .i64 s.f2)) (fun q hq=>hq.1.2.1) (.int .i64 e1)) (fun q hq=>hq.1.2.1) (.int .i64 e2)) (fun q hq=>hq.1.2.1) (.slice B5 l5.length d5)) (fun q hq=>hq.1.2.1) (.slice B6 l6.length d6)) (fun q hq=>hq.1.2.1) (.slice B7 l7.length d7))
 have E6:=(Kd.cO (p:=⟨g2,7,none⟩) (Kd.cO (p:=⟨g2,6,none⟩) (Kd.cO (p:=⟨g2,5,none⟩) (Kd.cO (p:=⟨g2,4,none⟩) (Kd.cO (p:=⟨g2,3,none⟩) (Kd.cO (p:=⟨g2,2,none⟩) (Kd.cO (p:=⟨g2,1,none⟩) (Kd.cO (p:=⟨g2,0,none⟩) (Kd.cO (p:=⟨g3,7,none⟩) O6.out (fun q hq=>hq.1.2.2) (.slice B7 l7.length d7)) (fun q hq=>hq.1.2.1) (.int .i64 s.f0)) (fun q hq=>hq.1.2.1) (.int .i64 s.f1)) (fun q hq=>hq.1.2.1) (.int .i64 s.f2)) (fun q hq=>hq.1.2.1) (.int .i64 e1)) (fun q hq=>hq.1.2.1) (.int .i64 e2)) (fun q hq=>hq.1.2.1) (.slice B5 l5.length d5)) (fun q hq=>hq.1.2.1) (.slice B6 l6.length d6)) (fun q hq=>hq.1.2.1) (.slice B7 l7.length d7))
 have E7:=(Kd.cO (p:=⟨g2,7,none⟩) (Kd.cO (p:=⟨g2,6,none⟩) (Kd.cO (p:=⟨g2,5,none⟩) (Kd.cO (p:=⟨g2,4,none⟩) (Kd.cO (p:=⟨g2,3,none⟩) (Kd.cO (p:=⟨g2,2,none⟩) (Kd.cO (p:=⟨g2,1,none⟩) (Kd.cO (p:=⟨g2,0,none⟩) (Kd.cO (p:=⟨g3,7,none⟩) O7.out (fun q hq=>hq.1.2.2) (.slice B7 l7.length d7)) (fun q hq=>hq.1.2.1) (.int .i64 s.f0)) (fun q hq=>hq.1.2.1) (.int .i64 s.f1)) (fun q hq=>hq.1.2.1) (.int .i64 s.f2)) (fun q hq=>hq.1.2.1) (.int .i64 e1)) (fun q hq=>hq.1.2.1) (.int .i64 e2)) (fun q hq=>hq.1.2.1) (.slice B5 l5.length d5)) (fun q hq=>hq.1.2.1) (.slice B6 l6.length d6)) (fun q hq=>hq.1.2.1) (.slice B7 l7.length d7))
 refine ⟨B5,d5,B6,d6,B7,d7,rfl,kL _ _ _ _ _ _ (⟨s.f0,s.f1,s.f2,⟨e1,e2,l5⟩,l6,l7⟩:S70) E5 E6 E7 (fun q hq=>?_) (fun q=>⟨fun a=>⟨fun b=>?_,fun b=>?_⟩,fun a b=>?_⟩),(below_set (j:=7) (v:=(.slice B7 l7.length d7)) (below_set (j:=6) (v:=(.slice B6 l6.length d6)) (below_set (j:=5) (v:=(.slice B5 l5.length d5)) (below_set (j:=4) (v:=(.int .i64 e2)) (below_set (j:=3) (v:=(.int .i64 e1)) (below_set (j:=2) (v:=(.int .i64 s.f2)) (below_set (j:=1) (v:=(.int .i64 s.f1)) (below_set (j:=0) (v:=(.int .i64 s.f0)) (below_set (j:=7) (v:=(.slice B7 l7.length d7)) B0.out j3.out) j4.out) j4.out) j4.out) j4.out) j4.out) j4.out) j4.out) j4.out)⟩
 ·rcases hq with hq|hq|hq
  ·exact hq.1.1
  ·exact hq.1.1
  ·exact hq.1.1
 ·have:=a.2.2;have:=b.2.1;omega
 ·have:=a.2.2;have:=b.2.1;have:=j8.out;omega
 ·have:=a.2.2;have:=b.2.1;omega
theorem bJ.wN (k:Nat) (ihT:∀ m,m < k→eX.iJ m):bJ.iJ k:=by
 intro A0 c0 l0 r w hr0 hc0 h
 cases k with
 |zero=>exact absurd h (by simp [bJ.f])
 |succ k=>
 simp only [bJ.f] at h
 by_cases c2:l0.length≤2513169434916
 case neg=>rw [if_neg c2] at h;exact absurd h (by simp)
 rw [if_pos c2] at h
 have j4:=Aside0.mk hr0
 have ja:=Aside0.mk hc0
 have H':=Aside0.mk h
 have C2:=Aside0.mk c2
 clear hr0 hc0 h c2
 have p0:=eq_true (show 0≤(l0.length:Int) by omega)
 have p1:decide (0≤(l0.length:Int))=true:=decide_eq_true (by omega)
 go_enter Try.func15,Try.ntmps15
 go_wp2_with (first|((with_reducible refine bL (N:=7) rfl ?_);refine Kd.IQ iU _ 70 rfl (N:=7) rfl 37 _ _ rfl (l0.length:Int) rfl rfl Try.underlying37 (.agg #[(.int .i64 0),(.int .i64 0),(.int .i64 0),(.int .i64 0),(.int .i64 0),(.slice none 0 0),(.slice none 0 0),(.slice none 0 0)]) 112 wE rfl (by decide) (by omega) z70 (ok:=fun q=>w.heap.size≤q) (okp:=fun _=>False) (kL _ _ _ (fun _=>False) (fun _=>False) (fun _=>False) z70 (Kd.uV _ _ _ _ _) (Kd.uV _ _ _ _ _) (Kd.uV _ _ _ _ _) (fun _ hq=>by rcases hq with hq|hq|hq <;> exact hq) (fun _=>⟨fun hq=>hq.elim,fun hq=>hq.elim⟩)) (fun _ hq=>hq.elim) (Nat.le_refl _) (by omega) (by have:=C2.out;omega) (Below.refl _ _) (Nat.le_refl _) ?_;intro v3 w4 hn hb hg_ hnew_;clear hg_ hnew_;simp only [Int.toNat_natCast] at hn;have HO:=Aside0.mk hn;have HB:=Aside0.mk hb;clear hn hb)|fail)
 go_loopg [4] k (fun kq v4 w'=>∃ (x3:List S70) (x4:Int),v4= .int .i64 x4∧Aside0 (bJ.l0 kq l0 x3 x4=some r)∧Aside0 (kq≤k)∧Aside0 (Kd.S iU 70 w' w.heap.size (fun q=>w.heap.size≤q) v3 x3)∧Aside0 (Below w.heap.size w w'))
 case atStart=>exact ⟨_,0,rfl,H',⟨Nat.le_refl _⟩,HO,HB⟩
 case round=>
  clear H' p0 p1 HO HB
  obtain ⟨x3,x4,rfl,HA,j3,HO,HB⟩:=hrel
  cases gk with
  |zero=>exact absurd HA.out (by simp [bJ.l0])
  |succ k1=>
   have H:=HA.out
   clear HA
   simp only [bJ.l0] at H
   by_cases c6:x4 < (l0.length:Int)
   case neg=>
    rw [if_neg c6] at H
    have j5:decide (x4 < (l0.length:Int))=false:=decide_eq_false c6
    clear c6
    obtain rfl:=Option.some.inj H
    go_wp2
    go_ret
    exact ⟨_,rfl,HO.out,HB.out⟩
   rw [if_pos c6] at H
   by_cases c7:0≤x4
   case neg=>rw [if_neg c7] at H;exact absurd H (by simp)
   rw [if_pos c7] at H
   obtain ⟨s,hs,H⟩:=Option.bind_eq_some_iff.mp H
   by_cases c9:x4 < (x3.length:Int)
   case neg=>rw [if_neg c9] at H;exact absurd H (by simp)
   rw [if_pos c9] at H
   have HS:=Aside0.mk hs
   have H':=Aside0.mk H
   clear hs H
   obtain ⟨ad,A5,c5,A6,d6,A7,d7,e0,m0,m1,m2,m3,m4,m5,m6,m7,l5,g5,l6,g6,l7,g7⟩:=DT j4.out x4 c7 c6
   cases e0
   replace m0:=(HB.out.cell (World.block_lt_of_cell? w _ m0)).trans m0
   replace m1:=(HB.out.cell (World.block_lt_of_cell? w _ m1)).trans m1
   replace m2:=(HB.out.cell (World.block_lt_of_cell? w _ m2)).trans m2
   replace m3:=(HB.out.cell (World.block_lt_of_cell? w _ m3)).trans m3
   replace m4:=(HB.out.cell (World.block_lt_of_cell? w _ m4)).trans m4
   replace m5:=(HB.out.cell (World.block_lt_of_cell? w _ m5)).trans m5
   replace m6:=(HB.out.cell (World.block_lt_of_cell? w _ m6)).trans m6
   replace m7:=(HB.out.cell (World.block_lt_of_cell? w _ m7)).trans m7
   obtain ⟨go,co,eo,gb,gl,hgc⟩:=Kd.yJ HO.out (by omega)
   subst eo
   have G5:=Aside0.mk (Kd.aH g5 HB.out)
   have G6:=Aside0.mk (Kd.aH g6 HB.out)
   have G7:=Aside0.mk (Kd.aH g7 HB.out)
   have L5:=Aside0.mk l5
   have L6:=Aside0.mk l6
   have L7:=Aside0.mk l7
   have C7:=Aside0.mk c7
   have C9:=Aside0.mk c9
   have j5:decide (x4 < (l0.length:Int))=true:=decide_eq_true c6
   have q0:=eq_true c7
   have q1:=eq_true c6
   have q2:=eq_true c9
   clear g5 g6 g7 l5 l6 l7 gb gl hgc c6 c7 c9
   go_wp2_with (first|((with_reducible refine aD (f:=39) rfl ?_);refine aM (some 20) rfl rfl Try.func39 (by kernel_rfl) rfl #[.agg #[(.int .i64 (bW l0 x4).f0),(.int .i64 (bW l0 x4).f1),(.int .i64 (bW l0 x4).f2),(.int .i64 (bW l0 x4).f3.f0),(.int .i64 (bW l0 x4).f3.f1),(.slice A5 (bW l0 x4).f3.f2.length c5),(.slice A6 (bW l0 x4).f4.length d6),(.slice A7 (bW l0 x4).f5.length d7)]] rfl (by (try simp only [List.map_toArray,List.map_cons,List.map_nil]);first|done|rfl) ?_;(with_reducible refine (ihT k1 (by have:=j3.out;omega) (bW l0 x4) A5 c5 A6 d6 A7 d7 s _ G5.out L5.out G6.out L6.out G7.out L7.out HS.out).mono ?_);rintro e j6 ⟨B5,e5,B6,e6,B7,e7,rfl,hm,hb⟩;refine ⟨_,rfl,?_⟩;have SN:=Aside0.mk (iU.M_lower HB.out.size hm);have WS:=Aside0.mk HB.out.size;obtain ⟨oki,c,hcl,hM,hcc,hoki,hH⟩:=Kd.mI HO.out z70 x4 C7.out C9.out;have HH:=Aside0.mk (Kd.ES (Kd.ET hH) hb);have HCL:=Aside0.mk hcl;have j7:=Aside0.mk (aB HB.out hb);clear hm hb hcl hM hcc hoki hH HB HO)|((with_reducible refine iG (t:=70) (p:=21) rfl ?_);refine oH ?_)|fail)
   refine ⟨?_⟩
   refine Kd.lV iU (w0:=j6) w.heap.size rfl rfl 70 (.tmp 21) (.tmp 20) rfl 70 (g:=go) (o':=x4.toNat * 8) x4 0 x3 s _ [.int .i64 s.f0, .int .i64 s.f1, .int .i64 s.f2, .int .i64 s.f3.f0, .int .i64 s.f3.f1, .slice B5 s.f3.f2.length e5, .slice B6 s.f4.length e6, .slice B7 s.f5.length e7] c (fun q=>w.heap.size≤q) _ (fun q=>wr.heap.size≤q) ?ha ?ho rfl rfl ?ht ?h1 HH.out C7.out C9.out (Nat.le_refl 8) ?hM (fun q hq=> .inr ⟨Nat.le_trans WS.out hq,hq⟩) (Below.refl _ _) ?_
   (case ha=>first|rfl|(go_simp;done)|(go_simp;rfl))
   (case ho=>rfl)
   (case ht=>kernel_rfl)
   (case h1=>intro q hq;simp only [List.mem_cons,List.not_mem_nil,or_false] at hq;rcases hq with rfl|rfl|rfl|rfl|rfl|rfl|rfl|rfl <;> rfl)
   (case hM=>have hd:c.drop 8=[]:=List.drop_eq_nil_of_le (Nat.le_of_eq HCL.out);show iU.M _ _ _ _ ([] ++ _ ++ c.drop 8);rw [hd];exact SN.out)
   intro jb hn hb hg_
   have j8:=Aside0.mk hn
   have j9:=Aside0.mk (j7.out.trans hb)
   clear hn hb hg_
   go_wp2
   go_roundg k1
   case measure=>have:=j3.out;omega
   case rel=>exact ⟨_,wrap64 (x4 + 1),(by first|rfl|(simp;done)|(simp [*];done)),H',⟨by have:=j3.out;omega⟩,j8,j9⟩
theorem bJ.calls_allS (k:Nat):bJ.iJ k∧eX.iJ k:=by
 induction k using Nat.strongRecOn with
 | _ k ih=>exact ⟨bJ.wN k (fun m hm=>(ih m hm).2),eX.wN k (fun m hm=>(ih m hm).1)⟩
theorem bJ.callsS (k:Nat):bJ.iJ k:=(bJ.calls_allS k).1
attribute [local go_sem] max2_int min2_int max_two min_two max_three min_three max_four min_four
set_option linter.unusedVariables false
set_option linter.unusedSimpArgs false
theorem bB.mono_all:∀ k,(∀ y0 y1,LeO (bB.f k y0 y1) (bB.f (k + 1) y0 y1))∧(∀ y0 y1 y2,LeO (bB.l0 k y0 y1 y2) (bB.l0 (k + 1) y0 y1 y2))∧(∀ y0 y1 y2 y3,LeO (bV.f k y0 y1 y2 y3) (bV.f (k + 1) y0 y1 y2 y3))
 |0=>⟨fun _ _ r h=>by simp [bB.f] at h,fun _ _ _ r h=>by simp [bB.l0] at h,fun _ _ _ _ r h=>by simp [bV.f] at h⟩
 |k + 1=>by
  obtain ⟨ih0,ih1,ih2⟩:=bB.mono_all k
  refine ⟨?_,?_,?_⟩
  ·intro y0 y1
   unfold bB.f
   exact mo_
  ·intro y0 y1 y2
   unfold bB.l0
   exact mo_
  ·intro y0 y1 y2 y3
   unfold bV.f
   exact mo_
theorem bB.mono:∀ a0 a1 k,LeO (bB.f k a0 a1) (bB.f (k + 1) a0 a1):=by
 intro a0 a1 k
 obtain ⟨ih0,ih1,ih2⟩:=bB.mono_all k
 exact ih0 a0 a1
theorem bV.mono:∀ a0 a1 a2 a3 k,LeO (bV.f k a0 a1 a2 a3) (bV.f (k + 1) a0 a1 a2 a3):=by
 intro a0 a1 a2 a3 k
 obtain ⟨ih0,ih1,ih2⟩:=bB.mono_all k
 exact ih2 a0 a1 a2 a3
abbrev bB.bF (k:Nat):Prop:=∀ (A0:Option Addr) (c0:Nat) (l0:List (S24)) (a1:Int) (r:Int) (w:World) (hr0:Kd.C k24 w A0 l0.length l0) (hc0:l0.length≤c0) (h:bB.f k l0 a1=some r),
  Calls Try.prog 27 #[.slice A0 l0.length c0, .int .i64 a1] w fun e w'=>e= .returned (.int .i64 r)∧Below w.heap.size w w'
abbrev bV.bF (k:Nat):Prop:=∀ (a0_0:Int) (a0_1:Int) (A0_2:Option Addr) (c0_2:Nat) (l0_2:List (S24)) (a1:Int) (r:Int) (w:World) (hr0_2:Kd.C k24 w A0_2 l0_2.length l0_2) (hc0_2:l0_2.length≤c0_2) (h:bV.f k a0_0 a0_1 l0_2 a1=some r),
  Calls Try.prog 6 #[.agg #[.int .i64 a0_0, .int .i64 a0_1, .slice A0_2 l0_2.length c0_2], .int .i64 a1] w fun e w'=>e= .returned (.int .i64 r)∧Below w.heap.size w w'
theorem bQ.mono_all:∀ k,(∀ y0 y1 y2 y3 y4 y5 y6 y7 y8,LeO (bQ.f k y0 y1 y2 y3 y4 y5 y6 y7 y8) (bQ.f (k + 1) y0 y1 y2 y3 y4 y5 y6 y7 y8))∧(∀ y0 y1,LeO (bC.f k y0 y1) (bC.f (k + 1) y0 y1))∧(∀ y0 y1 y2,LeO (bC.l0 k y0 y1 y2) (bC.l0 (k + 1) y0 y1 y2))
 |0=>⟨fun _ _ _ _ _ _ _ _ _ r h=>by simp [bQ.f] at h,fun _ _ r h=>by simp [bC.f] at h,fun _ _ _ r h=>by simp [bC.l0] at h⟩
 |k + 1=>by
  obtain ⟨ih0,ih1,ih2⟩:=bQ.mono_all k
  refine ⟨?_,?_,?_⟩
  ·intro y0 y1 y2 y3 y4 y5 y6 y7 y8
   unfold bQ.f
   have m0:=@bV.mono
   exact mo_
  ·intro y0 y1
   unfold bC.f
   have m0:=@bV.mono
   exact mo_
  ·intro y0 y1 y2
   unfold bC.l0
   have m0:=@bV.mono
   exact mo_
theorem bQ.mono:∀ a0 a1 a2 a3 a4 a5 a6 a7 a8 k,LeO (bQ.f k a0 a1 a2 a3 a4 a5 a6 a7 a8) (bQ.f (k + 1) a0 a1 a2 a3 a4 a5 a6 a7 a8):=by
 intro a0 a1 a2 a3 a4 a5 a6 a7 a8 k
 obtain ⟨ih0,ih1,ih2⟩:=bQ.mono_all k
 exact ih0 a0 a1 a2 a3 a4 a5 a6 a7 a8
theorem bC.mono:∀ a0 a1 k,LeO (bC.f k a0 a1) (bC.f (k + 1) a0 a1):=by
 intro a0 a1 k
 obtain ⟨ih0,ih1,ih2⟩:=bQ.mono_all k
 exact ih1 a0 a1
abbrev bQ.bF (k:Nat):Prop:=∀ (a0_0:Int) (a0_1:Int) (a0_2:Int) (a0_3:Int) (a0_4:Int) (A0_5:Option Addr) (c0_5:Nat) (l0_5:List (S24)) (A0_6:Option Addr) (c0_6:Nat) (l0_6:List (S66)) (A0_7:Option Addr) (c0_7:Nat) (l0_7:List (S66)) (a1:Int) (r:Int) (w:World) (hr0_5:Kd.C k24 w A0_5 l0_5.length l0_5) (hc0_5:l0_5.length≤c0_5) (hr0_6:Kd.C k66 w A0_6 l0_6.length l0_6) (hc0_6:l0_6.length≤c0_6) (hr0_7:Kd.C k66 w A0_7 l0_7.length l0_7) (hc0_7:l0_7.length≤c0_7) (h:bQ.f k a0_0 a0_1 a0_2 a0_3 a0_4 l0_5 l0_6 l0_7 a1=some r),
  Calls Try.prog 36 #[.agg #[.int .i64 a0_0, .int .i64 a0_1, .int .i64 a0_2, .int .i64 a0_3, .int .i64 a0_4, .slice A0_5 l0_5.length c0_5, .slice A0_6 l0_6.length c0_6, .slice A0_7 l0_7.length c0_7], .int .i64 a1] w fun e w'=>e= .returned (.int .i64 r)∧Below w.heap.size w w'
abbrev bC.bF (k:Nat):Prop:=∀ (A0:Option Addr) (c0:Nat) (l0:List (S66)) (a1:Int) (r:Int) (w:World) (hr0:Kd.C k66 w A0 l0.length l0) (hc0:l0.length≤c0) (h:bC.f k l0 a1=some r),
  Calls Try.prog 13 #[.slice A0 l0.length c0, .int .i64 a1] w fun e w'=>e= .returned (.int .i64 r)∧Below w.heap.size w w'
theorem bB.step (k:Nat) (ih_laws_szExprS:∀ m,m < k→bB.bF m) (ih_laws_szExpr:∀ m,m < k→bV.bF m):bB.bF k:=by
 intro A0 c0 l0 a1 r w hr0 hc0 h
 cases k with
 |zero=>exact absurd h (by simp [bB.f])
 |succ k=>
 simp only [bB.f] at h
 have hu24:=Try.underlying24
 have jl:=am hr0
 have jn:=am hc0
 clear hr0 hc0
 have HB:=am (Below.refl w.heap.size w)
 have H:(if (wrap64 (a1 - (l0.length:Int))) < 0 then (some (-1)) else (bB.l0 k l0 (wrap64 (a1 - (l0.length:Int))) 0))=some r:=h
 clear h
 by_cases c3:(wrap64 (a1 - (l0.length:Int))) < 0
 ·rw [if_pos c3] at H
  have jf:decide ((wrap64 (a1 - (l0.length:Int))) < 0)=true:=decide_eq_true c3
  clear c3
  obtain rfl:=Option.some.inj H
  go_enter Try.func27,Try.ntmps27
  go_wp2
  go_ret
  exact ⟨rr_,dK⟩
 rw [if_neg c3] at H
 have jf:decide ((wrap64 (a1 - (l0.length:Int))) < 0)=false:=decide_eq_false c3
 clear c3
 have H':=am H
 clear H
 go_enter Try.func27,Try.ntmps27
 go_wp2
 go_loopg [1,5] k (fun kq v1 v5 w'=>∃ (j7:Int) (j3:Int),v1= .int .i64 j7∧v5= .int .i64 j3∧Aside0 (bB.l0 kq l0 j7 j3=some r)∧Aside0 (kq≤k)∧Aside0 (Below w.heap.size w w'))
 case atStart=>exact ⟨(wrap64 (a1 - (l0.length:Int))),(0),sd_,sd_,H',⟨Nat.le_refl _⟩,⟨dK⟩⟩
 case round=>
  clear H'
  try clear c3
  try clear jf
  obtain ⟨j7,j3,rfl,rfl,HA,jg,HB⟩:=hrel
  cases gk with
  |zero=>exact absurd HA.out (by simp [bB.l0])
  |succ k1=>
   have H:=HA.out
   clear HA
   simp only [bB.l0] at H
   by_cases c4:j3 < (l0.length:Int)
   ·rw [if_pos c4] at H
    have jh:decide (j3 < (l0.length:Int))=true:=decide_eq_true c4
    clear c4
    by_cases c5:0≤j3
    ·rw [if_pos c5] at H
     have jm:decide (0≤j3)=true:=decide_eq_true c5
     clear c5
     obtain ⟨je,A6,H⟩:=bsa H
     (try dsimp only at H)
     by_cases c7:je < 0
     ·rw [if_pos c7] at H
      have ji:decide (je < 0)=true:=decide_eq_true c7
      clear c7
      obtain rfl:=Option.some.inj H
      have jc:0≤(j3:Int):=of_decide_eq_true bR
      have jd:j3 < (l0.length:Int):=of_decide_eq_true bR
      obtain ⟨jj,ja,jb,jk,j4,j5,j6,hl21_2,hi21_2⟩:=DR jl.out j3 jc jd
      cases jk
      replace j4:=(HB.out.cell (World.block_lt_of_cell? w _ j4)).trans j4
      replace j5:=(HB.out.cell (World.block_lt_of_cell? w _ j5)).trans j5
      replace j6:=(HB.out.cell (World.block_lt_of_cell? w _ j6)).trans j6
      have j8:=am hi21_2
      have j9:=am hl21_2
      clear hi21_2 hl21_2
      replace jc:=eq_true jc
      replace jd:=eq_true jd
      go_wp2_with (first|((with_reducible refine aD (f:=6) rfl ?_);refine aM (some 23) rfl rfl Try.func6 (by kernel_rfl) rfl #[.agg #[.int .i64 ((fM l0 j3).f0), .int .i64 ((fM l0 j3).f1), .slice ja ((fM l0 j3).f2).length jb], .int .i64 j7] rfl dB ?_;(with_reducible refine (ih_laws_szExpr k1 (by have:=jg.out;omega) ((fM l0 j3).f0) ((fM l0 j3).f1) _ _ ((fM l0 j3).f2) j7 je _ (aC_ (Kd.aH j8.out HB.out)) j9.out A6.out).mono ?_);rintro e w8 ⟨rfl,hb⟩;refine ⟨_,rfl,?_⟩;replace HB:=am (aB dK hb);(try clear hb)))
      go_ret
      exact ⟨rr_,dK⟩
     rw [if_neg c7] at H
     have ji:decide (je < 0)=false:=decide_eq_false c7
     clear c7
     have H':=am H
     clear H
     have jc:0≤(j3:Int):=of_decide_eq_true bR
     have jd:j3 < (l0.length:Int):=of_decide_eq_true bR
     obtain ⟨jj,ja,jb,jk,j4,j5,j6,hl21_2,hi21_2⟩:=DR jl.out j3 jc jd
     cases jk
     replace j4:=(HB.out.cell (World.block_lt_of_cell? w _ j4)).trans j4
     replace j5:=(HB.out.cell (World.block_lt_of_cell? w _ j5)).trans j5
     replace j6:=(HB.out.cell (World.block_lt_of_cell? w _ j6)).trans j6
     have j8:=am hi21_2
     have j9:=am hl21_2
     clear hi21_2 hl21_2
     replace jc:=eq_true jc
     replace jd:=eq_true jd
     go_wp2_with (first|((with_reducible refine aD (f:=6) rfl ?_);refine aM (some 23) rfl rfl Try.func6 (by kernel_rfl) rfl #[.agg #[.int .i64 ((fM l0 j3).f0), .int .i64 ((fM l0 j3).f1), .slice ja ((fM l0 j3).f2).length jb], .int .i64 j7] rfl dB ?_;(with_reducible refine (ih_laws_szExpr k1 (by have:=jg.out;omega) ((fM l0 j3).f0) ((fM l0 j3).f1) _ _ ((fM l0 j3).f2) j7 je _ (aC_ (Kd.aH j8.out HB.out)) j9.out A6.out).mono ?_);rintro e w9 ⟨rfl,hb⟩;refine ⟨_,rfl,?_⟩;replace HB:=am (aB dK hb);(try clear hb)))
     go_roundg k1
     case measure=>have:=jg.out;omega
     case rel=>exact ⟨(je),(wrap64 (j3 + 1)),sd_,sd_,H',⟨by have:=jg.out;omega⟩,⟨dK⟩⟩
    rw [if_neg c5] at H
    exact absurd H (by simp)
   rw [if_neg c4] at H
   have jh:decide (j3 < (l0.length:Int))=false:=decide_eq_false c4
   clear c4
   obtain rfl:=Option.some.inj H
   go_wp2
   go_ret
   exact ⟨rr_,dK⟩
theorem bV.step (k:Nat) (ih_laws_szExprS:∀ m,m < k→bB.bF m) (ih_laws_szExpr:∀ m,m < k→bV.bF m):bV.bF k:=by
 intro jb jc j6 j7 j3 a1 r w hr0_2 hc0_2 h
 cases k with
 |zero=>exact absurd h (by simp [bV.f])
 |succ k=>
 simp only [bV.f] at h
 have hu24:=Try.underlying24
 have j8:=am hr0_2
 have j9:=am hc0_2
 clear hr0_2 hc0_2
 have HB:=am (Below.refl w.heap.size w)
 have H:((bB.f k j3 a1).bind fun j4=>(if j4 < 0 then (some (-1)) else (some j4)))=some r:=h
 clear h
 obtain ⟨j4,A3,H⟩:=bsa H
 (try dsimp only at H)
 have HH_:=am H
 clear H
 go_enter Try.func6,Try.ntmps6
 go_upto_region 2 with (first|((with_reducible refine bL (N:=2) rfl ?_);refine cB rfl (N:=2) rfl (cs:=#[.int .i64 jb, .int .i64 jc, .slice j6 j3.length j7]) (t:=24) rn_ ?_;intro ja hg w5 hbox hb;have j5:=am (hbox);have jk:=am ((by rw [hg];exact (aQ dK):w.heap.size≤ja));have GE21:=am ((by rw [hg];exact (aQ dK):w.heap.size≤ja));replace HB:=am (aB dK hb);clear hb hbox hg;obtain ⟨jd,je,jf,jg,jh,ji⟩:=fA j5.out)|((with_reducible refine aD (f:=27) rfl ?_);refine aM (some 8) rfl rfl Try.func27 (by kernel_rfl) rfl #[.slice j6 j3.length j7, .int .i64 a1] rfl dB ?_;(with_reducible refine (ih_laws_szExprS k (by omega) _ _ j3 a1 j4 _ (aC_ (Kd.aH j8.out HB.out)) j9.out A3.out).mono ?_);rintro e w7 ⟨rfl,hb⟩;refine ⟨_,rfl,?_⟩;replace j5:=bbP j5 hb;replace HB:=am (aB lT hb);(try clear hb)))
 have H:=HH_.out
 clear HH_
 by_cases c4:j4 < 0
 ·rw [if_pos c4] at H
  have jj:decide (j4 < 0)=true:=decide_eq_true c4
  clear c4
  obtain rfl:=Option.some.inj H
  go_wp2
  go_ret
  exact ⟨rr_,lT⟩
 rw [if_neg c4] at H
 have jj:decide (j4 < 0)=false:=decide_eq_false c4
 clear c4
 obtain rfl:=Option.some.inj H
 go_wp2
 go_ret
 exact ⟨rr_,lT⟩
theorem bB.calls_all (k:Nat):bB.bF k∧bV.bF k:=by
 induction k using Nat.strongRecOn with
 | _ k ih=>exact ⟨bB.step k (ih_laws_szExprS:=fun m hm=>(ih m hm).1) (ih_laws_szExpr:=fun m hm=>(ih m hm).2),bV.step k (ih_laws_szExprS:=fun m hm=>(ih m hm).1) (ih_laws_szExpr:=fun m hm=>(ih m hm).2)⟩
theorem bB.calls (k:Nat):bB.bF k:=(bB.calls_all k).1
theorem bV.calls (k:Nat):bV.bF k:=(bB.calls_all k).2
theorem bQ.step (k:Nat) (ih_laws_szStmt:∀ m,m < k→bQ.bF m) (ih_laws_szStmtS:∀ m,m < k→bC.bF m):bQ.bF k:=by
 intro qJ qK qL je jf jk jl jg ja jb j4 jh ji j5 a1 r w hr0_5 hc0_5 hr0_6 hc0_6 hr0_7 hc0_7 h
 cases k with
 |zero=>exact absurd h (by simp [bQ.f])
 |succ k=>
 simp only [bQ.f] at h
 have hu66:=Try.underlying66
 have hu24:=Try.underlying24
 have jm:=am hr0_5
 have jn:=am hc0_5
 clear hr0_5 hc0_5
 have j6:=am hr0_6
 have j7:=am hc0_6
 clear hr0_6 hc0_6
 have jc:=am hr0_7
 have jd:=am hc0_7
 clear hr0_7 hc0_7
 have HB:=am (Below.refl w.heap.size w)
 have H:=h
 clear h
 obtain ⟨j8,A3,H⟩:=bsa H
 (try dsimp only at H)
 have HH_:=am H
 clear H
 go_enter Try.func36,Try.ntmps36
 go_upto_region 2 with (first|((with_reducible refine bL (N:=2) rfl ?_);refine cB rfl (N:=2) rfl (cs:=#[.int .i64 qJ, .int .i64 qK, .int .i64 qL, .int .i64 je, .int .i64 jf, .slice jk jg.length jl, .slice ja j4.length jb, .slice jh j5.length ji]) (t:=66) rn_ ?_;intro jo hg w5 hbox hb;have j3:=am (hbox);have z6:=am ((by rw [hg];exact (aQ dK):w.heap.size≤jo));have GE32:=am ((by rw [hg];exact (aQ dK):w.heap.size≤jo));replace HB:=am (aB dK hb);clear hb hbox hg;obtain ⟨qM,qN,qO,qP,qQ,qR,qS,qT,qU,qV,qW,qX,qY,qZ,z0,z1⟩:=dH j3.out)|((with_reducible refine aD (f:=6) rfl ?_);refine aM (some 8) rfl rfl Try.func6 (by kernel_rfl) rfl #[.agg #[.int .i64 je, .int .i64 jf, .slice jk jg.length jl], .int .i64 a1] rfl dB ?_;(with_reducible refine (bV.calls k je jf _ _ jg a1 j8 _ (aC_ (Kd.aH jm.out HB.out)) jn.out A3.out).mono ?_);rintro e w7 ⟨rfl,hb⟩;refine ⟨_,rfl,?_⟩;replace j3:=bbP j3 hb;replace HB:=am (aB rF hb);(try clear hb)))
 have H:=HH_.out
 clear HH_
 by_cases c4:j8 < 0
 ·rw [if_pos c4] at H
  have z2:decide (j8 < 0)=true:=decide_eq_true c4
  clear c4
  obtain rfl:=Option.some.inj H
  go_wp2
  go_ret
  exact ⟨rr_,rF⟩
 rw [if_neg c4] at H
 have z2:decide (j8 < 0)=false:=decide_eq_false c4
 clear c4
 obtain ⟨j9,A8,H⟩:=bsa H
 (try dsimp only at H)
 by_cases c9:j9 < 0
 ·rw [if_pos c9] at H
  have z3:decide (j9 < 0)=true:=decide_eq_true c9
  clear c9
  obtain rfl:=Option.some.inj H
  obtain ⟨jr,js,jt,ju,jv,jw,jx,jy,jz,jA,jB,jC,jD,jE,jF,jG⟩:=dH j3.out
  go_wp2_with (first|((with_reducible refine aD (f:=13) rfl ?_);refine aM (some 14) rfl rfl Try.func13 (by kernel_rfl) rfl #[.slice ja j4.length jb, .int .i64 j8] rfl dB ?_;(with_reducible refine (ih_laws_szStmtS k (by omega) _ _ j4 j8 j9 _ (aC_ (Kd.aH j6.out HB.out)) j7.out A8.out).mono ?_);rintro e z7 ⟨rfl,hb⟩;refine ⟨_,rfl,?_⟩;replace j3:=bbP j3 hb;replace HB:=am (aB rF hb);(try clear hb)))
  go_ret
  exact ⟨rr_,rF⟩
 rw [if_neg c9] at H
 have z3:decide (j9 < 0)=false:=decide_eq_false c9
 clear c9
 obtain ⟨jp,z4,H⟩:=bsm H
 (try dsimp only at H)
 have z5:=am z4
 clear z4
 by_cases jj:jp < 0
 ·rw [if_pos jj] at H
  have jq:decide (jp < 0)=true:=decide_eq_true jj
  clear jj
  obtain rfl:=Option.some.inj H
  obtain ⟨jH,jI,jJ,jK,jL,jM,jN,jO,jP,jQ,jR,jS,jT,jU,jV,jW⟩:=dH j3.out
  go_wp2_with (first|((with_reducible refine aD (f:=13) rfl ?_);refine aM (some 14) rfl rfl Try.func13 (by kernel_rfl) rfl #[.slice ja j4.length jb, .int .i64 j8] rfl dB ?_;(with_reducible refine (ih_laws_szStmtS k (by omega) _ _ j4 j8 j9 _ (aC_ (Kd.aH j6.out HB.out)) j7.out A8.out).mono ?_);rintro e z8 ⟨rfl,hb⟩;refine ⟨_,rfl,?_⟩;replace j3:=bbP j3 hb;replace HB:=am (aB rF hb);(try clear hb);obtain ⟨jX,jY,jZ,q0,q1,q2,q3,q4,q5,q6,q7,q8,q9,qa,qb,qc⟩:=dH j3.out)|((with_reducible refine aD (f:=13) rfl ?_);refine aM (some 20) rfl rfl Try.func13 (by kernel_rfl) rfl #[.slice jh j5.length ji, .int .i64 j9] rfl dB ?_;(with_reducible refine (ih_laws_szStmtS k (by omega) _ _ j5 j9 jp _ (aC_ (Kd.aH jc.out HB.out)) jd.out z5.out).mono ?_);rintro e z9 ⟨rfl,hb⟩;refine ⟨_,rfl,?_⟩;replace j3:=bbP j3 hb;replace HB:=am (aB rF hb);(try clear hb)))
  go_ret
  exact ⟨rr_,rF⟩
 rw [if_neg jj] at H
 have jq:decide (jp < 0)=false:=decide_eq_false jj
 clear jj
 obtain rfl:=Option.some.inj H
 obtain ⟨qd,qe,qf,qg,qh,qi,qj,qk,ql,qm,qn,qo,qp,qq,qr,qs⟩:=dH j3.out
 go_wp2_with (first|((with_reducible refine aD (f:=13) rfl ?_);refine aM (some 14) rfl rfl Try.func13 (by kernel_rfl) rfl #[.slice ja j4.length jb, .int .i64 j8] rfl dB ?_;(with_reducible refine (ih_laws_szStmtS k (by omega) _ _ j4 j8 j9 _ (aC_ (Kd.aH j6.out HB.out)) j7.out A8.out).mono ?_);rintro e za ⟨rfl,hb⟩;refine ⟨_,rfl,?_⟩;replace j3:=bbP j3 hb;replace HB:=am (aB rF hb);(try clear hb);obtain ⟨qt,qu,qv,qw,qx,qy,qz,qA,qB,qC,qD,qE,qF,qG,qH,qI⟩:=dH j3.out)|((with_reducible refine aD (f:=13) rfl ?_);refine aM (some 20) rfl rfl Try.func13 (by kernel_rfl) rfl #[.slice jh j5.length ji, .int .i64 j9] rfl dB ?_;(with_reducible refine (ih_laws_szStmtS k (by omega) _ _ j5 j9 jp _ (aC_ (Kd.aH jc.out HB.out)) jd.out z5.out).mono ?_);rintro e zb ⟨rfl,hb⟩;refine ⟨_,rfl,?_⟩;replace j3:=bbP j3 hb;replace HB:=am (aB rF hb);(try clear hb)))
 go_ret
 exact ⟨rr_,rF⟩
theorem bC.step (k:Nat) (ih_laws_szStmt:∀ m,m < k→bQ.bF m) (ih_laws_szStmtS:∀ m,m < k→bC.bF m):bC.bF k:=by
 intro A0 c0 l0 a1 r w hr0 hc0 h
 cases k with
 |zero=>exact absurd h (by simp [bC.f])
 |succ k=>
 simp only [bC.f] at h
 have hu66:=Try.underlying66
 have jy:=am hr0
 have jA:=am hc0
 clear hr0 hc0
 have HB:=am (Below.refl w.heap.size w)
 have H:(if (wrap64 (a1 - (l0.length:Int))) < 0 then (some (-1)) else (bC.l0 k l0 (wrap64 (a1 - (l0.length:Int))) 0))=some r:=h
 clear h
 by_cases c3:(wrap64 (a1 - (l0.length:Int))) < 0
 ·rw [if_pos c3] at H
  have js:decide ((wrap64 (a1 - (l0.length:Int))) < 0)=true:=decide_eq_true c3
  clear c3
  obtain rfl:=Option.some.inj H
  go_enter Try.func13,Try.ntmps13
  go_wp2
  go_ret
  exact ⟨rr_,dK⟩
 rw [if_neg c3] at H
 have js:decide ((wrap64 (a1 - (l0.length:Int))) < 0)=false:=decide_eq_false c3
 clear c3
 have H':=am H
 clear H
 go_enter Try.func13,Try.ntmps13
 go_wp2
 go_loopg [1,5] k (fun kq v1 v5 w'=>∃ (jc:Int) (j3:Int),v1= .int .i64 jc∧v5= .int .i64 j3∧Aside0 (bC.l0 kq l0 jc j3=some r)∧Aside0 (kq≤k)∧Aside0 (Below w.heap.size w w'))
 case atStart=>exact ⟨(wrap64 (a1 - (l0.length:Int))),(0),sd_,sd_,H',⟨Nat.le_refl _⟩,⟨dK⟩⟩
 case round=>
  clear H'
  try clear c3
  try clear js
  obtain ⟨jc,j3,rfl,rfl,HA,jt,HB⟩:=hrel
  cases gk with
  |zero=>exact absurd HA.out (by simp [bC.l0])
  |succ k1=>
   have H:=HA.out
   clear HA
   simp only [bC.l0] at H
   by_cases c4:j3 < (l0.length:Int)
   ·rw [if_pos c4] at H
    have ju:decide (j3 < (l0.length:Int))=true:=decide_eq_true c4
    clear c4
    by_cases c5:0≤j3
    ·rw [if_pos c5] at H
     have jz:decide (0≤j3)=true:=decide_eq_true c5
     clear c5
     obtain ⟨jr,A6,H⟩:=bsa H
     (try dsimp only at H)
     by_cases c7:jr < 0
     ·rw [if_pos c7] at H
      have jv:decide (jr < 0)=true:=decide_eq_true c7
      clear c7
      obtain rfl:=Option.some.inj H
      have jp:0≤(j3:Int):=of_decide_eq_true bR
      have jq:j3 < (l0.length:Int):=of_decide_eq_true bR
      obtain ⟨jw,jj,jk,jl,jm,jn,jo,jx,j4,j5,j6,j7,j8,j9,ja,jb,hl21_5,hi21_5,hl21_6,hi21_6,hl21_7,hi21_7⟩:=DT jy.out j3 jp jq
      cases jx
      replace j4:=(HB.out.cell (World.block_lt_of_cell? w _ j4)).trans j4
      replace j5:=(HB.out.cell (World.block_lt_of_cell? w _ j5)).trans j5
      replace j6:=(HB.out.cell (World.block_lt_of_cell? w _ j6)).trans j6
      replace j7:=(HB.out.cell (World.block_lt_of_cell? w _ j7)).trans j7
      replace j8:=(HB.out.cell (World.block_lt_of_cell? w _ j8)).trans j8
      replace j9:=(HB.out.cell (World.block_lt_of_cell? w _ j9)).trans j9
      replace ja:=(HB.out.cell (World.block_lt_of_cell? w _ ja)).trans ja
      replace jb:=(HB.out.cell (World.block_lt_of_cell? w _ jb)).trans jb
      have jd:=am hi21_5
      have je:=am hl21_5
      clear hi21_5 hl21_5
      have jf:=am hi21_6
      have jg:=am hl21_6
      clear hi21_6 hl21_6
      have jh:=am hi21_7
      have ji:=am hl21_7
      clear hi21_7 hl21_7
      replace jp:=eq_true jp
      replace jq:=eq_true jq
      go_wp2_with (first|((with_reducible refine aD (f:=36) rfl ?_);refine aM (some 23) rfl rfl Try.func36 (by kernel_rfl) rfl #[.agg #[.int .i64 ((bW l0 j3).f0), .int .i64 ((bW l0 j3).f1), .int .i64 ((bW l0 j3).f2), .int .i64 ((bW l0 j3).f3.f0), .int .i64 ((bW l0 j3).f3.f1), .slice jj ((bW l0 j3).f3.f2).length jk, .slice jl ((bW l0 j3).f4).length jm, .slice jn ((bW l0 j3).f5).length jo], .int .i64 jc] rfl dB ?_;(with_reducible refine (ih_laws_szStmt k1 (by have:=jt.out;omega) ((bW l0 j3).f0) ((bW l0 j3).f1) ((bW l0 j3).f2) ((bW l0 j3).f3.f0) ((bW l0 j3).f3.f1) _ _ ((bW l0 j3).f3.f2) _ _ ((bW l0 j3).f4) _ _ ((bW l0 j3).f5) jc jr _ (aC_ (Kd.aH jd.out HB.out)) je.out (aC_ (Kd.aH jf.out HB.out)) jg.out (aC_ (Kd.aH jh.out HB.out)) ji.out A6.out).mono ?_);rintro e w8 ⟨rfl,hb⟩;refine ⟨_,rfl,?_⟩;replace HB:=am (aB dK hb);(try clear hb)))
      go_ret
      exact ⟨rr_,dK⟩
     rw [if_neg c7] at H
     have jv:decide (jr < 0)=false:=decide_eq_false c7
     clear c7
     have H':=am H
     clear H
     have jp:0≤(j3:Int):=of_decide_eq_true bR
     have jq:j3 < (l0.length:Int):=of_decide_eq_true bR
     obtain ⟨jw,jj,jk,jl,jm,jn,jo,jx,j4,j5,j6,j7,j8,j9,ja,jb,hl21_5,hi21_5,hl21_6,hi21_6,hl21_7,hi21_7⟩:=DT jy.out j3 jp jq
     cases jx
     replace j4:=(HB.out.cell (World.block_lt_of_cell? w _ j4)).trans j4
     replace j5:=(HB.out.cell (World.block_lt_of_cell? w _ j5)).trans j5
     replace j6:=(HB.out.cell (World.block_lt_of_cell? w _ j6)).trans j6
     replace j7:=(HB.out.cell (World.block_lt_of_cell? w _ j7)).trans j7
     replace j8:=(HB.out.cell (World.block_lt_of_cell? w _ j8)).trans j8
     replace j9:=(HB.out.cell (World.block_lt_of_cell? w _ j9)).trans j9
     replace ja:=(HB.out.cell (World.block_lt_of_cell? w _ ja)).trans ja
     replace jb:=(HB.out.cell (World.block_lt_of_cell? w _ jb)).trans jb
     have jd:=am hi21_5
     have je:=am hl21_5
     clear hi21_5 hl21_5
     have jf:=am hi21_6
     have jg:=am hl21_6
     clear hi21_6 hl21_6
     have jh:=am hi21_7
     have ji:=am hl21_7
     clear hi21_7 hl21_7
     replace jp:=eq_true jp
     replace jq:=eq_true jq
     go_wp2_with (first|((with_reducible refine aD (f:=36) rfl ?_);refine aM (some 23) rfl rfl Try.func36 (by kernel_rfl) rfl #[.agg #[.int .i64 ((bW l0 j3).f0), .int .i64 ((bW l0 j3).f1), .int .i64 ((bW l0 j3).f2), .int .i64 ((bW l0 j3).f3.f0), .int .i64 ((bW l0 j3).f3.f1), .slice jj ((bW l0 j3).f3.f2).length jk, .slice jl ((bW l0 j3).f4).length jm, .slice jn ((bW l0 j3).f5).length jo], .int .i64 jc] rfl dB ?_;(with_reducible refine (ih_laws_szStmt k1 (by have:=jt.out;omega) ((bW l0 j3).f0) ((bW l0 j3).f1) ((bW l0 j3).f2) ((bW l0 j3).f3.f0) ((bW l0 j3).f3.f1) _ _ ((bW l0 j3).f3.f2) _ _ ((bW l0 j3).f4) _ _ ((bW l0 j3).f5) jc jr _ (aC_ (Kd.aH jd.out HB.out)) je.out (aC_ (Kd.aH jf.out HB.out)) jg.out (aC_ (Kd.aH jh.out HB.out)) ji.out A6.out).mono ?_);rintro e w9 ⟨rfl,hb⟩;refine ⟨_,rfl,?_⟩;replace HB:=am (aB dK hb);(try clear hb)))
     go_roundg k1
     case measure=>have:=jt.out;omega
     case rel=>exact ⟨(jr),(wrap64 (j3 + 1)),sd_,sd_,H',⟨by have:=jt.out;omega⟩,⟨dK⟩⟩
    rw [if_neg c5] at H
    exact absurd H (by simp)
   rw [if_neg c4] at H
   have ju:decide (j3 < (l0.length:Int))=false:=decide_eq_false c4
   clear c4
   obtain rfl:=Option.some.inj H
   go_wp2
   go_ret
   exact ⟨rr_,dK⟩
theorem bQ.calls_all (k:Nat):bQ.bF k∧bC.bF k:=by
 induction k using Nat.strongRecOn with
 | _ k ih=>exact ⟨bQ.step k (ih_laws_szStmt:=fun m hm=>(ih m hm).1) (ih_laws_szStmtS:=fun m hm=>(ih m hm).2),bC.step k (ih_laws_szStmt:=fun m hm=>(ih m hm).1) (ih_laws_szStmtS:=fun m hm=>(ih m hm).2)⟩
theorem bQ.calls (k:Nat):bQ.bF k:=(bQ.calls_all k).1
theorem bC.calls (k:Nat):bC.bF k:=(bQ.calls_all k).2
theorem dL.calls (a0:Int) (a1:Int) (a2:Int) (r:Bool) (w:World) (h:dL.f a0 a1 a2=some r):
  Calls Try.prog 59 #[.int .i64 a0, .int .i64 a1, .int .i64 a2] w fun e w'=>e= .returned (.bool r)∧fC w w':=by
 have H:(if a0≥a1 then (some (decide (a0≤a2))) else (some false))=some r:=h
 clear h
 by_cases c4:a0≥a1
 ·rw [if_pos c4] at H
  have j3:decide (a1≤a0)=true:=decide_eq_true c4
  clear c4
  obtain rfl:=Option.some.inj H
  go_enter Try.func59,Try.ntmps59
  go_wp2
  go_ret
  exact ⟨sd_,eO⟩
 rw [if_neg c4] at H
 have j3:decide (a1≤a0)=false:=decide_eq_false c4
 clear c4
 obtain rfl:=Option.some.inj H
 go_enter Try.func59,Try.ntmps59
 go_wp2
 go_ret
 exact ⟨sd_,eO⟩
theorem eH.calls (a0:Int) (r:Bool) (w:World) (h:eH.f a0=some r):
  Calls Try.prog 70 #[.int .i64 a0] w fun e w'=>e= .returned (.bool r)∧fC w w':=by
 have H:((dL.f a0 1 12).bind fun j3=>(some j3))=some r:=h
 clear h
 obtain ⟨j3,A2,H⟩:=bsa H
 (try dsimp only at H)
 obtain rfl:=Option.some.inj H
 go_enter Try.func70,Try.ntmps70
 go_wp2_with (first|((with_reducible refine aD (f:=59) rfl ?_);refine aM (some 4) rfl rfl Try.func59 (by kernel_rfl) rfl #[.int .i64 a0, .int .i64 1, .int .i64 12] rfl dB ?_;(with_reducible refine (dL.calls a0 1 12 j3 _ A2.out).mono ?_);rintro e w' ⟨rfl,⟨nd,rfl⟩⟩;refine ⟨_,rfl,?_⟩))
 go_ret
 exact ⟨sd_,eO⟩
theorem dZ.mono_l:∀ k,(∀ y0 y1 y2 y3,LeO (dZ.f k y0 y1 y2 y3) (dZ.f (k + 1) y0 y1 y2 y3))
 |0=>fun _ _ _ _ r h=>by simp [dZ.f] at h
 |k + 1=>by
  have ih0:=dZ.mono_l k
  ·intro y0 y1 y2 y3
   unfold dZ.f
   exact mo_
theorem dZ.mono:∀ a0 a1 a2 a3 k,LeO (dZ.f k a0 a1 a2 a3) (dZ.f (k + 1) a0 a1 a2 a3):=by
 intro a0 a1 a2 a3 k
 have ih0:=dZ.mono_l k
 exact ih0 a0 a1 a2 a3
theorem dZ.calls (k:Nat):∀ (j7:Int) (j8:Int) (jg:Option Addr) (jh:Nat) (j3:List (S28)) (a1:Int) (r:Bool) (w:World) (hr0_2:Kd.C k28 w jg j3.length j3) (hc0_2:j3.length≤jh) (h:dZ.f k j7 j8 j3 a1=some r),
  Calls Try.prog 56 #[.agg #[.int .i64 j7, .int .i64 j8, .slice jg j3.length jh], .int .i64 a1] w fun e w'=>e= .returned (.bool r)∧Below w.heap.size w w':=by
 induction k using Nat.strongRecOn with
 | _ k ih=>
 intro j7 j8 jg jh j3 a1 r w hr0_2 hc0_2 h
 cases k with
 |zero=>exact absurd h (by simp [dZ.f])
 |succ k=>
 simp only [dZ.f] at h
 have hu28:=Try.underlying28
 have jf:=am hr0_2
 have qL:=am hc0_2
 clear hr0_2 hc0_2
 have HB:=am (Below.refl w.heap.size w)
 have H:=h
 clear h
 have HH_:=am H
 clear H
 go_enter Try.func56,Try.ntmps56
 go_upto_region 1 with (first|((with_reducible refine bL (N:=2) rfl ?_);(try (refine mO (by rfl) ?_;dsimp only));refine cB rfl (N:=2) rfl (cs:=#[.int .i64 j7, .int .i64 j8, .slice jg j3.length jh]) (t:=28) rn_ ?_;intro jp hg w4 hbox hb;have j9:=am (hbox);have qY:=am ((by rw [hg];exact (aQ dK):w.heap.size≤jp));have GE44:=am ((by rw [hg];exact (aQ dK):w.heap.size≤jp));replace HB:=am (aB dK hb);clear hb hbox hg))
 have H:=HH_.out
 clear HH_
 by_cases c3:a1 < 1
 ·rw [if_pos c3] at H
  have qx:decide (a1 < 1)=true:=decide_eq_true c3
  clear c3
  obtain rfl:=Option.some.inj H
  go_wp2
  go_ret
  exact ⟨rr_,mJ⟩
 rw [if_neg c3] at H
 have qx:decide (a1 < 1)=false:=decide_eq_false c3
 clear c3
 by_cases c5:j7=0
 ·rw [if_pos c5] at H
  have qy:(j7 == 0)=true:=beq_iff_eq.mpr c5
  have qz:(j7 != 0)=false:=bne_eq_false_iff_eq.mpr c5
  clear c5
  obtain ⟨qZ,A6,H⟩:=bsa H
  (try dsimp only at H)
  by_cases c7:qZ=true
  ·subst c7
   rw [if_pos rfl] at H
   obtain rfl:=Option.some.inj H
   obtain ⟨qA,qB,qC,qD,qE,qF⟩:=fA j9.out
   go_wp2_with (first|((with_reducible refine aD (f:=59) rfl ?_);refine aM (some 12) rfl rfl Try.func59 (by kernel_rfl) rfl #[.int .i64 j8, .int .i64 0, .int .i64 99999] rfl dB ?_;(with_reducible refine (dL.calls j8 0 99999 true _ A6.out).mono ?_);rintro e w' ⟨rfl,⟨nd,rfl⟩⟩;refine ⟨_,rfl,?_⟩))
   go_ret
   exact ⟨rr_,mJ⟩
  replace c7:=Bool.eq_false_iff.mpr c7
  subst c7
  rw [if_neg (show ¬ (false=true) by decide)] at H
  obtain rfl:=Option.some.inj H
  obtain ⟨jA,jB,jC,jD,jE,jF⟩:=fA j9.out
  go_wp2_with (first|((with_reducible refine aD (f:=59) rfl ?_);refine aM (some 12) rfl rfl Try.func59 (by kernel_rfl) rfl #[.int .i64 j8, .int .i64 0, .int .i64 99999] rfl dB ?_;(with_reducible refine (dL.calls j8 0 99999 false _ A6.out).mono ?_);rintro e w' ⟨rfl,⟨nd,rfl⟩⟩;refine ⟨_,rfl,?_⟩))
  go_ret
  exact ⟨rr_,mJ⟩
 rw [if_neg c5] at H
 have qy:(j7 == 0)=false:=beq_eq_false_iff_ne.mpr c5
 have qz:(j7 != 0)=true:=bne_iff_ne.mpr c5
 by_cases ji:j7=13
 ·rw [if_pos ji] at H
  have jq:(j7 == 13)=true:=beq_iff_eq.mpr ji
  have jr:(j7 != 13)=false:=bne_eq_false_iff_eq.mpr ji
  clear ji
  obtain ⟨z0,qM,H⟩:=bsm H
  (try dsimp only at H)
  have qN:=am qM
  clear qM
  by_cases jG:z0=true
  ·subst jG
   rw [if_pos rfl] at H
   obtain rfl:=Option.some.inj H
   obtain ⟨jH,jI,jJ,jK,jL,jM⟩:=fA j9.out
   go_wp2_with (first|((with_reducible refine aD (f:=59) rfl ?_);refine aM (some 24) rfl rfl Try.func59 (by kernel_rfl) rfl #[.int .i64 j8, .int .i64 0, .int .i64 3] rfl dB ?_;(with_reducible refine (dL.calls j8 0 3 true _ qN.out).mono ?_);rintro e w' ⟨rfl,⟨nd,rfl⟩⟩;refine ⟨_,rfl,?_⟩))
   go_ret
   exact ⟨rr_,mJ⟩
  replace jG:=Bool.eq_false_iff.mpr jG
  subst jG
  rw [if_neg (show ¬ (false=true) by decide)] at H
  obtain rfl:=Option.some.inj H
  obtain ⟨jN,jO,jP,jQ,jR,jS⟩:=fA j9.out
  go_wp2_with (first|((with_reducible refine aD (f:=59) rfl ?_);refine aM (some 24) rfl rfl Try.func59 (by kernel_rfl) rfl #[.int .i64 j8, .int .i64 0, .int .i64 3] rfl dB ?_;(with_reducible refine (dL.calls j8 0 3 false _ qN.out).mono ?_);rintro e w' ⟨rfl,⟨nd,rfl⟩⟩;refine ⟨_,rfl,?_⟩))
  go_ret
  exact ⟨rr_,mJ⟩
 rw [if_neg ji] at H
 have jq:(j7 == 13)=false:=beq_eq_false_iff_ne.mpr ji
 have jr:(j7 != 13)=true:=bne_iff_ne.mpr ji
 obtain ⟨z1,qO,H⟩:=bsm H
 (try dsimp only at H)
 have js:=am qO
 clear qO
 by_cases jT:z1=true
 ·subst jT
  rw [if_pos rfl] at H
  by_cases jj:j8=0
  ·rw [if_pos jj] at H
   have jt:(j8 == 0)=true:=beq_iff_eq.mpr jj
   have ju:(j8 != 0)=false:=bne_eq_false_iff_eq.mpr jj
   clear jj
   by_cases jk:(j3.length:Int)=2
   ·rw [if_pos jk] at H
    have jv:((j3.length:Int) == 2)=true:=beq_iff_eq.mpr jk
    have jw:((j3.length:Int) != 2)=false:=bne_eq_false_iff_eq.mpr jk
    clear jk
    by_cases jU:0 < (j3.length:Int)
    ·rw [if_pos jU] at H
     have qP:decide (0 < (j3.length:Int))=true:=decide_eq_true jU
     have qQ:decide (0 < j3.length)=true:=decide_eq_true (by omega)
     clear jU
     obtain ⟨z2,qR,H⟩:=bsm H
     (try dsimp only at H)
     have qS:=am qR
     clear qR
     by_cases jV:z2=true
     ·subst jV
      rw [if_pos rfl] at H
      by_cases jW:1 < (j3.length:Int)
      ·rw [if_pos jW] at H
       have qT:decide (1 < (j3.length:Int))=true:=decide_eq_true jW
       have qU:decide (1 < j3.length)=true:=decide_eq_true (by omega)
       clear jW
       obtain ⟨z3,qV,H⟩:=bsm H
       (try dsimp only at H)
       have z4:=am qV
       clear qV
       obtain rfl:=Option.some.inj H
       obtain ⟨jX,jY,jZ,q0,q1,q2⟩:=fA j9.out
       go_wp2_with (first|((with_reducible refine aD (f:=70) rfl ?_);refine aM (some 33) rfl rfl Try.func70 (by kernel_rfl) rfl #[.int .i64 j7] rfl dB ?_;(with_reducible refine (eH.calls j7 true _ js.out).mono ?_);rintro e w' ⟨rfl,⟨nd,rfl⟩⟩;refine ⟨_,rfl,?_⟩;have jl:0≤(0:Int):=(by omega);have jm:0 < (j3.length:Int):=of_decide_eq_true bR;obtain ⟨jx,jy,jz,qG,j4,j5,j6,hl49_2,hi49_2⟩:=gJ jf.out 0 jl jm;cases qG;have qH:(0 < j3.length)=True:=eq_true (by omega);(try rw [show ((0:Int)).toNat=0 from rfl] at j4);(try rw [show 0 * 3=0 from rfl] at j4);(try rw [Addr.add_zero'] at j4);(try rw [show ((0:Int)).toNat=0 from rfl] at j5);(try rw [show 0 * 3=0 from rfl] at j5);(try rw [Addr.add_zero'] at j5);(try rw [show ((0:Int)).toNat=0 from rfl] at j6);(try rw [show 0 * 3=0 from rfl] at j6);(try rw [Addr.add_zero'] at j6);replace j4:=(HB.out.cell (World.block_lt_of_cell? w _ j4)).trans j4;replace j5:=(HB.out.cell (World.block_lt_of_cell? w _ j5)).trans j5;replace j6:=(HB.out.cell (World.block_lt_of_cell? w _ j6)).trans j6;have jd:=am hi49_2;have je:=am hl49_2;clear hi49_2 hl49_2;replace jl:=eq_true jl;replace jm:=eq_true jm)|(go_at_call 56;(with_reducible refine (ih k (by omega) ((aW j3 0).f0) ((aW j3 0).f1) _ _ ((aW j3 0).f2) (wrap64 (a1 - 1)) true _ (aC_ (Kd.aH jd.out mJ)) je.out qS.out).mono ?_);rintro e z7 ⟨rfl,hb⟩;replace j9:=bbP j9 hb;replace HB:=am (aB mJ hb);(try clear hb);obtain ⟨q3,q4,q5,q6,q7,q8⟩:=fA j9.out;have qI:0≤(1:Int):=(by omega);have qJ:1 < (j3.length:Int):=of_decide_eq_true bR;obtain ⟨qK,qW,qX,z5,ja,jb,jc,hl50_2,hi50_2⟩:=gJ jf.out 1 qI qJ;obtain rfl:jx=qK:=(by injection z5);(try simp only [show (1:Int).toNat=1 from rfl,Nat.reduceMul,Nat.reduceEqDiff,Go.Addr.add,↓reduceIte] at ja);(try simp only [show (1:Int).toNat=1 from rfl,Nat.reduceMul,Nat.reduceEqDiff,Go.Addr.add,↓reduceIte] at jb);(try simp only [show (1:Int).toNat=1 from rfl,Nat.reduceMul,Nat.reduceEqDiff,Go.Addr.add,↓reduceIte] at jc);have z6:(1 < j3.length)=True:=eq_true (by omega);(try rw [show ((1:Int)).toNat=1 from rfl] at ja);(try rw [show 1 * 3=3 from rfl] at ja);(try rw [show ((1:Int)).toNat=1 from rfl] at jb);(try rw [show 1 * 3=3 from rfl] at jb);(try rw [show ((1:Int)).toNat=1 from rfl] at jc);(try rw [show 1 * 3=3 from rfl] at jc);replace ja:=(HB.out.cell (World.block_lt_of_cell? w _ ja)).trans ja;replace jb:=(HB.out.cell (World.block_lt_of_cell? w _ jb)).trans jb;replace jc:=(HB.out.cell (World.block_lt_of_cell? w _ jc)).trans jc;have jn:=am hi50_2;have jo:=am hl50_2;clear hi50_2 hl50_2;replace qI:=eq_true qI;replace qJ:=eq_true qJ)|(go_at_call 56;(with_reducible refine (ih k (by omega) ((aW j3 1).f0) ((aW j3 1).f1) _ _ ((aW j3 1).f2) (wrap64 (a1 - 1)) z3 _ (aC_ (Kd.aH jn.out HB.out)) jo.out z4.out).mono ?_);rintro e z8 ⟨rfl,hb⟩;replace j9:=bbP j9 hb;replace HB:=am (aB mJ hb);(try clear hb)))
       go_ret
       exact ⟨rr_,mJ⟩
      rw [if_neg jW] at H
      exact absurd H (by simp)
     replace jV:=Bool.eq_false_iff.mpr jV
     subst jV
     rw [if_neg (show ¬ (false=true) by decide)] at H
     obtain rfl:=Option.some.inj H
     obtain ⟨q9,qa,qb,qc,qd,qe⟩:=fA j9.out
     go_wp2_with (first|((with_reducible refine aD (f:=70) rfl ?_);refine aM (some 33) rfl rfl Try.func70 (by kernel_rfl) rfl #[.int .i64 j7] rfl dB ?_;(with_reducible refine (eH.calls j7 true _ js.out).mono ?_);rintro e w' ⟨rfl,⟨nd,rfl⟩⟩;refine ⟨_,rfl,?_⟩;have jl:0≤(0:Int):=(by omega);have jm:0 < (j3.length:Int):=of_decide_eq_true bR;obtain ⟨jx,jy,jz,qG,j4,j5,j6,hl49_2,hi49_2⟩:=gJ jf.out 0 jl jm;cases qG;have qH:(0 < j3.length)=True:=eq_true (by omega);(try rw [show ((0:Int)).toNat=0 from rfl] at j4);(try rw [show 0 * 3=0 from rfl] at j4);(try rw [Addr.add_zero'] at j4);(try rw [show ((0:Int)).toNat=0 from rfl] at j5);(try rw [show 0 * 3=0 from rfl] at j5);(try rw [Addr.add_zero'] at j5);(try rw [show ((0:Int)).toNat=0 from rfl] at j6);(try rw [show 0 * 3=0 from rfl] at j6);(try rw [Addr.add_zero'] at j6);replace j4:=(HB.out.cell (World.block_lt_of_cell? w _ j4)).trans j4;replace j5:=(HB.out.cell (World.block_lt_of_cell? w _ j5)).trans j5;replace j6:=(HB.out.cell (World.block_lt_of_cell? w _ j6)).trans j6;have jd:=am hi49_2;have je:=am hl49_2;clear hi49_2 hl49_2;replace jl:=eq_true jl;replace jm:=eq_true jm)|(go_at_call 56;(with_reducible refine (ih k (by omega) ((aW j3 0).f0) ((aW j3 0).f1) _ _ ((aW j3 0).f2) (wrap64 (a1 - 1)) false _ (aC_ (Kd.aH jd.out mJ)) je.out qS.out).mono ?_);rintro e z9 ⟨rfl,hb⟩;replace j9:=bbP j9 hb;replace HB:=am (aB mJ hb);(try clear hb)))
     go_ret
     exact ⟨rr_,mJ⟩
    rw [if_neg jU] at H
    exact absurd H (by simp)
   rw [if_neg jk] at H
   have jv:((j3.length:Int) == 2)=false:=beq_eq_false_iff_ne.mpr jk
   have jw:((j3.length:Int) != 2)=true:=bne_iff_ne.mpr jk
   obtain rfl:=Option.some.inj H
   obtain ⟨qf,qg,qh,qi,qj,qk⟩:=fA j9.out
   go_wp2_with (first|((with_reducible refine aD (f:=70) rfl ?_);refine aM (some 33) rfl rfl Try.func70 (by kernel_rfl) rfl #[.int .i64 j7] rfl dB ?_;(with_reducible refine (eH.calls j7 true _ js.out).mono ?_);rintro e w' ⟨rfl,⟨nd,rfl⟩⟩;refine ⟨_,rfl,?_⟩))
   go_ret
   exact ⟨rr_,mJ⟩
  rw [if_neg jj] at H
  have jt:(j8 == 0)=false:=beq_eq_false_iff_ne.mpr jj
  have ju:(j8 != 0)=true:=bne_iff_ne.mpr jj
  obtain rfl:=Option.some.inj H
  obtain ⟨ql,qm,qn,qo,qp,qq⟩:=fA j9.out
  go_wp2_with (first|((with_reducible refine aD (f:=70) rfl ?_);refine aM (some 33) rfl rfl Try.func70 (by kernel_rfl) rfl #[.int .i64 j7] rfl dB ?_;(with_reducible refine (eH.calls j7 true _ js.out).mono ?_);rintro e w' ⟨rfl,⟨nd,rfl⟩⟩;refine ⟨_,rfl,?_⟩))
  go_ret
  exact ⟨rr_,mJ⟩
 replace jT:=Bool.eq_false_iff.mpr jT
 subst jT
 rw [if_neg (show ¬ (false=true) by decide)] at H
 obtain rfl:=Option.some.inj H
 obtain ⟨qr,qs,qt,qu,qv,qw⟩:=fA j9.out
 go_wp2_with (first|((with_reducible refine aD (f:=70) rfl ?_);refine aM (some 33) rfl rfl Try.func70 (by kernel_rfl) rfl #[.int .i64 j7] rfl dB ?_;(with_reducible refine (eH.calls j7 false _ js.out).mono ?_);rintro e w' ⟨rfl,⟨nd,rfl⟩⟩;refine ⟨_,rfl,?_⟩))
 go_ret
 exact ⟨rr_,mJ⟩
theorem bM.mono:∀ a0 a1 a2 k,LeO (bM.f k a0 a1 a2) (bM.f (k + 1) a0 a1 a2):=by
 intro a0 a1 a2 k
 unfold bM.f
 have m0:=@dZ.mono
 exact mo_
theorem bM.calls (k:Nat) (j4:Int) (j5:Int) (j6:Option Addr) (j7:Nat) (j3:List (S28)) (r:Bool) (w:World) (hr0_2:Kd.C k28 w j6 j3.length j3) (hc0_2:j3.length≤j7) (h:bM.f k j4 j5 j3=some r):
  Calls Try.prog 28 #[.agg #[.int .i64 j4, .int .i64 j5, .slice j6 j3.length j7]] w fun e w'=>e= .returned (.bool r)∧Below w.heap.size w w':=by
 have hu28:=Try.underlying28
 have j9:=am hr0_2
 have ja:=am hc0_2
 clear hr0_2 hc0_2
 have HB:=am (Below.refl w.heap.size w)
 have H:((dZ.f k j4 j5 j3 5).bind fun jc=>(some jc))=some r:=h
 clear h
 obtain ⟨jc,A2,H⟩:=bsa H
 (try dsimp only at H)
 obtain rfl:=Option.some.inj H
 go_enter Try.func28,Try.ntmps28
 go_wp2_with (first|((with_reducible refine bL (N:=1) rfl ?_);refine cB rfl (N:=1) rfl (cs:=#[.int .i64 j4, .int .i64 j5, .slice j6 j3.length j7]) (t:=28) rn_ ?_;intro jb hg w3 hbox hb;have j8:=am (hbox);have jj:=am ((by rw [hg];exact (aQ dK):w.heap.size≤jb));have GE22:=am ((by rw [hg];exact (aQ dK):w.heap.size≤jb));replace HB:=am (aB dK hb);clear hb hbox hg;obtain ⟨jd,je,jf,jg,jh,ji⟩:=fA j8.out)|((with_reducible refine aD (f:=56) rfl ?_);refine aM (some 4) rfl rfl Try.func56 (by kernel_rfl) rfl #[.agg #[.int .i64 j4, .int .i64 j5, .slice j6 j3.length j7], .int .i64 5] rfl dB ?_;(with_reducible refine (dZ.calls k j4 j5 _ _ j3 5 jc _ (aC_ (Kd.aH j9.out HB.out)) ja.out A2.out).mono ?_);rintro e w5 ⟨rfl,hb⟩;refine ⟨_,rfl,?_⟩;replace j8:=bbP j8 hb;replace HB:=am (aB EY hb);(try clear hb)))
 go_ret
 exact ⟨rr_,EY⟩
theorem bX.calls (j7:Int) (j3:Int) (j8:Int) (j9:Int) (ja:Int) (jb:Option Addr) (jc:Nat) (j4:List (S28)) (jd:Option Addr) (je:Nat) (j5:List (S70)) (jf:Option Addr) (jg:Nat) (j6:List (S70)) (a1:Bool) (r:Bool) (w:World) (hr0_5:Kd.C k28 w jb j4.length j4) (hc0_5:j4.length≤jc) (hr0_6:Kd.C k70 w jd j5.length j5) (hc0_6:j5.length≤je) (hr0_7:Kd.C k70 w jf j6.length j6) (hc0_7:j6.length≤jg) (h:bX.f j7 j3 j8 j9 ja j4 j5 j6 a1=some r):
  Calls Try.prog 83 #[.agg #[.int .i64 j7, .int .i64 j3, .int .i64 j8, .int .i64 j9, .int .i64 ja, .slice jb j4.length jc, .slice jd j5.length je, .slice jf j6.length jg], .bool a1] w fun e w'=>e= .returned (.bool r)∧Below w.heap.size w w':=by
 have hu70:=Try.underlying70
 have jA:=am hr0_5
 have jB:=am hc0_5
 clear hr0_5 hc0_5
 have jC:=am hr0_6
 have jD:=am hc0_6
 clear hr0_6 hc0_6
 have jE:=am hr0_7
 have jF:=am hc0_7
 clear hr0_7 hc0_7
 have HB:=am (Below.refl w.heap.size w)
 have H:(if a1=true then ((dL.f j3 0 3).bind fun ji=>(some ji)) else (some (j3 == 0)))=some r:=h
 clear h
 have HH_:=am H
 clear H
 go_enter Try.func83,Try.ntmps83
 go_upto_region 1 with (first|((with_reducible refine bL (N:=2) rfl ?_);refine cB rfl (N:=2) rfl (cs:=#[.int .i64 j7, .int .i64 j3, .int .i64 j8, .int .i64 j9, .int .i64 ja, .slice jb j4.length jc, .slice jd j5.length je, .slice jf j6.length jg]) (t:=70) rn_ ?_;intro jh hg w5 hbox hb;have jj:=am (hbox);have jG:=am ((by rw [hg];exact (aQ dK):w.heap.size≤jh));have GE21:=am ((by rw [hg];exact (aQ dK):w.heap.size≤jh));replace HB:=am (aB dK hb);clear hb hbox hg;obtain ⟨jk,jl,jm,jn,jo,jp,jq,jr,js,jt,ju,jv,jw,jx,jy,jz⟩:=dH jj.out))
 have H:=HH_.out
 clear HH_
 by_cases c3:a1=true
 ·subst c3
  rw [if_pos rfl] at H
  obtain ⟨ji,A4,H⟩:=bsa H
  (try dsimp only at H)
  obtain rfl:=Option.some.inj H
  go_wp2_with (first|((with_reducible refine aD (f:=59) rfl ?_);refine aM (some 8) rfl rfl Try.func59 (by kernel_rfl) rfl #[.int .i64 j3, .int .i64 0, .int .i64 3] rfl dB ?_;(with_reducible refine (dL.calls j3 0 3 ji _ A4.out).mono ?_);rintro e w' ⟨rfl,⟨nd,rfl⟩⟩;refine ⟨_,rfl,?_⟩))
  go_ret
  exact ⟨rr_,lT⟩
 replace c3:=Bool.eq_false_iff.mpr c3
 subst c3
 rw [if_neg (show ¬ (false=true) by decide)] at H
 obtain rfl:=Option.some.inj H
 go_wp2
 go_ret
 exact ⟨rr_,lT⟩
theorem dG.calls (j7:Int) (j8:Int) (j3:Int) (j9:Int) (ja:Int) (jb:Option Addr) (jc:Nat) (j4:List (S28)) (jd:Option Addr) (je:Nat) (j5:List (S70)) (jf:Option Addr) (jg:Nat) (j6:List (S70)) (a1:Bool) (r:Bool) (w:World) (hr0_5:Kd.C k28 w jb j4.length j4) (hc0_5:j4.length≤jc) (hr0_6:Kd.C k70 w jd j5.length j5) (hc0_6:j5.length≤je) (hr0_7:Kd.C k70 w jf j6.length j6) (hc0_7:j6.length≤jg) (h:dG.f j7 j8 j3 j9 ja j4 j5 j6 a1=some r):
  Calls Try.prog 84 #[.agg #[.int .i64 j7, .int .i64 j8, .int .i64 j3, .int .i64 j9, .int .i64 ja, .slice jb j4.length jc, .slice jd j5.length je, .slice jf j6.length jg], .bool a1] w fun e w'=>e= .returned (.bool r)∧Below w.heap.size w w':=by
 have hu70:=Try.underlying70
 have jA:=am hr0_5
 have jB:=am hc0_5
 clear hr0_5 hc0_5
 have jC:=am hr0_6
 have jD:=am hc0_6
 clear hr0_6 hc0_6
 have jE:=am hr0_7
 have jF:=am hc0_7
 clear hr0_7 hc0_7
 have HB:=am (Below.refl w.heap.size w)
 have H:(if a1=true then ((dL.f j3 0 2).bind fun ji=>(some ji)) else (some (j3 == 0)))=some r:=h
 clear h
 have HH_:=am H
 clear H
 go_enter Try.func84,Try.ntmps84
 go_upto_region 1 with (first|((with_reducible refine bL (N:=2) rfl ?_);refine cB rfl (N:=2) rfl (cs:=#[.int .i64 j7, .int .i64 j8, .int .i64 j3, .int .i64 j9, .int .i64 ja, .slice jb j4.length jc, .slice jd j5.length je, .slice jf j6.length jg]) (t:=70) rn_ ?_;intro jh hg w5 hbox hb;have jj:=am (hbox);have jG:=am ((by rw [hg];exact (aQ dK):w.heap.size≤jh));have GE21:=am ((by rw [hg];exact (aQ dK):w.heap.size≤jh));replace HB:=am (aB dK hb);clear hb hbox hg;obtain ⟨jk,jl,jm,jn,jo,jp,jq,jr,js,jt,ju,jv,jw,jx,jy,jz⟩:=dH jj.out))
 have H:=HH_.out
 clear HH_
 by_cases c3:a1=true
 ·subst c3
  rw [if_pos rfl] at H
  obtain ⟨ji,A4,H⟩:=bsa H
  (try dsimp only at H)
  obtain rfl:=Option.some.inj H
  go_wp2_with (first|((with_reducible refine aD (f:=59) rfl ?_);refine aM (some 8) rfl rfl Try.func59 (by kernel_rfl) rfl #[.int .i64 j3, .int .i64 0, .int .i64 2] rfl dB ?_;(with_reducible refine (dL.calls j3 0 2 ji _ A4.out).mono ?_);rintro e w' ⟨rfl,⟨nd,rfl⟩⟩;refine ⟨_,rfl,?_⟩))
  go_ret
  exact ⟨rr_,lT⟩
 replace c3:=Bool.eq_false_iff.mpr c3
 subst c3
 rw [if_neg (show ¬ (false=true) by decide)] at H
 obtain rfl:=Option.some.inj H
 go_wp2
 go_ret
 exact ⟨rr_,lT⟩
theorem gI.calls (j3:Int) (j4:Int) (j6:Option Addr) (j7:Nat) (j5:List (S28)) (r:Bool) (w:World) (hr0_2:Kd.C k28 w j6 j5.length j5) (hc0_2:j5.length≤j7) (h:gI.f j3 j4 j5=some r):
  Calls Try.prog 86 #[.agg #[.int .i64 j3, .int .i64 j4, .slice j6 j5.length j7]] w fun e w'=>e= .returned (.bool r)∧Below w.heap.size w w':=by
 have hu28:=Try.underlying28
 have jk:=am hr0_2
 have jl:=am hc0_2
 clear hr0_2 hc0_2
 have HB:=am (Below.refl w.heap.size w)
 have H:(if j3=0 then (if j4=0 then (some ((j5.length:Int) == 0)) else (some false)) else (some false))=some r:=h
 clear h
 have HH_:=am H
 clear H
 go_enter Try.func86,Try.ntmps86
 go_upto_region 1 with (first|((with_reducible refine bL (N:=1) rfl ?_);(try (refine mO (by rfl) ?_;dsimp only));refine cB rfl (N:=1) rfl (cs:=#[.int .i64 j3, .int .i64 j4, .slice j6 j5.length j7]) (t:=28) rn_ ?_;intro j8 hg w4 hbox hb;have j9:=am (hbox);have jm:=am ((by rw [hg];exact (aQ dK):w.heap.size≤j8));have GE20:=am ((by rw [hg];exact (aQ dK):w.heap.size≤j8));replace HB:=am (aB dK hb);clear hb hbox hg;obtain ⟨ja,jb,jc,jd,je,jf⟩:=fA j9.out))
 have H:=HH_.out
 clear HH_
 by_cases c2:j3=0
 ·rw [if_pos c2] at H
  have jg:(j3 == 0)=true:=beq_iff_eq.mpr c2
  have jh:(j3 != 0)=false:=bne_eq_false_iff_eq.mpr c2
  clear c2
  by_cases c3:j4=0
  ·rw [if_pos c3] at H
   have ji:(j4 == 0)=true:=beq_iff_eq.mpr c3
   have jj:(j4 != 0)=false:=bne_eq_false_iff_eq.mpr c3
   clear c3
   obtain rfl:=Option.some.inj H
   go_wp2
   go_ret
   exact ⟨rr_,IV⟩
  rw [if_neg c3] at H
  have ji:(j4 == 0)=false:=beq_eq_false_iff_ne.mpr c3
  have jj:(j4 != 0)=true:=bne_iff_ne.mpr c3
  obtain rfl:=Option.some.inj H
  go_wp2
  go_ret
  exact ⟨rr_,IV⟩
 rw [if_neg c2] at H
 have jg:(j3 == 0)=false:=beq_eq_false_iff_ne.mpr c2
 have jh:(j3 != 0)=true:=bne_iff_ne.mpr c2
 obtain rfl:=Option.some.inj H
 go_wp2
 go_ret
 exact ⟨rr_,IV⟩
theorem bG.mono_l:∀ k,(∀ y0 y1 y2 y3 y4 y5 y6 y7 y8,LeO (bG.j0 k y0 y1 y2 y3 y4 y5 y6 y7 y8) (bG.j0 (k + 1) y0 y1 y2 y3 y4 y5 y6 y7 y8))
 |0=>fun _ _ _ _ _ _ _ _ _ r h=>by simp [bG.j0] at h
 |k + 1=>by
  have ih0:=bG.mono_l k
  ·intro y0 y1 y2 y3 y4 y5 y6 y7 y8
   unfold bG.j0
   have m0:=@bM.mono
   exact mo_
theorem bG.mono:∀ a0 a1 a2 a3 a4 a5 a6 a7 k,LeO (bG.f k a0 a1 a2 a3 a4 a5 a6 a7) (bG.f (k + 1) a0 a1 a2 a3 a4 a5 a6 a7):=by
 intro a0 a1 a2 a3 a4 a5 a6 a7 k
 have ih0:=bG.mono_l k
 unfold bG.f
 have m0:=@bM.mono
 exact mo_
theorem bG.calls (k:Nat) (j4:Int) (jc:Int) (jd:Int) (j7:Int) (j8:Int) (ji:Option Addr) (jj:Nat) (j5:List (S28)) (jk:Option Addr) (jl:Nat) (j6:List (S70)) (jm:Option Addr) (jn:Nat) (j9:List (S70)) (r:Bool) (w:World) (hr0_5:Kd.C k28 w ji j5.length j5) (hc0_5:j5.length≤jj) (hr0_6:Kd.C k70 w jk j6.length j6) (hc0_6:j6.length≤jl) (hr0_7:Kd.C k70 w jm j9.length j9) (hc0_7:j9.length≤jn) (h:bG.f k j4 jc jd j7 j8 j5 j6 j9=some r):
  Calls Try.prog 82 #[.agg #[.int .i64 j4, .int .i64 jc, .int .i64 jd, .int .i64 j7, .int .i64 j8, .slice ji j5.length jj, .slice jk j6.length jl, .slice jm j9.length jn]] w fun e w'=>e= .returned (.bool r)∧Below w.heap.size w w':=by
 have hu70:=Try.underlying70
 have hu28:=Try.underlying28
 have ja:=am hr0_5
 have jb:=am hc0_5
 clear hr0_5 hc0_5
 have je:=am hr0_6
 have jf:=am hc0_6
 clear hr0_6 hc0_6
 have jg:=am hr0_7
 have jh:=am hc0_7
 clear hr0_7 hc0_7
 have HB:=am (Below.refl w.heap.size w)
 unfold bG.f at h
 have H:=h
 clear h
 have VZ:=am H
 clear H
 go_enter Try.func82,Try.ntmps82
 go_upto_region 1 with (first|((with_reducible refine bL (N:=1) rfl ?_);(try (refine mO (by rfl) ?_;dsimp only));refine cB rfl (N:=1) rfl (cs:=#[.int .i64 j4, .int .i64 jc, .int .i64 jd, .int .i64 j7, .int .i64 j8, .slice ji j5.length jj, .slice jk j6.length jl, .slice jm j9.length jn]) (t:=70) rn_ ?_;intro jq hg w3 hbox hb;have j3:=am (hbox);have XY:=am ((by rw [hg];exact (aQ dK):w.heap.size≤jq));have GE99:=am ((by rw [hg];exact (aQ dK):w.heap.size≤jq));replace HB:=am (aB dK hb);clear hb hbox hg))
 (try simp only [Act.put,List.setIfInBounds_toArray,List.set_cons_zero,List.set_cons_succ])
 go_cut [12] (fun XZ wc=>∃ (kq:Nat) (jo:Bool),XZ= .bool jo∧Aside0 (bG.j0 kq jo j4 jc jd j7 j8 j5 j6 j9=some r)∧Aside0 (kq≤k)∧Aside0 (wc.heap[jq]?=some (.cells #[.int .i64 j4, .int .i64 jc, .int .i64 jd, .int .i64 j7, .int .i64 j8,(.slice ji j5.length jj),(.slice jk j6.length jl),(.slice jm j9.length jn)] 70 (0,0)))∧Aside0 (Below w.heap.size w wc))
 case first=>
  have H:=VZ.out
  clear VZ
  by_cases c4:(j6.length:Int) > 0
  ·rw [if_pos c4] at H
   have jp:decide (0 < (j6.length:Int))=true:=decide_eq_true c4
   have X0:decide (0 < j6.length)=true:=decide_eq_true (by omega)
   clear c4
   (first|rw [jp]|(simp only [gB,gN];rw [jp])|skip)
   have H':=am H
   clear H
   obtain ⟨X1,X2,X3,X4,X5,X6,X7,X8,X9,Xa,Xb,Xc,Xd,Xe,Xf,Xg⟩:=dH j3.out
   go_wp2
   go_meet
   case rel=>exact ⟨_,(true),sd_,H',⟨by first|omega|exact Nat.le_refl _⟩,⟨by (with_reducible repeat (first|refine gZ ?_ _|refine gM ?_|refine gY ?_ _));exact j3.out⟩,⟨gF⟩⟩
  rw [if_neg c4] at H
  have jp:decide (0 < (j6.length:Int))=false:=decide_eq_false c4
  have X0:decide (0 < j6.length)=false:=decide_eq_false (by omega)
  clear c4
  (first|rw [jp]|(simp only [gB,gN];rw [jp])|skip)
  have H':=am H
  clear H
  obtain ⟨Xh,Xi,Xj,Xk,Xl,Xm,Xn,Xo,Xp,Xq,Xr,Xs,Xt,Xu,Xv,Xw⟩:=dH j3.out
  go_wp2
  go_meet
  case rel=>exact ⟨_,(decide ((j9.length:Int) > 0)),sd_,H',⟨by first|omega|exact Nat.le_refl _⟩,⟨by (with_reducible repeat (first|refine gZ ?_ _|refine gM ?_|refine gY ?_ _));exact j3.out⟩,⟨gF⟩⟩
 case rest=>
  clear VZ
  obtain ⟨kq,jo,rfl,HA,HJ1,j3,HB⟩:=hcut
  cases kq with
  |zero=>exact absurd HA.out (by simp [bG.j0])
  |succ Xx=>
   have H:=HA.out
   clear HA
   simp only [bG.j0] at H
   by_cases c7:jo=true
   ·subst c7
    rw [if_pos rfl] at H
    obtain rfl:=Option.some.inj H
    go_wp2
    go_ret
    exact ⟨rr_,gF⟩
   replace c7:=Bool.eq_false_iff.mpr c7
   subst c7
   rw [if_neg (show ¬ (false=true) by decide)] at H
   by_cases c8:j4=1
   ·rw [if_pos c8] at H
    have Xy:(j4 == 1)=true:=beq_iff_eq.mpr c8
    have Xz:(j4 != 1)=false:=bne_eq_false_iff_eq.mpr c8
    clear c8
    obtain ⟨XA,A9,H⟩:=bsa H
    (try dsimp only at H)
    by_cases c10:XA=true
    ·subst c10
     rw [if_pos rfl] at H
     obtain ⟨XB,jv,H⟩:=bsm H
     (try dsimp only at H)
     have XT:=am jv
     clear jv
     by_cases jQ:XB=true
     ·subst jQ
      rw [if_pos rfl] at H
      obtain ⟨XC,jw,H⟩:=bsm H
      (try dsimp only at H)
      have P0:=am jw
      clear jw
      obtain rfl:=Option.some.inj H
      obtain ⟨jR,jS,jT,jU,jV,jW,jX,jY,jZ,q0,q1,q2,q3,q4,q5,q6⟩:=dH j3.out
      go_wp2_with (first|((with_reducible refine aD (f:=83) rfl ?_);refine aM (some 18) rfl rfl Try.func83 (by kernel_rfl) rfl #[.agg #[.int .i64 j4, .int .i64 jc, .int .i64 jd, .int .i64 j7, .int .i64 j8, .slice ji j5.length jj, .slice jk j6.length jl, .slice jm j9.length jn], .bool true] rfl dB ?_;(with_reducible refine (bX.calls j4 jc jd j7 j8 _ _ j5 _ _ j6 _ _ j9 true true _ (aC_ (Kd.aH ja.out HB.out)) jb.out (aC_ (Kd.aH je.out HB.out)) jf.out (aC_ (Kd.aH jg.out HB.out)) jh.out A9.out).mono ?_);rintro e P5 ⟨rfl,hb⟩;refine ⟨_,rfl,?_⟩;replace j3:=bbP j3 hb;replace HB:=am (aB gF hb);(try clear hb);obtain ⟨q7,q8,q9,qa,qb,qc,qd,qe,qf,qg,qh,qi,qj,qk,ql,qm⟩:=dH j3.out)|(go_at_call 84;(with_reducible refine (dG.calls j4 jc jd j7 j8 _ _ j5 _ _ j6 _ _ j9 false true _ (aC_ (Kd.aH ja.out HB.out)) jb.out (aC_ (Kd.aH je.out HB.out)) jf.out (aC_ (Kd.aH jg.out HB.out)) jh.out XT.out).mono ?_);rintro e P6 ⟨rfl,hb⟩;replace j3:=bbP j3 hb;replace HB:=am (aB gF hb);(try clear hb);obtain ⟨qn,qo,qp,qq,qr,qs,qt,qu,qv,qw,qx,qy,qz,qA,qB,qC⟩:=dH j3.out)|(go_at_call 28;(with_reducible refine (bM.calls Xx j7 j8 _ _ j5 XC _ (aC_ (Kd.aH ja.out HB.out)) jb.out P0.out).mono ?_);rintro e P7 ⟨rfl,hb⟩;replace j3:=bbP j3 hb;replace HB:=am (aB gF hb);(try clear hb)))
      go_ret
      exact ⟨rr_,gF⟩
     replace jQ:=Bool.eq_false_iff.mpr jQ
     subst jQ
     rw [if_neg (show ¬ (false=true) by decide)] at H
     obtain rfl:=Option.some.inj H
     obtain ⟨qD,qE,qF,qG,qH,qI,qJ,qK,qL,qM,qN,qO,qP,qQ,qR,qS⟩:=dH j3.out
     go_wp2_with (first|((with_reducible refine aD (f:=83) rfl ?_);refine aM (some 18) rfl rfl Try.func83 (by kernel_rfl) rfl #[.agg #[.int .i64 j4, .int .i64 jc, .int .i64 jd, .int .i64 j7, .int .i64 j8, .slice ji j5.length jj, .slice jk j6.length jl, .slice jm j9.length jn], .bool true] rfl dB ?_;(with_reducible refine (bX.calls j4 jc jd j7 j8 _ _ j5 _ _ j6 _ _ j9 true true _ (aC_ (Kd.aH ja.out HB.out)) jb.out (aC_ (Kd.aH je.out HB.out)) jf.out (aC_ (Kd.aH jg.out HB.out)) jh.out A9.out).mono ?_);rintro e P8 ⟨rfl,hb⟩;refine ⟨_,rfl,?_⟩;replace j3:=bbP j3 hb;replace HB:=am (aB gF hb);(try clear hb);obtain ⟨qT,qU,qV,qW,qX,qY,qZ,z0,z1,z2,z3,z4,z5,z6,z7,z8⟩:=dH j3.out)|(go_at_call 84;(with_reducible refine (dG.calls j4 jc jd j7 j8 _ _ j5 _ _ j6 _ _ j9 false false _ (aC_ (Kd.aH ja.out HB.out)) jb.out (aC_ (Kd.aH je.out HB.out)) jf.out (aC_ (Kd.aH jg.out HB.out)) jh.out XT.out).mono ?_);rintro e P9 ⟨rfl,hb⟩;replace j3:=bbP j3 hb;replace HB:=am (aB gF hb);(try clear hb)))
     go_ret
     exact ⟨rr_,gF⟩
    replace c10:=Bool.eq_false_iff.mpr c10
    subst c10
    rw [if_neg (show ¬ (false=true) by decide)] at H
    obtain rfl:=Option.some.inj H
    obtain ⟨z9,za,zb,zc,zd,ze,zf,zg,zh,zi,zj,zk,zl,zm,zn,zo⟩:=dH j3.out
    go_wp2_with (first|((with_reducible refine aD (f:=83) rfl ?_);refine aM (some 18) rfl rfl Try.func83 (by kernel_rfl) rfl #[.agg #[.int .i64 j4, .int .i64 jc, .int .i64 jd, .int .i64 j7, .int .i64 j8, .slice ji j5.length jj, .slice jk j6.length jl, .slice jm j9.length jn], .bool true] rfl dB ?_;(with_reducible refine (bX.calls j4 jc jd j7 j8 _ _ j5 _ _ j6 _ _ j9 true false _ (aC_ (Kd.aH ja.out HB.out)) jb.out (aC_ (Kd.aH je.out HB.out)) jf.out (aC_ (Kd.aH jg.out HB.out)) jh.out A9.out).mono ?_);rintro e Pa ⟨rfl,hb⟩;refine ⟨_,rfl,?_⟩;replace j3:=bbP j3 hb;replace HB:=am (aB gF hb);(try clear hb)))
    go_ret
    exact ⟨rr_,gF⟩
   rw [if_neg c8] at H
   have Xy:(j4 == 1)=false:=beq_eq_false_iff_ne.mpr c8
   have Xz:(j4 != 1)=true:=bne_iff_ne.mpr c8
   by_cases jr:j4=4
   ·rw [if_pos jr] at H
    have jx:(j4 == 4)=true:=beq_iff_eq.mpr jr
    have jy:(j4 != 4)=false:=bne_eq_false_iff_eq.mpr jr
    clear jr
    obtain ⟨XD,jz,H⟩:=bsm H
    (try dsimp only at H)
    have XE:=am jz
    clear jz
    by_cases zp:XD=true
    ·subst zp
     rw [if_pos rfl] at H
     obtain ⟨XF,jA,H⟩:=bsm H
     (try dsimp only at H)
     have XU:=am jA
     clear jA
     by_cases zq:XF=true
     ·subst zq
      rw [if_pos rfl] at H
      obtain ⟨XG,P1,H⟩:=bsa H
      (try dsimp only at H)
      obtain rfl:=Option.some.inj H
      obtain ⟨zr,zs,zt,zu,zv,zw,zx,zy,zz,zA,zB,zC,zD,zE,zF,zG⟩:=dH j3.out
      go_wp2_with (first|((with_reducible refine aD (f:=83) rfl ?_);refine aM (some 31) rfl rfl Try.func83 (by kernel_rfl) rfl #[.agg #[.int .i64 j4, .int .i64 jc, .int .i64 jd, .int .i64 j7, .int .i64 j8, .slice ji j5.length jj, .slice jk j6.length jl, .slice jm j9.length jn], .bool false] rfl dB ?_;(with_reducible refine (bX.calls j4 jc jd j7 j8 _ _ j5 _ _ j6 _ _ j9 false true _ (aC_ (Kd.aH ja.out HB.out)) jb.out (aC_ (Kd.aH je.out HB.out)) jf.out (aC_ (Kd.aH jg.out HB.out)) jh.out XE.out).mono ?_);rintro e Pb ⟨rfl,hb⟩;refine ⟨_,rfl,?_⟩;replace j3:=bbP j3 hb;replace HB:=am (aB gF hb);(try clear hb);obtain ⟨zH,zI,zJ,zK,zL,zM,zN,zO,zP,zQ,zR,zS,zT,zU,zV,zW⟩:=dH j3.out)|(go_at_call 84;(with_reducible refine (dG.calls j4 jc jd j7 j8 _ _ j5 _ _ j6 _ _ j9 true true _ (aC_ (Kd.aH ja.out HB.out)) jb.out (aC_ (Kd.aH je.out HB.out)) jf.out (aC_ (Kd.aH jg.out HB.out)) jh.out XU.out).mono ?_);rintro e Pc ⟨rfl,hb⟩;replace j3:=bbP j3 hb;replace HB:=am (aB gF hb);(try clear hb);obtain ⟨zX,zY,zZ,J0,J1,J2,J3,J4,J5,J6,J7,J8,J9,Ja,Jb,Jc⟩:=dH j3.out)|(go_at_call 28;(with_reducible refine (bM.calls Xx j7 j8 _ _ j5 XG _ (aC_ (Kd.aH ja.out HB.out)) jb.out P1.out).mono ?_);rintro e Pd ⟨rfl,hb⟩;replace j3:=bbP j3 hb;replace HB:=am (aB gF hb);(try clear hb)))
      go_ret
      exact ⟨rr_,gF⟩
     replace zq:=Bool.eq_false_iff.mpr zq
     subst zq
     rw [if_neg (show ¬ (false=true) by decide)] at H
     obtain rfl:=Option.some.inj H
     obtain ⟨Jd,Je,Jf,Jg,Jh,Ji,Jj,Jk,Jl,Jm,Jn,Jo,Jp,Jq,Jr,Js⟩:=dH j3.out
     go_wp2_with (first|((with_reducible refine aD (f:=83) rfl ?_);refine aM (some 31) rfl rfl Try.func83 (by kernel_rfl) rfl #[.agg #[.int .i64 j4, .int .i64 jc, .int .i64 jd, .int .i64 j7, .int .i64 j8, .slice ji j5.length jj, .slice jk j6.length jl, .slice jm j9.length jn], .bool false] rfl dB ?_;(with_reducible refine (bX.calls j4 jc jd j7 j8 _ _ j5 _ _ j6 _ _ j9 false true _ (aC_ (Kd.aH ja.out HB.out)) jb.out (aC_ (Kd.aH je.out HB.out)) jf.out (aC_ (Kd.aH jg.out HB.out)) jh.out XE.out).mono ?_);rintro e Pe ⟨rfl,hb⟩;refine ⟨_,rfl,?_⟩;replace j3:=bbP j3 hb;replace HB:=am (aB gF hb);(try clear hb);obtain ⟨Jt,Ju,Jv,Jw,Jx,Jy,Jz,JA,JB,JC,JD,JE,JF,JG,JH,JI⟩:=dH j3.out)|(go_at_call 84;(with_reducible refine (dG.calls j4 jc jd j7 j8 _ _ j5 _ _ j6 _ _ j9 true false _ (aC_ (Kd.aH ja.out HB.out)) jb.out (aC_ (Kd.aH je.out HB.out)) jf.out (aC_ (Kd.aH jg.out HB.out)) jh.out XU.out).mono ?_);rintro e Pf ⟨rfl,hb⟩;replace j3:=bbP j3 hb;replace HB:=am (aB gF hb);(try clear hb)))
     go_ret
     exact ⟨rr_,gF⟩
    replace zp:=Bool.eq_false_iff.mpr zp
    subst zp
    rw [if_neg (show ¬ (false=true) by decide)] at H
    obtain rfl:=Option.some.inj H
    obtain ⟨JJ,JK,JL,JM,JN,JO,JP,JQ,JR,JS,JT,JU,JV,JW,JX,JY⟩:=dH j3.out
    go_wp2_with (first|((with_reducible refine aD (f:=83) rfl ?_);refine aM (some 31) rfl rfl Try.func83 (by kernel_rfl) rfl #[.agg #[.int .i64 j4, .int .i64 jc, .int .i64 jd, .int .i64 j7, .int .i64 j8, .slice ji j5.length jj, .slice jk j6.length jl, .slice jm j9.length jn], .bool false] rfl dB ?_;(with_reducible refine (bX.calls j4 jc jd j7 j8 _ _ j5 _ _ j6 _ _ j9 false false _ (aC_ (Kd.aH ja.out HB.out)) jb.out (aC_ (Kd.aH je.out HB.out)) jf.out (aC_ (Kd.aH jg.out HB.out)) jh.out XE.out).mono ?_);rintro e Pg ⟨rfl,hb⟩;refine ⟨_,rfl,?_⟩;replace j3:=bbP j3 hb;replace HB:=am (aB gF hb);(try clear hb)))
    go_ret
    exact ⟨rr_,gF⟩
   rw [if_neg jr] at H
   have jx:(j4 == 4)=false:=beq_eq_false_iff_ne.mpr jr
   have jy:(j4 != 4)=true:=bne_iff_ne.mpr jr
   by_cases js:j4=5
   ·rw [if_pos js] at H
    have jB:(j4 == 5)=true:=beq_iff_eq.mpr js
    have jC:(j4 != 5)=false:=bne_eq_false_iff_eq.mpr js
    clear js
    obtain ⟨XH,jD,H⟩:=bsm H
    (try dsimp only at H)
    have XI:=am jD
    clear jD
    by_cases JZ:XH=true
    ·subst JZ
     rw [if_pos rfl] at H
     obtain ⟨XJ,jE,H⟩:=bsm H
     (try dsimp only at H)
     have XV:=am jE
     clear jE
     by_cases Q0:XJ=true
     ·subst Q0
      rw [if_pos rfl] at H
      obtain ⟨XK,jF,H⟩:=bsm H
      (try dsimp only at H)
      have P2:=am jF
      clear jF
      obtain rfl:=Option.some.inj H
      obtain ⟨Q1,Q2,Q3,Q4,Q5,Q6,Q7,Q8,Q9,Qa,Qb,Qc,Qd,Qe,Qf,Qg⟩:=dH j3.out
      go_wp2_with (first|((with_reducible refine aD (f:=83) rfl ?_);refine aM (some 44) rfl rfl Try.func83 (by kernel_rfl) rfl #[.agg #[.int .i64 j4, .int .i64 jc, .int .i64 jd, .int .i64 j7, .int .i64 j8, .slice ji j5.length jj, .slice jk j6.length jl, .slice jm j9.length jn], .bool true] rfl dB ?_;(with_reducible refine (bX.calls j4 jc jd j7 j8 _ _ j5 _ _ j6 _ _ j9 true true _ (aC_ (Kd.aH ja.out HB.out)) jb.out (aC_ (Kd.aH je.out HB.out)) jf.out (aC_ (Kd.aH jg.out HB.out)) jh.out XI.out).mono ?_);rintro e Ph ⟨rfl,hb⟩;refine ⟨_,rfl,?_⟩;replace j3:=bbP j3 hb;replace HB:=am (aB gF hb);(try clear hb);obtain ⟨Qh,Qi,Qj,Qk,Ql,Qm,Qn,Qo,Qp,Qq,Qr,Qs,Qt,Qu,Qv,Qw⟩:=dH j3.out)|(go_at_call 84;(with_reducible refine (dG.calls j4 jc jd j7 j8 _ _ j5 _ _ j6 _ _ j9 true true _ (aC_ (Kd.aH ja.out HB.out)) jb.out (aC_ (Kd.aH je.out HB.out)) jf.out (aC_ (Kd.aH jg.out HB.out)) jh.out XV.out).mono ?_);rintro e Pi ⟨rfl,hb⟩;replace j3:=bbP j3 hb;replace HB:=am (aB gF hb);(try clear hb);obtain ⟨Qx,Qy,Qz,QA,QB,QC,QD,QE,QF,QG,QH,QI,QJ,QK,QL,QM⟩:=dH j3.out)|(go_at_call 86;(with_reducible refine (gI.calls j7 j8 _ _ j5 XK _ (aC_ (Kd.aH ja.out HB.out)) jb.out P2.out).mono ?_);rintro e Pj ⟨rfl,hb⟩;replace j3:=bbP j3 hb;replace HB:=am (aB gF hb);(try clear hb)))
      go_ret
      exact ⟨rr_,gF⟩
     replace Q0:=Bool.eq_false_iff.mpr Q0
     subst Q0
     rw [if_neg (show ¬ (false=true) by decide)] at H
     obtain rfl:=Option.some.inj H
     obtain ⟨QN,QO,QP,QQ,QR,QS,QT,QU,QV,QW,QX,QY,QZ,Z0,Z1,Z2⟩:=dH j3.out
     go_wp2_with (first|((with_reducible refine aD (f:=83) rfl ?_);refine aM (some 44) rfl rfl Try.func83 (by kernel_rfl) rfl #[.agg #[.int .i64 j4, .int .i64 jc, .int .i64 jd, .int .i64 j7, .int .i64 j8, .slice ji j5.length jj, .slice jk j6.length jl, .slice jm j9.length jn], .bool true] rfl dB ?_;(with_reducible refine (bX.calls j4 jc jd j7 j8 _ _ j5 _ _ j6 _ _ j9 true true _ (aC_ (Kd.aH ja.out HB.out)) jb.out (aC_ (Kd.aH je.out HB.out)) jf.out (aC_ (Kd.aH jg.out HB.out)) jh.out XI.out).mono ?_);rintro e Pk ⟨rfl,hb⟩;refine ⟨_,rfl,?_⟩;replace j3:=bbP j3 hb;replace HB:=am (aB gF hb);(try clear hb);obtain ⟨Z3,Z4,Z5,Z6,Z7,Z8,Z9,Za,Zb,Zc,Zd,Ze,Zf,Zg,Zh,Zi⟩:=dH j3.out)|(go_at_call 84;(with_reducible refine (dG.calls j4 jc jd j7 j8 _ _ j5 _ _ j6 _ _ j9 true false _ (aC_ (Kd.aH ja.out HB.out)) jb.out (aC_ (Kd.aH je.out HB.out)) jf.out (aC_ (Kd.aH jg.out HB.out)) jh.out XV.out).mono ?_);rintro e Pl ⟨rfl,hb⟩;replace j3:=bbP j3 hb;replace HB:=am (aB gF hb);(try clear hb)))
     go_ret
     exact ⟨rr_,gF⟩
    replace JZ:=Bool.eq_false_iff.mpr JZ
    subst JZ
    rw [if_neg (show ¬ (false=true) by decide)] at H
    obtain rfl:=Option.some.inj H
    obtain ⟨Zj,Zk,Zl,Zm,Zn,Zo,Zp,Zq,Zr,Zs,Zt,Zu,Zv,Zw,Zx,Zy⟩:=dH j3.out
    go_wp2_with (first|((with_reducible refine aD (f:=83) rfl ?_);refine aM (some 44) rfl rfl Try.func83 (by kernel_rfl) rfl #[.agg #[.int .i64 j4, .int .i64 jc, .int .i64 jd, .int .i64 j7, .int .i64 j8, .slice ji j5.length jj, .slice jk j6.length jl, .slice jm j9.length jn], .bool true] rfl dB ?_;(with_reducible refine (bX.calls j4 jc jd j7 j8 _ _ j5 _ _ j6 _ _ j9 true false _ (aC_ (Kd.aH ja.out HB.out)) jb.out (aC_ (Kd.aH je.out HB.out)) jf.out (aC_ (Kd.aH jg.out HB.out)) jh.out XI.out).mono ?_);rintro e Pm ⟨rfl,hb⟩;refine ⟨_,rfl,?_⟩;replace j3:=bbP j3 hb;replace HB:=am (aB gF hb);(try clear hb)))
    go_ret
    exact ⟨rr_,gF⟩
   rw [if_neg js] at H
   have jB:(j4 == 5)=false:=beq_eq_false_iff_ne.mpr js
   have jC:(j4 != 5)=true:=bne_iff_ne.mpr js
   by_cases jt:j4=6
   ·rw [if_pos jt] at H
    have jG:(j4 == 6)=true:=beq_iff_eq.mpr jt
    have jH:(j4 != 6)=false:=bne_eq_false_iff_eq.mpr jt
    clear jt
    obtain ⟨XL,jI,H⟩:=bsm H
    (try dsimp only at H)
    have XM:=am jI
    clear jI
    by_cases Zz:XL=true
    ·subst Zz
     rw [if_pos rfl] at H
     obtain ⟨XN,jJ,H⟩:=bsm H
     (try dsimp only at H)
     have XW:=am jJ
     clear jJ
     by_cases ZA:XN=true
     ·subst ZA
      rw [if_pos rfl] at H
      obtain ⟨XO,jK,H⟩:=bsm H
      (try dsimp only at H)
      have P3:=am jK
      clear jK
      obtain rfl:=Option.some.inj H
      obtain ⟨ZB,ZC,ZD,ZE,ZF,ZG,ZH,ZI,ZJ,ZK,ZL,ZM,ZN,ZO,ZP,ZQ⟩:=dH j3.out
      go_wp2_with (first|((with_reducible refine aD (f:=83) rfl ?_);refine aM (some 57) rfl rfl Try.func83 (by kernel_rfl) rfl #[.agg #[.int .i64 j4, .int .i64 jc, .int .i64 jd, .int .i64 j7, .int .i64 j8, .slice ji j5.length jj, .slice jk j6.length jl, .slice jm j9.length jn], .bool false] rfl dB ?_;(with_reducible refine (bX.calls j4 jc jd j7 j8 _ _ j5 _ _ j6 _ _ j9 false true _ (aC_ (Kd.aH ja.out HB.out)) jb.out (aC_ (Kd.aH je.out HB.out)) jf.out (aC_ (Kd.aH jg.out HB.out)) jh.out XM.out).mono ?_);rintro e Pn ⟨rfl,hb⟩;refine ⟨_,rfl,?_⟩;replace j3:=bbP j3 hb;replace HB:=am (aB gF hb);(try clear hb);obtain ⟨ZR,ZS,ZT,ZU,ZV,ZW,ZX,ZY,ZZ,Y0,Y1,Y2,Y3,Y4,Y5,Y6⟩:=dH j3.out)|(go_at_call 84;(with_reducible refine (dG.calls j4 jc jd j7 j8 _ _ j5 _ _ j6 _ _ j9 false true _ (aC_ (Kd.aH ja.out HB.out)) jb.out (aC_ (Kd.aH je.out HB.out)) jf.out (aC_ (Kd.aH jg.out HB.out)) jh.out XW.out).mono ?_);rintro e Po ⟨rfl,hb⟩;replace j3:=bbP j3 hb;replace HB:=am (aB gF hb);(try clear hb);obtain ⟨Y7,Y8,Y9,Ya,Yb,Yc,Yd,Ye,Yf,Yg,Yh,Yi,Yj,Yk,Yl,Ym⟩:=dH j3.out)|(go_at_call 86;(with_reducible refine (gI.calls j7 j8 _ _ j5 XO _ (aC_ (Kd.aH ja.out HB.out)) jb.out P3.out).mono ?_);rintro e Pp ⟨rfl,hb⟩;replace j3:=bbP j3 hb;replace HB:=am (aB gF hb);(try clear hb)))
      go_ret
      exact ⟨rr_,gF⟩
     replace ZA:=Bool.eq_false_iff.mpr ZA
     subst ZA
     rw [if_neg (show ¬ (false=true) by decide)] at H
     obtain rfl:=Option.some.inj H
     obtain ⟨Yn,Yo,Yp,Yq,Yr,Ys,Yt,Yu,Yv,Yw,Yx,Yy,Yz,YA,YB,YC⟩:=dH j3.out
     go_wp2_with (first|((with_reducible refine aD (f:=83) rfl ?_);refine aM (some 57) rfl rfl Try.func83 (by kernel_rfl) rfl #[.agg #[.int .i64 j4, .int .i64 jc, .int .i64 jd, .int .i64 j7, .int .i64 j8, .slice ji j5.length jj, .slice jk j6.length jl, .slice jm j9.length jn], .bool false] rfl dB ?_;(with_reducible refine (bX.calls j4 jc jd j7 j8 _ _ j5 _ _ j6 _ _ j9 false true _ (aC_ (Kd.aH ja.out HB.out)) jb.out (aC_ (Kd.aH je.out HB.out)) jf.out (aC_ (Kd.aH jg.out HB.out)) jh.out XM.out).mono ?_);rintro e Pq ⟨rfl,hb⟩;refine ⟨_,rfl,?_⟩;replace j3:=bbP j3 hb;replace HB:=am (aB gF hb);(try clear hb);obtain ⟨YD,YE,YF,YG,YH,YI,YJ,YK,YL,YM,YN,YO,YP,YQ,YR,YS⟩:=dH j3.out)|(go_at_call 84;(with_reducible refine (dG.calls j4 jc jd j7 j8 _ _ j5 _ _ j6 _ _ j9 false false _ (aC_ (Kd.aH ja.out HB.out)) jb.out (aC_ (Kd.aH je.out HB.out)) jf.out (aC_ (Kd.aH jg.out HB.out)) jh.out XW.out).mono ?_);rintro e Pr ⟨rfl,hb⟩;replace j3:=bbP j3 hb;replace HB:=am (aB gF hb);(try clear hb)))
     go_ret
     exact ⟨rr_,gF⟩
    replace Zz:=Bool.eq_false_iff.mpr Zz
    subst Zz
    rw [if_neg (show ¬ (false=true) by decide)] at H
    obtain rfl:=Option.some.inj H
    obtain ⟨YT,YU,YV,YW,YX,YY,YZ,U0,U1,U2,U3,U4,U5,U6,U7,U8⟩:=dH j3.out
    go_wp2_with (first|((with_reducible refine aD (f:=83) rfl ?_);refine aM (some 57) rfl rfl Try.func83 (by kernel_rfl) rfl #[.agg #[.int .i64 j4, .int .i64 jc, .int .i64 jd, .int .i64 j7, .int .i64 j8, .slice ji j5.length jj, .slice jk j6.length jl, .slice jm j9.length jn], .bool false] rfl dB ?_;(with_reducible refine (bX.calls j4 jc jd j7 j8 _ _ j5 _ _ j6 _ _ j9 false false _ (aC_ (Kd.aH ja.out HB.out)) jb.out (aC_ (Kd.aH je.out HB.out)) jf.out (aC_ (Kd.aH jg.out HB.out)) jh.out XM.out).mono ?_);rintro e Ps ⟨rfl,hb⟩;refine ⟨_,rfl,?_⟩;replace j3:=bbP j3 hb;replace HB:=am (aB gF hb);(try clear hb)))
    go_ret
    exact ⟨rr_,gF⟩
   rw [if_neg jt] at H
   have jG:(j4 == 6)=false:=beq_eq_false_iff_ne.mpr jt
   have jH:(j4 != 6)=true:=bne_iff_ne.mpr jt
   by_cases ju:j4=7
   ·rw [if_pos ju] at H
    have jL:(j4 == 7)=true:=beq_iff_eq.mpr ju
    have jM:(j4 != 7)=false:=bne_eq_false_iff_eq.mpr ju
    clear ju
    obtain ⟨XP,jN,H⟩:=bsm H
    (try dsimp only at H)
    have XQ:=am jN
    clear jN
    by_cases U9:XP=true
    ·subst U9
     rw [if_pos rfl] at H
     obtain ⟨XR,jO,H⟩:=bsm H
     (try dsimp only at H)
     have XX:=am jO
     clear jO
     by_cases Ua:XR=true
     ·subst Ua
      rw [if_pos rfl] at H
      obtain ⟨XS,jP,H⟩:=bsm H
      (try dsimp only at H)
      have P4:=am jP
      clear jP
      obtain rfl:=Option.some.inj H
      obtain ⟨Ub,Uc,Ud,Ue,Uf,Ug,Uh,Ui,Uj,Uk,Ul,Um,Un,Uo,Up,Uq⟩:=dH j3.out
      go_wp2_with (first|((with_reducible refine aD (f:=83) rfl ?_);refine aM (some 70) rfl rfl Try.func83 (by kernel_rfl) rfl #[.agg #[.int .i64 j4, .int .i64 jc, .int .i64 jd, .int .i64 j7, .int .i64 j8, .slice ji j5.length jj, .slice jk j6.length jl, .slice jm j9.length jn], .bool false] rfl dB ?_;(with_reducible refine (bX.calls j4 jc jd j7 j8 _ _ j5 _ _ j6 _ _ j9 false true _ (aC_ (Kd.aH ja.out HB.out)) jb.out (aC_ (Kd.aH je.out HB.out)) jf.out (aC_ (Kd.aH jg.out HB.out)) jh.out XQ.out).mono ?_);rintro e Pt ⟨rfl,hb⟩;refine ⟨_,rfl,?_⟩;replace j3:=bbP j3 hb;replace HB:=am (aB gF hb);(try clear hb);obtain ⟨Ur,Us,Ut,Uu,Uv,Uw,Ux,Uy,Uz,UA,UB,UC,UD,UE,UF,UG⟩:=dH j3.out)|(go_at_call 84;(with_reducible refine (dG.calls j4 jc jd j7 j8 _ _ j5 _ _ j6 _ _ j9 false true _ (aC_ (Kd.aH ja.out HB.out)) jb.out (aC_ (Kd.aH je.out HB.out)) jf.out (aC_ (Kd.aH jg.out HB.out)) jh.out XX.out).mono ?_);rintro e Pu ⟨rfl,hb⟩;replace j3:=bbP j3 hb;replace HB:=am (aB gF hb);(try clear hb);obtain ⟨UH,UI,UJ,UK,UL,UM,UN,UO,UP,UQ,UR,US,UT,UU,UV,UW⟩:=dH j3.out)|(go_at_call 28;(with_reducible refine (bM.calls Xx j7 j8 _ _ j5 XS _ (aC_ (Kd.aH ja.out HB.out)) jb.out P4.out).mono ?_);rintro e Pv ⟨rfl,hb⟩;replace j3:=bbP j3 hb;replace HB:=am (aB gF hb);(try clear hb)))
      go_ret
      exact ⟨rr_,gF⟩
     replace Ua:=Bool.eq_false_iff.mpr Ua
     subst Ua
     rw [if_neg (show ¬ (false=true) by decide)] at H
     obtain rfl:=Option.some.inj H
     obtain ⟨UX,UY,UZ,V0,V1,V2,V3,V4,V5,V6,V7,V8,V9,Va,Vb,Vc⟩:=dH j3.out
     go_wp2_with (first|((with_reducible refine aD (f:=83) rfl ?_);refine aM (some 70) rfl rfl Try.func83 (by kernel_rfl) rfl #[.agg #[.int .i64 j4, .int .i64 jc, .int .i64 jd, .int .i64 j7, .int .i64 j8, .slice ji j5.length jj, .slice jk j6.length jl, .slice jm j9.length jn], .bool false] rfl dB ?_;(with_reducible refine (bX.calls j4 jc jd j7 j8 _ _ j5 _ _ j6 _ _ j9 false true _ (aC_ (Kd.aH ja.out HB.out)) jb.out (aC_ (Kd.aH je.out HB.out)) jf.out (aC_ (Kd.aH jg.out HB.out)) jh.out XQ.out).mono ?_);rintro e Pw ⟨rfl,hb⟩;refine ⟨_,rfl,?_⟩;replace j3:=bbP j3 hb;replace HB:=am (aB gF hb);(try clear hb);obtain ⟨Vd,Ve,Vf,Vg,Vh,Vi,Vj,Vk,Vl,Vm,Vn,Vo,Vp,Vq,Vr,Vs⟩:=dH j3.out)|(go_at_call 84;(with_reducible refine (dG.calls j4 jc jd j7 j8 _ _ j5 _ _ j6 _ _ j9 false false _ (aC_ (Kd.aH ja.out HB.out)) jb.out (aC_ (Kd.aH je.out HB.out)) jf.out (aC_ (Kd.aH jg.out HB.out)) jh.out XX.out).mono ?_);rintro e Px ⟨rfl,hb⟩;replace j3:=bbP j3 hb;replace HB:=am (aB gF hb);(try clear hb)))
     go_ret
     exact ⟨rr_,gF⟩
    replace U9:=Bool.eq_false_iff.mpr U9
    subst U9
    rw [if_neg (show ¬ (false=true) by decide)] at H
    obtain rfl:=Option.some.inj H
    obtain ⟨Vt,Vu,Vv,Vw,Vx,Vy,Vz,VA,VB,VC,VD,VE,VF,VG,VH,VI⟩:=dH j3.out
    go_wp2_with (first|((with_reducible refine aD (f:=83) rfl ?_);refine aM (some 70) rfl rfl Try.func83 (by kernel_rfl) rfl #[.agg #[.int .i64 j4, .int .i64 jc, .int .i64 jd, .int .i64 j7, .int .i64 j8, .slice ji j5.length jj, .slice jk j6.length jl, .slice jm j9.length jn], .bool false] rfl dB ?_;(with_reducible refine (bX.calls j4 jc jd j7 j8 _ _ j5 _ _ j6 _ _ j9 false false _ (aC_ (Kd.aH ja.out HB.out)) jb.out (aC_ (Kd.aH je.out HB.out)) jf.out (aC_ (Kd.aH jg.out HB.out)) jh.out XQ.out).mono ?_);rintro e Py ⟨rfl,hb⟩;refine ⟨_,rfl,?_⟩;replace j3:=bbP j3 hb;replace HB:=am (aB gF hb);(try clear hb)))
    go_ret
    exact ⟨rr_,gF⟩
   rw [if_neg ju] at H
   have jL:(j4 == 7)=false:=beq_eq_false_iff_ne.mpr ju
   have jM:(j4 != 7)=true:=bne_iff_ne.mpr ju
   obtain rfl:=Option.some.inj H
   obtain ⟨VJ,VK,VL,VM,VN,VO,VP,VQ,VR,VS,VT,VU,VV,VW,VX,VY⟩:=dH j3.out
   go_wp2
   go_ret
   exact ⟨rr_,gF⟩
theorem aY.mono_all:∀ k,(∀ y0 y1 y2 y3 y4 y5 y6 y7 y8,LeO (aY.f k y0 y1 y2 y3 y4 y5 y6 y7 y8) (aY.f (k + 1) y0 y1 y2 y3 y4 y5 y6 y7 y8))∧(∀ y0 y1 y2 y3 y4 y5 y6 y7 y8 y9,LeO (aY.j0 k y0 y1 y2 y3 y4 y5 y6 y7 y8 y9) (aY.j0 (k + 1) y0 y1 y2 y3 y4 y5 y6 y7 y8 y9))∧(∀ y0 y1 y2 y3 y4 y5 y6 y7 y8 y9,LeO (aY.j1 k y0 y1 y2 y3 y4 y5 y6 y7 y8 y9) (aY.j1 (k + 1) y0 y1 y2 y3 y4 y5 y6 y7 y8 y9))∧(∀ y0 y1,LeO (aU.f k y0 y1) (aU.f (k + 1) y0 y1))∧(∀ y0 y1 y2,LeO (aU.l0 k y0 y1 y2) (aU.l0 (k + 1) y0 y1 y2))
 |0=>⟨fun _ _ _ _ _ _ _ _ _ r h=>by simp [aY.f] at h,fun _ _ _ _ _ _ _ _ _ _ r h=>by simp [aY.j0] at h,fun _ _ _ _ _ _ _ _ _ _ r h=>by simp [aY.j1] at h,fun _ _ r h=>by simp [aU.f] at h,fun _ _ _ r h=>by simp [aU.l0] at h⟩
 |k + 1=>by
  obtain ⟨ih0,ih1,ih2,ih3,ih4⟩:=aY.mono_all k
  refine ⟨?_,?_,?_,?_,?_⟩
  ·intro y0 y1 y2 y3 y4 y5 y6 y7 y8
   unfold aY.f
   have m0:=@bM.mono
   have m1:=@bG.mono
   exact mo_
  ·intro y0 y1 y2 y3 y4 y5 y6 y7 y8 y9
   unfold aY.j0
   have m0:=@bM.mono
   have m1:=@bG.mono
   exact mo_
  ·intro y0 y1 y2 y3 y4 y5 y6 y7 y8 y9
   unfold aY.j1
   have m0:=@bM.mono
   have m1:=@bG.mono
   exact mo_
  ·intro y0 y1
   unfold aU.f
   have m0:=@bM.mono
   have m1:=@bG.mono
   exact mo_
  ·intro y0 y1 y2
   unfold aU.l0
   have m0:=@bM.mono
   have m1:=@bG.mono
   exact mo_
theorem aY.mono:∀ a0 a1 a2 a3 a4 a5 a6 a7 a8 k,LeO (aY.f k a0 a1 a2 a3 a4 a5 a6 a7 a8) (aY.f (k + 1) a0 a1 a2 a3 a4 a5 a6 a7 a8):=by
 intro a0 a1 a2 a3 a4 a5 a6 a7 a8 k
 obtain ⟨ih0,ih1,ih2,ih3,ih4⟩:=aY.mono_all k
 exact ih0 a0 a1 a2 a3 a4 a5 a6 a7 a8
theorem aU.mono:∀ a0 a1 k,LeO (aU.f k a0 a1) (aU.f (k + 1) a0 a1):=by
 intro a0 a1 k
 obtain ⟨ih0,ih1,ih2,ih3,ih4⟩:=aY.mono_all k
 exact ih3 a0 a1
abbrev aY.bF (k:Nat):Prop:=∀ (a0_0:Int) (a0_1:Int) (a0_2:Int) (a0_3:Int) (a0_4:Int) (A0_5:Option Addr) (c0_5:Nat) (l0_5:List (S28)) (A0_6:Option Addr) (c0_6:Nat) (l0_6:List (S70)) (A0_7:Option Addr) (c0_7:Nat) (l0_7:List (S70)) (a1:Int) (r:Bool) (w:World) (hr0_5:Kd.C k28 w A0_5 l0_5.length l0_5) (hc0_5:l0_5.length≤c0_5) (hr0_6:Kd.C k70 w A0_6 l0_6.length l0_6) (hc0_6:l0_6.length≤c0_6) (hr0_7:Kd.C k70 w A0_7 l0_7.length l0_7) (hc0_7:l0_7.length≤c0_7) (h:aY.f k a0_0 a0_1 a0_2 a0_3 a0_4 l0_5 l0_6 l0_7 a1=some r),
  Calls Try.prog 80 #[.agg #[.int .i64 a0_0, .int .i64 a0_1, .int .i64 a0_2, .int .i64 a0_3, .int .i64 a0_4, .slice A0_5 l0_5.length c0_5, .slice A0_6 l0_6.length c0_6, .slice A0_7 l0_7.length c0_7], .int .i64 a1] w fun e w'=>e= .returned (.bool r)∧Below w.heap.size w w'
abbrev aU.bF (k:Nat):Prop:=∀ (A0:Option Addr) (c0:Nat) (l0:List (S70)) (a1:Int) (r:Bool) (w:World) (hr0:Kd.C k70 w A0 l0.length l0) (hc0:l0.length≤c0) (h:aU.f k l0 a1=some r),
  Calls Try.prog 63 #[.slice A0 l0.length c0, .int .i64 a1] w fun e w'=>e= .returned (.bool r)∧Below w.heap.size w w'
theorem aY.step (k:Nat) (ih_spec_l11Ok:∀ m,m < k→aY.bF m) (ih_spec_l11Blocks:∀ m,m < k→aU.bF m):aY.bF k:=by
 intro j4 ja jb j5 j6 ji jj j7 jk jl j8 jm jn j9 a1 r w hr0_5 hc0_5 hr0_6 hc0_6 hr0_7 hc0_7 h
 cases k with
 |zero=>exact absurd h (by simp [aY.f])
 |succ k=>
 simp only [aY.f] at h
 have hu70:=Try.underlying70
 have hu28:=Try.underlying28
 have jc:=am hr0_5
 have jd:=am hc0_5
 clear hr0_5 hc0_5
 have je:=am hr0_6
 have jf:=am hc0_6
 clear hr0_6 hc0_6
 have jg:=am hr0_7
 have jh:=am hc0_7
 clear hr0_7 hc0_7
 have HB:=am (Below.refl w.heap.size w)
 have H:=h
 clear h
 have Zk:=am H
 clear H
 go_enter Try.func80,Try.ntmps80
 go_upto_region 1 with (first|((with_reducible refine bL (N:=2) rfl ?_);(try (refine mO (by rfl) ?_;dsimp only));refine cB rfl (N:=2) rfl (cs:=#[.int .i64 j4, .int .i64 ja, .int .i64 jb, .int .i64 j5, .int .i64 j6, .slice ji j7.length jj, .slice jk j8.length jl, .slice jm j9.length jn]) (t:=70) rn_ ?_;intro jt hg w4 hbox hb;have j3:=am (hbox);have Y0:=am ((by rw [hg];exact (aQ dK):w.heap.size≤jt));have GE57:=am ((by rw [hg];exact (aQ dK):w.heap.size≤jt));replace HB:=am (aB dK hb);clear hb hbox hg))
 (try simp only [Act.put,List.setIfInBounds_toArray,List.set_cons_zero,List.set_cons_succ])
 go_cut [12] (fun Y1 wc=>∃ (kq:Nat) (jq:Bool),Y1= .bool jq∧Aside0 (aY.j0 kq a1 jq j4 ja jb j5 j6 j7 j8 j9=some r)∧Aside0 (kq≤k)∧Aside0 (wc.heap[jt]?=some (.cells #[.int .i64 j4, .int .i64 ja, .int .i64 jb, .int .i64 j5, .int .i64 j6,(.slice ji j7.length jj),(.slice jk j8.length jl),(.slice jm j9.length jn)] 70 (0,0)))∧Aside0 (Below w.heap.size w wc))
 case first=>
  have H:=Zk.out
  clear Zk
  by_cases c5:j4=2
  ·rw [if_pos c5] at H
   have js:(j4 == 2)=true:=beq_iff_eq.mpr c5
   have Zl:(j4 != 2)=false:=bne_eq_false_iff_eq.mpr c5
   clear c5
   (first|rw [js]|(simp only [gB,gN];rw [js])|skip)
   have H':=am H
   clear H
   obtain ⟨Zm,Zn,Zo,Zp,Zq,Zr,Zs,Zt,Zu,Zv,Zw,Zx,Zy,Zz,ZA,ZB⟩:=dH j3.out
   go_wp2
   go_meet
   case rel=>exact ⟨_,(false),sd_,H',⟨by first|omega|exact Nat.le_refl _⟩,⟨by (with_reducible repeat (first|refine gZ ?_ _|refine gM ?_|refine gY ?_ _));exact j3.out⟩,⟨gU⟩⟩
  rw [if_neg c5] at H
  have js:(j4 == 2)=false:=beq_eq_false_iff_ne.mpr c5
  have Zl:(j4 != 2)=true:=bne_iff_ne.mpr c5
  (first|rw [js]|(simp only [gB,gN];rw [js])|skip)
  have H':=am H
  clear H
  obtain ⟨ZC,ZD,ZE,ZF,ZG,ZH,ZI,ZJ,ZK,ZL,ZM,ZN,ZO,ZP,ZQ,ZR⟩:=dH j3.out
  go_wp2
  go_meet
  case rel=>exact ⟨_,((j4 != 3)),sd_,H',⟨by first|omega|exact Nat.le_refl _⟩,⟨by (with_reducible repeat (first|refine gZ ?_ _|refine gM ?_|refine gY ?_ _));exact j3.out⟩,⟨gU⟩⟩
 case rest=>
  clear Zk
  obtain ⟨kq,jq,rfl,HA,HJ2,j3,HB⟩:=hcut
  cases kq with
  |zero=>exact absurd HA.out (by simp [aY.j0])
  |succ ZT=>
   have H:=HA.out
   clear HA
   simp only [aY.j0] at H
   by_cases c8:jq=true
   ·subst c8
    rw [if_pos rfl] at H
    obtain ⟨Y2,A9,H⟩:=bsa H
    (try dsimp only at H)
    obtain rfl:=Option.some.inj H
    obtain ⟨jA,jB,jC,jD,jE,jF,jG,jH,jI,jJ,jK,jL,jM,jN,jO,jP⟩:=dH j3.out
    go_wp2_with (first|((with_reducible refine aD (f:=82) rfl ?_);refine aM (some 14) rfl rfl Try.func82 (by kernel_rfl) rfl #[.agg #[.int .i64 j4, .int .i64 ja, .int .i64 jb, .int .i64 j5, .int .i64 j6, .slice ji j7.length jj, .slice jk j8.length jl, .slice jm j9.length jn]] rfl dB ?_;(with_reducible refine (bG.calls ZT j4 ja jb j5 j6 _ _ j7 _ _ j8 _ _ j9 Y2 _ (aC_ (Kd.aH jc.out HB.out)) jd.out (aC_ (Kd.aH je.out HB.out)) jf.out (aC_ (Kd.aH jg.out HB.out)) jh.out A9.out).mono ?_);rintro e Ya ⟨rfl,hb⟩;refine ⟨_,rfl,?_⟩;replace j3:=bbP j3 hb;replace HB:=am (aB gU hb);(try clear hb)))
    go_ret
    exact ⟨rr_,gU⟩
   replace c8:=Bool.eq_false_iff.mpr c8
   subst c8
   rw [if_neg (show ¬ (false=true) by decide)] at H
   have ju:=am H
   clear H
   go_upto_region 3 with (fail)
   go_cut [27] (fun Y3 wc=>∃ (kq:Nat) (jo:Bool),Y3= .bool jo∧Aside0 (aY.j1 kq a1 jo j4 ja jb j5 j6 j7 j8 j9=some r)∧Aside0 (kq≤ZT)∧Aside0 (wc.heap[jt]?=some (.cells #[.int .i64 j4, .int .i64 ja, .int .i64 jb, .int .i64 j5, .int .i64 j6,(.slice ji j7.length jj),(.slice jk j8.length jl),(.slice jm j9.length jn)] 70 (0,0)))∧Aside0 (Below w.heap.size w wc))
   case first=>
    have H:=ju.out
    clear ju
    by_cases jw:a1 < 1
    ·rw [if_pos jw] at H
     have jp:decide (a1 < 1)=true:=decide_eq_true jw
     clear jw
     (first|rw [jp]|(simp only [gB,gN];rw [jp])|skip)
     have H':=am H
     clear H
     go_wp2
     go_meet
     case rel=>exact ⟨_,(true),sd_,H',⟨by have:=HJ2.out;first|omega|exact Nat.le_refl _⟩,⟨by (with_reducible repeat (first|refine gZ ?_ _|refine gM ?_|refine gY ?_ _));exact j3.out⟩,⟨gU⟩⟩
    rw [if_neg jw] at H
    have jp:decide (a1 < 1)=false:=decide_eq_false jw
    clear jw
    (first|rw [jp]|(simp only [gB,gN];rw [jp])|skip)
    by_cases jv:j4=3
    ·rw [if_pos jv] at H
     have jx:(j4 == 3)=true:=beq_iff_eq.mpr jv
     have jy:(j4 != 3)=false:=bne_eq_false_iff_eq.mpr jv
     clear jv
     have H':=am H
     clear H
     obtain ⟨jQ,jR,jS,jT,jU,jV,jW,jX,jY,jZ,q0,q1,q2,q3,q4,q5⟩:=dH j3.out
     go_wp2
     go_meet
     case rel=>exact ⟨_,(decide ((j9.length:Int) > 0)),sd_,H',⟨by have:=HJ2.out;first|omega|exact Nat.le_refl _⟩,⟨by (with_reducible repeat (first|refine gZ ?_ _|refine gM ?_|refine gY ?_ _));exact j3.out⟩,⟨gU⟩⟩
    rw [if_neg jv] at H
    have jx:(j4 == 3)=false:=beq_eq_false_iff_ne.mpr jv
    have jy:(j4 != 3)=true:=bne_iff_ne.mpr jv
    have H':=am H
    clear H
    obtain ⟨q6,q7,q8,q9,qa,qb,qc,qd,qe,qf,qg,qh,qi,qj,qk,ql⟩:=dH j3.out
    go_wp2
    go_meet
    case rel=>exact ⟨_,(false),sd_,H',⟨by have:=HJ2.out;first|omega|exact Nat.le_refl _⟩,⟨by (with_reducible repeat (first|refine gZ ?_ _|refine gM ?_|refine gY ?_ _));exact j3.out⟩,⟨gU⟩⟩
   case rest=>
    clear ju
    try clear c8
    obtain ⟨kq,jo,rfl,HA,HJ11,j3,HB⟩:=hcut
    cases kq with
    |zero=>exact absurd HA.out (by simp [aY.j1])
    |succ jr=>
     have H:=HA.out
     clear HA
     simp only [aY.j1] at H
     by_cases qm:jo=true
     ·subst qm
      rw [if_pos rfl] at H
      obtain rfl:=Option.some.inj H
      go_wp2
      go_ret
      exact ⟨rr_,gU⟩
     replace qm:=Bool.eq_false_iff.mpr qm
     subst qm
     rw [if_neg (show ¬ (false=true) by decide)] at H
     obtain ⟨Y4,ZU,H⟩:=bsm H
     (try dsimp only at H)
     have jz:=am ZU
     clear ZU
     by_cases qn:Y4=true
     ·subst qn
      rw [if_pos rfl] at H
      obtain ⟨Y5,ZV,H⟩:=bsm H
      (try dsimp only at H)
      have qo:=am ZV
      clear ZV
      by_cases qp:Y5=true
      ·subst qp
       rw [if_pos rfl] at H
       obtain ⟨Y6,ZW,H⟩:=bsm H
       (try dsimp only at H)
       have ZS:=am ZW
       clear ZW
       by_cases qq:Y6=true
       ·subst qq
        rw [if_pos rfl] at H
        obtain ⟨Y7,ZX,H⟩:=bsm H
        (try dsimp only at H)
        have ZY:=am ZX
        clear ZX
        by_cases qr:Y7=true
        ·subst qr
         rw [if_pos rfl] at H
         obtain ⟨Y8,ZZ,H⟩:=bsm H
         (try dsimp only at H)
         have Y9:=am ZZ
         clear ZZ
         obtain rfl:=Option.some.inj H
         obtain ⟨qs,qt,qu,qv,qw,qx,qy,qz,qA,qB,qC,qD,qE,qF,qG,qH⟩:=dH j3.out
         go_wp2_with (first|((with_reducible refine aD (f:=83) rfl ?_);refine aM (some 29) rfl rfl Try.func83 (by kernel_rfl) rfl #[.agg #[.int .i64 j4, .int .i64 ja, .int .i64 jb, .int .i64 j5, .int .i64 j6, .slice ji j7.length jj, .slice jk j8.length jl, .slice jm j9.length jn], .bool false] rfl dB ?_;(with_reducible refine (bX.calls j4 ja jb j5 j6 _ _ j7 _ _ j8 _ _ j9 false true _ (aC_ (Kd.aH jc.out HB.out)) jd.out (aC_ (Kd.aH je.out HB.out)) jf.out (aC_ (Kd.aH jg.out HB.out)) jh.out jz.out).mono ?_);rintro e Yb ⟨rfl,hb⟩;refine ⟨_,rfl,?_⟩;replace j3:=bbP j3 hb;replace HB:=am (aB gU hb);(try clear hb);obtain ⟨qI,qJ,qK,qL,qM,qN,qO,qP,qQ,qR,qS,qT,qU,qV,qW,qX⟩:=dH j3.out)|(go_at_call 84;(with_reducible refine (dG.calls j4 ja jb j5 j6 _ _ j7 _ _ j8 _ _ j9 false true _ (aC_ (Kd.aH jc.out HB.out)) jd.out (aC_ (Kd.aH je.out HB.out)) jf.out (aC_ (Kd.aH jg.out HB.out)) jh.out qo.out).mono ?_);rintro e Yc ⟨rfl,hb⟩;replace j3:=bbP j3 hb;replace HB:=am (aB gU hb);(try clear hb);obtain ⟨qY,qZ,z0,z1,z2,z3,z4,z5,z6,z7,z8,z9,za,zb,zc,zd⟩:=dH j3.out)|(go_at_call 28;(with_reducible refine (bM.calls jr j5 j6 _ _ j7 true _ (aC_ (Kd.aH jc.out HB.out)) jd.out ZS.out).mono ?_);rintro e Yd ⟨rfl,hb⟩;replace j3:=bbP j3 hb;replace HB:=am (aB gU hb);(try clear hb);obtain ⟨ze,zf,zg,zh,zi,zj,zk,zl,zm,zn,zo,zp,zq,zr,zs,zt⟩:=dH j3.out)|(go_at_call 63;(with_reducible refine (ih_spec_l11Blocks jr (by have:=HJ2.out;have:=HJ11.out;omega) _ _ j8 (wrap64 (a1 - 1)) true _ (aC_ (Kd.aH je.out HB.out)) jf.out ZY.out).mono ?_);rintro e Ye ⟨rfl,hb⟩;replace j3:=bbP j3 hb;replace HB:=am (aB gU hb);(try clear hb);obtain ⟨zu,zv,zw,zx,zy,zz,zA,zB,zC,zD,zE,zF,zG,zH,zI,zJ⟩:=dH j3.out)|(go_at_call 63;(with_reducible refine (ih_spec_l11Blocks jr (by have:=HJ2.out;have:=HJ11.out;omega) _ _ j9 (wrap64 (a1 - 1)) Y8 _ (aC_ (Kd.aH jg.out HB.out)) jh.out Y9.out).mono ?_);rintro e Yf ⟨rfl,hb⟩;replace j3:=bbP j3 hb;replace HB:=am (aB gU hb);(try clear hb)))
         go_ret
         exact ⟨rr_,gU⟩
        replace qr:=Bool.eq_false_iff.mpr qr
        subst qr
        rw [if_neg (show ¬ (false=true) by decide)] at H
        obtain rfl:=Option.some.inj H
        obtain ⟨zK,zL,zM,zN,zO,zP,zQ,zR,zS,zT,zU,zV,zW,zX,zY,zZ⟩:=dH j3.out
        go_wp2_with (first|((with_reducible refine aD (f:=83) rfl ?_);refine aM (some 29) rfl rfl Try.func83 (by kernel_rfl) rfl #[.agg #[.int .i64 j4, .int .i64 ja, .int .i64 jb, .int .i64 j5, .int .i64 j6, .slice ji j7.length jj, .slice jk j8.length jl, .slice jm j9.length jn], .bool false] rfl dB ?_;(with_reducible refine (bX.calls j4 ja jb j5 j6 _ _ j7 _ _ j8 _ _ j9 false true _ (aC_ (Kd.aH jc.out HB.out)) jd.out (aC_ (Kd.aH je.out HB.out)) jf.out (aC_ (Kd.aH jg.out HB.out)) jh.out jz.out).mono ?_);rintro e Yg ⟨rfl,hb⟩;refine ⟨_,rfl,?_⟩;replace j3:=bbP j3 hb;replace HB:=am (aB gU hb);(try clear hb);obtain ⟨J0,J1,J2,J3,J4,J5,J6,J7,J8,J9,Ja,Jb,Jc,Jd,Je,Jf⟩:=dH j3.out)|(go_at_call 84;(with_reducible refine (dG.calls j4 ja jb j5 j6 _ _ j7 _ _ j8 _ _ j9 false true _ (aC_ (Kd.aH jc.out HB.out)) jd.out (aC_ (Kd.aH je.out HB.out)) jf.out (aC_ (Kd.aH jg.out HB.out)) jh.out qo.out).mono ?_);rintro e Yh ⟨rfl,hb⟩;replace j3:=bbP j3 hb;replace HB:=am (aB gU hb);(try clear hb);obtain ⟨Jg,Jh,Ji,Jj,Jk,Jl,Jm,Jn,Jo,Jp,Jq,Jr,Js,Jt,Ju,Jv⟩:=dH j3.out)|(go_at_call 28;(with_reducible refine (bM.calls jr j5 j6 _ _ j7 true _ (aC_ (Kd.aH jc.out HB.out)) jd.out ZS.out).mono ?_);rintro e Yi ⟨rfl,hb⟩;replace j3:=bbP j3 hb;replace HB:=am (aB gU hb);(try clear hb);obtain ⟨Jw,Jx,Jy,Jz,JA,JB,JC,JD,JE,JF,JG,JH,JI,JJ,JK,JL⟩:=dH j3.out)|(go_at_call 63;(with_reducible refine (ih_spec_l11Blocks jr (by have:=HJ2.out;have:=HJ11.out;omega) _ _ j8 (wrap64 (a1 - 1)) false _ (aC_ (Kd.aH je.out HB.out)) jf.out ZY.out).mono ?_);rintro e Yj ⟨rfl,hb⟩;replace j3:=bbP j3 hb;replace HB:=am (aB gU hb);(try clear hb)))
        go_ret
        exact ⟨rr_,gU⟩
       replace qq:=Bool.eq_false_iff.mpr qq
       subst qq
       rw [if_neg (show ¬ (false=true) by decide)] at H
       obtain rfl:=Option.some.inj H
       obtain ⟨JM,JN,JO,JP,JQ,JR,JS,JT,JU,JV,JW,JX,JY,JZ,Q0,Q1⟩:=dH j3.out
       go_wp2_with (first|((with_reducible refine aD (f:=83) rfl ?_);refine aM (some 29) rfl rfl Try.func83 (by kernel_rfl) rfl #[.agg #[.int .i64 j4, .int .i64 ja, .int .i64 jb, .int .i64 j5, .int .i64 j6, .slice ji j7.length jj, .slice jk j8.length jl, .slice jm j9.length jn], .bool false] rfl dB ?_;(with_reducible refine (bX.calls j4 ja jb j5 j6 _ _ j7 _ _ j8 _ _ j9 false true _ (aC_ (Kd.aH jc.out HB.out)) jd.out (aC_ (Kd.aH je.out HB.out)) jf.out (aC_ (Kd.aH jg.out HB.out)) jh.out jz.out).mono ?_);rintro e Yk ⟨rfl,hb⟩;refine ⟨_,rfl,?_⟩;replace j3:=bbP j3 hb;replace HB:=am (aB gU hb);(try clear hb);obtain ⟨Q2,Q3,Q4,Q5,Q6,Q7,Q8,Q9,Qa,Qb,Qc,Qd,Qe,Qf,Qg,Qh⟩:=dH j3.out)|(go_at_call 84;(with_reducible refine (dG.calls j4 ja jb j5 j6 _ _ j7 _ _ j8 _ _ j9 false true _ (aC_ (Kd.aH jc.out HB.out)) jd.out (aC_ (Kd.aH je.out HB.out)) jf.out (aC_ (Kd.aH jg.out HB.out)) jh.out qo.out).mono ?_);rintro e Yl ⟨rfl,hb⟩;replace j3:=bbP j3 hb;replace HB:=am (aB gU hb);(try clear hb);obtain ⟨Qi,Qj,Qk,Ql,Qm,Qn,Qo,Qp,Qq,Qr,Qs,Qt,Qu,Qv,Qw,Qx⟩:=dH j3.out)|(go_at_call 28;(with_reducible refine (bM.calls jr j5 j6 _ _ j7 false _ (aC_ (Kd.aH jc.out HB.out)) jd.out ZS.out).mono ?_);rintro e Ym ⟨rfl,hb⟩;replace j3:=bbP j3 hb;replace HB:=am (aB gU hb);(try clear hb)))
       go_ret
       exact ⟨rr_,gU⟩
      replace qp:=Bool.eq_false_iff.mpr qp
      subst qp
      rw [if_neg (show ¬ (false=true) by decide)] at H
      obtain rfl:=Option.some.inj H
      obtain ⟨Qy,Qz,QA,QB,QC,QD,QE,QF,QG,QH,QI,QJ,QK,QL,QM,QN⟩:=dH j3.out
      go_wp2_with (first|((with_reducible refine aD (f:=83) rfl ?_);refine aM (some 29) rfl rfl Try.func83 (by kernel_rfl) rfl #[.agg #[.int .i64 j4, .int .i64 ja, .int .i64 jb, .int .i64 j5, .int .i64 j6, .slice ji j7.length jj, .slice jk j8.length jl, .slice jm j9.length jn], .bool false] rfl dB ?_;(with_reducible refine (bX.calls j4 ja jb j5 j6 _ _ j7 _ _ j8 _ _ j9 false true _ (aC_ (Kd.aH jc.out HB.out)) jd.out (aC_ (Kd.aH je.out HB.out)) jf.out (aC_ (Kd.aH jg.out HB.out)) jh.out jz.out).mono ?_);rintro e Yn ⟨rfl,hb⟩;refine ⟨_,rfl,?_⟩;replace j3:=bbP j3 hb;replace HB:=am (aB gU hb);(try clear hb);obtain ⟨QO,QP,QQ,QR,QS,QT,QU,QV,QW,QX,QY,QZ,Z0,Z1,Z2,Z3⟩:=dH j3.out)|(go_at_call 84;(with_reducible refine (dG.calls j4 ja jb j5 j6 _ _ j7 _ _ j8 _ _ j9 false false _ (aC_ (Kd.aH jc.out HB.out)) jd.out (aC_ (Kd.aH je.out HB.out)) jf.out (aC_ (Kd.aH jg.out HB.out)) jh.out qo.out).mono ?_);rintro e Yo ⟨rfl,hb⟩;replace j3:=bbP j3 hb;replace HB:=am (aB gU hb);(try clear hb)))
      go_ret
      exact ⟨rr_,gU⟩
     replace qn:=Bool.eq_false_iff.mpr qn
     subst qn
     rw [if_neg (show ¬ (false=true) by decide)] at H
     obtain rfl:=Option.some.inj H
     obtain ⟨Z4,Z5,Z6,Z7,Z8,Z9,Za,Zb,Zc,Zd,Ze,Zf,Zg,Zh,Zi,Zj⟩:=dH j3.out
     go_wp2_with (first|((with_reducible refine aD (f:=83) rfl ?_);refine aM (some 29) rfl rfl Try.func83 (by kernel_rfl) rfl #[.agg #[.int .i64 j4, .int .i64 ja, .int .i64 jb, .int .i64 j5, .int .i64 j6, .slice ji j7.length jj, .slice jk j8.length jl, .slice jm j9.length jn], .bool false] rfl dB ?_;(with_reducible refine (bX.calls j4 ja jb j5 j6 _ _ j7 _ _ j8 _ _ j9 false false _ (aC_ (Kd.aH jc.out HB.out)) jd.out (aC_ (Kd.aH je.out HB.out)) jf.out (aC_ (Kd.aH jg.out HB.out)) jh.out jz.out).mono ?_);rintro e Yp ⟨rfl,hb⟩;refine ⟨_,rfl,?_⟩;replace j3:=bbP j3 hb;replace HB:=am (aB gU hb);(try clear hb)))
     go_ret
     exact ⟨rr_,gU⟩
theorem aU.step (k:Nat) (ih_spec_l11Ok:∀ m,m < k→aY.bF m) (ih_spec_l11Blocks:∀ m,m < k→aU.bF m):aU.bF k:=by
 intro A0 c0 l0 a1 r w hr0 hc0 h
 cases k with
 |zero=>exact absurd h (by simp [aU.f])
 |succ k=>
 simp only [aU.f] at h
 have hu70:=Try.underlying70
 have ju:=am hr0
 have jx:=am hc0
 clear hr0 hc0
 have HB:=am (Below.refl w.heap.size w)
 have H:(aU.l0 k l0 a1 0)=some r:=h
 clear h
 have H':=am H
 clear H
 go_enter Try.func63,Try.ntmps63
 go_wp2
 go_loopg [5] k (fun kq v5 w'=>∃ (j3:Int),v5= .int .i64 j3∧Aside0 (aU.l0 kq l0 a1 j3=some r)∧Aside0 (kq≤k)∧Aside0 (Below w.heap.size w w'))
 case atStart=>exact ⟨(0),sd_,H',⟨Nat.le_refl _⟩,⟨dK⟩⟩
 case round=>
  clear H'
  obtain ⟨j3,rfl,HA,jq,HB⟩:=hrel
  cases gk with
  |zero=>exact absurd HA.out (by simp [aU.l0])
  |succ k1=>
   have H:=HA.out
   clear HA
   simp only [aU.l0] at H
   by_cases c3:j3 < (l0.length:Int)
   ·rw [if_pos c3] at H
    have jr:decide (j3 < (l0.length:Int))=true:=decide_eq_true c3
    clear c3
    by_cases c4:0≤j3
    ·rw [if_pos c4] at H
     have jv:decide (0≤j3)=true:=decide_eq_true c4
     clear c4
     obtain ⟨jw,A5,H⟩:=bsa H
     (try dsimp only at H)
     by_cases c6:jw=true
     ·subst c6
      rw [if_pos rfl] at H
      have H':=am H
      clear H
      have jo:0≤(j3:Int):=of_decide_eq_true bR
      have jp:j3 < (l0.length:Int):=of_decide_eq_true bR
      obtain ⟨js,ji,jj,jk,jl,jm,jn,jt,j4,j5,j6,j7,j8,j9,ja,jb,hl21_5,hi21_5,hl21_6,hi21_6,hl21_7,hi21_7⟩:=dJ ju.out j3 jo jp
      cases jt
      replace j4:=(HB.out.cell (World.block_lt_of_cell? w _ j4)).trans j4
      replace j5:=(HB.out.cell (World.block_lt_of_cell? w _ j5)).trans j5
      replace j6:=(HB.out.cell (World.block_lt_of_cell? w _ j6)).trans j6
      replace j7:=(HB.out.cell (World.block_lt_of_cell? w _ j7)).trans j7
      replace j8:=(HB.out.cell (World.block_lt_of_cell? w _ j8)).trans j8
      replace j9:=(HB.out.cell (World.block_lt_of_cell? w _ j9)).trans j9
      replace ja:=(HB.out.cell (World.block_lt_of_cell? w _ ja)).trans ja
      replace jb:=(HB.out.cell (World.block_lt_of_cell? w _ jb)).trans jb
      have jc:=am hi21_5
      have jd:=am hl21_5
      clear hi21_5 hl21_5
      have je:=am hi21_6
      have jf:=am hl21_6
      clear hi21_6 hl21_6
      have jg:=am hi21_7
      have jh:=am hl21_7
      clear hi21_7 hl21_7
      replace jo:=eq_true jo
      replace jp:=eq_true jp
      go_wp2_with (first|((with_reducible refine aD (f:=80) rfl ?_);refine aM (some 17) rfl rfl Try.func80 (by kernel_rfl) rfl #[.agg #[.int .i64 ((aC l0 j3).f0), .int .i64 ((aC l0 j3).f1), .int .i64 ((aC l0 j3).f2), .int .i64 ((aC l0 j3).f3.f0), .int .i64 ((aC l0 j3).f3.f1), .slice ji ((aC l0 j3).f3.f2).length jj, .slice jk ((aC l0 j3).f4).length jl, .slice jm ((aC l0 j3).f5).length jn], .int .i64 a1] rfl dB ?_;(with_reducible refine (ih_spec_l11Ok k1 (by have:=jq.out;omega) ((aC l0 j3).f0) ((aC l0 j3).f1) ((aC l0 j3).f2) ((aC l0 j3).f3.f0) ((aC l0 j3).f3.f1) _ _ ((aC l0 j3).f3.f2) _ _ ((aC l0 j3).f4) _ _ ((aC l0 j3).f5) a1 true _ (aC_ (Kd.aH jc.out HB.out)) jd.out (aC_ (Kd.aH je.out HB.out)) jf.out (aC_ (Kd.aH jg.out HB.out)) jh.out A5.out).mono ?_);rintro e w7 ⟨rfl,hb⟩;refine ⟨_,rfl,?_⟩;replace HB:=am (aB dK hb);(try clear hb)))
      go_roundg k1
      case measure=>have:=jq.out;omega
      case rel=>exact ⟨(wrap64 (j3 + 1)),sd_,H',⟨by have:=jq.out;omega⟩,⟨dK⟩⟩
     replace c6:=Bool.eq_false_iff.mpr c6
     subst c6
     rw [if_neg (show ¬ (false=true) by decide)] at H
     obtain rfl:=Option.some.inj H
     have jo:0≤(j3:Int):=of_decide_eq_true bR
     have jp:j3 < (l0.length:Int):=of_decide_eq_true bR
     obtain ⟨js,ji,jj,jk,jl,jm,jn,jt,j4,j5,j6,j7,j8,j9,ja,jb,hl21_5,hi21_5,hl21_6,hi21_6,hl21_7,hi21_7⟩:=dJ ju.out j3 jo jp
     cases jt
     replace j4:=(HB.out.cell (World.block_lt_of_cell? w _ j4)).trans j4
     replace j5:=(HB.out.cell (World.block_lt_of_cell? w _ j5)).trans j5
     replace j6:=(HB.out.cell (World.block_lt_of_cell? w _ j6)).trans j6
     replace j7:=(HB.out.cell (World.block_lt_of_cell? w _ j7)).trans j7
     replace j8:=(HB.out.cell (World.block_lt_of_cell? w _ j8)).trans j8
     replace j9:=(HB.out.cell (World.block_lt_of_cell? w _ j9)).trans j9
     replace ja:=(HB.out.cell (World.block_lt_of_cell? w _ ja)).trans ja
     replace jb:=(HB.out.cell (World.block_lt_of_cell? w _ jb)).trans jb
     have jc:=am hi21_5
     have jd:=am hl21_5
     clear hi21_5 hl21_5
     have je:=am hi21_6
     have jf:=am hl21_6
     clear hi21_6 hl21_6
     have jg:=am hi21_7
     have jh:=am hl21_7
     clear hi21_7 hl21_7
     replace jo:=eq_true jo
     replace jp:=eq_true jp
     go_wp2_with (first|((with_reducible refine aD (f:=80) rfl ?_);refine aM (some 17) rfl rfl Try.func80 (by kernel_rfl) rfl #[.agg #[.int .i64 ((aC l0 j3).f0), .int .i64 ((aC l0 j3).f1), .int .i64 ((aC l0 j3).f2), .int .i64 ((aC l0 j3).f3.f0), .int .i64 ((aC l0 j3).f3.f1), .slice ji ((aC l0 j3).f3.f2).length jj, .slice jk ((aC l0 j3).f4).length jl, .slice jm ((aC l0 j3).f5).length jn], .int .i64 a1] rfl dB ?_;(with_reducible refine (ih_spec_l11Ok k1 (by have:=jq.out;omega) ((aC l0 j3).f0) ((aC l0 j3).f1) ((aC l0 j3).f2) ((aC l0 j3).f3.f0) ((aC l0 j3).f3.f1) _ _ ((aC l0 j3).f3.f2) _ _ ((aC l0 j3).f4) _ _ ((aC l0 j3).f5) a1 false _ (aC_ (Kd.aH jc.out HB.out)) jd.out (aC_ (Kd.aH je.out HB.out)) jf.out (aC_ (Kd.aH jg.out HB.out)) jh.out A5.out).mono ?_);rintro e w8 ⟨rfl,hb⟩;refine ⟨_,rfl,?_⟩;replace HB:=am (aB dK hb);(try clear hb)))
     go_ret
     exact ⟨rr_,dK⟩
    rw [if_neg c4] at H
    exact absurd H (by simp)
   rw [if_neg c3] at H
   have jr:decide (j3 < (l0.length:Int))=false:=decide_eq_false c3
   clear c3
   obtain rfl:=Option.some.inj H
   go_wp2
   go_ret
   exact ⟨rr_,dK⟩
theorem aY.calls_all (k:Nat):aY.bF k∧aU.bF k:=by
 induction k using Nat.strongRecOn with
 | _ k ih=>exact ⟨aY.step k (ih_spec_l11Ok:=fun m hm=>(ih m hm).1) (ih_spec_l11Blocks:=fun m hm=>(ih m hm).2),aU.step k (ih_spec_l11Ok:=fun m hm=>(ih m hm).1) (ih_spec_l11Blocks:=fun m hm=>(ih m hm).2)⟩
theorem aY.calls (k:Nat):aY.bF k:=(aY.calls_all k).1
theorem aU.calls (k:Nat):aU.bF k:=(aY.calls_all k).2
theorem aV.mono_l:∀ k,(∀ y0,LeO (aV.f k y0) (aV.f (k + 1) y0))∧(∀ y0 y1 y2,LeO (aV.l0 k y0 y1 y2) (aV.l0 (k + 1) y0 y1 y2))
 |0=>⟨fun _ r h=>by simp [aV.f] at h,fun _ _ _ r h=>by simp [aV.l0] at h⟩
 |k + 1=>by
  obtain ⟨ih0,ih1⟩:=aV.mono_l k
  refine ⟨?_,?_⟩
  ·intro y0
   unfold aV.f
   exact mo_
  ·intro y0 y1 y2
   unfold aV.l0
   exact mo_
theorem aV.mono:∀ a0 k,LeO (aV.f k a0) (aV.f (k + 1) a0):=by
 intro a0 k
 obtain ⟨ih0,ih1⟩:=aV.mono_l k
 exact ih0 a0
def aV.T5:Bool × List (List Nat × List Nat):=(true,[([],[]),([0],[0]),([],[]),([],[]),([2,3],[2,3]),([4],[4]),([5],[5]),([6],[6]),([1,7],[1,7]),([],[]),([],[]),([9,10],[9,10]),([11],[11]),([12],[12]),([13,7],[13]),([8,14],[8,14]),([15,14,0,1,2,3,4,5,6,7,8,9,10,11,12,13,14,15],[0,15])])
def aV.B5:List Nat:=[0,1,0,0,12,28,60,124,255,0,0,1536,3584,7680,16124,32767,65535]
theorem aV.PZ:kQ .any (opsOf Try.f64 5)=aV.T5:=by kernel_rfl
theorem aV.OW:lZ aV.T5.2 aV.B5=true:=by kernel_rfl
theorem aV.calls (k:Nat):∀ (A0:Option Addr) (c0:Nat) (l0:List (S70)) (r:Int) (w:World) (hr0:Kd.C k70 w A0 l0.length l0) (hc0:l0.length≤c0) (h:aV.f k l0=some r),
  Calls Try.prog 64 #[.slice A0 l0.length c0] w fun e w'=>e= .returned (.int .i64 r)∧Below w.heap.size w w':=by
 induction k using Nat.strongRecOn with
 | _ k ih=>
 intro A0 c0 l0 r w hr0 hc0 h
 cases k with
 |zero=>exact absurd h (by simp [aV.f])
 |succ k=>
 simp only [aV.f] at h
 have jL:=am hr0
 have jX:=am hc0
 clear hr0 hc0
 have HB:=am (Below.refl w.heap.size w)
 have H:(aV.l0 k l0 0 0)=some r:=h
 clear h
 have H':=am H
 clear H
 go_enter Try.func64,Try.ntmps64
 go_wp2
 go_loopg [3,4] k (fun kq v3 v4 w'=>∃ (jr:Int) (j3:Int),v3= .int .i64 jr∧v4= .int .i64 j3∧Aside0 (aV.l0 kq l0 jr j3=some r)∧Aside0 (kq≤k)∧Aside0 (Below w.heap.size w w'))
 case atStart=>exact ⟨(0),(0),sd_,sd_,H',⟨Nat.le_refl _⟩,⟨dK⟩⟩
 case round=>
  clear H'
  obtain ⟨jr,j3,rfl,rfl,HA,jA,HB⟩:=hrel
  cases gk with
  |zero=>exact absurd HA.out (by simp [aV.l0])
  |succ k1=>
   have H:=HA.out
   clear HA
   simp only [aV.l0] at H
   by_cases c2:j3 < (l0.length:Int)
   ·rw [if_pos c2] at H
    have jB:decide (j3 < (l0.length:Int))=true:=decide_eq_true c2
    clear c2
    by_cases c3:0≤j3
    ·rw [if_pos c3] at H
     have jU:decide (0≤j3)=true:=decide_eq_true c3
     clear c3
     obtain ⟨jM,A4,H⟩:=bsa H
     (try dsimp only at H)
     obtain ⟨jN,A5,H⟩:=bsa H
     (try dsimp only at H)
     have H':=am H
     clear H
     try go_wp2
     replace HB:=am (dF HB.out)
     have jC:0≤(j3:Int):=of_decide_eq_true bR
     have jD:j3 < (l0.length:Int):=of_decide_eq_true bR
     obtain ⟨j4,js,jt,jl,jm,jn,jo,jV,jb,jc,jd,je,jf,j5,j6,j7,hl30_5,hi30_5,hl30_6,hi30_6,hl30_7,hi30_7⟩:=dJ jL.out j3 jC jD
     have hw30_7:=j7
     have hw30_6:=j6
     have hw30_5:=j5
     have hw30_4:=jf
     have hw30_3:=je
     have hw30_2:=jd
     have hw30_1:=jc
     have hw30_0:=jb
     cases jV
     replace jb:=(HB.out.cell (World.block_lt_of_cell? w _ jb)).trans jb
     replace jc:=(HB.out.cell (World.block_lt_of_cell? w _ jc)).trans jc
     replace jd:=(HB.out.cell (World.block_lt_of_cell? w _ jd)).trans jd
     replace je:=(HB.out.cell (World.block_lt_of_cell? w _ je)).trans je
     replace jf:=(HB.out.cell (World.block_lt_of_cell? w _ jf)).trans jf
     replace j5:=(HB.out.cell (World.block_lt_of_cell? w _ j5)).trans j5
     replace j6:=(HB.out.cell (World.block_lt_of_cell? w _ j6)).trans j6
     replace j7:=(HB.out.cell (World.block_lt_of_cell? w _ j7)).trans j7
     have ju:=am hi30_5
     have jE:=am hl30_5
     clear hi30_5 hl30_5
     have jp:=am hi30_6
     have jv:=am hl30_6
     clear hi30_6 hl30_6
     have jw:=am hi30_7
     have jF:=am hl30_7
     clear hi30_7 hl30_7
     replace jC:=eq_true jC
     replace jD:=eq_true jD
     have jG:0≤(j3:Int):=of_decide_eq_true bR
     have jH:j3 < (l0.length:Int):=of_decide_eq_true bR
     obtain ⟨jI,jO,jP,jQ,jR,jS,jT,jW,jg,jh,ji,jj,jk,j8,j9,ja,hl31_5,hi31_5,hl31_6,hi31_6,hl31_7,hi31_7⟩:=dJ jL.out j3 jG jH
     have hw31_7:=ja
     have hw31_6:=j9
     have hw31_5:=j8
     have hw31_4:=jk
     have hw31_3:=jj
     have hw31_2:=ji
     have hw31_1:=jh
     have hw31_0:=jg
     obtain rfl:j4=jI:=(by injection jW)
     replace jg:=(HB.out.cell (World.block_lt_of_cell? w _ jg)).trans jg
     replace jh:=(HB.out.cell (World.block_lt_of_cell? w _ jh)).trans jh
     replace ji:=(HB.out.cell (World.block_lt_of_cell? w _ ji)).trans ji
     replace jj:=(HB.out.cell (World.block_lt_of_cell? w _ jj)).trans jj
     replace jk:=(HB.out.cell (World.block_lt_of_cell? w _ jk)).trans jk
     replace j8:=(HB.out.cell (World.block_lt_of_cell? w _ j8)).trans j8
     replace j9:=(HB.out.cell (World.block_lt_of_cell? w _ j9)).trans j9
     replace ja:=(HB.out.cell (World.block_lt_of_cell? w _ ja)).trans ja
     have jx:=am hi31_5
     have jJ:=am hl31_5
     clear hi31_5 hl31_5
     have jy:=am hi31_6
     have jK:=am hl31_6
     clear hi31_6 hl31_6
     have jq:=am hi31_7
     have jz:=am hl31_7
     clear hi31_7 hl31_7
     replace jG:=eq_true jG
     replace jH:=eq_true jH
     have ea_:=Option.some.inj (j5.symm.trans j8)
     injection ea_ with ea_ en_ ec_
     subst ea_
     subst ec_
     clear en_
     have ea_:=Option.some.inj (j6.symm.trans j9)
     injection ea_ with ea_ en_ ec_
     subst ea_
     subst ec_
     clear en_
     have ea_:=Option.some.inj (j7.symm.trans ja)
     injection ea_ with ea_ en_ ec_
     subst ea_
     subst ec_
     clear en_
     refine wM (n:=17) (S:=fun w'=>w'.cell? (j4.add ((j3).toNat * 8))=some (.int .i64 ((aC l0 j3).f0))∧w'.cell? ⟨(j4.add ((j3).toNat * 8)).block,(j4.add ((j3).toNat * 8)).off + 1,none⟩=some (.int .i64 ((aC l0 j3).f1))∧w'.cell? ⟨(j4.add ((j3).toNat * 8)).block,(j4.add ((j3).toNat * 8)).off + 2,none⟩=some (.int .i64 ((aC l0 j3).f2))∧w'.cell? ⟨(j4.add ((j3).toNat * 8)).block,(j4.add ((j3).toNat * 8)).off + 3,none⟩=some (.int .i64 ((aC l0 j3).f3.f0))∧w'.cell? ⟨(j4.add ((j3).toNat * 8)).block,(j4.add ((j3).toNat * 8)).off + 4,none⟩=some (.int .i64 ((aC l0 j3).f3.f1))∧w'.cell? ⟨(j4.add ((j3).toNat * 8)).block,(j4.add ((j3).toNat * 8)).off + 5,none⟩=some (.slice js ((aC l0 j3).f3.f2).length jt)∧w'.cell? ⟨(j4.add ((j3).toNat * 8)).block,(j4.add ((j3).toNat * 8)).off + 6,none⟩=some (.slice jl ((aC l0 j3).f4).length jm)∧w'.cell? ⟨(j4.add ((j3).toNat * 8)).block,(j4.add ((j3).toNat * 8)).off + 7,none⟩=some (.slice jn ((aC l0 j3).f5).length jo)∧w'.cell? (j4.add ((j3).toNat * 8))=some (.int .i64 ((aC l0 j3).f0))∧w'.cell? ⟨(j4.add ((j3).toNat * 8)).block,(j4.add ((j3).toNat * 8)).off + 1,none⟩=some (.int .i64 ((aC l0 j3).f1))∧w'.cell? ⟨(j4.add ((j3).toNat * 8)).block,(j4.add ((j3).toNat * 8)).off + 2,none⟩=some (.int .i64 ((aC l0 j3).f2))∧w'.cell? ⟨(j4.add ((j3).toNat * 8)).block,(j4.add ((j3).toNat * 8)).off + 3,none⟩=some (.int .i64 ((aC l0 j3).f3.f0))∧w'.cell? ⟨(j4.add ((j3).toNat * 8)).block,(j4.add ((j3).toNat * 8)).off + 4,none⟩=some (.int .i64 ((aC l0 j3).f3.f1))∧w'.cell? ⟨(j4.add ((j3).toNat * 8)).block,(j4.add ((j3).toNat * 8)).off + 5,none⟩=some (.slice js ((aC l0 j3).f3.f2).length jt)∧w'.cell? ⟨(j4.add ((j3).toNat * 8)).block,(j4.add ((j3).toNat * 8)).off + 6,none⟩=some (.slice jl ((aC l0 j3).f4).length jm)∧w'.cell? ⟨(j4.add ((j3).toNat * 8)).block,(j4.add ((j3).toNat * 8)).off + 7,none⟩=some (.slice jn ((aC l0 j3).f5).length jo)) (ds:=[]) (bz 17 0) (by kernel_rfl) rfl rfl ⟨((HB.out.cell (World.block_lt_of_cell? w _ hw30_0)).trans hw30_0),((HB.out.cell (World.block_lt_of_cell? w _ hw30_1)).trans hw30_1),((HB.out.cell (World.block_lt_of_cell? w _ hw30_2)).trans hw30_2),((HB.out.cell (World.block_lt_of_cell? w _ hw30_3)).trans hw30_3),((HB.out.cell (World.block_lt_of_cell? w _ hw30_4)).trans hw30_4),((HB.out.cell (World.block_lt_of_cell? w _ hw30_5)).trans hw30_5),((HB.out.cell (World.block_lt_of_cell? w _ hw30_6)).trans hw30_6),((HB.out.cell (World.block_lt_of_cell? w _ hw30_7)).trans hw30_7),((HB.out.cell (World.block_lt_of_cell? w _ hw31_0)).trans hw31_0),((HB.out.cell (World.block_lt_of_cell? w _ hw31_1)).trans hw31_1),((HB.out.cell (World.block_lt_of_cell? w _ hw31_2)).trans hw31_2),((HB.out.cell (World.block_lt_of_cell? w _ hw31_3)).trans hw31_3),((HB.out.cell (World.block_lt_of_cell? w _ hw31_4)).trans hw31_4),((HB.out.cell (World.block_lt_of_cell? w _ hw31_5)).trans hw31_5),((HB.out.cell (World.block_lt_of_cell? w _ hw31_6)).trans hw31_6),((HB.out.cell (World.block_lt_of_cell? w _ hw31_7)).trans hw31_7)⟩ (fun hHeld=>?_);refine nR aV.PZ aV.OW (fun HT_ HW_=>?_)
     generalize wr.drew=w6 at HB ju jp jw jx jy jq jb jc jd je jf j5 j6 j7 jg jh ji jj jk j8 j9 ja hHeld ⊢
     refine pr_ 0 11 (bz 17 1) HT_ ?_
     refine pr_ 1 12 (bz 17 3) HT_ ?_
     refine pr_ 2 13 (bz 17 7) HT_ ?_
     refine pr_ 3 14 (bz 17 15) HT_ ?_
     refine pr_ 4 15 (bz 17 31) HT_ ?_
     refine pr_ 5 16 (bz 17 63) HT_ ?_
     refine pr_ 9 20 (bz 17 575) HT_ ?_
     refine pr_ 10 21 (bz 17 1599) HT_ ?_
     refine pr_ 11 22 (bz 17 3647) HT_ ?_
     refine pr_ 12 23 (bz 17 7743) HT_ ?_
     refine xZ 6 17 (bz 17 7807) HT_ HW_ hHeld ?_
     refine xZ 13 24 (bz 17 15999) HT_ HW_ hHeld ?_
     refine GD (i:=7) (N:=some 18) (bz 17 16127) rfl rfl (uQ HT_.out (by kernel_rfl)) (by decide) (fun K hK=>?_)
     refine oQ Try.func64 (by kernel_rfl) rfl #[.slice jl ((aC l0 j3).f4).length jm] (by rfl) rfl rfl dB ?_
     with_reducible refine (ih k1 (by have:=jA.out;omega) _ _ ((aC l0 j3).f4) jM _ (aC_ (Kd.aH jp.out HB.out)) jv.out A4.out).mono ?_
     rintro e w7 ⟨rfl,hb⟩
     refine ⟨_,rfl,?_⟩
     replace HB:=am (aB dK hb)
     (try clear hb)
     (try clear hb2)
     (try clear hk)
     (try clear hi)
     refine hK.out _ _ ⟨((HB.out.cell (World.block_lt_of_cell? w _ hw30_0)).trans hw30_0),((HB.out.cell (World.block_lt_of_cell? w _ hw30_1)).trans hw30_1),((HB.out.cell (World.block_lt_of_cell? w _ hw30_2)).trans hw30_2),((HB.out.cell (World.block_lt_of_cell? w _ hw30_3)).trans hw30_3),((HB.out.cell (World.block_lt_of_cell? w _ hw30_4)).trans hw30_4),((HB.out.cell (World.block_lt_of_cell? w _ hw30_5)).trans hw30_5),((HB.out.cell (World.block_lt_of_cell? w _ hw30_6)).trans hw30_6),((HB.out.cell (World.block_lt_of_cell? w _ hw30_7)).trans hw30_7),((HB.out.cell (World.block_lt_of_cell? w _ hw31_0)).trans hw31_0),((HB.out.cell (World.block_lt_of_cell? w _ hw31_1)).trans hw31_1),((HB.out.cell (World.block_lt_of_cell? w _ hw31_2)).trans hw31_2),((HB.out.cell (World.block_lt_of_cell? w _ hw31_3)).trans hw31_3),((HB.out.cell (World.block_lt_of_cell? w _ hw31_4)).trans hw31_4),((HB.out.cell (World.block_lt_of_cell? w _ hw31_5)).trans hw31_5),((HB.out.cell (World.block_lt_of_cell? w _ hw31_6)).trans hw31_6),((HB.out.cell (World.block_lt_of_cell? w _ hw31_7)).trans hw31_7)⟩ (fun hHeld=>?_)
     clear hK K
     refine xP (a':=?_) ?_ ?_
     rotate_left
     ·exact ap_ (N:=18)
     refine pr_ 8 19 (bz 17 16383) HT_ ?_
     refine GD (i:=14) (N:=some 25) (bz 17 32767) rfl rfl (uQ HT_.out (by kernel_rfl)) (by decide) (fun K hK=>?_)
     refine oQ Try.func64 (by kernel_rfl) rfl #[.slice jn ((aC l0 j3).f5).length jo] (by rfl) rfl rfl dB ?_
     with_reducible refine (ih k1 (by have:=jA.out;omega) _ _ ((aC l0 j3).f5) jN _ (aC_ (Kd.aH jq.out HB.out)) jz.out A5.out).mono ?_
     rintro e w8 ⟨rfl,hb⟩
     refine ⟨_,rfl,?_⟩
     replace HB:=am (aB dK hb)
     (try clear hb)
     (try clear hb2)
     (try clear hk)
     (try clear hi)
     refine hK.out _ _ ⟨((HB.out.cell (World.block_lt_of_cell? w _ hw30_0)).trans hw30_0),((HB.out.cell (World.block_lt_of_cell? w _ hw30_1)).trans hw30_1),((HB.out.cell (World.block_lt_of_cell? w _ hw30_2)).trans hw30_2),((HB.out.cell (World.block_lt_of_cell? w _ hw30_3)).trans hw30_3),((HB.out.cell (World.block_lt_of_cell? w _ hw30_4)).trans hw30_4),((HB.out.cell (World.block_lt_of_cell? w _ hw30_5)).trans hw30_5),((HB.out.cell (World.block_lt_of_cell? w _ hw30_6)).trans hw30_6),((HB.out.cell (World.block_lt_of_cell? w _ hw30_7)).trans hw30_7),((HB.out.cell (World.block_lt_of_cell? w _ hw31_0)).trans hw31_0),((HB.out.cell (World.block_lt_of_cell? w _ hw31_1)).trans hw31_1),((HB.out.cell (World.block_lt_of_cell? w _ hw31_2)).trans hw31_2),((HB.out.cell (World.block_lt_of_cell? w _ hw31_3)).trans hw31_3),((HB.out.cell (World.block_lt_of_cell? w _ hw31_4)).trans hw31_4),((HB.out.cell (World.block_lt_of_cell? w _ hw31_5)).trans hw31_5),((HB.out.cell (World.block_lt_of_cell? w _ hw31_6)).trans hw31_6),((HB.out.cell (World.block_lt_of_cell? w _ hw31_7)).trans hw31_7)⟩ (fun hHeld=>?_)
     clear hK K
     refine xP (a':=?_) ?_ ?_
     rotate_left
     ·exact ap_ (N:=25)
     refine pr_ 15 26 (bz 17 65535) HT_ ?_
     refine pr_ 16 3 (bz 17 131071) HT_ ?_
     refine BM (sS HT_.out (by kernel_rfl)) ?_
     try go_wp2
     go_roundg k1
     case measure=>have:=jA.out;omega
     case rel=>exact ⟨(wrap64 ((wrap64 ((wrap64 (jr + 1)) + jM)) + jN)),(wrap64 (j3 + 1)),sd_,sd_,H',⟨by have:=jA.out;omega⟩,⟨dK⟩⟩
    rw [if_neg c3] at H
    exact absurd H (by simp)
   rw [if_neg c2] at H
   have jB:decide (j3 < (l0.length:Int))=false:=decide_eq_false c2
   clear c2
   obtain rfl:=Option.some.inj H
   go_wp2
   go_ret
   exact ⟨rr_,dK⟩
theorem dO.mono:∀ a0 k,LeO (dO.f k a0) (dO.f (k + 1) a0):=by
 intro a0 k
 unfold dO.f
 have m0:=@aU.mono
 have m1:=@aV.mono
 exact mo_
theorem dO.calls (k:Nat) (A0:Option Addr) (c0:Nat) (l0:List (S70)) (r:Bool) (w:World) (hr0:Kd.C k70 w A0 l0.length l0) (hc0:l0.length≤c0) (h:dO.f k l0=some r):
  Calls Try.prog 37 #[.slice A0 l0.length c0] w fun e w'=>e= .returned (.bool r)∧Below w.heap.size w w':=by
 have j3:=am hr0
 have j4:=am hc0
 clear hr0 hc0
 have HB:=am (Below.refl w.heap.size w)
 unfold dO.f at h
 have H:=h
 clear h
 obtain ⟨j5,A2,H⟩:=bsa H
 (try dsimp only at H)
 by_cases c3:j5=true
 ·subst c3
  rw [if_pos rfl] at H
  obtain ⟨j6,A4,H⟩:=bsa H
  (try dsimp only at H)
  obtain rfl:=Option.some.inj H
  go_enter Try.func37,Try.ntmps37
  go_wp2_with (first|((with_reducible refine aD (f:=63) rfl ?_);refine aM (some 4) rfl rfl Try.func63 (by kernel_rfl) rfl #[.slice A0 l0.length c0, .int .i64 3] rfl dB ?_;(with_reducible refine (aU.calls k _ _ l0 3 true _ (aC_ j3.out) j4.out A2.out).mono ?_);rintro e w5 ⟨rfl,hb⟩;refine ⟨_,rfl,?_⟩;replace HB:=am (aB dK hb);(try clear hb))|(go_at_call 64;(with_reducible refine (aV.calls k _ _ l0 j6 _ (aC_ (Kd.aH j3.out HB.out)) j4.out A4.out).mono ?_);rintro e w6 ⟨rfl,hb⟩;replace HB:=am (aB dK hb);(try clear hb)))
  go_ret
  exact ⟨rr_,dK⟩
 replace c3:=Bool.eq_false_iff.mpr c3
 subst c3
 rw [if_neg (show ¬ (false=true) by decide)] at H
 obtain rfl:=Option.some.inj H
 go_enter Try.func37,Try.ntmps37
 go_wp2_with (first|((with_reducible refine aD (f:=63) rfl ?_);refine aM (some 4) rfl rfl Try.func63 (by kernel_rfl) rfl #[.slice A0 l0.length c0, .int .i64 3] rfl dB ?_;(with_reducible refine (aU.calls k _ _ l0 3 false _ (aC_ j3.out) j4.out A2.out).mono ?_);rintro e w7 ⟨rfl,hb⟩;refine ⟨_,rfl,?_⟩;replace HB:=am (aB dK hb);(try clear hb)))
 go_ret
 exact ⟨rr_,dK⟩
theorem kG.calls (a0:Int) (a1:Int) (r1:Int) (r2:Int) (r3:List (S28)) (w:World) (h:kG.f a0 a1=some (r1,r2,r3)):
  Calls Try.prog 57 #[.int .i64 a0, .int .i64 a1] w fun e w'=>∃ v2_:Value,e= .returned (.agg #[.int .i64 r1, .int .i64 r2,v2_])∧Kd.R k28 28 w' w.heap.size (fun _=>True) v2_ r3∧Below w.heap.size w w':=by
 have hu28:=Try.underlying28
 have HB:=am (Below.refl w.heap.size w)
 have H:(some (a0,a1,(([]:List (S28)))))=some (r1,r2,r3):=h
 clear h
 obtain ⟨j7,hy_⟩:∃ y_:List (S28),y_=(([]:List (S28))):=⟨_,rfl⟩
 replace H:(some (a0,a1,j7))=some (r1,r2,r3):=rx_
 have j5:=am hy_
 clear hy_
 simp only [Option.some.injEq,Prod.mk.injEq] at H
 obtain ⟨rfl,rfl,rfl⟩:=H
 go_enter Try.func57,Try.ntmps57
 go_wp2_with (first|((with_reducible refine bL (N:=4) rfl ?_);refine cB rfl (N:=4) rfl (cs:=#[.int .i64 0, .int .i64 0, .slice none 0 0]) (t:=28) rn_ ?_;intro j3 hg w3 hbox hb;have j4:=am (hbox);have jg:=am ((by rw [hg];exact (aQ dK):w.heap.size≤j3));have GE21:=am ((by rw [hg];exact (aQ dK):w.heap.size≤j3));replace HB:=am (aB dK hb);clear hb hbox hg)|((with_reducible refine bL (N:=7) rfl ?_);refine Kd.EX k28 _ 28 rfl (N:=7) rfl (xs:=([]:List (S28))) (inner:=[]) (ok:=fun _=>True) (okp:=fun _=>True) rn_ ?hp (fun _ hk=>hk) trivial (Below.refl _ _) (Nat.le_refl _) (by simp) ?_;(case hp=>exact (eB.none _ _));intro ji w4 ho5 hb hg_ hnew_;clear hg_ hnew_;(first|rw [← j5.out] at ho5|(simp only [Int.reduceToNat] at ho5;rw [← j5.out] at ho5));have j6:=am (Kd.vK (Kd.NR ho5 (g:=j3) (o:= .cells #[.int .i64 0, .int .i64 0, .slice none 0 0] 28 (0,0)) (aG_ j4.out)) (aQ lT));replace j4:=bbP j4 hb;replace HB:=am (aB lT hb);clear hb ho5;obtain ⟨je,jf,jh⟩:=Kd.yH j6.out;subst jh;obtain ⟨j8,j9,ja,jb,jc,jd⟩:=fA j4.out))
 refine bodyPost_ret (results_cell_row rfl _ _ j3 28 #[.int .i64 a0, .int .i64 a1, .slice je j7.length jf] (0,0) _ rfl (aS (aS (aS j4.out 0 _ rfl) 1 _ rfl) 2 _ rfl) Try.underlying28 rfl (by kernel_rfl)) rfl ?_
 exact ⟨_,uW,PV (Kd.mH (Kd.II (p:=⟨j3,2,none⟩) (Kd.II (p:=⟨j3,1,none⟩) (Kd.II (p:=⟨j3,0,none⟩) (Kd.mH j6.out (fun k_ hk=>(⟨hk,hk.2⟩:_∧k_≠j3))) (fun _ hk=>hk.2) (.int .i64 a0)) (fun _ hk=>hk.2) (.int .i64 a1)) (fun _ hk=>hk.2) (.slice je j7.length jf)) (fun _ hk=>trivial)),lT⟩
theorem fP.calls (a0:Int) (r:Bool) (w:World) (h:fP.f a0=some r):
  Calls Try.prog 71 #[.int .i64 a0] w fun e w'=>e= .returned (.bool r)∧fC w w':=by
 have H:((dL.f a0 (-2147483648) 2147483647).bind fun j3=>(some j3))=some r:=h
 clear h
 obtain ⟨j3,A2,H⟩:=bsa H
 (try dsimp only at H)
 obtain rfl:=Option.some.inj H
 go_enter Try.func71,Try.ntmps71
 go_wp2_with (first|((with_reducible refine aD (f:=59) rfl ?_);refine aM (some 4) rfl rfl Try.func59 (by kernel_rfl) rfl #[.int .i64 a0, .int .i64 (-2147483648), .int .i64 2147483647] rfl dB ?_;(with_reducible refine (dL.calls a0 (-2147483648) 2147483647 j3 _ A2.out).mono ?_);rintro e w' ⟨rfl,⟨nd,rfl⟩⟩;refine ⟨_,rfl,?_⟩))
 go_ret
 exact ⟨sd_,eO⟩
theorem iD.calls (a0:Bool) (r:Int) (w:World) (h:iD.f a0=some r):
  Calls Try.prog 72 #[.bool a0] w fun e w'=>e= .returned (.int .i64 r)∧fC w w':=by
 have H:(if a0=true then (some 1) else (some 0))=some r:=h
 clear h
 by_cases c2:a0=true
 ·subst c2
  rw [if_pos rfl] at H
  obtain rfl:=Option.some.inj H
  go_enter Try.func72,Try.ntmps72
  go_wp2
  go_ret
  exact ⟨sd_,eO⟩
 replace c2:=Bool.eq_false_iff.mpr c2
 subst c2
 rw [if_neg (show ¬ (false=true) by decide)] at H
 obtain rfl:=Option.some.inj H
 go_enter Try.func72,Try.ntmps72
 go_wp2
 go_ret
 exact ⟨sd_,eO⟩
theorem fF.calls (a0:Int) (r:Int) (w:World) (h:fF.f a0=some r):
  Calls Try.prog 74 #[.int .i64 a0] w fun e w'=>e= .returned (.int .i64 r)∧fC w w':=by
 unfold fF.f at h
 have H:=h
 clear h
 by_cases c2:(Int.tmod a0 4294967296) > 2147483647
 ·rw [if_pos c2] at H
  have j3:decide (2147483647 < (Int.tmod a0 4294967296))=true:=decide_eq_true c2
  clear c2
  obtain rfl:=Option.some.inj H
  go_enter Try.func74,Try.ntmps74
  go_wp2
  go_ret
  exact ⟨sd_,eO⟩
 rw [if_neg c2] at H
 have j3:decide (2147483647 < (Int.tmod a0 4294967296))=false:=decide_eq_false c2
 clear c2
 by_cases c3:(Int.tmod a0 4294967296) < (-2147483648)
 ·rw [if_pos c3] at H
  have j4:decide ((Int.tmod a0 4294967296) < (-2147483648))=true:=decide_eq_true c3
  clear c3
  obtain rfl:=Option.some.inj H
  go_enter Try.func74,Try.ntmps74
  go_wp2
  go_ret
  exact ⟨sd_,eO⟩
 rw [if_neg c3] at H
 have j4:decide ((Int.tmod a0 4294967296) < (-2147483648))=false:=decide_eq_false c3
 clear c3
 obtain rfl:=Option.some.inj H
 go_enter Try.func74,Try.ntmps74
 go_wp2
 go_ret
 exact ⟨sd_,eO⟩
theorem gH.calls (a0:Int) (a1:Int) (a2:Bool) (r:Int) (w:World) (h:gH.f a0 a1 a2=some r):
  Calls Try.prog 73 #[.int .i64 a0, .int .i64 a1, .bool a2] w fun e w'=>e= .returned (.int .i64 r)∧fC w w':=by
 unfold gH.f at h
 have H:=h
 clear h
 by_cases c4:a2=true
 ·subst c4
  rw [if_pos rfl] at H
  by_cases c5:0≤(Go.bits .and .i64 a1 31)
  ·rw [if_pos c5] at H
   have j4:=eq_true c5
   have j5:decide (0≤(Go.bits .and .i64 a1 31))=true:=decide_eq_true c5
   clear c5
   obtain ⟨ji6,hji6⟩:∃ j_:Int,(shr .i64 a0 (Go.bits .and .i64 a1 31))=j_:=⟨_,rfl⟩
   replace H:(some ji6)=some r:=by first|(rw [hji6] at H;exact H)|(simp only [hji6] at H ⊢;exact H)
   have hji6_:(a0 / 2 ^ min (Go.bits .and .i64 a1 31).toNat 64)=ji6:=hji6
   have hji6z:(Go.bits .and .i64 a1 31)≤64→(a0 / 2 ^ (Go.bits .and .i64 a1 31).toNat)=ji6:=xW hji6
   obtain rfl:=Option.some.inj H
   go_enter Try.func73,Try.ntmps73
   go_wp2
   go_ret
   exact ⟨by first|rfl|(simp;done)|(simp only [← hji6] <;> (first|rfl|simp))|(simp [*];done),eO⟩
  rw [if_neg c5] at H
  exact absurd H (by simp)
 replace c4:=Bool.eq_false_iff.mpr c4
 subst c4
 rw [if_neg (show ¬ (false=true) by decide)] at H
 by_cases c7:0≤(Go.bits .and .i64 a1 31)
 ·rw [if_pos c7] at H
  have j6:=eq_true c7
  have j7:decide (0≤(Go.bits .and .i64 a1 31))=true:=decide_eq_true c7
  clear c7
  obtain ⟨ji8,hji8⟩:∃ j_:Int,(shl .i64 a0 (Go.bits .and .i64 a1 31))=j_:=⟨_,rfl⟩
  replace H:((fF.f (ji8)).bind fun j3=>(some j3))=some r:=by first|(rw [hji8] at H;exact H)|(simp only [hji8] at H ⊢;exact H)
  have hji8_:(IntKind.i64.wrap (a0 * 2 ^ min (Go.bits .and .i64 a1 31).toNat 64))=ji8:=hji8
  have hji8z:(Go.bits .and .i64 a1 31)≤64→(IntKind.i64.wrap (a0 * 2 ^ (Go.bits .and .i64 a1 31).toNat))=ji8:=xV hji8
  have hji8y:(wrap64 (a0 * 2 ^ min (Go.bits .and .i64 a1 31).toNat 64))=ji8:=(gB _).symm.trans hji8_
  have hji8x:(Go.bits .and .i64 a1 31)≤64→(wrap64 (a0 * 2 ^ (Go.bits .and .i64 a1 31).toNat))=ji8:=fun h_=>(gB _).symm.trans (hji8z h_)
  obtain ⟨j3,A9,H⟩:=bsa H
  (try dsimp only at H)
  obtain rfl:=Option.some.inj H
  go_enter Try.func73,Try.ntmps73
  go_wp2_with (first|((with_reducible refine aD (f:=74) rfl ?_);refine aM (some 16) rfl rfl Try.func74 (by kernel_rfl) rfl #[.int .i64 ji8] rfl (by (try simp only [List.map_toArray,List.map_cons,List.map_nil]);first|done|(simp only [hji8];rfl)|rfl|(simp only [List.length_drop,List.length_take];rfl)) ?_;(with_reducible refine (fF.calls ji8 j3 _ A9.out).mono ?_);rintro e w' ⟨rfl,⟨nd,rfl⟩⟩;refine ⟨_,rfl,?_⟩))
  go_ret
  exact ⟨by first|rfl|(simp;done)|(simp only [← hji8] <;> (first|rfl|simp))|(simp [*];done),eO⟩
 rw [if_neg c7] at H
 exact absurd H (by simp)
theorem iW.calls (a0:Int) (a1:Int) (r:Int) (w:World) (h:iW.f a0 a1=some r):
  Calls Try.prog 75 #[.int .i64 a0, .int .i64 a1] w fun e w'=>e= .returned (.int .i64 r)∧fC w w':=by
 have H:(if a1=0 then (some (-1)) else ((fF.f (wrap64 (Int.tdiv a0 a1))).bind fun j3=>(some j3)))=some r:=h
 clear h
 by_cases c3:a1=0
 ·rw [if_pos c3] at H
  have j4:(a1 == 0)=true:=beq_iff_eq.mpr c3
  have j5:(a1 != 0)=false:=bne_eq_false_iff_eq.mpr c3
  clear c3
  obtain rfl:=Option.some.inj H
  go_enter Try.func75,Try.ntmps75
  go_wp2
  go_ret
  exact ⟨sd_,eO⟩
 rw [if_neg c3] at H
 have j4:(a1 == 0)=false:=beq_eq_false_iff_ne.mpr c3
 have j5:(a1 != 0)=true:=bne_iff_ne.mpr c3
 obtain ⟨j3,A4,H⟩:=bsa H
 (try dsimp only at H)
 obtain rfl:=Option.some.inj H
 go_enter Try.func75,Try.ntmps75
 go_wp2_with (first|((with_reducible refine aD (f:=74) rfl ?_);refine aM (some 10) rfl rfl Try.func74 (by kernel_rfl) rfl #[.int .i64 (wrap64 (Int.tdiv a0 a1))] rfl dB ?_;(with_reducible refine (fF.calls (wrap64 (Int.tdiv a0 a1)) j3 _ A4.out).mono ?_);rintro e w' ⟨rfl,⟨nd,rfl⟩⟩;refine ⟨_,rfl,?_⟩))
 go_ret
 exact ⟨sd_,eO⟩
theorem iX.calls (a0:Int) (a1:Int) (r:Int) (w:World) (h:iX.f a0 a1=some r):
  Calls Try.prog 76 #[.int .i64 a0, .int .i64 a1] w fun e w'=>e= .returned (.int .i64 r)∧fC w w':=by
 have H:(if a1=0 then (some a0) else (some (Int.tmod a0 a1)))=some r:=h
 clear h
 by_cases c3:a1=0
 ·rw [if_pos c3] at H
  have j3:(a1 == 0)=true:=beq_iff_eq.mpr c3
  have j4:(a1 != 0)=false:=bne_eq_false_iff_eq.mpr c3
  clear c3
  obtain rfl:=Option.some.inj H
  go_enter Try.func76,Try.ntmps76
  go_wp2
  go_ret
  exact ⟨sd_,eO⟩
 rw [if_neg c3] at H
 have j3:(a1 == 0)=false:=beq_eq_false_iff_ne.mpr c3
 have j4:(a1 != 0)=true:=bne_iff_ne.mpr c3
 obtain rfl:=Option.some.inj H
 go_enter Try.func76,Try.ntmps76
 go_wp2
 go_ret
 exact ⟨sd_,eO⟩
theorem dA.mono_l:∀ k,(∀ y0 y1 y2 y3,LeO (dA.j0 k y0 y1 y2 y3) (dA.j0 (k + 1) y0 y1 y2 y3))
 |0=>fun _ _ _ _ r h=>by simp [dA.j0] at h
 |k + 1=>by
  have ih0:=dA.mono_l k
  ·intro y0 y1 y2 y3
   unfold dA.j0
   exact mo_
theorem dA.mono:∀ a0 a1 a2 k,LeO (dA.f k a0 a1 a2) (dA.f (k + 1) a0 a1 a2):=by
 intro a0 a1 a2 k
 have ih0:=dA.mono_l k
 unfold dA.f
 exact mo_
theorem dA.calls (k:Nat) (a0:Int) (a1:Int) (a2:Int) (r1:Int) (r2:Bool) (w:World) (h:dA.f k a0 a1 a2=some (r1,r2)):
  Calls Try.prog 58 #[.int .i64 a0, .int .i64 a1, .int .i64 a2] w fun e w'=>e= .returned (.tuple #[.int .i64 r1, .bool r2])∧fC w w':=by
 unfold dA.f at h
 have H:=h
 clear h
 have jB:=am H
 clear H
 go_enter Try.func58,Try.ntmps58
 go_upto_region 1 with (fail)
 go_cut [20] (fun jM wc=>∃ (kq:Nat) (j3:Bool),jM= .bool j3∧Aside0 (dA.j0 kq a0 a1 a2 j3=some (r1,r2))∧Aside0 (kq≤k)∧fC w wc)
 case first=>
  have H:=jB.out
  clear jB
  obtain ⟨jN,A5,H⟩:=bsa H
  (try dsimp only at H)
  by_cases c6:jN=true
  ·subst c6
   rw [if_pos rfl] at H
   obtain ⟨jO,A7,H⟩:=bsa H
   (try dsimp only at H)
   by_cases c8:jO=true
   ·subst c8
    rw [if_pos rfl] at H
    obtain ⟨jC,A9,H⟩:=bsa H
    (try dsimp only at H)
    have H':=am H
    clear H
    go_wp2_with (first|((with_reducible refine aD (f:=70) rfl ?_);refine aM (some 9) rfl rfl Try.func70 (by kernel_rfl) rfl #[.int .i64 a0] rfl dB ?_;(with_reducible refine (eH.calls a0 true _ A5.out).mono ?_);rintro e w' ⟨rfl,⟨nd,rfl⟩⟩;refine ⟨_,rfl,?_⟩)|(go_at_call 71;(with_reducible refine (fP.calls a1 true _ A7.out).mono ?_);rintro e w' ⟨rfl,⟨nd,rfl⟩⟩)|(go_at_call 71;(with_reducible refine (fP.calls a2 jC _ A9.out).mono ?_);rintro e w' ⟨rfl,⟨nd,rfl⟩⟩))
    go_meet
    case rel=>exact ⟨_,(!jC),sd_,H',⟨by first|omega|exact Nat.le_refl _⟩,eO⟩
   replace c8:=Bool.eq_false_iff.mpr c8
   subst c8
   rw [if_neg (show ¬ (false=true) by decide)] at H
   have H':=am H
   clear H
   go_wp2_with (first|((with_reducible refine aD (f:=70) rfl ?_);refine aM (some 9) rfl rfl Try.func70 (by kernel_rfl) rfl #[.int .i64 a0] rfl dB ?_;(with_reducible refine (eH.calls a0 true _ A5.out).mono ?_);rintro e w' ⟨rfl,⟨nd,rfl⟩⟩;refine ⟨_,rfl,?_⟩)|(go_at_call 71;(with_reducible refine (fP.calls a1 false _ A7.out).mono ?_);rintro e w' ⟨rfl,⟨nd,rfl⟩⟩))
   go_meet
   case rel=>exact ⟨_,(true),sd_,H',⟨by first|omega|exact Nat.le_refl _⟩,eO⟩
  replace c6:=Bool.eq_false_iff.mpr c6
  subst c6
  rw [if_neg (show ¬ (false=true) by decide)] at H
  have H':=am H
  clear H
  go_wp2_with (first|((with_reducible refine aD (f:=70) rfl ?_);refine aM (some 9) rfl rfl Try.func70 (by kernel_rfl) rfl #[.int .i64 a0] rfl dB ?_;(with_reducible refine (eH.calls a0 false _ A5.out).mono ?_);rintro e w' ⟨rfl,⟨nd,rfl⟩⟩;refine ⟨_,rfl,?_⟩))
  go_meet
  case rel=>exact ⟨_,(true),sd_,H',⟨by first|omega|exact Nat.le_refl _⟩,eO⟩
 case rest=>
  clear jB
  obtain ⟨kq,j3,rfl,HA,HJ3,⟨mc3,rfl⟩⟩:=hcut
  cases kq with
  |zero=>exact absurd HA.out (by simp [dA.j0])
  |succ q7=>
   have H:=HA.out
   clear HA
   simp only [dA.j0] at H
   by_cases c10:j3=true
   ·subst c10
    rw [if_pos rfl] at H
    simp only [Option.some.injEq,Prod.mk.injEq] at H
    obtain ⟨rfl,rfl⟩:=H
    go_wp2
    go_ret2
    exact ⟨sd_,eO⟩
   replace c10:=Bool.eq_false_iff.mpr c10
   subst c10
   rw [if_neg (show ¬ (false=true) by decide)] at H
   by_cases j4:a0=1
   ·rw [if_pos j4] at H
    have jf:(a0 == 1)=true:=beq_iff_eq.mpr j4
    have jg:(a0 != 1)=false:=bne_eq_false_iff_eq.mpr j4
    clear j4
    simp only [Option.some.injEq,Prod.mk.injEq] at H
    obtain ⟨rfl,rfl⟩:=H
    go_wp2
    go_ret2
    exact ⟨sd_,eO⟩
   rw [if_neg j4] at H
   have jf:(a0 == 1)=false:=beq_eq_false_iff_ne.mpr j4
   have jg:(a0 != 1)=true:=bne_iff_ne.mpr j4
   by_cases j5:a0=2
   ·rw [if_pos j5] at H
    have jh:(a0 == 2)=true:=beq_iff_eq.mpr j5
    have ji:(a0 != 2)=false:=bne_eq_false_iff_eq.mpr j5
    clear j5
    simp only [Option.some.injEq,Prod.mk.injEq] at H
    obtain ⟨rfl,rfl⟩:=H
    go_wp2
    go_ret2
    exact ⟨sd_,eO⟩
   rw [if_neg j5] at H
   have jh:(a0 == 2)=false:=beq_eq_false_iff_ne.mpr j5
   have ji:(a0 != 2)=true:=bne_iff_ne.mpr j5
   by_cases j6:a0=3
   ·rw [if_pos j6] at H
    have jj:(a0 == 3)=true:=beq_iff_eq.mpr j6
    have jk:(a0 != 3)=false:=bne_eq_false_iff_eq.mpr j6
    clear j6
    simp only [Option.some.injEq,Prod.mk.injEq] at H
    obtain ⟨rfl,rfl⟩:=H
    go_wp2
    go_ret2
    exact ⟨sd_,eO⟩
   rw [if_neg j6] at H
   have jj:(a0 == 3)=false:=beq_eq_false_iff_ne.mpr j6
   have jk:(a0 != 3)=true:=bne_iff_ne.mpr j6
   by_cases j7:a0=4
   ·rw [if_pos j7] at H
    have jl:(a0 == 4)=true:=beq_iff_eq.mpr j7
    have jm:(a0 != 4)=false:=bne_eq_false_iff_eq.mpr j7
    clear j7
    obtain ⟨jP,jD,H⟩:=bsm H
    (try dsimp only at H)
    have jQ:=am jD
    clear jD
    simp only [Option.some.injEq,Prod.mk.injEq] at H
    obtain ⟨rfl,rfl⟩:=H
    go_wp2_with (first|((with_reducible refine aD (f:=72) rfl ?_);refine aM (some 42) rfl rfl Try.func72 (by kernel_rfl) rfl #[.bool (a1 == a2)] rfl dB ?_;(with_reducible refine (iD.calls (a1 == a2) jP _ jQ.out).mono ?_);rintro e w' ⟨rfl,⟨nd,rfl⟩⟩;refine ⟨_,rfl,?_⟩))
    go_ret2
    exact ⟨sd_,eO⟩
   rw [if_neg j7] at H
   have jl:(a0 == 4)=false:=beq_eq_false_iff_ne.mpr j7
   have jm:(a0 != 4)=true:=bne_iff_ne.mpr j7
   by_cases j8:a0=5
   ·rw [if_pos j8] at H
    have jn:(a0 == 5)=true:=beq_iff_eq.mpr j8
    have jo:(a0 != 5)=false:=bne_eq_false_iff_eq.mpr j8
    clear j8
    obtain ⟨jR,jE,H⟩:=bsm H
    (try dsimp only at H)
    have jS:=am jE
    clear jE
    simp only [Option.some.injEq,Prod.mk.injEq] at H
    obtain ⟨rfl,rfl⟩:=H
    go_wp2_with (first|((with_reducible refine aD (f:=72) rfl ?_);refine aM (some 48) rfl rfl Try.func72 (by kernel_rfl) rfl #[.bool (decide (a1 < a2))] rfl dB ?_;(with_reducible refine (iD.calls (decide (a1 < a2)) jR _ jS.out).mono ?_);rintro e w' ⟨rfl,⟨nd,rfl⟩⟩;refine ⟨_,rfl,?_⟩))
    go_ret2
    exact ⟨sd_,eO⟩
   rw [if_neg j8] at H
   have jn:(a0 == 5)=false:=beq_eq_false_iff_ne.mpr j8
   have jo:(a0 != 5)=true:=bne_iff_ne.mpr j8
   by_cases j9:a0=6
   ·rw [if_pos j9] at H
    have jp:(a0 == 6)=true:=beq_iff_eq.mpr j9
    have jq:(a0 != 6)=false:=bne_eq_false_iff_eq.mpr j9
    clear j9
    obtain ⟨jT,jF,H⟩:=bsm H
    (try dsimp only at H)
    have jU:=am jF
    clear jF
    simp only [Option.some.injEq,Prod.mk.injEq] at H
    obtain ⟨rfl,rfl⟩:=H
    go_wp2_with (first|((with_reducible refine aD (f:=73) rfl ?_);refine aM (some 53) rfl rfl Try.func73 (by kernel_rfl) rfl #[.int .i64 a1, .int .i64 a2, .bool false] rfl dB ?_;(with_reducible refine (gH.calls a1 a2 false jT _ jU.out).mono ?_);rintro e w' ⟨rfl,⟨nd,rfl⟩⟩;refine ⟨_,rfl,?_⟩))
    go_ret2
    exact ⟨sd_,eO⟩
   rw [if_neg j9] at H
   have jp:(a0 == 6)=false:=beq_eq_false_iff_ne.mpr j9
   have jq:(a0 != 6)=true:=bne_iff_ne.mpr j9
   by_cases ja:a0=7
   ·rw [if_pos ja] at H
    have jr:(a0 == 7)=true:=beq_iff_eq.mpr ja
    have js:(a0 != 7)=false:=bne_eq_false_iff_eq.mpr ja
    clear ja
    obtain ⟨jV,jG,H⟩:=bsm H
    (try dsimp only at H)
    have jW:=am jG
    clear jG
    simp only [Option.some.injEq,Prod.mk.injEq] at H
    obtain ⟨rfl,rfl⟩:=H
    go_wp2_with (first|((with_reducible refine aD (f:=73) rfl ?_);refine aM (some 58) rfl rfl Try.func73 (by kernel_rfl) rfl #[.int .i64 a1, .int .i64 a2, .bool true] rfl dB ?_;(with_reducible refine (gH.calls a1 a2 true jV _ jW.out).mono ?_);rintro e w' ⟨rfl,⟨nd,rfl⟩⟩;refine ⟨_,rfl,?_⟩))
    go_ret2
    exact ⟨sd_,eO⟩
   rw [if_neg ja] at H
   have jr:(a0 == 7)=false:=beq_eq_false_iff_ne.mpr ja
   have js:(a0 != 7)=true:=bne_iff_ne.mpr ja
   by_cases jb:a0=8
   ·rw [if_pos jb] at H
    have jt:(a0 == 8)=true:=beq_iff_eq.mpr jb
    have ju:(a0 != 8)=false:=bne_eq_false_iff_eq.mpr jb
    clear jb
    obtain ⟨jX,jH,H⟩:=bsm H
    (try dsimp only at H)
    have jY:=am jH
    clear jH
    simp only [Option.some.injEq,Prod.mk.injEq] at H
    obtain ⟨rfl,rfl⟩:=H
    go_wp2_with (first|((with_reducible refine aD (f:=74) rfl ?_);refine aM (some 64) rfl rfl Try.func74 (by kernel_rfl) rfl #[.int .i64 (wrap64 (a1 + a2))] rfl dB ?_;(with_reducible refine (fF.calls (wrap64 (a1 + a2)) jX _ jY.out).mono ?_);rintro e w' ⟨rfl,⟨nd,rfl⟩⟩;refine ⟨_,rfl,?_⟩))
    go_ret2
    exact ⟨sd_,eO⟩
   rw [if_neg jb] at H
   have jt:(a0 == 8)=false:=beq_eq_false_iff_ne.mpr jb
   have ju:(a0 != 8)=true:=bne_iff_ne.mpr jb
   by_cases jc:a0=9
   ·rw [if_pos jc] at H
    have jv:(a0 == 9)=true:=beq_iff_eq.mpr jc
    have jw:(a0 != 9)=false:=bne_eq_false_iff_eq.mpr jc
    clear jc
    obtain ⟨jZ,jI,H⟩:=bsm H
    (try dsimp only at H)
    have q0:=am jI
    clear jI
    simp only [Option.some.injEq,Prod.mk.injEq] at H
    obtain ⟨rfl,rfl⟩:=H
    go_wp2_with (first|((with_reducible refine aD (f:=74) rfl ?_);refine aM (some 70) rfl rfl Try.func74 (by kernel_rfl) rfl #[.int .i64 (wrap64 (a1 - a2))] rfl dB ?_;(with_reducible refine (fF.calls (wrap64 (a1 - a2)) jZ _ q0.out).mono ?_);rintro e w' ⟨rfl,⟨nd,rfl⟩⟩;refine ⟨_,rfl,?_⟩))
    go_ret2
    exact ⟨sd_,eO⟩
   rw [if_neg jc] at H
   have jv:(a0 == 9)=false:=beq_eq_false_iff_ne.mpr jc
   have jw:(a0 != 9)=true:=bne_iff_ne.mpr jc
   by_cases jd:a0=10
   ·rw [if_pos jd] at H
    have jx:(a0 == 10)=true:=beq_iff_eq.mpr jd
    have jy:(a0 != 10)=false:=bne_eq_false_iff_eq.mpr jd
    clear jd
    obtain ⟨q1,jJ,H⟩:=bsm H
    (try dsimp only at H)
    have q2:=am jJ
    clear jJ
    simp only [Option.some.injEq,Prod.mk.injEq] at H
    obtain ⟨rfl,rfl⟩:=H
    go_wp2_with (first|((with_reducible refine aD (f:=74) rfl ?_);refine aM (some 76) rfl rfl Try.func74 (by kernel_rfl) rfl #[.int .i64 (wrap64 (a1 * a2))] rfl dB ?_;(with_reducible refine (fF.calls (wrap64 (a1 * a2)) q1 _ q2.out).mono ?_);rintro e w' ⟨rfl,⟨nd,rfl⟩⟩;refine ⟨_,rfl,?_⟩))
    go_ret2
    exact ⟨sd_,eO⟩
   rw [if_neg jd] at H
   have jx:(a0 == 10)=false:=beq_eq_false_iff_ne.mpr jd
   have jy:(a0 != 10)=true:=bne_iff_ne.mpr jd
   by_cases je:a0=11
   ·rw [if_pos je] at H
    have jz:(a0 == 11)=true:=beq_iff_eq.mpr je
    have jA:(a0 != 11)=false:=bne_eq_false_iff_eq.mpr je
    clear je
    obtain ⟨q3,jK,H⟩:=bsm H
    (try dsimp only at H)
    have q4:=am jK
    clear jK
    simp only [Option.some.injEq,Prod.mk.injEq] at H
    obtain ⟨rfl,rfl⟩:=H
    go_wp2_with (first|((with_reducible refine aD (f:=75) rfl ?_);refine aM (some 81) rfl rfl Try.func75 (by kernel_rfl) rfl #[.int .i64 a1, .int .i64 a2] rfl dB ?_;(with_reducible refine (iW.calls a1 a2 q3 _ q4.out).mono ?_);rintro e w' ⟨rfl,⟨nd,rfl⟩⟩;refine ⟨_,rfl,?_⟩))
    go_ret2
    exact ⟨sd_,eO⟩
   rw [if_neg je] at H
   have jz:(a0 == 11)=false:=beq_eq_false_iff_ne.mpr je
   have jA:(a0 != 11)=true:=bne_iff_ne.mpr je
   obtain ⟨q5,jL,H⟩:=bsm H
   (try dsimp only at H)
   have q6:=am jL
   clear jL
   simp only [Option.some.injEq,Prod.mk.injEq] at H
   obtain ⟨rfl,rfl⟩:=H
   go_wp2_with (first|((with_reducible refine aD (f:=76) rfl ?_);refine aM (some 84) rfl rfl Try.func76 (by kernel_rfl) rfl #[.int .i64 a1, .int .i64 a2] rfl dB ?_;(with_reducible refine (iX.calls a1 a2 q5 _ q6.out).mono ?_);rintro e w' ⟨rfl,⟨nd,rfl⟩⟩;refine ⟨_,rfl,?_⟩))
   go_ret2
   exact ⟨sd_,eO⟩
theorem kF.calls (a0:Int) (j9:Int) (ja:Int) (P1_2_:Nat→Prop) (je:Option Addr) (jf:Nat) (j6:List (S28)) (jb:Int) (jc:Int) (P2_2_:Nat→Prop) (jg:Option Addr) (jh:Nat) (j7:List (S28)) (r1:Int) (r2:Int) (r3:List (S28)) (w:World) (hs1_2:Kd.V k28 28 w w.heap.size (fun k_=>P1_2_ k_) (.slice je j6.length jf) j6) (hs2_2:Kd.V k28 28 w w.heap.size (fun k_=>P2_2_ k_) (.slice jg j7.length jh) j7) (h:kF.f a0 j9 ja j6 jb jc j7=some (r1,r2,r3)):
  Calls Try.prog 60 #[.int .i64 a0, .agg #[.int .i64 j9, .int .i64 ja, .slice je j6.length jf], .agg #[.int .i64 jb, .int .i64 jc, .slice jg j7.length jh]] w fun e w'=>∃ v2_:Value,e= .returned (.agg #[.int .i64 r1, .int .i64 r2,v2_])∧Kd.N k28 28 w' w.heap.size (fun k_=>((P1_2_ k_∨P2_2_ k_)∨w.heap.size≤k_)) v2_ r3∧Below w.heap.size w w':=by
 have hu28:=Try.underlying28
 have HO1_2:=am (show Kd.V k28 28 w w.heap.size (fun k_=>((P1_2_ k_∨P2_2_ k_)∨w.heap.size≤k_)) (.slice je j6.length jf) j6 from Kd.uF hs1_2 (fun k_ hk=> .inl (.inl hk)))
 have HO2_2:=am (show Kd.V k28 28 w w.heap.size (fun k_=>((P1_2_ k_∨P2_2_ k_)∨w.heap.size≤k_)) (.slice jg j7.length jh) j7 from Kd.uF hs2_2 (fun k_ hk=> .inl (.inr hk)))
 have HB:=am (Below.refl w.heap.size w)
 have H:(some (a0,0,(([(⟨j9,ja,j6⟩:S28),(⟨jb,jc,j7⟩:S28)]:List (S28)))))=some (r1,r2,r3):=h
 clear h
 obtain ⟨jF,hy_⟩:∃ y_:List (S28),y_=(([(⟨j9,ja,j6⟩:S28),(⟨jb,jc,j7⟩:S28)]:List (S28))):=⟨_,rfl⟩
 replace H:(some (a0,0,jF))=some (r1,r2,r3):=rx_
 have jp:=am hy_
 clear hy_
 simp only [Option.some.injEq,Prod.mk.injEq] at H
 obtain ⟨rfl,rfl,rfl⟩:=H
 go_enter Try.func60,Try.ntmps60
 go_wp2_with (first|((with_reducible refine bL (N:=4) rfl ?_);refine cB rfl (N:=4) rfl (cs:=#[.int .i64 j9, .int .i64 ja, .slice je j6.length jf]) (t:=28) rn_ ?_;intro j4 hg w4 hbox hb;replace HO1_2:=am (Kd.pI (Kd.nN (by (with_reducible repeat (first|apply Kd.mX|apply Kd.mY|apply Kd.oP));exact HO1_2.out) j4 (Nat.le_of_eq hg.symm)) hb);replace HO2_2:=am (Kd.pI (Kd.nN (by (with_reducible repeat (first|apply Kd.mX|apply Kd.mY|apply Kd.oP));exact HO2_2.out) j4 (Nat.le_of_eq hg.symm)) hb);have j8:=am (hbox);have jP:=am ((by rw [hg];exact (aQ dK):w.heap.size≤j4));have GE21:=am ((by rw [hg];exact (aQ dK):w.heap.size≤j4));replace HB:=am (aB dK hb);clear hb hbox hg)|((with_reducible refine bL (N:=5) rfl ?_);refine cB rfl (N:=5) rfl (cs:=#[.int .i64 jb, .int .i64 jc, .slice jg j7.length jh]) (t:=28) rn_ ?_;intro j5 hg w5 hbox hb;replace HO1_2:=am (Kd.pI (Kd.nN (by (with_reducible repeat (first|apply Kd.mX|apply Kd.mY|apply Kd.oP));exact HO1_2.out) j5 (Nat.le_of_eq hg.symm)) hb);replace HO2_2:=am (Kd.pI (Kd.nN (by (with_reducible repeat (first|apply Kd.mX|apply Kd.mY|apply Kd.oP));exact HO2_2.out) j5 (Nat.le_of_eq hg.symm)) hb);have jd:=am (hbox);have jQ:=am ((by rw [hg];exact (aQ lT):w.heap.size≤j5));have GE22:=am ((by rw [hg];exact (aQ lT):w.heap.size≤j5));replace HB:=am (aB lT hb);have jj:=am ((by rw [hg];exact Nat.ne_of_lt (wU j8.out):j4≠j5));have jk:=am ((by rw [hg];exact Nat.ne_of_gt (wU j8.out):j5≠j4));replace j8:=bbP j8 hb;clear hb hbox hg)|((with_reducible refine bL (N:=6) rfl ?_);refine cB rfl (N:=6) rfl (cs:=#[.int .i64 0, .int .i64 0, .slice none 0 0]) (t:=28) rn_ ?_;intro j3 hg w6 hbox hb;replace HO1_2:=am (Kd.pI (Kd.nN (by (with_reducible repeat (first|apply Kd.mX|apply Kd.mY|apply Kd.oP));exact HO1_2.out) j3 (Nat.le_of_eq hg.symm)) hb);replace HO2_2:=am (Kd.pI (Kd.nN (by (with_reducible repeat (first|apply Kd.mX|apply Kd.mY|apply Kd.oP));exact HO2_2.out) j3 (Nat.le_of_eq hg.symm)) hb);have ji:=am (hbox);have jR:=am ((by rw [hg];exact (aQ sO):w.heap.size≤j3));have GE23:=am ((by rw [hg];exact (aQ sO):w.heap.size≤j3));replace HB:=am (aB sO hb);have jl:=am ((by rw [hg];exact Nat.ne_of_lt (wU j8.out):j4≠j3));have jm:=am ((by rw [hg];exact Nat.ne_of_gt (wU j8.out):j3≠j4));replace j8:=bbP j8 hb;have jn:=am ((by rw [hg];exact Nat.ne_of_lt (wU jd.out):j5≠j3));have jo:=am ((by rw [hg];exact Nat.ne_of_gt (wU jd.out):j3≠j5));replace jd:=bbP jd hb;clear hb hbox hg;have jS:=jj.out;have jT:=jk.out;have jU:=jl.out;have jV:=jm.out;obtain ⟨jG,jH,jI,jJ,jK,jL⟩:=fA j8.out;have jN:=jn.out;have jO:=jo.out;obtain ⟨jt,ju,jv,jw,jx,jy⟩:=fA jd.out)|((with_reducible refine bL (N:=10) rfl ?_);refine Kd.BF k28 _ 28 rfl (N':=10) rfl (xs:=([(⟨j9,ja,j6⟩:S28),(⟨jb,jc,j7⟩:S28)]:List (S28))) (inner:=[.int .i64 j9, .int .i64 ja, .slice je j6.length jf, .int .i64 jb, .int .i64 jc, .slice jg j7.length jh]) (ok:=(fun k_=>((P1_2_ k_∨P2_2_ k_)∨w.heap.size≤k_)∧k_≠j4∧k_≠j5∧k_≠j3)) (okp:=(fun k_=>((P1_2_ k_∨P2_2_ k_)∨w.heap.size≤k_)∧k_≠j4∧k_≠j5∧k_≠j3)) rn_ ?hp (fun _ hk=>hk) ((show ∀ k_,w6.heap.size≤k_→(fun k_=>((P1_2_ k_∨P2_2_ k_)∨w.heap.size≤k_)∧k_≠j4∧k_≠j5∧k_≠j3) k_ from fun k_ hk=>⟨(.inr (Nat.le_trans (aQ EZ) hk)),NZ j8.out k_ hk,NZ jd.out k_ hk,NZ ji.out k_ hk⟩) _ (Nat.le_refl _)) (Below.refl _ _) (Nat.le_refl _) (by simp) ?_;(case hp=>exact (eB.c3 (show Kd.FK k28 _ _ (⟨j9,ja,j6⟩:S28) [.int .i64 j9, .int .i64 ja, .slice je j6.length jf] from (FI _ _ (⟨j9,ja,j6⟩:S28) (Kd.BH (Kd.uF (ok':=(fun k_=>((P1_2_ k_∨P2_2_ k_)∨w.heap.size≤k_)∧k_≠j4∧k_≠j5∧k_≠j3)) (HO1_2.out) (fun k_ hk=>⟨hk.1.1.1,⟨hk.1.1.2,⟨hk.1.2,hk.2⟩⟩⟩))).2.1 (Kd.V_F (Kd.uF (ok':=(fun k_=>((P1_2_ k_∨P2_2_ k_)∨w.heap.size≤k_)∧k_≠j4∧k_≠j5∧k_≠j3)) (HO1_2.out) (fun k_ hk=>⟨hk.1.1.1,⟨hk.1.1.2,⟨hk.1.2,hk.2⟩⟩⟩))))) (eB.c3 (show Kd.FK k28 _ _ (⟨jb,jc,j7⟩:S28) [.int .i64 jb, .int .i64 jc, .slice jg j7.length jh] from (FI _ _ (⟨jb,jc,j7⟩:S28) (Kd.BH (Kd.uF (ok':=(fun k_=>((P1_2_ k_∨P2_2_ k_)∨w.heap.size≤k_)∧k_≠j4∧k_≠j5∧k_≠j3)) (HO2_2.out) (fun k_ hk=>⟨hk.1.1.1,⟨hk.1.1.2,⟨hk.1.2,hk.2⟩⟩⟩))).2.1 (Kd.V_F (Kd.uF (ok':=(fun k_=>((P1_2_ k_∨P2_2_ k_)∨w.heap.size≤k_)∧k_≠j4∧k_≠j5∧k_≠j3)) (HO2_2.out) (fun k_ hk=>⟨hk.1.1.1,⟨hk.1.1.2,⟨hk.1.2,hk.2⟩⟩⟩))))) (eB.none _ _))));intro jW jX ho13 hb hg_ hnew_;clear hg_ hnew_;(first|rw [← jp.out] at ho13|(simp only [Int.reduceToNat] at ho13;rw [← jp.out] at ho13));replace HO1_2:=am (Kd.BG (by (with_reducible repeat (first|apply Kd.mX|apply Kd.mY|apply Kd.oP));exact HO1_2.out) (Kd.iT ho13) hb);replace HO2_2:=am (Kd.BG (by (with_reducible repeat (first|apply Kd.mX|apply Kd.mY|apply Kd.oP));exact HO2_2.out) (Kd.iT ho13) hb);have jq:=am (Kd.iF ho13 (aQ EZ));replace j8:=bbP j8 hb;replace jd:=bbP jd hb;replace ji:=bbP ji hb;replace HB:=am (aB EZ hb);clear hb ho13;obtain ⟨jr,js,jM⟩:=Kd.gV jq.out;subst jM;obtain ⟨jz,jA,jB,jC,jD,jE⟩:=fA ji.out))
 refine bodyPost_ret (results_cell_row rfl _ _ j3 28 #[.int .i64 a0, .int .i64 0, .slice jr jF.length js] (0,0) _ rfl (aS (aS (aS ji.out 0 _ rfl) 1 _ rfl) 2 _ rfl) Try.underlying28 rfl (by kernel_rfl)) rfl ?_
 exact ⟨_,uW,uG (Kd.eD (Kd.fD (p:=⟨j3,2,none⟩) (Kd.fD (p:=⟨j3,1,none⟩) (Kd.fD (p:=⟨j3,0,none⟩) (Kd.eD jq.out (fun k_ hk=>(⟨hk,hk.2.2.2⟩:_∧k_≠j3))) (fun _ hk=>hk.2) (.int .i64 a0)) (fun _ hk=>hk.2) (.int .i64 0)) (fun _ hk=>hk.2) (.slice jr jF.length js)) (fun _ hk=>hk.1.1)),EZ⟩
theorem bK.mono_l:∀ k,(∀ y0 y1 y2,LeO (bK.f k y0 y1 y2) (bK.f (k + 1) y0 y1 y2))∧(∀ y0 y1 y2 y3 y4 y5 y6 y7 y8 y9,LeO (bK.j0 k y0 y1 y2 y3 y4 y5 y6 y7 y8 y9) (bK.j0 (k + 1) y0 y1 y2 y3 y4 y5 y6 y7 y8 y9))
 |0=>⟨fun _ _ _ r h=>by simp [bK.f] at h,fun _ _ _ _ _ _ _ _ _ _ r h=>by simp [bK.j0] at h⟩
 |k + 1=>by
  obtain ⟨ih0,ih1⟩:=bK.mono_l k
  refine ⟨?_,?_⟩
  ·intro y0 y1 y2
   unfold bK.f
   have m0:=@dA.mono
   exact mo_
  ·intro y0 y1 y2 y3 y4 y5 y6 y7 y8 y9
   unfold bK.j0
   have m0:=@dA.mono
   exact mo_
theorem bK.mono:∀ a0 a1 a2 k,LeO (bK.f k a0 a1 a2) (bK.f (k + 1) a0 a1 a2):=by
 intro a0 a1 a2 k
 obtain ⟨ih0,ih1⟩:=bK.mono_l k
 exact ih0 a0 a1 a2
theorem bK.calls (k:Nat):∀ (jc:Int) (jg:Int) (jK:Option Addr) (jj:Nat) (j8:List (S28)) (r1:Int) (r2:Int) (r3:List (S28)) (w:World) (hr0_2:Kd.C k28 w jK j8.length j8) (hc0_2:j8.length≤jj) (h:bK.f k jc jg j8=some (r1,r2,r3)),
  Calls Try.prog 29 #[.agg #[.int .i64 jc, .int .i64 jg, .slice jK j8.length jj]] w fun e w'=>∃ v2_:Value,e= .returned (.agg #[.int .i64 r1, .int .i64 r2,v2_])∧Kd.N k28 28 w' w.heap.size (fun k_=>(w.heap.size≤k_)) v2_ r3∧Below w.heap.size w w':=by
 induction k using Nat.strongRecOn with
 | _ k ih=>
 intro jc jg jK jj j8 r1 r2 r3 w hr0_2 hc0_2 h
 cases k with
 |zero=>exact absurd h (by simp [bK.f])
 |succ k=>
 simp only [bK.f] at h
 have hu28:=Try.underlying28
 have qq:=am hr0_2
 have ZD:=am hc0_2
 clear hr0_2 hc0_2
 have HB:=am (Below.refl w.heap.size w)
 have H:=h
 clear h
 by_cases c2:(j8.length:Int)=0
 ·rw [if_pos c2] at H
  have qJ:((j8.length:Int) == 0)=true:=beq_iff_eq.mpr c2
  have qK:((j8.length:Int) != 0)=false:=bne_eq_false_iff_eq.mpr c2
  clear c2
  obtain ⟨⟨Zc,Zd,Ze⟩,A3,H⟩:=bsa H
  (try dsimp only at H)
  simp only [Option.some.injEq,Prod.mk.injEq] at H
  obtain ⟨rfl,rfl,rfl⟩:=H
  go_enter Try.func29,Try.ntmps29
  go_wp2_with (first|((with_reducible refine bL (N:=1) rfl ?_);refine cB rfl (N:=1) rfl (cs:=#[.int .i64 jc, .int .i64 jg, .slice jK j8.length jj]) (t:=28) rn_ ?_;intro j9 hg w4 hbox hb;have j7:=am (hbox);have Zf:=am ((by rw [hg];exact (aQ dK):w.heap.size≤j9));have GE94:=am ((by rw [hg];exact (aQ dK):w.heap.size≤j9));replace HB:=am (aB dK hb);clear hb hbox hg)|((with_reducible refine bL (N:=2) rfl ?_);refine cB rfl (N:=2) rfl (cs:=#[.int .i64 0, .int .i64 0, .slice none 0 0]) (t:=28) rn_ ?_;intro j5 hg w5 hbox hb;have jb:=am (hbox);have Zg:=am ((by rw [hg];exact (aQ xH):w.heap.size≤j5));have GE95:=am ((by rw [hg];exact (aQ xH):w.heap.size≤j5));replace HB:=am (aB xH hb);have jF:=am ((by rw [hg];exact Nat.ne_of_lt (cK (g:=j9) (o:= .cells #[.int .i64 jc, .int .i64 jg, .slice jK j8.length jj] 28 (0,0)) (aG_ j7.out)):j9≠j5));have jG:=am ((by rw [hg];exact Nat.ne_of_gt (cK (g:=j9) (o:= .cells #[.int .i64 jc, .int .i64 jg, .slice jK j8.length jj] 28 (0,0)) (aG_ j7.out)):j5≠j9));replace j7:=am (aN (g:=j9) (o:= .cells #[.int .i64 jc, .int .i64 jg, .slice jK j8.length jj] 28 (0,0)) (aG_ j7.out) hb);clear hb hbox hg;have YL:=jF.out;have YM:=jG.out;obtain ⟨Zh,Zi,Zj,Zk,Zl,Zm⟩:=fA j7.out)|((with_reducible refine aD (f:=57) rfl ?_);refine aM (some 15) rfl rfl Try.func57 (by kernel_rfl) rfl #[.int .i64 jc, .int .i64 jg] rfl dB ?_;(with_reducible refine (kG.calls jc jg Zc Zd Ze _ A3.out).mono ?_);rintro e w8 ⟨YY,rfl,ho0,hb⟩;refine ⟨_,rfl,?_⟩;have qL:=am (Kd.iF (Kd.eD (ok':=fun k_=>(w.heap.size≤k_)∧k_≠j9∧k_≠j5) (Kd.R_N (Kd.mW ho0)) (fun k_ hk_=>⟨(Nat.le_trans (aQ rE) hk_.2.1),(Kd.iA (g:=j9) (o:= .cells #[.int .i64 jc, .int .i64 jg, .slice jK j8.length jj] 28 (0,0)) (aG_ j7.out) k_ hk_.2.1),(Kd.iA (g:=j5) (o:= .cells #[.int .i64 0, .int .i64 0, .slice none 0 0] 28 (0,0)) (aG_ jb.out) k_ hk_.2.1)⟩)) (aQ rE));replace j7:=am (aN (g:=j9) (o:= .cells #[.int .i64 jc, .int .i64 jg, .slice jK j8.length jj] 28 (0,0)) (aG_ j7.out) hb);replace jb:=am (aN (g:=j5) (o:= .cells #[.int .i64 0, .int .i64 0, .slice none 0 0] 28 (0,0)) (aG_ jb.out) hb);replace HB:=am (aB rE hb);(try clear hb);(try clear ho0);obtain ⟨Zn,Zo,Zp,Zq,Zr,Zs⟩:=fA jb.out;obtain ⟨qM,qN,Zt⟩:=Kd.gV qL.out;subst Zt))
  refine bodyPost_ret (results_cell_row rfl _ _ j5 28 #[.int .i64 Zc, .int .i64 Zd, .slice qM Ze.length qN] (0,0) _ rfl (aS (aS (aS jb.out 0 _ rfl) 1 _ rfl) 2 _ rfl) Try.underlying28 rfl (by kernel_rfl)) rfl ?_
  exact ⟨_,uW,uG (Kd.eD (Kd.fD (p:=⟨j5,2,none⟩) (Kd.fD (p:=⟨j5,1,none⟩) (Kd.fD (p:=⟨j5,0,none⟩) (Kd.eD qL.out (fun k_ hk=>(⟨hk,hk.2.2⟩:_∧k_≠j5))) (fun _ hk=>hk.2) (.int .i64 Zc)) (fun _ hk=>hk.2) (.int .i64 Zd)) (fun _ hk=>hk.2) (.slice qM Ze.length qN)) (fun _ hk=>hk.1.1)),rE⟩
 rw [if_neg c2] at H
 have qJ:((j8.length:Int) == 0)=false:=beq_eq_false_iff_ne.mpr c2
 have qK:((j8.length:Int) != 0)=true:=bne_iff_ne.mpr c2
 have Zu:¬ (j8=[]):=fun h_=>c2 (by rw [h_];rfl)
 by_cases qO:0 < (j8.length:Int)
 ·rw [if_pos qO] at H
  have qP:decide (0 < (j8.length:Int))=true:=decide_eq_true qO
  have qQ:decide (0 < j8.length)=true:=decide_eq_true (by omega)
  clear qO
  obtain ⟨⟨jJ,jH,jw⟩,YN,H⟩:=bsa H
  (try dsimp only at H)
  by_cases qR:1 < (j8.length:Int)
  ·rw [if_pos qR] at H
   have qS:decide (1 < (j8.length:Int))=true:=decide_eq_true qR
   have qT:decide (1 < j8.length)=true:=decide_eq_true (by omega)
   clear qR
   obtain ⟨⟨jM,jt,jf⟩,qU,H⟩:=bsm H
   (try dsimp only at H)
   have YO:=am qU
   clear qU
   have qu:=am H
   clear H
   go_enter Try.func29,Try.ntmps29
   go_upto_region 5 with (first|((with_reducible refine bL (N:=1) rfl ?_);refine cB rfl (N:=1) rfl (cs:=#[.int .i64 jc, .int .i64 jg, .slice jK j8.length jj]) (t:=28) rn_ ?_;intro j9 hg YZ hbox hb;have j7:=am (hbox);have Zf:=am ((by rw [hg];exact (aQ dK):w.heap.size≤j9));have GE94:=am ((by rw [hg];exact (aQ dK):w.heap.size≤j9));replace HB:=am (aB dK hb);clear hb hbox hg)|((with_reducible refine bL (N:=2) rfl ?_);refine cB rfl (N:=2) rfl (cs:=#[.int .i64 0, .int .i64 0, .slice none 0 0]) (t:=28) rn_ ?_;intro j5 hg U0 hbox hb;have jb:=am (hbox);have Zg:=am ((by rw [hg];exact (aQ xH):w.heap.size≤j5));have GE95:=am ((by rw [hg];exact (aQ xH):w.heap.size≤j5));replace HB:=am (aB xH hb);have jF:=am ((by rw [hg];exact Nat.ne_of_lt (cK (g:=j9) (o:= .cells #[.int .i64 jc, .int .i64 jg, .slice jK j8.length jj] 28 (0,0)) (aG_ j7.out)):j9≠j5));have jG:=am ((by rw [hg];exact Nat.ne_of_gt (cK (g:=j9) (o:= .cells #[.int .i64 jc, .int .i64 jg, .slice jK j8.length jj] 28 (0,0)) (aG_ j7.out)):j5≠j9));replace j7:=am (aN (g:=j9) (o:= .cells #[.int .i64 jc, .int .i64 jg, .slice jK j8.length jj] 28 (0,0)) (aG_ j7.out) hb);clear hb hbox hg;have ZE:=jF.out;have ZF:=jG.out;obtain ⟨jS,jT,jU,jV,jW,jX⟩:=fA j7.out;have jY:0≤(0:Int):=(by omega);have jZ:0 < (j8.length:Int):=of_decide_eq_true bR;obtain ⟨je,qv,qw,Zv,jA,jB,jC,hl104_2,hi104_2⟩:=gJ qq.out 0 jY jZ;cases Zv;have ZG:(0 < j8.length)=True:=eq_true (by omega);(try rw [show ((0:Int)).toNat=0 from rfl] at jA);(try rw [show 0 * 3=0 from rfl] at jA);(try rw [Addr.add_zero'] at jA);(try rw [show ((0:Int)).toNat=0 from rfl] at jB);(try rw [show 0 * 3=0 from rfl] at jB);(try rw [Addr.add_zero'] at jB);(try rw [show ((0:Int)).toNat=0 from rfl] at jC);(try rw [show 0 * 3=0 from rfl] at jC);(try rw [Addr.add_zero'] at jC);replace jA:=(HB.out.cell (World.block_lt_of_cell? w _ jA)).trans jA;replace jB:=(HB.out.cell (World.block_lt_of_cell? w _ jB)).trans jB;replace jC:=(HB.out.cell (World.block_lt_of_cell? w _ jC)).trans jC;have q0:=am hi104_2;have q1:=am hl104_2;clear hi104_2 hl104_2;replace jY:=eq_true jY;replace jZ:=eq_true jZ)|((with_reducible refine aD (f:=29) rfl ?_);refine aM (some 20) rfl rfl Try.func29 (by kernel_rfl) rfl #[.agg #[.int .i64 ((aW j8 0).f0), .int .i64 ((aW j8 0).f1), .slice qv ((aW j8 0).f2).length qw]] rfl dB ?_;(with_reducible refine (ih k (by omega) ((aW j8 0).f0) ((aW j8 0).f1) _ _ ((aW j8 0).f2) jJ jH jw _ (aC_ (Kd.aH q0.out HB.out)) q1.out YN.out).mono ?_);rintro e U1 ⟨YP,rfl,ho0,hb⟩;refine ⟨_,rfl,?_⟩;have jI:=am (Kd.iF (Kd.eD (ok':=fun k_=>(w.heap.size≤k_)∧k_≠j9∧k_≠j5) ho0 (fun k_ hk_=>⟨(Nat.le_trans (aQ rE) hk_),(Kd.iA (g:=j9) (o:= .cells #[.int .i64 jc, .int .i64 jg, .slice (some je) j8.length jj] 28 (0,0)) (aG_ j7.out) k_ hk_),(Kd.iA (g:=j5) (o:= .cells #[.int .i64 0, .int .i64 0, .slice none 0 0] 28 (0,0)) (aG_ jb.out) k_ hk_)⟩)) (aQ rE));replace j7:=am (aN (g:=j9) (o:= .cells #[.int .i64 jc, .int .i64 jg, .slice (some je) j8.length jj] 28 (0,0)) (aG_ j7.out) hb);replace jb:=am (aN (g:=j5) (o:= .cells #[.int .i64 0, .int .i64 0, .slice none 0 0] 28 (0,0)) (aG_ jb.out) hb);replace HB:=am (aB rE hb);(try clear hb);(try clear ho0))|((with_reducible refine bL (N:=3) rfl ?_);refine cB rfl (N:=3) rfl (cs:=#[.int .i64 0, .int .i64 0, .slice none 0 0]) (t:=28) rn_ ?_;intro j3 hg U2 hbox hb;replace jI:=am (Kd.fT (Kd.vR (aN_ jI.out) j3 (Nat.le_of_eq hg.symm)) hb);have j6:=am (hbox);have jR:=am ((by rw [hg];exact (aQ rE):w.heap.size≤j3));have GE107:=am ((by rw [hg];exact (aQ rE):w.heap.size≤j3));replace HB:=am (aB rE hb);have jk:=am ((by rw [hg];exact Nat.ne_of_lt (cK (g:=j9) (o:= .cells #[.int .i64 jc, .int .i64 jg, .slice (some je) j8.length jj] 28 (0,0)) (aG_ j7.out)):j9≠j3));have jy:=am ((by rw [hg];exact Nat.ne_of_gt (cK (g:=j9) (o:= .cells #[.int .i64 jc, .int .i64 jg, .slice (some je) j8.length jj] 28 (0,0)) (aG_ j7.out)):j3≠j9));replace j7:=am (aN (g:=j9) (o:= .cells #[.int .i64 jc, .int .i64 jg, .slice (some je) j8.length jj] 28 (0,0)) (aG_ j7.out) hb);have jl:=am ((by rw [hg];exact Nat.ne_of_lt (cK (g:=j5) (o:= .cells #[.int .i64 0, .int .i64 0, .slice none 0 0] 28 (0,0)) (aG_ jb.out)):j5≠j3));have jz:=am ((by rw [hg];exact Nat.ne_of_gt (cK (g:=j5) (o:= .cells #[.int .i64 0, .int .i64 0, .slice none 0 0] 28 (0,0)) (aG_ jb.out)):j3≠j5));replace jb:=am (aN (g:=j5) (o:= .cells #[.int .i64 0, .int .i64 0, .slice none 0 0] 28 (0,0)) (aG_ jb.out) hb);clear hb hbox hg;have ZH:=jy.out;have ZI:=jk.out;have ZJ:=jz.out;have ZK:=jl.out;obtain ⟨q2,q3,q4,q5,q6,q7⟩:=fA j6.out;obtain ⟨jh,ji,Zw⟩:=Kd.gV jI.out;subst Zw;obtain ⟨q8,q9,qa,qb,qc,qd⟩:=fA j7.out;have qe:0≤(1:Int):=(by omega);have qf:1 < (j8.length:Int):=of_decide_eq_true bR;obtain ⟨qV,qx,qy,Zx,js,ju,jv,hl108_2,hi108_2⟩:=gJ qq.out 1 qe qf;obtain rfl:je=qV:=(by injection Zx);(try simp only [show (1:Int).toNat=1 from rfl,Nat.reduceMul,Nat.reduceEqDiff,Go.Addr.add,↓reduceIte] at js);(try simp only [show (1:Int).toNat=1 from rfl,Nat.reduceMul,Nat.reduceEqDiff,Go.Addr.add,↓reduceIte] at ju);(try simp only [show (1:Int).toNat=1 from rfl,Nat.reduceMul,Nat.reduceEqDiff,Go.Addr.add,↓reduceIte] at jv);have ZL:(1 < j8.length)=True:=eq_true (by omega);(try rw [show ((1:Int)).toNat=1 from rfl] at js);(try rw [show 1 * 3=3 from rfl] at js);(try rw [show ((1:Int)).toNat=1 from rfl] at ju);(try rw [show 1 * 3=3 from rfl] at ju);(try rw [show ((1:Int)).toNat=1 from rfl] at jv);(try rw [show 1 * 3=3 from rfl] at jv);have jL:je.block≠j3:=Nat.ne_of_lt (Nat.lt_of_lt_of_le (by have:=World.block_lt_of_cell? _ _ js;first|rwa [add_block] at this|exact this) jR.out);have qg:je.block≠j3:=Nat.ne_of_lt (Nat.lt_of_lt_of_le (by have:=World.block_lt_of_cell? _ _ js;first|rwa [add_block] at this|exact this) jR.out);have qh:je.block≠j3:=Nat.ne_of_lt (Nat.lt_of_lt_of_le (by have:=World.block_lt_of_cell? _ _ js;first|rwa [add_block] at this|exact this) jR.out);replace js:=(HB.out.cell (World.block_lt_of_cell? w _ js)).trans js;replace ju:=(HB.out.cell (World.block_lt_of_cell? w _ ju)).trans ju;replace jv:=(HB.out.cell (World.block_lt_of_cell? w _ jv)).trans jv;have qi:=am hi108_2;have qj:=am hl108_2;clear hi108_2 hl108_2;have FR_:=fun {W_:World} {a_:Addr} {x_:Value} (b_:a_.block≠j3) (h_:W_.cell? a_=some x_)=>((cell_far (p:=⟨j3,2,none⟩) b_ (.slice jh jw.length ji)).trans ((cell_far (p:=⟨j3,1,none⟩) b_ (.int .i64 jH)).trans ((cell_far (p:=⟨j3,0,none⟩) b_ (.int .i64 jJ)).trans h_)));replace js:=FR_ (nb_ jL) js;replace ju:=FR_ (nb_ jL) ju;replace jv:=FR_ (nb_ jL) jv;clear FR_;clear jL qg qh;replace qe:=eq_true qe;replace qf:=eq_true qf)|((with_reducible refine aD (f:=29) rfl ?_);refine aM (some 25) rfl rfl Try.func29 (by kernel_rfl) rfl #[.agg #[.int .i64 ((aW j8 1).f0), .int .i64 ((aW j8 1).f1), .slice qx ((aW j8 1).f2).length qy]] rfl dB ?_;(with_reducible refine (ih k (by omega) ((aW j8 1).f0) ((aW j8 1).f1) _ _ ((aW j8 1).f2) jM jt jf _ ?side1 qj.out YO.out).mono ?_);(case side1=>exact Kd.aH qi.out vX);rintro e U3 ⟨YQ,rfl,ho0,hb⟩;refine ⟨_,rfl,?_⟩;have jO:=am (Kd.iF (Kd.eD (ok':=fun k_=>(w.heap.size≤k_)∧some k_≠(.slice jh jw.length ji:Value).ownBlock∧k_≠j9∧k_≠j5∧k_≠j3) ho0 (fun k_ hk_=>⟨(Nat.le_trans (aQ vX) hk_),(Kd.fresh' (Kd.IE (uG ((Kd.eD (Kd.fD (p:=⟨j3,2,none⟩) (Kd.fD (p:=⟨j3,1,none⟩) (Kd.fD (p:=⟨j3,0,none⟩) (Kd.eD jI.out (fun k_ hk=>(⟨hk,hk.2⟩:_∧k_≠j3))) (fun _ hk=>hk.2) (.int .i64 jJ)) (fun _ hk=>hk.2) (.int .i64 jH)) (fun _ hk=>hk.2) (.slice jh jw.length ji)) (fun _ h_=>h_.1))))) k_ hk_),(Kd.iA (g:=j9) (o:= .cells #[.int .i64 jc, .int .i64 jg, .slice (some je) j8.length jj] 28 (0,0)) (bI (bI (bI j7.out jk.out _) jk.out _) jk.out _) k_ hk_),(Kd.iA (g:=j5) (o:= .cells #[.int .i64 0, .int .i64 0, .slice none 0 0] 28 (0,0)) (bI (bI (bI jb.out jl.out _) jl.out _) jl.out _) k_ hk_),(Kd.iA (g:=j3) (o:= .cells #[.int .i64 jJ, .int .i64 jH, .slice jh jw.length ji] 28 (0,0)) (aS (aS (aS j6.out 0 _ rfl) 1 _ rfl) 2 _ rfl) k_ hk_)⟩)) (aQ vX));replace jI:=am (Kd.mG (uG ((Kd.eD (Kd.fD (p:=⟨j3,2,none⟩) (Kd.fD (p:=⟨j3,1,none⟩) (Kd.fD (p:=⟨j3,0,none⟩) (Kd.eD jI.out (fun k_ hk=>(⟨hk,hk.2⟩:_∧k_≠j3))) (fun _ hk=>hk.2) (.int .i64 jJ)) (fun _ hk=>hk.2) (.int .i64 jH)) (fun _ hk=>hk.2) (.slice jh jw.length ji)) (fun _ h_=>h_.1)))) (by first|exact Kd.iT ho0|exact Kd.iT (Kd.R_N ho0)) hb);replace j7:=am (aN (g:=j9) (o:= .cells #[.int .i64 jc, .int .i64 jg, .slice (some je) j8.length jj] 28 (0,0)) (bI (bI (bI j7.out jk.out _) jk.out _) jk.out _) hb);replace jb:=am (aN (g:=j5) (o:= .cells #[.int .i64 0, .int .i64 0, .slice none 0 0] 28 (0,0)) (bI (bI (bI jb.out jl.out _) jl.out _) jl.out _) hb);replace j6:=am (aN (g:=j3) (o:= .cells #[.int .i64 jJ, .int .i64 jH, .slice jh jw.length ji] 28 (0,0)) (aS (aS (aS j6.out 0 _ rfl) 1 _ rfl) 2 _ rfl) hb);replace HB:=am (aB vX hb);(try clear hb);(try clear ho0))|((with_reducible refine bL (N:=4) rfl ?_);refine cB rfl (N:=4) rfl (cs:=#[.int .i64 0, .int .i64 0, .slice none 0 0]) (t:=28) rn_ ?_;intro j4 hg U4 hbox hb;replace jI:=am (Kd.fT (Kd.vR (aN_ jI.out) j4 (Nat.le_of_eq hg.symm)) hb);replace jO:=am (Kd.fT (Kd.vR (aN_ jO.out) j4 (Nat.le_of_eq hg.symm)) hb);have ja:=am (hbox);have ZM:=am ((by rw [hg];exact (aQ vX):w.heap.size≤j4));have GE111:=am ((by rw [hg];exact (aQ vX):w.heap.size≤j4));replace HB:=am (aB vX hb);have jm:=am ((by rw [hg];exact Nat.ne_of_lt (cK (g:=j9) (o:= .cells #[.int .i64 jc, .int .i64 jg, .slice (some je) j8.length jj] 28 (0,0)) (aG_ j7.out)):j9≠j4));have jD:=am ((by rw [hg];exact Nat.ne_of_gt (cK (g:=j9) (o:= .cells #[.int .i64 jc, .int .i64 jg, .slice (some je) j8.length jj] 28 (0,0)) (aG_ j7.out)):j4≠j9));replace j7:=am (aN (g:=j9) (o:= .cells #[.int .i64 jc, .int .i64 jg, .slice (some je) j8.length jj] 28 (0,0)) (aG_ j7.out) hb);have jn:=am ((by rw [hg];exact Nat.ne_of_lt (cK (g:=j5) (o:= .cells #[.int .i64 0, .int .i64 0, .slice none 0 0] 28 (0,0)) (aG_ jb.out)):j5≠j4));have jE:=am ((by rw [hg];exact Nat.ne_of_gt (cK (g:=j5) (o:= .cells #[.int .i64 0, .int .i64 0, .slice none 0 0] 28 (0,0)) (aG_ jb.out)):j4≠j5));replace jb:=am (aN (g:=j5) (o:= .cells #[.int .i64 0, .int .i64 0, .slice none 0 0] 28 (0,0)) (aG_ jb.out) hb);have jd:=am ((by rw [hg];exact Nat.ne_of_lt (cK (g:=j3) (o:= .cells #[.int .i64 jJ, .int .i64 jH, .slice jh jw.length ji] 28 (0,0)) (aG_ j6.out)):j3≠j4));have jx:=am ((by rw [hg];exact Nat.ne_of_gt (cK (g:=j3) (o:= .cells #[.int .i64 jJ, .int .i64 jH, .slice jh jw.length ji] 28 (0,0)) (aG_ j6.out)):j4≠j3));replace j6:=am (aN (g:=j3) (o:= .cells #[.int .i64 jJ, .int .i64 jH, .slice jh jw.length ji] 28 (0,0)) (aG_ j6.out) hb);clear hb hbox hg;have ZN:=jD.out;have ZO:=jm.out;have ZP:=jE.out;have ZQ:=jn.out;have ZR:=jx.out;have ZS:=jd.out;obtain ⟨qk,ql,qm,qn,qo,qp⟩:=fA ja.out;obtain ⟨jq,jr,Zy⟩:=Kd.gV jO.out;subst Zy))
   (try simp only [Act.put,List.setIfInBounds_toArray,List.set_cons_zero,List.set_cons_succ])
   go_cut [33] (fun YR wc=>∃ (kq:Nat) (jN:Bool),YR= .bool jN∧Aside0 (bK.j0 kq jN jc jg j8 jJ jH jw jM jt jf=some (r1,r2,r3))∧Aside0 (kq≤k)∧Aside0 (Kd.N k28 28 wc w.heap.size (fun k_=>(w.heap.size≤k_)∧some k_≠((.slice jq jf.length jr):Value).ownBlock∧k_≠j9∧k_≠j5∧k_≠j3∧k_≠j4) (.slice jh jw.length ji) jw)∧Aside0 (Kd.N k28 28 wc w.heap.size (fun k_=>(w.heap.size≤k_)∧some k_≠((.slice jh jw.length ji):Value).ownBlock∧k_≠j9∧k_≠j5∧k_≠j3∧k_≠j4) (.slice jq jf.length jr) jf)∧Aside0 (wc.heap[j9]?=some (.cells #[.int .i64 jc, .int .i64 jg,(.slice (some je) j8.length jj)] 28 (0,0)))∧Aside0 (wc.heap[j5]?=some (.cells #[.int .i64 0, .int .i64 0,(.slice none 0 0)] 28 (0,0)))∧Aside0 (wc.heap[j3]?=some (.cells #[.int .i64 jJ, .int .i64 jH,(.slice jh jw.length ji)] 28 (0,0)))∧Aside0 (wc.heap[j4]?=some (.cells #[.int .i64 jM, .int .i64 jt,(.slice jq jf.length jr)] 28 (0,0)))∧Aside0 (Below w.heap.size w wc))
   case first=>
    have H:=qu.out
    clear qu
    by_cases qz:jJ=0
    ·rw [if_pos qz] at H
     have jP:(jJ == 0)=true:=beq_iff_eq.mpr qz
     have qW:(jJ != 0)=false:=bne_eq_false_iff_eq.mpr qz
     clear qz
     (first|rw [jP]|(simp only [gB,gN];rw [jP])|skip)
     have H':=am H
     clear H
     have ZT:=jy.out
     have ZU:=jk.out
     have ZV:=jz.out
     have ZW:=jl.out
     have ZX:=jd.out
     have ZY:=jx.out
     obtain ⟨zQ,zR,zS,zT,zU,zV⟩:=fA j6.out
     have ZZ:=jD.out
     have Y0:=jm.out
     have Y1:=jE.out
     have Y2:=jn.out
     obtain ⟨zW,zX,zY,zZ,J0,J1⟩:=fA ja.out
     go_wp2
     go_meet
     case rel=>exact ⟨_,((jM == 0)),sd_,H',⟨by first|omega|exact Nat.le_refl _⟩,⟨uG (Kd.eD (Kd.fD (p:=⟨j4,2,none⟩) (Kd.fD (p:=⟨j4,1,none⟩) (Kd.fD (p:=⟨j4,0,none⟩) (Kd.eD jI.out (fun k_ hk=>(⟨hk,hk.2⟩:_∧k_≠j4))) (fun _ hk=>hk.2) (.int .i64 jM)) (fun _ hk=>hk.2) (.int .i64 jt)) (fun _ hk=>hk.2) (.slice jq jf.length jr)) (fun _ hk=>⟨hk.1.1.1.1.1,⟨hk.1.1.2,⟨hk.1.1.1.1.2.1,⟨hk.1.1.1.1.2.2,⟨hk.1.1.1.2,hk.1.2⟩⟩⟩⟩⟩))⟩,⟨uG (Kd.eD (Kd.fD (p:=⟨j4,2,none⟩) (Kd.fD (p:=⟨j4,1,none⟩) (Kd.fD (p:=⟨j4,0,none⟩) (Kd.eD jO.out (fun k_ hk=>(⟨hk,hk.2⟩:_∧k_≠j4))) (fun _ hk=>hk.2) (.int .i64 jM)) (fun _ hk=>hk.2) (.int .i64 jt)) (fun _ hk=>hk.2) (.slice jq jf.length jr)) (fun _ hk=>⟨hk.1.1.1,⟨hk.1.1.2.1,⟨hk.1.1.2.2.1,⟨hk.1.1.2.2.2.1,⟨hk.1.1.2.2.2.2,hk.1.2⟩⟩⟩⟩⟩))⟩,⟨(bI (bI (bI j7.out jm.out _) jm.out _) jm.out _)⟩,⟨(bI (bI (bI jb.out jn.out _) jn.out _) jn.out _)⟩,⟨(bI (bI (bI j6.out jd.out _) jd.out _) jd.out _)⟩,⟨(aS (aS (aS ja.out 0 _ rfl) 1 _ rfl) 2 _ rfl)⟩,⟨oM⟩⟩
    rw [if_neg qz] at H
    have jP:(jJ == 0)=false:=beq_eq_false_iff_ne.mpr qz
    have qW:(jJ != 0)=true:=bne_iff_ne.mpr qz
    (first|rw [jP]|(simp only [gB,gN];rw [jP])|skip)
    have H':=am H
    clear H
    have Y3:=jy.out
    have Y4:=jk.out
    have Y5:=jz.out
    have Y6:=jl.out
    have Y7:=jd.out
    have Y8:=jx.out
    obtain ⟨J2,J3,J4,J5,J6,J7⟩:=fA j6.out
    go_wp2
    go_meet
    case rel=>exact ⟨_,(false),sd_,H',⟨by first|omega|exact Nat.le_refl _⟩,⟨uG (Kd.eD (Kd.fD (p:=⟨j4,2,none⟩) (Kd.fD (p:=⟨j4,1,none⟩) (Kd.fD (p:=⟨j4,0,none⟩) (Kd.eD jI.out (fun k_ hk=>(⟨hk,hk.2⟩:_∧k_≠j4))) (fun _ hk=>hk.2) (.int .i64 jM)) (fun _ hk=>hk.2) (.int .i64 jt)) (fun _ hk=>hk.2) (.slice jq jf.length jr)) (fun _ hk=>⟨hk.1.1.1.1.1,⟨hk.1.1.2,⟨hk.1.1.1.1.2.1,⟨hk.1.1.1.1.2.2,⟨hk.1.1.1.2,hk.1.2⟩⟩⟩⟩⟩))⟩,⟨uG (Kd.eD (Kd.fD (p:=⟨j4,2,none⟩) (Kd.fD (p:=⟨j4,1,none⟩) (Kd.fD (p:=⟨j4,0,none⟩) (Kd.eD jO.out (fun k_ hk=>(⟨hk,hk.2⟩:_∧k_≠j4))) (fun _ hk=>hk.2) (.int .i64 jM)) (fun _ hk=>hk.2) (.int .i64 jt)) (fun _ hk=>hk.2) (.slice jq jf.length jr)) (fun _ hk=>⟨hk.1.1.1,⟨hk.1.1.2.1,⟨hk.1.1.2.2.1,⟨hk.1.1.2.2.2.1,⟨hk.1.1.2.2.2.2,hk.1.2⟩⟩⟩⟩⟩))⟩,⟨(bI (bI (bI j7.out jm.out _) jm.out _) jm.out _)⟩,⟨(bI (bI (bI jb.out jn.out _) jn.out _) jn.out _)⟩,⟨(bI (bI (bI j6.out jd.out _) jd.out _) jd.out _)⟩,⟨(aS (aS (aS ja.out 0 _ rfl) 1 _ rfl) 2 _ rfl)⟩,⟨oM⟩⟩
   case rest=>
    clear qu
    try clear c2
    try clear qJ
    try clear qK
    try clear Zu
    try clear qO
    try clear qP
    try clear qQ
    try clear qR
    try clear qS
    try clear qT
    try clear jS
    try clear jT
    try clear jU
    try clear q2
    try clear q3
    try clear q4
    try clear q8
    try clear q9
    try clear qa
    try clear qk
    try clear ql
    try clear qm
    try clear jV
    try clear jW
    try clear jX
    try clear q5
    try clear q6
    try clear q7
    try clear qb
    try clear qc
    try clear qd
    try clear qn
    try clear qo
    try clear qp
    try clear jA
    try clear jB
    try clear jC
    try clear js
    try clear ju
    try clear jv
    try clear jY
    try clear qe
    try clear jZ
    try clear qf
    obtain ⟨kq,jN,rfl,HA,HJ14,jo,jp,j7,jb,j6,ja,HB⟩:=hcut
    cases kq with
    |zero=>exact absurd HA.out (by simp [bK.j0])
    |succ qX=>
     have H:=HA.out
     clear HA
     simp only [bK.j0] at H
     by_cases J8:jN=true
     ·subst J8
      rw [if_pos rfl] at H
      obtain ⟨⟨jQ,qY⟩,qZ,H⟩:=bsm H
      (try dsimp only at H)
      have Y9:=am qZ
      clear qZ
      obtain ⟨Zz,z0,H⟩:=bsm H
      (try dsimp only at H)
      have Ya:=am z0
      clear z0
      by_cases J9:Zz=true
      ·subst J9
       rw [if_pos rfl] at H
       obtain ⟨⟨qA,qB,qC⟩,z1,H⟩:=bsm H
       (try dsimp only at H)
       have YS:=am z1
       clear z1
       simp only [Option.some.injEq,Prod.mk.injEq] at H
       obtain ⟨rfl,rfl,rfl⟩:=H
       have Yb:=jF.out
       have Yc:=jG.out
       have Yd:=jk.out
       have Ye:=jy.out
       have Yf:=jm.out
       have Yg:=jD.out
       obtain ⟨Ja,Jb,Jc,Jd,Je,Jf⟩:=fA j7.out
       have Yh:=jz.out
       have Yi:=jl.out
       have Yj:=jd.out
       have Yk:=jx.out
       obtain ⟨Jg,Jh,Ji,Jj,Jk,Jl⟩:=fA j6.out
       have Yl:=jE.out
       have Ym:=jn.out
       obtain ⟨Jm,Jn,Jo,Jp,Jq,Jr⟩:=fA ja.out
       go_wp2_with (first|((with_reducible refine aD (f:=58) rfl ?_);refine aM (some 41) rfl rfl Try.func58 (by kernel_rfl) rfl #[.int .i64 jc, .int .i64 jH, .int .i64 jt] rfl dB ?_;(with_reducible refine (dA.calls qX jc jH jt jQ qY _ Y9.out).mono ?_);rintro e w' ⟨rfl,⟨nd,rfl⟩⟩;refine ⟨_,rfl,?_⟩;(try (rw [nV wc];generalize hq_:World.drewN wc _=wc;replace jo:Aside0 (Kd.N k28 28 wc w.heap.size (fun k_=>(w.heap.size≤k_)∧some k_≠(.slice jq jf.length jr:Value).ownBlock∧k_≠j9∧k_≠j5∧k_≠j3∧k_≠j4) (.slice jh jw.length ji) jw):=⟨by rw [← hq_];exact (aN_ jo.out)⟩;replace jp:Aside0 (Kd.N k28 28 wc w.heap.size (fun k_=>(w.heap.size≤k_)∧some k_≠(.slice jh jw.length ji:Value).ownBlock∧k_≠j9∧k_≠j5∧k_≠j3∧k_≠j4) (.slice jq jf.length jr) jf):=⟨by rw [← hq_];exact (aN_ jp.out)⟩;replace j7:Aside0 (wc.heap[j9]?=some (.cells #[.int .i64 jc, .int .i64 jg, .slice (some je) j8.length jj] 28 (0,0))):=⟨by rw [← hq_];exact (aG_ j7.out)⟩;replace jb:Aside0 (wc.heap[j5]?=some (.cells #[.int .i64 0, .int .i64 0, .slice none 0 0] 28 (0,0))):=⟨by rw [← hq_];exact (aG_ jb.out)⟩;replace j6:Aside0 (wc.heap[j3]?=some (.cells #[.int .i64 jJ, .int .i64 jH, .slice jh jw.length ji] 28 (0,0))):=⟨by rw [← hq_];exact (aG_ j6.out)⟩;replace ja:Aside0 (wc.heap[j4]?=some (.cells #[.int .i64 jM, .int .i64 jt, .slice jq jf.length jr] 28 (0,0))):=⟨by rw [← hq_];exact (aG_ ja.out)⟩;replace HB:Aside0 (Below w.heap.size w wc):=⟨by rw [← hq_];exact oM⟩;clear hq_;obtain ⟨Js,Jt⟩:=lU j7.out;have Ju:wc.cell? ⟨j9,1,none⟩=some (.int .i64 jg):=(aA j7.out 1).trans rfl;have Jv:=aG j7.out 1;have Jw:wc.cell? ⟨j9,2,none⟩=some (.slice (some je) j8.length jj):=(aA j7.out 2).trans rfl;have Jx:=aG j7.out 2;obtain ⟨Jy,Jz⟩:=lU jb.out;have JA:wc.cell? ⟨j5,1,none⟩=some (.int .i64 0):=(aA jb.out 1).trans rfl;have JB:=aG jb.out 1;have JC:wc.cell? ⟨j5,2,none⟩=some (.slice none 0 0):=(aA jb.out 2).trans rfl;have JD:=aG jb.out 2;obtain ⟨JE,JF⟩:=lU j6.out;have JG:wc.cell? ⟨j3,1,none⟩=some (.int .i64 jH):=(aA j6.out 1).trans rfl;have JH:=aG j6.out 1;have JI:wc.cell? ⟨j3,2,none⟩=some (.slice jh jw.length ji):=(aA j6.out 2).trans rfl;have JJ:=aG j6.out 2;obtain ⟨JK,JL⟩:=lU ja.out;have JM:wc.cell? ⟨j4,1,none⟩=some (.int .i64 jt):=(aA ja.out 1).trans rfl;have JN:=aG ja.out 1;have JO:wc.cell? ⟨j4,2,none⟩=some (.slice jq jf.length jr):=(aA ja.out 2).trans rfl;have JP:=aG ja.out 2)))|((with_reducible refine aD (f:=59) rfl ?_);refine aM (some 45) rfl rfl Try.func59 (by kernel_rfl) rfl #[.int .i64 jQ, .int .i64 0, .int .i64 99999] rfl dB ?_;(with_reducible refine (dL.calls jQ 0 99999 true _ Ya.out).mono ?_);rintro e w' ⟨rfl,⟨nd,rfl⟩⟩;refine ⟨_,rfl,?_⟩;(try (rw [nV wc];generalize hq_:World.drewN wc _=wc;replace jo:Aside0 (Kd.N k28 28 wc w.heap.size (fun k_=>(w.heap.size≤k_)∧some k_≠(.slice jq jf.length jr:Value).ownBlock∧k_≠j9∧k_≠j5∧k_≠j3∧k_≠j4) (.slice jh jw.length ji) jw):=⟨by rw [← hq_];exact (aN_ jo.out)⟩;replace jp:Aside0 (Kd.N k28 28 wc w.heap.size (fun k_=>(w.heap.size≤k_)∧some k_≠(.slice jh jw.length ji:Value).ownBlock∧k_≠j9∧k_≠j5∧k_≠j3∧k_≠j4) (.slice jq jf.length jr) jf):=⟨by rw [← hq_];exact (aN_ jp.out)⟩;replace j7:Aside0 (wc.heap[j9]?=some (.cells #[.int .i64 jc, .int .i64 jg, .slice (some je) j8.length jj] 28 (0,0))):=⟨by rw [← hq_];exact (aG_ j7.out)⟩;replace jb:Aside0 (wc.heap[j5]?=some (.cells #[.int .i64 0, .int .i64 0, .slice none 0 0] 28 (0,0))):=⟨by rw [← hq_];exact (aG_ jb.out)⟩;replace j6:Aside0 (wc.heap[j3]?=some (.cells #[.int .i64 jJ, .int .i64 jH, .slice jh jw.length ji] 28 (0,0))):=⟨by rw [← hq_];exact (aG_ j6.out)⟩;replace ja:Aside0 (wc.heap[j4]?=some (.cells #[.int .i64 jM, .int .i64 jt, .slice jq jf.length jr] 28 (0,0))):=⟨by rw [← hq_];exact (aG_ ja.out)⟩;replace HB:Aside0 (Below w.heap.size w wc):=⟨by rw [← hq_];exact oM⟩;clear hq_;obtain ⟨JQ,JR⟩:=lU j7.out;have JS:wc.cell? ⟨j9,1,none⟩=some (.int .i64 jg):=(aA j7.out 1).trans rfl;have JT:=aG j7.out 1;have JU:wc.cell? ⟨j9,2,none⟩=some (.slice (some je) j8.length jj):=(aA j7.out 2).trans rfl;have JV:=aG j7.out 2;obtain ⟨JW,JX⟩:=lU jb.out;have JY:wc.cell? ⟨j5,1,none⟩=some (.int .i64 0):=(aA jb.out 1).trans rfl;have JZ:=aG jb.out 1;have Q0:wc.cell? ⟨j5,2,none⟩=some (.slice none 0 0):=(aA jb.out 2).trans rfl;have Q1:=aG jb.out 2;obtain ⟨Q2,Q3⟩:=lU j6.out;have Q4:wc.cell? ⟨j3,1,none⟩=some (.int .i64 jH):=(aA j6.out 1).trans rfl;have Q5:=aG j6.out 1;have Q6:wc.cell? ⟨j3,2,none⟩=some (.slice jh jw.length ji):=(aA j6.out 2).trans rfl;have Q7:=aG j6.out 2;obtain ⟨Q8,Q9⟩:=lU ja.out;have Qa:wc.cell? ⟨j4,1,none⟩=some (.int .i64 jt):=(aA ja.out 1).trans rfl;have Qb:=aG ja.out 1;have Qc:wc.cell? ⟨j4,2,none⟩=some (.slice jq jf.length jr):=(aA ja.out 2).trans rfl;have Qd:=aG ja.out 2)))|((with_reducible refine aD (f:=57) rfl ?_);refine aM (some 47) rfl rfl Try.func57 (by kernel_rfl) rfl #[.int .i64 0, .int .i64 jQ] rfl dB ?_;(with_reducible refine (kG.calls 0 jQ qA qB qC _ YS.out).mono ?_);rintro e U5 ⟨YT,rfl,ho0,hb⟩;refine ⟨_,rfl,?_⟩;have qr:=am (Kd.iF (Kd.eD (ok':=fun k_=>(w.heap.size≤k_)∧some k_≠(.slice jh jw.length ji:Value).ownBlock∧some k_≠(.slice jq jf.length jr:Value).ownBlock∧k_≠j9∧k_≠j5∧k_≠j3∧k_≠j4) (Kd.R_N (Kd.mW ho0)) (fun k_ hk_=>⟨(Nat.le_trans (aQ oM) hk_.2.1),(Kd.fresh' (Kd.IE (aN_ jo.out)) k_ hk_.2.1),(Kd.fresh' (Kd.IE (aN_ jp.out)) k_ hk_.2.1),(Kd.iA (g:=j9) (o:= .cells #[.int .i64 jc, .int .i64 jg, .slice (some je) j8.length jj] 28 (0,0)) (aG_ j7.out) k_ hk_.2.1),(Kd.iA (g:=j5) (o:= .cells #[.int .i64 0, .int .i64 0, .slice none 0 0] 28 (0,0)) (aG_ jb.out) k_ hk_.2.1),(Kd.iA (g:=j3) (o:= .cells #[.int .i64 jJ, .int .i64 jH, .slice jh jw.length ji] 28 (0,0)) (aG_ j6.out) k_ hk_.2.1),(Kd.iA (g:=j4) (o:= .cells #[.int .i64 jM, .int .i64 jt, .slice jq jf.length jr] 28 (0,0)) (aG_ ja.out) k_ hk_.2.1)⟩)) (aQ oM));replace jo:=am (Kd.mG (aN_ jo.out) (by first|exact Kd.iT ho0|exact Kd.iT (Kd.R_N ho0)) hb);replace jp:=am (Kd.mG (aN_ jp.out) (by first|exact Kd.iT ho0|exact Kd.iT (Kd.R_N ho0)) hb);replace j7:=am (aN (g:=j9) (o:= .cells #[.int .i64 jc, .int .i64 jg, .slice (some je) j8.length jj] 28 (0,0)) (aG_ j7.out) hb);replace jb:=am (aN (g:=j5) (o:= .cells #[.int .i64 0, .int .i64 0, .slice none 0 0] 28 (0,0)) (aG_ jb.out) hb);replace j6:=am (aN (g:=j3) (o:= .cells #[.int .i64 jJ, .int .i64 jH, .slice jh jw.length ji] 28 (0,0)) (aG_ j6.out) hb);replace ja:=am (aN (g:=j4) (o:= .cells #[.int .i64 jM, .int .i64 jt, .slice jq jf.length jr] 28 (0,0)) (aG_ ja.out) hb);replace HB:=am (aB oM hb);(try clear hb);(try clear ho0);obtain ⟨Qe,Qf,Qg,Qh,Qi,Qj⟩:=fA jb.out;obtain ⟨z2,z3,ZA⟩:=Kd.gV qr.out;subst ZA))
       refine bodyPost_ret (results_cell_row rfl _ _ j5 28 #[.int .i64 qA, .int .i64 qB, .slice z2 qC.length z3] (0,0) _ rfl (aS (aS (aS jb.out 0 _ rfl) 1 _ rfl) 2 _ rfl) Try.underlying28 rfl (by kernel_rfl)) rfl ?_
       exact ⟨_,uW,uG (Kd.eD (Kd.fD (p:=⟨j5,2,none⟩) (Kd.fD (p:=⟨j5,1,none⟩) (Kd.fD (p:=⟨j5,0,none⟩) (Kd.eD qr.out (fun k_ hk=>(⟨hk,hk.2.2.2.2.1⟩:_∧k_≠j5))) (fun _ hk=>hk.2) (.int .i64 qA)) (fun _ hk=>hk.2) (.int .i64 qB)) (fun _ hk=>hk.2) (.slice z2 qC.length z3)) (fun _ hk=>hk.1.1)),oM⟩
      replace J9:=Bool.eq_false_iff.mpr J9
      subst J9
      rw [if_neg (show ¬ (false=true) by decide)] at H
      obtain ⟨⟨qD,qE,qF⟩,z4,H⟩:=bsm H
      (try dsimp only at H)
      have YU:=am z4
      clear z4
      simp only [Option.some.injEq,Prod.mk.injEq] at H
      obtain ⟨rfl,rfl,rfl⟩:=H
      have Yn:=jF.out
      have Yo:=jG.out
      have Yp:=jk.out
      have Yq:=jy.out
      have Yr:=jm.out
      have Ys:=jD.out
      obtain ⟨Qk,Ql,Qm,Qn,Qo,Qp⟩:=fA j7.out
      have Yt:=jz.out
      have Yu:=jl.out
      have Yv:=jd.out
      have Yw:=jx.out
      obtain ⟨Qq,Qr,Qs,Qt,Qu,Qv⟩:=fA j6.out
      have Yx:=jE.out
      have Yy:=jn.out
      obtain ⟨Qw,Qx,Qy,Qz,QA,QB⟩:=fA ja.out
      go_wp2_with (first|((with_reducible refine aD (f:=58) rfl ?_);refine aM (some 41) rfl rfl Try.func58 (by kernel_rfl) rfl #[.int .i64 jc, .int .i64 jH, .int .i64 jt] rfl dB ?_;(with_reducible refine (dA.calls qX jc jH jt jQ qY _ Y9.out).mono ?_);rintro e w' ⟨rfl,⟨nd,rfl⟩⟩;refine ⟨_,rfl,?_⟩;(try (rw [nV wc];generalize hq_:World.drewN wc _=wc;replace jo:Aside0 (Kd.N k28 28 wc w.heap.size (fun k_=>(w.heap.size≤k_)∧some k_≠(.slice jq jf.length jr:Value).ownBlock∧k_≠j9∧k_≠j5∧k_≠j3∧k_≠j4) (.slice jh jw.length ji) jw):=⟨by rw [← hq_];exact (aN_ jo.out)⟩;replace jp:Aside0 (Kd.N k28 28 wc w.heap.size (fun k_=>(w.heap.size≤k_)∧some k_≠(.slice jh jw.length ji:Value).ownBlock∧k_≠j9∧k_≠j5∧k_≠j3∧k_≠j4) (.slice jq jf.length jr) jf):=⟨by rw [← hq_];exact (aN_ jp.out)⟩;replace j7:Aside0 (wc.heap[j9]?=some (.cells #[.int .i64 jc, .int .i64 jg, .slice (some je) j8.length jj] 28 (0,0))):=⟨by rw [← hq_];exact (aG_ j7.out)⟩;replace jb:Aside0 (wc.heap[j5]?=some (.cells #[.int .i64 0, .int .i64 0, .slice none 0 0] 28 (0,0))):=⟨by rw [← hq_];exact (aG_ jb.out)⟩;replace j6:Aside0 (wc.heap[j3]?=some (.cells #[.int .i64 jJ, .int .i64 jH, .slice jh jw.length ji] 28 (0,0))):=⟨by rw [← hq_];exact (aG_ j6.out)⟩;replace ja:Aside0 (wc.heap[j4]?=some (.cells #[.int .i64 jM, .int .i64 jt, .slice jq jf.length jr] 28 (0,0))):=⟨by rw [← hq_];exact (aG_ ja.out)⟩;replace HB:Aside0 (Below w.heap.size w wc):=⟨by rw [← hq_];exact oM⟩;clear hq_;obtain ⟨QC,QD⟩:=lU j7.out;have QE:wc.cell? ⟨j9,1,none⟩=some (.int .i64 jg):=(aA j7.out 1).trans rfl;have QF:=aG j7.out 1;have QG:wc.cell? ⟨j9,2,none⟩=some (.slice (some je) j8.length jj):=(aA j7.out 2).trans rfl;have QH:=aG j7.out 2;obtain ⟨z5,z6⟩:=lU jb.out;have z7:wc.cell? ⟨j5,1,none⟩=some (.int .i64 0):=(aA jb.out 1).trans rfl;have z8:=aG jb.out 1;have z9:wc.cell? ⟨j5,2,none⟩=some (.slice none 0 0):=(aA jb.out 2).trans rfl;have za:=aG jb.out 2;obtain ⟨zb,zc⟩:=lU j6.out;have zd:wc.cell? ⟨j3,1,none⟩=some (.int .i64 jH):=(aA j6.out 1).trans rfl;have ze:=aG j6.out 1;have zf:wc.cell? ⟨j3,2,none⟩=some (.slice jh jw.length ji):=(aA j6.out 2).trans rfl;have zg:=aG j6.out 2;obtain ⟨zh,zi⟩:=lU ja.out;have zj:wc.cell? ⟨j4,1,none⟩=some (.int .i64 jt):=(aA ja.out 1).trans rfl;have zk:=aG ja.out 1;have zl:wc.cell? ⟨j4,2,none⟩=some (.slice jq jf.length jr):=(aA ja.out 2).trans rfl;have zm:=aG ja.out 2)))|((with_reducible refine aD (f:=59) rfl ?_);refine aM (some 45) rfl rfl Try.func59 (by kernel_rfl) rfl #[.int .i64 jQ, .int .i64 0, .int .i64 99999] rfl dB ?_;(with_reducible refine (dL.calls jQ 0 99999 false _ Ya.out).mono ?_);rintro e w' ⟨rfl,⟨nd,rfl⟩⟩;refine ⟨_,rfl,?_⟩;(try (rw [nV wc];generalize hq_:World.drewN wc _=wc;replace jo:Aside0 (Kd.N k28 28 wc w.heap.size (fun k_=>(w.heap.size≤k_)∧some k_≠(.slice jq jf.length jr:Value).ownBlock∧k_≠j9∧k_≠j5∧k_≠j3∧k_≠j4) (.slice jh jw.length ji) jw):=⟨by rw [← hq_];exact (aN_ jo.out)⟩;replace jp:Aside0 (Kd.N k28 28 wc w.heap.size (fun k_=>(w.heap.size≤k_)∧some k_≠(.slice jh jw.length ji:Value).ownBlock∧k_≠j9∧k_≠j5∧k_≠j3∧k_≠j4) (.slice jq jf.length jr) jf):=⟨by rw [← hq_];exact (aN_ jp.out)⟩;replace j7:Aside0 (wc.heap[j9]?=some (.cells #[.int .i64 jc, .int .i64 jg, .slice (some je) j8.length jj] 28 (0,0))):=⟨by rw [← hq_];exact (aG_ j7.out)⟩;replace jb:Aside0 (wc.heap[j5]?=some (.cells #[.int .i64 0, .int .i64 0, .slice none 0 0] 28 (0,0))):=⟨by rw [← hq_];exact (aG_ jb.out)⟩;replace j6:Aside0 (wc.heap[j3]?=some (.cells #[.int .i64 jJ, .int .i64 jH, .slice jh jw.length ji] 28 (0,0))):=⟨by rw [← hq_];exact (aG_ j6.out)⟩;replace ja:Aside0 (wc.heap[j4]?=some (.cells #[.int .i64 jM, .int .i64 jt, .slice jq jf.length jr] 28 (0,0))):=⟨by rw [← hq_];exact (aG_ ja.out)⟩;replace HB:Aside0 (Below w.heap.size w wc):=⟨by rw [← hq_];exact oM⟩;clear hq_;obtain ⟨zn,zo⟩:=lU j7.out;have zp:wc.cell? ⟨j9,1,none⟩=some (.int .i64 jg):=(aA j7.out 1).trans rfl;have zq:=aG j7.out 1;have zr:wc.cell? ⟨j9,2,none⟩=some (.slice (some je) j8.length jj):=(aA j7.out 2).trans rfl;have zs:=aG j7.out 2;obtain ⟨zt,zu⟩:=lU jb.out;have zv:wc.cell? ⟨j5,1,none⟩=some (.int .i64 0):=(aA jb.out 1).trans rfl;have zw:=aG jb.out 1;have zx:wc.cell? ⟨j5,2,none⟩=some (.slice none 0 0):=(aA jb.out 2).trans rfl;have zy:=aG jb.out 2;obtain ⟨zz,zA⟩:=lU j6.out;have zB:wc.cell? ⟨j3,1,none⟩=some (.int .i64 jH):=(aA j6.out 1).trans rfl;have zC:=aG j6.out 1;have zD:wc.cell? ⟨j3,2,none⟩=some (.slice jh jw.length ji):=(aA j6.out 2).trans rfl;have zE:=aG j6.out 2;obtain ⟨zF,zG⟩:=lU ja.out;have zH:wc.cell? ⟨j4,1,none⟩=some (.int .i64 jt):=(aA ja.out 1).trans rfl;have zI:=aG ja.out 1;have zJ:wc.cell? ⟨j4,2,none⟩=some (.slice jq jf.length jr):=(aA ja.out 2).trans rfl;have zK:=aG ja.out 2)))|((with_reducible refine aD (f:=60) rfl ?_);refine aM (some 52) rfl rfl Try.func60 (by kernel_rfl) rfl #[.int .i64 jc, .agg #[.int .i64 jJ, .int .i64 jH, .slice jh jw.length ji], .agg #[.int .i64 jM, .int .i64 jt, .slice jq jf.length jr]] rfl dB ?_;(with_reducible refine (kF.calls jc jJ jH (fun k_=>((w.heap.size≤k_)∧(some k_≠(.slice jq jf.length jr:Value).ownBlock∧(k_≠j9∧(k_≠j5∧(k_≠j3∧k_≠j4)))))) _ _ jw jM jt (fun k_=>((w.heap.size≤k_)∧(some k_≠(.slice jh jw.length ji:Value).ownBlock∧(k_≠j9∧(k_≠j5∧(k_≠j3∧k_≠j4)))))) _ _ jf qD qE qF _ ?side1 ?side2 YU.out).mono ?_);(case side1=>exact Kd.N_V (jo.out));(case side2=>exact Kd.N_V (jp.out));rintro e U6 ⟨YV,rfl,ho0,hb⟩;refine ⟨_,rfl,?_⟩;replace jo:=am (Kd.mG (aN_ jo.out) (by first|exact Kd.iT ho0|exact Kd.iT (Kd.R_N ho0)) hb);replace jp:=am (Kd.mG (aN_ jp.out) (by first|exact Kd.iT ho0|exact Kd.iT (Kd.R_N ho0)) hb);have qs:=am (Kd.iF (Kd.eD (ok':=fun k_=>(w.heap.size≤k_)∧k_≠j9∧k_≠j5∧k_≠j3∧k_≠j4) ho0 (fun k_ hk_=>⟨Or.elim hk_ (fun hs_=>Or.elim hs_ (fun hs_=>hs_.1) (fun hs_=>hs_.1)) (fun hn_=>(Nat.le_trans (aQ oM) hn_)),Or.elim hk_ (fun hs_=>Or.elim hs_ (fun hs_=>hs_.2.2.1) (fun hs_=>hs_.2.2.1)) (fun hn_=>(Kd.iA (g:=j9) (o:= .cells #[.int .i64 jc, .int .i64 jg, .slice (some je) j8.length jj] 28 (0,0)) (aG_ j7.out) k_ hn_)),Or.elim hk_ (fun hs_=>Or.elim hs_ (fun hs_=>hs_.2.2.2.1) (fun hs_=>hs_.2.2.2.1)) (fun hn_=>(Kd.iA (g:=j5) (o:= .cells #[.int .i64 0, .int .i64 0, .slice none 0 0] 28 (0,0)) (aG_ jb.out) k_ hn_)),Or.elim hk_ (fun hs_=>Or.elim hs_ (fun hs_=>hs_.2.2.2.2.1) (fun hs_=>hs_.2.2.2.2.1)) (fun hn_=>(Kd.iA (g:=j3) (o:= .cells #[.int .i64 jJ, .int .i64 jH, .slice jh jw.length ji] 28 (0,0)) (aG_ j6.out) k_ hn_)),Or.elim hk_ (fun hs_=>Or.elim hs_ (fun hs_=>hs_.2.2.2.2.2) (fun hs_=>hs_.2.2.2.2.2)) (fun hn_=>(Kd.iA (g:=j4) (o:= .cells #[.int .i64 jM, .int .i64 jt, .slice jq jf.length jr] 28 (0,0)) (aG_ ja.out) k_ hn_))⟩)) (aQ oM));replace j7:=am (aN (g:=j9) (o:= .cells #[.int .i64 jc, .int .i64 jg, .slice (some je) j8.length jj] 28 (0,0)) (aG_ j7.out) hb);replace jb:=am (aN (g:=j5) (o:= .cells #[.int .i64 0, .int .i64 0, .slice none 0 0] 28 (0,0)) (aG_ jb.out) hb);replace j6:=am (aN (g:=j3) (o:= .cells #[.int .i64 jJ, .int .i64 jH, .slice jh jw.length ji] 28 (0,0)) (aG_ j6.out) hb);replace ja:=am (aN (g:=j4) (o:= .cells #[.int .i64 jM, .int .i64 jt, .slice jq jf.length jr] 28 (0,0)) (aG_ ja.out) hb);replace HB:=am (aB oM hb);(try clear hb);(try clear ho0);obtain ⟨QI,QJ,QK,QL,QM,QN⟩:=fA jb.out;obtain ⟨zL,zM,ZB⟩:=Kd.gV qs.out;subst ZB))
      refine bodyPost_ret (results_cell_row rfl _ _ j5 28 #[.int .i64 qD, .int .i64 qE, .slice zL qF.length zM] (0,0) _ rfl (aS (aS (aS jb.out 0 _ rfl) 1 _ rfl) 2 _ rfl) Try.underlying28 rfl (by kernel_rfl)) rfl ?_
      exact ⟨_,uW,uG (Kd.eD (Kd.fD (p:=⟨j5,2,none⟩) (Kd.fD (p:=⟨j5,1,none⟩) (Kd.fD (p:=⟨j5,0,none⟩) (Kd.eD qs.out (fun k_ hk=>(⟨hk,hk.2.2.1⟩:_∧k_≠j5))) (fun _ hk=>hk.2) (.int .i64 qD)) (fun _ hk=>hk.2) (.int .i64 qE)) (fun _ hk=>hk.2) (.slice zL qF.length zM)) (fun _ hk=>hk.1.1)),oM⟩
     replace J8:=Bool.eq_false_iff.mpr J8
     subst J8
     rw [if_neg (show ¬ (false=true) by decide)] at H
     obtain ⟨⟨qG,qH,qI⟩,zN,H⟩:=bsm H
     (try dsimp only at H)
     have YW:=am zN
     clear zN
     simp only [Option.some.injEq,Prod.mk.injEq] at H
     obtain ⟨rfl,rfl,rfl⟩:=H
     have Yz:=jF.out
     have YA:=jG.out
     have YB:=jk.out
     have YC:=jy.out
     have YD:=jm.out
     have YE:=jD.out
     obtain ⟨QO,QP,QQ,QR,QS,QT⟩:=fA j7.out
     have YF:=jz.out
     have YG:=jl.out
     have YH:=jd.out
     have YI:=jx.out
     obtain ⟨QU,QV,QW,QX,QY,QZ⟩:=fA j6.out
     have YJ:=jE.out
     have YK:=jn.out
     obtain ⟨Z0,Z1,Z2,Z3,Z4,Z5⟩:=fA ja.out
     go_wp2_with (first|((with_reducible refine aD (f:=60) rfl ?_);refine aM (some 52) rfl rfl Try.func60 (by kernel_rfl) rfl #[.int .i64 jc, .agg #[.int .i64 jJ, .int .i64 jH, .slice jh jw.length ji], .agg #[.int .i64 jM, .int .i64 jt, .slice jq jf.length jr]] rfl dB ?_;(with_reducible refine (kF.calls jc jJ jH (fun k_=>((w.heap.size≤k_)∧(some k_≠(.slice jq jf.length jr:Value).ownBlock∧(k_≠j9∧(k_≠j5∧(k_≠j3∧k_≠j4)))))) _ _ jw jM jt (fun k_=>((w.heap.size≤k_)∧(some k_≠(.slice jh jw.length ji:Value).ownBlock∧(k_≠j9∧(k_≠j5∧(k_≠j3∧k_≠j4)))))) _ _ jf qG qH qI _ ?side1 ?side2 YW.out).mono ?_);(case side1=>exact Kd.N_V (jo.out));(case side2=>exact Kd.N_V (jp.out));rintro e U7 ⟨YX,rfl,ho0,hb⟩;refine ⟨_,rfl,?_⟩;replace jo:=am (Kd.mG (aN_ jo.out) (by first|exact Kd.iT ho0|exact Kd.iT (Kd.R_N ho0)) hb);replace jp:=am (Kd.mG (aN_ jp.out) (by first|exact Kd.iT ho0|exact Kd.iT (Kd.R_N ho0)) hb);have qt:=am (Kd.iF (Kd.eD (ok':=fun k_=>(w.heap.size≤k_)∧k_≠j9∧k_≠j5∧k_≠j3∧k_≠j4) ho0 (fun k_ hk_=>⟨Or.elim hk_ (fun hs_=>Or.elim hs_ (fun hs_=>hs_.1) (fun hs_=>hs_.1)) (fun hn_=>(Nat.le_trans (aQ oM) hn_)),Or.elim hk_ (fun hs_=>Or.elim hs_ (fun hs_=>hs_.2.2.1) (fun hs_=>hs_.2.2.1)) (fun hn_=>(Kd.iA (g:=j9) (o:= .cells #[.int .i64 jc, .int .i64 jg, .slice (some je) j8.length jj] 28 (0,0)) (aG_ j7.out) k_ hn_)),Or.elim hk_ (fun hs_=>Or.elim hs_ (fun hs_=>hs_.2.2.2.1) (fun hs_=>hs_.2.2.2.1)) (fun hn_=>(Kd.iA (g:=j5) (o:= .cells #[.int .i64 0, .int .i64 0, .slice none 0 0] 28 (0,0)) (aG_ jb.out) k_ hn_)),Or.elim hk_ (fun hs_=>Or.elim hs_ (fun hs_=>hs_.2.2.2.2.1) (fun hs_=>hs_.2.2.2.2.1)) (fun hn_=>(Kd.iA (g:=j3) (o:= .cells #[.int .i64 jJ, .int .i64 jH, .slice jh jw.length ji] 28 (0,0)) (aG_ j6.out) k_ hn_)),Or.elim hk_ (fun hs_=>Or.elim hs_ (fun hs_=>hs_.2.2.2.2.2) (fun hs_=>hs_.2.2.2.2.2)) (fun hn_=>(Kd.iA (g:=j4) (o:= .cells #[.int .i64 jM, .int .i64 jt, .slice jq jf.length jr] 28 (0,0)) (aG_ ja.out) k_ hn_))⟩)) (aQ oM));replace j7:=am (aN (g:=j9) (o:= .cells #[.int .i64 jc, .int .i64 jg, .slice (some je) j8.length jj] 28 (0,0)) (aG_ j7.out) hb);replace jb:=am (aN (g:=j5) (o:= .cells #[.int .i64 0, .int .i64 0, .slice none 0 0] 28 (0,0)) (aG_ jb.out) hb);replace j6:=am (aN (g:=j3) (o:= .cells #[.int .i64 jJ, .int .i64 jH, .slice jh jw.length ji] 28 (0,0)) (aG_ j6.out) hb);replace ja:=am (aN (g:=j4) (o:= .cells #[.int .i64 jM, .int .i64 jt, .slice jq jf.length jr] 28 (0,0)) (aG_ ja.out) hb);replace HB:=am (aB oM hb);(try clear hb);(try clear ho0);obtain ⟨Z6,Z7,Z8,Z9,Za,Zb⟩:=fA jb.out;obtain ⟨zO,zP,ZC⟩:=Kd.gV qt.out;subst ZC))
     refine bodyPost_ret (results_cell_row rfl _ _ j5 28 #[.int .i64 qG, .int .i64 qH, .slice zO qI.length zP] (0,0) _ rfl (aS (aS (aS jb.out 0 _ rfl) 1 _ rfl) 2 _ rfl) Try.underlying28 rfl (by kernel_rfl)) rfl ?_
     exact ⟨_,uW,uG (Kd.eD (Kd.fD (p:=⟨j5,2,none⟩) (Kd.fD (p:=⟨j5,1,none⟩) (Kd.fD (p:=⟨j5,0,none⟩) (Kd.eD qt.out (fun k_ hk=>(⟨hk,hk.2.2.1⟩:_∧k_≠j5))) (fun _ hk=>hk.2) (.int .i64 qG)) (fun _ hk=>hk.2) (.int .i64 qH)) (fun _ hk=>hk.2) (.slice zO qI.length zP)) (fun _ hk=>hk.1.1)),oM⟩
  rw [if_neg qR] at H
  exact absurd H (by simp)
 rw [if_neg qO] at H
 exact absurd H (by simp)
theorem aJ.mono_all:∀ k,(∀ a b c,LeO (aJ.l0 k a b c) (aJ.l0 (k + 1) a b c))∧(∀ a,LeO (aJ.f k a) (aJ.f (k + 1) a))∧(∀ s,LeO (dI.f k s) (dI.f (k + 1) s))
 |0=>⟨fun _ _ _ r h=>by simp [aJ.l0] at h,fun _ r h=>by simp [aJ.f] at h,fun _ r h=>by simp [dI.f] at h⟩
 |k + 1=>by
  obtain ⟨i0,i1,i2⟩:=aJ.mono_all k
  refine ⟨fun a b c=>?_,fun a=>?_,fun s=>?_⟩
  ·unfold aJ.l0
   refine LeO.ite (LeO.ite (LeO.bind (i2 _) (fun _=>LeO.ite (i0 _ _ _) (LeO.none _))) (LeO.none _)) (LeO.refl _)
  ·unfold aJ.f
   exact i0 _ _ _
  ·unfold dI.f
   exact LeO.bind (bK.mono _ _ _ _) (fun _=>LeO.bind (i1 _) (fun _=>LeO.bind (i1 _) (fun _=>LeO.refl _)))
theorem aJ.mono:∀ a k,LeO (aJ.f k a) (aJ.f (k + 1) a):=fun a k=>(aJ.mono_all k).2.1 a
abbrev aJ.bF (k:Nat):Prop:=∀ (A0:Option Addr) (c0:Nat) (l0:List S70) (r:List S70) (w:World) (hr0:Kd.C k70 w A0 l0.length l0) (hc0:l0.length≤c0) (h:aJ.f k l0=some r),
  Calls Try.prog 38 #[.slice A0 l0.length c0] w fun e w'=>∃ v0_:Value,e= .returned v0_∧Kd.N k70 70 w' w.heap.size (fun k_=>(w.heap.size≤k_)) v0_ r∧Below w.heap.size w w'
abbrev dI.bF (k:Nat):Prop:=∀ (x:S70) (A5:Option Addr) (c5:Nat) (A6:Option Addr) (c6:Nat) (A7:Option Addr) (c7:Nat) (r:List S70) (w:World) (h5:Kd.C k28 w A5 x.f3.f2.length x.f3.f2) (l5:x.f3.f2.length≤c5) (h6:Kd.C k70 w A6 x.f4.length x.f4) (l6:x.f4.length≤c6) (h7:Kd.C k70 w A7 x.f5.length x.f5) (l7:x.f5.length≤c7) (h:dI.f k x=some r),
  Calls Try.prog 65 #[.agg #[.int .i64 x.f0, .int .i64 x.f1, .int .i64 x.f2, .int .i64 x.f3.f0, .int .i64 x.f3.f1, .slice A5 x.f3.f2.length c5, .slice A6 x.f4.length c6, .slice A7 x.f5.length c7]] w fun e w'=>∃ v0_:Value,e= .returned v0_∧Kd.N k70 70 w' w.heap.size (fun k_=>(w.heap.size≤k_)) v0_ r∧Below w.heap.size w w'
theorem dI.step (k:Nat) (ihA:∀ m,m < k→aJ.bF m):dI.bF k:=by
  intro x A5 c5 A6 c6 A7 c7 r w h5 q5 h6 q6 h7 q7 h
  cases k with
  |zero=>exact absurd h (by simp [dI.f])
  |succ k=>
  simp only [dI.f] at h
  replace h:=Option.bind_eq_some_iff.mp h
  obtain ⟨⟨op,n,la⟩,he,h⟩:=h
  replace h:=Option.bind_eq_some_iff.mp h
  obtain ⟨lb,hb6,h⟩:=h
  replace h:=Option.bind_eq_some_iff.mp h
  obtain ⟨le,hb7,h⟩:=h
  obtain rfl:=Option.some.inj h
  have H5:=am h5
  have H6:=am h6
  have H7:=am h7
  have L5:=am q5
  have L6:=am q6
  have L7:=am q7
  have HE:=am he
  have j3:=am hb6
  have j4:=am hb7
  clear h h5 h6 h7 q5 q6 q7 he hb6 hb7
  go_enter Try.func65,Try.ntmps65
  go_upto_region 1 with (first|((with_reducible refine bL (N:=1) rfl ?_);refine cB (N:=1) rfl rfl (cs:=#[(.int .i64 x.f0),(.int .i64 x.f1),(.int .i64 x.f2),(.int .i64 x.f3.f0),(.int .i64 x.f3.f1),(.slice A5 x.f3.f2.length c5),(.slice A6 x.f4.length c6),(.slice A7 x.f5.length c7)]) (t:=70) rn_ ?_;intro gb hg w1 hbox hb;have GE:=am (hg:_=_);have X:=am hbox;have BW:=am hb;clear hbox hb hg)|fail)
  have GW:Aside0 (w.heap.size≤gb):=⟨Nat.le_of_eq GE.out.symm⟩
  have GL:=am (cK X.out)
  have p3:w1.cell? ⟨gb,3,none⟩=some (.int .i64 x.f3.f0):=aA X.out 3
  have p4:w1.cell? ⟨gb,4,none⟩=some (.int .i64 x.f3.f1):=aA X.out 4
  have p5:w1.cell? ⟨gb,5,none⟩=some (.slice A5 x.f3.f2.length c5):=aA X.out 5
  go_upto_region 2 with (first|((with_reducible refine aD (f:=29) rfl ?_);refine aM (some 6) rfl rfl Try.func29 (by kernel_rfl) rfl #[.agg #[(.int .i64 x.f3.f0),(.int .i64 x.f3.f1),(.slice A5 x.f3.f2.length c5)]] rfl (by (try simp only [List.map_toArray,List.map_cons,List.map_nil]);first|done|rfl) ?_;(with_reducible refine (bK.calls k _ _ A5 c5 _ op n la _ (Kd.aH H5.out BW.out) L5.out HE.out).mono ?_);rintro e w2 ⟨v5,rfl,hn,hb⟩;refine ⟨_,rfl,?_⟩;obtain ⟨B5,d5,rfl⟩:=Kd.gV hn;have N5:=am (Kd.eD (ok':=fun q=>w.heap.size≤q∧q≠gb) (Kd.iF hn BW.out.size) (fun q hq=>⟨Nat.le_trans BW.out.size hq,fun e=>by have:=GL.out;omega⟩));have X2:=am (aN X.out hb);have B2:=am (aB BW.out hb);clear hn hb p3 p4 p5 X BW;have p3:w2.cell? ⟨gb,3,none⟩=some (.int .i64 x.f3.f0):=aA X2.out 3;have p4:w2.cell? ⟨gb,4,none⟩=some (.int .i64 x.f3.f1):=aA X2.out 4;have p5:w2.cell? ⟨gb,5,none⟩=some (.slice A5 x.f3.f2.length c5):=aA X2.out 5;have f3:=aG X2.out 3;have f4:=aG X2.out 4;have f5:=aG X2.out 5)|fail)
  have X:=am (aS (cs':=#[(.int .i64 x.f0),(.int .i64 x.f1),(.int .i64 x.f2),(.int .i64 op),(.int .i64 n),(.slice B5 la.length d5),(.slice A6 x.f4.length c6),(.slice A7 x.f5.length c7)]) (aS (cs':=#[(.int .i64 x.f0),(.int .i64 x.f1),(.int .i64 x.f2),(.int .i64 op),(.int .i64 n),(.slice A5 x.f3.f2.length c5),(.slice A6 x.f4.length c6),(.slice A7 x.f5.length c7)]) (aS (cs':=#[(.int .i64 x.f0),(.int .i64 x.f1),(.int .i64 x.f2),(.int .i64 op),(.int .i64 x.f3.f1),(.slice A5 x.f3.f2.length c5),(.slice A6 x.f4.length c6),(.slice A7 x.f5.length c7)]) X2.out 3 (.int .i64 op) rfl) 4 (.int .i64 n) rfl) 5 (.slice B5 la.length d5) rfl)
  have BW:=am (below_set (j:=5) (v:=(.slice B5 la.length d5)) (below_set (j:=4) (v:=(.int .i64 n)) (below_set (j:=3) (v:=(.int .i64 op)) B2.out GW.out) GW.out) GW.out)
  have N5_:=am (Kd.fD (p:=⟨gb,5,none⟩) (Kd.fD (p:=⟨gb,4,none⟩) (Kd.fD (p:=⟨gb,3,none⟩) N5.out (fun _ hq=>hq.2) (.int .i64 op)) (fun _ hq=>hq.2) (.int .i64 n)) (fun _ hq=>hq.2) (.slice B5 la.length d5))
  clear p3 p4 p5 f3 f4 f5 X2 B2 N5
  generalize (((w2.setCell ⟨gb,3,none⟩ (.int .i64 op)).setCell ⟨gb,4,none⟩ (.int .i64 n)).setCell ⟨gb,5,none⟩ (.slice B5 la.length d5))=w3 at X BW N5_ ⊢
  have N5:=N5_
  clear N5_
  have p6:w3.cell? ⟨gb,6,none⟩=some (.slice A6 x.f4.length c6):=aA X.out 6
  go_upto_region 3 with (first|((with_reducible refine aD (f:=38) rfl ?_);refine aM (some 10) rfl rfl Try.func38 (by kernel_rfl) rfl #[.slice A6 x.f4.length c6] rfl (by (try simp only [List.map_toArray,List.map_cons,List.map_nil]);first|done|rfl) ?_;(with_reducible refine (ihA k (Nat.lt_succ_self k) A6 c6 x.f4 lb _ (Kd.aH H6.out BW.out) L6.out j3.out).mono ?_);rintro e w4 ⟨v5,rfl,hn,hb⟩;refine ⟨_,rfl,?_⟩;obtain ⟨B6,d6,rfl⟩:=Kd.gV hn;have GL2:=cK X.out;have hle:=BW.out.size;have N6:=am (Kd.eD (ok':=fun q=>w.heap.size≤q∧q≠gb) (Kd.iF hn hle) (fun q hq=>⟨Nat.le_trans hle hq,fun e=>by omega⟩));have tN5:=am (Kd.fT N5.out hb);have X2:=am (aN X.out hb);have B2:=am (aB BW.out hb);clear hn hb hle GL2 p6 X BW N5;have N5:=tN5;clear tN5;have p6:w4.cell? ⟨gb,6,none⟩=some (.slice A6 x.f4.length c6):=aA X2.out 6;have f6:=aG X2.out 6)|fail)
  have X:=am (aS (cs':=#[(.int .i64 x.f0),(.int .i64 x.f1),(.int .i64 x.f2),(.int .i64 op),(.int .i64 n),(.slice B5 la.length d5),(.slice B6 lb.length d6),(.slice A7 x.f5.length c7)]) X2.out 6 (.slice B6 lb.length d6) rfl)
  have BW:=am (below_set (j:=6) (v:=(.slice B6 lb.length d6)) B2.out GW.out)
  have tN5:=am (Kd.fD (p:=⟨gb,6,none⟩) N5.out (fun _ hq=>hq.2) (.slice B6 lb.length d6))
  have tN6:=am (Kd.fD (p:=⟨gb,6,none⟩) N6.out (fun _ hq=>hq.2) (.slice B6 lb.length d6))
  clear p6 f6 X2 B2 N5 N6
  generalize (w4.setCell ⟨gb,6,none⟩ (.slice B6 lb.length d6))=w5 at X BW tN5 tN6 ⊢
  have N5:=tN5
  have N6:=tN6
  clear tN5 tN6
  have p7:w5.cell? ⟨gb,7,none⟩=some (.slice A7 x.f5.length c7):=aA X.out 7
  go_upto_region 4 with (first|((with_reducible refine aD (f:=38) rfl ?_);refine aM (some 14) rfl rfl Try.func38 (by kernel_rfl) rfl #[.slice A7 x.f5.length c7] rfl (by (try simp only [List.map_toArray,List.map_cons,List.map_nil]);first|done|rfl) ?_;(with_reducible refine (ihA k (Nat.lt_succ_self k) A7 c7 x.f5 le _ (Kd.aH H7.out BW.out) L7.out j4.out).mono ?_);rintro e w6 ⟨v5,rfl,hn,hb⟩;refine ⟨_,rfl,?_⟩;obtain ⟨B7,d7,rfl⟩:=Kd.gV hn;have GL2:=cK X.out;have hle:=BW.out.size;have N7:=am (Kd.eD (ok':=fun q=>w.heap.size≤q∧q≠gb) (Kd.iF hn hle) (fun q hq=>⟨Nat.le_trans hle hq,fun e=>by omega⟩));have tN5:=am (Kd.fT N5.out hb);have tN6:=am (Kd.fT N6.out hb);have X2:=am (aN X.out hb);have B2:=am (aB BW.out hb);clear hn hb hle GL2 p7 X BW N5 N6;have N5:=tN5;clear tN5;have N6:=tN6;clear tN6;have p7:w6.cell? ⟨gb,7,none⟩=some (.slice A7 x.f5.length c7):=aA X2.out 7;have f7:=aG X2.out 7)|fail)
  have X:=am (aS (cs':=#[(.int .i64 x.f0),(.int .i64 x.f1),(.int .i64 x.f2),(.int .i64 op),(.int .i64 n),(.slice B5 la.length d5),(.slice B6 lb.length d6),(.slice B7 le.length d7)]) X2.out 7 (.slice B7 le.length d7) rfl)
  have BW:=am (below_set (j:=7) (v:=(.slice B7 le.length d7)) B2.out GW.out)
  have tN5:=am (Kd.fD (p:=⟨gb,7,none⟩) N5.out (fun _ hq=>hq.2) (.slice B7 le.length d7))
  have tN6:=am (Kd.fD (p:=⟨gb,7,none⟩) N6.out (fun _ hq=>hq.2) (.slice B7 le.length d7))
  have tN7:=am (Kd.fD (p:=⟨gb,7,none⟩) N7.out (fun _ hq=>hq.2) (.slice B7 le.length d7))
  clear p7 f7 X2 B2 N5 N6 N7
  generalize (w6.setCell ⟨gb,7,none⟩ (.slice B7 le.length d7))=w7 at X BW tN5 tN6 tN7 ⊢
  have N5:=tN5
  have N6:=tN6
  have N7:=tN7
  clear tN5 tN6 tN7
  have p0:w7.cell? ⟨gb,0,none⟩=some (.int .i64 x.f0):=aA X.out 0
  have p1:w7.cell? ⟨gb,1,none⟩=some (.int .i64 x.f1):=aA X.out 1
  have p2:w7.cell? ⟨gb,2,none⟩=some (.int .i64 x.f2):=aA X.out 2
  have p3:w7.cell? ⟨gb,3,none⟩=some (.int .i64 op):=aA X.out 3
  have p4:w7.cell? ⟨gb,4,none⟩=some (.int .i64 n):=aA X.out 4
  have p5:w7.cell? ⟨gb,5,none⟩=some (.slice B5 la.length d5):=aA X.out 5
  have p6:w7.cell? ⟨gb,6,none⟩=some (.slice B6 lb.length d6):=aA X.out 6
  have p7:w7.cell? ⟨gb,7,none⟩=some (.slice B7 le.length d7):=aA X.out 7
  have HX:=X
  clear X GE GL GW HE j3 j4 H5 H6 H7 L5 L6 L7 ihA
  by_cases k2:x.f0=2 <;> by_cases k3:x.f0=3 <;> by_cases k0:op=0 <;> by_cases kn:n=0
  all_goals first
    |(exact absurd (k2.symm.trans k3) (by decide))
    | ((first|have e2:(x.f0 == 2)=true:=beq_iff_eq.mpr k2|have e2:(x.f0 == 2)=false:=beq_eq_false_iff_ne.mpr k2)
       (first|have e3:(x.f0 == 3)=true:=beq_iff_eq.mpr k3|have e3:(x.f0 == 3)=false:=beq_eq_false_iff_ne.mpr k3)
       (first|have e0:(op == 0)=true:=beq_iff_eq.mpr k0|have e0:(op == 0)=false:=beq_eq_false_iff_ne.mpr k0)
       (first|have en:(n == 0)=true:=beq_iff_eq.mpr kn|have en:(n == 0)=false:=beq_eq_false_iff_ne.mpr kn)
       (first|have em:(n != 0)=true:=bne_iff_ne.mpr kn|have em:(n != 0)=false:=bne_eq_false_iff_eq.mpr kn)
       clear k2 k3 k0 kn
       go_wp2_with (first|((with_reducible refine bL (N:=54) rfl ?_);refine Kd.BF k70 w7.heap.size 70 rfl (N':=54) rfl (w0:=w7) (xs:=([]:List S70)) (inner:=[]) (ok:=fun q=>w7.heap.size≤q) (okp:=fun _=>False) ?hr (eB.none _ _) (fun _ hq=>hq.elim) (Nat.le_refl _) (Below.refl _ _) (Nat.le_refl _) (by simp) ?_;(case hr=>first|(go_simp;done)|(go_simp;rfl));intro v9 w8 hn hb _ _;obtain ⟨B9,d9,rfl⟩:=Kd.gV hn;have N9:=am hn;have B9_:=am hb;clear hn hb)|((with_reducible refine bL (N:=56) rfl ?_);refine Kd.BF k70 w7.heap.size 70 rfl (N':=56) rfl (w0:=w7) (xs:=[(⟨x.f0,x.f1,x.f2,⟨op,n,la⟩,lb,le⟩:S70)]) (inner:=[(.int .i64 x.f0),(.int .i64 x.f1),(.int .i64 x.f2),(.int .i64 op),(.int .i64 n),(.slice B5 la.length d5),(.slice B6 lb.length d6),(.slice B7 le.length d7)]) (ok:=fun q=>w.heap.size≤q) (okp:=fun q=>w.heap.size≤q∧q≠gb) ?hr (eB.c8 (show Kd.FK k70 _ _ (⟨x.f0,x.f1,x.f2,⟨op,n,la⟩,lb,le⟩:S70) [(.int .i64 x.f0),(.int .i64 x.f1),(.int .i64 x.f2),(.int .i64 op),(.int .i64 n),(.slice B5 la.length d5),(.slice B6 lb.length d6),(.slice B7 le.length d7)] from MI _ _ (⟨x.f0,x.f1,x.f2,⟨op,n,la⟩,lb,le⟩:S70) (Kd.iM N5.out).2.1 (Kd.N_F N5.out) (Kd.iM N6.out).2.1 (Kd.N_F N6.out) (Kd.iM N7.out).2.1 (Kd.N_F N7.out)) (eB.none _ _)) (fun _ hq=>hq.1) BW.out.size (Below.refl _ _) (Nat.le_refl _) (by simp) ?_;(case hr=>first|(go_simp;done)|(go_simp;rfl));intro v9 w8 hn hb _ _;obtain ⟨B9,d9,rfl⟩:=Kd.gV hn;have N9:=am hn;have B9_:=am hb;clear hn hb)|fail)
       go_ret
       first
       |exact ⟨_,rfl,by (simp only [xR,e2,e3,e0,en,em,Bool.true_and,Bool.and_true,Bool.false_and,Bool.and_false,if_true,if_false,Bool.false_eq_true]);exact (Kd.eD N6.out (fun _ hq=>hq.1)),BW.out⟩
       |exact ⟨_,rfl,by (simp only [xR,e2,e3,e0,en,em,Bool.true_and,Bool.and_true,Bool.false_and,Bool.and_false,if_true,if_false,Bool.false_eq_true]);exact (Kd.eD N7.out (fun _ hq=>hq.1)),BW.out⟩
       |exact ⟨_,rfl,by (simp only [xR,e2,e3,e0,en,em,Bool.true_and,Bool.and_true,Bool.false_and,Bool.and_false,if_true,if_false,Bool.false_eq_true]);exact (Kd.eD (Kd.iF N9.out BW.out.size) (fun _ hq=>Nat.le_trans BW.out.size hq)),(aB BW.out B9_.out)⟩
       | exact ⟨_,rfl,by (simp only [xR,e2,e3,e0,en,em,Bool.true_and,Bool.and_true,Bool.false_and,Bool.and_false,if_true,if_false,Bool.false_eq_true]);exact (Kd.iF N9.out BW.out.size),(aB BW.out B9_.out)⟩)
theorem aJ.step (k:Nat) (ihT:∀ m,m < k→dI.bF m):aJ.bF k:=by
 intro A0 c0 l0 r w hr0 hc0 h
 cases k with
 |zero=>exact absurd h (by simp [aJ.f])
 |succ k=>
 simp only [aJ.f] at h
 have j6:=am hr0
 have ja:=am hc0
 have H':=am h
 clear hr0 hc0 h
 go_enter Try.func38,Try.ntmps38
 go_wp2_with (first|((with_reducible refine bL (N:=5) rfl ?_);refine Kd.BF k70 w.heap.size 70 rfl (N':=5) rfl (w0:=w) (xs:=([]:List S70)) (inner:=[]) (ok:=fun q=>w.heap.size≤q) (okp:=fun _=>False) ?hr (eB.none _ _) (fun _ hq=>hq.elim) (Nat.le_refl _) (Below.refl _ _) (Nat.le_refl _) (by simp) ?_;(case hr=>first|(go_simp;done)|(go_simp;rfl));intro v3 w4 hn hb hg_ hnew_;clear hg_ hnew_;have HO:=am hn;have HB:=am hb;clear hn hb)|fail)
 go_loopg [3,4] k (fun kq v3 v4 w'=>∃ (x3:List S70) (x4:Int),v4= .int .i64 x4∧Aside0 (aJ.l0 kq l0 x3 x4=some r)∧Aside0 (kq≤k)∧Aside0 (Kd.N k70 70 w' w.heap.size (fun q=>w.heap.size≤q) v3 x3)∧Aside0 (Below w.heap.size w w'))
 case atStart=>exact ⟨_,0,rfl,H',⟨Nat.le_refl _⟩,HO,HB⟩
 case round=>
  clear H'
  (try clear HO HB)
  obtain ⟨x3,x4,rfl,HA,j4,HO,HB⟩:=hrel
  obtain ⟨B3,d3,rfl⟩:=Kd.gV HO.out
  cases gk with
  |zero=>exact absurd HA.out (by simp [aJ.l0])
  |succ k1=>
   have H:=HA.out
   clear HA
   simp only [aJ.l0] at H
   by_cases c6:x4 < (l0.length:Int)
   ·rw [if_pos c6] at H
    by_cases c7:0≤x4
    ·rw [if_pos c7] at H
     obtain ⟨y,hs,H⟩:=bsm H
     by_cases c9:x3.length + y.length < 1256584717458
     ·rw [if_pos c9] at H
      have HS:=am hs
      have H':=am H
      clear hs H
      obtain ⟨ad,A5,c5,A6,d6,A7,d7,e0,x0,x1,x2,y3,y4,y5,y6,y7,l5,g5,l6,g6,l7,g7⟩:=dJ j6.out x4 c7 c6
      cases e0
      replace x0:=(HB.out.cell (World.block_lt_of_cell? w _ x0)).trans x0
      replace x1:=(HB.out.cell (World.block_lt_of_cell? w _ x1)).trans x1
      replace x2:=(HB.out.cell (World.block_lt_of_cell? w _ x2)).trans x2
      replace y3:=(HB.out.cell (World.block_lt_of_cell? w _ y3)).trans y3
      replace y4:=(HB.out.cell (World.block_lt_of_cell? w _ y4)).trans y4
      replace y5:=(HB.out.cell (World.block_lt_of_cell? w _ y5)).trans y5
      replace y6:=(HB.out.cell (World.block_lt_of_cell? w _ y6)).trans y6
      replace y7:=(HB.out.cell (World.block_lt_of_cell? w _ y7)).trans y7
      have G5:=am (Kd.aH g5 HB.out)
      have G6:=am (Kd.aH g6 HB.out)
      have G7:=am (Kd.aH g7 HB.out)
      have L5:=am l5
      have L6:=am l6
      have L7:=am l7
      have C9:=am c9
      have j7:decide (x4 < (l0.length:Int))=true:=decide_eq_true c6
      have q0:=eq_true c7
      have q1:=eq_true c6
      clear g5 g6 g7 l5 l6 l7 c6 c7 c9
      go_wp2_with (first|((with_reducible refine aD (f:=65) rfl ?_);refine aM (some 17) rfl rfl Try.func65 (by kernel_rfl) rfl #[.agg #[(.int .i64 (aC l0 x4).f0),(.int .i64 (aC l0 x4).f1),(.int .i64 (aC l0 x4).f2),(.int .i64 (aC l0 x4).f3.f0),(.int .i64 (aC l0 x4).f3.f1),(.slice A5 (aC l0 x4).f3.f2.length c5),(.slice A6 (aC l0 x4).f4.length d6),(.slice A7 (aC l0 x4).f5.length d7)]] rfl (by (try simp only [List.map_toArray,List.map_cons,List.map_nil]);first|done|rfl) ?_;(with_reducible refine (ihT k1 (by have:=j4.out;omega) (aC l0 x4) A5 c5 A6 d6 A7 d7 y _ G5.out L5.out G6.out L6.out G7.out L7.out HS.out).mono ?_);rintro e jb ⟨jc,rfl,hn,hb⟩;refine ⟨_,rfl,?_⟩;obtain ⟨j8,j9,rfl⟩:=Kd.gV hn;have j5:=am hn;have OL:=am (Kd.IE HO.out);have OE:=am (Kd.fT HO.out hb);have j3:=am (aB HB.out hb);have SZ:=am HB.out.size;clear hn hb HO HB)|((with_reducible refine bL (N:=18) rfl ?_);refine Kd.wT k70 (w0:=w) w.heap.size rfl (.tmp 12) (.tmp 17) 37 70 (.agg #[(.int .i64 0),(.int .i64 0),(.int .i64 0),(.int .i64 0),(.int .i64 0),(.slice none 0 0),(.slice none 0 0),(.slice none 0 0)]) 112 rfl Try.underlying37 wE rfl (by decide) (by omega) (.slice B3 x3.length d3) x3 y j8 y.length j9 (fun q=>w.heap.size≤q) _ rfl rfl OE.out (Kd.N_F j5.out) ?aK ?aF j3.out j3.out.size ?aL ?_;(case aK=>exact fun q hq=>⟨Nat.le_trans SZ.out hq,fun e=>by have:=OL.out q e.symm;omega⟩);(case aF=>exact fun q hq=>Nat.le_trans j3.out.size hq);(case aL=>(have:=C9.out;omega));intro jd je hn hb hg_ hat_;clear hg_ hat_;have HO:=am hn;have HB:=am hb;clear hn hb OE OL j3 j5 SZ)|fail)
      go_roundg k1
      case measure=>have:=j4.out;omega
      case rel=>exact ⟨_,wrap64 (x4 + 1),sd_,H',⟨by have:=j4.out;omega⟩,HO,HB⟩
     rw [if_neg c9] at H
     exact absurd H (by simp)
    rw [if_neg c7] at H
    exact absurd H (by simp)
   rw [if_neg c6] at H
   have j7:decide (x4 < (l0.length:Int))=false:=decide_eq_false c6
   clear c6
   obtain rfl:=Option.some.inj H
   go_wp2
   go_ret
   exact ⟨_,rfl,HO.out,HB.out⟩
theorem aJ.calls_all (k:Nat):aJ.bF k∧dI.bF k:=by
 induction k using Nat.strongRecOn with
 | _ k ih=>exact ⟨aJ.step k (fun m hm=>(ih m hm).2),dI.step k (fun m hm=>(ih m hm).1)⟩
theorem aJ.calls (k:Nat):aJ.bF k:=(aJ.calls_all k).1
theorem dW.mono:∀ a0 k,LeO (dW.f k a0) (dW.f (k + 1) a0):=by
 intro a0 k
 unfold dW.f
 have m0:=@dO.mono
 have m1:=@aJ.mono
 exact mo_
theorem dW.calls (k:Nat) (A0:Option Addr) (c0:Nat) (l0:List (S70)) (r1:List (S70)) (r2:Bool) (w:World) (hr0:Kd.C k70 w A0 l0.length l0) (hc0:l0.length≤c0) (h:dW.f k l0=some (r1,r2)):
  Calls Try.prog 14 #[.slice A0 l0.length c0] w fun e w'=>∃ v0_:Value,e= .returned (.tuple #[v0_, .bool r2])∧Kd.N k70 70 w' w.heap.size (fun k_=>(w.heap.size≤k_)) v0_ r1∧Below w.heap.size w w':=by
 have j4:=am hr0
 have j5:=am hc0
 clear hr0 hc0
 have HB:=am (Below.refl w.heap.size w)
 unfold dW.f at h
 have H:=h
 clear h
 obtain ⟨j8,A2,H⟩:=bsa H
 (try dsimp only at H)
 by_cases c3:j8=true
 ·subst c3
  rw [if_pos rfl] at H
  obtain ⟨j9,A4,H⟩:=bsa H
  (try dsimp only at H)
  simp only [Option.some.injEq,Prod.mk.injEq] at H
  obtain ⟨rfl,rfl⟩:=H
  go_enter Try.func14,Try.ntmps14
  go_wp2_with (first|((with_reducible refine aD (f:=37) rfl ?_);refine aM (some 5) rfl rfl Try.func37 (by kernel_rfl) rfl #[.slice A0 l0.length c0] rfl dB ?_;(with_reducible refine (dO.calls k _ _ l0 true _ (aC_ j4.out) j5.out A2.out).mono ?_);rintro e w5 ⟨rfl,hb⟩;refine ⟨_,rfl,?_⟩;replace HB:=am (aB dK hb);(try clear hb))|((with_reducible refine aD (f:=38) rfl ?_);refine aM (some 9) rfl rfl Try.func38 (by kernel_rfl) rfl #[.slice A0 l0.length c0] rfl dB ?_;(with_reducible refine (aJ.calls k _ _ l0 j9 _ (aC_ (Kd.aH j4.out HB.out)) j5.out A4.out).mono ?_);rintro e w6 ⟨jb,rfl,ho0,hb⟩;refine ⟨_,rfl,?_⟩;have j6:=am (Kd.iF (Kd.eD (ok':=fun k_=>(w.heap.size≤k_)) ho0 (fun k_ hk_=>(Nat.le_trans (aQ dK) hk_))) (aQ dK));replace HB:=am (aB dK hb);(try clear hb);(try clear ho0)))
  go_ret2
  exact ⟨_,uW,uG j6.out,dK⟩
 replace c3:=Bool.eq_false_iff.mpr c3
 subst c3
 rw [if_neg (show ¬ (false=true) by decide)] at H
 obtain ⟨ja,hy_⟩:∃ y_:List (S70),y_=(([]:List (S70))):=⟨_,rfl⟩
 replace H:(some (ja,false))=some (r1,r2):=rx_
 have j3:=am hy_
 clear hy_
 simp only [Option.some.injEq,Prod.mk.injEq] at H
 obtain ⟨rfl,rfl⟩:=H
 go_enter Try.func14,Try.ntmps14
 go_wp2_with (first|((with_reducible refine aD (f:=37) rfl ?_);refine aM (some 5) rfl rfl Try.func37 (by kernel_rfl) rfl #[.slice A0 l0.length c0] rfl dB ?_;(with_reducible refine (dO.calls k _ _ l0 false _ (aC_ j4.out) j5.out A2.out).mono ?_);rintro e w7 ⟨rfl,hb⟩;refine ⟨_,rfl,?_⟩;replace HB:=am (aB dK hb);(try clear hb))|((with_reducible refine bL (N:=7) rfl ?_);refine Kd.BF k70 _ 70 rfl (N':=7) rfl (xs:=([]:List (S70))) (inner:=[]) (ok:=(fun k_=>(w.heap.size≤k_))) (okp:=(fun k_=>(w.heap.size≤k_))) rn_ ?hp (fun _ hk=>hk) ((show ∀ k_,w7.heap.size≤k_→(fun k_=>(w.heap.size≤k_)) k_ from fun k_ hk=>(Nat.le_trans (aQ dK) hk)) _ (Nat.le_refl _)) (Below.refl _ _) (Nat.le_refl _) (by simp) ?_;(case hp=>exact (eB.none _ _));intro jc w8 ho9 hb hg_ hnew_;clear hg_ hnew_;(first|rw [← j3.out] at ho9|(simp only [Int.reduceToNat] at ho9;rw [← j3.out] at ho9));have j7:=am (Kd.iF ho9 (aQ dK));replace HB:=am (aB dK hb);clear hb ho9))
 go_ret2
 exact ⟨_,uW,uG j7.out,dK⟩
theorem aR.mono_all:∀ k,(∀ y0 y1,LeO (aR.f k y0 y1) (aR.f (k + 1) y0 y1))∧(∀ y0 y1 y2,LeO (aR.l0 k y0 y1 y2) (aR.l0 (k + 1) y0 y1 y2))∧(∀ y0 y1 y2 y3 y4 y5,LeO (bN.f k y0 y1 y2 y3 y4 y5) (bN.f (k + 1) y0 y1 y2 y3 y4 y5))
 |0=>⟨fun _ _ r h=>by simp [aR.f] at h,fun _ _ _ r h=>by simp [aR.l0] at h,fun _ _ _ _ _ _ r h=>by simp [bN.f] at h⟩
 |k + 1=>by
  obtain ⟨ih0,ih1,ih2⟩:=aR.mono_all k
  refine ⟨?_,?_,?_⟩
  ·intro y0 y1
   unfold aR.f
   exact mo_
  ·intro y0 y1 y2
   unfold aR.l0
   exact mo_
  ·intro y0 y1 y2 y3 y4 y5
   unfold bN.f
   exact mo_
theorem aR.mono:∀ a0 a1 k,LeO (aR.f k a0 a1) (aR.f (k + 1) a0 a1):=by
 intro a0 a1 k
 obtain ⟨ih0,ih1,ih2⟩:=aR.mono_all k
 exact ih0 a0 a1
theorem bN.mono:∀ a0 a1 a2 a3 a4 a5 k,LeO (bN.f k a0 a1 a2 a3 a4 a5) (bN.f (k + 1) a0 a1 a2 a3 a4 a5):=by
 intro a0 a1 a2 a3 a4 a5 k
 obtain ⟨ih0,ih1,ih2⟩:=aR.mono_all k
 exact ih2 a0 a1 a2 a3 a4 a5
abbrev aR.bF (k:Nat):Prop:=∀ (A0:Option Addr) (c0:Nat) (l0:List (S28)) (A1:Option Addr) (c1:Nat) (l1:List (S28)) (r:Bool) (w:World) (hr0:Kd.C k28 w A0 l0.length l0) (hc0:l0.length≤c0) (hr1:Kd.C k28 w A1 l1.length l1) (hc1:l1.length≤c1) (h:aR.f k l0 l1=some r),
  Calls Try.prog 33 #[.slice A0 l0.length c0, .slice A1 l1.length c1] w fun e w'=>e= .returned (.bool r)∧Below w.heap.size w w'
abbrev bN.bF (k:Nat):Prop:=∀ (a0_0:Int) (a0_1:Int) (A0_2:Option Addr) (c0_2:Nat) (l0_2:List (S28)) (a1_0:Int) (a1_1:Int) (A1_2:Option Addr) (c1_2:Nat) (l1_2:List (S28)) (r:Bool) (w:World) (hr0_2:Kd.C k28 w A0_2 l0_2.length l0_2) (hc0_2:l0_2.length≤c0_2) (hr1_2:Kd.C k28 w A1_2 l1_2.length l1_2) (hc1_2:l1_2.length≤c1_2) (h:bN.f k a0_0 a0_1 l0_2 a1_0 a1_1 l1_2=some r),
  Calls Try.prog 10 #[.agg #[.int .i64 a0_0, .int .i64 a0_1, .slice A0_2 l0_2.length c0_2], .agg #[.int .i64 a1_0, .int .i64 a1_1, .slice A1_2 l1_2.length c1_2]] w fun e w'=>e= .returned (.bool r)∧Below w.heap.size w w'
theorem bU.mono_all:∀ k,(∀ y0 y1 y2 y3 y4 y5 y6 y7 y8 y9 j3 j4 j5 j6 j7 j8,LeO (bU.f k y0 y1 y2 y3 y4 y5 y6 y7 y8 y9 j3 j4 j5 j6 j7 j8) (bU.f (k + 1) y0 y1 y2 y3 y4 y5 y6 y7 y8 y9 j3 j4 j5 j6 j7 j8))∧(∀ y0 y1,LeO (aO.f k y0 y1) (aO.f (k + 1) y0 y1))∧(∀ y0 y1 y2,LeO (aO.l0 k y0 y1 y2) (aO.l0 (k + 1) y0 y1 y2))
 |0=>⟨fun _ _ _ _ _ _ _ _ _ _ _ _ _ _ _ _ r h=>by simp [bU.f] at h,fun _ _ r h=>by simp [aO.f] at h,fun _ _ _ r h=>by simp [aO.l0] at h⟩
 |k + 1=>by
  obtain ⟨ih0,ih1,ih2⟩:=bU.mono_all k
  refine ⟨?_,?_,?_⟩
  ·intro y0 y1 y2 y3 y4 y5 y6 y7 y8 y9 j3 j4 j5 j6 j7 j8
   unfold bU.f
   have m0:=@bN.mono
   exact mo_
  ·intro y0 y1
   unfold aO.f
   have m0:=@bN.mono
   exact mo_
  ·intro y0 y1 y2
   unfold aO.l0
   have m0:=@bN.mono
   exact mo_
theorem bU.mono:∀ a0 a1 a2 a3 a4 a5 a6 a7 a8 a9 j3 j4 j5 j6 j7 j8 k,LeO (bU.f k a0 a1 a2 a3 a4 a5 a6 a7 a8 a9 j3 j4 j5 j6 j7 j8) (bU.f (k + 1) a0 a1 a2 a3 a4 a5 a6 a7 a8 a9 j3 j4 j5 j6 j7 j8):=by
 intro a0 a1 a2 a3 a4 a5 a6 a7 a8 a9 j3 j4 j5 j6 j7 j8 k
 obtain ⟨ih0,ih1,ih2⟩:=bU.mono_all k
 exact ih0 a0 a1 a2 a3 a4 a5 a6 a7 a8 a9 j3 j4 j5 j6 j7 j8
theorem aO.mono:∀ a0 a1 k,LeO (aO.f k a0 a1) (aO.f (k + 1) a0 a1):=by
 intro a0 a1 k
 obtain ⟨ih0,ih1,ih2⟩:=bU.mono_all k
 exact ih1 a0 a1
abbrev bU.bF (k:Nat):Prop:=∀ (a0_0:Int) (a0_1:Int) (a0_2:Int) (a0_3:Int) (a0_4:Int) (A0_5:Option Addr) (c0_5:Nat) (l0_5:List (S28)) (A0_6:Option Addr) (c0_6:Nat) (l0_6:List (S70)) (A0_7:Option Addr) (c0_7:Nat) (l0_7:List (S70)) (a1_0:Int) (a1_1:Int) (a1_2:Int) (a1_3:Int) (a1_4:Int) (A1_5:Option Addr) (c1_5:Nat) (l1_5:List (S28)) (A1_6:Option Addr) (c1_6:Nat) (l1_6:List (S70)) (A1_7:Option Addr) (c1_7:Nat) (l1_7:List (S70)) (r:Bool) (w:World) (hr0_5:Kd.C k28 w A0_5 l0_5.length l0_5) (hc0_5:l0_5.length≤c0_5) (hr0_6:Kd.C k70 w A0_6 l0_6.length l0_6) (hc0_6:l0_6.length≤c0_6) (hr0_7:Kd.C k70 w A0_7 l0_7.length l0_7) (hc0_7:l0_7.length≤c0_7) (hr1_5:Kd.C k28 w A1_5 l1_5.length l1_5) (hc1_5:l1_5.length≤c1_5) (hr1_6:Kd.C k70 w A1_6 l1_6.length l1_6) (hc1_6:l1_6.length≤c1_6) (hr1_7:Kd.C k70 w A1_7 l1_7.length l1_7) (hc1_7:l1_7.length≤c1_7) (h:bU.f k a0_0 a0_1 a0_2 a0_3 a0_4 l0_5 l0_6 l0_7 a1_0 a1_1 a1_2 a1_3 a1_4 l1_5 l1_6 l1_7=some r),
  Calls Try.prog 42 #[.agg #[.int .i64 a0_0, .int .i64 a0_1, .int .i64 a0_2, .int .i64 a0_3, .int .i64 a0_4, .slice A0_5 l0_5.length c0_5, .slice A0_6 l0_6.length c0_6, .slice A0_7 l0_7.length c0_7], .agg #[.int .i64 a1_0, .int .i64 a1_1, .int .i64 a1_2, .int .i64 a1_3, .int .i64 a1_4, .slice A1_5 l1_5.length c1_5, .slice A1_6 l1_6.length c1_6, .slice A1_7 l1_7.length c1_7]] w fun e w'=>e= .returned (.bool r)∧Below w.heap.size w w'
abbrev aO.bF (k:Nat):Prop:=∀ (A0:Option Addr) (c0:Nat) (l0:List (S70)) (A1:Option Addr) (c1:Nat) (l1:List (S70)) (r:Bool) (w:World) (hr0:Kd.C k70 w A0 l0.length l0) (hc0:l0.length≤c0) (hr1:Kd.C k70 w A1 l1.length l1) (hc1:l1.length≤c1) (h:aO.f k l0 l1=some r),
  Calls Try.prog 17 #[.slice A0 l0.length c0, .slice A1 l1.length c1] w fun e w'=>e= .returned (.bool r)∧Below w.heap.size w w'
def aR.T6:Bool × List (List Nat × List Nat):=(true,[([],[]),([],[]),([0,1],[0,1]),([2],[2]),([],[]),([],[]),([4,5],[4,5]),([6],[6]),([3,7],[3,7]),([8],[8])])
def aR.B6:List Nat:=[0,0,3,7,0,0,48,112,255,511]
theorem aR.KW:kQ .any (opsOf Try.f33 6)=aR.T6:=by kernel_rfl
theorem aR.BI:lZ aR.T6.2 aR.B6=true:=by kernel_rfl
theorem aR.step (k:Nat) (ih_laws_eqExprS:∀ m,m < k→aR.bF m) (ih_laws_eqExpr:∀ m,m < k→bN.bF m):aR.bF k:=by
 intro A0 c0 l0 A1 c1 l1 r w hr0 hc0 hr1 hc1 h
 cases k with
 |zero=>exact absurd h (by simp [aR.f])
 |succ k=>
 simp only [aR.f] at h
 have hu28:=Try.underlying28
 have jv:=am hr0
 have jA:=am hc0
 clear hr0 hc0
 have jw:=am hr1
 have jB:=am hc1
 clear hr1 hc1
 have HB:=am (Below.refl w.heap.size w)
 have H:(if (l0.length:Int)=(l1.length:Int) then (aR.l0 k l0 l1 0) else (some false))=some r:=h
 clear h
 by_cases c3:(l0.length:Int)=(l1.length:Int)
 ·rw [if_pos c3] at H
  have jo:((l0.length:Int) == (l1.length:Int))=true:=beq_iff_eq.mpr c3
  have jp:((l0.length:Int) != (l1.length:Int))=false:=bne_eq_false_iff_eq.mpr c3
  have jq:(l0.length == l1.length)=true:=by first|simpa using c3|(simp at c3 ⊢;omega)
  clear c3
  have H':=am H
  clear H
  go_enter Try.func33,Try.ntmps33
  go_wp2
  go_loopg [5] k (fun kq v5 w'=>∃ (j3:Int),v5= .int .i64 j3∧Aside0 (aR.l0 kq l0 l1 j3=some r)∧Aside0 (kq≤k)∧Aside0 (Below w.heap.size w w'))
  case atStart=>exact ⟨(0),sd_,H',⟨Nat.le_refl _⟩,⟨dK⟩⟩
  case round=>
   clear H'
   try clear c1
   try clear c3
   try clear jo
   try clear jp
   try clear jq
   obtain ⟨j3,rfl,HA,jr,HB⟩:=hrel
   cases gk with
   |zero=>exact absurd HA.out (by simp [aR.l0])
   |succ k1=>
    have H:=HA.out
    clear HA
    simp only [aR.l0] at H
    by_cases c4:j3 < (l0.length:Int)
    ·rw [if_pos c4] at H
     have js:decide (j3 < (l0.length:Int))=true:=decide_eq_true c4
     clear c4
     by_cases c5:0≤j3
     ·rw [if_pos c5] at H
      have jx:decide (0≤j3)=true:=decide_eq_true c5
      clear c5
      by_cases c6:j3 < (l1.length:Int)
      ·rw [if_pos c6] at H
       have jy:decide (j3 < (l1.length:Int))=true:=decide_eq_true c6
       clear c6
       obtain ⟨jz,A7,H⟩:=bsa H
       (try dsimp only at H)
       by_cases c8:jz=true
       ·subst c8
        rw [if_pos rfl] at H
        have H':=am H
        clear H
        try go_wp2
        replace HB:=am (dF HB.out)
        have jk:0≤(j3:Int):=of_decide_eq_true bR
        have jl:j3 < (l0.length:Int):=of_decide_eq_true bR
        obtain ⟨ja,je,jf,jt,j4,j5,j6,hl29_2,hi29_2⟩:=gJ jv.out j3 jk jl
        have hw29_2:=j6
        have hw29_1:=j5
        have hw29_0:=j4
        cases jt
        replace j4:=(HB.out.cell (World.block_lt_of_cell? w _ j4)).trans j4
        replace j5:=(HB.out.cell (World.block_lt_of_cell? w _ j5)).trans j5
        replace j6:=(HB.out.cell (World.block_lt_of_cell? w _ j6)).trans j6
        have jb:=am hi29_2
        have ji:=am hl29_2
        clear hi29_2 hl29_2
        replace jk:=eq_true jk
        replace jl:=eq_true jl
        have jm:0≤(j3:Int):=of_decide_eq_true bR
        have jn:j3 < (l1.length:Int):=of_decide_eq_true bR
        obtain ⟨jc,jg,jh,ju,j7,j8,j9,hl30_2,hi30_2⟩:=gJ jw.out j3 jm jn
        have hw30_2:=j9
        have hw30_1:=j8
        have hw30_0:=j7
        cases ju
        replace j7:=(HB.out.cell (World.block_lt_of_cell? w _ j7)).trans j7
        replace j8:=(HB.out.cell (World.block_lt_of_cell? w _ j8)).trans j8
        replace j9:=(HB.out.cell (World.block_lt_of_cell? w _ j9)).trans j9
        have jd:=am hi30_2
        have jj:=am hl30_2
        clear hi30_2 hl30_2
        replace jm:=eq_true jm
        replace jn:=eq_true jn
        refine wM (n:=10) (S:=fun w'=>w'.cell? (ja.add ((j3).toNat * 3))=some (.int .i64 ((aW l0 j3).f0))∧w'.cell? ⟨(ja.add ((j3).toNat * 3)).block,(ja.add ((j3).toNat * 3)).off + 1,none⟩=some (.int .i64 ((aW l0 j3).f1))∧w'.cell? ⟨(ja.add ((j3).toNat * 3)).block,(ja.add ((j3).toNat * 3)).off + 2,none⟩=some (.slice je ((aW l0 j3).f2).length jf)∧w'.cell? (jc.add ((j3).toNat * 3))=some (.int .i64 ((aW l1 j3).f0))∧w'.cell? ⟨(jc.add ((j3).toNat * 3)).block,(jc.add ((j3).toNat * 3)).off + 1,none⟩=some (.int .i64 ((aW l1 j3).f1))∧w'.cell? ⟨(jc.add ((j3).toNat * 3)).block,(jc.add ((j3).toNat * 3)).off + 2,none⟩=some (.slice jg ((aW l1 j3).f2).length jh)) (ds:=[]) (bz 10 0) (by kernel_rfl) rfl rfl ⟨((HB.out.cell (World.block_lt_of_cell? w _ hw29_0)).trans hw29_0),((HB.out.cell (World.block_lt_of_cell? w _ hw29_1)).trans hw29_1),((HB.out.cell (World.block_lt_of_cell? w _ hw29_2)).trans hw29_2),((HB.out.cell (World.block_lt_of_cell? w _ hw30_0)).trans hw30_0),((HB.out.cell (World.block_lt_of_cell? w _ hw30_1)).trans hw30_1),((HB.out.cell (World.block_lt_of_cell? w _ hw30_2)).trans hw30_2)⟩ (fun hHeld=>?_);refine nR aR.KW aR.BI (fun HT_ HW_=>?_)
        generalize wr.drew=w9 at HB jb jd j4 j5 j6 j7 j8 j9 hHeld ⊢
        refine pr_ 0 17 (bz 10 1) HT_ ?_
        refine pr_ 1 18 (bz 10 3) HT_ ?_
        refine pr_ 2 19 (bz 10 7) HT_ ?_
        refine pr_ 4 21 (bz 10 23) HT_ ?_
        refine pr_ 5 22 (bz 10 55) HT_ ?_
        refine pr_ 6 23 (bz 10 119) HT_ ?_
        refine MP 3 20 (bz 10 127) HT_ HW_ hHeld ?_
        refine MP 7 24 (bz 10 255) HT_ HW_ hHeld ?_
        refine GD (i:=8) (N:=some 25) (bz 10 511) rfl rfl (uQ HT_.out (by kernel_rfl)) (by decide) (fun K hK=>?_)
        refine oQ Try.func10 (by kernel_rfl) rfl #[.agg #[.int .i64 ((aW l0 j3).f0), .int .i64 ((aW l0 j3).f1), .slice je ((aW l0 j3).f2).length jf], .agg #[.int .i64 ((aW l1 j3).f0), .int .i64 ((aW l1 j3).f1), .slice jg ((aW l1 j3).f2).length jh]] (by rfl) rfl rfl dB ?_
        with_reducible refine (ih_laws_eqExpr k1 (by have:=jr.out;omega) ((aW l0 j3).f0) ((aW l0 j3).f1) _ _ ((aW l0 j3).f2) ((aW l1 j3).f0) ((aW l1 j3).f1) _ _ ((aW l1 j3).f2) true _ (aC_ (Kd.aH jb.out HB.out)) ji.out (aC_ (Kd.aH jd.out HB.out)) jj.out A7.out).mono ?_
        rintro e jC ⟨rfl,hb⟩
        refine ⟨_,rfl,?_⟩
        replace HB:=am (aB dK hb)
        (try clear hb)
        (try clear hb2)
        (try clear hk)
        (try clear hi)
        refine hK.out _ _ ⟨((HB.out.cell (World.block_lt_of_cell? w _ hw29_0)).trans hw29_0),((HB.out.cell (World.block_lt_of_cell? w _ hw29_1)).trans hw29_1),((HB.out.cell (World.block_lt_of_cell? w _ hw29_2)).trans hw29_2),((HB.out.cell (World.block_lt_of_cell? w _ hw30_0)).trans hw30_0),((HB.out.cell (World.block_lt_of_cell? w _ hw30_1)).trans hw30_1),((HB.out.cell (World.block_lt_of_cell? w _ hw30_2)).trans hw30_2)⟩ (fun hHeld=>?_)
        clear hK K
        refine xP (a':=?_) ?_ ?_
        rotate_left
        ·exact ap_ (N:=25)
        refine pr_ 9 26 (bz 10 1023) HT_ ?_
        refine BM (sS HT_.out (by kernel_rfl)) ?_
        try go_wp2
        go_roundg k1
        case measure=>have:=jr.out;omega
        case rel=>exact ⟨(wrap64 (j3 + 1)),sd_,H',⟨by have:=jr.out;omega⟩,⟨dK⟩⟩
       replace c8:=Bool.eq_false_iff.mpr c8
       subst c8
       rw [if_neg (show ¬ (false=true) by decide)] at H
       obtain rfl:=Option.some.inj H
       try go_wp2
       replace HB:=am (dF HB.out)
       have jk:0≤(j3:Int):=of_decide_eq_true bR
       have jl:j3 < (l0.length:Int):=of_decide_eq_true bR
       obtain ⟨ja,je,jf,jt,j4,j5,j6,hl29_2,hi29_2⟩:=gJ jv.out j3 jk jl
       have hw29_2:=j6
       have hw29_1:=j5
       have hw29_0:=j4
       cases jt
       replace j4:=(HB.out.cell (World.block_lt_of_cell? w _ j4)).trans j4
       replace j5:=(HB.out.cell (World.block_lt_of_cell? w _ j5)).trans j5
       replace j6:=(HB.out.cell (World.block_lt_of_cell? w _ j6)).trans j6
       have jb:=am hi29_2
       have ji:=am hl29_2
       clear hi29_2 hl29_2
       replace jk:=eq_true jk
       replace jl:=eq_true jl
       have jm:0≤(j3:Int):=of_decide_eq_true bR
       have jn:j3 < (l1.length:Int):=of_decide_eq_true bR
       obtain ⟨jc,jg,jh,ju,j7,j8,j9,hl30_2,hi30_2⟩:=gJ jw.out j3 jm jn
       have hw30_2:=j9
       have hw30_1:=j8
       have hw30_0:=j7
       cases ju
       replace j7:=(HB.out.cell (World.block_lt_of_cell? w _ j7)).trans j7
       replace j8:=(HB.out.cell (World.block_lt_of_cell? w _ j8)).trans j8
       replace j9:=(HB.out.cell (World.block_lt_of_cell? w _ j9)).trans j9
       have jd:=am hi30_2
       have jj:=am hl30_2
       clear hi30_2 hl30_2
       replace jm:=eq_true jm
       replace jn:=eq_true jn
       refine wM (n:=10) (S:=fun w'=>w'.cell? (ja.add ((j3).toNat * 3))=some (.int .i64 ((aW l0 j3).f0))∧w'.cell? ⟨(ja.add ((j3).toNat * 3)).block,(ja.add ((j3).toNat * 3)).off + 1,none⟩=some (.int .i64 ((aW l0 j3).f1))∧w'.cell? ⟨(ja.add ((j3).toNat * 3)).block,(ja.add ((j3).toNat * 3)).off + 2,none⟩=some (.slice je ((aW l0 j3).f2).length jf)∧w'.cell? (jc.add ((j3).toNat * 3))=some (.int .i64 ((aW l1 j3).f0))∧w'.cell? ⟨(jc.add ((j3).toNat * 3)).block,(jc.add ((j3).toNat * 3)).off + 1,none⟩=some (.int .i64 ((aW l1 j3).f1))∧w'.cell? ⟨(jc.add ((j3).toNat * 3)).block,(jc.add ((j3).toNat * 3)).off + 2,none⟩=some (.slice jg ((aW l1 j3).f2).length jh)) (ds:=[]) (bz 10 0) (by kernel_rfl) rfl rfl ⟨((HB.out.cell (World.block_lt_of_cell? w _ hw29_0)).trans hw29_0),((HB.out.cell (World.block_lt_of_cell? w _ hw29_1)).trans hw29_1),((HB.out.cell (World.block_lt_of_cell? w _ hw29_2)).trans hw29_2),((HB.out.cell (World.block_lt_of_cell? w _ hw30_0)).trans hw30_0),((HB.out.cell (World.block_lt_of_cell? w _ hw30_1)).trans hw30_1),((HB.out.cell (World.block_lt_of_cell? w _ hw30_2)).trans hw30_2)⟩ (fun hHeld=>?_);refine nR aR.KW aR.BI (fun HT_ HW_=>?_)
       generalize wr.drew=jD at HB jb jd j4 j5 j6 j7 j8 j9 hHeld ⊢
       refine pr_ 0 17 (bz 10 1) HT_ ?_
       refine pr_ 1 18 (bz 10 3) HT_ ?_
       refine pr_ 2 19 (bz 10 7) HT_ ?_
       refine pr_ 4 21 (bz 10 23) HT_ ?_
       refine pr_ 5 22 (bz 10 55) HT_ ?_
       refine pr_ 6 23 (bz 10 119) HT_ ?_
       refine MP 3 20 (bz 10 127) HT_ HW_ hHeld ?_
       refine MP 7 24 (bz 10 255) HT_ HW_ hHeld ?_
       refine GD (i:=8) (N:=some 25) (bz 10 511) rfl rfl (uQ HT_.out (by kernel_rfl)) (by decide) (fun K hK=>?_)
       refine oQ Try.func10 (by kernel_rfl) rfl #[.agg #[.int .i64 ((aW l0 j3).f0), .int .i64 ((aW l0 j3).f1), .slice je ((aW l0 j3).f2).length jf], .agg #[.int .i64 ((aW l1 j3).f0), .int .i64 ((aW l1 j3).f1), .slice jg ((aW l1 j3).f2).length jh]] (by rfl) rfl rfl dB ?_
       with_reducible refine (ih_laws_eqExpr k1 (by have:=jr.out;omega) ((aW l0 j3).f0) ((aW l0 j3).f1) _ _ ((aW l0 j3).f2) ((aW l1 j3).f0) ((aW l1 j3).f1) _ _ ((aW l1 j3).f2) false _ (aC_ (Kd.aH jb.out HB.out)) ji.out (aC_ (Kd.aH jd.out HB.out)) jj.out A7.out).mono ?_
       rintro e jE ⟨rfl,hb⟩
       refine ⟨_,rfl,?_⟩
       replace HB:=am (aB dK hb)
       (try clear hb)
       (try clear hb2)
       (try clear hk)
       (try clear hi)
       refine hK.out _ _ ⟨((HB.out.cell (World.block_lt_of_cell? w _ hw29_0)).trans hw29_0),((HB.out.cell (World.block_lt_of_cell? w _ hw29_1)).trans hw29_1),((HB.out.cell (World.block_lt_of_cell? w _ hw29_2)).trans hw29_2),((HB.out.cell (World.block_lt_of_cell? w _ hw30_0)).trans hw30_0),((HB.out.cell (World.block_lt_of_cell? w _ hw30_1)).trans hw30_1),((HB.out.cell (World.block_lt_of_cell? w _ hw30_2)).trans hw30_2)⟩ (fun hHeld=>?_)
       clear hK K
       refine xP (a':=?_) ?_ ?_
       rotate_left
       ·exact ap_ (N:=25)
       refine pr_ 9 26 (bz 10 1023) HT_ ?_
       refine BM (sS HT_.out (by kernel_rfl)) ?_
       try go_wp2
       go_ret
       exact ⟨rr_,dK⟩
      rw [if_neg c6] at H
      exact absurd H (by simp)
     rw [if_neg c5] at H
     exact absurd H (by simp)
    rw [if_neg c4] at H
    have js:decide (j3 < (l0.length:Int))=false:=decide_eq_false c4
    clear c4
    obtain rfl:=Option.some.inj H
    go_wp2
    go_ret
    exact ⟨rr_,dK⟩
 rw [if_neg c3] at H
 have jo:((l0.length:Int) == (l1.length:Int))=false:=beq_eq_false_iff_ne.mpr c3
 have jp:((l0.length:Int) != (l1.length:Int))=true:=bne_iff_ne.mpr c3
 have jq:(l0.length == l1.length)=false:=by first|simpa using c3|(simp at c3 ⊢;omega)
 obtain rfl:=Option.some.inj H
 go_enter Try.func33,Try.ntmps33
 go_wp2
 go_ret
 exact ⟨rr_,dK⟩
theorem bN.step (k:Nat) (ih_laws_eqExprS:∀ m,m < k→aR.bF m) (ih_laws_eqExpr:∀ m,m < k→bN.bF m):bN.bF k:=by
 intro j4 j5 jj jk j8 j6 j7 jl jm j9 r w hr0_2 hc0_2 hr1_2 hc1_2 h
 cases k with
 |zero=>exact absurd h (by simp [bN.f])
 |succ k=>
 simp only [bN.f] at h
 have hu28:=Try.underlying28
 have jf:=am hr0_2
 have jg:=am hc0_2
 clear hr0_2 hc0_2
 have jh:=am hr1_2
 have ji:=am hc1_2
 clear hr1_2 hc1_2
 have HB:=am (Below.refl w.heap.size w)
 have H:=h
 clear h
 have HH_:=am H
 clear H
 go_enter Try.func10,Try.ntmps10
 go_upto_region 1 with (first|((with_reducible refine bL (N:=2) rfl ?_);refine cB rfl (N:=2) rfl (cs:=#[.int .i64 j4, .int .i64 j5, .slice jj j8.length jk]) (t:=28) rn_ ?_;intro jb hg w7 hbox hb;have j3:=am (hbox);have jD:=am ((by rw [hg];exact (aQ dK):w.heap.size≤jb));have GE21:=am ((by rw [hg];exact (aQ dK):w.heap.size≤jb));replace HB:=am (aB dK hb);clear hb hbox hg)|((with_reducible refine bL (N:=3) rfl ?_);refine cB rfl (N:=3) rfl (cs:=#[.int .i64 j6, .int .i64 j7, .slice jl j9.length jm]) (t:=28) rn_ ?_;intro jc hg w8 hbox hb;have ja:=am (hbox);have jE:=am ((by rw [hg];exact (aQ lT):w.heap.size≤jc));have GE22:=am ((by rw [hg];exact (aQ lT):w.heap.size≤jc));replace HB:=am (aB lT hb);have jd:=am ((by rw [hg];exact Nat.ne_of_lt (wU j3.out):jb≠jc));have je:=am ((by rw [hg];exact Nat.ne_of_gt (wU j3.out):jc≠jb));replace j3:=bbP j3 hb;clear hb hbox hg;have jF:=jd.out;have jG:=je.out;obtain ⟨jn,jo,jp,jq,jr,js⟩:=fA j3.out;obtain ⟨jt,ju,jv,jw,jx,jy⟩:=fA ja.out))
 have H:=HH_.out
 clear HH_
 by_cases c3:j4=j6
 ·rw [if_pos c3] at H
  have jz:(j4 == j6)=true:=beq_iff_eq.mpr c3
  have jA:(j4 != j6)=false:=bne_eq_false_iff_eq.mpr c3
  clear c3
  by_cases c4:j5=j7
  ·rw [if_pos c4] at H
   have jB:(j5 == j7)=true:=beq_iff_eq.mpr c4
   have jC:(j5 != j7)=false:=bne_eq_false_iff_eq.mpr c4
   clear c4
   obtain ⟨jH,A5,H⟩:=bsa H
   (try dsimp only at H)
   by_cases c6:jH=true
   ·subst c6
    rw [if_pos rfl] at H
    obtain rfl:=Option.some.inj H
    go_wp2_with (first|((with_reducible refine aD (f:=33) rfl ?_);refine aM (some 19) rfl rfl Try.func33 (by kernel_rfl) rfl #[.slice jj j8.length jk, .slice jl j9.length jm] rfl dB ?_;(with_reducible refine (ih_laws_eqExprS k (by omega) _ _ j8 _ _ j9 true _ (aC_ (Kd.aH jf.out HB.out)) jg.out (aC_ (Kd.aH jh.out HB.out)) ji.out A5.out).mono ?_);rintro e jI ⟨rfl,hb⟩;refine ⟨_,rfl,?_⟩;replace j3:=bbP j3 hb;replace ja:=bbP ja hb;replace HB:=am (aB sO hb);(try clear hb)))
    go_ret
    exact ⟨rr_,sO⟩
   replace c6:=Bool.eq_false_iff.mpr c6
   subst c6
   rw [if_neg (show ¬ (false=true) by decide)] at H
   obtain rfl:=Option.some.inj H
   go_wp2_with (first|((with_reducible refine aD (f:=33) rfl ?_);refine aM (some 19) rfl rfl Try.func33 (by kernel_rfl) rfl #[.slice jj j8.length jk, .slice jl j9.length jm] rfl dB ?_;(with_reducible refine (ih_laws_eqExprS k (by omega) _ _ j8 _ _ j9 false _ (aC_ (Kd.aH jf.out HB.out)) jg.out (aC_ (Kd.aH jh.out HB.out)) ji.out A5.out).mono ?_);rintro e jJ ⟨rfl,hb⟩;refine ⟨_,rfl,?_⟩;replace j3:=bbP j3 hb;replace ja:=bbP ja hb;replace HB:=am (aB sO hb);(try clear hb)))
   go_ret
   exact ⟨rr_,sO⟩
  rw [if_neg c4] at H
  have jB:(j5 == j7)=false:=beq_eq_false_iff_ne.mpr c4
  have jC:(j5 != j7)=true:=bne_iff_ne.mpr c4
  obtain rfl:=Option.some.inj H
  go_wp2
  go_ret
  exact ⟨rr_,sO⟩
 rw [if_neg c3] at H
 have jz:(j4 == j6)=false:=beq_eq_false_iff_ne.mpr c3
 have jA:(j4 != j6)=true:=bne_iff_ne.mpr c3
 obtain rfl:=Option.some.inj H
 go_wp2
 go_ret
 exact ⟨rr_,sO⟩
theorem aR.calls_all (k:Nat):aR.bF k∧bN.bF k:=by
 induction k using Nat.strongRecOn with
 | _ k ih=>exact ⟨aR.step k (ih_laws_eqExprS:=fun m hm=>(ih m hm).1) (ih_laws_eqExpr:=fun m hm=>(ih m hm).2),bN.step k (ih_laws_eqExprS:=fun m hm=>(ih m hm).1) (ih_laws_eqExpr:=fun m hm=>(ih m hm).2)⟩
theorem aR.calls (k:Nat):aR.bF k:=(aR.calls_all k).1
theorem bN.calls (k:Nat):bN.bF k:=(aR.calls_all k).2
theorem bU.step (k:Nat) (ih_laws_eqStmt:∀ m,m < k→bU.bF m) (ih_laws_eqStmtS:∀ m,m < k→aO.bF m):bU.bF k:=by
 intro jh ji jj j5 j6 jn jo j7 jx jy jb jJ jK jp jk jl jm j8 j9 jq jr ja jz jA jc jL jM js r w hr0_5 hc0_5 hr0_6 hc0_6 hr0_7 hc0_7 hr1_5 hc1_5 hr1_6 hc1_6 hr1_7 hc1_7 h
 cases k with
 |zero=>exact absurd h (by simp [bU.f])
 |succ k=>
 simp only [bU.f] at h
 have hu70:=Try.underlying70
 have hu28:=Try.underlying28
 have jd:=am hr0_5
 have je:=am hc0_5
 clear hr0_5 hc0_5
 have jt:=am hr0_6
 have ju:=am hc0_6
 clear hr0_6 hc0_6
 have jF:=am hr0_7
 have jG:=am hc0_7
 clear hr0_7 hc0_7
 have jf:=am hr1_5
 have jg:=am hc1_5
 clear hr1_5 hc1_5
 have jv:=am hr1_6
 have jw:=am hc1_6
 clear hr1_6 hc1_6
 have jH:=am hr1_7
 have jI:=am hc1_7
 clear hr1_7 hc1_7
 have HB:=am (Below.refl w.heap.size w)
 have H:=h
 clear h
 have HH_:=am H
 clear H
 go_enter Try.func42,Try.ntmps42
 go_upto_region 1 with (first|((with_reducible refine bL (N:=2) rfl ?_);refine cB rfl (N:=2) rfl (cs:=#[.int .i64 jh, .int .i64 ji, .int .i64 jj, .int .i64 j5, .int .i64 j6, .slice jn j7.length jo, .slice jx jb.length jy, .slice jJ jp.length jK]) (t:=70) rn_ ?_;intro jB hg Q9 hbox hb;have j3:=am (hbox);have Q4:=am ((by rw [hg];exact (aQ dK):w.heap.size≤jB));have GE37:=am ((by rw [hg];exact (aQ dK):w.heap.size≤jB));replace HB:=am (aB dK hb);clear hb hbox hg)|((with_reducible refine bL (N:=3) rfl ?_);refine cB rfl (N:=3) rfl (cs:=#[.int .i64 jk, .int .i64 jl, .int .i64 jm, .int .i64 j8, .int .i64 j9, .slice jq ja.length jr, .slice jz jc.length jA, .slice jL js.length jM]) (t:=70) rn_ ?_;intro jC hg Qa hbox hb;have j4:=am (hbox);have Q5:=am ((by rw [hg];exact (aQ IW):w.heap.size≤jC));have GE38:=am ((by rw [hg];exact (aQ IW):w.heap.size≤jC));replace HB:=am (aB IW hb);have jD:=am ((by rw [hg];exact Nat.ne_of_lt (wU j3.out):jB≠jC));have jE:=am ((by rw [hg];exact Nat.ne_of_gt (wU j3.out):jC≠jB));replace j3:=bbP j3 hb;clear hb hbox hg;have Q0:=jD.out;have Q1:=jE.out;obtain ⟨jN,jO,jP,jQ,jR,jS,jT,jU,jV,jW,jX,jY,jZ,q0,q1,q2⟩:=dH j3.out;obtain ⟨q3,q4,q5,q6,q7,q8,q9,qa,qb,qc,qd,qe,qf,qg,qh,qi⟩:=dH j4.out))
 have H:=HH_.out
 clear HH_
 by_cases c3:jh=jk
 ·rw [if_pos c3] at H
  have JU:(jh == jk)=true:=beq_iff_eq.mpr c3
  have JV:(jh != jk)=false:=bne_eq_false_iff_eq.mpr c3
  clear c3
  by_cases c4:ji=jl
  ·rw [if_pos c4] at H
   have JW:(ji == jl)=true:=beq_iff_eq.mpr c4
   have JX:(ji != jl)=false:=bne_eq_false_iff_eq.mpr c4
   clear c4
   by_cases c5:jj=jm
   ·rw [if_pos c5] at H
    have JY:(jj == jm)=true:=beq_iff_eq.mpr c5
    have JZ:(jj != jm)=false:=bne_eq_false_iff_eq.mpr c5
    clear c5
    obtain ⟨Q6,A6,H⟩:=bsa H
    (try dsimp only at H)
    by_cases c7:Q6=true
    ·subst c7
     rw [if_pos rfl] at H
     obtain ⟨Q7,A8,H⟩:=bsa H
     (try dsimp only at H)
     by_cases c9:Q7=true
     ·subst c9
      rw [if_pos rfl] at H
      obtain ⟨Q8,Q2,H⟩:=bsm H
      (try dsimp only at H)
      have Q3:=am Q2
      clear Q2
      by_cases qj:Q8=true
      ·subst qj
       rw [if_pos rfl] at H
       obtain rfl:=Option.some.inj H
       go_wp2_with (first|((with_reducible refine aD (f:=10) rfl ?_);refine aM (some 24) rfl rfl Try.func10 (by kernel_rfl) rfl #[.agg #[.int .i64 j5, .int .i64 j6, .slice jn j7.length jo], .agg #[.int .i64 j8, .int .i64 j9, .slice jq ja.length jr]] rfl dB ?_;(with_reducible refine (bN.calls k j5 j6 _ _ j7 j8 j9 _ _ ja true _ (aC_ (Kd.aH jd.out HB.out)) je.out (aC_ (Kd.aH jf.out HB.out)) jg.out A6.out).mono ?_);rintro e Qb ⟨rfl,hb⟩;refine ⟨_,rfl,?_⟩;replace j3:=bbP j3 hb;replace j4:=bbP j4 hb;replace HB:=am (aB lS hb);(try clear hb);obtain ⟨qk,ql,qm,qn,qo,qp,qq,qr,qs,qt,qu,qv,qw,qx,qy,qz⟩:=dH j3.out;obtain ⟨qA,qB,qC,qD,qE,qF,qG,qH,qI,qJ,qK,qL,qM,qN,qO,qP⟩:=dH j4.out)|((with_reducible refine aD (f:=17) rfl ?_);refine aM (some 30) rfl rfl Try.func17 (by kernel_rfl) rfl #[.slice jx jb.length jy, .slice jz jc.length jA] rfl dB ?_;(with_reducible refine (ih_laws_eqStmtS k (by omega) _ _ jb _ _ jc true _ (aC_ (Kd.aH jt.out HB.out)) ju.out (aC_ (Kd.aH jv.out HB.out)) jw.out A8.out).mono ?_);rintro e Qc ⟨rfl,hb⟩;refine ⟨_,rfl,?_⟩;replace j3:=bbP j3 hb;replace j4:=bbP j4 hb;replace HB:=am (aB lS hb);(try clear hb);obtain ⟨qQ,qR,qS,qT,qU,qV,qW,qX,qY,qZ,z0,z1,z2,z3,z4,z5⟩:=dH j3.out;obtain ⟨z6,z7,z8,z9,za,zb,zc,zd,ze,zf,zg,zh,zi,zj,zk,zl⟩:=dH j4.out)|((with_reducible refine aD (f:=17) rfl ?_);refine aM (some 36) rfl rfl Try.func17 (by kernel_rfl) rfl #[.slice jJ jp.length jK, .slice jL js.length jM] rfl dB ?_;(with_reducible refine (ih_laws_eqStmtS k (by omega) _ _ jp _ _ js true _ (aC_ (Kd.aH jF.out HB.out)) jG.out (aC_ (Kd.aH jH.out HB.out)) jI.out Q3.out).mono ?_);rintro e Qd ⟨rfl,hb⟩;refine ⟨_,rfl,?_⟩;replace j3:=bbP j3 hb;replace j4:=bbP j4 hb;replace HB:=am (aB lS hb);(try clear hb)))
       go_ret
       exact ⟨rr_,lS⟩
      replace qj:=Bool.eq_false_iff.mpr qj
      subst qj
      rw [if_neg (show ¬ (false=true) by decide)] at H
      obtain rfl:=Option.some.inj H
      go_wp2_with (first|((with_reducible refine aD (f:=10) rfl ?_);refine aM (some 24) rfl rfl Try.func10 (by kernel_rfl) rfl #[.agg #[.int .i64 j5, .int .i64 j6, .slice jn j7.length jo], .agg #[.int .i64 j8, .int .i64 j9, .slice jq ja.length jr]] rfl dB ?_;(with_reducible refine (bN.calls k j5 j6 _ _ j7 j8 j9 _ _ ja true _ (aC_ (Kd.aH jd.out HB.out)) je.out (aC_ (Kd.aH jf.out HB.out)) jg.out A6.out).mono ?_);rintro e Qe ⟨rfl,hb⟩;refine ⟨_,rfl,?_⟩;replace j3:=bbP j3 hb;replace j4:=bbP j4 hb;replace HB:=am (aB lS hb);(try clear hb);obtain ⟨zm,zn,zo,zp,zq,zr,zs,zt,zu,zv,zw,zx,zy,zz,zA,zB⟩:=dH j3.out;obtain ⟨zC,zD,zE,zF,zG,zH,zI,zJ,zK,zL,zM,zN,zO,zP,zQ,zR⟩:=dH j4.out)|((with_reducible refine aD (f:=17) rfl ?_);refine aM (some 30) rfl rfl Try.func17 (by kernel_rfl) rfl #[.slice jx jb.length jy, .slice jz jc.length jA] rfl dB ?_;(with_reducible refine (ih_laws_eqStmtS k (by omega) _ _ jb _ _ jc true _ (aC_ (Kd.aH jt.out HB.out)) ju.out (aC_ (Kd.aH jv.out HB.out)) jw.out A8.out).mono ?_);rintro e Qf ⟨rfl,hb⟩;refine ⟨_,rfl,?_⟩;replace j3:=bbP j3 hb;replace j4:=bbP j4 hb;replace HB:=am (aB lS hb);(try clear hb);obtain ⟨zS,zT,zU,zV,zW,zX,zY,zZ,J0,J1,J2,J3,J4,J5,J6,J7⟩:=dH j3.out;obtain ⟨J8,J9,Ja,Jb,Jc,Jd,Je,Jf,Jg,Jh,Ji,Jj,Jk,Jl,Jm,Jn⟩:=dH j4.out)|((with_reducible refine aD (f:=17) rfl ?_);refine aM (some 36) rfl rfl Try.func17 (by kernel_rfl) rfl #[.slice jJ jp.length jK, .slice jL js.length jM] rfl dB ?_;(with_reducible refine (ih_laws_eqStmtS k (by omega) _ _ jp _ _ js false _ (aC_ (Kd.aH jF.out HB.out)) jG.out (aC_ (Kd.aH jH.out HB.out)) jI.out Q3.out).mono ?_);rintro e Qg ⟨rfl,hb⟩;refine ⟨_,rfl,?_⟩;replace j3:=bbP j3 hb;replace j4:=bbP j4 hb;replace HB:=am (aB lS hb);(try clear hb)))
      go_ret
      exact ⟨rr_,lS⟩
     replace c9:=Bool.eq_false_iff.mpr c9
     subst c9
     rw [if_neg (show ¬ (false=true) by decide)] at H
     obtain rfl:=Option.some.inj H
     go_wp2_with (first|((with_reducible refine aD (f:=10) rfl ?_);refine aM (some 24) rfl rfl Try.func10 (by kernel_rfl) rfl #[.agg #[.int .i64 j5, .int .i64 j6, .slice jn j7.length jo], .agg #[.int .i64 j8, .int .i64 j9, .slice jq ja.length jr]] rfl dB ?_;(with_reducible refine (bN.calls k j5 j6 _ _ j7 j8 j9 _ _ ja true _ (aC_ (Kd.aH jd.out HB.out)) je.out (aC_ (Kd.aH jf.out HB.out)) jg.out A6.out).mono ?_);rintro e Qh ⟨rfl,hb⟩;refine ⟨_,rfl,?_⟩;replace j3:=bbP j3 hb;replace j4:=bbP j4 hb;replace HB:=am (aB lS hb);(try clear hb);obtain ⟨Jo,Jp,Jq,Jr,Js,Jt,Ju,Jv,Jw,Jx,Jy,Jz,JA,JB,JC,JD⟩:=dH j3.out;obtain ⟨JE,JF,JG,JH,JI,JJ,JK,JL,JM,JN,JO,JP,JQ,JR,JS,JT⟩:=dH j4.out)|((with_reducible refine aD (f:=17) rfl ?_);refine aM (some 30) rfl rfl Try.func17 (by kernel_rfl) rfl #[.slice jx jb.length jy, .slice jz jc.length jA] rfl dB ?_;(with_reducible refine (ih_laws_eqStmtS k (by omega) _ _ jb _ _ jc false _ (aC_ (Kd.aH jt.out HB.out)) ju.out (aC_ (Kd.aH jv.out HB.out)) jw.out A8.out).mono ?_);rintro e Qi ⟨rfl,hb⟩;refine ⟨_,rfl,?_⟩;replace j3:=bbP j3 hb;replace j4:=bbP j4 hb;replace HB:=am (aB lS hb);(try clear hb)))
     go_ret
     exact ⟨rr_,lS⟩
    replace c7:=Bool.eq_false_iff.mpr c7
    subst c7
    rw [if_neg (show ¬ (false=true) by decide)] at H
    obtain rfl:=Option.some.inj H
    go_wp2_with (first|((with_reducible refine aD (f:=10) rfl ?_);refine aM (some 24) rfl rfl Try.func10 (by kernel_rfl) rfl #[.agg #[.int .i64 j5, .int .i64 j6, .slice jn j7.length jo], .agg #[.int .i64 j8, .int .i64 j9, .slice jq ja.length jr]] rfl dB ?_;(with_reducible refine (bN.calls k j5 j6 _ _ j7 j8 j9 _ _ ja false _ (aC_ (Kd.aH jd.out HB.out)) je.out (aC_ (Kd.aH jf.out HB.out)) jg.out A6.out).mono ?_);rintro e Qj ⟨rfl,hb⟩;refine ⟨_,rfl,?_⟩;replace j3:=bbP j3 hb;replace j4:=bbP j4 hb;replace HB:=am (aB lS hb);(try clear hb)))
    go_ret
    exact ⟨rr_,lS⟩
   rw [if_neg c5] at H
   have JY:(jj == jm)=false:=beq_eq_false_iff_ne.mpr c5
   have JZ:(jj != jm)=true:=bne_iff_ne.mpr c5
   obtain rfl:=Option.some.inj H
   go_wp2
   go_ret
   exact ⟨rr_,lS⟩
  rw [if_neg c4] at H
  have JW:(ji == jl)=false:=beq_eq_false_iff_ne.mpr c4
  have JX:(ji != jl)=true:=bne_iff_ne.mpr c4
  obtain rfl:=Option.some.inj H
  go_wp2
  go_ret
  exact ⟨rr_,lS⟩
 rw [if_neg c3] at H
 have JU:(jh == jk)=false:=beq_eq_false_iff_ne.mpr c3
 have JV:(jh != jk)=true:=bne_iff_ne.mpr c3
 obtain rfl:=Option.some.inj H
 go_wp2
 go_ret
 exact ⟨rr_,lS⟩
def aO.T6:Bool × List (List Nat × List Nat):=(true,[([],[]),([],[]),([0,1],[0,1]),([2],[2]),([],[]),([],[]),([4,5],[4,5]),([6],[6]),([3,7],[3,7]),([8],[8])])
def aO.B6:List Nat:=[0,0,3,7,0,0,48,112,255,511]
theorem aO.KW:kQ .any (opsOf Try.f17 6)=aO.T6:=by kernel_rfl
theorem aO.BI:lZ aO.T6.2 aO.B6=true:=by kernel_rfl
theorem aO.step (k:Nat) (ih_laws_eqStmt:∀ m,m < k→bU.bF m) (ih_laws_eqStmtS:∀ m,m < k→aO.bF m):aO.bF k:=by
 intro A0 c0 l0 A1 c1 l1 r w hr0 hc0 hr1 hc1 h
 cases k with
 |zero=>exact absurd h (by simp [aO.f])
 |succ k=>
 simp only [aO.f] at h
 have hu70:=Try.underlying70
 have jV:=am hr0
 have q0:=am hc0
 clear hr0 hc0
 have jW:=am hr1
 have q1:=am hc1
 clear hr1 hc1
 have HB:=am (Below.refl w.heap.size w)
 have H:(if (l0.length:Int)=(l1.length:Int) then (aO.l0 k l0 l1 0) else (some false))=some r:=h
 clear h
 by_cases c3:(l0.length:Int)=(l1.length:Int)
 ·rw [if_pos c3] at H
  have jO:((l0.length:Int) == (l1.length:Int))=true:=beq_iff_eq.mpr c3
  have jP:((l0.length:Int) != (l1.length:Int))=false:=bne_eq_false_iff_eq.mpr c3
  have jQ:(l0.length == l1.length)=true:=by first|simpa using c3|(simp at c3 ⊢;omega)
  clear c3
  have H':=am H
  clear H
  go_enter Try.func17,Try.ntmps17
  go_wp2
  go_loopg [5] k (fun kq v5 w'=>∃ (j3:Int),v5= .int .i64 j3∧Aside0 (aO.l0 kq l0 l1 j3=some r)∧Aside0 (kq≤k)∧Aside0 (Below w.heap.size w w'))
  case atStart=>exact ⟨(0),sd_,H',⟨Nat.le_refl _⟩,⟨dK⟩⟩
  case round=>
   clear H'
   try clear c1
   try clear c3
   try clear jO
   try clear jP
   try clear jQ
   obtain ⟨j3,rfl,HA,jR,HB⟩:=hrel
   cases gk with
   |zero=>exact absurd HA.out (by simp [aO.l0])
   |succ k1=>
    have H:=HA.out
    clear HA
    simp only [aO.l0] at H
    by_cases c4:j3 < (l0.length:Int)
    ·rw [if_pos c4] at H
     have jS:decide (j3 < (l0.length:Int))=true:=decide_eq_true c4
     clear c4
     by_cases c5:0≤j3
     ·rw [if_pos c5] at H
      have jX:decide (0≤j3)=true:=decide_eq_true c5
      clear c5
      by_cases c6:j3 < (l1.length:Int)
      ·rw [if_pos c6] at H
       have jY:decide (j3 < (l1.length:Int))=true:=decide_eq_true c6
       clear c6
       obtain ⟨jZ,A7,H⟩:=bsa H
       (try dsimp only at H)
       by_cases c8:jZ=true
       ·subst c8
        rw [if_pos rfl] at H
        have H':=am H
        clear H
        try go_wp2
        replace HB:=am (dF HB.out)
        have jK:0≤(j3:Int):=of_decide_eq_true bR
        have jL:j3 < (l0.length:Int):=of_decide_eq_true bR
        obtain ⟨j4,js,jt,ju,jv,jw,jx,jT,j6,j7,j8,j9,ja,jb,jc,jd,hl28_5,hi28_5,hl28_6,hi28_6,hl28_7,hi28_7⟩:=dJ jV.out j3 jK jL
        have hw28_7:=jd
        have hw28_6:=jc
        have hw28_5:=jb
        have hw28_4:=ja
        have hw28_3:=j9
        have hw28_2:=j8
        have hw28_1:=j7
        have hw28_0:=j6
        cases jT
        replace j6:=(HB.out.cell (World.block_lt_of_cell? w _ j6)).trans j6
        replace j7:=(HB.out.cell (World.block_lt_of_cell? w _ j7)).trans j7
        replace j8:=(HB.out.cell (World.block_lt_of_cell? w _ j8)).trans j8
        replace j9:=(HB.out.cell (World.block_lt_of_cell? w _ j9)).trans j9
        replace ja:=(HB.out.cell (World.block_lt_of_cell? w _ ja)).trans ja
        replace jb:=(HB.out.cell (World.block_lt_of_cell? w _ jb)).trans jb
        replace jc:=(HB.out.cell (World.block_lt_of_cell? w _ jc)).trans jc
        replace jd:=(HB.out.cell (World.block_lt_of_cell? w _ jd)).trans jd
        have jm:=am hi28_5
        have jE:=am hl28_5
        clear hi28_5 hl28_5
        have jn:=am hi28_6
        have jF:=am hl28_6
        clear hi28_6 hl28_6
        have jo:=am hi28_7
        have jG:=am hl28_7
        clear hi28_7 hl28_7
        replace jK:=eq_true jK
        replace jL:=eq_true jL
        have jM:0≤(j3:Int):=of_decide_eq_true bR
        have jN:j3 < (l1.length:Int):=of_decide_eq_true bR
        obtain ⟨j5,jy,jz,jA,jB,jC,jD,jU,je,jf,jg,jh,ji,jj,jk,jl,hl29_5,hi29_5,hl29_6,hi29_6,hl29_7,hi29_7⟩:=dJ jW.out j3 jM jN
        have hw29_7:=jl
        have hw29_6:=jk
        have hw29_5:=jj
        have hw29_4:=ji
        have hw29_3:=jh
        have hw29_2:=jg
        have hw29_1:=jf
        have hw29_0:=je
        cases jU
        replace je:=(HB.out.cell (World.block_lt_of_cell? w _ je)).trans je
        replace jf:=(HB.out.cell (World.block_lt_of_cell? w _ jf)).trans jf
        replace jg:=(HB.out.cell (World.block_lt_of_cell? w _ jg)).trans jg
        replace jh:=(HB.out.cell (World.block_lt_of_cell? w _ jh)).trans jh
        replace ji:=(HB.out.cell (World.block_lt_of_cell? w _ ji)).trans ji
        replace jj:=(HB.out.cell (World.block_lt_of_cell? w _ jj)).trans jj
        replace jk:=(HB.out.cell (World.block_lt_of_cell? w _ jk)).trans jk
        replace jl:=(HB.out.cell (World.block_lt_of_cell? w _ jl)).trans jl
        have jp:=am hi29_5
        have jH:=am hl29_5
        clear hi29_5 hl29_5
        have jq:=am hi29_6
        have jI:=am hl29_6
        clear hi29_6 hl29_6
        have jr:=am hi29_7
        have jJ:=am hl29_7
        clear hi29_7 hl29_7
        replace jM:=eq_true jM
        replace jN:=eq_true jN
        refine wM (n:=10) (S:=fun w'=>w'.cell? (j4.add ((j3).toNat * 8))=some (.int .i64 ((aC l0 j3).f0))∧w'.cell? ⟨(j4.add ((j3).toNat * 8)).block,(j4.add ((j3).toNat * 8)).off + 1,none⟩=some (.int .i64 ((aC l0 j3).f1))∧w'.cell? ⟨(j4.add ((j3).toNat * 8)).block,(j4.add ((j3).toNat * 8)).off + 2,none⟩=some (.int .i64 ((aC l0 j3).f2))∧w'.cell? ⟨(j4.add ((j3).toNat * 8)).block,(j4.add ((j3).toNat * 8)).off + 3,none⟩=some (.int .i64 ((aC l0 j3).f3.f0))∧w'.cell? ⟨(j4.add ((j3).toNat * 8)).block,(j4.add ((j3).toNat * 8)).off + 4,none⟩=some (.int .i64 ((aC l0 j3).f3.f1))∧w'.cell? ⟨(j4.add ((j3).toNat * 8)).block,(j4.add ((j3).toNat * 8)).off + 5,none⟩=some (.slice js ((aC l0 j3).f3.f2).length jt)∧w'.cell? ⟨(j4.add ((j3).toNat * 8)).block,(j4.add ((j3).toNat * 8)).off + 6,none⟩=some (.slice ju ((aC l0 j3).f4).length jv)∧w'.cell? ⟨(j4.add ((j3).toNat * 8)).block,(j4.add ((j3).toNat * 8)).off + 7,none⟩=some (.slice jw ((aC l0 j3).f5).length jx)∧w'.cell? (j5.add ((j3).toNat * 8))=some (.int .i64 ((aC l1 j3).f0))∧w'.cell? ⟨(j5.add ((j3).toNat * 8)).block,(j5.add ((j3).toNat * 8)).off + 1,none⟩=some (.int .i64 ((aC l1 j3).f1))∧w'.cell? ⟨(j5.add ((j3).toNat * 8)).block,(j5.add ((j3).toNat * 8)).off + 2,none⟩=some (.int .i64 ((aC l1 j3).f2))∧w'.cell? ⟨(j5.add ((j3).toNat * 8)).block,(j5.add ((j3).toNat * 8)).off + 3,none⟩=some (.int .i64 ((aC l1 j3).f3.f0))∧w'.cell? ⟨(j5.add ((j3).toNat * 8)).block,(j5.add ((j3).toNat * 8)).off + 4,none⟩=some (.int .i64 ((aC l1 j3).f3.f1))∧w'.cell? ⟨(j5.add ((j3).toNat * 8)).block,(j5.add ((j3).toNat * 8)).off + 5,none⟩=some (.slice jy ((aC l1 j3).f3.f2).length jz)∧w'.cell? ⟨(j5.add ((j3).toNat * 8)).block,(j5.add ((j3).toNat * 8)).off + 6,none⟩=some (.slice jA ((aC l1 j3).f4).length jB)∧w'.cell? ⟨(j5.add ((j3).toNat * 8)).block,(j5.add ((j3).toNat * 8)).off + 7,none⟩=some (.slice jC ((aC l1 j3).f5).length jD)) (ds:=[]) (bz 10 0) (by kernel_rfl) rfl rfl ⟨((HB.out.cell (World.block_lt_of_cell? w _ hw28_0)).trans hw28_0),((HB.out.cell (World.block_lt_of_cell? w _ hw28_1)).trans hw28_1),((HB.out.cell (World.block_lt_of_cell? w _ hw28_2)).trans hw28_2),((HB.out.cell (World.block_lt_of_cell? w _ hw28_3)).trans hw28_3),((HB.out.cell (World.block_lt_of_cell? w _ hw28_4)).trans hw28_4),((HB.out.cell (World.block_lt_of_cell? w _ hw28_5)).trans hw28_5),((HB.out.cell (World.block_lt_of_cell? w _ hw28_6)).trans hw28_6),((HB.out.cell (World.block_lt_of_cell? w _ hw28_7)).trans hw28_7),((HB.out.cell (World.block_lt_of_cell? w _ hw29_0)).trans hw29_0),((HB.out.cell (World.block_lt_of_cell? w _ hw29_1)).trans hw29_1),((HB.out.cell (World.block_lt_of_cell? w _ hw29_2)).trans hw29_2),((HB.out.cell (World.block_lt_of_cell? w _ hw29_3)).trans hw29_3),((HB.out.cell (World.block_lt_of_cell? w _ hw29_4)).trans hw29_4),((HB.out.cell (World.block_lt_of_cell? w _ hw29_5)).trans hw29_5),((HB.out.cell (World.block_lt_of_cell? w _ hw29_6)).trans hw29_6),((HB.out.cell (World.block_lt_of_cell? w _ hw29_7)).trans hw29_7)⟩ (fun hHeld=>?_);refine nR aO.KW aO.BI (fun HT_ HW_=>?_)
        generalize wr.drew=w9 at HB jm jn jo jp jq jr j6 j7 j8 j9 ja jb jc jd je jf jg jh ji jj jk jl hHeld ⊢
        refine pr_ 0 17 (bz 10 1) HT_ ?_
        refine pr_ 1 18 (bz 10 3) HT_ ?_
        refine pr_ 2 19 (bz 10 7) HT_ ?_
        refine pr_ 4 21 (bz 10 23) HT_ ?_
        refine pr_ 5 22 (bz 10 55) HT_ ?_
        refine pr_ 6 23 (bz 10 119) HT_ ?_
        refine xZ 3 20 (bz 10 127) HT_ HW_ hHeld ?_
        refine xZ 7 24 (bz 10 255) HT_ HW_ hHeld ?_
        refine GD (i:=8) (N:=some 25) (bz 10 511) rfl rfl (uQ HT_.out (by kernel_rfl)) (by decide) (fun K hK=>?_)
        refine oQ Try.func42 (by kernel_rfl) rfl #[.agg #[.int .i64 ((aC l0 j3).f0), .int .i64 ((aC l0 j3).f1), .int .i64 ((aC l0 j3).f2), .int .i64 ((aC l0 j3).f3.f0), .int .i64 ((aC l0 j3).f3.f1), .slice js ((aC l0 j3).f3.f2).length jt, .slice ju ((aC l0 j3).f4).length jv, .slice jw ((aC l0 j3).f5).length jx], .agg #[.int .i64 ((aC l1 j3).f0), .int .i64 ((aC l1 j3).f1), .int .i64 ((aC l1 j3).f2), .int .i64 ((aC l1 j3).f3.f0), .int .i64 ((aC l1 j3).f3.f1), .slice jy ((aC l1 j3).f3.f2).length jz, .slice jA ((aC l1 j3).f4).length jB, .slice jC ((aC l1 j3).f5).length jD]] (by rfl) rfl rfl dB ?_
        with_reducible refine (ih_laws_eqStmt k1 (by have:=jR.out;omega) ((aC l0 j3).f0) ((aC l0 j3).f1) ((aC l0 j3).f2) ((aC l0 j3).f3.f0) ((aC l0 j3).f3.f1) _ _ ((aC l0 j3).f3.f2) _ _ ((aC l0 j3).f4) _ _ ((aC l0 j3).f5) ((aC l1 j3).f0) ((aC l1 j3).f1) ((aC l1 j3).f2) ((aC l1 j3).f3.f0) ((aC l1 j3).f3.f1) _ _ ((aC l1 j3).f3.f2) _ _ ((aC l1 j3).f4) _ _ ((aC l1 j3).f5) true _ (aC_ (Kd.aH jm.out HB.out)) jE.out (aC_ (Kd.aH jn.out HB.out)) jF.out (aC_ (Kd.aH jo.out HB.out)) jG.out (aC_ (Kd.aH jp.out HB.out)) jH.out (aC_ (Kd.aH jq.out HB.out)) jI.out (aC_ (Kd.aH jr.out HB.out)) jJ.out A7.out).mono ?_
        rintro e q2 ⟨rfl,hb⟩
        refine ⟨_,rfl,?_⟩
        replace HB:=am (aB dK hb)
        (try clear hb)
        (try clear hb2)
        (try clear hk)
        (try clear hi)
        refine hK.out _ _ ⟨((HB.out.cell (World.block_lt_of_cell? w _ hw28_0)).trans hw28_0),((HB.out.cell (World.block_lt_of_cell? w _ hw28_1)).trans hw28_1),((HB.out.cell (World.block_lt_of_cell? w _ hw28_2)).trans hw28_2),((HB.out.cell (World.block_lt_of_cell? w _ hw28_3)).trans hw28_3),((HB.out.cell (World.block_lt_of_cell? w _ hw28_4)).trans hw28_4),((HB.out.cell (World.block_lt_of_cell? w _ hw28_5)).trans hw28_5),((HB.out.cell (World.block_lt_of_cell? w _ hw28_6)).trans hw28_6),((HB.out.cell (World.block_lt_of_cell? w _ hw28_7)).trans hw28_7),((HB.out.cell (World.block_lt_of_cell? w _ hw29_0)).trans hw29_0),((HB.out.cell (World.block_lt_of_cell? w _ hw29_1)).trans hw29_1),((HB.out.cell (World.block_lt_of_cell? w _ hw29_2)).trans hw29_2),((HB.out.cell (World.block_lt_of_cell? w _ hw29_3)).trans hw29_3),((HB.out.cell (World.block_lt_of_cell? w _ hw29_4)).trans hw29_4),((HB.out.cell (World.block_lt_of_cell? w _ hw29_5)).trans hw29_5),((HB.out.cell (World.block_lt_of_cell? w _ hw29_6)).trans hw29_6),((HB.out.cell (World.block_lt_of_cell? w _ hw29_7)).trans hw29_7)⟩ (fun hHeld=>?_)
        clear hK K
        refine xP (a':=?_) ?_ ?_
        rotate_left
        ·exact ap_ (N:=25)
        refine pr_ 9 26 (bz 10 1023) HT_ ?_
        refine BM (sS HT_.out (by kernel_rfl)) ?_
        try go_wp2
        go_roundg k1
        case measure=>have:=jR.out;omega
        case rel=>exact ⟨(wrap64 (j3 + 1)),sd_,H',⟨by have:=jR.out;omega⟩,⟨dK⟩⟩
       replace c8:=Bool.eq_false_iff.mpr c8
       subst c8
       rw [if_neg (show ¬ (false=true) by decide)] at H
       obtain rfl:=Option.some.inj H
       try go_wp2
       replace HB:=am (dF HB.out)
       have jK:0≤(j3:Int):=of_decide_eq_true bR
       have jL:j3 < (l0.length:Int):=of_decide_eq_true bR
       obtain ⟨j4,js,jt,ju,jv,jw,jx,jT,j6,j7,j8,j9,ja,jb,jc,jd,hl28_5,hi28_5,hl28_6,hi28_6,hl28_7,hi28_7⟩:=dJ jV.out j3 jK jL
       have hw28_7:=jd
       have hw28_6:=jc
       have hw28_5:=jb
       have hw28_4:=ja
       have hw28_3:=j9
       have hw28_2:=j8
       have hw28_1:=j7
       have hw28_0:=j6
       cases jT
       replace j6:=(HB.out.cell (World.block_lt_of_cell? w _ j6)).trans j6
       replace j7:=(HB.out.cell (World.block_lt_of_cell? w _ j7)).trans j7
       replace j8:=(HB.out.cell (World.block_lt_of_cell? w _ j8)).trans j8
       replace j9:=(HB.out.cell (World.block_lt_of_cell? w _ j9)).trans j9
       replace ja:=(HB.out.cell (World.block_lt_of_cell? w _ ja)).trans ja
       replace jb:=(HB.out.cell (World.block_lt_of_cell? w _ jb)).trans jb
       replace jc:=(HB.out.cell (World.block_lt_of_cell? w _ jc)).trans jc
       replace jd:=(HB.out.cell (World.block_lt_of_cell? w _ jd)).trans jd
       have jm:=am hi28_5
       have jE:=am hl28_5
       clear hi28_5 hl28_5
       have jn:=am hi28_6
       have jF:=am hl28_6
       clear hi28_6 hl28_6
       have jo:=am hi28_7
       have jG:=am hl28_7
       clear hi28_7 hl28_7
       replace jK:=eq_true jK
       replace jL:=eq_true jL
       have jM:0≤(j3:Int):=of_decide_eq_true bR
       have jN:j3 < (l1.length:Int):=of_decide_eq_true bR
       obtain ⟨j5,jy,jz,jA,jB,jC,jD,jU,je,jf,jg,jh,ji,jj,jk,jl,hl29_5,hi29_5,hl29_6,hi29_6,hl29_7,hi29_7⟩:=dJ jW.out j3 jM jN
       have hw29_7:=jl
       have hw29_6:=jk
       have hw29_5:=jj
       have hw29_4:=ji
       have hw29_3:=jh
       have hw29_2:=jg
       have hw29_1:=jf
       have hw29_0:=je
       cases jU
       replace je:=(HB.out.cell (World.block_lt_of_cell? w _ je)).trans je
       replace jf:=(HB.out.cell (World.block_lt_of_cell? w _ jf)).trans jf
       replace jg:=(HB.out.cell (World.block_lt_of_cell? w _ jg)).trans jg
       replace jh:=(HB.out.cell (World.block_lt_of_cell? w _ jh)).trans jh
       replace ji:=(HB.out.cell (World.block_lt_of_cell? w _ ji)).trans ji
       replace jj:=(HB.out.cell (World.block_lt_of_cell? w _ jj)).trans jj
       replace jk:=(HB.out.cell (World.block_lt_of_cell? w _ jk)).trans jk
       replace jl:=(HB.out.cell (World.block_lt_of_cell? w _ jl)).trans jl
       have jp:=am hi29_5
       have jH:=am hl29_5
       clear hi29_5 hl29_5
       have jq:=am hi29_6
       have jI:=am hl29_6
       clear hi29_6 hl29_6
       have jr:=am hi29_7
       have jJ:=am hl29_7
       clear hi29_7 hl29_7
       replace jM:=eq_true jM
       replace jN:=eq_true jN
       refine wM (n:=10) (S:=fun w'=>w'.cell? (j4.add ((j3).toNat * 8))=some (.int .i64 ((aC l0 j3).f0))∧w'.cell? ⟨(j4.add ((j3).toNat * 8)).block,(j4.add ((j3).toNat * 8)).off + 1,none⟩=some (.int .i64 ((aC l0 j3).f1))∧w'.cell? ⟨(j4.add ((j3).toNat * 8)).block,(j4.add ((j3).toNat * 8)).off + 2,none⟩=some (.int .i64 ((aC l0 j3).f2))∧w'.cell? ⟨(j4.add ((j3).toNat * 8)).block,(j4.add ((j3).toNat * 8)).off + 3,none⟩=some (.int .i64 ((aC l0 j3).f3.f0))∧w'.cell? ⟨(j4.add ((j3).toNat * 8)).block,(j4.add ((j3).toNat * 8)).off + 4,none⟩=some (.int .i64 ((aC l0 j3).f3.f1))∧w'.cell? ⟨(j4.add ((j3).toNat * 8)).block,(j4.add ((j3).toNat * 8)).off + 5,none⟩=some (.slice js ((aC l0 j3).f3.f2).length jt)∧w'.cell? ⟨(j4.add ((j3).toNat * 8)).block,(j4.add ((j3).toNat * 8)).off + 6,none⟩=some (.slice ju ((aC l0 j3).f4).length jv)∧w'.cell? ⟨(j4.add ((j3).toNat * 8)).block,(j4.add ((j3).toNat * 8)).off + 7,none⟩=some (.slice jw ((aC l0 j3).f5).length jx)∧w'.cell? (j5.add ((j3).toNat * 8))=some (.int .i64 ((aC l1 j3).f0))∧w'.cell? ⟨(j5.add ((j3).toNat * 8)).block,(j5.add ((j3).toNat * 8)).off + 1,none⟩=some (.int .i64 ((aC l1 j3).f1))∧w'.cell? ⟨(j5.add ((j3).toNat * 8)).block,(j5.add ((j3).toNat * 8)).off + 2,none⟩=some (.int .i64 ((aC l1 j3).f2))∧w'.cell? ⟨(j5.add ((j3).toNat * 8)).block,(j5.add ((j3).toNat * 8)).off + 3,none⟩=some (.int .i64 ((aC l1 j3).f3.f0))∧w'.cell? ⟨(j5.add ((j3).toNat * 8)).block,(j5.add ((j3).toNat * 8)).off + 4,none⟩=some (.int .i64 ((aC l1 j3).f3.f1))∧w'.cell? ⟨(j5.add ((j3).toNat * 8)).block,(j5.add ((j3).toNat * 8)).off + 5,none⟩=some (.slice jy ((aC l1 j3).f3.f2).length jz)∧w'.cell? ⟨(j5.add ((j3).toNat * 8)).block,(j5.add ((j3).toNat * 8)).off + 6,none⟩=some (.slice jA ((aC l1 j3).f4).length jB)∧w'.cell? ⟨(j5.add ((j3).toNat * 8)).block,(j5.add ((j3).toNat * 8)).off + 7,none⟩=some (.slice jC ((aC l1 j3).f5).length jD)) (ds:=[]) (bz 10 0) (by kernel_rfl) rfl rfl ⟨((HB.out.cell (World.block_lt_of_cell? w _ hw28_0)).trans hw28_0),((HB.out.cell (World.block_lt_of_cell? w _ hw28_1)).trans hw28_1),((HB.out.cell (World.block_lt_of_cell? w _ hw28_2)).trans hw28_2),((HB.out.cell (World.block_lt_of_cell? w _ hw28_3)).trans hw28_3),((HB.out.cell (World.block_lt_of_cell? w _ hw28_4)).trans hw28_4),((HB.out.cell (World.block_lt_of_cell? w _ hw28_5)).trans hw28_5),((HB.out.cell (World.block_lt_of_cell? w _ hw28_6)).trans hw28_6),((HB.out.cell (World.block_lt_of_cell? w _ hw28_7)).trans hw28_7),((HB.out.cell (World.block_lt_of_cell? w _ hw29_0)).trans hw29_0),((HB.out.cell (World.block_lt_of_cell? w _ hw29_1)).trans hw29_1),((HB.out.cell (World.block_lt_of_cell? w _ hw29_2)).trans hw29_2),((HB.out.cell (World.block_lt_of_cell? w _ hw29_3)).trans hw29_3),((HB.out.cell (World.block_lt_of_cell? w _ hw29_4)).trans hw29_4),((HB.out.cell (World.block_lt_of_cell? w _ hw29_5)).trans hw29_5),((HB.out.cell (World.block_lt_of_cell? w _ hw29_6)).trans hw29_6),((HB.out.cell (World.block_lt_of_cell? w _ hw29_7)).trans hw29_7)⟩ (fun hHeld=>?_);refine nR aO.KW aO.BI (fun HT_ HW_=>?_)
       generalize wr.drew=q3 at HB jm jn jo jp jq jr j6 j7 j8 j9 ja jb jc jd je jf jg jh ji jj jk jl hHeld ⊢
       refine pr_ 0 17 (bz 10 1) HT_ ?_
       refine pr_ 1 18 (bz 10 3) HT_ ?_
       refine pr_ 2 19 (bz 10 7) HT_ ?_
       refine pr_ 4 21 (bz 10 23) HT_ ?_
       refine pr_ 5 22 (bz 10 55) HT_ ?_
       refine pr_ 6 23 (bz 10 119) HT_ ?_
       refine xZ 3 20 (bz 10 127) HT_ HW_ hHeld ?_
       refine xZ 7 24 (bz 10 255) HT_ HW_ hHeld ?_
       refine GD (i:=8) (N:=some 25) (bz 10 511) rfl rfl (uQ HT_.out (by kernel_rfl)) (by decide) (fun K hK=>?_)
       refine oQ Try.func42 (by kernel_rfl) rfl #[.agg #[.int .i64 ((aC l0 j3).f0), .int .i64 ((aC l0 j3).f1), .int .i64 ((aC l0 j3).f2), .int .i64 ((aC l0 j3).f3.f0), .int .i64 ((aC l0 j3).f3.f1), .slice js ((aC l0 j3).f3.f2).length jt, .slice ju ((aC l0 j3).f4).length jv, .slice jw ((aC l0 j3).f5).length jx], .agg #[.int .i64 ((aC l1 j3).f0), .int .i64 ((aC l1 j3).f1), .int .i64 ((aC l1 j3).f2), .int .i64 ((aC l1 j3).f3.f0), .int .i64 ((aC l1 j3).f3.f1), .slice jy ((aC l1 j3).f3.f2).length jz, .slice jA ((aC l1 j3).f4).length jB, .slice jC ((aC l1 j3).f5).length jD]] (by rfl) rfl rfl dB ?_
       with_reducible refine (ih_laws_eqStmt k1 (by have:=jR.out;omega) ((aC l0 j3).f0) ((aC l0 j3).f1) ((aC l0 j3).f2) ((aC l0 j3).f3.f0) ((aC l0 j3).f3.f1) _ _ ((aC l0 j3).f3.f2) _ _ ((aC l0 j3).f4) _ _ ((aC l0 j3).f5) ((aC l1 j3).f0) ((aC l1 j3).f1) ((aC l1 j3).f2) ((aC l1 j3).f3.f0) ((aC l1 j3).f3.f1) _ _ ((aC l1 j3).f3.f2) _ _ ((aC l1 j3).f4) _ _ ((aC l1 j3).f5) false _ (aC_ (Kd.aH jm.out HB.out)) jE.out (aC_ (Kd.aH jn.out HB.out)) jF.out (aC_ (Kd.aH jo.out HB.out)) jG.out (aC_ (Kd.aH jp.out HB.out)) jH.out (aC_ (Kd.aH jq.out HB.out)) jI.out (aC_ (Kd.aH jr.out HB.out)) jJ.out A7.out).mono ?_
       rintro e q4 ⟨rfl,hb⟩
       refine ⟨_,rfl,?_⟩
       replace HB:=am (aB dK hb)
       (try clear hb)
       (try clear hb2)
       (try clear hk)
       (try clear hi)
       refine hK.out _ _ ⟨((HB.out.cell (World.block_lt_of_cell? w _ hw28_0)).trans hw28_0),((HB.out.cell (World.block_lt_of_cell? w _ hw28_1)).trans hw28_1),((HB.out.cell (World.block_lt_of_cell? w _ hw28_2)).trans hw28_2),((HB.out.cell (World.block_lt_of_cell? w _ hw28_3)).trans hw28_3),((HB.out.cell (World.block_lt_of_cell? w _ hw28_4)).trans hw28_4),((HB.out.cell (World.block_lt_of_cell? w _ hw28_5)).trans hw28_5),((HB.out.cell (World.block_lt_of_cell? w _ hw28_6)).trans hw28_6),((HB.out.cell (World.block_lt_of_cell? w _ hw28_7)).trans hw28_7),((HB.out.cell (World.block_lt_of_cell? w _ hw29_0)).trans hw29_0),((HB.out.cell (World.block_lt_of_cell? w _ hw29_1)).trans hw29_1),((HB.out.cell (World.block_lt_of_cell? w _ hw29_2)).trans hw29_2),((HB.out.cell (World.block_lt_of_cell? w _ hw29_3)).trans hw29_3),((HB.out.cell (World.block_lt_of_cell? w _ hw29_4)).trans hw29_4),((HB.out.cell (World.block_lt_of_cell? w _ hw29_5)).trans hw29_5),((HB.out.cell (World.block_lt_of_cell? w _ hw29_6)).trans hw29_6),((HB.out.cell (World.block_lt_of_cell? w _ hw29_7)).trans hw29_7)⟩ (fun hHeld=>?_)
       clear hK K
       refine xP (a':=?_) ?_ ?_
       rotate_left
       ·exact ap_ (N:=25)
       refine pr_ 9 26 (bz 10 1023) HT_ ?_
       refine BM (sS HT_.out (by kernel_rfl)) ?_
       try go_wp2
       go_ret
       exact ⟨rr_,dK⟩
      rw [if_neg c6] at H
      exact absurd H (by simp)
     rw [if_neg c5] at H
     exact absurd H (by simp)
    rw [if_neg c4] at H
    have jS:decide (j3 < (l0.length:Int))=false:=decide_eq_false c4
    clear c4
    obtain rfl:=Option.some.inj H
    go_wp2
    go_ret
    exact ⟨rr_,dK⟩
 rw [if_neg c3] at H
 have jO:((l0.length:Int) == (l1.length:Int))=false:=beq_eq_false_iff_ne.mpr c3
 have jP:((l0.length:Int) != (l1.length:Int))=true:=bne_iff_ne.mpr c3
 have jQ:(l0.length == l1.length)=false:=by first|simpa using c3|(simp at c3 ⊢;omega)
 obtain rfl:=Option.some.inj H
 go_enter Try.func17,Try.ntmps17
 go_wp2
 go_ret
 exact ⟨rr_,dK⟩
theorem bU.calls_all (k:Nat):bU.bF k∧aO.bF k:=by
 induction k using Nat.strongRecOn with
 | _ k ih=>exact ⟨bU.step k (ih_laws_eqStmt:=fun m hm=>(ih m hm).1) (ih_laws_eqStmtS:=fun m hm=>(ih m hm).2),aO.step k (ih_laws_eqStmt:=fun m hm=>(ih m hm).1) (ih_laws_eqStmtS:=fun m hm=>(ih m hm).2)⟩
theorem bU.calls (k:Nat):bU.bF k:=(bU.calls_all k).1
theorem aO.calls (k:Nat):aO.bF k:=(bU.calls_all k).2
end Go.Proofs.Ythiegfpcfedbgaa.PA

