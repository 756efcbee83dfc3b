/- Part 3. -/
import Derived.Test.YthiegfpcfedbgaaQFnExactProgramFold1
import Derived.Test.YthiegfpcfedbgaaProg
import Derived.Below
import Derived.Deep.Draws
import Derived.Deep.AppendLies
import Derived.OwnWalk
import Derived.Tactics
import Derived.WalkKit
import Derived.KernelRfl
import Derived.RowKit3
import Derived.Deep.LoopGhost
import Derived.Deep.QuietTactic
import Derived.BigQuiet
import Derived.WideLaws
import Derived.Laws.Rows
import Derived.RowKit
import Derived.Lib.SliceRun
set_option maxHeartbeats 8000000
set_option maxRecDepth 100000
namespace Go.Proofs.Ythiegfpcfedbgaa.PA
open Go.RowKit Go.Proofs.YthiegfpcfedbgaaW.PrintWords Go.Proofs.YthiegfpcfedbgaaW.PrintLast Go.Proofs.YthiegfpcfedbgaaW.PrintMore
set_option linter.unusedVariables false
set_option linter.unusedSimpArgs false
section
variable {P:Program} {ops:Array Oper} {o:Oper} {a:Act} {Q:Exit→Act→World→Prop} {Kc:Act→World→Prop} {α:Type}
theorem vB (d:Kd α) {w0 W:World} (base:Nat) (hw:Region.wanted o (yielded ops a.tmps)=true) (s x:Operand) (t e:TypeId) (z:Value) (bytes:Nat)
  (ho:o.op= .call { callee:= .builtin .append,args:=#[s,x],argTypes:=#[t,t] })
  (ht:P.underlying t=some (.slice e)) (hinfo:(P.info? e).map (fun i=>(i.zero,i.size,i.bytes))=some (some z,d.sz,bytes)) (hz:z.cells.size=d.sz) (j3:0 < d.sz) (hb0:0 < bytes)
  (v:Value) (xs:List α) (p:α) (cs:List Value) (ok okp:Nat→Prop) (hs:a.eval s=v) (hx:a.eval x= .slice (some ⟨W.heap.size,0,none⟩) 1 1) (hp:d.M W base okp p cs) (hokp:∀ k,okp k→ok k∧some k≠v.ownBlock) (hfresh:∀ k,W.heap.size≤k→ok k)
  (HO:Kd.S d e W base (fun k=>ok k∧¬ okp k) v xs) (HB:Below base w0 W) (hbase:base≤W.heap.size) (hl:(xs.length + 1) * bytes≤140737488355328)
  (h:∀ v1 w1,Kd.S d e w1 base ok v1 (xs ++ [p])→Below base w0 w1→W.grownBy w1 v.ownBlock→(v1.ownBlock=v.ownBlock∨∃ b,v1.ownBlock=some b∧W.heap.size≤b)→Kc (a.put o.dst v1) w1):
  if Region.wanted o (yielded ops a.tmps)=true then Oper.wp P o a (W.alloc (.cells cs.toArray e)) Kc Q else Kc (a.put o.dst undef) (W.alloc (.cells cs.toArray e)):=by
 obtain ⟨f1,h1⟩:=HO
 obtain ⟨f,hf1,hf2⟩:∃ f:Nat→Nat,(∀ k,¬ okp k→f k=f1 k)∧(∀ k,okp k→f k=xs.length):=by
  open Classical in
  exact ⟨fun k=>if okp k then xs.length else f1 k,fun k hk=>if_neg hk,fun k hk=>if_pos hk⟩
 have h1':(Kd.tag f d).R e W base (fun k=>ok k∧¬ okp k) v xs.zipIdx:=Kd.RQ h1 (fun k hk _=>hf1 k hk.2)
 refine Kd.rA (Kd.tag f d) base hw s x t e z bytes ho ht hinfo hz j3 hb0 v xs.zipIdx (p,xs.length) cs ok okp hs hx (d.M_mono (fun k hk=>⟨hk,hf2 k hk⟩) hp) hokp hfresh (Kd.gL h1' (fun _ hk=>hk.1)) HB hbase (by rw [List.length_zipIdx];exact hl) ?_
 intro v1 w1 hr
 rw [show xs.zipIdx ++ [(p,xs.length)]=(xs ++ [p]).zipIdx by rw [List.zipIdx_append,Nat.zero_add];rfl] at hr
 exact h v1 w1 ⟨f,hr⟩
end
theorem aV.callsS (k:Nat) (A1:Option Addr) (c1:Nat) (l1:List Int) (A2:Option Addr) (c2:Nat) (l2:List (List S70)) (r1:List Int) (r2:List (List S70)) (r3:Bool) (w:World) (h1:Kd.C (Kd.int .i64) w A1 l1.length l1) (m1:l1.length≤c1) (h2:Kd.C (Kd.slice 70 k70) w A2 l2.length l2) (m2:l2.length≤c2) (h:aV.f k l1 l2=some (r1,r2,r3)):
  Calls Try.prog 23 #[.agg #[(.slice A1 l1.length c1),(.slice A2 l2.length c2)]] w fun e w'=>∃ (B1:Option Addr) (d1:Nat) (B2:Option Addr) (d2 mid:Nat),e= .returned (.tuple #[.agg #[(.slice B1 r1.length d1),(.slice B2 r2.length d2)], .bool r3])∧Kd.R (Kd.int .i64) 3 w' w.heap.size (fun q=>w.heap.size≤q∧q < mid) (.slice B1 r1.length d1) r1∧Kd.S kP 37 w' w.heap.size (fun q=>w.heap.size≤q∧mid≤q) (.slice B2 r2.length d2) r2∧Below w.heap.size w w':=by
 unfold aV.f at h
 obtain ⟨b,hv,h⟩:=Option.bind_eq_some_iff.mp h
 have H1:=Aside0.mk h1
 have H2:=Aside0.mk h2
 have L1:=Aside0.mk m1
 have L2:=Aside0.mk m2
 have HV:=Aside0.mk hv
 clear h1 h2 m1 m2 hv
 cases b
 case false=>
  rw [if_neg Bool.false_ne_true] at h
  simp only [Option.some.injEq,Prod.mk.injEq] at h
  obtain ⟨rfl,rfl,rfl⟩:=h
  go_enter Try.func23,Try.ntmps23
  go_wp2_with (first|((with_reducible refine bJ (N:=1) rfl ?_);refine bR ?hg (N:=1) ?hd (cs:=#[(.slice A1 l1.length c1),(.slice A2 l2.length c2)]) (t:=51) ?hr ?_;(case hd=>rfl);(case hg=>rfl);(case hr=>first|(go_simp;done)|(go_simp;rfl));intro g1 hg w1 hbox hb;have X1:=Aside0.mk hbox;have B0:=Aside0.mk hb;clear hb hbox hg)|((with_reducible refine bJ (N:=2) rfl ?_);refine bR ?hg (N:=2) ?hd (cs:=#[(.slice none 0 0),(.slice none 0 0)]) (t:=51) ?hr ?_;(case hd=>rfl);(case hg=>rfl);(case hr=>first|(go_simp;done)|(go_simp;rfl));intro g2 hg w2 hbox hb;have jb:=Aside0.mk (show w.heap.size≤g2 by rw [hg];exact B0.out.size);have NE12:Aside0 (g1 < g2):=⟨by rw [hg];exact dM X1.out⟩;replace X1:=Aside0.mk (aJ X1.out hb);replace B0:=Aside0.mk (aC B0.out hb);have X2:=Aside0.mk hbox;have ne12:=Nat.ne_of_lt NE12.out;have ne21:=Ne.symm ne12;have j3:w2.cell? ⟨g1,0,none⟩=some (.slice A1 l1.length c1):=aA X1.out 0;have j4:=aH X1.out 0;have j5:w2.cell? ⟨g1,1,none⟩=some (.slice A2 l2.length c2):=aA X1.out 1;have j6:=aH X1.out 1;have j7:w2.cell? ⟨g2,0,none⟩=some (.slice none 0 0):=aA X2.out 0;have j8:=aH X2.out 0;have j9:w2.cell? ⟨g2,1,none⟩=some (.slice none 0 0):=aA X2.out 1;have ja:=aH X2.out 1;clear hb hbox hg)|((with_reducible refine aD (f:=48) rfl ?_);refine aU (some 8) rfl rfl Try.func48 (by kernel_rfl) rfl #[.agg #[(.slice A1 l1.length c1),(.slice A2 l2.length c2)]] rfl (by (try simp only [List.map_toArray,List.map_cons,List.map_nil]);first|done|rfl) ?_;(with_reducible refine (aW.calls k _ _ l1 _ _ l2 false _ (Kd.aI H1.out B0.out) L1.out (Kd.aI H2.out B0.out) L2.out HV.out).mono ?_);rintro e w3 ⟨rfl,hb⟩;refine ⟨_,rfl,?_⟩;replace X1:=Aside0.mk (aJ X1.out hb);replace X2:=Aside0.mk (aJ X2.out hb);replace B0:=Aside0.mk (aC B0.out hb);clear hb;clear j3 j4 j5 j6 j7 j8 j9 ja;have j3:w3.cell? ⟨g1,0,none⟩=some (.slice A1 l1.length c1):=aA X1.out 0;have j4:=aH X1.out 0;have j5:w3.cell? ⟨g1,1,none⟩=some (.slice A2 l2.length c2):=aA X1.out 1;have j6:=aH X1.out 1;have j7:w3.cell? ⟨g2,0,none⟩=some (.slice none 0 0):=aA X2.out 0;have j8:=aH X2.out 0;have j9:w3.cell? ⟨g2,1,none⟩=some (.slice none 0 0):=aA X2.out 1;have ja:=aH X2.out 1)|fail)
  refine bodyPost_ret (nC rfl _ _ g2 51 #[(.slice none 0 0),(.slice none 0 0)] (0,0) _ rfl (aT (cs':=#[(.slice none 0 0),(.slice none 0 0)]) (aT (cs':=#[(.slice none 0 0),(.slice none 0 0)]) X2.out 0 (.slice none 0 0) rfl) 1 (.slice none 0 0) rfl) Try.underlying51 rfl (by kernel_rfl)) rfl ?_
  exact ⟨none,0,none,0,0,rfl,Kd.uZ _ _ _ _ _,Kd.oP _ _ _ _ _,(below_set (j:=1) (v:=(.slice none 0 0)) (below_set (j:=0) (v:=(.slice none 0 0)) B0.out jb.out) jb.out)⟩
 rw [if_pos rfl] at h
 obtain ⟨t,ht,h⟩:=Option.bind_eq_some_iff.mp h
 have HT:=Aside0.mk ht
 have H':=Aside0.mk h
 clear ht h
 go_enter Try.func23,Try.ntmps23
 go_wp2_with (first|((with_reducible refine bJ (N:=1) rfl ?_);refine bR ?hg (N:=1) ?hd (cs:=#[(.slice A1 l1.length c1),(.slice A2 l2.length c2)]) (t:=51) ?hr ?_;(case hd=>rfl);(case hg=>rfl);(case hr=>first|(go_simp;done)|(go_simp;rfl));intro g1 hg w1 hbox hb;have X1:=Aside0.mk hbox;have B0:=Aside0.mk hb;clear hb hbox hg)|((with_reducible refine bJ (N:=2) rfl ?_);refine bR ?hg (N:=2) ?hd (cs:=#[(.slice none 0 0),(.slice none 0 0)]) (t:=51) ?hr ?_;(case hd=>rfl);(case hg=>rfl);(case hr=>first|(go_simp;done)|(go_simp;rfl));intro g2 hg w2 hbox hb;have jb:=Aside0.mk (show w.heap.size≤g2 by rw [hg];exact B0.out.size);have NE12:Aside0 (g1 < g2):=⟨by rw [hg];exact dM X1.out⟩;replace X1:=Aside0.mk (aJ X1.out hb);replace B0:=Aside0.mk (aC B0.out hb);have X2:=Aside0.mk hbox;have ne12:=Nat.ne_of_lt NE12.out;have ne21:=Ne.symm ne12;have j3:w2.cell? ⟨g1,0,none⟩=some (.slice A1 l1.length c1):=aA X1.out 0;have j4:=aH X1.out 0;have j5:w2.cell? ⟨g1,1,none⟩=some (.slice A2 l2.length c2):=aA X1.out 1;have j6:=aH X1.out 1;have j7:w2.cell? ⟨g2,0,none⟩=some (.slice none 0 0):=aA X2.out 0;have j8:=aH X2.out 0;have j9:w2.cell? ⟨g2,1,none⟩=some (.slice none 0 0):=aA X2.out 1;have ja:=aH X2.out 1;clear hb hbox hg)|((with_reducible refine aD (f:=48) rfl ?_);refine aU (some 8) rfl rfl Try.func48 (by kernel_rfl) rfl #[.agg #[(.slice A1 l1.length c1),(.slice A2 l2.length c2)]] rfl (by (try simp only [List.map_toArray,List.map_cons,List.map_nil]);first|done|rfl) ?_;(with_reducible refine (aW.calls k _ _ l1 _ _ l2 true _ (Kd.aI H1.out B0.out) L1.out (Kd.aI H2.out B0.out) L2.out HV.out).mono ?_);rintro e w3 ⟨rfl,hb⟩;refine ⟨_,rfl,?_⟩;replace X1:=Aside0.mk (aJ X1.out hb);replace X2:=Aside0.mk (aJ X2.out hb);replace B0:=Aside0.mk (aC B0.out hb);clear hb;clear j3 j4 j5 j6 j7 j8 j9 ja;have j3:w3.cell? ⟨g1,0,none⟩=some (.slice A1 l1.length c1):=aA X1.out 0;have j4:=aH X1.out 0;have j5:w3.cell? ⟨g1,1,none⟩=some (.slice A2 l2.length c2):=aA X1.out 1;have j6:=aH X1.out 1;have j7:w3.cell? ⟨g2,0,none⟩=some (.slice none 0 0):=aA X2.out 0;have j8:=aH X2.out 0;have j9:w3.cell? ⟨g2,1,none⟩=some (.slice none 0 0):=aA X2.out 1;have ja:=aH X2.out 1)|((with_reducible refine aD (f:=49) rfl ?_);refine aU (some 13) rfl rfl Try.func49 (by kernel_rfl) rfl #[.slice A1 l1.length c1] rfl (by (try simp only [List.map_toArray,List.map_cons,List.map_nil]);first|done|rfl) ?_;(with_reducible refine (gD.calls _ _ l1 t _ (Kd.aI H1.out B0.out) L1.out HT.out).mono ?_);rintro e w4 ⟨v,rfl,hn,hb⟩;refine ⟨_,rfl,?_⟩;obtain ⟨C1,e1,rfl⟩:=Kd.nI hn;have hle:=B0.out.size;have hl2:=dM X2.out;have O1:=Aside0.mk (Kd.gL (ok':=fun q=>w.heap.size≤q∧q < w4.heap.size∧q≠g2) (Kd.lC (Kd.kE hn) hle) (fun q hq=>⟨Nat.le_trans hle hq.2.1,hq.2.2.1,Nat.ne_of_gt (Nat.lt_of_lt_of_le hl2 hq.2.1)⟩));replace X1:=Aside0.mk (aJ X1.out hb);replace X2:=Aside0.mk (aJ X2.out hb);replace B0:=Aside0.mk (aC B0.out hb);clear hb hn hle hl2;clear j3 j4 j5 j6 j7 j8 j9 ja;have j3:w4.cell? ⟨g1,0,none⟩=some (.slice A1 l1.length c1):=aA X1.out 0;have j4:=aH X1.out 0;have j5:w4.cell? ⟨g1,1,none⟩=some (.slice A2 l2.length c2):=aA X1.out 1;have j6:=aH X1.out 1;have j7:w4.cell? ⟨g2,0,none⟩=some (.slice none 0 0):=aA X2.out 0;have j8:=aH X2.out 0;have j9:w4.cell? ⟨g2,1,none⟩=some (.slice none 0 0):=aA X2.out 1;have ja:=aH X2.out 1)|((with_reducible refine bJ (N:=4) rfl ?_);refine bR ?hg (N:=4) ?hd (cs:=#[(.slice none 0 0),(.slice none 0 0)]) (t:=51) ?hr ?_;(case hd=>rfl);(case hg=>rfl);(case hr=>first|(go_simp;done)|(go_simp;rfl));intro g4 hg w5 hbox hb;have NE24:Aside0 (g2 < g4):=⟨by rw [hg];exact dM X2.out⟩;replace O1:=Aside0.mk (Kd.gL (ok':=fun q=>w.heap.size≤q∧q < g4∧q≠g2) (Kd.eT O1.out hb) (fun q hq=>⟨hq.1,by rw [hg];exact hq.2.1,hq.2.2⟩));have jc:Aside0 (w.heap.size≤g4):=⟨by have:=jb.out;have:=NE24.out;omega⟩;replace X1:=Aside0.mk (aJ X1.out hb);replace X2:=Aside0.mk (aJ X2.out hb);replace B0:=Aside0.mk (aC B0.out hb);have X4:=Aside0.mk hbox;have ne24:=Nat.ne_of_lt NE24.out;have ne42:=Ne.symm ne24;have ne14:g1≠g4:=(by have:=NE12.out;have:=NE24.out;omega);have ne41:=Ne.symm ne14;clear j3 j4 j5 j6 j7 j8 j9 ja;have j3:w5.cell? ⟨g1,0,none⟩=some (.slice A1 l1.length c1):=aA X1.out 0;have j4:=aH X1.out 0;have j5:w5.cell? ⟨g1,1,none⟩=some (.slice A2 l2.length c2):=aA X1.out 1;have j6:=aH X1.out 1;have je:w5.cell? ⟨g4,0,none⟩=some (.slice none 0 0):=aA X4.out 0;have jf:=aH X4.out 0;have jg:w5.cell? ⟨g4,1,none⟩=some (.slice none 0 0):=aA X4.out 1;have jh:=aH X4.out 1;clear hb hbox hg)|fail)
 go_loopg [18] k (fun kq ji w'=>∃ (i:Int) (xs:List (List S70)) (u:Value),ji= .int .i64 i∧Aside0 (aV.l0 kq l2 (l2.length:Int) i t xs=some (r1,r2,r3))∧Aside0 (kq≤k)∧Aside0 (Kd.R (Kd.int .i64) 3 w' w.heap.size (fun q=>w.heap.size≤q∧q < g4∧q≠g2) (.slice C1 t.length e1) t)∧Aside0 (Kd.S kP 37 w' w.heap.size (fun q=>g4 < q) u xs)∧Aside0 (w'.heap[g2]?=some (.cells #[(.slice none 0 0),(.slice none 0 0)] 51 (0,0)))∧Aside0 (w'.heap[g4]?=some (.cells #[(.slice C1 t.length e1),u] 51 (0,0)))∧Aside0 (Below w.heap.size w w'))
 case atStart=>exact ⟨0,[],(.slice none 0 0),(by first|rfl|(simp;done)),H',⟨Nat.le_refl _⟩,⟨(Kd.lM (p:=⟨g4,1,none⟩) (Kd.lM (p:=⟨g4,0,none⟩) O1.out (fun q hq=>Nat.ne_of_lt hq.2.1) (.slice C1 t.length e1)) (fun q hq=>Nat.ne_of_lt hq.2.1) (.slice none 0 0))⟩,⟨Kd.oP _ _ _ _ _⟩,⟨(bQ (p:=⟨g4,1,none⟩) (bQ (p:=⟨g4,0,none⟩) X2.out (Nat.ne_of_lt NE24.out) (.slice C1 t.length e1)) (Nat.ne_of_lt NE24.out) (.slice none 0 0))⟩,⟨(aT (cs':=#[(.slice C1 t.length e1),(.slice none 0 0)]) (aT (cs':=#[(.slice C1 t.length e1),(.slice none 0 0)]) X4.out 0 (.slice C1 t.length e1) rfl) 1 (.slice none 0 0) rfl)⟩,⟨(below_set (j:=1) (v:=(.slice none 0 0)) (below_set (j:=0) (v:=(.slice C1 t.length e1)) B0.out jc.out) jc.out)⟩⟩
 case round=>
  clear H' O1 X2 X4 B0 X1 HV j3 j5 j4 j6 je jg jf jh
  obtain ⟨i,xs,u,rfl,HA,jd,O1,O2,X2,X4,HB⟩:=hrel
  cases gk with
  |zero=>exact absurd HA.out (by simp [aV.l0])
  |succ k1=>
   have H:=HA.out
   clear HA
   simp only [aV.l0] at H
   by_cases c6:i < (l2.length:Int)
   case neg=>
    rw [if_neg c6] at H
    have jj:decide (i < (l2.length:Int))=false:=decide_eq_false c6
    clear c6
    simp only [Option.some.injEq,Prod.mk.injEq] at H
    obtain ⟨rfl,rfl,rfl⟩:=H
    obtain ⟨C2,e2,rfl⟩:=Kd.gI O2.out
    obtain ⟨q0,q1,q2,q3⟩:=iP X4.out
    obtain ⟨p0,p1,p2,p3⟩:=iP X2.out
    go_wp2
    refine bodyPost_ret (nC rfl _ _ g2 51 #[(.slice C1 t.length e1),(.slice C2 xs.length e2)] (0,0) _ rfl (aT (cs':=#[(.slice C1 t.length e1),(.slice C2 xs.length e2)]) (aT (cs':=#[(.slice C1 t.length e1),(.slice none 0 0)]) X2.out 0 (.slice C1 t.length e1) rfl) 1 (.slice C2 xs.length e2) rfl) Try.underlying51 rfl (by kernel_rfl)) rfl ?_
    exact ⟨_,_,_,_,g4,rfl,Kd.gL (Kd.lM (p:=⟨g2,1,none⟩) (Kd.lM (p:=⟨g2,0,none⟩) O1.out (fun q hq=>hq.2.2) (.slice C1 t.length e1)) (fun q hq=>hq.2.2) (.slice C2 xs.length e2)) (fun q hq=>⟨hq.1,hq.2.1⟩),Kd.fE (Kd.eD (p:=⟨g2,1,none⟩) (Kd.eD (p:=⟨g2,0,none⟩) O2.out (fun q hq=>show q≠g2 by have:=NE24.out;have:g4 < q:=hq;omega) (.slice C1 t.length e1)) (fun q hq=>show q≠g2 by have:=NE24.out;have:g4 < q:=hq;omega) (.slice C2 xs.length e2)) (fun q hq=>⟨Nat.le_trans jc.out (Nat.le_of_lt hq),Nat.le_of_lt hq⟩),(below_set (j:=1) (v:=(.slice C2 xs.length e2)) (below_set (j:=0) (v:=(.slice C1 t.length e1)) HB.out jb.out) jb.out)⟩
   rw [if_pos c6] at H
   by_cases c7:0≤i
   case neg=>rw [if_neg c7] at H;exact absurd H (by simp)
   rw [if_pos c7,if_pos c6] at H
   obtain ⟨y,hy,H⟩:=Option.bind_eq_some_iff.mp H
   by_cases c8:xs.length < 5864062014805
   case neg=>rw [if_neg c8] at H;exact absurd H (by simp)
   rw [if_pos c8] at H
   have HY:=Aside0.mk hy
   have HR:=Aside0.mk H
   have LM:=Aside0.mk c8
   clear hy H c8
   obtain ⟨ad,A5,c5,e0,m0,l5,g5⟩:=nY H2.out i c7 c6
   cases e0
   replace m0:=(HB.out.cell (World.block_lt_of_cell? w _ m0)).trans m0
   have G5:=Aside0.mk g5
   have L5:=Aside0.mk l5
   have jj:decide (i < (l2.length:Int))=true:=decide_eq_true c6
   have q0:=eq_true c7
   have q1:=eq_true c6
   clear g5 l5 c6 c7
   go_wp2
   replace O1:=Aside0.mk (Kd.tF O1.out)
   replace O2:=Aside0.mk (Kd.FB O2.out)
   replace X2:=Aside0.mk (eH X2.out)
   replace X4:=Aside0.mk (eH X4.out)
   replace HB:=Aside0.mk (bX HB.out)
   refine nD (n:=8) (S:=fun w'=>w'.cell? ⟨g4,0,none⟩=some (.slice C1 t.length e1)∧w'.cell? ⟨g4,1,none⟩=some u) (ds:=[7]) (bz 8 0) (by kernel_rfl) rfl rfl (II X4.out) (fun hHeld=>?_);refine iY aV.aAk aV.NW (fun HT_ HW_=>?_)
   generalize wr.drew=W0 at O1 O2 X2 X4 HB hHeld ⊢
   refine pr_ 0 22 (bz 8 1) HT_ ?_
   refine pr_ 2 24 (bz 8 5) HT_ ?_
   refine PW 1 23 (bz 8 7) HT_ HW_ hHeld ?_
   refine pI (i:=3) (N:=some 25) (bz 8 15) rfl rfl (iO HT_.out (by kernel_rfl)) (by decide) (fun K hK=>?_)
   refine lH Try.func41 (by kernel_rfl) rfl #[.slice A5 (fU l2 i).length c5] (by rfl) rfl rfl (by (try simp only [List.map_toArray,List.map_cons,List.map_nil]);first|done|rfl) ?_
   refine (aM.callsS k1 A5 c5 (fU l2 i) y _ (Kd.aI G5.out HB.out) L5.out HY.out).mono ?_
   rintro e W1 ⟨v,rfl,hn,hb⟩
   refine ⟨_,rfl,?_⟩
   obtain ⟨B5,d5,rfl⟩:=Kd.gI hn
   have LT:=Aside0.mk (dM X4.out)
   have LE:=Aside0.mk hb.size
   have Y:=Aside0.mk (Kd.iR hn HB.out.size)
   replace O2:=Aside0.mk (Kd.fE (ok':=fun q=>g4 < q∧q < W0.heap.size) (Kd.fC (Kd.iD O2.out) hb) (fun q hq=>⟨hq.1,hq.2.2.1⟩))
   replace O1:=Aside0.mk (Kd.eT O1.out hb)
   replace X2:=Aside0.mk (aJ X2.out hb)
   replace X4:=Aside0.mk (aJ X4.out hb)
   replace HB:=Aside0.mk (aC HB.out hb)
   clear hn hb
   refine hK.out _ _ (II X4.out) (fun hHeld=>?_)
   clear hK K
   refine lQ (a':=?_) ?_ ?_
   rotate_left
   ·exact ap_ (N:=25)
   refine pI (i:=4) (N:=some 26) (bz 8 31) rfl rfl (iO HT_.out (by kernel_rfl)) (by decide) (fun K hK=>?_)
   refine NC (w1:=?_) (v:=?_) (by rfl) rfl ?_ ?_
   rotate_left 2
   ·go_simp
    constructor
    ·rfl
    ·rfl
   refine hK.out _ _ (II (fH X4.out _)) (fun hHeld=>?_)
   clear hK K
   refine lQ (a':=?_) ?_ ?_
   rotate_left
   ·exact ap_ (N:=26)
   refine pI (i:=5) (N:=some 27) (bz 8 63) rfl rfl (iO HT_.out (by kernel_rfl)) (by decide) (fun K hK=>?_)
   have OB:=(Kd.S_R O2.out).1
   have hlt:=LT.out
   refine vB kP (w0:=w) w.heap.size (by rfl) (.tmp 23) (.tmp 26) 49 37 (.slice none 0 0) 24 rfl Try.underlying49 FX rfl (by decide) (by omega) u xs y [.slice B5 y.length d5] (fun q=>g4 < q) (fun q=>W0.heap.size≤q) rfl rfl ⟨_,rfl,Y.out⟩ (fun q hq=>⟨Nat.lt_of_lt_of_le hlt hq,fun e=>Nat.lt_irrefl _ (Nat.lt_of_lt_of_le (OB q e.symm).2 hq)⟩) (fun q hq=>Nat.lt_of_lt_of_le hlt (Nat.le_trans LE.out hq)) (Kd.fE O2.out (fun q hq=>⟨hq.1,Nat.not_le_of_lt hq.2⟩)) HB.out HB.out.size (by have:=LM.out;omega) ?_
   intro v w2 ho hb hg hat
   generalize xs ++ [y]=YS at ho HR
   have hne:∀ q,q≤g4→some q≠u.ownBlock:=fun q hq e=>by have:=(OB q e.symm).1;omega
   replace O1:=Aside0.mk (Kd.rQ O1.out (fun q hq hl_=>hg.block q hl_ (hne q (Nat.le_of_lt hq.2.1))))
   replace X2:=Aside0.mk (iM X2.out hg (hne g2 (Nat.le_of_lt NE24.out)))
   replace X4:=Aside0.mk (iM X4.out hg (hne g4 (Nat.le_refl _)))
   replace HB:=Aside0.mk hb
   obtain ⟨B7,d7,rfl⟩:=Kd.gI ho
   replace O2:=Aside0.mk ho
   clear ho hb hg hat hne OB hlt Y LE
   refine hK.out _ _ (II X4.out) (fun hHeld=>?_)
   clear hK K
   refine lQ (a':=?_) ?_ ?_
   rotate_left
   ·exact ap_ (N:=27)
   refine pr_ 6 28 (bz 8 127) HT_ ?_
   refine TJ (i:=7) (N:=none) (bz 8 255) rfl rfl (iO HT_.out (by kernel_rfl)) (by decide) (fun K hK=>?_)
   have jk:w2.cell? ⟨g4,1,none⟩=some u:=(aA X4.out 1).trans rfl
   have hfs28:=aH X4.out 1
   refine yG (w1:=?_) (by rfl) rfl ?_ ?_
   rotate_left
   ·go_simp
    rfl
   refine hK.out _ _ ?_
   clear hK K
   refine rG (lJ HT_.out (by kernel_rfl)) ?_
   go_wp2
   go_roundg k1
   case measure=>have:=jd.out;omega
   case rel=>exact ⟨wrap64 (i + 1),YS,(.slice B7 YS.length d7),(by first|rfl|(simp;done)|(simp [*];done)),HR,⟨by have:=jd.out;omega⟩,⟨Kd.lM (p:=⟨g4,1,none⟩) O1.out (fun q hq=>Nat.ne_of_lt hq.2.1) _⟩,⟨Kd.eD (p:=⟨g4,1,none⟩) O2.out (fun q hq=>Nat.ne_of_gt hq) _⟩,⟨bQ (p:=⟨g4,1,none⟩) X2.out (Nat.ne_of_lt NE24.out) _⟩,⟨aT X4.out 1 _ rfl⟩,⟨below_set HB.out jc.out⟩⟩
attribute [local go_sem] max2_int min2_int max_two min_two max_three min_three max_four min_four
set_option linter.unusedVariables false
set_option linter.unusedSimpArgs false
theorem dI.mono_l:∀ k,(∀ y0 y1 y2,LeO (dI.l0 k y0 y1 y2) (dI.l0 (k + 1) y0 y1 y2))
 |0=>fun _ _ _ r h=>by simp [dI.l0] at h
 |k + 1=>by
  have ih0:=dI.mono_l k
  ·intro y0 y1 y2
   unfold dI.l0
   exact mo_
theorem dI.mono:∀ a0 a1 k,LeO (dI.f k a0 a1) (dI.f (k + 1) a0 a1):=by
 intro a0 a1 k
 have ih0:=dI.mono_l k
 unfold dI.f
 exact mo_
theorem dI.calls (k:Nat) (P0_:Nat→Prop) (j7:Value) (l0:List Int) (a1:Int) (r1:Int) (r2:List Int) (w0 w:World) (hB:Below w0.heap.size w0 w) (ho0:Kd.R (Kd.int .i64) 3 w w0.heap.size P0_ j7 l0) (h:dI.f k l0 a1=some (r1,r2)):
  Calls Try.prog 52 #[j7, .int .i64 a1] w fun e w'=>e= .returned (.int .i64 r1)∧Kd.R (Kd.int .i64) 3 w' w0.heap.size (fun k_=>(P0_ k_∨w.heap.size≤k_)) j7 r2∧Below w0.heap.size w0 w'∧Kept w w' (fun k_=>P0_ k_):=by
 have jh:=am (show Kd.R (Kd.int .i64) 3 w w0.heap.size (fun k_=>(P0_ k_∨w.heap.size≤k_)) j7 l0 from Kd.gL ho0 (fun k_ hk=>(.inl hk)))
 have HK:=am (Kept.refl w (fun k_=>P0_ k_))
 have HW0:=am hB.size
 have HB:=am hB
 clear hB
 have H:(dI.l0 k l0 a1 0)=some (r1,r2):=h
 clear h
 have H':=am H
 clear H
 go_enter Try.func52,Try.ntmps52
 go_wp2
 go_loopg [1,5] k (fun kq v1 v5 w'=>∃ (j5:List Int) (j6:Int) (j3:Int),v1= .int .i64 j6∧v5= .int .i64 j3∧Aside0 (dI.l0 kq j5 j6 j3=some (r1,r2))∧Aside0 (kq≤k)∧Aside0 (Kd.R (Kd.int .i64) 3 w' w0.heap.size (fun k_=>(P0_ k_∨w.heap.size≤k_)) j7 j5)∧Aside0 (Kept w w' (fun k_=>P0_ k_))∧Aside0 (Below w0.heap.size w0 w'))
 case atStart=>exact ⟨(l0),(a1),(0),sd_,sd_,H',⟨Nat.le_refl _⟩,⟨vL jh.out⟩,⟨NV⟩,⟨dN⟩⟩
 case round=>
  clear H'
  obtain ⟨j5,j6,j3,rfl,rfl,HA,jc,j4,HK,HB⟩:=hrel
  cases gk with
  |zero=>exact absurd HA.out (by simp [dI.l0])
  |succ k1=>
   have H:=HA.out
   clear HA
   simp only [dI.l0] at H
   by_cases c3:j3 < (j5.length:Int)
   ·rw [if_pos c3] at H
    have j9:decide (j3 < (j5.length:Int))=true:=decide_eq_true c3
    clear c3
    by_cases c4:0≤j3
    ·rw [if_pos c4] at H
     have ji:decide (0≤j3)=true:=decide_eq_true c4
     clear c4
     obtain ⟨ja,hy_⟩:∃ y_:List Int,y_=(j5.set (j3:Int).toNat j6):=⟨_,rfl⟩
     replace H:(dI.l0 k1 ja (wrap64 (j6 + 1)) (wrap64 (j3 + 1)))=some (r1,r2):=rx_
     have jb:=am hy_
     clear hy_
     have H':=am H
     clear H
     obtain ⟨jm,jj,jk⟩:=Kd.nI j4.out
     subst jk
     have p5:0≤(j3:Int):=of_decide_eq_true bT
     have q5:(j3:Int) < ((j5.length:Int):Int):=of_decide_eq_true bT
     obtain ⟨j8,jn,jd,je,gl5,cl5,jf⟩:=Kd.LV j4.out (by omega)
     (first|cases jd|(injection jd with ea_ en_ ec_;(first|subst ea_|(injection ea_ with ea_;subst ea_));subst ec_;clear en_))
     have GB5:=am je
     have jo:=am jf
     clear je gl5 jf
     have HMgo5:=am (show (P0_ j8∨w.heap.size≤j8) from (j4.out.1 _ rfl))
     obtain ⟨jg,hf5_0⟩:=Kd.NP 0 j4.out (j3:Int) p5 q5
     replace p5:=eq_true p5
     replace q5:=eq_true q5
     have HP7:=Kd.RP j4.out (j3:Int) j6
     go_wp2_with (first|((with_reducible refine iN (t:=3) (p:=15) rfl ?_);refine yH (t:=3) (p:=15) (v:=?vo_w8) (w1:=(wr.setCell ⟨j8,(j3:Int).toNat,none⟩ (.int .i64 j6))) ?hg ?ho ?hn ?hr ?_;(case ho=>rfl);(case hg=>rfl);(case hn=>rfl);(case hr=>first|(go_simp;done)|(go_simp;rfl));intro w8 hw;have hg:wr.grownBy w8 (some j8):=(by rw [hw];exact HP7.2);have hp_:Kd.R (Kd.int .i64) 3 w8 w0.heap.size (fun k_=>(P0_ k_∨w.heap.size≤k_)) (.slice (some ⟨j8,0,none⟩) j5.length jj) ja:=(by rw [hw,jb.out];exact HP7.1);clear HP7;replace HB:=am ((by rw [hw];exact below_set (HB.out) GB5.out:Below w0.heap.size w0 w8));replace HK:=am (Kept.mP (S:=(fun k_=>P0_ k_)) hg NV (fun k_ e_=>(j4.out.1 k_ e_)));replace j4:=am (hp_);clear hg hw hp_))
     go_roundg k1
     case measure=>have:=jc.out;omega
     case rel=>exact ⟨(ja),(wrap64 (j6 + 1)),(wrap64 (j3 + 1)),sd_,sd_,H',⟨by have:=jc.out;omega⟩,⟨vL j4.out⟩,⟨NV⟩,⟨dN⟩⟩
    rw [if_neg c4] at H
    exact absurd H (by simp)
   rw [if_neg c3] at H
   have j9:decide (j3 < (j5.length:Int))=false:=decide_eq_false c3
   clear c3
   simp only [Option.some.injEq,Prod.mk.injEq] at H
   obtain ⟨rfl,rfl⟩:=H
   obtain ⟨jp,jq,jl⟩:=Kd.nI j4.out
   subst jl
   go_wp2
   go_ret
   exact ⟨rr_,vL j4.out,dN,NV⟩
set_option linter.unusedVariables false
set_option linter.unusedSimpArgs false
abbrev bU.bY (k:Nat):Prop:=∀ (base:Nat) (ok:Nat→Prop) (v:Value) (l:List S28) (n r:Int) (l':List S28) (w:World) (hs:Kd.S mF 28 w base ok v l) (h:bU.f k l n=some (r,l')),
  Calls Try.prog 34 #[v, .int .i64 n] w fun e w'=>e= .returned (.int .i64 r)∧Kd.S mF 28 w' base ok v l'∧Below base w w'∧Kept w w' ok
theorem kH {α:Type} (l:List α) (i:Nat) (x z:α) (h:i < l.length):(l.set i x).getD i z=x:=by
 rw [List.getD_eq_getElem?_getD,List.getElem?_set_self h]
 rfl
theorem bU.step (k:Nat) (ih:∀ m,m < k→bU.bY m):bU.bY k:=by
 intro base ok v l n r l' w hs h
 cases k with
 |zero=>exact absurd h (by simp [bU.f])
 |succ k=>
 simp only [bU.f] at h
 obtain ⟨A0,c0,rfl⟩:=Kd.gI hs
 have HS:=Aside0.mk hs
 have H':=Aside0.mk h
 have HL:=Aside0.mk (Kd.AV hs).2.1
 clear hs h
 go_enter Try.func34,Try.ntmps34
 go_wp2
 go_loopg [1,5] k (fun kq v1 v5 w'=>∃ (xs:List S28) (m i:Int),v1= .int .i64 m∧v5= .int .i64 i∧Aside0 (xs.length=l.length)∧Aside0 (bU.l0 kq xs m i=some (r,l'))∧Aside0 (kq≤k)∧Aside0 (Kd.S mF 28 w' base ok (.slice A0 l.length c0) xs)∧Aside0 (Below base w w')∧Aside0 (Kept w w' ok))
 case atStart=>exact ⟨l,n,0,rfl,(by first|rfl|(simp;done)),⟨rfl⟩,H',⟨Nat.le_refl _⟩,HS,⟨Below.refl _ _⟩,⟨Kept.refl _ _⟩⟩
 case round=>
  clear H' HS
  obtain ⟨xs,m,i,rfl,rfl,LE,HA,j5,HS,HB,HK⟩:=hrel
  cases gk with
  |zero=>exact absurd HA.out (by simp [bU.l0])
  |succ k1=>
   have H:=HA.out
   clear HA
   simp only [bU.l0] at H
   rw [LE.out] at H
   by_cases c6:i < (l.length:Int)
   case neg=>
    rw [if_neg c6] at H
    have j9:decide (i < (l.length:Int))=false:=decide_eq_false c6
    clear c6
    simp only [Option.some.injEq,Prod.mk.injEq] at H
    obtain ⟨rfl,rfl⟩:=H
    go_wp2
    go_ret
    exact ⟨rfl,HS.out,HB.out,HK.out⟩
   rw [if_pos c6] at H
   by_cases c7:0≤i
   case neg=>rw [if_neg c7] at H;exact absurd H (by simp)
   rw [if_pos c7] at H
   rcases hx:bH xs i with ⟨f0,f1,f2⟩
   rw [hx] at H
   obtain ⟨⟨n2,t2⟩,h1,H⟩:=Option.bind_eq_some_iff.mp H
   dsimp only at h1 H
   have H1:=Aside0.mk h1
   have HR:=Aside0.mk H
   have HX:Aside0 (xs.getD i.toNat z28=⟨f0,f1,f2⟩):=⟨hx⟩
   clear h1 H hx
   obtain ⟨go,co,eo,gb,gl,hgc⟩:=Kd.xD HS.out (by have:=LE.out;omega)
   injection eo with ea_ en_ ec_
   subst ea_
   have C6:=Aside0.mk c6
   have C7:=Aside0.mk c7
   have CL:Aside0 (i.toNat < xs.length):=⟨by have:=LE.out;omega⟩
   have GOK:=Aside0.mk ((Kd.S_R HS.out).1 go (by simp [Value.ownBlock]))
   have j9:decide (i < (l.length:Int))=true:=decide_eq_true c6
   have q0:=eq_true c7
   have q1:=eq_true c6
   clear gb gl hgc en_ ec_ c6 c7
   go_wp2_with (first|((with_reducible refine iN (t:=3) (p:=16) rfl ?_);refine rD ?_)|fail)
   refine ⟨?_⟩
   obtain ⟨oki,c,hcl,hM,hcc,hoki,hH⟩:=Kd.mV HS.out z28 i C7.out C6.out
   rw [HX.out] at hM
   obtain ⟨v2,rfl,hS2⟩:=rZ hM
   refine Kd.nG mF (w0:=wr) base rfl rfl 3 (.tmp 16) (.tmp 14) rfl 28 (g:=go) (o':=i.toNat * 3) i 0 xs ⟨m,f1,f2⟩ (.int .i64 m) [.int .i64 m] _ ok oki oki ?ha rfl rfl rfl (by kernel_rfl) ?h1 hH C7.out C6.out (show 0 + 1≤3 by decide) (kF wr base oki ⟨m,f1,f2⟩ hS2) (fun _ h=>h) (Below.refl _ _) ?_
   (case ha=>first|rfl|(go_simp;done)|(go_simp;rfl))
   (case h1=>intro q hq;rw [List.mem_singleton.1 hq];rfl)
   clear hM hcc hoki hH hcl hS2
   intro w1 hn hb hg
   have HS1:=Aside0.mk hn
   have j6:=Aside0.mk (HB.out.trans hb)
   have j3:=Aside0.mk (Kept.mP hg HK.out (fun k hk=> .inl (by injection hk with hk;rw [← hk];exact GOK.out)))
   clear hn hb hg HS HB HK
   go_wp2_with (first|((with_reducible refine iN (t:=3) (p:=23) rfl ?_);refine rD ?_)|fail)
   refine ⟨?_⟩
   obtain ⟨oki,c,hcl,hM,hcc,hoki,hH⟩:=Kd.mV HS1.out z28 i C7.out C6.out
   rw [kH _ _ _ _ CL.out] at hM
   obtain ⟨v2,rfl,hS2⟩:=rZ hM
   refine Kd.nG mF (w0:=w1) base rfl rfl 3 (.tmp 23) (.tmp 21) rfl 28 (g:=go) (o':=i.toNat * 3 + 1) i 1 _ ⟨m,wrap64 (m + 1),f2⟩ (.int .i64 (wrap64 (m + 1))) [.int .i64 (wrap64 (m + 1))] _ ok oki oki ?ha rfl rfl rfl (by kernel_rfl) ?h1 hH C7.out C6.out (show 1 + 1≤3 by decide) (kF w1 base oki ⟨m,wrap64 (m + 1),f2⟩ hS2) (fun _ h=>h) (Below.refl _ _) ?_
   (case ha=>first|rfl|(go_simp;done)|(go_simp;rfl))
   (case h1=>intro q hq;rw [List.mem_singleton.1 hq];rfl)
   clear hM hcc hoki hH hcl hS2
   intro w2 hn hb hg
   rw [List.set_set] at hn
   obtain ⟨oki,c,hcl,hM,hcc,hoki,hH⟩:=Kd.mV hn z28 i C7.out C6.out
   rw [kH _ _ _ _ CL.out] at hM
   obtain ⟨v2,rfl,hS2⟩:=rZ hM
   obtain ⟨A2,c2,rfl⟩:=Kd.gI hS2
   have HS2:=Aside0.mk hS2
   have HH:=Aside0.mk hH
   have j7:=Aside0.mk (j6.out.trans hb)
   have j4:=Aside0.mk (Kept.mP hg j3.out (fun k hk=> .inl (by injection hk with hk;rw [← hk];exact GOK.out)))
   have HOI:=Aside0.mk hoki
   have z2:w2.cell? ⟨go,i.toNat * 3 + 2,none⟩=some (.slice A2 f2.length c2):=hcc 2 _ rfl
   clear hn hb hg HS1 j6 j3 hM hcc hoki hH hcl hS2
   go_wp2_with (first|((with_reducible refine aD (f:=34) rfl ?_);refine aU (some 32) rfl rfl Try.func34 (by kernel_rfl) rfl #[.slice A2 f2.length c2, .int .i64 (wrap64 (wrap64 (m + 1) + 1))] rfl (by (try simp only [List.map_toArray,List.map_cons,List.map_nil]);first|done|rfl) ?_;(with_reducible refine (ih k1 (by have:=j5.out;omega) base oki _ f2 _ n2 t2 _ HS2.out H1.out).mono ?_);rintro e jc ⟨rfl,j8,hb,hk⟩;refine ⟨_,rfl,?_⟩;have HN:=Aside0.mk (Kd.EW (Kd.AL HH.out hk (fun _ _ hn hs=>hn hs)) (kF _ _ _ ⟨m,wrap64 (m + 1),t2⟩ j8) (fun _ h=>h));have ja:=Aside0.mk (j7.out.trans hb);have jb:=Aside0.mk (j4.out.then_ hk (fun q hq=> .inl (HOI.out q hq).1));clear j8 hb hk HH j7 j4 HOI HS2 z2)|fail)
   rw [List.set_set] at HN
   go_roundg k1
   case measure=>have:=j5.out;omega
   case rel=>exact ⟨_,n2,wrap64 (i + 1),rfl,(by first|rfl|(simp;done)|(simp [*];done)),⟨by rw [List.length_set];exact LE.out⟩,HR,⟨by have:=j5.out;omega⟩,HN,ja,jb⟩
theorem bU.calls (k:Nat):bU.bY k:=by
 induction k using Nat.strongRecOn with
 | _ k ih=>exact bU.step k ih
theorem nJ.calls (k:Nat) (base:Nat) (ok:Nat→Prop) (a0 a1:Int) (A:Option Addr) (c:Nat) (l:List S28) (n r:Int) (l':List S28) (w:World) (hw:base≤w.heap.size) (hs:Kd.S mF 28 w base ok (.slice A l.length c) l) (h:nJ.f k a0 a1 l n=some (r,l')):
  Calls Try.prog 11 #[.agg #[.int .i64 a0, .int .i64 a1, .slice A l.length c], .int .i64 n] w fun e w'=>e= .returned (.int .i64 r)∧Kd.S mF 28 w' base ok (.slice A l.length c) l'∧Below base w w'∧Kept w w' ok:=by
 have HS:=Aside0.mk hs
 have H:Aside0 (bU.f k l n=some (r,l')):=⟨h⟩
 have HW:=Aside0.mk hw
 clear hs h hw
 go_enter Try.func11,Try.ntmps11
 go_wp2_with (first|((with_reducible refine bJ (N:=2) rfl ?_);refine bR (N:=2) ?hg ?hd (cs:=#[.int .i64 a0, .int .i64 a1, .slice A l.length c]) (t:=28) ?hr ?_;(case hd=>rfl);(case hg=>rfl);(case hr=>first|(go_simp;done)|(go_simp;rfl));intro g1 hg w1 hbox hb;have B1:=Aside0.mk hbox;have HB:=Aside0.mk hb;have HS1:=Aside0.mk (Kd.fC HS.out hb);have z2:w1.cell? ⟨g1,2,none⟩=some (.slice A l.length c):=aA hbox 2;clear hbox hg hb HS)|((with_reducible refine aD (f:=34) rfl ?_);refine aU (some 8) rfl rfl Try.func34 (by kernel_rfl) rfl #[.slice A l.length c, .int .i64 n] rfl (by (try simp only [List.map_toArray,List.map_cons,List.map_nil]);first|done|rfl) ?_;(with_reducible refine (bU.calls k base ok _ l n r l' _ HS1.out H.out).mono ?_);rintro e w2 ⟨rfl,j3,hb,hk⟩;refine ⟨_,rfl,?_⟩;have HS2:=Aside0.mk j3;have j4:=Aside0.mk ((HB.out.mono HW.out).trans hb);have j5:=Aside0.mk ((Kept.of_below HB.out ok).then_ hk (fun _ h=> .inl h));clear j3 hb hk)|fail)
 go_ret
 exact ⟨rfl,HS2.out,j4.out,j5.out⟩
abbrev cK.bY (k:Nat):Prop:=∀ (base:Nat) (ok:Nat→Prop) (v:Value) (l:List S70) (n r:Int) (l':List S70) (w:World) (hs:Kd.S lS 70 w base ok v l) (h:cK.f k l n=some (r,l')),
  Calls Try.prog 18 #[v, .int .i64 n] w fun e w'=>e= .returned (.int .i64 r)∧Kd.S lS 70 w' base ok v l'∧Below base w w'∧Kept w w' ok
theorem cK.step (k:Nat) (ih:∀ m,m < k→cK.bY m):cK.bY k:=by
 intro base ok v l n r l' w hs h
 cases k with
 |zero=>exact absurd h (by simp [cK.f])
 |succ k=>
 simp only [cK.f] at h
 obtain ⟨A0,c0,rfl⟩:=Kd.gI hs
 have HS:=Aside0.mk hs
 have H':=Aside0.mk h
 have HL:=Aside0.mk (Kd.AV hs).2.1
 clear hs h
 go_enter Try.func18,Try.ntmps18
 go_wp2
 go_loopg [1,5] k (fun kq v1 v5 w'=>∃ (xs:List S70) (m i:Int),v1= .int .i64 m∧v5= .int .i64 i∧Aside0 (xs.length=l.length)∧Aside0 (cK.l0 kq xs m i=some (r,l'))∧Aside0 (kq≤k)∧Aside0 (Kd.S lS 70 w' base ok (.slice A0 l.length c0) xs)∧Aside0 (Below base w w')∧Aside0 (Kept w w' ok))
 case atStart=>exact ⟨l,n,0,rfl,(by first|rfl|(simp;done)),⟨rfl⟩,H',⟨Nat.le_refl _⟩,HS,⟨Below.refl _ _⟩,⟨Kept.refl _ _⟩⟩
 case round=>
  clear H' HS
  obtain ⟨xs,m,i,rfl,rfl,LE,HA,j4,HS,HB,HK⟩:=hrel
  cases gk with
  |zero=>exact absurd HA.out (by simp [cK.l0])
  |succ k1=>
   have H:=HA.out
   clear HA
   simp only [cK.l0] at H
   rw [LE.out] at H
   by_cases c6:i < (l.length:Int)
   case neg=>
    rw [if_neg c6] at H
    have j5:decide (i < (l.length:Int))=false:=decide_eq_false c6
    clear c6
    simp only [Option.some.injEq,Prod.mk.injEq] at H
    obtain ⟨rfl,rfl⟩:=H
    go_wp2
    go_ret
    exact ⟨rfl,HS.out,HB.out,HK.out⟩
   rw [if_pos c6] at H
   by_cases c7:0≤i
   case neg=>rw [if_neg c7] at H;exact absurd H (by simp)
   rw [if_pos c7] at H
   rcases hx:aG xs i with ⟨f0,f1,f2,⟨e0,e1,e2⟩,bd,el⟩
   rw [hx] at H
   obtain ⟨⟨n1,t1⟩,h1,H⟩:=Option.bind_eq_some_iff.mp H
   obtain ⟨⟨n2,t2⟩,h2,H⟩:=Option.bind_eq_some_iff.mp H
   obtain ⟨⟨n3,t3⟩,h3,H⟩:=Option.bind_eq_some_iff.mp H
   dsimp only at h1 h2 h3 H
   have H1:=Aside0.mk h1
   have H2:=Aside0.mk h2
   have H3:=Aside0.mk h3
   have HR:=Aside0.mk H
   have HX:Aside0 (xs.getD i.toNat z70=⟨f0,f1,f2,⟨e0,e1,e2⟩,bd,el⟩):=⟨hx⟩
   clear h1 h2 h3 H hx
   obtain ⟨go,co,eo,gb,gl,hgc⟩:=Kd.xD HS.out (by have:=LE.out;omega)
   injection eo with ea_ en_ ec_
   subst ea_
   have C6:=Aside0.mk c6
   have C7:=Aside0.mk c7
   have CL:Aside0 (i.toNat < xs.length):=⟨by have:=LE.out;omega⟩
   have GOK:=Aside0.mk ((Kd.S_R HS.out).1 go (by simp [Value.ownBlock]))
   have j5:decide (i < (l.length:Int))=true:=decide_eq_true c6
   have q0:=eq_true c7
   have q1:=eq_true c6
   clear gb gl hgc en_ ec_ c6 c7
   go_wp2_with (first|((with_reducible refine iN (t:=3) (p:=16) rfl ?_);refine rD ?_)|fail)
   refine ⟨?_⟩
   obtain ⟨oki,c,hcl,hM,hcc,hoki,hH⟩:=Kd.mV HS.out z70 i C7.out C6.out
   rw [HX.out] at hM
   obtain ⟨v5,v6,v7,p5,p6,p7,rfl,g5,g6,g7,hok,hap⟩:=nA hM
   refine Kd.nG lS (w0:=wr) base rfl rfl 3 (.tmp 16) (.tmp 14) rfl 70 (g:=go) (o':=i.toNat * 8) i 0 _ (⟨m,f1,f2,⟨e0,e1,e2⟩,bd,el⟩:S70) (.int .i64 m) [.int .i64 m] _ ok oki oki ?ha rfl rfl rfl (by kernel_rfl) ?h1 hH C7.out C6.out (show 0 + 1≤8 by decide) (mO wr base oki p5 p6 p7 (⟨m,f1,f2,⟨e0,e1,e2⟩,bd,el⟩:S70) g5 g6 g7 hok hap) (fun _ h=>h) (Below.refl _ _) ?_
   (case ha=>first|rfl|(go_simp;done)|(go_simp;rfl))
   (case h1=>intro q hq;rw [List.mem_singleton.1 hq];rfl)
   clear hM hcc hoki hH hcl g5 g6 g7 hok hap
   intro y1 hn hb hg
   replace HS:=Aside0.mk hn
   replace HB:=Aside0.mk (HB.out.trans hb)
   replace HK:=Aside0.mk (Kept.mP hg HK.out (fun k hk=> .inl (by injection hk with hk;rw [← hk];exact GOK.out)))
   clear hn hb hg
   go_wp2_with (first|((with_reducible refine iN (t:=3) (p:=23) rfl ?_);refine rD ?_)|fail)
   refine ⟨?_⟩
   obtain ⟨oki,c,hcl,hM,hcc,hoki,hH⟩:=Kd.mV HS.out z70 i C7.out C6.out
   rw [kH _ _ _ _ CL.out] at hM
   obtain ⟨v5,v6,v7,p5,p6,p7,rfl,g5,g6,g7,hok,hap⟩:=nA hM
   refine Kd.nG lS (w0:=y1) base rfl rfl 3 (.tmp 23) (.tmp 21) rfl 70 (g:=go) (o':=i.toNat * 8 + 1) i 1 _ (⟨m,(wrap64 (m + 1)),f2,⟨e0,e1,e2⟩,bd,el⟩:S70) (.int .i64 (wrap64 (m + 1))) [.int .i64 (wrap64 (m + 1))] _ ok oki oki ?ha rfl rfl rfl (by kernel_rfl) ?h1 hH C7.out C6.out (show 1 + 1≤8 by decide) (mO y1 base oki p5 p6 p7 (⟨m,(wrap64 (m + 1)),f2,⟨e0,e1,e2⟩,bd,el⟩:S70) g5 g6 g7 hok hap) (fun _ h=>h) (Below.refl _ _) ?_
   (case ha=>first|rfl|(go_simp;done)|(go_simp;rfl))
   (case h1=>intro q hq;rw [List.mem_singleton.1 hq];rfl)
   clear hM hcc hoki hH hcl g5 g6 g7 hok hap
   intro y2 hn hb hg
   rw [List.set_set] at hn
   replace HS:=Aside0.mk hn
   replace HB:=Aside0.mk (HB.out.trans hb)
   replace HK:=Aside0.mk (Kept.mP hg HK.out (fun k hk=> .inl (by injection hk with hk;rw [← hk];exact GOK.out)))
   clear hn hb hg
   go_wp2_with (first|((with_reducible refine iN (t:=3) (p:=30) rfl ?_);refine rD ?_)|fail)
   refine ⟨?_⟩
   obtain ⟨oki,c,hcl,hM,hcc,hoki,hH⟩:=Kd.mV HS.out z70 i C7.out C6.out
   rw [kH _ _ _ _ CL.out] at hM
   obtain ⟨v5,v6,v7,p5,p6,p7,rfl,g5,g6,g7,hok,hap⟩:=nA hM
   refine Kd.nG lS (w0:=y2) base rfl rfl 3 (.tmp 30) (.tmp 28) rfl 70 (g:=go) (o':=i.toNat * 8 + 2) i 2 _ (⟨m,(wrap64 (m + 1)),(wrap64 ((wrap64 (m + 1)) + 1)),⟨e0,e1,e2⟩,bd,el⟩:S70) (.int .i64 (wrap64 ((wrap64 (m + 1)) + 1))) [.int .i64 (wrap64 ((wrap64 (m + 1)) + 1))] _ ok oki oki ?ha rfl rfl rfl (by kernel_rfl) ?h1 hH C7.out C6.out (show 2 + 1≤8 by decide) (mO y2 base oki p5 p6 p7 (⟨m,(wrap64 (m + 1)),(wrap64 ((wrap64 (m + 1)) + 1)),⟨e0,e1,e2⟩,bd,el⟩:S70) g5 g6 g7 hok hap) (fun _ h=>h) (Below.refl _ _) ?_
   (case ha=>first|rfl|(go_simp;done)|(go_simp;rfl))
   (case h1=>intro q hq;rw [List.mem_singleton.1 hq];rfl)
   clear hM hcc hoki hH hcl g5 g6 g7 hok hap
   intro y3 hn hb hg
   rw [List.set_set] at hn
   replace HS:=Aside0.mk hn
   replace HB:=Aside0.mk (HB.out.trans hb)
   replace HK:=Aside0.mk (Kept.mP hg HK.out (fun k hk=> .inl (by injection hk with hk;rw [← hk];exact GOK.out)))
   clear hn hb hg
   go_wp2_with (first|((with_reducible refine iN (t:=3) (p:=38) rfl ?_);refine rD ?_)|fail)
   refine ⟨?_⟩
   obtain ⟨oki,c,hcl,hM,hcc,hoki,hH⟩:=Kd.mV HS.out z70 i C7.out C6.out
   rw [kH _ _ _ _ CL.out] at hM
   obtain ⟨v5,v6,v7,p5,p6,p7,rfl,g5,g6,g7,hok,hap⟩:=nA hM
   refine Kd.nG lS (w0:=y3) base rfl rfl 3 (.tmp 38) (.tmp 35) rfl 70 (g:=go) (o':=i.toNat * 8 + 3) i 3 _ (⟨m,(wrap64 (m + 1)),(wrap64 ((wrap64 (m + 1)) + 1)),⟨(wrap64 ((wrap64 ((wrap64 (m + 1)) + 1)) + 1)),e1,e2⟩,bd,el⟩:S70) (.int .i64 (wrap64 ((wrap64 ((wrap64 (m + 1)) + 1)) + 1))) [.int .i64 (wrap64 ((wrap64 ((wrap64 (m + 1)) + 1)) + 1))] _ ok oki oki ?ha rfl rfl rfl (by kernel_rfl) ?h1 hH C7.out C6.out (show 3 + 1≤8 by decide) (mO y3 base oki p5 p6 p7 (⟨m,(wrap64 (m + 1)),(wrap64 ((wrap64 (m + 1)) + 1)),⟨(wrap64 ((wrap64 ((wrap64 (m + 1)) + 1)) + 1)),e1,e2⟩,bd,el⟩:S70) g5 g6 g7 hok hap) (fun _ h=>h) (Below.refl _ _) ?_
   (case ha=>first|rfl|(go_simp;done)|(go_simp;rfl))
   (case h1=>intro q hq;rw [List.mem_singleton.1 hq];rfl)
   clear hM hcc hoki hH hcl g5 g6 g7 hok hap
   intro y4 hn hb hg
   rw [List.set_set] at hn
   replace HS:=Aside0.mk hn
   replace HB:=Aside0.mk (HB.out.trans hb)
   replace HK:=Aside0.mk (Kept.mP hg HK.out (fun k hk=> .inl (by injection hk with hk;rw [← hk];exact GOK.out)))
   clear hn hb hg
   go_wp2_with (first|((with_reducible refine iN (t:=3) (p:=46) rfl ?_);refine rD ?_)|fail)
   refine ⟨?_⟩
   obtain ⟨oki,c,hcl,hM,hcc,hoki,hH⟩:=Kd.mV HS.out z70 i C7.out C6.out
   rw [kH _ _ _ _ CL.out] at hM
   obtain ⟨v5,v6,v7,p5,p6,p7,rfl,g5,g6,g7,hok,hap⟩:=nA hM
   refine Kd.nG lS (w0:=y4) base rfl rfl 3 (.tmp 46) (.tmp 43) rfl 70 (g:=go) (o':=i.toNat * 8 + 4) i 4 _ (⟨m,(wrap64 (m + 1)),(wrap64 ((wrap64 (m + 1)) + 1)),⟨(wrap64 ((wrap64 ((wrap64 (m + 1)) + 1)) + 1)),(wrap64 ((wrap64 ((wrap64 ((wrap64 (m + 1)) + 1)) + 1)) + 1)),e2⟩,bd,el⟩:S70) (.int .i64 (wrap64 ((wrap64 ((wrap64 ((wrap64 (m + 1)) + 1)) + 1)) + 1))) [.int .i64 (wrap64 ((wrap64 ((wrap64 ((wrap64 (m + 1)) + 1)) + 1)) + 1))] _ ok oki oki ?ha rfl rfl rfl (by kernel_rfl) ?h1 hH C7.out C6.out (show 4 + 1≤8 by decide) (mO y4 base oki p5 p6 p7 (⟨m,(wrap64 (m + 1)),(wrap64 ((wrap64 (m + 1)) + 1)),⟨(wrap64 ((wrap64 ((wrap64 (m + 1)) + 1)) + 1)),(wrap64 ((wrap64 ((wrap64 ((wrap64 (m + 1)) + 1)) + 1)) + 1)),e2⟩,bd,el⟩:S70) g5 g6 g7 hok hap) (fun _ h=>h) (Below.refl _ _) ?_
   (case ha=>first|rfl|(go_simp;done)|(go_simp;rfl))
   (case h1=>intro q hq;rw [List.mem_singleton.1 hq];rfl)
   clear hM hcc hoki hH hcl g5 g6 g7 hok hap
   intro y5 hn hb hg
   rw [List.set_set] at hn
   replace HS:=Aside0.mk hn
   replace HB:=Aside0.mk (HB.out.trans hb)
   replace HK:=Aside0.mk (Kept.mP hg HK.out (fun k hk=> .inl (by injection hk with hk;rw [← hk];exact GOK.out)))
   clear hn hb hg
   obtain ⟨oki,c,hcl,hM,hcc,hoki,hH⟩:=Kd.mV HS.out z70 i C7.out C6.out
   rw [kH _ _ _ _ CL.out] at hM
   obtain ⟨v5,v6,v7,p5,p6,p7,rfl,g5,g6,g7,hok,hap⟩:=nA hM
   obtain ⟨A5,c5,rfl⟩:=Kd.gI g5
   obtain ⟨A6,c6,rfl⟩:=Kd.gI g6
   obtain ⟨A7,c7,rfl⟩:=Kd.gI g7
   have G5:=Aside0.mk g5
   have G6:=Aside0.mk g6
   have G7:=Aside0.mk g7
   have HH:=Aside0.mk hH
   have HOK:=Aside0.mk hok
   have HAP:=Aside0.mk hap
   have HOI:=Aside0.mk hoki
   clear g5 g6 g7 hH hok hap hoki hM hcc hcl HS
   have z5:y5.cell? ⟨go,i.toNat * 8 + 5,none⟩=some (.slice A5 e2.length c5):=(Kd.OO HH.out C7.out C6.out).1 5 _ rfl
   have z6:y5.cell? ⟨go,i.toNat * 8 + 6,none⟩=some (.slice A6 bd.length c6):=(Kd.OO HH.out C7.out C6.out).1 6 _ rfl
   have z7:y5.cell? ⟨go,i.toNat * 8 + 7,none⟩=some (.slice A7 el.length c7):=(Kd.OO HH.out C7.out C6.out).1 7 _ rfl
   go_wp2_with (first|((with_reducible refine aD (f:=34) rfl ?_);refine aU (some 56) rfl rfl Try.func34 (by kernel_rfl) rfl #[.slice A5 e2.length c5, .int .i64 (wrap64 ((wrap64 ((wrap64 ((wrap64 ((wrap64 (m + 1)) + 1)) + 1)) + 1)) + 1))] rfl (by (try simp only [List.map_toArray,List.map_cons,List.map_nil]);first|done|rfl) ?_;(with_reducible refine (bU.calls k1 base p5 _ e2 _ n1 t1 _ G5.out H1.out).mono ?_);rintro e y6 ⟨rfl,j3,hb,hk⟩;refine ⟨_,rfl,?_⟩;replace G5:=Aside0.mk j3;replace G6:=Aside0.mk (Kd.oQ G6.out (fun q hq hlt=>hk.2 q hlt (fun hs=>((HAP.out q).1 hs).1 hq)));replace G7:=Aside0.mk (Kd.oQ G7.out (fun q hq hlt=>hk.2 q hlt (fun hs=>((HAP.out q).1 hs).2 hq)));replace HH:=Aside0.mk (Kd.AL HH.out hk (fun q _ hn hs=>hn (HOK.out q (.inl hs))));replace HB:=Aside0.mk (HB.out.trans hb);replace HK:=Aside0.mk (HK.out.then_ hk (fun q hq=> .inl (HOI.out q (HOK.out q (.inl hq))).1));clear j3 hb hk z5 z6 z7;have z6:y6.cell? ⟨go,i.toNat * 8 + 6,none⟩=some (.slice A6 bd.length c6):=(Kd.OO HH.out C7.out C6.out).1 6 _ rfl;have z7:y6.cell? ⟨go,i.toNat * 8 + 7,none⟩=some (.slice A7 el.length c7):=(Kd.OO HH.out C7.out C6.out).1 7 _ rfl)|((with_reducible refine aD (f:=18) rfl ?_);refine aU (some 63) rfl rfl Try.func18 (by kernel_rfl) rfl #[.slice A6 bd.length c6, .int .i64 n1] rfl (by (try simp only [List.map_toArray,List.map_cons,List.map_nil]);first|done|rfl) ?_;(with_reducible refine (ih k1 (by have:=j4.out;omega) base p6 _ bd n1 n2 t2 _ G6.out H2.out).mono ?_);rintro e y7 ⟨rfl,j3,hb,hk⟩;refine ⟨_,rfl,?_⟩;replace G6:=Aside0.mk j3;replace G5:=Aside0.mk (Kd.oQ G5.out (fun q hq hlt=>hk.2 q hlt (fun hs=>((HAP.out q).1 hq).1 hs)));replace G7:=Aside0.mk (Kd.oQ G7.out (fun q hq hlt=>hk.2 q hlt (fun hs=>(HAP.out q).2 hs hq)));replace HH:=Aside0.mk (Kd.AL HH.out hk (fun q _ hn hs=>hn (HOK.out q (.inr (.inl hs)))));replace HB:=Aside0.mk (HB.out.trans hb);replace HK:=Aside0.mk (HK.out.then_ hk (fun q hq=> .inl (HOI.out q (HOK.out q (.inr (.inl hq)))).1));clear j3 hb hk z6 z7;have z7:y7.cell? ⟨go,i.toNat * 8 + 7,none⟩=some (.slice A7 el.length c7):=(Kd.OO HH.out C7.out C6.out).1 7 _ rfl)|((with_reducible refine aD (f:=18) rfl ?_);refine aU (some 70) rfl rfl Try.func18 (by kernel_rfl) rfl #[.slice A7 el.length c7, .int .i64 n2] rfl (by (try simp only [List.map_toArray,List.map_cons,List.map_nil]);first|done|rfl) ?_;(with_reducible refine (ih k1 (by have:=j4.out;omega) base p7 _ el n2 n3 t3 _ G7.out H3.out).mono ?_);rintro e y8 ⟨rfl,j3,hb,hk⟩;refine ⟨_,rfl,?_⟩;replace G7:=Aside0.mk j3;replace G5:=Aside0.mk (Kd.oQ G5.out (fun q hq hlt=>hk.2 q hlt (fun hs=>((HAP.out q).1 hq).2 hs)));replace G6:=Aside0.mk (Kd.oQ G6.out (fun q hq hlt=>hk.2 q hlt (fun hs=>(HAP.out q).2 hq hs)));replace HH:=Aside0.mk (Kd.AL HH.out hk (fun q _ hn hs=>hn (HOK.out q (.inr (.inr hs)))));replace HB:=Aside0.mk (HB.out.trans hb);replace HK:=Aside0.mk (HK.out.then_ hk (fun q hq=> .inl (HOI.out q (HOK.out q (.inr (.inr hq)))).1));clear j3 hb hk z7)|fail)
   have HN:=Aside0.mk (Kd.EW HH.out (mO _ base _ p5 p6 p7 (⟨m,(wrap64 (m + 1)),(wrap64 ((wrap64 (m + 1)) + 1)),⟨(wrap64 ((wrap64 ((wrap64 (m + 1)) + 1)) + 1)),(wrap64 ((wrap64 ((wrap64 ((wrap64 (m + 1)) + 1)) + 1)) + 1)),t1⟩,t2,t3⟩:S70) G5.out G6.out G7.out HOK.out HAP.out) (fun _ h=>h))
   rw [List.set_set] at HN
   go_roundg k1
   case measure=>have:=j4.out;omega
   case rel=>exact ⟨_,n3,wrap64 (i + 1),rfl,(by first|rfl|(simp;done)|(simp [*];done)),⟨by rw [List.length_set];exact LE.out⟩,HR,⟨by have:=j4.out;omega⟩,HN,HB,HK⟩
theorem cK.calls (k:Nat):cK.bY k:=by
 induction k using Nat.strongRecOn with
 | _ k ih=>exact cK.step k ih
theorem fA.calls (k:Nat) (base:Nat) (ok:Nat→Prop) (v:Value) (l:List (List S70)) (n r:Int) (l':List (List S70)) (w:World) (hs:Kd.S kP 37 w base ok v l) (h:fA.f k l n=some (r,l')):
  Calls Try.prog 53 #[v, .int .i64 n] w fun e w'=>e= .returned (.int .i64 r)∧Kd.S kP 37 w' base ok v l'∧Below base w w'∧Kept w w' ok:=by
 unfold fA.f at h
 obtain ⟨A0,c0,rfl⟩:=Kd.gI hs
 have HS:=Aside0.mk hs
 have H':=Aside0.mk h
 clear hs h
 go_enter Try.func53,Try.ntmps53
 go_wp2
 go_loopg [1,5] k (fun kq v1 v5 w'=>∃ (xs:List (List S70)) (m i:Int),v1= .int .i64 m∧v5= .int .i64 i∧Aside0 (xs.length=l.length)∧Aside0 (fA.l0 kq xs m i=some (r,l'))∧Aside0 (kq≤k)∧Aside0 (Kd.S kP 37 w' base ok (.slice A0 l.length c0) xs)∧Aside0 (Below base w w')∧Aside0 (Kept w w' ok))
 case atStart=>exact ⟨l,n,0,rfl,(by first|rfl|(simp;done)),⟨rfl⟩,H',⟨Nat.le_refl _⟩,HS,⟨Below.refl _ _⟩,⟨Kept.refl _ _⟩⟩
 case round=>
  clear H' HS
  obtain ⟨xs,m,i,rfl,rfl,LE,HA,j3,HS,HB,HK⟩:=hrel
  cases gk with
  |zero=>exact absurd HA.out (by simp [fA.l0])
  |succ k1=>
   have H:=HA.out
   clear HA
   simp only [fA.l0] at H
   rw [LE.out] at H
   by_cases c6:i < (l.length:Int)
   case neg=>
    rw [if_neg c6] at H
    have j5:decide (i < (l.length:Int))=false:=decide_eq_false c6
    clear c6
    simp only [Option.some.injEq,Prod.mk.injEq] at H
    obtain ⟨rfl,rfl⟩:=H
    go_wp2
    go_ret
    exact ⟨rfl,HS.out,HB.out,HK.out⟩
   rw [if_pos c6] at H
   by_cases c7:0≤i
   case neg=>rw [if_neg c7] at H;exact absurd H (by simp)
   rw [if_pos c7] at H
   obtain ⟨⟨n2,t2⟩,h1,H⟩:=Option.bind_eq_some_iff.mp H
   dsimp only at h1 H
   have H1:=Aside0.mk h1
   have HR:=Aside0.mk H
   clear h1 H
   obtain ⟨go,co,eo,gb,gl,hgc⟩:=Kd.xD HS.out (by have:=LE.out;omega)
   injection eo with ea_ en_ ec_
   subst ea_
   have C6:=Aside0.mk c6
   have C7:=Aside0.mk c7
   have GOK:=Aside0.mk ((Kd.S_R HS.out).1 go (by simp [Value.ownBlock]))
   have j5:decide (i < (l.length:Int))=true:=decide_eq_true c6
   have q0:=eq_true c7
   have q1:=eq_true c6
   obtain ⟨oki,c,hcl,hM,hcc,hoki,hH⟩:=Kd.mV HS.out ([]:List S70) i c7 c6
   obtain ⟨X,hX⟩:∃ X,X=xs.getD i.toNat ([]:List S70):=⟨_,rfl⟩
   rw [← hX] at hM
   have H1:Aside0 (cK.f k1 X m=some (n2,t2)):=⟨by rw [hX];exact H1.out⟩
   obtain ⟨v2,rfl,hS2⟩:=hM
   obtain ⟨A2,c2,rfl⟩:=Kd.gI hS2
   have HS2:=Aside0.mk hS2
   have HH:=Aside0.mk hH
   have HOI:=Aside0.mk hoki
   have z2:wr.cell? ⟨go,i.toNat,none⟩=some (.slice A2 X.length c2):=by
    have:=hcc 0 _ rfl
    rwa [show kP.sz=1 from rfl,Nat.mul_one,Nat.add_zero] at this
   clear hX gb gl hgc en_ ec_ c6 c7 hcl hcc hoki hH hS2 HS
   go_wp2_with (first|((with_reducible refine aD (f:=18) rfl ?_);refine aU (some 17) rfl rfl Try.func18 (by kernel_rfl) rfl #[.slice A2 X.length c2, .int .i64 m] rfl (by (try simp only [List.map_toArray,List.map_cons,List.map_nil]);first|done|rfl) ?_;(with_reducible refine (cK.calls k1 base oki _ _ m n2 t2 _ HS2.out H1.out).mono ?_);rintro e j8 ⟨rfl,j4,hb,hk⟩;refine ⟨_,rfl,?_⟩;have HN:=Aside0.mk (Kd.EW (Kd.AL HH.out hk (fun _ _ hn hs=>hn hs)) (⟨_,rfl,j4⟩:kP.M _ _ _ t2 _) (fun _ h=>h));have j6:=Aside0.mk (HB.out.trans hb);have j7:=Aside0.mk (HK.out.then_ hk (fun q hq=> .inl (HOI.out q hq).1));clear j4 hb hk HH HB HK HOI HS2 z2)|fail)
   go_roundg k1
   case measure=>have:=j3.out;omega
   case rel=>exact ⟨_,n2,wrap64 (i + 1),rfl,(by first|rfl|(simp;done)|(simp [*];done)),⟨by rw [List.length_set];exact LE.out⟩,HR,⟨by have:=j3.out;omega⟩,HN,j6,j7⟩
theorem gQ.callsS (k:Nat) (ok1 ok2:Nat→Prop) (A1:Option Addr) (c1:Nat) (a:List Int) (A2:Option Addr) (c2:Nat) (b:List (List S70)) (n r:Int) (a':List Int) (b':List (List S70)) (w0 w:World) (hB:Below w0.heap.size w0 w) (hr:Kd.R (Kd.int .i64) 3 w w0.heap.size ok1 (.slice A1 a.length c1) a) (hs:Kd.S kP 37 w w0.heap.size ok2 (.slice A2 b.length c2) b) (hap:∀ q,ok1 q→¬ ok2 q) (h:gQ.f k a b n=some (r,a',b')):
  Calls Try.prog 25 #[.agg #[.slice A1 a.length c1, .slice A2 b.length c2], .int .i64 n] w fun e w'=>e= .returned (.int .i64 r)∧Kd.R (Kd.int .i64) 3 w' w0.heap.size ok1 (.slice A1 a.length c1) a'∧Kd.S kP 37 w' w0.heap.size ok2 (.slice A2 b.length c2) b'∧Below w0.heap.size w0 w'∧Kept w w' (fun q=>ok1 q∨ok2 q):=by
 unfold gQ.f at h
 obtain ⟨⟨m,a1⟩,h1,h⟩:=Option.bind_eq_some_iff.mp h
 obtain ⟨⟨m2,b1⟩,h2,h⟩:=Option.bind_eq_some_iff.mp h
 dsimp only at h1 h2 h
 simp only [Option.some.injEq,Prod.mk.injEq] at h
 obtain ⟨rfl,rfl,rfl⟩:=h
 have H1:=Aside0.mk h1
 have H2:=Aside0.mk h2
 have HB:=Aside0.mk hB
 have HAP:=Aside0.mk hap
 have RR:=Aside0.mk (Kd.gL (ok':=fun q=>ok1 q∧q < w.heap.size) (Kd.kE hr) (fun q hq=>⟨hq.1,hq.2.2.1⟩))
 have SS:=Aside0.mk (Kd.fE (ok':=fun q=>ok2 q∧q < w.heap.size) (Kd.iD hs) (fun q hq=>⟨hq.1,hq.2.2.1⟩))
 clear h1 h2 hB hap hr hs
 go_enter Try.func25,Try.ntmps25
 go_wp2_with (first|((with_reducible refine bJ (N:=2) rfl ?_);refine bR (N:=2) ?hg ?hd (cs:=#[.slice A1 a.length c1, .slice A2 b.length c2]) (t:=51) ?hr ?_;(case hd=>rfl);(case hg=>rfl);(case hr=>first|(go_simp;done)|(go_simp;rfl));intro g1 hg w1 hbox hb;have GE:=Aside0.mk (Nat.le_of_eq hg.symm);have B1:=Aside0.mk hbox;replace HB:=Aside0.mk (aC HB.out hb);replace RR:=Aside0.mk (Kd.eT RR.out hb);replace SS:=Aside0.mk (Kd.fC SS.out hb);have HK:=Aside0.mk (Kept.of_below hb (fun q=>ok1 q∨ok2 q));have z0:w1.cell? ⟨g1,0,none⟩=some (.slice A1 a.length c1):=aA hbox 0;clear hbox hg hb)|((with_reducible refine aD (f:=52) rfl ?_);refine aU (some 8) rfl rfl Try.func52 (by kernel_rfl) rfl #[.slice A1 a.length c1, .int .i64 n] rfl (by (try simp only [List.map_toArray,List.map_cons,List.map_nil]);first|done|rfl) ?_;(with_reducible refine (dI.calls k _ _ a n m a1 w0 _ HB.out RR.out H1.out).mono ?_);rintro e w2 ⟨rfl,hr2,hb2,hk⟩;refine ⟨_,rfl,?_⟩;have h0_:=RR.out.1;replace RR:=Aside0.mk (Kd.gL (Kd.NT rfl hr2) (fun q hq=>h0_ q hq.symm));replace SS:=Aside0.mk (Kd.oQ SS.out (fun q hq hlt=>hk.2 q hlt (fun hs=>HAP.out q hs.1 hq.1)));replace B1:=Aside0.mk (mI B1.out hk (fun hs_=>absurd hs_.2 (by have:=GE.out;omega)));replace HB:=Aside0.mk hb2;replace HK:=Aside0.mk (HK.out.then_ hk (fun q hq=> .inl (.inl hq.1)));have z1:w2.cell? ⟨g1,1,none⟩=some (.slice A2 b.length c2):=aA B1.out 1;clear hr2 hb2 hk z0 h0_)|((with_reducible refine aD (f:=53) rfl ?_);refine aU (some 12) rfl rfl Try.func53 (by kernel_rfl) rfl #[.slice A2 b.length c2, .int .i64 m] rfl (by (try simp only [List.map_toArray,List.map_cons,List.map_nil]);first|done|rfl) ?_;(with_reducible refine (fA.calls k w0.heap.size _ _ b m m2 b1 _ SS.out H2.out).mono ?_);rintro e w3 ⟨rfl,j3,hb3,hk⟩;refine ⟨_,rfl,?_⟩;replace RR:=Aside0.mk (Kd.rQ RR.out (fun q hq hlt=>hk.2 q hlt (fun hs=>HAP.out q hq.1 hs.1)));replace SS:=Aside0.mk j3;replace HB:=Aside0.mk (HB.out.trans hb3);replace HK:=Aside0.mk (HK.out.then_ hk (fun q hq=> .inl (.inr hq.1)));clear j3 hb3 hk z1)|fail)
 go_ret
 exact ⟨rfl,Kd.gL RR.out (fun q hq=>hq.1),Kd.fE SS.out (fun q hq=>hq.1),HB.out,HK.out⟩
attribute [local go_sem] max2_int min2_int max_two min_two max_three min_three max_four min_four
set_option linter.unusedVariables false
set_option linter.unusedSimpArgs false
theorem eB.mono_l:∀ k,(∀ y0 y1 y2,LeO (eB.l0 k y0 y1 y2) (eB.l0 (k + 1) y0 y1 y2))
 |0=>fun _ _ _ r h=>by simp [eB.l0] at h
 |k + 1=>by
  have ih0:=eB.mono_l k
  ·intro y0 y1 y2
   unfold eB.l0
   exact mo_
theorem eB.mono:∀ a0 k,LeO (eB.f k a0) (eB.f (k + 1) a0):=by
 intro a0 k
 have ih0:=eB.mono_l k
 unfold eB.f
 exact mo_
theorem eB.calls (k:Nat) (A0:Option Addr) (c0:Nat) (l0:List Int) (r:List Int) (w:World) (hr0:Kd.C (Kd.int .i64) w A0 l0.length l0) (hc0:l0.length≤c0) (h:eB.f k l0=some r):
  Calls Try.prog 46 #[.slice A0 l0.length c0] w fun e w'=>∃ v0_:Value,e= .returned (v0_)∧Kd.R (Kd.int .i64) 3 w' w.heap.size (fun _=>True) v0_ r∧Below w.heap.size w w':=by
 have jq:=am hr0
 have jx:=am hc0
 clear hr0 hc0
 have HB:=am (Below.refl w.heap.size w)
 unfold eB.f at h
 have H:=h
 clear h
 by_cases c2:0≤(l0.length:Int)
 ·rw [if_pos c2] at H
  have j8:=eq_true c2
  have j9:decide (0≤(l0.length:Int))=true:=decide_eq_true c2
  clear c2
  by_cases c3:((l0.length:Int):Int).toNat≤35184372088832
  ·rw [if_pos c3] at H
   have ja:=eq_true c3
   have jb:decide (((l0.length:Int):Int).toNat≤35184372088832)=true:=decide_eq_true c3
   clear c3
   obtain ⟨jk,hy_⟩:∃ y_:List Int,y_=(List.replicate ((l0.length:Int):Int).toNat 0):=⟨_,rfl⟩
   replace H:(eB.l0 k l0 jk 0)=some r:=rx_
   have j7:=am hy_
   clear hy_
   have H':=am H
   clear H
   go_enter Try.func46,Try.ntmps46
   go_wp2_with (first|((with_reducible refine bJ (N:=7) rfl ?_);refine Kd.RL (Kd.int .i64) _ 3 rfl (N:=7) rfl 44 _ _ rfl (l0.length:Int) rfl rfl Try.underlying44 (.int .i64 0) 8 info3 rfl (by decide) (by omega) 0 (ok:=fun _=>True) (okp:=fun _=>True) rfl (fun _ hk=>hk) trivial (of_decide_eq_true bT) (Nat.le_trans (Nat.mul_le_mul_right _ (of_decide_eq_true bT:(l0.length:Int).toNat≤35184372088832)) (by omega)) (Below.refl _ _) (Nat.le_refl _) ?_;intro jr w4 ho5 hb hg_ hnew_;clear hg_ hnew_;(first|rw [← j7.out] at ho5|(simp only [Int.reduceToNat] at ho5;rw [← j7.out] at ho5));have jc:=am (Kd.lC ho5 (aN dN));replace HB:=am (aC dN hb);clear hb ho5))
   go_loopg [4] k (fun kq v4 w'=>∃ (j4:List Int) (j3:Int),v4= .int .i64 j3∧Aside0 (eB.l0 kq l0 j4 j3=some r)∧Aside0 (kq≤k)∧Aside0 (Kd.R (Kd.int .i64) 3 w' w.heap.size (fun _=>True) jr j4)∧Aside0 (Below w.heap.size w w'))
   case atStart=>exact ⟨(jk),(0),sd_,H',⟨Nat.le_refl _⟩,⟨vL jc.out⟩,⟨dN⟩⟩
   case round=>
    clear H'
    try clear c2
    try clear j8
    try clear j9
    try clear c3
    try clear ja
    try clear jb
    obtain ⟨j4,j3,rfl,HA,jl,j6,HB⟩:=hrel
    cases gk with
    |zero=>exact absurd HA.out (by simp [eB.l0])
    |succ k1=>
     have H:=HA.out
     clear HA
     simp only [eB.l0] at H
     by_cases c6:j3 < (l0.length:Int)
     ·rw [if_pos c6] at H
      have jd:decide (j3 < (l0.length:Int))=true:=decide_eq_true c6
      clear c6
      by_cases c7:0≤j3
      ·rw [if_pos c7] at H
       have js:decide (0≤j3)=true:=decide_eq_true c7
       clear c7
       by_cases c8:j3 < (j4.length:Int)
       ·rw [if_pos c8] at H
        have jt:decide (j3 < (j4.length:Int))=true:=decide_eq_true c8
        clear c8
        obtain ⟨je,hy_⟩:∃ y_:List Int,y_=(j4.set (j3:Int).toNat (rd l0 j3)):=⟨_,rfl⟩
        replace H:(eB.l0 k1 l0 je (wrap64 (j3 + 1)))=some r:=rx_
        have jf:=am hy_
        clear hy_
        have H':=am H
        clear H
        have jg:0≤(j3:Int):=of_decide_eq_true bT
        have jh:j3 < (l0.length:Int):=of_decide_eq_true bT
        obtain ⟨ju,jv,j5⟩:=Kd.nR jq.out j3 jg jh
        cases jv
        replace j5:=(HB.out.cell (World.block_lt_of_cell? w _ j5)).trans j5
        replace jg:=eq_true jg
        replace jh:=eq_true jh
        have p9:0≤(j3:Int):=of_decide_eq_true bT
        have q9:(j3:Int) < ((j4.length:Int):Int):=of_decide_eq_true bT
        obtain ⟨ji,jw,jm,jn,gl9,cl9,jo⟩:=Kd.LV j6.out (by omega)
        (first|cases jm|(injection jm with ea_ en_ ec_;(first|subst ea_|(injection ea_ with ea_;subst ea_));subst ec_;clear en_))
        have GB9:=am jn
        have jy:=am jo
        clear jn gl9 jo
        obtain ⟨jp,hf9_0⟩:=Kd.NP 0 j6.out (j3:Int) p9 q9
        replace p9:=eq_true p9
        replace q9:=eq_true q9
        have HP10:=Kd.RP j6.out (j3:Int) (rd l0 j3)
        go_wp2_with (first|((with_reducible refine iN (t:=3) (p:=20) rfl ?_);refine yH (t:=3) (p:=20) (v:=?vo_w11) (w1:=(wr.setCell ⟨ji,(j3:Int).toNat,none⟩ (.int .i64 (rd l0 j3)))) ?hg ?ho ?hn ?hr ?_;(case ho=>rfl);(case hg=>rfl);(case hn=>rfl);(case hr=>first|(go_simp;done)|(go_simp;rfl));intro jj hw;have hg:wr.grownBy jj (some ji):=(by rw [hw];exact HP10.2);have hp_:Kd.R (Kd.int .i64) 3 jj w.heap.size (fun _=>True) (.slice (some ⟨ji,0,none⟩) j4.length jw) je:=(by rw [hw,jf.out];exact HP10.1);clear HP10;replace j6:=am (hp_);replace HB:=am ((by rw [hw];exact below_set (HB.out) GB9.out:Below w.heap.size w jj));clear hg hw hp_))
        go_roundg k1
        case measure=>have:=jl.out;omega
        case rel=>exact ⟨(je),(wrap64 (j3 + 1)),sd_,H',⟨by have:=jl.out;omega⟩,⟨vL j6.out⟩,⟨dN⟩⟩
       rw [if_neg c8] at H
       exact absurd H (by simp)
      rw [if_neg c7] at H
      exact absurd H (by simp)
     rw [if_neg c6] at H
     have jd:decide (j3 < (l0.length:Int))=false:=decide_eq_false c6
     clear c6
     obtain rfl:=Option.some.inj H
     go_wp2
     go_ret
     exact ⟨_,sJ,vL j6.out,dN⟩
  rw [if_neg c3] at H
  exact absurd H (by simp)
 rw [if_neg c2] at H
 exact absurd H (by simp)
set_option linter.unusedVariables false
set_option linter.unusedSimpArgs false
abbrev dZ.kY (k:Nat):Prop:=∀ (A0:Option Addr) (c0:Nat) (l0:List (S24)) (r:List (S28)) (w:World) (hr0:Kd.C k24 w A0 l0.length l0) (hc0:l0.length≤c0) (h:dZ.f k l0=some r),
  Calls Try.prog 30 #[.slice A0 l0.length c0] w fun e w'=>∃ v0_:Value,e= .returned (v0_)∧Kd.S mF 28 w' w.heap.size (fun q=>w.heap.size≤q) v0_ r∧Below w.heap.size w w'
abbrev fJ.kY (k:Nat):Prop:=∀ (a0 a1:Int) (A:Option Addr) (c:Nat) (l:List (S24)) (r1 r2:Int) (r3:List (S28)) (w:World) (hr0:Kd.C k24 w A l.length l) (hc0:l.length≤c) (h:fJ.f k a0 a1 l=some (r1,r2,r3)),
  Calls Try.prog 8 #[.agg #[.int .i64 a0, .int .i64 a1, .slice A l.length c]] w fun e w'=>∃ v2_:Value,e= .returned (.agg #[.int .i64 r1, .int .i64 r2,v2_])∧Kd.S mF 28 w' w.heap.size (fun q=>w.heap.size≤q) v2_ r3∧Below w.heap.size w w'
theorem fJ.BS (k:Nat) (ihS:∀ m,m < k→dZ.kY m):fJ.kY k:=by
 intro a0 a1 A c l r1 r2 r3 w hr hl h
 cases k with
 |zero=>exact absurd h (by simp [fJ.f])
 |succ k=>
 simp only [fJ.f] at h
 obtain ⟨t,ht,h⟩:=Option.bind_eq_some_iff.mp h
 simp only [Option.some.injEq,Prod.mk.injEq] at h
 obtain ⟨rfl,rfl,rfl⟩:=h
 have HR:=Aside0.mk hr
 have HL:=Aside0.mk hl
 have HT:=Aside0.mk ht
 clear hr hl ht
 go_enter Try.func8,Try.ntmps8
 go_wp2_with (first|((with_reducible refine bJ (N:=1) rfl ?_);refine bR ?hg (N:=1) ?hd (cs:=#[(.int .i64 a0),(.int .i64 a1),(.slice A l.length c)]) (t:=24) ?hr ?_;(case hd=>rfl);(case hg=>rfl);(case hr=>first|(go_simp;done)|(go_simp;rfl));intro g1 hg w1 hbox hb;have X1:=Aside0.mk hbox;have B0:=Aside0.mk hb;have j5:Aside0 (w.heap.size≤g1):=⟨Nat.le_of_eq hg.symm⟩;clear hb hbox hg)|((with_reducible refine bJ (N:=2) rfl ?_);refine bR ?hg (N:=2) ?hd (cs:=#[(.int .i64 0),(.int .i64 0),(.slice none 0 0)]) (t:=28) ?hr ?_;(case hd=>rfl);(case hg=>rfl);(case hr=>first|(go_simp;done)|(go_simp;rfl));intro g2 hg w2 hbox hb;have NE12:Aside0 (g1 < g2):=⟨by rw [hg];exact dM X1.out⟩;replace X1:=Aside0.mk (aJ X1.out hb);replace B0:=Aside0.mk (aC B0.out hb);have X2:=Aside0.mk hbox;clear hb hbox hg)|((with_reducible refine bJ (N:=3) rfl ?_);refine bR ?hg (N:=3) ?hd (cs:=#[(.int .i64 0),(.int .i64 0),(.slice none 0 0)]) (t:=28) ?hr ?_;(case hd=>rfl);(case hg=>rfl);(case hr=>first|(go_simp;done)|(go_simp;rfl));intro g3 hg w3 hbox hb;have NE23:Aside0 (g2 < g3):=⟨by rw [hg];exact dM X2.out⟩;replace X1:=Aside0.mk (aJ X1.out hb);replace X2:=Aside0.mk (aJ X2.out hb);replace B0:=Aside0.mk (aC B0.out hb);have X3:=Aside0.mk hbox;have j4:Aside0 (w.heap.size≤g2):=⟨by have:=j5.out;have:=NE12.out;omega⟩;have j3:Aside0 (w.heap.size≤g3):=⟨by have:=j4.out;have:=NE23.out;omega⟩;have ne13:g1≠g3:=(by have:=NE12.out;have:=NE23.out;omega);have ne31:g3≠g1:=Ne.symm ne13;have ne23:g2≠g3:=(by have:=NE23.out;omega);have ne32:g3≠g2:=Ne.symm ne23;have yp0:w3.cell? ⟨g1,0,none⟩=some (.int .i64 a0):=aA X1.out 0;have yp1:w3.cell? ⟨g1,1,none⟩=some (.int .i64 a1):=aA X1.out 1;have yp2:w3.cell? ⟨g1,2,none⟩=some (.slice A l.length c):=aA X1.out 2;have yo0:w3.cell? ⟨g3,0,none⟩=some (.int .i64 0):=aA X3.out 0;have fo0:=aH X3.out 0;have yo1:w3.cell? ⟨g3,1,none⟩=some (.int .i64 0):=aA X3.out 1;have fo1:=aH X3.out 1;have yo2:w3.cell? ⟨g3,2,none⟩=some (.slice none 0 0):=aA X3.out 2;have fo2:=aH X3.out 2;clear hb hbox hg)|((with_reducible refine aD (f:=30) rfl ?_);refine aU (some 12) rfl rfl Try.func30 (by kernel_rfl) rfl #[.slice A l.length c] rfl (by (try simp only [List.map_toArray,List.map_cons,List.map_nil]);first|done|rfl) ?_;(with_reducible refine (ihS k (Nat.lt_succ_self k) _ _ l t _ (Kd.aI HR.out (below_set (j:=1) (v:=(.int .i64 a1)) (below_set (j:=0) (v:=(.int .i64 a0)) B0.out j3.out) j3.out)) HL.out HT.out).mono ?_);rintro e w4 ⟨v,rfl,hn,hb⟩;refine ⟨_,rfl,?_⟩;obtain ⟨B,d,rfl⟩:=Kd.gI hn;have hle:=((below_set (j:=1) (v:=(.int .i64 a1)) (below_set (j:=0) (v:=(.int .i64 a0)) B0.out j3.out) j3.out)).size;have hl2:=dM (bQ (p:=⟨g3,1,none⟩) (bQ (p:=⟨g3,0,none⟩) X2.out ne23 (.int .i64 a0)) ne23 (.int .i64 a1));have hl3:=dM (aT (cs':=#[(.int .i64 a0),(.int .i64 a1),(.slice none 0 0)]) (aT (cs':=#[(.int .i64 a0),(.int .i64 0),(.slice none 0 0)]) X3.out 0 (.int .i64 a0) rfl) 1 (.int .i64 a1) rfl);have SR:=Aside0.mk (Kd.fE (ok':=fun q=>w.heap.size≤q∧q≠g2∧q≠g3) (Kd.iR hn hle) (fun q hq=>⟨Nat.le_trans hle hq,by omega,by omega⟩));replace X1:=Aside0.mk (aJ (bQ (p:=⟨g3,1,none⟩) (bQ (p:=⟨g3,0,none⟩) X1.out ne13 (.int .i64 a0)) ne13 (.int .i64 a1)) hb);replace X2:=Aside0.mk (aJ (bQ (p:=⟨g3,1,none⟩) (bQ (p:=⟨g3,0,none⟩) X2.out ne23 (.int .i64 a0)) ne23 (.int .i64 a1)) hb);replace X3:=Aside0.mk (aJ (aT (cs':=#[(.int .i64 a0),(.int .i64 a1),(.slice none 0 0)]) (aT (cs':=#[(.int .i64 a0),(.int .i64 0),(.slice none 0 0)]) X3.out 0 (.int .i64 a0) rfl) 1 (.int .i64 a1) rfl) hb);replace B0:=Aside0.mk (aC (below_set (j:=1) (v:=(.int .i64 a1)) (below_set (j:=0) (v:=(.int .i64 a0)) B0.out j3.out) j3.out) hb);clear hb hn hle hl2 hl3 yp0 yp1 yp2 yo0 yo1 yo2 fo0 fo1 fo2;have yp0:w4.cell? ⟨g1,0,none⟩=some (.int .i64 a0):=aA X1.out 0;have yp1:w4.cell? ⟨g1,1,none⟩=some (.int .i64 a1):=aA X1.out 1;have yp2:w4.cell? ⟨g1,2,none⟩=some (.slice A l.length c):=aA X1.out 2;have yo0:w4.cell? ⟨g3,0,none⟩=some (.int .i64 a0):=aA X3.out 0;have fo0:=aH X3.out 0;have yo1:w4.cell? ⟨g3,1,none⟩=some (.int .i64 a1):=aA X3.out 1;have fo1:=aH X3.out 1;have yo2:w4.cell? ⟨g3,2,none⟩=some (.slice none 0 0):=aA X3.out 2;have fo2:=aH X3.out 2;have yr0:w4.cell? ⟨g2,0,none⟩=some (.int .i64 0):=aA X2.out 0;have fr0:=aH X2.out 0;have yr1:w4.cell? ⟨g2,1,none⟩=some (.int .i64 0):=aA X2.out 1;have fr1:=aH X2.out 1;have yr2:w4.cell? ⟨g2,2,none⟩=some (.slice none 0 0):=aA X2.out 2;have fr2:=aH X2.out 2)|fail)
 refine bodyPost_ret (results_cell_row rfl _ _ g2 28 #[(.int .i64 a0),(.int .i64 a1),(.slice B t.length d)] (0,0) _ rfl (aT (cs':=#[(.int .i64 a0),(.int .i64 a1),(.slice B t.length d)]) (aT (cs':=#[(.int .i64 a0),(.int .i64 a1),(.slice none 0 0)]) (aT (cs':=#[(.int .i64 a0),(.int .i64 0),(.slice none 0 0)]) (bQ (p:=⟨g3,2,none⟩) X2.out ne23 (.slice B t.length d)) 0 (.int .i64 a0) rfl) 1 (.int .i64 a1) rfl) 2 (.slice B t.length d) rfl) Try.underlying28 rfl (by kernel_rfl)) rfl ?_
 exact ⟨_,rfl,(Kd.fE (Kd.eD (p:=⟨g2,2,none⟩) (Kd.eD (p:=⟨g2,1,none⟩) (Kd.eD (p:=⟨g2,0,none⟩) (Kd.eD (p:=⟨g3,2,none⟩) SR.out (fun q hq=>hq.2.2) (.slice B t.length d)) (fun q hq=>hq.2.1) (.int .i64 a0)) (fun q hq=>hq.2.1) (.int .i64 a1)) (fun q hq=>hq.2.1) (.slice B t.length d)) (fun q hq=>hq.1)),(below_set (j:=2) (v:=(.slice B t.length d)) (below_set (j:=1) (v:=(.int .i64 a1)) (below_set (j:=0) (v:=(.int .i64 a0)) (below_set (j:=2) (v:=(.slice B t.length d)) B0.out j3.out) j4.out) j4.out) j4.out)⟩
theorem dZ.BS (k:Nat) (ihT:∀ m,m < k→fJ.kY m):dZ.kY k:=by
 intro A0 c0 l0 r w hr0 hc0 h
 cases k with
 |zero=>exact absurd h (by simp [dZ.f])
 |succ k=>
 simp only [dZ.f] at h
 rw [if_pos (by omega)] at h
 by_cases c2:((l0.length:Int):Int).toNat≤7036874417766
 case neg=>rw [if_neg c2] at h;exact absurd h (by simp)
 rw [if_pos c2] at h
 have j4:=Aside0.mk hr0
 have ja:=Aside0.mk hc0
 have H':=Aside0.mk h
 have C2:=Aside0.mk c2
 clear hr0 hc0 h c2
 have p0:=eq_true (show 0≤(l0.length:Int) by omega)
 have p1:decide (0≤(l0.length:Int))=true:=decide_eq_true (by omega)
 go_enter Try.func30,Try.ntmps30
 go_wp2_with (first|((with_reducible refine bJ (N:=7) rfl ?_);refine Kd.LW mF _ 28 rfl (N:=7) rfl 26 _ _ rfl (l0.length:Int) rfl rfl Try.underlying26 (.agg #[(.int .i64 0),(.int .i64 0),(.slice none 0 0)]) 40 aBn rfl (by decide) (by omega) z28 (ok:=fun q=>w.heap.size≤q) (okp:=fun _=>False) (kF _ _ _ z28 (Kd.oP _ _ _ _ _)) (fun _ hq=>hq.elim) (Nat.le_refl _) (by omega) (by have:=C2.out;omega) (Below.refl _ _) (Nat.le_refl _) ?_;intro v3 w4 hn hb hg_ hnew_;clear hg_ hnew_;simp only [Int.toNat_natCast] at hn H';have HO:=Aside0.mk hn;have HB:=Aside0.mk hb;clear hn hb)|fail)
 go_loopg [4] k (fun kq v4 w'=>∃ (x3:List S28) (x4:Int),v4= .int .i64 x4∧Aside0 (dZ.l0 kq l0 x3 x4=some r)∧Aside0 (kq≤k)∧Aside0 (Kd.S mF 28 w' w.heap.size (fun q=>w.heap.size≤q) v3 x3)∧Aside0 (Below w.heap.size w w'))
 case atStart=>exact ⟨_,0,rfl,H',⟨Nat.le_refl _⟩,HO,HB⟩
 case round=>
  clear H' p0 p1 HO HB
  obtain ⟨x3,x4,rfl,HA,j3,HO,HB⟩:=hrel
  cases gk with
  |zero=>exact absurd HA.out (by simp [dZ.l0])
  |succ k1=>
   have H:=HA.out
   clear HA
   simp only [dZ.l0] at H
   by_cases c6:x4 < (l0.length:Int)
   case neg=>
    rw [if_neg c6] at H
    have j5:decide (x4 < (l0.length:Int))=false:=decide_eq_false c6
    clear c6
    obtain rfl:=Option.some.inj H
    go_wp2
    go_ret
    exact ⟨_,rfl,HO.out,HB.out⟩
   rw [if_pos c6] at H
   by_cases c7:0≤x4
   case neg=>rw [if_neg c7] at H;exact absurd H (by simp)
   rw [if_pos c7] at H
   obtain ⟨⟨s0,s1,s2⟩,hs,H⟩:=Option.bind_eq_some_iff.mp H
   by_cases c9:x4 < (x3.length:Int)
   case neg=>rw [if_neg c9] at H;exact absurd H (by simp)
   rw [if_pos c9] at H
   dsimp only at hs H
   have HS:=Aside0.mk hs
   have H':=Aside0.mk H
   clear hs H
   obtain ⟨ad,A2,c2,e0,m0,m1,m2,l2,g2⟩:=LZ j4.out x4 c7 c6
   cases e0
   replace m0:=(HB.out.cell (World.block_lt_of_cell? w _ m0)).trans m0
   replace m1:=(HB.out.cell (World.block_lt_of_cell? w _ m1)).trans m1
   replace m2:=(HB.out.cell (World.block_lt_of_cell? w _ m2)).trans m2
   obtain ⟨go,co,eo,gb,gl,hgc⟩:=Kd.xD HO.out (by omega)
   subst eo
   have G2:=Aside0.mk (Kd.aI g2 HB.out)
   have L2:=Aside0.mk l2
   have C7:=Aside0.mk c7
   have C9:=Aside0.mk c9
   have j5:decide (x4 < (l0.length:Int))=true:=decide_eq_true c6
   have q0:=eq_true c7
   have q1:=eq_true c6
   have q2:=eq_true c9
   clear g2 l2 gb gl hgc c6 c7 c9
   go_wp2_with (first|((with_reducible refine aD (f:=8) rfl ?_);refine aU (some 20) rfl rfl Try.func8 (by kernel_rfl) rfl #[.agg #[.int .i64 (iG l0 x4).f0, .int .i64 (iG l0 x4).f1, .slice A2 (iG l0 x4).f2.length c2]] rfl (by (try simp only [List.map_toArray,List.map_cons,List.map_nil]);first|done|rfl) ?_;(with_reducible refine (ihT k1 (by have:=j3.out;omega) _ _ A2 c2 _ s0 s1 s2 _ G2.out L2.out HS.out).mono ?_);rintro e j6 ⟨jb,rfl,hn,hb⟩;refine ⟨_,rfl,?_⟩;obtain ⟨B5,d5,rfl⟩:=Kd.gI hn;have SN:=Aside0.mk (Kd.iR hn HB.out.size);have WS:=Aside0.mk HB.out.size;obtain ⟨oki,c,hcl,hM,hcc,hoki,hH⟩:=Kd.mV HO.out z28 x4 C7.out C9.out;have HH:=Aside0.mk (Kd.EX (Kd.EY hH) hb);have HCL:=Aside0.mk hcl;have j7:=Aside0.mk (aC HB.out hb);clear hn hb hcl hM hcc hoki hH HB HO)|((with_reducible refine iN (t:=28) (p:=21) rfl ?_);refine rD ?_)|fail)
   refine ⟨?_⟩
   refine Kd.nG mF (w0:=j6) w.heap.size rfl rfl 28 (.tmp 21) (.tmp 20) rfl 28 (g:=go) (o':=x4.toNat * 3) x4 0 x3 (⟨s0,s1,s2⟩:S28) _ [.int .i64 s0, .int .i64 s1, .slice B5 s2.length d5] c (fun q=>w.heap.size≤q) _ (fun q=>wr.heap.size≤q) ?ha ?ho rfl rfl ?ht ?h1 HH.out C7.out C9.out (Nat.le_refl 3) ?hM (fun q hq=> .inr ⟨Nat.le_trans WS.out hq,hq⟩) (Below.refl _ _) ?_
   (case ha=>first|rfl|(go_simp;done)|(go_simp;rfl))
   (case ho=>rfl)
   (case ht=>kernel_rfl)
   (case h1=>intro q hq;simp only [List.mem_cons,List.not_mem_nil,or_false] at hq;rcases hq with rfl|rfl|rfl <;> rfl)
   (case hM=>have hd:c.drop 3=[]:=List.drop_eq_nil_of_le (Nat.le_of_eq HCL.out);show mF.M _ _ _ _ ([] ++ _ ++ c.drop 3);rw [hd];exact kF _ _ _ (⟨s0,s1,s2⟩:S28) SN.out)
   intro jc hn hb hg_
   have j8:=Aside0.mk hn
   have j9:=Aside0.mk (j7.out.trans hb)
   clear hn hb hg_
   go_wp2
   go_roundg k1
   case measure=>have:=j3.out;omega
   case rel=>exact ⟨_,wrap64 (x4 + 1),(by first|rfl|(simp;done)|(simp [*];done)),H',⟨by have:=j3.out;omega⟩,j8,j9⟩
theorem dZ.calls_allS (k:Nat):dZ.kY k∧fJ.kY k:=by
 induction k using Nat.strongRecOn with
 | _ k ih=>exact ⟨dZ.BS k (fun m hm=>(ih m hm).2),fJ.BS k (fun m hm=>(ih m hm).1)⟩
theorem dZ.callsS (k:Nat):dZ.kY k:=(dZ.calls_allS k).1
theorem fJ.callsS (k:Nat):fJ.kY k:=(dZ.calls_allS k).2
abbrev dL.kY (k:Nat):Prop:=∀ (A0:Option Addr) (c0:Nat) (l0:List S66) (r:List S70) (w:World) (hr0:Kd.C k66 w A0 l0.length l0) (hc0:l0.length≤c0) (h:dL.f k l0=some r),
  Calls Try.prog 15 #[.slice A0 l0.length c0] w fun e w'=>∃ v0_:Value,e= .returned v0_∧Kd.S lS 70 w' w.heap.size (fun q=>w.heap.size≤q) v0_ r∧Below w.heap.size w w'
abbrev gM.kY (k:Nat):Prop:=∀ (s:S66) (A5:Option Addr) (c5:Nat) (A6:Option Addr) (c6:Nat) (A7:Option Addr) (c7:Nat) (r:S70) (w:World) (h5:Kd.C k24 w A5 s.f3.f2.length s.f3.f2) (l5:s.f3.f2.length≤c5) (h6:Kd.C k66 w A6 s.f4.length s.f4) (l6:s.f4.length≤c6) (h7:Kd.C k66 w A7 s.f5.length s.f5) (l7:s.f5.length≤c7) (h:gM.f k s=some r),
  Calls Try.prog 39 #[.agg #[(.int .i64 s.f0),(.int .i64 s.f1),(.int .i64 s.f2),(.int .i64 s.f3.f0),(.int .i64 s.f3.f1),(.slice A5 s.f3.f2.length c5),(.slice A6 s.f4.length c6),(.slice A7 s.f5.length c7)]] w fun e w'=>∃ B5 d5 B6 d6 B7 d7,e= .returned (.agg #[.int .i64 r.f0, .int .i64 r.f1, .int .i64 r.f2, .int .i64 r.f3.f0, .int .i64 r.f3.f1, .slice B5 r.f3.f2.length d5, .slice B6 r.f4.length d6, .slice B7 r.f5.length d7])∧lS.M w' w.heap.size (fun q=>w.heap.size≤q) r [.int .i64 r.f0, .int .i64 r.f1, .int .i64 r.f2, .int .i64 r.f3.f0, .int .i64 r.f3.f1, .slice B5 r.f3.f2.length d5, .slice B6 r.f4.length d6, .slice B7 r.f5.length d7]∧Below w.heap.size w w'
theorem gM.BS (k:Nat) (ihS:∀ m,m < k→dL.kY m):gM.kY k:=by
 intro s A5 c5 A6 c6 A7 c7 r w h5 q5 h6 q6 h7 q7 h
 cases k with
 |zero=>exact absurd h (by simp [gM.f])
 |succ k=>
 simp only [gM.f] at h
 replace h:=Option.bind_eq_some_iff.mp h
 obtain ⟨⟨e1,e2,l5⟩,he,h⟩:=h
 replace h:=Option.bind_eq_some_iff.mp h
 obtain ⟨l6,hb6,h⟩:=h
 replace h:=Option.bind_eq_some_iff.mp h
 obtain ⟨l7,hb7,h⟩:=h
 obtain rfl:=Option.some.inj h
 have H5:=Aside0.mk h5
 have H6:=Aside0.mk h6
 have H7:=Aside0.mk h7
 have L5:=Aside0.mk q5
 have L6:=Aside0.mk q6
 have L7:=Aside0.mk q7
 have HE:=Aside0.mk he
 have j5:=Aside0.mk hb6
 have j6:=Aside0.mk hb7
 clear h h5 h6 h7 q5 q6 q7 he hb6 hb7
 go_enter Try.func39,Try.ntmps39
 go_wp2_with (first|((with_reducible refine bJ (N:=1) rfl ?_);refine bR ?hg (N:=1) ?hd (cs:=#[(.int .i64 s.f0),(.int .i64 s.f1),(.int .i64 s.f2),(.int .i64 s.f3.f0),(.int .i64 s.f3.f1),(.slice A5 s.f3.f2.length c5),(.slice A6 s.f4.length c6),(.slice A7 s.f5.length c7)]) (t:=66) ?hr ?_;(case hd=>rfl);(case hg=>rfl);(case hr=>first|(go_simp;done)|(go_simp;rfl));intro g1 hg w1 hbox hb;have X1:=Aside0.mk hbox;have B0:=Aside0.mk hb;have j7:Aside0 (w.heap.size≤g1):=⟨Nat.le_of_eq hg.symm⟩;clear hb hbox hg)|((with_reducible refine bJ (N:=2) rfl ?_);refine bR ?hg (N:=2) ?hd (cs:=#[(.int .i64 0),(.int .i64 0),(.int .i64 0),(.int .i64 0),(.int .i64 0),(.slice none 0 0),(.slice none 0 0),(.slice none 0 0)]) (t:=70) ?hr ?_;(case hd=>rfl);(case hg=>rfl);(case hr=>first|(go_simp;done)|(go_simp;rfl));intro g2 hg w2 hbox hb;have NE12:Aside0 (g1 < g2):=⟨by rw [hg];exact dM X1.out⟩;replace X1:=Aside0.mk (aJ X1.out hb);replace B0:=Aside0.mk (aC B0.out hb);have X2:=Aside0.mk hbox;clear hb hbox hg)|((with_reducible refine bJ (N:=3) rfl ?_);refine bR ?hg (N:=3) ?hd (cs:=#[(.int .i64 0),(.int .i64 0),(.int .i64 0),(.int .i64 0),(.int .i64 0),(.slice none 0 0),(.slice none 0 0),(.slice none 0 0)]) (t:=70) ?hr ?_;(case hd=>rfl);(case hg=>rfl);(case hr=>first|(go_simp;done)|(go_simp;rfl));intro g3 hg w3 hbox hb;have NE23:Aside0 (g2 < g3):=⟨by rw [hg];exact dM X2.out⟩;replace X1:=Aside0.mk (aJ X1.out hb);replace X2:=Aside0.mk (aJ X2.out hb);replace B0:=Aside0.mk (aC B0.out hb);have X3:=Aside0.mk hbox;have j4:Aside0 (w.heap.size≤g2):=⟨by have:=j7.out;have:=NE12.out;omega⟩;have j3:Aside0 (w.heap.size≤g3):=⟨by have:=j4.out;have:=NE23.out;omega⟩;have ne13:g1≠g3:=(by have:=NE12.out;have:=NE23.out;omega);have ne31:g3≠g1:=Ne.symm ne13;have ne23:g2≠g3:=(by have:=NE23.out;omega);have ne32:g3≠g2:=Ne.symm ne23;have yp0:w3.cell? ⟨g1,0,none⟩=some (.int .i64 s.f0):=aA X1.out 0;have yp1:w3.cell? ⟨g1,1,none⟩=some (.int .i64 s.f1):=aA X1.out 1;have yp2:w3.cell? ⟨g1,2,none⟩=some (.int .i64 s.f2):=aA X1.out 2;have yp3:w3.cell? ⟨g1,3,none⟩=some (.int .i64 s.f3.f0):=aA X1.out 3;have yp4:w3.cell? ⟨g1,4,none⟩=some (.int .i64 s.f3.f1):=aA X1.out 4;have yp5:w3.cell? ⟨g1,5,none⟩=some (.slice A5 s.f3.f2.length c5):=aA X1.out 5;have yp6:w3.cell? ⟨g1,6,none⟩=some (.slice A6 s.f4.length c6):=aA X1.out 6;have yp7:w3.cell? ⟨g1,7,none⟩=some (.slice A7 s.f5.length c7):=aA X1.out 7;have yo0:w3.cell? ⟨g3,0,none⟩=some (.int .i64 0):=aA X3.out 0;have fo0:=aH X3.out 0;have yo1:w3.cell? ⟨g3,1,none⟩=some (.int .i64 0):=aA X3.out 1;have fo1:=aH X3.out 1;have yo2:w3.cell? ⟨g3,2,none⟩=some (.int .i64 0):=aA X3.out 2;have fo2:=aH X3.out 2;have yo3:w3.cell? ⟨g3,3,none⟩=some (.int .i64 0):=aA X3.out 3;have fo3:=aH X3.out 3;have yo4:w3.cell? ⟨g3,4,none⟩=some (.int .i64 0):=aA X3.out 4;have fo4:=aH X3.out 4;have yo5:w3.cell? ⟨g3,5,none⟩=some (.slice none 0 0):=aA X3.out 5;have fo5:=aH X3.out 5;have yo6:w3.cell? ⟨g3,6,none⟩=some (.slice none 0 0):=aA X3.out 6;have fo6:=aH X3.out 6;have yo7:w3.cell? ⟨g3,7,none⟩=some (.slice none 0 0):=aA X3.out 7;have fo7:=aH X3.out 7;clear hb hbox hg)|((with_reducible refine aD (f:=8) rfl ?_);refine aU (some 15) rfl rfl Try.func8 (by kernel_rfl) rfl #[.agg #[(.int .i64 s.f3.f0),(.int .i64 s.f3.f1),(.slice A5 s.f3.f2.length c5)]] rfl (by (try simp only [List.map_toArray,List.map_cons,List.map_nil]);first|done|rfl) ?_;(with_reducible refine (fJ.callsS k s.f3.f0 s.f3.f1 A5 c5 s.f3.f2 e1 e2 l5 _ (Kd.aI H5.out (below_set (j:=2) (v:=(.int .i64 s.f2)) (below_set (j:=1) (v:=(.int .i64 s.f1)) (below_set (j:=0) (v:=(.int .i64 s.f0)) B0.out j3.out) j3.out) j3.out)) L5.out HE.out).mono ?_);rintro e w4 ⟨v,rfl,hn,hb⟩;refine ⟨_,rfl,?_⟩;obtain ⟨B5,d5,rfl⟩:=Kd.gI hn;have hle:=((below_set (j:=2) (v:=(.int .i64 s.f2)) (below_set (j:=1) (v:=(.int .i64 s.f1)) (below_set (j:=0) (v:=(.int .i64 s.f0)) B0.out j3.out) j3.out) j3.out)).size;have hl2:=dM (bQ (p:=⟨g3,2,none⟩) (bQ (p:=⟨g3,1,none⟩) (bQ (p:=⟨g3,0,none⟩) X2.out ne23 (.int .i64 s.f0)) ne23 (.int .i64 s.f1)) ne23 (.int .i64 s.f2));have hl3:=dM (aT (cs':=#[(.int .i64 s.f0),(.int .i64 s.f1),(.int .i64 s.f2),(.int .i64 0),(.int .i64 0),(.slice none 0 0),(.slice none 0 0),(.slice none 0 0)]) (aT (cs':=#[(.int .i64 s.f0),(.int .i64 s.f1),(.int .i64 0),(.int .i64 0),(.int .i64 0),(.slice none 0 0),(.slice none 0 0),(.slice none 0 0)]) (aT (cs':=#[(.int .i64 s.f0),(.int .i64 0),(.int .i64 0),(.int .i64 0),(.int .i64 0),(.slice none 0 0),(.slice none 0 0),(.slice none 0 0)]) X3.out 0 (.int .i64 s.f0) rfl) 1 (.int .i64 s.f1) rfl) 2 (.int .i64 s.f2) rfl);have hps:w3.heap.size≤(((w3.setCell ⟨g3,0,none⟩ (.int .i64 s.f0)).setCell ⟨g3,1,none⟩ (.int .i64 s.f1)).setCell ⟨g3,2,none⟩ (.int .i64 s.f2)).heap.size:=(by simp [World.setCell]);have hq2:=fun q (hq:(((w3.setCell ⟨g3,0,none⟩ (.int .i64 s.f0)).setCell ⟨g3,1,none⟩ (.int .i64 s.f1)).setCell ⟨g3,2,none⟩ (.int .i64 s.f2)).heap.size≤q)=>Nat.ne_of_gt (Nat.lt_of_lt_of_le hl2 hq);have hq3:=fun q (hq:(((w3.setCell ⟨g3,0,none⟩ (.int .i64 s.f0)).setCell ⟨g3,1,none⟩ (.int .i64 s.f1)).setCell ⟨g3,2,none⟩ (.int .i64 s.f2)).heap.size≤q)=>Nat.ne_of_gt (Nat.lt_of_lt_of_le hl3 hq);have hO:=Kd.iR (Kd.iD hn) hle;have O5:=Aside0.mk (Kd.fE (ok':=fun q=>(w.heap.size≤q∧q≠g2∧q≠g3)∧0≤q∧q < w4.heap.size) hO (fun q hq=>⟨⟨Nat.le_trans hle hq.2.1,hq2 q hq.2.1,hq3 q hq.2.1⟩,Nat.zero_le _,hq.2.2.1⟩));clear hq2 hq3 hO;replace X1:=Aside0.mk (aJ (bQ (p:=⟨g3,2,none⟩) (bQ (p:=⟨g3,1,none⟩) (bQ (p:=⟨g3,0,none⟩) X1.out ne13 (.int .i64 s.f0)) ne13 (.int .i64 s.f1)) ne13 (.int .i64 s.f2)) hb);replace X2:=Aside0.mk (aJ (bQ (p:=⟨g3,2,none⟩) (bQ (p:=⟨g3,1,none⟩) (bQ (p:=⟨g3,0,none⟩) X2.out ne23 (.int .i64 s.f0)) ne23 (.int .i64 s.f1)) ne23 (.int .i64 s.f2)) hb);replace X3:=Aside0.mk (aJ (aT (cs':=#[(.int .i64 s.f0),(.int .i64 s.f1),(.int .i64 s.f2),(.int .i64 0),(.int .i64 0),(.slice none 0 0),(.slice none 0 0),(.slice none 0 0)]) (aT (cs':=#[(.int .i64 s.f0),(.int .i64 s.f1),(.int .i64 0),(.int .i64 0),(.int .i64 0),(.slice none 0 0),(.slice none 0 0),(.slice none 0 0)]) (aT (cs':=#[(.int .i64 s.f0),(.int .i64 0),(.int .i64 0),(.int .i64 0),(.int .i64 0),(.slice none 0 0),(.slice none 0 0),(.slice none 0 0)]) X3.out 0 (.int .i64 s.f0) rfl) 1 (.int .i64 s.f1) rfl) 2 (.int .i64 s.f2) rfl) hb);replace B0:=Aside0.mk (aC (below_set (j:=2) (v:=(.int .i64 s.f2)) (below_set (j:=1) (v:=(.int .i64 s.f1)) (below_set (j:=0) (v:=(.int .i64 s.f0)) B0.out j3.out) j3.out) j3.out) hb);clear hb hn hle hl2 hl3 hps;clear yp0 yo0 fo0 yp1 yo1 fo1 yp2 yo2 fo2 yp3 yo3 fo3 yp4 yo4 fo4 yp5 yo5 fo5 yp6 yo6 fo6 yp7 yo7 fo7;have yp0:w4.cell? ⟨g1,0,none⟩=some (.int .i64 s.f0):=aA X1.out 0;have yp1:w4.cell? ⟨g1,1,none⟩=some (.int .i64 s.f1):=aA X1.out 1;have yp2:w4.cell? ⟨g1,2,none⟩=some (.int .i64 s.f2):=aA X1.out 2;have yp3:w4.cell? ⟨g1,3,none⟩=some (.int .i64 s.f3.f0):=aA X1.out 3;have yp4:w4.cell? ⟨g1,4,none⟩=some (.int .i64 s.f3.f1):=aA X1.out 4;have yp5:w4.cell? ⟨g1,5,none⟩=some (.slice A5 s.f3.f2.length c5):=aA X1.out 5;have yp6:w4.cell? ⟨g1,6,none⟩=some (.slice A6 s.f4.length c6):=aA X1.out 6;have yp7:w4.cell? ⟨g1,7,none⟩=some (.slice A7 s.f5.length c7):=aA X1.out 7;have yo0:w4.cell? ⟨g3,0,none⟩=some (.int .i64 s.f0):=aA X3.out 0;have fo0:=aH X3.out 0;have yo1:w4.cell? ⟨g3,1,none⟩=some (.int .i64 s.f1):=aA X3.out 1;have fo1:=aH X3.out 1;have yo2:w4.cell? ⟨g3,2,none⟩=some (.int .i64 s.f2):=aA X3.out 2;have fo2:=aH X3.out 2;have yo3:w4.cell? ⟨g3,3,none⟩=some (.int .i64 0):=aA X3.out 3;have fo3:=aH X3.out 3;have yo4:w4.cell? ⟨g3,4,none⟩=some (.int .i64 0):=aA X3.out 4;have fo4:=aH X3.out 4;have yo5:w4.cell? ⟨g3,5,none⟩=some (.slice none 0 0):=aA X3.out 5;have fo5:=aH X3.out 5;have yo6:w4.cell? ⟨g3,6,none⟩=some (.slice none 0 0):=aA X3.out 6;have fo6:=aH X3.out 6;have yo7:w4.cell? ⟨g3,7,none⟩=some (.slice none 0 0):=aA X3.out 7;have fo7:=aH X3.out 7)|((with_reducible refine aD (f:=15) rfl ?_);refine aU (some 19) rfl rfl Try.func15 (by kernel_rfl) rfl #[(.slice A6 s.f4.length c6)] rfl (by (try simp only [List.map_toArray,List.map_cons,List.map_nil]);first|done|rfl) ?_;(with_reducible refine (ihS k (Nat.lt_succ_self k) A6 c6 s.f4 l6 _ (Kd.aI H6.out (below_set (j:=5) (v:=(.slice B5 l5.length d5)) (below_set (j:=4) (v:=(.int .i64 e2)) (below_set (j:=3) (v:=(.int .i64 e1)) B0.out j3.out) j3.out) j3.out)) L6.out j5.out).mono ?_);rintro e w5 ⟨v,rfl,hn,hb⟩;refine ⟨_,rfl,?_⟩;obtain ⟨B6,d6,rfl⟩:=Kd.gI hn;have hle:=((below_set (j:=5) (v:=(.slice B5 l5.length d5)) (below_set (j:=4) (v:=(.int .i64 e2)) (below_set (j:=3) (v:=(.int .i64 e1)) B0.out j3.out) j3.out) j3.out)).size;have hl2:=dM (bQ (p:=⟨g3,5,none⟩) (bQ (p:=⟨g3,4,none⟩) (bQ (p:=⟨g3,3,none⟩) X2.out ne23 (.int .i64 e1)) ne23 (.int .i64 e2)) ne23 (.slice B5 l5.length d5));have hl3:=dM (aT (cs':=#[(.int .i64 s.f0),(.int .i64 s.f1),(.int .i64 s.f2),(.int .i64 e1),(.int .i64 e2),(.slice B5 l5.length d5),(.slice none 0 0),(.slice none 0 0)]) (aT (cs':=#[(.int .i64 s.f0),(.int .i64 s.f1),(.int .i64 s.f2),(.int .i64 e1),(.int .i64 e2),(.slice none 0 0),(.slice none 0 0),(.slice none 0 0)]) (aT (cs':=#[(.int .i64 s.f0),(.int .i64 s.f1),(.int .i64 s.f2),(.int .i64 e1),(.int .i64 0),(.slice none 0 0),(.slice none 0 0),(.slice none 0 0)]) X3.out 3 (.int .i64 e1) rfl) 4 (.int .i64 e2) rfl) 5 (.slice B5 l5.length d5) rfl);have hps:w4.heap.size≤(((w4.setCell ⟨g3,3,none⟩ (.int .i64 e1)).setCell ⟨g3,4,none⟩ (.int .i64 e2)).setCell ⟨g3,5,none⟩ (.slice B5 l5.length d5)).heap.size:=(by simp [World.setCell]);have hq2:=fun q (hq:(((w4.setCell ⟨g3,3,none⟩ (.int .i64 e1)).setCell ⟨g3,4,none⟩ (.int .i64 e2)).setCell ⟨g3,5,none⟩ (.slice B5 l5.length d5)).heap.size≤q)=>Nat.ne_of_gt (Nat.lt_of_lt_of_le hl2 hq);have hq3:=fun q (hq:(((w4.setCell ⟨g3,3,none⟩ (.int .i64 e1)).setCell ⟨g3,4,none⟩ (.int .i64 e2)).setCell ⟨g3,5,none⟩ (.slice B5 l5.length d5)).heap.size≤q)=>Nat.ne_of_gt (Nat.lt_of_lt_of_le hl3 hq);have hO:=Kd.iR (Kd.iD hn) hle;have O6:=Aside0.mk (Kd.fE (ok':=fun q=>(w.heap.size≤q∧q≠g2∧q≠g3)∧w4.heap.size≤q∧q < w5.heap.size) hO (fun q hq=>⟨⟨Nat.le_trans hle hq.2.1,hq2 q hq.2.1,hq3 q hq.2.1⟩,Nat.le_trans hps hq.2.1,hq.2.2.1⟩));clear hq2 hq3 hO;replace O5:=Aside0.mk (Kd.fC (Kd.eD (p:=⟨g3,5,none⟩) (Kd.eD (p:=⟨g3,4,none⟩) (Kd.eD (p:=⟨g3,3,none⟩) O5.out (fun q hq=>hq.1.2.2) (.int .i64 e1)) (fun q hq=>hq.1.2.2) (.int .i64 e2)) (fun q hq=>hq.1.2.2) (.slice B5 l5.length d5)) hb);replace X1:=Aside0.mk (aJ (bQ (p:=⟨g3,5,none⟩) (bQ (p:=⟨g3,4,none⟩) (bQ (p:=⟨g3,3,none⟩) X1.out ne13 (.int .i64 e1)) ne13 (.int .i64 e2)) ne13 (.slice B5 l5.length d5)) hb);replace X2:=Aside0.mk (aJ (bQ (p:=⟨g3,5,none⟩) (bQ (p:=⟨g3,4,none⟩) (bQ (p:=⟨g3,3,none⟩) X2.out ne23 (.int .i64 e1)) ne23 (.int .i64 e2)) ne23 (.slice B5 l5.length d5)) hb);replace X3:=Aside0.mk (aJ (aT (cs':=#[(.int .i64 s.f0),(.int .i64 s.f1),(.int .i64 s.f2),(.int .i64 e1),(.int .i64 e2),(.slice B5 l5.length d5),(.slice none 0 0),(.slice none 0 0)]) (aT (cs':=#[(.int .i64 s.f0),(.int .i64 s.f1),(.int .i64 s.f2),(.int .i64 e1),(.int .i64 e2),(.slice none 0 0),(.slice none 0 0),(.slice none 0 0)]) (aT (cs':=#[(.int .i64 s.f0),(.int .i64 s.f1),(.int .i64 s.f2),(.int .i64 e1),(.int .i64 0),(.slice none 0 0),(.slice none 0 0),(.slice none 0 0)]) X3.out 3 (.int .i64 e1) rfl) 4 (.int .i64 e2) rfl) 5 (.slice B5 l5.length d5) rfl) hb);replace B0:=Aside0.mk (aC (below_set (j:=5) (v:=(.slice B5 l5.length d5)) (below_set (j:=4) (v:=(.int .i64 e2)) (below_set (j:=3) (v:=(.int .i64 e1)) B0.out j3.out) j3.out) j3.out) hb);have j8:Aside0 (w4.heap.size≤w5.heap.size):=⟨Nat.le_trans hps hb.size⟩;clear hb hn hle hl2 hl3 hps;clear yp0 yo0 fo0 yp1 yo1 fo1 yp2 yo2 fo2 yp3 yo3 fo3 yp4 yo4 fo4 yp5 yo5 fo5 yp6 yo6 fo6 yp7 yo7 fo7;have yp0:w5.cell? ⟨g1,0,none⟩=some (.int .i64 s.f0):=aA X1.out 0;have yp1:w5.cell? ⟨g1,1,none⟩=some (.int .i64 s.f1):=aA X1.out 1;have yp2:w5.cell? ⟨g1,2,none⟩=some (.int .i64 s.f2):=aA X1.out 2;have yp3:w5.cell? ⟨g1,3,none⟩=some (.int .i64 s.f3.f0):=aA X1.out 3;have yp4:w5.cell? ⟨g1,4,none⟩=some (.int .i64 s.f3.f1):=aA X1.out 4;have yp5:w5.cell? ⟨g1,5,none⟩=some (.slice A5 s.f3.f2.length c5):=aA X1.out 5;have yp6:w5.cell? ⟨g1,6,none⟩=some (.slice A6 s.f4.length c6):=aA X1.out 6;have yp7:w5.cell? ⟨g1,7,none⟩=some (.slice A7 s.f5.length c7):=aA X1.out 7;have yo0:w5.cell? ⟨g3,0,none⟩=some (.int .i64 s.f0):=aA X3.out 0;have fo0:=aH X3.out 0;have yo1:w5.cell? ⟨g3,1,none⟩=some (.int .i64 s.f1):=aA X3.out 1;have fo1:=aH X3.out 1;have yo2:w5.cell? ⟨g3,2,none⟩=some (.int .i64 s.f2):=aA X3.out 2;have fo2:=aH X3.out 2;have yo3:w5.cell? ⟨g3,3,none⟩=some (.int .i64 e1):=aA X3.out 3;have fo3:=aH X3.out 3;have yo4:w5.cell? ⟨g3,4,none⟩=some (.int .i64 e2):=aA X3.out 4;have fo4:=aH X3.out 4;have yo5:w5.cell? ⟨g3,5,none⟩=some (.slice B5 l5.length d5):=aA X3.out 5;have fo5:=aH X3.out 5;have yo6:w5.cell? ⟨g3,6,none⟩=some (.slice none 0 0):=aA X3.out 6;have fo6:=aH X3.out 6;have yo7:w5.cell? ⟨g3,7,none⟩=some (.slice none 0 0):=aA X3.out 7;have fo7:=aH X3.out 7)|((with_reducible refine aD (f:=15) rfl ?_);refine aU (some 23) rfl rfl Try.func15 (by kernel_rfl) rfl #[(.slice A7 s.f5.length c7)] rfl (by (try simp only [List.map_toArray,List.map_cons,List.map_nil]);first|done|rfl) ?_;(with_reducible refine (ihS k (Nat.lt_succ_self k) A7 c7 s.f5 l7 _ (Kd.aI H7.out (below_set (j:=6) (v:=(.slice B6 l6.length d6)) B0.out j3.out)) L7.out j6.out).mono ?_);rintro e w6 ⟨v,rfl,hn,hb⟩;refine ⟨_,rfl,?_⟩;obtain ⟨B7,d7,rfl⟩:=Kd.gI hn;have hle:=((below_set (j:=6) (v:=(.slice B6 l6.length d6)) B0.out j3.out)).size;have hl2:=dM (bQ (p:=⟨g3,6,none⟩) X2.out ne23 (.slice B6 l6.length d6));have hl3:=dM (aT (cs':=#[(.int .i64 s.f0),(.int .i64 s.f1),(.int .i64 s.f2),(.int .i64 e1),(.int .i64 e2),(.slice B5 l5.length d5),(.slice B6 l6.length d6),(.slice none 0 0)]) X3.out 6 (.slice B6 l6.length d6) rfl);have hps:w5.heap.size≤(w5.setCell ⟨g3,6,none⟩ (.slice B6 l6.length d6)).heap.size:=(by simp [World.setCell]);have hq2:=fun q (hq:(w5.setCell ⟨g3,6,none⟩ (.slice B6 l6.length d6)).heap.size≤q)=>Nat.ne_of_gt (Nat.lt_of_lt_of_le hl2 hq);have hq3:=fun q (hq:(w5.setCell ⟨g3,6,none⟩ (.slice B6 l6.length d6)).heap.size≤q)=>Nat.ne_of_gt (Nat.lt_of_lt_of_le hl3 hq);have hO:=Kd.iR (Kd.iD hn) hle;have O7:=Aside0.mk (Kd.fE (ok':=fun q=>(w.heap.size≤q∧q≠g2∧q≠g3)∧w5.heap.size≤q∧q < w6.heap.size) hO (fun q hq=>⟨⟨Nat.le_trans hle hq.2.1,hq2 q hq.2.1,hq3 q hq.2.1⟩,Nat.le_trans hps hq.2.1,hq.2.2.1⟩));clear hq2 hq3 hO;replace O5:=Aside0.mk (Kd.fC (Kd.eD (p:=⟨g3,6,none⟩) O5.out (fun q hq=>hq.1.2.2) (.slice B6 l6.length d6)) hb);replace O6:=Aside0.mk (Kd.fC (Kd.eD (p:=⟨g3,6,none⟩) O6.out (fun q hq=>hq.1.2.2) (.slice B6 l6.length d6)) hb);replace X1:=Aside0.mk (aJ (bQ (p:=⟨g3,6,none⟩) X1.out ne13 (.slice B6 l6.length d6)) hb);replace X2:=Aside0.mk (aJ (bQ (p:=⟨g3,6,none⟩) X2.out ne23 (.slice B6 l6.length d6)) hb);replace X3:=Aside0.mk (aJ (aT (cs':=#[(.int .i64 s.f0),(.int .i64 s.f1),(.int .i64 s.f2),(.int .i64 e1),(.int .i64 e2),(.slice B5 l5.length d5),(.slice B6 l6.length d6),(.slice none 0 0)]) X3.out 6 (.slice B6 l6.length d6) rfl) hb);replace B0:=Aside0.mk (aC (below_set (j:=6) (v:=(.slice B6 l6.length d6)) B0.out j3.out) hb);clear hb hn hle hl2 hl3 hps;clear yp0 yo0 fo0 yp1 yo1 fo1 yp2 yo2 fo2 yp3 yo3 fo3 yp4 yo4 fo4 yp5 yo5 fo5 yp6 yo6 fo6 yp7 yo7 fo7;have yp0:w6.cell? ⟨g1,0,none⟩=some (.int .i64 s.f0):=aA X1.out 0;have yp1:w6.cell? ⟨g1,1,none⟩=some (.int .i64 s.f1):=aA X1.out 1;have yp2:w6.cell? ⟨g1,2,none⟩=some (.int .i64 s.f2):=aA X1.out 2;have yp3:w6.cell? ⟨g1,3,none⟩=some (.int .i64 s.f3.f0):=aA X1.out 3;have yp4:w6.cell? ⟨g1,4,none⟩=some (.int .i64 s.f3.f1):=aA X1.out 4;have yp5:w6.cell? ⟨g1,5,none⟩=some (.slice A5 s.f3.f2.length c5):=aA X1.out 5;have yp6:w6.cell? ⟨g1,6,none⟩=some (.slice A6 s.f4.length c6):=aA X1.out 6;have yp7:w6.cell? ⟨g1,7,none⟩=some (.slice A7 s.f5.length c7):=aA X1.out 7;have yo0:w6.cell? ⟨g3,0,none⟩=some (.int .i64 s.f0):=aA X3.out 0;have fo0:=aH X3.out 0;have yo1:w6.cell? ⟨g3,1,none⟩=some (.int .i64 s.f1):=aA X3.out 1;have fo1:=aH X3.out 1;have yo2:w6.cell? ⟨g3,2,none⟩=some (.int .i64 s.f2):=aA X3.out 2;have fo2:=aH X3.out 2;have yo3:w6.cell? ⟨g3,3,none⟩=some (.int .i64 e1):=aA X3.out 3;have fo3:=aH X3.out 3;have yo4:w6.cell? ⟨g3,4,none⟩=some (.int .i64 e2):=aA X3.out 4;have fo4:=aH X3.out 4;have yo5:w6.cell? ⟨g3,5,none⟩=some (.slice B5 l5.length d5):=aA X3.out 5;have fo5:=aH X3.out 5;have yo6:w6.cell? ⟨g3,6,none⟩=some (.slice B6 l6.length d6):=aA X3.out 6;have fo6:=aH X3.out 6;have yo7:w6.cell? ⟨g3,7,none⟩=some (.slice none 0 0):=aA X3.out 7;have fo7:=aH X3.out 7;have yr0:w6.cell? ⟨g2,0,none⟩=some (.int .i64 0):=aA X2.out 0;have fr0:=aH X2.out 0;have yr1:w6.cell? ⟨g2,1,none⟩=some (.int .i64 0):=aA X2.out 1;have fr1:=aH X2.out 1;have yr2:w6.cell? ⟨g2,2,none⟩=some (.int .i64 0):=aA X2.out 2;have fr2:=aH X2.out 2;have yr3:w6.cell? ⟨g2,3,none⟩=some (.int .i64 0):=aA X2.out 3;have fr3:=aH X2.out 3;have yr4:w6.cell? ⟨g2,4,none⟩=some (.int .i64 0):=aA X2.out 4;have fr4:=aH X2.out 4;have yr5:w6.cell? ⟨g2,5,none⟩=some (.slice none 0 0):=aA X2.out 5;have fr5:=aH X2.out 5;have yr6:w6.cell? ⟨g2,6,none⟩=some (.slice none 0 0):=aA X2.out 6;have fr6:=aH X2.out 6;have yr7:w6.cell? ⟨g2,7,none⟩=some (.slice none 0 0):=aA X2.out 7;have fr7:=aH X2.out 7)|fail)
 refine bodyPost_ret (results_cell_row rfl _ _ g2 70 #[(.int .i64 s.f0),(.int .i64 s.f1),(.int .i64 s.f2),(.int .i64 e1),(.int .i64 e2),(.slice B5 l5.length d5),(.slice B6 l6.length d6),(.slice B7 l7.length d7)] (0,0) _ rfl (aT (cs':=#[(.int .i64 s.f0),(.int .i64 s.f1),(.int .i64 s.f2),(.int .i64 e1),(.int .i64 e2),(.slice B5 l5.length d5),(.slice B6 l6.length d6),(.slice B7 l7.length d7)]) (aT (cs':=#[(.int .i64 s.f0),(.int .i64 s.f1),(.int .i64 s.f2),(.int .i64 e1),(.int .i64 e2),(.slice B5 l5.length d5),(.slice B6 l6.length d6),(.slice none 0 0)]) (aT (cs':=#[(.int .i64 s.f0),(.int .i64 s.f1),(.int .i64 s.f2),(.int .i64 e1),(.int .i64 e2),(.slice B5 l5.length d5),(.slice none 0 0),(.slice none 0 0)]) (aT (cs':=#[(.int .i64 s.f0),(.int .i64 s.f1),(.int .i64 s.f2),(.int .i64 e1),(.int .i64 e2),(.slice none 0 0),(.slice none 0 0),(.slice none 0 0)]) (aT (cs':=#[(.int .i64 s.f0),(.int .i64 s.f1),(.int .i64 s.f2),(.int .i64 e1),(.int .i64 0),(.slice none 0 0),(.slice none 0 0),(.slice none 0 0)]) (aT (cs':=#[(.int .i64 s.f0),(.int .i64 s.f1),(.int .i64 s.f2),(.int .i64 0),(.int .i64 0),(.slice none 0 0),(.slice none 0 0),(.slice none 0 0)]) (aT (cs':=#[(.int .i64 s.f0),(.int .i64 s.f1),(.int .i64 0),(.int .i64 0),(.int .i64 0),(.slice none 0 0),(.slice none 0 0),(.slice none 0 0)]) (aT (cs':=#[(.int .i64 s.f0),(.int .i64 0),(.int .i64 0),(.int .i64 0),(.int .i64 0),(.slice none 0 0),(.slice none 0 0),(.slice none 0 0)]) (bQ (p:=⟨g3,7,none⟩) X2.out ne23 (.slice B7 l7.length d7)) 0 (.int .i64 s.f0) rfl) 1 (.int .i64 s.f1) rfl) 2 (.int .i64 s.f2) rfl) 3 (.int .i64 e1) rfl) 4 (.int .i64 e2) rfl) 5 (.slice B5 l5.length d5) rfl) 6 (.slice B6 l6.length d6) rfl) 7 (.slice B7 l7.length d7) rfl) Try.underlying70 rfl (by kernel_rfl)) rfl ?_
 have E5:=(Kd.eD (p:=⟨g2,7,none⟩) (Kd.eD (p:=⟨g2,6,none⟩) (Kd.eD (p:=⟨g2,5,none⟩) (Kd.eD (p:=⟨g2,4,none⟩) (Kd.eD (p:=⟨g2,3,none⟩) (Kd.eD (p:=⟨g2,2,none⟩) (Kd.eD (p:=⟨g2,1,none⟩) (Kd.eD (p:=⟨g2,0,none⟩) (Kd.eD (p:=⟨g3,7,none⟩) O5.out (fun q hq=>hq.1.2.2) (.slice B7 l7.length d7)) (fun q hq=>hq.1.2.1) (.int .i64 s.f0)) (fun q hq=>hq.1.2.1) (.int .i64 s.f1)) (fun q hq=>hq.1.2.1) (.int .i64 s.f2)) (fun q hq=>hq.1.2.1) (.int .i64 e1)) (fun q hq=>hq.1.2.1) (.int .i64 e2)) (fun q hq=>hq.1.2.1) (.slice B5 l5.length d5)) (fun q hq=>hq.1.2.1) (.slice B6 l6.length d6)) (fun q hq=>hq.1.2.1) (.slice B7 l7.length d7))
 have E6:=(Kd.eD (p:=⟨g2,7,none⟩) (Kd.eD (p:=⟨g2,6,none⟩) (Kd.eD (p:=⟨g2,5,none⟩) (Kd.eD (p:=⟨g2,4,none⟩) (Kd.eD (p:=⟨g2,3,none⟩) (Kd.eD (p:=⟨g2,2,none⟩) (Kd.eD (p:=⟨g2,1,none⟩) (Kd.eD (p:=⟨g2,0,none⟩) (Kd.eD (p:=⟨g3,7,none⟩) O6.out (fun q hq=>hq.1.2.2) (.slice B7 l7.length d7)) (fun q hq=>hq.1.2.1) (.int .i64 s.f0)) (fun q hq=>hq.1.2.1) (.int .i64 s.f1)) (fun q hq=>hq.1.2.1) (.int .i64 s.f2)) (fun q hq=>hq.1.2.1) (.int .i64 e1)) (fun q hq=>hq.1.2.1) (.int .i64 e2)) (fun q hq=>hq.1.2.1) (.slice B5 l5.length d5)) (fun q hq=>hq.1.2.1) (.slice B6 l6.length d6)) (fun q hq=>hq.1.2.1) (.slice B7 l7.length d7))
 have E7:=(Kd.eD (p:=⟨g2,7,none⟩) (Kd.eD (p:=⟨g2,6,none⟩) (Kd.eD (p:=⟨g2,5,none⟩) (Kd.eD (p:=⟨g2,4,none⟩) (Kd.eD (p:=⟨g2,3,none⟩) (Kd.eD (p:=⟨g2,2,none⟩) (Kd.eD (p:=⟨g2,1,none⟩) (Kd.eD (p:=⟨g2,0,none⟩) (Kd.eD (p:=⟨g3,7,none⟩) O7.out (fun q hq=>hq.1.2.2) (.slice B7 l7.length d7)) (fun q hq=>hq.1.2.1) (.int .i64 s.f0)) (fun q hq=>hq.1.2.1) (.int .i64 s.f1)) (fun q hq=>hq.1.2.1) (.int .i64 s.f2)) (fun q hq=>hq.1.2.1) (.int .i64 e1)) (fun q hq=>hq.1.2.1) (.int .i64 e2)) (fun q hq=>hq.1.2.1) (.slice B5 l5.length d5)) (fun q hq=>hq.1.2.1) (.slice B6 l6.length d6)) (fun q hq=>hq.1.2.1) (.slice B7 l7.length d7))
 refine ⟨B5,d5,B6,d6,B7,d7,rfl,mO _ _ _ _ _ _ (⟨s.f0,s.f1,s.f2,⟨e1,e2,l5⟩,l6,l7⟩:S70) E5 E6 E7 (fun q hq=>?_) (fun q=>⟨fun a=>⟨fun b=>?_,fun b=>?_⟩,fun a b=>?_⟩),(below_set (j:=7) (v:=(.slice B7 l7.length d7)) (below_set (j:=6) (v:=(.slice B6 l6.length d6)) (below_set (j:=5) (v:=(.slice B5 l5.length d5)) (below_set (j:=4) (v:=(.int .i64 e2)) (below_set (j:=3) (v:=(.int .i64 e1)) (below_set (j:=2) (v:=(.int .i64 s.f2)) (below_set (j:=1) (v:=(.int .i64 s.f1)) (below_set (j:=0) (v:=(.int .i64 s.f0)) (below_set (j:=7) (v:=(.slice B7 l7.length d7)) B0.out j3.out) j4.out) j4.out) j4.out) j4.out) j4.out) j4.out) j4.out) j4.out)⟩
 ·rcases hq with hq|hq|hq
  ·exact hq.1.1
  ·exact hq.1.1
  ·exact hq.1.1
 ·have:=a.2.2;have:=b.2.1;omega
 ·have:=a.2.2;have:=b.2.1;have:=j8.out;omega
 ·have:=a.2.2;have:=b.2.1;omega
theorem dL.BS (k:Nat) (ihT:∀ m,m < k→gM.kY m):dL.kY k:=by
 intro A0 c0 l0 r w hr0 hc0 h
 cases k with
 |zero=>exact absurd h (by simp [dL.f])
 |succ k=>
 simp only [dL.f] at h
 by_cases c2:l0.length≤2513169434916
 case neg=>rw [if_neg c2] at h;exact absurd h (by simp)
 rw [if_pos c2] at h
 have j4:=Aside0.mk hr0
 have ja:=Aside0.mk hc0
 have H':=Aside0.mk h
 have C2:=Aside0.mk c2
 clear hr0 hc0 h c2
 have p0:=eq_true (show 0≤(l0.length:Int) by omega)
 have p1:decide (0≤(l0.length:Int))=true:=decide_eq_true (by omega)
 go_enter Try.func15,Try.ntmps15
 go_wp2_with (first|((with_reducible refine bJ (N:=7) rfl ?_);refine Kd.LW lS _ 70 rfl (N:=7) rfl 37 _ _ rfl (l0.length:Int) rfl rfl Try.underlying37 (.agg #[(.int .i64 0),(.int .i64 0),(.int .i64 0),(.int .i64 0),(.int .i64 0),(.slice none 0 0),(.slice none 0 0),(.slice none 0 0)]) 112 BL rfl (by decide) (by omega) z70 (ok:=fun q=>w.heap.size≤q) (okp:=fun _=>False) (mO _ _ _ (fun _=>False) (fun _=>False) (fun _=>False) z70 (Kd.oP _ _ _ _ _) (Kd.oP _ _ _ _ _) (Kd.oP _ _ _ _ _) (fun _ hq=>by rcases hq with hq|hq|hq <;> exact hq) (fun _=>⟨fun hq=>hq.elim,fun hq=>hq.elim⟩)) (fun _ hq=>hq.elim) (Nat.le_refl _) (by omega) (by have:=C2.out;omega) (Below.refl _ _) (Nat.le_refl _) ?_;intro v3 w4 hn hb hg_ hnew_;clear hg_ hnew_;simp only [Int.toNat_natCast] at hn;have HO:=Aside0.mk hn;have HB:=Aside0.mk hb;clear hn hb)|fail)
 go_loopg [4] k (fun kq v4 w'=>∃ (x3:List S70) (x4:Int),v4= .int .i64 x4∧Aside0 (dL.l0 kq l0 x3 x4=some r)∧Aside0 (kq≤k)∧Aside0 (Kd.S lS 70 w' w.heap.size (fun q=>w.heap.size≤q) v3 x3)∧Aside0 (Below w.heap.size w w'))
 case atStart=>exact ⟨_,0,rfl,H',⟨Nat.le_refl _⟩,HO,HB⟩
 case round=>
  clear H' p0 p1 HO HB
  obtain ⟨x3,x4,rfl,HA,j3,HO,HB⟩:=hrel
  cases gk with
  |zero=>exact absurd HA.out (by simp [dL.l0])
  |succ k1=>
   have H:=HA.out
   clear HA
   simp only [dL.l0] at H
   by_cases c6:x4 < (l0.length:Int)
   case neg=>
    rw [if_neg c6] at H
    have j5:decide (x4 < (l0.length:Int))=false:=decide_eq_false c6
    clear c6
    obtain rfl:=Option.some.inj H
    go_wp2
    go_ret
    exact ⟨_,rfl,HO.out,HB.out⟩
   rw [if_pos c6] at H
   by_cases c7:0≤x4
   case neg=>rw [if_neg c7] at H;exact absurd H (by simp)
   rw [if_pos c7] at H
   obtain ⟨s,hs,H⟩:=Option.bind_eq_some_iff.mp H
   by_cases c9:x4 < (x3.length:Int)
   case neg=>rw [if_neg c9] at H;exact absurd H (by simp)
   rw [if_pos c9] at H
   have HS:=Aside0.mk hs
   have H':=Aside0.mk H
   clear hs H
   obtain ⟨ad,A5,c5,A6,d6,A7,d7,e0,m0,m1,m2,m3,m4,m5,m6,m7,l5,g5,l6,g6,l7,g7⟩:=MB j4.out x4 c7 c6
   cases e0
   replace m0:=(HB.out.cell (World.block_lt_of_cell? w _ m0)).trans m0
   replace m1:=(HB.out.cell (World.block_lt_of_cell? w _ m1)).trans m1
   replace m2:=(HB.out.cell (World.block_lt_of_cell? w _ m2)).trans m2
   replace m3:=(HB.out.cell (World.block_lt_of_cell? w _ m3)).trans m3
   replace m4:=(HB.out.cell (World.block_lt_of_cell? w _ m4)).trans m4
   replace m5:=(HB.out.cell (World.block_lt_of_cell? w _ m5)).trans m5
   replace m6:=(HB.out.cell (World.block_lt_of_cell? w _ m6)).trans m6
   replace m7:=(HB.out.cell (World.block_lt_of_cell? w _ m7)).trans m7
   obtain ⟨go,co,eo,gb,gl,hgc⟩:=Kd.xD HO.out (by omega)
   subst eo
   have G5:=Aside0.mk (Kd.aI g5 HB.out)
   have G6:=Aside0.mk (Kd.aI g6 HB.out)
   have G7:=Aside0.mk (Kd.aI g7 HB.out)
   have L5:=Aside0.mk l5
   have L6:=Aside0.mk l6
   have L7:=Aside0.mk l7
   have C7:=Aside0.mk c7
   have C9:=Aside0.mk c9
   have j5:decide (x4 < (l0.length:Int))=true:=decide_eq_true c6
   have q0:=eq_true c7
   have q1:=eq_true c6
   have q2:=eq_true c9
   clear g5 g6 g7 l5 l6 l7 gb gl hgc c6 c7 c9
   go_wp2_with (first|((with_reducible refine aD (f:=39) rfl ?_);refine aU (some 20) rfl rfl Try.func39 (by kernel_rfl) rfl #[.agg #[(.int .i64 (dU l0 x4).f0),(.int .i64 (dU l0 x4).f1),(.int .i64 (dU l0 x4).f2),(.int .i64 (dU l0 x4).f3.f0),(.int .i64 (dU l0 x4).f3.f1),(.slice A5 (dU l0 x4).f3.f2.length c5),(.slice A6 (dU l0 x4).f4.length d6),(.slice A7 (dU l0 x4).f5.length d7)]] rfl (by (try simp only [List.map_toArray,List.map_cons,List.map_nil]);first|done|rfl) ?_;(with_reducible refine (ihT k1 (by have:=j3.out;omega) (dU l0 x4) A5 c5 A6 d6 A7 d7 s _ G5.out L5.out G6.out L6.out G7.out L7.out HS.out).mono ?_);rintro e j6 ⟨B5,e5,B6,e6,B7,e7,rfl,hm,hb⟩;refine ⟨_,rfl,?_⟩;have SN:=Aside0.mk (lS.M_lower HB.out.size hm);have WS:=Aside0.mk HB.out.size;obtain ⟨oki,c,hcl,hM,hcc,hoki,hH⟩:=Kd.mV HO.out z70 x4 C7.out C9.out;have HH:=Aside0.mk (Kd.EX (Kd.EY hH) hb);have HCL:=Aside0.mk hcl;have j7:=Aside0.mk (aC HB.out hb);clear hm hb hcl hM hcc hoki hH HB HO)|((with_reducible refine iN (t:=70) (p:=21) rfl ?_);refine rD ?_)|fail)
   refine ⟨?_⟩
   refine Kd.nG lS (w0:=j6) w.heap.size rfl rfl 70 (.tmp 21) (.tmp 20) rfl 70 (g:=go) (o':=x4.toNat * 8) x4 0 x3 s _ [.int .i64 s.f0, .int .i64 s.f1, .int .i64 s.f2, .int .i64 s.f3.f0, .int .i64 s.f3.f1, .slice B5 s.f3.f2.length e5, .slice B6 s.f4.length e6, .slice B7 s.f5.length e7] c (fun q=>w.heap.size≤q) _ (fun q=>wr.heap.size≤q) ?ha ?ho rfl rfl ?ht ?h1 HH.out C7.out C9.out (Nat.le_refl 8) ?hM (fun q hq=> .inr ⟨Nat.le_trans WS.out hq,hq⟩) (Below.refl _ _) ?_
   (case ha=>first|rfl|(go_simp;done)|(go_simp;rfl))
   (case ho=>rfl)
   (case ht=>kernel_rfl)
   (case h1=>intro q hq;simp only [List.mem_cons,List.not_mem_nil,or_false] at hq;rcases hq with rfl|rfl|rfl|rfl|rfl|rfl|rfl|rfl <;> rfl)
   (case hM=>have hd:c.drop 8=[]:=List.drop_eq_nil_of_le (Nat.le_of_eq HCL.out);show lS.M _ _ _ _ ([] ++ _ ++ c.drop 8);rw [hd];exact SN.out)
   intro jb hn hb hg_
   have j8:=Aside0.mk hn
   have j9:=Aside0.mk (j7.out.trans hb)
   clear hn hb hg_
   go_wp2
   go_roundg k1
   case measure=>have:=j3.out;omega
   case rel=>exact ⟨_,wrap64 (x4 + 1),(by first|rfl|(simp;done)|(simp [*];done)),H',⟨by have:=j3.out;omega⟩,j8,j9⟩
theorem dL.calls_allS (k:Nat):dL.kY k∧gM.kY k:=by
 induction k using Nat.strongRecOn with
 | _ k ih=>exact ⟨dL.BS k (fun m hm=>(ih m hm).2),gM.BS k (fun m hm=>(ih m hm).1)⟩
theorem dL.callsS (k:Nat):dL.kY k:=(dL.calls_allS k).1
theorem fK.callsS (k:Nat) (A0:Option Addr) (c0:Nat) (l0:List (List S66)) (r:List (List S70)) (w:World) (hr0:Kd.C (Kd.slice 66 k66) w A0 l0.length l0) (hc0:l0.length≤c0) (h:fK.f k l0=some r):
  Calls Try.prog 47 #[.slice A0 l0.length c0] w fun e w'=>∃ v0_:Value,e= .returned v0_∧Kd.S kP 37 w' w.heap.size (fun q=>w.heap.size≤q) v0_ r∧Below w.heap.size w w':=by
 unfold fK.f at h
 rw [if_pos (by omega)] at h
 by_cases c2:((l0.length:Int):Int).toNat≤11728124029610
 case neg=>rw [if_neg c2] at h;exact absurd h (by simp)
 rw [if_pos c2] at h
 have j4:=Aside0.mk hr0
 have ja:=Aside0.mk hc0
 have H':=Aside0.mk h
 have C2:=Aside0.mk c2
 clear hr0 hc0 h c2
 have p0:=eq_true (show 0≤(l0.length:Int) by omega)
 have p1:decide (0≤(l0.length:Int))=true:=decide_eq_true (by omega)
 go_enter Try.func47,Try.ntmps47
 go_wp2_with (first|((with_reducible refine bJ (N:=7) rfl ?_);refine Kd.LW kP _ 37 rfl (N:=7) rfl 49 _ _ rfl (l0.length:Int) rfl rfl Try.underlying49 (.slice none 0 0) 24 FX rfl (by decide) (by omega) [] (ok:=fun q=>w.heap.size≤q) (okp:=fun _=>False) ⟨.slice none 0 0,rfl,Kd.oP _ _ _ _ _⟩ (fun _ hq=>hq.elim) (Nat.le_refl _) (by omega) (by have:=C2.out;omega) (Below.refl _ _) (Nat.le_refl _) ?_;intro v3 w4 hn hb hg_ hnew_;clear hg_ hnew_;simp only [Int.toNat_natCast] at hn H';have HO:=Aside0.mk hn;have HB:=Aside0.mk hb;clear hn hb)|fail)
 go_loopg [4] k (fun kq v4 w'=>∃ (x3:List (List S70)) (x4:Int),v4= .int .i64 x4∧Aside0 (fK.l0 kq l0 x3 x4=some r)∧Aside0 (kq≤k)∧Aside0 (Kd.S kP 37 w' w.heap.size (fun q=>w.heap.size≤q) v3 x3)∧Aside0 (Below w.heap.size w w'))
 case atStart=>exact ⟨_,0,rfl,H',⟨Nat.le_refl _⟩,HO,HB⟩
 case round=>
  clear H' p0 p1 HO HB
  obtain ⟨x3,x4,rfl,HA,j3,HO,HB⟩:=hrel
  cases gk with
  |zero=>exact absurd HA.out (by simp [fK.l0])
  |succ k1=>
   have H:=HA.out
   clear HA
   simp only [fK.l0] at H
   by_cases c6:x4 < (l0.length:Int)
   case neg=>
    rw [if_neg c6] at H
    have j5:decide (x4 < (l0.length:Int))=false:=decide_eq_false c6
    clear c6
    obtain rfl:=Option.some.inj H
    go_wp2
    go_ret
    exact ⟨_,rfl,HO.out,HB.out⟩
   rw [if_pos c6] at H
   by_cases c7:0≤x4
   case neg=>rw [if_neg c7] at H;exact absurd H (by simp)
   rw [if_pos c7] at H
   obtain ⟨s,hs,H⟩:=Option.bind_eq_some_iff.mp H
   by_cases c9:x4 < (x3.length:Int)
   case neg=>rw [if_neg c9] at H;exact absurd H (by simp)
   rw [if_pos c9] at H
   have HS:=Aside0.mk hs
   have H':=Aside0.mk H
   clear hs H
   obtain ⟨ad,A2,c2,e0,m0,l2,g2⟩:=SF j4.out x4 c7 c6
   cases e0
   replace m0:=(HB.out.cell (World.block_lt_of_cell? w _ m0)).trans m0
   obtain ⟨go,co,eo,gb,gl,hgc⟩:=Kd.xD HO.out (by omega)
   subst eo
   have G2:=Aside0.mk (Kd.aI g2 HB.out)
   have L2:=Aside0.mk l2
   have C7:=Aside0.mk c7
   have C9:=Aside0.mk c9
   have j5:decide (x4 < (l0.length:Int))=true:=decide_eq_true c6
   have q0:=eq_true c7
   have q1:=eq_true c6
   have q2:=eq_true c9
   clear g2 l2 gb gl hgc c6 c7 c9
   go_wp2_with (first|((with_reducible refine aD (f:=15) rfl ?_);refine aU (some 20) rfl rfl Try.func15 (by kernel_rfl) rfl #[.slice A2 (rM l0 x4).length c2] rfl (by (try simp only [List.map_toArray,List.map_cons,List.map_nil]);first|done|rfl) ?_;(with_reducible refine (dL.callsS k1 A2 c2 _ s _ G2.out L2.out HS.out).mono ?_);rintro e j6 ⟨jb,rfl,hn,hb⟩;refine ⟨_,rfl,?_⟩;obtain ⟨B5,d5,rfl⟩:=Kd.gI hn;have SN:=Aside0.mk (Kd.iR hn HB.out.size);have WS:=Aside0.mk HB.out.size;obtain ⟨oki,c,hcl,hM,hcc,hoki,hH⟩:=Kd.mV HO.out ([]:List S70) x4 C7.out C9.out;have HH:=Aside0.mk (Kd.EX (Kd.EY hH) hb);have HCL:=Aside0.mk hcl;have j7:=Aside0.mk (aC HB.out hb);clear hn hb hcl hM hcc hoki hH HB HO)|((with_reducible refine iN (t:=37) (p:=21) rfl ?_);refine rD ?_)|fail)
   refine ⟨?_⟩
   refine Kd.nG kP (w0:=j6) w.heap.size rfl rfl 37 (.tmp 21) (.tmp 20) rfl 37 (g:=go) (o':=x4.toNat) x4 0 x3 s _ [.slice B5 s.length d5] c (fun q=>w.heap.size≤q) _ (fun q=>wr.heap.size≤q) ?ha (by show x4.toNat=x4.toNat * 1 + 0;omega) rfl rfl ?ht ?h1 HH.out C7.out C9.out (Nat.le_refl 1) ?hM (fun q hq=> .inr ⟨Nat.le_trans WS.out hq,hq⟩) (Below.refl _ _) ?_
   (case ha=>first|rfl|(go_simp;done)|(go_simp;rfl))
   (case ht=>kernel_rfl)
   (case h1=>intro q hq;rw [List.mem_singleton.1 hq];rfl)
   (case hM=>have hd:c.drop 1=[]:=List.drop_eq_nil_of_le (Nat.le_of_eq HCL.out);show kP.M _ _ _ _ ([] ++ _ ++ c.drop 1);rw [hd];exact ⟨_,rfl,SN.out⟩)
   intro jc hn hb hg_
   have j8:=Aside0.mk hn
   have j9:=Aside0.mk (j7.out.trans hb)
   clear hn hb hg_
   go_wp2
   go_roundg k1
   case measure=>have:=j3.out;omega
   case rel=>exact ⟨_,wrap64 (x4 + 1),(by first|rfl|(simp;done)|(simp [*];done)),H',⟨by have:=j3.out;omega⟩,j8,j9⟩
theorem gY.callsS (k:Nat) (A1:Option Addr) (c1:Nat) (l1:List Int) (A2:Option Addr) (c2:Nat) (l2:List (List S66)) (r1:List Int) (r2:List (List S70)) (w:World) (h1:Kd.C (Kd.int .i64) w A1 l1.length l1) (m1:l1.length≤c1) (h2:Kd.C (Kd.slice 66 k66) w A2 l2.length l2) (m2:l2.length≤c2) (h:gY.f k l1 l2=some (r1,r2)):
  Calls Try.prog 22 #[.agg #[(.slice A1 l1.length c1),(.slice A2 l2.length c2)]] w fun e w'=>∃ (B1:Option Addr) (d1:Nat) (B2:Option Addr) (d2 mid:Nat),e= .returned (.agg #[(.slice B1 r1.length d1),(.slice B2 r2.length d2)])∧Kd.R (Kd.int .i64) 3 w' w.heap.size (fun q=>w.heap.size≤q∧q < mid) (.slice B1 r1.length d1) r1∧Kd.S kP 37 w' w.heap.size (fun q=>w.heap.size≤q∧mid≤q) (.slice B2 r2.length d2) r2∧Below w.heap.size w w':=by
 unfold gY.f at h
 obtain ⟨t1,ha1,h⟩:=Option.bind_eq_some_iff.mp h
 obtain ⟨t2,ha2,h⟩:=Option.bind_eq_some_iff.mp h
 simp only [Option.some.injEq,Prod.mk.injEq] at h
 obtain ⟨rfl,rfl⟩:=h
 have H1:=Aside0.mk h1
 have H2:=Aside0.mk h2
 have L1:=Aside0.mk m1
 have L2:=Aside0.mk m2
 have j5:=Aside0.mk ha1
 have j6:=Aside0.mk ha2
 clear h1 h2 m1 m2 ha1 ha2
 go_enter Try.func22,Try.ntmps22
 go_wp2_with (first|((with_reducible refine bJ (N:=1) rfl ?_);refine bR ?hg (N:=1) ?hd (cs:=#[(.slice A1 l1.length c1),(.slice A2 l2.length c2)]) (t:=47) ?hr ?_;(case hd=>rfl);(case hg=>rfl);(case hr=>first|(go_simp;done)|(go_simp;rfl));intro g1 hg w1 hbox hb;have X1:=Aside0.mk hbox;have B0:=Aside0.mk hb;have j7:Aside0 (w.heap.size≤g1):=⟨Nat.le_of_eq hg.symm⟩;clear hb hbox hg)|((with_reducible refine bJ (N:=2) rfl ?_);refine bR ?hg (N:=2) ?hd (cs:=#[(.slice none 0 0),(.slice none 0 0)]) (t:=51) ?hr ?_;(case hd=>rfl);(case hg=>rfl);(case hr=>first|(go_simp;done)|(go_simp;rfl));intro g2 hg w2 hbox hb;have NE12:Aside0 (g1 < g2):=⟨by rw [hg];exact dM X1.out⟩;replace X1:=Aside0.mk (aJ X1.out hb);replace B0:=Aside0.mk (aC B0.out hb);have X2:=Aside0.mk hbox;clear hb hbox hg)|((with_reducible refine bJ (N:=3) rfl ?_);refine bR ?hg (N:=3) ?hd (cs:=#[(.slice none 0 0),(.slice none 0 0)]) (t:=51) ?hr ?_;(case hd=>rfl);(case hg=>rfl);(case hr=>first|(go_simp;done)|(go_simp;rfl));intro g3 hg w3 hbox hb;have NE23:Aside0 (g2 < g3):=⟨by rw [hg];exact dM X2.out⟩;replace X1:=Aside0.mk (aJ X1.out hb);replace X2:=Aside0.mk (aJ X2.out hb);replace B0:=Aside0.mk (aC B0.out hb);have X3:=Aside0.mk hbox;have j4:Aside0 (w.heap.size≤g2):=⟨by have:=j7.out;have:=NE12.out;omega⟩;have j3:Aside0 (w.heap.size≤g3):=⟨by have:=j4.out;have:=NE23.out;omega⟩;have ne13:g1≠g3:=(by have:=NE12.out;have:=NE23.out;omega);have ne23:g2≠g3:=(by have:=NE23.out;omega);have yp0:w3.cell? ⟨g1,0,none⟩=some (.slice A1 l1.length c1):=aA X1.out 0;have yo0:w3.cell? ⟨g3,0,none⟩=some (.slice none 0 0):=aA X3.out 0;have fo0:=aH X3.out 0;have yp1:w3.cell? ⟨g1,1,none⟩=some (.slice A2 l2.length c2):=aA X1.out 1;have yo1:w3.cell? ⟨g3,1,none⟩=some (.slice none 0 0):=aA X3.out 1;have fo1:=aH X3.out 1;clear hb hbox hg)|((with_reducible refine aD (f:=46) rfl ?_);refine aU (some 6) rfl rfl Try.func46 (by kernel_rfl) rfl #[(.slice A1 l1.length c1)] rfl (by (try simp only [List.map_toArray,List.map_cons,List.map_nil]);first|done|rfl) ?_;(with_reducible refine (eB.calls k A1 c1 l1 t1 _ (Kd.aI H1.out B0.out) L1.out j5.out).mono ?_);rintro e w4 ⟨v,rfl,hn,hb⟩;refine ⟨_,rfl,?_⟩;obtain ⟨B1,d1,rfl⟩:=Kd.nI hn;have hle:=(B0.out).size;have hl2:=dM X2.out;have hl3:=dM X3.out;have hps:w3.heap.size≤w3.heap.size:=(by simp [World.setCell]);have hq2:=fun q (hq:w3.heap.size≤q)=>Nat.ne_of_gt (Nat.lt_of_lt_of_le hl2 hq);have hq3:=fun q (hq:w3.heap.size≤q)=>Nat.ne_of_gt (Nat.lt_of_lt_of_le hl3 hq);have hO:=Kd.lC (Kd.kE hn) hle;have O1:=Aside0.mk (Kd.gL (ok':=fun q=>(w.heap.size≤q∧q≠g2∧q≠g3)∧q < w4.heap.size) hO (fun q hq=>⟨⟨Nat.le_trans hle hq.2.1,hq2 q hq.2.1,hq3 q hq.2.1⟩,hq.2.2.1⟩));clear hq2 hq3 hO;replace X1:=Aside0.mk (aJ X1.out hb);replace X2:=Aside0.mk (aJ X2.out hb);replace X3:=Aside0.mk (aJ X3.out hb);replace B0:=Aside0.mk (aC B0.out hb);clear hb hn hle hl2 hl3 hps;clear yp0 yo0 fo0 yp1 yo1 fo1;have yp0:w4.cell? ⟨g1,0,none⟩=some (.slice A1 l1.length c1):=aA X1.out 0;have yo0:w4.cell? ⟨g3,0,none⟩=some (.slice none 0 0):=aA X3.out 0;have fo0:=aH X3.out 0;have yp1:w4.cell? ⟨g1,1,none⟩=some (.slice A2 l2.length c2):=aA X1.out 1;have yo1:w4.cell? ⟨g3,1,none⟩=some (.slice none 0 0):=aA X3.out 1;have fo1:=aH X3.out 1)|((with_reducible refine aD (f:=47) rfl ?_);refine aU (some 10) rfl rfl Try.func47 (by kernel_rfl) rfl #[(.slice A2 l2.length c2)] rfl (by (try simp only [List.map_toArray,List.map_cons,List.map_nil]);first|done|rfl) ?_;(with_reducible refine (fK.callsS k A2 c2 l2 t2 _ (Kd.aI H2.out (below_set (j:=0) (v:=(.slice B1 t1.length d1)) B0.out j3.out)) L2.out j6.out).mono ?_);rintro e w5 ⟨v,rfl,hn,hb⟩;refine ⟨_,rfl,?_⟩;obtain ⟨B2,d2,rfl⟩:=Kd.gI hn;have hle:=((below_set (j:=0) (v:=(.slice B1 t1.length d1)) B0.out j3.out)).size;have hl2:=dM (bQ (p:=⟨g3,0,none⟩) X2.out ne23 (.slice B1 t1.length d1));have hl3:=dM (aT (cs':=#[(.slice B1 t1.length d1),(.slice none 0 0)]) X3.out 0 (.slice B1 t1.length d1) rfl);have hps:w4.heap.size≤(w4.setCell ⟨g3,0,none⟩ (.slice B1 t1.length d1)).heap.size:=(by simp [World.setCell]);have hq2:=fun q (hq:(w4.setCell ⟨g3,0,none⟩ (.slice B1 t1.length d1)).heap.size≤q)=>Nat.ne_of_gt (Nat.lt_of_lt_of_le hl2 hq);have hq3:=fun q (hq:(w4.setCell ⟨g3,0,none⟩ (.slice B1 t1.length d1)).heap.size≤q)=>Nat.ne_of_gt (Nat.lt_of_lt_of_le hl3 hq);have hO:=Kd.iR (Kd.iD hn) hle;have O2:=Aside0.mk (Kd.fE (ok':=fun q=>(w.heap.size≤q∧q≠g2∧q≠g3)∧w4.heap.size≤q) hO (fun q hq=>⟨⟨Nat.le_trans hle hq.2.1,hq2 q hq.2.1,hq3 q hq.2.1⟩,Nat.le_trans hps hq.2.1⟩));clear hq2 hq3 hO;replace O1:=Aside0.mk (Kd.eT (Kd.lM (p:=⟨g3,0,none⟩) O1.out (fun q hq=>hq.1.2.2) (.slice B1 t1.length d1)) hb);replace X1:=Aside0.mk (aJ (bQ (p:=⟨g3,0,none⟩) X1.out ne13 (.slice B1 t1.length d1)) hb);replace X2:=Aside0.mk (aJ (bQ (p:=⟨g3,0,none⟩) X2.out ne23 (.slice B1 t1.length d1)) hb);replace X3:=Aside0.mk (aJ (aT (cs':=#[(.slice B1 t1.length d1),(.slice none 0 0)]) X3.out 0 (.slice B1 t1.length d1) rfl) hb);replace B0:=Aside0.mk (aC (below_set (j:=0) (v:=(.slice B1 t1.length d1)) B0.out j3.out) hb);clear hb hn hle hl2 hl3 hps;clear yp0 yo0 fo0 yp1 yo1 fo1;have yp0:w5.cell? ⟨g1,0,none⟩=some (.slice A1 l1.length c1):=aA X1.out 0;have yo0:w5.cell? ⟨g3,0,none⟩=some (.slice B1 t1.length d1):=aA X3.out 0;have fo0:=aH X3.out 0;have yp1:w5.cell? ⟨g1,1,none⟩=some (.slice A2 l2.length c2):=aA X1.out 1;have yo1:w5.cell? ⟨g3,1,none⟩=some (.slice none 0 0):=aA X3.out 1;have fo1:=aH X3.out 1;have yr0:w5.cell? ⟨g2,0,none⟩=some (.slice none 0 0):=aA X2.out 0;have fr0:=aH X2.out 0;have yr1:w5.cell? ⟨g2,1,none⟩=some (.slice none 0 0):=aA X2.out 1;have fr1:=aH X2.out 1)|fail)
 refine bodyPost_ret (results_cell_row rfl _ _ g2 51 #[(.slice B1 t1.length d1),(.slice B2 t2.length d2)] (0,0) _ rfl (aT (cs':=#[(.slice B1 t1.length d1),(.slice B2 t2.length d2)]) (aT (cs':=#[(.slice B1 t1.length d1),(.slice none 0 0)]) (bQ (p:=⟨g3,1,none⟩) X2.out ne23 (.slice B2 t2.length d2)) 0 (.slice B1 t1.length d1) rfl) 1 (.slice B2 t2.length d2) rfl) Try.underlying51 rfl (by kernel_rfl)) rfl ?_
 exact ⟨B1,d1,B2,d2,w4.heap.size,rfl,Kd.gL (Kd.lM (p:=⟨g2,1,none⟩) (Kd.lM (p:=⟨g2,0,none⟩) (Kd.lM (p:=⟨g3,1,none⟩) O1.out (fun q hq=>hq.1.2.2) (.slice B2 t2.length d2)) (fun q hq=>hq.1.2.1) (.slice B1 t1.length d1)) (fun q hq=>hq.1.2.1) (.slice B2 t2.length d2)) (fun q hq=>⟨hq.1.1,hq.2⟩),Kd.fE (Kd.eD (p:=⟨g2,1,none⟩) (Kd.eD (p:=⟨g2,0,none⟩) (Kd.eD (p:=⟨g3,1,none⟩) O2.out (fun q hq=>hq.1.2.2) (.slice B2 t2.length d2)) (fun q hq=>hq.1.2.1) (.slice B1 t1.length d1)) (fun q hq=>hq.1.2.1) (.slice B2 t2.length d2)) (fun q hq=>⟨hq.1.1,hq.2⟩),(below_set (j:=1) (v:=(.slice B2 t2.length d2)) (below_set (j:=0) (v:=(.slice B1 t1.length d1)) (below_set (j:=1) (v:=(.slice B2 t2.length d2)) B0.out j3.out) j4.out) j4.out)⟩
attribute [local go_sem] max2_int min2_int max_two min_two max_three min_three max_four min_four
set_option linter.unusedVariables false
set_option linter.unusedSimpArgs false
theorem lY.calls (A0:Option Addr) (c0:Nat) (l0:List Int) (a1:Int) (r:Int) (w:World) (hr0:Kd.C (Kd.int .i64) w A0 l0.length l0) (hc0:l0.length≤c0) (h:lY.f l0 a1=some r):
  Calls Try.prog 43 #[.slice A0 l0.length c0, .int .i64 a1] w fun e w'=>e= .returned (.int .i64 r)∧fV w w':=by
 have j4:=am hr0
 have j5:=am hc0
 clear hr0 hc0
 have H:(if (wrap64 (a1 - (l0.length:Int))) < 0 then (some (-1)) else (some (wrap64 (a1 - (l0.length:Int)))))=some r:=h
 clear h
 by_cases c3:(wrap64 (a1 - (l0.length:Int))) < 0
 ·rw [if_pos c3] at H
  have j3:decide ((wrap64 (a1 - (l0.length:Int))) < 0)=true:=decide_eq_true c3
  clear c3
  obtain rfl:=Option.some.inj H
  go_enter Try.func43,Try.ntmps43
  go_wp2
  go_ret
  exact ⟨sd_,fF⟩
 rw [if_neg c3] at H
 have j3:decide ((wrap64 (a1 - (l0.length:Int))) < 0)=false:=decide_eq_false c3
 clear c3
 obtain rfl:=Option.some.inj H
 go_enter Try.func43,Try.ntmps43
 go_wp2
 go_ret
 exact ⟨sd_,fF⟩
theorem bO.mono_all:∀ k,(∀ y0 y1,LeO (bO.f k y0 y1) (bO.f (k + 1) y0 y1))∧(∀ y0 y1 y2,LeO (bO.l0 k y0 y1 y2) (bO.l0 (k + 1) y0 y1 y2))∧(∀ y0 y1 y2 y3,LeO (dS.f k y0 y1 y2 y3) (dS.f (k + 1) y0 y1 y2 y3))
 |0=>⟨fun _ _ r h=>by simp [bO.f] at h,fun _ _ _ r h=>by simp [bO.l0] at h,fun _ _ _ _ r h=>by simp [dS.f] at h⟩
 |k + 1=>by
  obtain ⟨ih0,ih1,ih2⟩:=bO.mono_all k
  refine ⟨?_,?_,?_⟩
  ·intro y0 y1
   unfold bO.f
   exact mo_
  ·intro y0 y1 y2
   unfold bO.l0
   exact mo_
  ·intro y0 y1 y2 y3
   unfold dS.f
   exact mo_
theorem bO.mono:∀ a0 a1 k,LeO (bO.f k a0 a1) (bO.f (k + 1) a0 a1):=by
 intro a0 a1 k
 obtain ⟨ih0,ih1,ih2⟩:=bO.mono_all k
 exact ih0 a0 a1
theorem dS.mono:∀ a0 a1 a2 a3 k,LeO (dS.f k a0 a1 a2 a3) (dS.f (k + 1) a0 a1 a2 a3):=by
 intro a0 a1 a2 a3 k
 obtain ⟨ih0,ih1,ih2⟩:=bO.mono_all k
 exact ih2 a0 a1 a2 a3
abbrev bO.bY (k:Nat):Prop:=∀ (A0:Option Addr) (c0:Nat) (l0:List (S24)) (a1:Int) (r:Int) (w:World) (hr0:Kd.C k24 w A0 l0.length l0) (hc0:l0.length≤c0) (h:bO.f k l0 a1=some r),
  Calls Try.prog 27 #[.slice A0 l0.length c0, .int .i64 a1] w fun e w'=>e= .returned (.int .i64 r)∧Below w.heap.size w w'
abbrev dS.bY (k:Nat):Prop:=∀ (a0_0:Int) (a0_1:Int) (A0_2:Option Addr) (c0_2:Nat) (l0_2:List (S24)) (a1:Int) (r:Int) (w:World) (hr0_2:Kd.C k24 w A0_2 l0_2.length l0_2) (hc0_2:l0_2.length≤c0_2) (h:dS.f k a0_0 a0_1 l0_2 a1=some r),
  Calls Try.prog 6 #[.agg #[.int .i64 a0_0, .int .i64 a0_1, .slice A0_2 l0_2.length c0_2], .int .i64 a1] w fun e w'=>e= .returned (.int .i64 r)∧Below w.heap.size w w'
theorem dO.mono_all:∀ k,(∀ y0 y1 y2 y3 y4 y5 y6 y7 y8,LeO (dO.f k y0 y1 y2 y3 y4 y5 y6 y7 y8) (dO.f (k + 1) y0 y1 y2 y3 y4 y5 y6 y7 y8))∧(∀ y0 y1,LeO (bP.f k y0 y1) (bP.f (k + 1) y0 y1))∧(∀ y0 y1 y2,LeO (bP.l0 k y0 y1 y2) (bP.l0 (k + 1) y0 y1 y2))
 |0=>⟨fun _ _ _ _ _ _ _ _ _ r h=>by simp [dO.f] at h,fun _ _ r h=>by simp [bP.f] at h,fun _ _ _ r h=>by simp [bP.l0] at h⟩
 |k + 1=>by
  obtain ⟨ih0,ih1,ih2⟩:=dO.mono_all k
  refine ⟨?_,?_,?_⟩
  ·intro y0 y1 y2 y3 y4 y5 y6 y7 y8
   unfold dO.f
   have m0:=@dS.mono
   exact mo_
  ·intro y0 y1
   unfold bP.f
   have m0:=@dS.mono
   exact mo_
  ·intro y0 y1 y2
   unfold bP.l0
   have m0:=@dS.mono
   exact mo_
theorem dO.mono:∀ a0 a1 a2 a3 a4 a5 a6 a7 a8 k,LeO (dO.f k a0 a1 a2 a3 a4 a5 a6 a7 a8) (dO.f (k + 1) a0 a1 a2 a3 a4 a5 a6 a7 a8):=by
 intro a0 a1 a2 a3 a4 a5 a6 a7 a8 k
 obtain ⟨ih0,ih1,ih2⟩:=dO.mono_all k
 exact ih0 a0 a1 a2 a3 a4 a5 a6 a7 a8
theorem bP.mono:∀ a0 a1 k,LeO (bP.f k a0 a1) (bP.f (k + 1) a0 a1):=by
 intro a0 a1 k
 obtain ⟨ih0,ih1,ih2⟩:=dO.mono_all k
 exact ih1 a0 a1
abbrev dO.bY (k:Nat):Prop:=∀ (a0_0:Int) (a0_1:Int) (a0_2:Int) (a0_3:Int) (a0_4:Int) (A0_5:Option Addr) (c0_5:Nat) (l0_5:List (S24)) (A0_6:Option Addr) (c0_6:Nat) (l0_6:List (S66)) (A0_7:Option Addr) (c0_7:Nat) (l0_7:List (S66)) (a1:Int) (r:Int) (w:World) (hr0_5:Kd.C k24 w A0_5 l0_5.length l0_5) (hc0_5:l0_5.length≤c0_5) (hr0_6:Kd.C k66 w A0_6 l0_6.length l0_6) (hc0_6:l0_6.length≤c0_6) (hr0_7:Kd.C k66 w A0_7 l0_7.length l0_7) (hc0_7:l0_7.length≤c0_7) (h:dO.f k a0_0 a0_1 a0_2 a0_3 a0_4 l0_5 l0_6 l0_7 a1=some r),
  Calls Try.prog 36 #[.agg #[.int .i64 a0_0, .int .i64 a0_1, .int .i64 a0_2, .int .i64 a0_3, .int .i64 a0_4, .slice A0_5 l0_5.length c0_5, .slice A0_6 l0_6.length c0_6, .slice A0_7 l0_7.length c0_7], .int .i64 a1] w fun e w'=>e= .returned (.int .i64 r)∧Below w.heap.size w w'
abbrev bP.bY (k:Nat):Prop:=∀ (A0:Option Addr) (c0:Nat) (l0:List (S66)) (a1:Int) (r:Int) (w:World) (hr0:Kd.C k66 w A0 l0.length l0) (hc0:l0.length≤c0) (h:bP.f k l0 a1=some r),
  Calls Try.prog 13 #[.slice A0 l0.length c0, .int .i64 a1] w fun e w'=>e= .returned (.int .i64 r)∧Below w.heap.size w w'
theorem bO.step (k:Nat) (ih_laws_szExprS:∀ m,m < k→bO.bY m) (ih_laws_szExpr:∀ m,m < k→dS.bY m):bO.bY k:=by
 intro A0 c0 l0 a1 r w hr0 hc0 h
 cases k with
 |zero=>exact absurd h (by simp [bO.f])
 |succ k=>
 simp only [bO.f] at h
 have hu24:=Try.underlying24
 have jl:=am hr0
 have jn:=am hc0
 clear hr0 hc0
 have HB:=am (Below.refl w.heap.size w)
 have H:(if (wrap64 (a1 - (l0.length:Int))) < 0 then (some (-1)) else (bO.l0 k l0 (wrap64 (a1 - (l0.length:Int))) 0))=some r:=h
 clear h
 by_cases c3:(wrap64 (a1 - (l0.length:Int))) < 0
 ·rw [if_pos c3] at H
  have jf:decide ((wrap64 (a1 - (l0.length:Int))) < 0)=true:=decide_eq_true c3
  clear c3
  obtain rfl:=Option.some.inj H
  go_enter Try.func27,Try.ntmps27
  go_wp2
  go_ret
  exact ⟨rr_,dN⟩
 rw [if_neg c3] at H
 have jf:decide ((wrap64 (a1 - (l0.length:Int))) < 0)=false:=decide_eq_false c3
 clear c3
 have H':=am H
 clear H
 go_enter Try.func27,Try.ntmps27
 go_wp2
 go_loopg [1,5] k (fun kq v1 v5 w'=>∃ (j7:Int) (j3:Int),v1= .int .i64 j7∧v5= .int .i64 j3∧Aside0 (bO.l0 kq l0 j7 j3=some r)∧Aside0 (kq≤k)∧Aside0 (Below w.heap.size w w'))
 case atStart=>exact ⟨(wrap64 (a1 - (l0.length:Int))),(0),sd_,sd_,H',⟨Nat.le_refl _⟩,⟨dN⟩⟩
 case round=>
  clear H'
  try clear c3
  try clear jf
  obtain ⟨j7,j3,rfl,rfl,HA,jg,HB⟩:=hrel
  cases gk with
  |zero=>exact absurd HA.out (by simp [bO.l0])
  |succ k1=>
   have H:=HA.out
   clear HA
   simp only [bO.l0] at H
   by_cases c4:j3 < (l0.length:Int)
   ·rw [if_pos c4] at H
    have jh:decide (j3 < (l0.length:Int))=true:=decide_eq_true c4
    clear c4
    by_cases c5:0≤j3
    ·rw [if_pos c5] at H
     have jm:decide (0≤j3)=true:=decide_eq_true c5
     clear c5
     obtain ⟨je,A6,H⟩:=bsa H
     (try dsimp only at H)
     by_cases c7:je < 0
     ·rw [if_pos c7] at H
      have ji:decide (je < 0)=true:=decide_eq_true c7
      clear c7
      obtain rfl:=Option.some.inj H
      have jc:0≤(j3:Int):=of_decide_eq_true bT
      have jd:j3 < (l0.length:Int):=of_decide_eq_true bT
      obtain ⟨jj,ja,jb,jk,j4,j5,j6,hl21_2,hi21_2⟩:=LZ jl.out j3 jc jd
      cases jk
      replace j4:=(HB.out.cell (World.block_lt_of_cell? w _ j4)).trans j4
      replace j5:=(HB.out.cell (World.block_lt_of_cell? w _ j5)).trans j5
      replace j6:=(HB.out.cell (World.block_lt_of_cell? w _ j6)).trans j6
      have j8:=am hi21_2
      have j9:=am hl21_2
      clear hi21_2 hl21_2
      replace jc:=eq_true jc
      replace jd:=eq_true jd
      go_wp2_with (first|((with_reducible refine aD (f:=6) rfl ?_);refine aU (some 23) rfl rfl Try.func6 (by kernel_rfl) rfl #[.agg #[.int .i64 ((iG l0 j3).f0), .int .i64 ((iG l0 j3).f1), .slice ja ((iG l0 j3).f2).length jb], .int .i64 j7] rfl dK ?_;(with_reducible refine (ih_laws_szExpr k1 (by have:=jg.out;omega) ((iG l0 j3).f0) ((iG l0 j3).f1) _ _ ((iG l0 j3).f2) j7 je _ (aC_ (Kd.aI j8.out HB.out)) j9.out A6.out).mono ?_);rintro e w8 ⟨rfl,hb⟩;refine ⟨_,rfl,?_⟩;replace HB:=am (aC dN hb);(try clear hb)))
      go_ret
      exact ⟨rr_,dN⟩
     rw [if_neg c7] at H
     have ji:decide (je < 0)=false:=decide_eq_false c7
     clear c7
     have H':=am H
     clear H
     have jc:0≤(j3:Int):=of_decide_eq_true bT
     have jd:j3 < (l0.length:Int):=of_decide_eq_true bT
     obtain ⟨jj,ja,jb,jk,j4,j5,j6,hl21_2,hi21_2⟩:=LZ jl.out j3 jc jd
     cases jk
     replace j4:=(HB.out.cell (World.block_lt_of_cell? w _ j4)).trans j4
     replace j5:=(HB.out.cell (World.block_lt_of_cell? w _ j5)).trans j5
     replace j6:=(HB.out.cell (World.block_lt_of_cell? w _ j6)).trans j6
     have j8:=am hi21_2
     have j9:=am hl21_2
     clear hi21_2 hl21_2
     replace jc:=eq_true jc
     replace jd:=eq_true jd
     go_wp2_with (first|((with_reducible refine aD (f:=6) rfl ?_);refine aU (some 23) rfl rfl Try.func6 (by kernel_rfl) rfl #[.agg #[.int .i64 ((iG l0 j3).f0), .int .i64 ((iG l0 j3).f1), .slice ja ((iG l0 j3).f2).length jb], .int .i64 j7] rfl dK ?_;(with_reducible refine (ih_laws_szExpr k1 (by have:=jg.out;omega) ((iG l0 j3).f0) ((iG l0 j3).f1) _ _ ((iG l0 j3).f2) j7 je _ (aC_ (Kd.aI j8.out HB.out)) j9.out A6.out).mono ?_);rintro e w9 ⟨rfl,hb⟩;refine ⟨_,rfl,?_⟩;replace HB:=am (aC dN hb);(try clear hb)))
     go_roundg k1
     case measure=>have:=jg.out;omega
     case rel=>exact ⟨(je),(wrap64 (j3 + 1)),sd_,sd_,H',⟨by have:=jg.out;omega⟩,⟨dN⟩⟩
    rw [if_neg c5] at H
    exact absurd H (by simp)
   rw [if_neg c4] at H
   have jh:decide (j3 < (l0.length:Int))=false:=decide_eq_false c4
   clear c4
   obtain rfl:=Option.some.inj H
   go_wp2
   go_ret
   exact ⟨rr_,dN⟩
theorem dS.step (k:Nat) (ih_laws_szExprS:∀ m,m < k→bO.bY m) (ih_laws_szExpr:∀ m,m < k→dS.bY m):dS.bY k:=by
 intro jb jc j6 j7 j3 a1 r w hr0_2 hc0_2 h
 cases k with
 |zero=>exact absurd h (by simp [dS.f])
 |succ k=>
 simp only [dS.f] at h
 have hu24:=Try.underlying24
 have j8:=am hr0_2
 have j9:=am hc0_2
 clear hr0_2 hc0_2
 have HB:=am (Below.refl w.heap.size w)
 have H:((bO.f k j3 a1).bind fun j4=>(if j4 < 0 then (some (-1)) else (some j4)))=some r:=h
 clear h
 obtain ⟨j4,A3,H⟩:=bsa H
 (try dsimp only at H)
 have HH_:=am H
 clear H
 go_enter Try.func6,Try.ntmps6
 go_upto_region 2 with (first|((with_reducible refine bJ (N:=2) rfl ?_);refine bR rfl (N:=2) rfl (cs:=#[.int .i64 jb, .int .i64 jc, .slice j6 j3.length j7]) (t:=24) rn_ ?_;intro ja hg w5 hbox hb;have j5:=am (hbox);have jk:=am ((by rw [hg];exact (aN dN):w.heap.size≤ja));have GE21:=am ((by rw [hg];exact (aN dN):w.heap.size≤ja));replace HB:=am (aC dN hb);clear hb hbox hg;obtain ⟨jd,je,jf,jg,jh,ji⟩:=gW j5.out)|((with_reducible refine aD (f:=27) rfl ?_);refine aU (some 8) rfl rfl Try.func27 (by kernel_rfl) rfl #[.slice j6 j3.length j7, .int .i64 a1] rfl dK ?_;(with_reducible refine (ih_laws_szExprS k (by omega) _ _ j3 a1 j4 _ (aC_ (Kd.aI j8.out HB.out)) j9.out A3.out).mono ?_);rintro e w7 ⟨rfl,hb⟩;refine ⟨_,rfl,?_⟩;replace j5:=bbP j5 hb;replace HB:=am (aC nX hb);(try clear hb)))
 have H:=HH_.out
 clear HH_
 by_cases c4:j4 < 0
 ·rw [if_pos c4] at H
  have jj:decide (j4 < 0)=true:=decide_eq_true c4
  clear c4
  obtain rfl:=Option.some.inj H
  go_wp2
  go_ret
  exact ⟨rr_,nX⟩
 rw [if_neg c4] at H
 have jj:decide (j4 < 0)=false:=decide_eq_false c4
 clear c4
 obtain rfl:=Option.some.inj H
 go_wp2
 go_ret
 exact ⟨rr_,nX⟩
theorem bO.calls_all (k:Nat):bO.bY k∧dS.bY k:=by
 induction k using Nat.strongRecOn with
 | _ k ih=>exact ⟨bO.step k (ih_laws_szExprS:=fun m hm=>(ih m hm).1) (ih_laws_szExpr:=fun m hm=>(ih m hm).2),dS.step k (ih_laws_szExprS:=fun m hm=>(ih m hm).1) (ih_laws_szExpr:=fun m hm=>(ih m hm).2)⟩
theorem bO.calls (k:Nat):bO.bY k:=(bO.calls_all k).1
theorem dS.calls (k:Nat):dS.bY k:=(bO.calls_all k).2
theorem dO.step (k:Nat) (ih_laws_szStmt:∀ m,m < k→dO.bY m) (ih_laws_szStmtS:∀ m,m < k→bP.bY m):dO.bY k:=by
 intro qJ qK qL je jf jk jl jg ja jb j4 jh ji j5 a1 r w hr0_5 hc0_5 hr0_6 hc0_6 hr0_7 hc0_7 h
 cases k with
 |zero=>exact absurd h (by simp [dO.f])
 |succ k=>
 simp only [dO.f] at h
 have hu66:=Try.underlying66
 have hu24:=Try.underlying24
 have jm:=am hr0_5
 have jn:=am hc0_5
 clear hr0_5 hc0_5
 have j6:=am hr0_6
 have j7:=am hc0_6
 clear hr0_6 hc0_6
 have jc:=am hr0_7
 have jd:=am hc0_7
 clear hr0_7 hc0_7
 have HB:=am (Below.refl w.heap.size w)
 have H:=h
 clear h
 obtain ⟨j8,A3,H⟩:=bsa H
 (try dsimp only at H)
 have HH_:=am H
 clear H
 go_enter Try.func36,Try.ntmps36
 go_upto_region 2 with (first|((with_reducible refine bJ (N:=2) rfl ?_);refine bR rfl (N:=2) rfl (cs:=#[.int .i64 qJ, .int .i64 qK, .int .i64 qL, .int .i64 je, .int .i64 jf, .slice jk jg.length jl, .slice ja j4.length jb, .slice jh j5.length ji]) (t:=66) rn_ ?_;intro jo hg w5 hbox hb;have j3:=am (hbox);have z6:=am ((by rw [hg];exact (aN dN):w.heap.size≤jo));have GE32:=am ((by rw [hg];exact (aN dN):w.heap.size≤jo));replace HB:=am (aC dN hb);clear hb hbox hg;obtain ⟨qM,qN,qO,qP,qQ,qR,qS,qT,qU,qV,qW,qX,qY,qZ,z0,z1⟩:=eF j3.out)|((with_reducible refine aD (f:=6) rfl ?_);refine aU (some 8) rfl rfl Try.func6 (by kernel_rfl) rfl #[.agg #[.int .i64 je, .int .i64 jf, .slice jk jg.length jl], .int .i64 a1] rfl dK ?_;(with_reducible refine (dS.calls k je jf _ _ jg a1 j8 _ (aC_ (Kd.aI jm.out HB.out)) jn.out A3.out).mono ?_);rintro e w7 ⟨rfl,hb⟩;refine ⟨_,rfl,?_⟩;replace j3:=bbP j3 hb;replace HB:=am (aC vD hb);(try clear hb)))
 have H:=HH_.out
 clear HH_
 by_cases c4:j8 < 0
 ·rw [if_pos c4] at H
  have z2:decide (j8 < 0)=true:=decide_eq_true c4
  clear c4
  obtain rfl:=Option.some.inj H
  go_wp2
  go_ret
  exact ⟨rr_,vD⟩
 rw [if_neg c4] at H
 have z2:decide (j8 < 0)=false:=decide_eq_false c4
 clear c4
 obtain ⟨j9,A8,H⟩:=bsa H
 (try dsimp only at H)
 by_cases c9:j9 < 0
 ·rw [if_pos c9] at H
  have z3:decide (j9 < 0)=true:=decide_eq_true c9
  clear c9
  obtain rfl:=Option.some.inj H
  obtain ⟨jr,js,jt,ju,jv,jw,jx,jy,jz,jA,jB,jC,jD,jE,jF,jG⟩:=eF j3.out
  go_wp2_with (first|((with_reducible refine aD (f:=13) rfl ?_);refine aU (some 14) rfl rfl Try.func13 (by kernel_rfl) rfl #[.slice ja j4.length jb, .int .i64 j8] rfl dK ?_;(with_reducible refine (ih_laws_szStmtS k (by omega) _ _ j4 j8 j9 _ (aC_ (Kd.aI j6.out HB.out)) j7.out A8.out).mono ?_);rintro e z7 ⟨rfl,hb⟩;refine ⟨_,rfl,?_⟩;replace j3:=bbP j3 hb;replace HB:=am (aC vD hb);(try clear hb)))
  go_ret
  exact ⟨rr_,vD⟩
 rw [if_neg c9] at H
 have z3:decide (j9 < 0)=false:=decide_eq_false c9
 clear c9
 obtain ⟨jp,z4,H⟩:=bsm H
 (try dsimp only at H)
 have z5:=am z4
 clear z4
 by_cases jj:jp < 0
 ·rw [if_pos jj] at H
  have jq:decide (jp < 0)=true:=decide_eq_true jj
  clear jj
  obtain rfl:=Option.some.inj H
  obtain ⟨jH,jI,jJ,jK,jL,jM,jN,jO,jP,jQ,jR,jS,jT,jU,jV,jW⟩:=eF j3.out
  go_wp2_with (first|((with_reducible refine aD (f:=13) rfl ?_);refine aU (some 14) rfl rfl Try.func13 (by kernel_rfl) rfl #[.slice ja j4.length jb, .int .i64 j8] rfl dK ?_;(with_reducible refine (ih_laws_szStmtS k (by omega) _ _ j4 j8 j9 _ (aC_ (Kd.aI j6.out HB.out)) j7.out A8.out).mono ?_);rintro e z8 ⟨rfl,hb⟩;refine ⟨_,rfl,?_⟩;replace j3:=bbP j3 hb;replace HB:=am (aC vD hb);(try clear hb);obtain ⟨jX,jY,jZ,q0,q1,q2,q3,q4,q5,q6,q7,q8,q9,qa,qb,qc⟩:=eF j3.out)|((with_reducible refine aD (f:=13) rfl ?_);refine aU (some 20) rfl rfl Try.func13 (by kernel_rfl) rfl #[.slice jh j5.length ji, .int .i64 j9] rfl dK ?_;(with_reducible refine (ih_laws_szStmtS k (by omega) _ _ j5 j9 jp _ (aC_ (Kd.aI jc.out HB.out)) jd.out z5.out).mono ?_);rintro e z9 ⟨rfl,hb⟩;refine ⟨_,rfl,?_⟩;replace j3:=bbP j3 hb;replace HB:=am (aC vD hb);(try clear hb)))
  go_ret
  exact ⟨rr_,vD⟩
 rw [if_neg jj] at H
 have jq:decide (jp < 0)=false:=decide_eq_false jj
 clear jj
 obtain rfl:=Option.some.inj H
 obtain ⟨qd,qe,qf,qg,qh,qi,qj,qk,ql,qm,qn,qo,qp,qq,qr,qs⟩:=eF j3.out
 go_wp2_with (first|((with_reducible refine aD (f:=13) rfl ?_);refine aU (some 14) rfl rfl Try.func13 (by kernel_rfl) rfl #[.slice ja j4.length jb, .int .i64 j8] rfl dK ?_;(with_reducible refine (ih_laws_szStmtS k (by omega) _ _ j4 j8 j9 _ (aC_ (Kd.aI j6.out HB.out)) j7.out A8.out).mono ?_);rintro e za ⟨rfl,hb⟩;refine ⟨_,rfl,?_⟩;replace j3:=bbP j3 hb;replace HB:=am (aC vD hb);(try clear hb);obtain ⟨qt,qu,qv,qw,qx,qy,qz,qA,qB,qC,qD,qE,qF,qG,qH,qI⟩:=eF j3.out)|((with_reducible refine aD (f:=13) rfl ?_);refine aU (some 20) rfl rfl Try.func13 (by kernel_rfl) rfl #[.slice jh j5.length ji, .int .i64 j9] rfl dK ?_;(with_reducible refine (ih_laws_szStmtS k (by omega) _ _ j5 j9 jp _ (aC_ (Kd.aI jc.out HB.out)) jd.out z5.out).mono ?_);rintro e zb ⟨rfl,hb⟩;refine ⟨_,rfl,?_⟩;replace j3:=bbP j3 hb;replace HB:=am (aC vD hb);(try clear hb)))
 go_ret
 exact ⟨rr_,vD⟩
theorem bP.step (k:Nat) (ih_laws_szStmt:∀ m,m < k→dO.bY m) (ih_laws_szStmtS:∀ m,m < k→bP.bY m):bP.bY k:=by
 intro A0 c0 l0 a1 r w hr0 hc0 h
 cases k with
 |zero=>exact absurd h (by simp [bP.f])
 |succ k=>
 simp only [bP.f] at h
 have hu66:=Try.underlying66
 have jy:=am hr0
 have jA:=am hc0
 clear hr0 hc0
 have HB:=am (Below.refl w.heap.size w)
 have H:(if (wrap64 (a1 - (l0.length:Int))) < 0 then (some (-1)) else (bP.l0 k l0 (wrap64 (a1 - (l0.length:Int))) 0))=some r:=h
 clear h
 by_cases c3:(wrap64 (a1 - (l0.length:Int))) < 0
 ·rw [if_pos c3] at H
  have js:decide ((wrap64 (a1 - (l0.length:Int))) < 0)=true:=decide_eq_true c3
  clear c3
  obtain rfl:=Option.some.inj H
  go_enter Try.func13,Try.ntmps13
  go_wp2
  go_ret
  exact ⟨rr_,dN⟩
 rw [if_neg c3] at H
 have js:decide ((wrap64 (a1 - (l0.length:Int))) < 0)=false:=decide_eq_false c3
 clear c3
 have H':=am H
 clear H
 go_enter Try.func13,Try.ntmps13
 go_wp2
 go_loopg [1,5] k (fun kq v1 v5 w'=>∃ (jc:Int) (j3:Int),v1= .int .i64 jc∧v5= .int .i64 j3∧Aside0 (bP.l0 kq l0 jc j3=some r)∧Aside0 (kq≤k)∧Aside0 (Below w.heap.size w w'))
 case atStart=>exact ⟨(wrap64 (a1 - (l0.length:Int))),(0),sd_,sd_,H',⟨Nat.le_refl _⟩,⟨dN⟩⟩
 case round=>
  clear H'
  try clear c3
  try clear js
  obtain ⟨jc,j3,rfl,rfl,HA,jt,HB⟩:=hrel
  cases gk with
  |zero=>exact absurd HA.out (by simp [bP.l0])
  |succ k1=>
   have H:=HA.out
   clear HA
   simp only [bP.l0] at H
   by_cases c4:j3 < (l0.length:Int)
   ·rw [if_pos c4] at H
    have ju:decide (j3 < (l0.length:Int))=true:=decide_eq_true c4
    clear c4
    by_cases c5:0≤j3
    ·rw [if_pos c5] at H
     have jz:decide (0≤j3)=true:=decide_eq_true c5
     clear c5
     obtain ⟨jr,A6,H⟩:=bsa H
     (try dsimp only at H)
     by_cases c7:jr < 0
     ·rw [if_pos c7] at H
      have jv:decide (jr < 0)=true:=decide_eq_true c7
      clear c7
      obtain rfl:=Option.some.inj H
      have jp:0≤(j3:Int):=of_decide_eq_true bT
      have jq:j3 < (l0.length:Int):=of_decide_eq_true bT
      obtain ⟨jw,jj,jk,jl,jm,jn,jo,jx,j4,j5,j6,j7,j8,j9,ja,jb,hl21_5,hi21_5,hl21_6,hi21_6,hl21_7,hi21_7⟩:=MB jy.out j3 jp jq
      cases jx
      replace j4:=(HB.out.cell (World.block_lt_of_cell? w _ j4)).trans j4
      replace j5:=(HB.out.cell (World.block_lt_of_cell? w _ j5)).trans j5
      replace j6:=(HB.out.cell (World.block_lt_of_cell? w _ j6)).trans j6
      replace j7:=(HB.out.cell (World.block_lt_of_cell? w _ j7)).trans j7
      replace j8:=(HB.out.cell (World.block_lt_of_cell? w _ j8)).trans j8
      replace j9:=(HB.out.cell (World.block_lt_of_cell? w _ j9)).trans j9
      replace ja:=(HB.out.cell (World.block_lt_of_cell? w _ ja)).trans ja
      replace jb:=(HB.out.cell (World.block_lt_of_cell? w _ jb)).trans jb
      have jd:=am hi21_5
      have je:=am hl21_5
      clear hi21_5 hl21_5
      have jf:=am hi21_6
      have jg:=am hl21_6
      clear hi21_6 hl21_6
      have jh:=am hi21_7
      have ji:=am hl21_7
      clear hi21_7 hl21_7
      replace jp:=eq_true jp
      replace jq:=eq_true jq
      go_wp2_with (first|((with_reducible refine aD (f:=36) rfl ?_);refine aU (some 23) rfl rfl Try.func36 (by kernel_rfl) rfl #[.agg #[.int .i64 ((dU l0 j3).f0), .int .i64 ((dU l0 j3).f1), .int .i64 ((dU l0 j3).f2), .int .i64 ((dU l0 j3).f3.f0), .int .i64 ((dU l0 j3).f3.f1), .slice jj ((dU l0 j3).f3.f2).length jk, .slice jl ((dU l0 j3).f4).length jm, .slice jn ((dU l0 j3).f5).length jo], .int .i64 jc] rfl dK ?_;(with_reducible refine (ih_laws_szStmt k1 (by have:=jt.out;omega) ((dU l0 j3).f0) ((dU l0 j3).f1) ((dU l0 j3).f2) ((dU l0 j3).f3.f0) ((dU l0 j3).f3.f1) _ _ ((dU l0 j3).f3.f2) _ _ ((dU l0 j3).f4) _ _ ((dU l0 j3).f5) jc jr _ (aC_ (Kd.aI jd.out HB.out)) je.out (aC_ (Kd.aI jf.out HB.out)) jg.out (aC_ (Kd.aI jh.out HB.out)) ji.out A6.out).mono ?_);rintro e w8 ⟨rfl,hb⟩;refine ⟨_,rfl,?_⟩;replace HB:=am (aC dN hb);(try clear hb)))
      go_ret
      exact ⟨rr_,dN⟩
     rw [if_neg c7] at H
     have jv:decide (jr < 0)=false:=decide_eq_false c7
     clear c7
     have H':=am H
     clear H
     have jp:0≤(j3:Int):=of_decide_eq_true bT
     have jq:j3 < (l0.length:Int):=of_decide_eq_true bT
     obtain ⟨jw,jj,jk,jl,jm,jn,jo,jx,j4,j5,j6,j7,j8,j9,ja,jb,hl21_5,hi21_5,hl21_6,hi21_6,hl21_7,hi21_7⟩:=MB jy.out j3 jp jq
     cases jx
     replace j4:=(HB.out.cell (World.block_lt_of_cell? w _ j4)).trans j4
     replace j5:=(HB.out.cell (World.block_lt_of_cell? w _ j5)).trans j5
     replace j6:=(HB.out.cell (World.block_lt_of_cell? w _ j6)).trans j6
     replace j7:=(HB.out.cell (World.block_lt_of_cell? w _ j7)).trans j7
     replace j8:=(HB.out.cell (World.block_lt_of_cell? w _ j8)).trans j8
     replace j9:=(HB.out.cell (World.block_lt_of_cell? w _ j9)).trans j9
     replace ja:=(HB.out.cell (World.block_lt_of_cell? w _ ja)).trans ja
     replace jb:=(HB.out.cell (World.block_lt_of_cell? w _ jb)).trans jb
     have jd:=am hi21_5
     have je:=am hl21_5
     clear hi21_5 hl21_5
     have jf:=am hi21_6
     have jg:=am hl21_6
     clear hi21_6 hl21_6
     have jh:=am hi21_7
     have ji:=am hl21_7
     clear hi21_7 hl21_7
     replace jp:=eq_true jp
     replace jq:=eq_true jq
     go_wp2_with (first|((with_reducible refine aD (f:=36) rfl ?_);refine aU (some 23) rfl rfl Try.func36 (by kernel_rfl) rfl #[.agg #[.int .i64 ((dU l0 j3).f0), .int .i64 ((dU l0 j3).f1), .int .i64 ((dU l0 j3).f2), .int .i64 ((dU l0 j3).f3.f0), .int .i64 ((dU l0 j3).f3.f1), .slice jj ((dU l0 j3).f3.f2).length jk, .slice jl ((dU l0 j3).f4).length jm, .slice jn ((dU l0 j3).f5).length jo], .int .i64 jc] rfl dK ?_;(with_reducible refine (ih_laws_szStmt k1 (by have:=jt.out;omega) ((dU l0 j3).f0) ((dU l0 j3).f1) ((dU l0 j3).f2) ((dU l0 j3).f3.f0) ((dU l0 j3).f3.f1) _ _ ((dU l0 j3).f3.f2) _ _ ((dU l0 j3).f4) _ _ ((dU l0 j3).f5) jc jr _ (aC_ (Kd.aI jd.out HB.out)) je.out (aC_ (Kd.aI jf.out HB.out)) jg.out (aC_ (Kd.aI jh.out HB.out)) ji.out A6.out).mono ?_);rintro e w9 ⟨rfl,hb⟩;refine ⟨_,rfl,?_⟩;replace HB:=am (aC dN hb);(try clear hb)))
     go_roundg k1
     case measure=>have:=jt.out;omega
     case rel=>exact ⟨(jr),(wrap64 (j3 + 1)),sd_,sd_,H',⟨by have:=jt.out;omega⟩,⟨dN⟩⟩
    rw [if_neg c5] at H
    exact absurd H (by simp)
   rw [if_neg c4] at H
   have ju:decide (j3 < (l0.length:Int))=false:=decide_eq_false c4
   clear c4
   obtain rfl:=Option.some.inj H
   go_wp2
   go_ret
   exact ⟨rr_,dN⟩
theorem dO.calls_all (k:Nat):dO.bY k∧bP.bY k:=by
 induction k using Nat.strongRecOn with
 | _ k ih=>exact ⟨dO.step k (ih_laws_szStmt:=fun m hm=>(ih m hm).1) (ih_laws_szStmtS:=fun m hm=>(ih m hm).2),bP.step k (ih_laws_szStmt:=fun m hm=>(ih m hm).1) (ih_laws_szStmtS:=fun m hm=>(ih m hm).2)⟩
theorem dO.calls (k:Nat):dO.bY k:=(dO.calls_all k).1
theorem bP.calls (k:Nat):bP.bY k:=(dO.calls_all k).2
theorem dB.mono_l:∀ k,(∀ y0 y1 y2,LeO (dB.l0 k y0 y1 y2) (dB.l0 (k + 1) y0 y1 y2))
 |0=>fun _ _ _ r h=>by simp [dB.l0] at h
 |k + 1=>by
  have ih0:=dB.mono_l k
  ·intro y0 y1 y2
   unfold dB.l0
   have m0:=@bP.mono
   exact mo_
theorem dB.mono:∀ a0 a1 k,LeO (dB.f k a0 a1) (dB.f (k + 1) a0 a1):=by
 intro a0 a1 k
 have ih0:=dB.mono_l k
 unfold dB.f
 have m0:=@bP.mono
 exact mo_
theorem dB.calls (k:Nat) (A0:Option Addr) (c0:Nat) (l0:List (List (S66))) (a1:Int) (r:Int) (w:World) (hr0:Kd.C (Kd.slice 66 k66) w A0 l0.length l0) (hc0:l0.length≤c0) (h:dB.f k l0 a1=some r):
  Calls Try.prog 44 #[.slice A0 l0.length c0, .int .i64 a1] w fun e w'=>e= .returned (.int .i64 r)∧Below w.heap.size w w':=by
 have ji:=am hr0
 have jl:=am hc0
 clear hr0 hc0
 have HB:=am (Below.refl w.heap.size w)
 have H:(if (wrap64 (a1 - (l0.length:Int))) < 0 then (some (-1)) else (dB.l0 k l0 (wrap64 (a1 - (l0.length:Int))) 0))=some r:=h
 clear h
 by_cases c3:(wrap64 (a1 - (l0.length:Int))) < 0
 ·rw [if_pos c3] at H
  have jd:decide ((wrap64 (a1 - (l0.length:Int))) < 0)=true:=decide_eq_true c3
  clear c3
  obtain rfl:=Option.some.inj H
  go_enter Try.func44,Try.ntmps44
  go_wp2
  go_ret
  exact ⟨rr_,dN⟩
 rw [if_neg c3] at H
 have jd:decide ((wrap64 (a1 - (l0.length:Int))) < 0)=false:=decide_eq_false c3
 clear c3
 have H':=am H
 clear H
 go_enter Try.func44,Try.ntmps44
 go_wp2
 go_loopg [1,5] k (fun kq v1 v5 w'=>∃ (j5:Int) (j3:Int),v1= .int .i64 j5∧v5= .int .i64 j3∧Aside0 (dB.l0 kq l0 j5 j3=some r)∧Aside0 (kq≤k)∧Aside0 (Below w.heap.size w w'))
 case atStart=>exact ⟨(wrap64 (a1 - (l0.length:Int))),(0),sd_,sd_,H',⟨Nat.le_refl _⟩,⟨dN⟩⟩
 case round=>
  clear H'
  try clear c3
  try clear jd
  obtain ⟨j5,j3,rfl,rfl,HA,jj,HB⟩:=hrel
  cases gk with
  |zero=>exact absurd HA.out (by simp [dB.l0])
  |succ k1=>
   have H:=HA.out
   clear HA
   simp only [dB.l0] at H
   by_cases c4:j3 < (l0.length:Int)
   ·rw [if_pos c4] at H
    have je:decide (j3 < (l0.length:Int))=true:=decide_eq_true c4
    clear c4
    by_cases c5:0≤j3
    ·rw [if_pos c5] at H
     have jk:decide (0≤j3)=true:=decide_eq_true c5
     clear c5
     obtain ⟨jc,A6,H⟩:=bsa H
     (try dsimp only at H)
     by_cases c7:jc < 0
     ·rw [if_pos c7] at H
      have jf:decide (jc < 0)=true:=decide_eq_true c7
      clear c7
      obtain rfl:=Option.some.inj H
      have ja:0≤(j3:Int):=of_decide_eq_true bT
      have jb:j3 < (l0.length:Int):=of_decide_eq_true bT
      obtain ⟨jg,j8,j9,jh,j4,hl21_0,hi21_0⟩:=SF ji.out j3 ja jb
      cases jh
      replace j4:=(HB.out.cell (World.block_lt_of_cell? w _ j4)).trans j4
      have j6:=am hi21_0
      have j7:=am hl21_0
      clear hi21_0 hl21_0
      replace ja:=eq_true ja
      replace jb:=eq_true jb
      go_wp2_with (first|((with_reducible refine aD (f:=13) rfl ?_);refine aU (some 23) rfl rfl Try.func13 (by kernel_rfl) rfl #[.slice j8 (rM l0 j3).length j9, .int .i64 j5] rfl dK ?_;(with_reducible refine (bP.calls k1 _ _ (rM l0 j3) j5 jc _ (aC_ (Kd.aI j6.out HB.out)) j7.out A6.out).mono ?_);rintro e w8 ⟨rfl,hb⟩;refine ⟨_,rfl,?_⟩;replace HB:=am (aC dN hb);(try clear hb)))
      go_ret
      exact ⟨rr_,dN⟩
     rw [if_neg c7] at H
     have jf:decide (jc < 0)=false:=decide_eq_false c7
     clear c7
     have H':=am H
     clear H
     have ja:0≤(j3:Int):=of_decide_eq_true bT
     have jb:j3 < (l0.length:Int):=of_decide_eq_true bT
     obtain ⟨jg,j8,j9,jh,j4,hl21_0,hi21_0⟩:=SF ji.out j3 ja jb
     cases jh
     replace j4:=(HB.out.cell (World.block_lt_of_cell? w _ j4)).trans j4
     have j6:=am hi21_0
     have j7:=am hl21_0
     clear hi21_0 hl21_0
     replace ja:=eq_true ja
     replace jb:=eq_true jb
     go_wp2_with (first|((with_reducible refine aD (f:=13) rfl ?_);refine aU (some 23) rfl rfl Try.func13 (by kernel_rfl) rfl #[.slice j8 (rM l0 j3).length j9, .int .i64 j5] rfl dK ?_;(with_reducible refine (bP.calls k1 _ _ (rM l0 j3) j5 jc _ (aC_ (Kd.aI j6.out HB.out)) j7.out A6.out).mono ?_);rintro e w9 ⟨rfl,hb⟩;refine ⟨_,rfl,?_⟩;replace HB:=am (aC dN hb);(try clear hb)))
     go_roundg k1
     case measure=>have:=jj.out;omega
     case rel=>exact ⟨(jc),(wrap64 (j3 + 1)),sd_,sd_,H',⟨by have:=jj.out;omega⟩,⟨dN⟩⟩
    rw [if_neg c5] at H
    exact absurd H (by simp)
   rw [if_neg c4] at H
   have je:decide (j3 < (l0.length:Int))=false:=decide_eq_false c4
   clear c4
   obtain rfl:=Option.some.inj H
   go_wp2
   go_ret
   exact ⟨rr_,dN⟩
theorem gG.mono:∀ a0 a1 a2 k,LeO (gG.f k a0 a1 a2) (gG.f (k + 1) a0 a1 a2):=by
 intro a0 a1 a2 k
 unfold gG.f
 have m0:=@dB.mono
 exact mo_
theorem gG.calls (k:Nat) (j8:Option Addr) (j9:Nat) (j4:List Int) (j5:Option Addr) (j6:Nat) (j3:List (List (S66))) (a1:Int) (r:Int) (w:World) (hr0_0:Kd.C (Kd.int .i64) w j8 j4.length j4) (hc0_0:j4.length≤j9) (hr0_1:Kd.C (Kd.slice 66 k66) w j5 j3.length j3) (hc0_1:j3.length≤j6) (h:gG.f k j4 j3 a1=some r):
  Calls Try.prog 20 #[.agg #[.slice j8 j4.length j9, .slice j5 j3.length j6], .int .i64 a1] w fun e w'=>e= .returned (.int .i64 r)∧Below w.heap.size w w':=by
 have hu47:=Try.underlying47
 have jd:=am hr0_0
 have je:=am hc0_0
 clear hr0_0 hc0_0
 have ja:=am hr0_1
 have jb:=am hc0_1
 clear hr0_1 hc0_1
 have HB:=am (Below.refl w.heap.size w)
 unfold gG.f at h
 have H:=h
 clear h
 obtain ⟨jc,A3,H⟩:=bsa H
 (try dsimp only at H)
 have HH_:=am H
 clear H
 go_enter Try.func20,Try.ntmps20
 go_upto_region 2 with (first|((with_reducible refine bJ (N:=2) rfl ?_);refine bR rfl (N:=2) rfl (cs:=#[.slice j8 j4.length j9, .slice j5 j3.length j6]) (t:=47) rn_ ?_;intro jf hg w5 hbox hb;have j7:=am (hbox);have jn:=am ((by rw [hg];exact (aN dN):w.heap.size≤jf));have GE23:=am ((by rw [hg];exact (aN dN):w.heap.size≤jf));replace HB:=am (aC dN hb);clear hb hbox hg;obtain ⟨jh,ji,jj,jk⟩:=iP j7.out)|((with_reducible refine aD (f:=43) rfl ?_);refine aU (some 8) rfl rfl Try.func43 (by kernel_rfl) rfl #[.slice j8 j4.length j9, .int .i64 a1] rfl dK ?_;(with_reducible refine (lY.calls _ _ j4 a1 jc _ (aC_ (Kd.aI jd.out HB.out)) je.out A3.out).mono ?_);rintro e w' ⟨rfl,⟨nd,rfl⟩⟩;refine ⟨_,rfl,?_⟩))
 have H:=HH_.out
 clear HH_
 by_cases c4:jc < 0
 ·rw [if_pos c4] at H
  have jl:decide (jc < 0)=true:=decide_eq_true c4
  clear c4
  obtain rfl:=Option.some.inj H
  go_wp2
  go_ret
  exact ⟨rr_,nM⟩
 rw [if_neg c4] at H
 have jl:decide (jc < 0)=false:=decide_eq_false c4
 clear c4
 obtain ⟨jg,A7,H⟩:=bsa H
 (try dsimp only at H)
 by_cases c8:jg < 0
 ·rw [if_pos c8] at H
  have jm:decide (jg < 0)=true:=decide_eq_true c8
  clear c8
  obtain rfl:=Option.some.inj H
  go_wp2_with (first|((with_reducible refine aD (f:=44) rfl ?_);refine aU (some 14) rfl rfl Try.func44 (by kernel_rfl) rfl #[.slice j5 j3.length j6, .int .i64 jc] rfl dK ?_;(with_reducible refine (dB.calls k _ _ j3 jc jg _ (aC_ (Kd.aI ja.out nM)) jb.out A7.out).mono ?_);rintro e jo ⟨rfl,hb⟩;refine ⟨_,rfl,?_⟩;replace j7:=bbP j7 hb;replace HB:=am (aC nM hb);(try clear hb)))
  go_ret
  exact ⟨rr_,nM⟩
 rw [if_neg c8] at H
 have jm:decide (jg < 0)=false:=decide_eq_false c8
 clear c8
 obtain rfl:=Option.some.inj H
 go_wp2_with (first|((with_reducible refine aD (f:=44) rfl ?_);refine aU (some 14) rfl rfl Try.func44 (by kernel_rfl) rfl #[.slice j5 j3.length j6, .int .i64 jc] rfl dK ?_;(with_reducible refine (dB.calls k _ _ j3 jc jg _ (aC_ (Kd.aI ja.out nM)) jb.out A7.out).mono ?_);rintro e jp ⟨rfl,hb⟩;refine ⟨_,rfl,?_⟩;replace j7:=bbP j7 hb;replace HB:=am (aC nM hb);(try clear hb)))
 go_ret
 exact ⟨rr_,nM⟩
theorem fD.calls (a0:Int) (a1:Int) (a2:Int) (r:Bool) (w:World) (h:fD.f a0 a1 a2=some r):
  Calls Try.prog 59 #[.int .i64 a0, .int .i64 a1, .int .i64 a2] w fun e w'=>e= .returned (.bool r)∧fV w w':=by
 have H:(if a0≥a1 then (some (decide (a0≤a2))) else (some false))=some r:=h
 clear h
 by_cases c4:a0≥a1
 ·rw [if_pos c4] at H
  have j3:decide (a1≤a0)=true:=decide_eq_true c4
  clear c4
  obtain rfl:=Option.some.inj H
  go_enter Try.func59,Try.ntmps59
  go_wp2
  go_ret
  exact ⟨sd_,fF⟩
 rw [if_neg c4] at H
 have j3:decide (a1≤a0)=false:=decide_eq_false c4
 clear c4
 obtain rfl:=Option.some.inj H
 go_enter Try.func59,Try.ntmps59
 go_wp2
 go_ret
 exact ⟨sd_,fF⟩
theorem mE.calls (a0:Int) (a1:Int) (r1:Int) (r2:Int) (r3:List (S28)) (w:World) (h:mE.f a0 a1=some (r1,r2,r3)):
  Calls Try.prog 57 #[.int .i64 a0, .int .i64 a1] w fun e w'=>∃ v2_:Value,e= .returned (.agg #[.int .i64 r1, .int .i64 r2,v2_])∧Kd.R k28 28 w' w.heap.size (fun _=>True) v2_ r3∧Below w.heap.size w w':=by
 have hu28:=Try.underlying28
 have HB:=am (Below.refl w.heap.size w)
 have H:(some (a0,a1,(([]:List (S28)))))=some (r1,r2,r3):=h
 clear h
 obtain ⟨j7,hy_⟩:∃ y_:List (S28),y_=(([]:List (S28))):=⟨_,rfl⟩
 replace H:(some (a0,a1,j7))=some (r1,r2,r3):=rx_
 have j5:=am hy_
 clear hy_
 simp only [Option.some.injEq,Prod.mk.injEq] at H
 obtain ⟨rfl,rfl,rfl⟩:=H
 go_enter Try.func57,Try.ntmps57
 go_wp2_with (first|((with_reducible refine bJ (N:=4) rfl ?_);refine bR rfl (N:=4) rfl (cs:=#[.int .i64 0, .int .i64 0, .slice none 0 0]) (t:=28) rn_ ?_;intro j3 hg w3 hbox hb;have j4:=am (hbox);have jg:=am ((by rw [hg];exact (aN dN):w.heap.size≤j3));have GE21:=am ((by rw [hg];exact (aN dN):w.heap.size≤j3));replace HB:=am (aC dN hb);clear hb hbox hg)|((with_reducible refine bJ (N:=7) rfl ?_);refine Kd.DV k28 _ 28 rfl (N:=7) rfl (xs:=([]:List (S28))) (inner:=[]) (ok:=fun _=>True) (okp:=fun _=>True) rn_ ?hp (fun _ hk=>hk) trivial (Below.refl _ _) (Nat.le_refl _) (by simp) ?_;(case hp=>exact (fZ.none _ _));intro ji w4 ho5 hb hg_ hnew_;clear hg_ hnew_;(first|rw [← j5.out] at ho5|(simp only [Int.reduceToNat] at ho5;rw [← j5.out] at ho5));have j6:=am (Kd.lC (Kd.aBi ho5 (g:=j3) (o:= .cells #[.int .i64 0, .int .i64 0, .slice none 0 0] 28 (0,0)) (aG_ j4.out)) (aN nX));replace j4:=bbP j4 hb;replace HB:=am (aC nX hb);clear hb ho5;obtain ⟨je,jf,jh⟩:=Kd.nI j6.out;subst jh;obtain ⟨j8,j9,ja,jb,jc,jd⟩:=gW j4.out))
 refine bodyPost_ret (results_cell_row rfl _ _ j3 28 #[.int .i64 a0, .int .i64 a1, .slice je j7.length jf] (0,0) _ rfl (aT (aT (aT j4.out 0 _ rfl) 1 _ rfl) 2 _ rfl) Try.underlying28 rfl (by kernel_rfl)) rfl ?_
 exact ⟨_,sJ,vL (Kd.gL (Kd.lM (p:=⟨j3,2,none⟩) (Kd.lM (p:=⟨j3,1,none⟩) (Kd.lM (p:=⟨j3,0,none⟩) (Kd.gL j6.out (fun k_ hk=>(⟨hk,hk.2⟩:_∧k_≠j3))) (fun _ hk=>hk.2) (.int .i64 a0)) (fun _ hk=>hk.2) (.int .i64 a1)) (fun _ hk=>hk.2) (.slice je j7.length jf)) (fun _ hk=>trivial)),nX⟩
theorem gJ.calls (a0:Int) (r:Bool) (w:World) (h:gJ.f a0=some r):
  Calls Try.prog 70 #[.int .i64 a0] w fun e w'=>e= .returned (.bool r)∧fV w w':=by
 have H:((fD.f a0 1 12).bind fun j3=>(some j3))=some r:=h
 clear h
 obtain ⟨j3,A2,H⟩:=bsa H
 (try dsimp only at H)
 obtain rfl:=Option.some.inj H
 go_enter Try.func70,Try.ntmps70
 go_wp2_with (first|((with_reducible refine aD (f:=59) rfl ?_);refine aU (some 4) rfl rfl Try.func59 (by kernel_rfl) rfl #[.int .i64 a0, .int .i64 1, .int .i64 12] rfl dK ?_;(with_reducible refine (fD.calls a0 1 12 j3 _ A2.out).mono ?_);rintro e w' ⟨rfl,⟨nd,rfl⟩⟩;refine ⟨_,rfl,?_⟩))
 go_ret
 exact ⟨sd_,fF⟩
theorem iH.calls (a0:Int) (r:Bool) (w:World) (h:iH.f a0=some r):
  Calls Try.prog 71 #[.int .i64 a0] w fun e w'=>e= .returned (.bool r)∧fV w w':=by
 have H:((fD.f a0 (-2147483648) 2147483647).bind fun j3=>(some j3))=some r:=h
 clear h
 obtain ⟨j3,A2,H⟩:=bsa H
 (try dsimp only at H)
 obtain rfl:=Option.some.inj H
 go_enter Try.func71,Try.ntmps71
 go_wp2_with (first|((with_reducible refine aD (f:=59) rfl ?_);refine aU (some 4) rfl rfl Try.func59 (by kernel_rfl) rfl #[.int .i64 a0, .int .i64 (-2147483648), .int .i64 2147483647] rfl dK ?_;(with_reducible refine (fD.calls a0 (-2147483648) 2147483647 j3 _ A2.out).mono ?_);rintro e w' ⟨rfl,⟨nd,rfl⟩⟩;refine ⟨_,rfl,?_⟩))
 go_ret
 exact ⟨sd_,fF⟩
theorem kU.calls (a0:Bool) (r:Int) (w:World) (h:kU.f a0=some r):
  Calls Try.prog 72 #[.bool a0] w fun e w'=>e= .returned (.int .i64 r)∧fV w w':=by
 have H:(if a0=true then (some 1) else (some 0))=some r:=h
 clear h
 by_cases c2:a0=true
 ·subst c2
  rw [if_pos rfl] at H
  obtain rfl:=Option.some.inj H
  go_enter Try.func72,Try.ntmps72
  go_wp2
  go_ret
  exact ⟨sd_,fF⟩
 replace c2:=Bool.eq_false_iff.mpr c2
 subst c2
 rw [if_neg (show ¬ (false=true) by decide)] at H
 obtain rfl:=Option.some.inj H
 go_enter Try.func72,Try.ntmps72
 go_wp2
 go_ret
 exact ⟨sd_,fF⟩
theorem iA.calls (a0:Int) (r:Int) (w:World) (h:iA.f a0=some r):
  Calls Try.prog 74 #[.int .i64 a0] w fun e w'=>e= .returned (.int .i64 r)∧fV w w':=by
 unfold iA.f at h
 have H:=h
 clear h
 by_cases c2:(Int.tmod a0 4294967296) > 2147483647
 ·rw [if_pos c2] at H
  have j3:decide (2147483647 < (Int.tmod a0 4294967296))=true:=decide_eq_true c2
  clear c2
  obtain rfl:=Option.some.inj H
  go_enter Try.func74,Try.ntmps74
  go_wp2
  go_ret
  exact ⟨sd_,fF⟩
 rw [if_neg c2] at H
 have j3:decide (2147483647 < (Int.tmod a0 4294967296))=false:=decide_eq_false c2
 clear c2
 by_cases c3:(Int.tmod a0 4294967296) < (-2147483648)
 ·rw [if_pos c3] at H
  have j4:decide ((Int.tmod a0 4294967296) < (-2147483648))=true:=decide_eq_true c3
  clear c3
  obtain rfl:=Option.some.inj H
  go_enter Try.func74,Try.ntmps74
  go_wp2
  go_ret
  exact ⟨sd_,fF⟩
 rw [if_neg c3] at H
 have j4:decide ((Int.tmod a0 4294967296) < (-2147483648))=false:=decide_eq_false c3
 clear c3
 obtain rfl:=Option.some.inj H
 go_enter Try.func74,Try.ntmps74
 go_wp2
 go_ret
 exact ⟨sd_,fF⟩
theorem iV.calls (a0:Int) (a1:Int) (a2:Bool) (r:Int) (w:World) (h:iV.f a0 a1 a2=some r):
  Calls Try.prog 73 #[.int .i64 a0, .int .i64 a1, .bool a2] w fun e w'=>e= .returned (.int .i64 r)∧fV w w':=by
 unfold iV.f at h
 have H:=h
 clear h
 by_cases c4:a2=true
 ·subst c4
  rw [if_pos rfl] at H
  by_cases c5:0≤(Go.bits .and .i64 a1 31)
  ·rw [if_pos c5] at H
   have j4:=eq_true c5
   have j5:decide (0≤(Go.bits .and .i64 a1 31))=true:=decide_eq_true c5
   clear c5
   obtain ⟨ji6,hji6⟩:∃ j_:Int,(shr .i64 a0 (Go.bits .and .i64 a1 31))=j_:=⟨_,rfl⟩
   replace H:(some ji6)=some r:=by first|(rw [hji6] at H;exact H)|(simp only [hji6] at H ⊢;exact H)
   have hji6_:(a0 / 2 ^ min (Go.bits .and .i64 a1 31).toNat 64)=ji6:=hji6
   have hji6z:(Go.bits .and .i64 a1 31)≤64→(a0 / 2 ^ (Go.bits .and .i64 a1 31).toNat)=ji6:=EK hji6
   obtain rfl:=Option.some.inj H
   go_enter Try.func73,Try.ntmps73
   go_wp2
   go_ret
   exact ⟨by first|rfl|(simp;done)|(simp only [← hji6] <;> (first|rfl|simp))|(simp [*];done),fF⟩
  rw [if_neg c5] at H
  exact absurd H (by simp)
 replace c4:=Bool.eq_false_iff.mpr c4
 subst c4
 rw [if_neg (show ¬ (false=true) by decide)] at H
 by_cases c7:0≤(Go.bits .and .i64 a1 31)
 ·rw [if_pos c7] at H
  have j6:=eq_true c7
  have j7:decide (0≤(Go.bits .and .i64 a1 31))=true:=decide_eq_true c7
  clear c7
  obtain ⟨ji8,hji8⟩:∃ j_:Int,(shl .i64 a0 (Go.bits .and .i64 a1 31))=j_:=⟨_,rfl⟩
  replace H:((iA.f (ji8)).bind fun j3=>(some j3))=some r:=by first|(rw [hji8] at H;exact H)|(simp only [hji8] at H ⊢;exact H)
  have hji8_:(IntKind.i64.wrap (a0 * 2 ^ min (Go.bits .and .i64 a1 31).toNat 64))=ji8:=hji8
  have hji8z:(Go.bits .and .i64 a1 31)≤64→(IntKind.i64.wrap (a0 * 2 ^ (Go.bits .and .i64 a1 31).toNat))=ji8:=EJ hji8
  have hji8y:(wrap64 (a0 * 2 ^ min (Go.bits .and .i64 a1 31).toNat 64))=ji8:=(gT _).symm.trans hji8_
  have hji8x:(Go.bits .and .i64 a1 31)≤64→(wrap64 (a0 * 2 ^ (Go.bits .and .i64 a1 31).toNat))=ji8:=fun h_=>(gT _).symm.trans (hji8z h_)
  obtain ⟨j3,A9,H⟩:=bsa H
  (try dsimp only at H)
  obtain rfl:=Option.some.inj H
  go_enter Try.func73,Try.ntmps73
  go_wp2_with (first|((with_reducible refine aD (f:=74) rfl ?_);refine aU (some 16) rfl rfl Try.func74 (by kernel_rfl) rfl #[.int .i64 ji8] rfl (by (try simp only [List.map_toArray,List.map_cons,List.map_nil]);first|done|(simp only [hji8];rfl)|rfl|(simp only [List.length_drop,List.length_take];rfl)) ?_;(with_reducible refine (iA.calls ji8 j3 _ A9.out).mono ?_);rintro e w' ⟨rfl,⟨nd,rfl⟩⟩;refine ⟨_,rfl,?_⟩))
  go_ret
  exact ⟨by first|rfl|(simp;done)|(simp only [← hji8] <;> (first|rfl|simp))|(simp [*];done),fF⟩
 rw [if_neg c7] at H
 exact absurd H (by simp)
theorem lU.calls (a0:Int) (a1:Int) (r:Int) (w:World) (h:lU.f a0 a1=some r):
  Calls Try.prog 75 #[.int .i64 a0, .int .i64 a1] w fun e w'=>e= .returned (.int .i64 r)∧fV w w':=by
 have H:(if a1=0 then (some (-1)) else ((iA.f (wrap64 (Int.tdiv a0 a1))).bind fun j3=>(some j3)))=some r:=h
 clear h
 by_cases c3:a1=0
 ·rw [if_pos c3] at H
  have j4:(a1 == 0)=true:=beq_iff_eq.mpr c3
  have j5:(a1 != 0)=false:=bne_eq_false_iff_eq.mpr c3
  clear c3
  obtain rfl:=Option.some.inj H
  go_enter Try.func75,Try.ntmps75
  go_wp2
  go_ret
  exact ⟨sd_,fF⟩
 rw [if_neg c3] at H
 have j4:(a1 == 0)=false:=beq_eq_false_iff_ne.mpr c3
 have j5:(a1 != 0)=true:=bne_iff_ne.mpr c3
 obtain ⟨j3,A4,H⟩:=bsa H
 (try dsimp only at H)
 obtain rfl:=Option.some.inj H
 go_enter Try.func75,Try.ntmps75
 go_wp2_with (first|((with_reducible refine aD (f:=74) rfl ?_);refine aU (some 10) rfl rfl Try.func74 (by kernel_rfl) rfl #[.int .i64 (wrap64 (Int.tdiv a0 a1))] rfl dK ?_;(with_reducible refine (iA.calls (wrap64 (Int.tdiv a0 a1)) j3 _ A4.out).mono ?_);rintro e w' ⟨rfl,⟨nd,rfl⟩⟩;refine ⟨_,rfl,?_⟩))
 go_ret
 exact ⟨sd_,fF⟩
theorem lV.calls (a0:Int) (a1:Int) (r:Int) (w:World) (h:lV.f a0 a1=some r):
  Calls Try.prog 76 #[.int .i64 a0, .int .i64 a1] w fun e w'=>e= .returned (.int .i64 r)∧fV w w':=by
 have H:(if a1=0 then (some a0) else (some (Int.tmod a0 a1)))=some r:=h
 clear h
 by_cases c3:a1=0
 ·rw [if_pos c3] at H
  have j3:(a1 == 0)=true:=beq_iff_eq.mpr c3
  have j4:(a1 != 0)=false:=bne_eq_false_iff_eq.mpr c3
  clear c3
  obtain rfl:=Option.some.inj H
  go_enter Try.func76,Try.ntmps76
  go_wp2
  go_ret
  exact ⟨sd_,fF⟩
 rw [if_neg c3] at H
 have j3:(a1 == 0)=false:=beq_eq_false_iff_ne.mpr c3
 have j4:(a1 != 0)=true:=bne_iff_ne.mpr c3
 obtain rfl:=Option.some.inj H
 go_enter Try.func76,Try.ntmps76
 go_wp2
 go_ret
 exact ⟨sd_,fF⟩
theorem eG.mono_l:∀ k,(∀ y0 y1 y2 y3,LeO (eG.j0 k y0 y1 y2 y3) (eG.j0 (k + 1) y0 y1 y2 y3))
 |0=>fun _ _ _ _ r h=>by simp [eG.j0] at h
 |k + 1=>by
  have ih0:=eG.mono_l k
  ·intro y0 y1 y2 y3
   unfold eG.j0
   exact mo_
theorem eG.mono:∀ a0 a1 a2 k,LeO (eG.f k a0 a1 a2) (eG.f (k + 1) a0 a1 a2):=by
 intro a0 a1 a2 k
 have ih0:=eG.mono_l k
 unfold eG.f
 exact mo_
theorem eG.calls (k:Nat) (a0:Int) (a1:Int) (a2:Int) (r1:Int) (r2:Bool) (w:World) (h:eG.f k a0 a1 a2=some (r1,r2)):
  Calls Try.prog 58 #[.int .i64 a0, .int .i64 a1, .int .i64 a2] w fun e w'=>e= .returned (.tuple #[.int .i64 r1, .bool r2])∧fV w w':=by
 unfold eG.f at h
 have H:=h
 clear h
 have jB:=am H
 clear H
 go_enter Try.func58,Try.ntmps58
 go_upto_region 1 with (fail)
 go_cut [20] (fun jM wc=>∃ (kq:Nat) (j3:Bool),jM= .bool j3∧Aside0 (eG.j0 kq a0 a1 a2 j3=some (r1,r2))∧Aside0 (kq≤k)∧fV w wc)
 case first=>
  have H:=jB.out
  clear jB
  obtain ⟨jN,A5,H⟩:=bsa H
  (try dsimp only at H)
  by_cases c6:jN=true
  ·subst c6
   rw [if_pos rfl] at H
   obtain ⟨jO,A7,H⟩:=bsa H
   (try dsimp only at H)
   by_cases c8:jO=true
   ·subst c8
    rw [if_pos rfl] at H
    obtain ⟨jC,A9,H⟩:=bsa H
    (try dsimp only at H)
    have H':=am H
    clear H
    go_wp2_with (first|((with_reducible refine aD (f:=70) rfl ?_);refine aU (some 9) rfl rfl Try.func70 (by kernel_rfl) rfl #[.int .i64 a0] rfl dK ?_;(with_reducible refine (gJ.calls a0 true _ A5.out).mono ?_);rintro e w' ⟨rfl,⟨nd,rfl⟩⟩;refine ⟨_,rfl,?_⟩)|(go_at_call 71;(with_reducible refine (iH.calls a1 true _ A7.out).mono ?_);rintro e w' ⟨rfl,⟨nd,rfl⟩⟩)|(go_at_call 71;(with_reducible refine (iH.calls a2 jC _ A9.out).mono ?_);rintro e w' ⟨rfl,⟨nd,rfl⟩⟩))
    go_meet
    case rel=>exact ⟨_,(!jC),sd_,H',⟨by first|omega|exact Nat.le_refl _⟩,fF⟩
   replace c8:=Bool.eq_false_iff.mpr c8
   subst c8
   rw [if_neg (show ¬ (false=true) by decide)] at H
   have H':=am H
   clear H
   go_wp2_with (first|((with_reducible refine aD (f:=70) rfl ?_);refine aU (some 9) rfl rfl Try.func70 (by kernel_rfl) rfl #[.int .i64 a0] rfl dK ?_;(with_reducible refine (gJ.calls a0 true _ A5.out).mono ?_);rintro e w' ⟨rfl,⟨nd,rfl⟩⟩;refine ⟨_,rfl,?_⟩)|(go_at_call 71;(with_reducible refine (iH.calls a1 false _ A7.out).mono ?_);rintro e w' ⟨rfl,⟨nd,rfl⟩⟩))
   go_meet
   case rel=>exact ⟨_,(true),sd_,H',⟨by first|omega|exact Nat.le_refl _⟩,fF⟩
  replace c6:=Bool.eq_false_iff.mpr c6
  subst c6
  rw [if_neg (show ¬ (false=true) by decide)] at H
  have H':=am H
  clear H
  go_wp2_with (first|((with_reducible refine aD (f:=70) rfl ?_);refine aU (some 9) rfl rfl Try.func70 (by kernel_rfl) rfl #[.int .i64 a0] rfl dK ?_;(with_reducible refine (gJ.calls a0 false _ A5.out).mono ?_);rintro e w' ⟨rfl,⟨nd,rfl⟩⟩;refine ⟨_,rfl,?_⟩))
  go_meet
  case rel=>exact ⟨_,(true),sd_,H',⟨by first|omega|exact Nat.le_refl _⟩,fF⟩
 case rest=>
  clear jB
  obtain ⟨kq,j3,rfl,HA,HJ3,⟨mc3,rfl⟩⟩:=hcut
  cases kq with
  |zero=>exact absurd HA.out (by simp [eG.j0])
  |succ q7=>
   have H:=HA.out
   clear HA
   simp only [eG.j0] at H
   by_cases c10:j3=true
   ·subst c10
    rw [if_pos rfl] at H
    simp only [Option.some.injEq,Prod.mk.injEq] at H
    obtain ⟨rfl,rfl⟩:=H
    go_wp2
    go_ret2
    exact ⟨sd_,fF⟩
   replace c10:=Bool.eq_false_iff.mpr c10
   subst c10
   rw [if_neg (show ¬ (false=true) by decide)] at H
   by_cases j4:a0=1
   ·rw [if_pos j4] at H
    have jf:(a0 == 1)=true:=beq_iff_eq.mpr j4
    have jg:(a0 != 1)=false:=bne_eq_false_iff_eq.mpr j4
    clear j4
    simp only [Option.some.injEq,Prod.mk.injEq] at H
    obtain ⟨rfl,rfl⟩:=H
    go_wp2
    go_ret2
    exact ⟨sd_,fF⟩
   rw [if_neg j4] at H
   have jf:(a0 == 1)=false:=beq_eq_false_iff_ne.mpr j4
   have jg:(a0 != 1)=true:=bne_iff_ne.mpr j4
   by_cases j5:a0=2
   ·rw [if_pos j5] at H
    have jh:(a0 == 2)=true:=beq_iff_eq.mpr j5
    have ji:(a0 != 2)=false:=bne_eq_false_iff_eq.mpr j5
    clear j5
    simp only [Option.some.injEq,Prod.mk.injEq] at H
    obtain ⟨rfl,rfl⟩:=H
    go_wp2
    go_ret2
    exact ⟨sd_,fF⟩
   rw [if_neg j5] at H
   have jh:(a0 == 2)=false:=beq_eq_false_iff_ne.mpr j5
   have ji:(a0 != 2)=true:=bne_iff_ne.mpr j5
   by_cases j6:a0=3
   ·rw [if_pos j6] at H
    have jj:(a0 == 3)=true:=beq_iff_eq.mpr j6
    have jk:(a0 != 3)=false:=bne_eq_false_iff_eq.mpr j6
    clear j6
    simp only [Option.some.injEq,Prod.mk.injEq] at H
    obtain ⟨rfl,rfl⟩:=H
    go_wp2
    go_ret2
    exact ⟨sd_,fF⟩
   rw [if_neg j6] at H
   have jj:(a0 == 3)=false:=beq_eq_false_iff_ne.mpr j6
   have jk:(a0 != 3)=true:=bne_iff_ne.mpr j6
   by_cases j7:a0=4
   ·rw [if_pos j7] at H
    have jl:(a0 == 4)=true:=beq_iff_eq.mpr j7
    have jm:(a0 != 4)=false:=bne_eq_false_iff_eq.mpr j7
    clear j7
    obtain ⟨jP,jD,H⟩:=bsm H
    (try dsimp only at H)
    have jQ:=am jD
    clear jD
    simp only [Option.some.injEq,Prod.mk.injEq] at H
    obtain ⟨rfl,rfl⟩:=H
    go_wp2_with (first|((with_reducible refine aD (f:=72) rfl ?_);refine aU (some 42) rfl rfl Try.func72 (by kernel_rfl) rfl #[.bool (a1 == a2)] rfl dK ?_;(with_reducible refine (kU.calls (a1 == a2) jP _ jQ.out).mono ?_);rintro e w' ⟨rfl,⟨nd,rfl⟩⟩;refine ⟨_,rfl,?_⟩))
    go_ret2
    exact ⟨sd_,fF⟩
   rw [if_neg j7] at H
   have jl:(a0 == 4)=false:=beq_eq_false_iff_ne.mpr j7
   have jm:(a0 != 4)=true:=bne_iff_ne.mpr j7
   by_cases j8:a0=5
   ·rw [if_pos j8] at H
    have jn:(a0 == 5)=true:=beq_iff_eq.mpr j8
    have jo:(a0 != 5)=false:=bne_eq_false_iff_eq.mpr j8
    clear j8
    obtain ⟨jR,jE,H⟩:=bsm H
    (try dsimp only at H)
    have jS:=am jE
    clear jE
    simp only [Option.some.injEq,Prod.mk.injEq] at H
    obtain ⟨rfl,rfl⟩:=H
    go_wp2_with (first|((with_reducible refine aD (f:=72) rfl ?_);refine aU (some 48) rfl rfl Try.func72 (by kernel_rfl) rfl #[.bool (decide (a1 < a2))] rfl dK ?_;(with_reducible refine (kU.calls (decide (a1 < a2)) jR _ jS.out).mono ?_);rintro e w' ⟨rfl,⟨nd,rfl⟩⟩;refine ⟨_,rfl,?_⟩))
    go_ret2
    exact ⟨sd_,fF⟩
   rw [if_neg j8] at H
   have jn:(a0 == 5)=false:=beq_eq_false_iff_ne.mpr j8
   have jo:(a0 != 5)=true:=bne_iff_ne.mpr j8
   by_cases j9:a0=6
   ·rw [if_pos j9] at H
    have jp:(a0 == 6)=true:=beq_iff_eq.mpr j9
    have jq:(a0 != 6)=false:=bne_eq_false_iff_eq.mpr j9
    clear j9
    obtain ⟨jT,jF,H⟩:=bsm H
    (try dsimp only at H)
    have jU:=am jF
    clear jF
    simp only [Option.some.injEq,Prod.mk.injEq] at H
    obtain ⟨rfl,rfl⟩:=H
    go_wp2_with (first|((with_reducible refine aD (f:=73) rfl ?_);refine aU (some 53) rfl rfl Try.func73 (by kernel_rfl) rfl #[.int .i64 a1, .int .i64 a2, .bool false] rfl dK ?_;(with_reducible refine (iV.calls a1 a2 false jT _ jU.out).mono ?_);rintro e w' ⟨rfl,⟨nd,rfl⟩⟩;refine ⟨_,rfl,?_⟩))
    go_ret2
    exact ⟨sd_,fF⟩
   rw [if_neg j9] at H
   have jp:(a0 == 6)=false:=beq_eq_false_iff_ne.mpr j9
   have jq:(a0 != 6)=true:=bne_iff_ne.mpr j9
   by_cases ja:a0=7
   ·rw [if_pos ja] at H
    have jr:(a0 == 7)=true:=beq_iff_eq.mpr ja
    have js:(a0 != 7)=false:=bne_eq_false_iff_eq.mpr ja
    clear ja
    obtain ⟨jV,jG,H⟩:=bsm H
    (try dsimp only at H)
    have jW:=am jG
    clear jG
    simp only [Option.some.injEq,Prod.mk.injEq] at H
    obtain ⟨rfl,rfl⟩:=H
    go_wp2_with (first|((with_reducible refine aD (f:=73) rfl ?_);refine aU (some 58) rfl rfl Try.func73 (by kernel_rfl) rfl #[.int .i64 a1, .int .i64 a2, .bool true] rfl dK ?_;(with_reducible refine (iV.calls a1 a2 true jV _ jW.out).mono ?_);rintro e w' ⟨rfl,⟨nd,rfl⟩⟩;refine ⟨_,rfl,?_⟩))
    go_ret2
    exact ⟨sd_,fF⟩
   rw [if_neg ja] at H
   have jr:(a0 == 7)=false:=beq_eq_false_iff_ne.mpr ja
   have js:(a0 != 7)=true:=bne_iff_ne.mpr ja
   by_cases jb:a0=8
   ·rw [if_pos jb] at H
    have jt:(a0 == 8)=true:=beq_iff_eq.mpr jb
    have ju:(a0 != 8)=false:=bne_eq_false_iff_eq.mpr jb
    clear jb
    obtain ⟨jX,jH,H⟩:=bsm H
    (try dsimp only at H)
    have jY:=am jH
    clear jH
    simp only [Option.some.injEq,Prod.mk.injEq] at H
    obtain ⟨rfl,rfl⟩:=H
    go_wp2_with (first|((with_reducible refine aD (f:=74) rfl ?_);refine aU (some 64) rfl rfl Try.func74 (by kernel_rfl) rfl #[.int .i64 (wrap64 (a1 + a2))] rfl dK ?_;(with_reducible refine (iA.calls (wrap64 (a1 + a2)) jX _ jY.out).mono ?_);rintro e w' ⟨rfl,⟨nd,rfl⟩⟩;refine ⟨_,rfl,?_⟩))
    go_ret2
    exact ⟨sd_,fF⟩
   rw [if_neg jb] at H
   have jt:(a0 == 8)=false:=beq_eq_false_iff_ne.mpr jb
   have ju:(a0 != 8)=true:=bne_iff_ne.mpr jb
   by_cases jc:a0=9
   ·rw [if_pos jc] at H
    have jv:(a0 == 9)=true:=beq_iff_eq.mpr jc
    have jw:(a0 != 9)=false:=bne_eq_false_iff_eq.mpr jc
    clear jc
    obtain ⟨jZ,jI,H⟩:=bsm H
    (try dsimp only at H)
    have q0:=am jI
    clear jI
    simp only [Option.some.injEq,Prod.mk.injEq] at H
    obtain ⟨rfl,rfl⟩:=H
    go_wp2_with (first|((with_reducible refine aD (f:=74) rfl ?_);refine aU (some 70) rfl rfl Try.func74 (by kernel_rfl) rfl #[.int .i64 (wrap64 (a1 - a2))] rfl dK ?_;(with_reducible refine (iA.calls (wrap64 (a1 - a2)) jZ _ q0.out).mono ?_);rintro e w' ⟨rfl,⟨nd,rfl⟩⟩;refine ⟨_,rfl,?_⟩))
    go_ret2
    exact ⟨sd_,fF⟩
   rw [if_neg jc] at H
   have jv:(a0 == 9)=false:=beq_eq_false_iff_ne.mpr jc
   have jw:(a0 != 9)=true:=bne_iff_ne.mpr jc
   by_cases jd:a0=10
   ·rw [if_pos jd] at H
    have jx:(a0 == 10)=true:=beq_iff_eq.mpr jd
    have jy:(a0 != 10)=false:=bne_eq_false_iff_eq.mpr jd
    clear jd
    obtain ⟨q1,jJ,H⟩:=bsm H
    (try dsimp only at H)
    have q2:=am jJ
    clear jJ
    simp only [Option.some.injEq,Prod.mk.injEq] at H
    obtain ⟨rfl,rfl⟩:=H
    go_wp2_with (first|((with_reducible refine aD (f:=74) rfl ?_);refine aU (some 76) rfl rfl Try.func74 (by kernel_rfl) rfl #[.int .i64 (wrap64 (a1 * a2))] rfl dK ?_;(with_reducible refine (iA.calls (wrap64 (a1 * a2)) q1 _ q2.out).mono ?_);rintro e w' ⟨rfl,⟨nd,rfl⟩⟩;refine ⟨_,rfl,?_⟩))
    go_ret2
    exact ⟨sd_,fF⟩
   rw [if_neg jd] at H
   have jx:(a0 == 10)=false:=beq_eq_false_iff_ne.mpr jd
   have jy:(a0 != 10)=true:=bne_iff_ne.mpr jd
   by_cases je:a0=11
   ·rw [if_pos je] at H
    have jz:(a0 == 11)=true:=beq_iff_eq.mpr je
    have jA:(a0 != 11)=false:=bne_eq_false_iff_eq.mpr je
    clear je
    obtain ⟨q3,jK,H⟩:=bsm H
    (try dsimp only at H)
    have q4:=am jK
    clear jK
    simp only [Option.some.injEq,Prod.mk.injEq] at H
    obtain ⟨rfl,rfl⟩:=H
    go_wp2_with (first|((with_reducible refine aD (f:=75) rfl ?_);refine aU (some 81) rfl rfl Try.func75 (by kernel_rfl) rfl #[.int .i64 a1, .int .i64 a2] rfl dK ?_;(with_reducible refine (lU.calls a1 a2 q3 _ q4.out).mono ?_);rintro e w' ⟨rfl,⟨nd,rfl⟩⟩;refine ⟨_,rfl,?_⟩))
    go_ret2
    exact ⟨sd_,fF⟩
   rw [if_neg je] at H
   have jz:(a0 == 11)=false:=beq_eq_false_iff_ne.mpr je
   have jA:(a0 != 11)=true:=bne_iff_ne.mpr je
   obtain ⟨q5,jL,H⟩:=bsm H
   (try dsimp only at H)
   have q6:=am jL
   clear jL
   simp only [Option.some.injEq,Prod.mk.injEq] at H
   obtain ⟨rfl,rfl⟩:=H
   go_wp2_with (first|((with_reducible refine aD (f:=76) rfl ?_);refine aU (some 84) rfl rfl Try.func76 (by kernel_rfl) rfl #[.int .i64 a1, .int .i64 a2] rfl dK ?_;(with_reducible refine (lV.calls a1 a2 q5 _ q6.out).mono ?_);rintro e w' ⟨rfl,⟨nd,rfl⟩⟩;refine ⟨_,rfl,?_⟩))
   go_ret2
   exact ⟨sd_,fF⟩
theorem mD.calls (a0:Int) (j9:Int) (ja:Int) (P1_2_:Nat→Prop) (je:Option Addr) (jf:Nat) (j6:List (S28)) (jb:Int) (jc:Int) (P2_2_:Nat→Prop) (jg:Option Addr) (jh:Nat) (j7:List (S28)) (r1:Int) (r2:Int) (r3:List (S28)) (w:World) (hs1_2:Kd.V k28 28 w w.heap.size (fun k_=>P1_2_ k_) (.slice je j6.length jf) j6) (hs2_2:Kd.V k28 28 w w.heap.size (fun k_=>P2_2_ k_) (.slice jg j7.length jh) j7) (h:mD.f a0 j9 ja j6 jb jc j7=some (r1,r2,r3)):
  Calls Try.prog 60 #[.int .i64 a0, .agg #[.int .i64 j9, .int .i64 ja, .slice je j6.length jf], .agg #[.int .i64 jb, .int .i64 jc, .slice jg j7.length jh]] w fun e w'=>∃ v2_:Value,e= .returned (.agg #[.int .i64 r1, .int .i64 r2,v2_])∧Kd.N k28 28 w' w.heap.size (fun k_=>((P1_2_ k_∨P2_2_ k_)∨w.heap.size≤k_)) v2_ r3∧Below w.heap.size w w':=by
 have hu28:=Try.underlying28
 have HO1_2:=am (show Kd.V k28 28 w w.heap.size (fun k_=>((P1_2_ k_∨P2_2_ k_)∨w.heap.size≤k_)) (.slice je j6.length jf) j6 from Kd.xE hs1_2 (fun k_ hk=> .inl (.inl hk)))
 have HO2_2:=am (show Kd.V k28 28 w w.heap.size (fun k_=>((P1_2_ k_∨P2_2_ k_)∨w.heap.size≤k_)) (.slice jg j7.length jh) j7 from Kd.xE hs2_2 (fun k_ hk=> .inl (.inr hk)))
 have HB:=am (Below.refl w.heap.size w)
 have H:(some (a0,0,(([(⟨j9,ja,j6⟩:S28),(⟨jb,jc,j7⟩:S28)]:List (S28)))))=some (r1,r2,r3):=h
 clear h
 obtain ⟨jF,hy_⟩:∃ y_:List (S28),y_=(([(⟨j9,ja,j6⟩:S28),(⟨jb,jc,j7⟩:S28)]:List (S28))):=⟨_,rfl⟩
 replace H:(some (a0,0,jF))=some (r1,r2,r3):=rx_
 have jp:=am hy_
 clear hy_
 simp only [Option.some.injEq,Prod.mk.injEq] at H
 obtain ⟨rfl,rfl,rfl⟩:=H
 go_enter Try.func60,Try.ntmps60
 go_wp2_with (first|((with_reducible refine bJ (N:=4) rfl ?_);refine bR rfl (N:=4) rfl (cs:=#[.int .i64 j9, .int .i64 ja, .slice je j6.length jf]) (t:=28) rn_ ?_;intro j4 hg w4 hbox hb;replace HO1_2:=am (Kd.uH (Kd.rE (by (with_reducible repeat (first|apply Kd.pJ|apply Kd.pK|apply Kd.tK));exact HO1_2.out) j4 (Nat.le_of_eq hg.symm)) hb);replace HO2_2:=am (Kd.uH (Kd.rE (by (with_reducible repeat (first|apply Kd.pJ|apply Kd.pK|apply Kd.tK));exact HO2_2.out) j4 (Nat.le_of_eq hg.symm)) hb);have j8:=am (hbox);have jP:=am ((by rw [hg];exact (aN dN):w.heap.size≤j4));have GE21:=am ((by rw [hg];exact (aN dN):w.heap.size≤j4));replace HB:=am (aC dN hb);clear hb hbox hg)|((with_reducible refine bJ (N:=5) rfl ?_);refine bR rfl (N:=5) rfl (cs:=#[.int .i64 jb, .int .i64 jc, .slice jg j7.length jh]) (t:=28) rn_ ?_;intro j5 hg w5 hbox hb;replace HO1_2:=am (Kd.uH (Kd.rE (by (with_reducible repeat (first|apply Kd.pJ|apply Kd.pK|apply Kd.tK));exact HO1_2.out) j5 (Nat.le_of_eq hg.symm)) hb);replace HO2_2:=am (Kd.uH (Kd.rE (by (with_reducible repeat (first|apply Kd.pJ|apply Kd.pK|apply Kd.tK));exact HO2_2.out) j5 (Nat.le_of_eq hg.symm)) hb);have jd:=am (hbox);have jQ:=am ((by rw [hg];exact (aN nX):w.heap.size≤j5));have GE22:=am ((by rw [hg];exact (aN nX):w.heap.size≤j5));replace HB:=am (aC nX hb);have jj:=am ((by rw [hg];exact Nat.ne_of_lt (oD j8.out):j4≠j5));have jk:=am ((by rw [hg];exact Nat.ne_of_gt (oD j8.out):j5≠j4));replace j8:=bbP j8 hb;clear hb hbox hg)|((with_reducible refine bJ (N:=6) rfl ?_);refine bR rfl (N:=6) rfl (cs:=#[.int .i64 0, .int .i64 0, .slice none 0 0]) (t:=28) rn_ ?_;intro j3 hg w6 hbox hb;replace HO1_2:=am (Kd.uH (Kd.rE (by (with_reducible repeat (first|apply Kd.pJ|apply Kd.pK|apply Kd.tK));exact HO1_2.out) j3 (Nat.le_of_eq hg.symm)) hb);replace HO2_2:=am (Kd.uH (Kd.rE (by (with_reducible repeat (first|apply Kd.pJ|apply Kd.pK|apply Kd.tK));exact HO2_2.out) j3 (Nat.le_of_eq hg.symm)) hb);have ji:=am (hbox);have jR:=am ((by rw [hg];exact (aN wL):w.heap.size≤j3));have GE23:=am ((by rw [hg];exact (aN wL):w.heap.size≤j3));replace HB:=am (aC wL hb);have jl:=am ((by rw [hg];exact Nat.ne_of_lt (oD j8.out):j4≠j3));have jm:=am ((by rw [hg];exact Nat.ne_of_gt (oD j8.out):j3≠j4));replace j8:=bbP j8 hb;have jn:=am ((by rw [hg];exact Nat.ne_of_lt (oD jd.out):j5≠j3));have jo:=am ((by rw [hg];exact Nat.ne_of_gt (oD jd.out):j3≠j5));replace jd:=bbP jd hb;clear hb hbox hg;have jS:=jj.out;have jT:=jk.out;have jU:=jl.out;have jV:=jm.out;obtain ⟨jG,jH,jI,jJ,jK,jL⟩:=gW j8.out;have jN:=jn.out;have jO:=jo.out;obtain ⟨jt,ju,jv,jw,jx,jy⟩:=gW jd.out)|((with_reducible refine bJ (N:=10) rfl ?_);refine Kd.GZ k28 _ 28 rfl (N':=10) rfl (xs:=([(⟨j9,ja,j6⟩:S28),(⟨jb,jc,j7⟩:S28)]:List (S28))) (inner:=[.int .i64 j9, .int .i64 ja, .slice je j6.length jf, .int .i64 jb, .int .i64 jc, .slice jg j7.length jh]) (ok:=(fun k_=>((P1_2_ k_∨P2_2_ k_)∨w.heap.size≤k_)∧k_≠j4∧k_≠j5∧k_≠j3)) (okp:=(fun k_=>((P1_2_ k_∨P2_2_ k_)∨w.heap.size≤k_)∧k_≠j4∧k_≠j5∧k_≠j3)) rn_ ?hp (fun _ hk=>hk) ((show ∀ k_,w6.heap.size≤k_→(fun k_=>((P1_2_ k_∨P2_2_ k_)∨w.heap.size≤k_)∧k_≠j4∧k_≠j5∧k_≠j3) k_ from fun k_ hk=>⟨(.inr (Nat.le_trans (aN NU) hk)),tL j8.out k_ hk,tL jd.out k_ hk,tL ji.out k_ hk⟩) _ (Nat.le_refl _)) (Below.refl _ _) (Nat.le_refl _) (by simp) ?_;(case hp=>exact (fZ.c3 (show Kd.FK k28 _ _ (⟨j9,ja,j6⟩:S28) [.int .i64 j9, .int .i64 ja, .slice je j6.length jf] from (OC _ _ (⟨j9,ja,j6⟩:S28) (Kd.IG (Kd.xE (ok':=(fun k_=>((P1_2_ k_∨P2_2_ k_)∨w.heap.size≤k_)∧k_≠j4∧k_≠j5∧k_≠j3)) (HO1_2.out) (fun k_ hk=>⟨hk.1.1.1,⟨hk.1.1.2,⟨hk.1.2,hk.2⟩⟩⟩))).2.1 (Kd.V_F (Kd.xE (ok':=(fun k_=>((P1_2_ k_∨P2_2_ k_)∨w.heap.size≤k_)∧k_≠j4∧k_≠j5∧k_≠j3)) (HO1_2.out) (fun k_ hk=>⟨hk.1.1.1,⟨hk.1.1.2,⟨hk.1.2,hk.2⟩⟩⟩))))) (fZ.c3 (show Kd.FK k28 _ _ (⟨jb,jc,j7⟩:S28) [.int .i64 jb, .int .i64 jc, .slice jg j7.length jh] from (OC _ _ (⟨jb,jc,j7⟩:S28) (Kd.IG (Kd.xE (ok':=(fun k_=>((P1_2_ k_∨P2_2_ k_)∨w.heap.size≤k_)∧k_≠j4∧k_≠j5∧k_≠j3)) (HO2_2.out) (fun k_ hk=>⟨hk.1.1.1,⟨hk.1.1.2,⟨hk.1.2,hk.2⟩⟩⟩))).2.1 (Kd.V_F (Kd.xE (ok':=(fun k_=>((P1_2_ k_∨P2_2_ k_)∨w.heap.size≤k_)∧k_≠j4∧k_≠j5∧k_≠j3)) (HO2_2.out) (fun k_ hk=>⟨hk.1.1.1,⟨hk.1.1.2,⟨hk.1.2,hk.2⟩⟩⟩))))) (fZ.none _ _))));intro jW jX ho13 hb hg_ hnew_;clear hg_ hnew_;(first|rw [← jp.out] at ho13|(simp only [Int.reduceToNat] at ho13;rw [← jp.out] at ho13));replace HO1_2:=am (Kd.IC (by (with_reducible repeat (first|apply Kd.pJ|apply Kd.pK|apply Kd.tK));exact HO1_2.out) (Kd.kL ho13) hb);replace HO2_2:=am (Kd.IC (by (with_reducible repeat (first|apply Kd.pJ|apply Kd.pK|apply Kd.tK));exact HO2_2.out) (Kd.kL ho13) hb);have jq:=am (Kd.kK ho13 (aN NU));replace j8:=bbP j8 hb;replace jd:=bbP jd hb;replace ji:=bbP ji hb;replace HB:=am (aC NU hb);clear hb ho13;obtain ⟨jr,js,jM⟩:=Kd.iB jq.out;subst jM;obtain ⟨jz,jA,jB,jC,jD,jE⟩:=gW ji.out))
 refine bodyPost_ret (results_cell_row rfl _ _ j3 28 #[.int .i64 a0, .int .i64 0, .slice jr jF.length js] (0,0) _ rfl (aT (aT (aT ji.out 0 _ rfl) 1 _ rfl) 2 _ rfl) Try.underlying28 rfl (by kernel_rfl)) rfl ?_
 exact ⟨_,sJ,sQ (Kd.eX (Kd.gH (p:=⟨j3,2,none⟩) (Kd.gH (p:=⟨j3,1,none⟩) (Kd.gH (p:=⟨j3,0,none⟩) (Kd.eX jq.out (fun k_ hk=>(⟨hk,hk.2.2.2⟩:_∧k_≠j3))) (fun _ hk=>hk.2) (.int .i64 a0)) (fun _ hk=>hk.2) (.int .i64 0)) (fun _ hk=>hk.2) (.slice jr jF.length js)) (fun _ hk=>hk.1.1)),NU⟩
theorem dA.mono_l:∀ k,(∀ y0 y1 y2,LeO (dA.f k y0 y1 y2) (dA.f (k + 1) y0 y1 y2))∧(∀ y0 y1 y2 y3 y4 y5 y6 y7 y8 y9,LeO (dA.j0 k y0 y1 y2 y3 y4 y5 y6 y7 y8 y9) (dA.j0 (k + 1) y0 y1 y2 y3 y4 y5 y6 y7 y8 y9))
 |0=>⟨fun _ _ _ r h=>by simp [dA.f] at h,fun _ _ _ _ _ _ _ _ _ _ r h=>by simp [dA.j0] at h⟩
 |k + 1=>by
  obtain ⟨ih0,ih1⟩:=dA.mono_l k
  refine ⟨?_,?_⟩
  ·intro y0 y1 y2
   unfold dA.f
   have m0:=@eG.mono
   exact mo_
  ·intro y0 y1 y2 y3 y4 y5 y6 y7 y8 y9
   unfold dA.j0
   have m0:=@eG.mono
   exact mo_
theorem dA.mono:∀ a0 a1 a2 k,LeO (dA.f k a0 a1 a2) (dA.f (k + 1) a0 a1 a2):=by
 intro a0 a1 a2 k
 obtain ⟨ih0,ih1⟩:=dA.mono_l k
 exact ih0 a0 a1 a2
theorem dA.calls (k:Nat):∀ (jc:Int) (jg:Int) (jK:Option Addr) (jj:Nat) (j8:List (S28)) (r1:Int) (r2:Int) (r3:List (S28)) (w:World) (hr0_2:Kd.C k28 w jK j8.length j8) (hc0_2:j8.length≤jj) (h:dA.f k jc jg j8=some (r1,r2,r3)),
  Calls Try.prog 29 #[.agg #[.int .i64 jc, .int .i64 jg, .slice jK j8.length jj]] w fun e w'=>∃ v2_:Value,e= .returned (.agg #[.int .i64 r1, .int .i64 r2,v2_])∧Kd.N k28 28 w' w.heap.size (fun k_=>(w.heap.size≤k_)) v2_ r3∧Below w.heap.size w w':=by
 induction k using Nat.strongRecOn with
 | _ k ih=>
 intro jc jg jK jj j8 r1 r2 r3 w hr0_2 hc0_2 h
 cases k with
 |zero=>exact absurd h (by simp [dA.f])
 |succ k=>
 simp only [dA.f] at h
 have hu28:=Try.underlying28
 have qq:=am hr0_2
 have ZD:=am hc0_2
 clear hr0_2 hc0_2
 have HB:=am (Below.refl w.heap.size w)
 have H:=h
 clear h
 by_cases c2:(j8.length:Int)=0
 ·rw [if_pos c2] at H
  have qJ:((j8.length:Int) == 0)=true:=beq_iff_eq.mpr c2
  have qK:((j8.length:Int) != 0)=false:=bne_eq_false_iff_eq.mpr c2
  clear c2
  obtain ⟨⟨Zc,Zd,Ze⟩,A3,H⟩:=bsa H
  (try dsimp only at H)
  simp only [Option.some.injEq,Prod.mk.injEq] at H
  obtain ⟨rfl,rfl,rfl⟩:=H
  go_enter Try.func29,Try.ntmps29
  go_wp2_with (first|((with_reducible refine bJ (N:=1) rfl ?_);refine bR rfl (N:=1) rfl (cs:=#[.int .i64 jc, .int .i64 jg, .slice jK j8.length jj]) (t:=28) rn_ ?_;intro j9 hg w4 hbox hb;have j7:=am (hbox);have Zf:=am ((by rw [hg];exact (aN dN):w.heap.size≤j9));have GE94:=am ((by rw [hg];exact (aN dN):w.heap.size≤j9));replace HB:=am (aC dN hb);clear hb hbox hg)|((with_reducible refine bJ (N:=2) rfl ?_);refine bR rfl (N:=2) rfl (cs:=#[.int .i64 0, .int .i64 0, .slice none 0 0]) (t:=28) rn_ ?_;intro j5 hg w5 hbox hb;have jb:=am (hbox);have Zg:=am ((by rw [hg];exact (aN DW):w.heap.size≤j5));have GE95:=am ((by rw [hg];exact (aN DW):w.heap.size≤j5));replace HB:=am (aC DW hb);have jF:=am ((by rw [hg];exact Nat.ne_of_lt (dM (g:=j9) (o:= .cells #[.int .i64 jc, .int .i64 jg, .slice jK j8.length jj] 28 (0,0)) (aG_ j7.out)):j9≠j5));have jG:=am ((by rw [hg];exact Nat.ne_of_gt (dM (g:=j9) (o:= .cells #[.int .i64 jc, .int .i64 jg, .slice jK j8.length jj] 28 (0,0)) (aG_ j7.out)):j5≠j9));replace j7:=am (aJ (g:=j9) (o:= .cells #[.int .i64 jc, .int .i64 jg, .slice jK j8.length jj] 28 (0,0)) (aG_ j7.out) hb);clear hb hbox hg;have YL:=jF.out;have YM:=jG.out;obtain ⟨Zh,Zi,Zj,Zk,Zl,Zm⟩:=gW j7.out)|((with_reducible refine aD (f:=57) rfl ?_);refine aU (some 15) rfl rfl Try.func57 (by kernel_rfl) rfl #[.int .i64 jc, .int .i64 jg] rfl dK ?_;(with_reducible refine (mE.calls jc jg Zc Zd Ze _ A3.out).mono ?_);rintro e w8 ⟨YY,rfl,ho0,hb⟩;refine ⟨_,rfl,?_⟩;have qL:=am (Kd.kK (Kd.eX (ok':=fun k_=>(w.heap.size≤k_)∧k_≠j9∧k_≠j5) (Kd.R_N (Kd.kE ho0)) (fun k_ hk_=>⟨(Nat.le_trans (aN vC) hk_.2.1),(Kd.kQ (g:=j9) (o:= .cells #[.int .i64 jc, .int .i64 jg, .slice jK j8.length jj] 28 (0,0)) (aG_ j7.out) k_ hk_.2.1),(Kd.kQ (g:=j5) (o:= .cells #[.int .i64 0, .int .i64 0, .slice none 0 0] 28 (0,0)) (aG_ jb.out) k_ hk_.2.1)⟩)) (aN vC));replace j7:=am (aJ (g:=j9) (o:= .cells #[.int .i64 jc, .int .i64 jg, .slice jK j8.length jj] 28 (0,0)) (aG_ j7.out) hb);replace jb:=am (aJ (g:=j5) (o:= .cells #[.int .i64 0, .int .i64 0, .slice none 0 0] 28 (0,0)) (aG_ jb.out) hb);replace HB:=am (aC vC hb);(try clear hb);(try clear ho0);obtain ⟨Zn,Zo,Zp,Zq,Zr,Zs⟩:=gW jb.out;obtain ⟨qM,qN,Zt⟩:=Kd.iB qL.out;subst Zt))
  refine bodyPost_ret (results_cell_row rfl _ _ j5 28 #[.int .i64 Zc, .int .i64 Zd, .slice qM Ze.length qN] (0,0) _ rfl (aT (aT (aT jb.out 0 _ rfl) 1 _ rfl) 2 _ rfl) Try.underlying28 rfl (by kernel_rfl)) rfl ?_
  exact ⟨_,sJ,sQ (Kd.eX (Kd.gH (p:=⟨j5,2,none⟩) (Kd.gH (p:=⟨j5,1,none⟩) (Kd.gH (p:=⟨j5,0,none⟩) (Kd.eX qL.out (fun k_ hk=>(⟨hk,hk.2.2⟩:_∧k_≠j5))) (fun _ hk=>hk.2) (.int .i64 Zc)) (fun _ hk=>hk.2) (.int .i64 Zd)) (fun _ hk=>hk.2) (.slice qM Ze.length qN)) (fun _ hk=>hk.1.1)),vC⟩
 rw [if_neg c2] at H
 have qJ:((j8.length:Int) == 0)=false:=beq_eq_false_iff_ne.mpr c2
 have qK:((j8.length:Int) != 0)=true:=bne_iff_ne.mpr c2
 have Zu:¬ (j8=[]):=fun h_=>c2 (by rw [h_];rfl)
 by_cases qO:0 < (j8.length:Int)
 ·rw [if_pos qO] at H
  have qP:decide (0 < (j8.length:Int))=true:=decide_eq_true qO
  have qQ:decide (0 < j8.length)=true:=decide_eq_true (by omega)
  clear qO
  obtain ⟨⟨jJ,jH,jw⟩,YN,H⟩:=bsa H
  (try dsimp only at H)
  by_cases qR:1 < (j8.length:Int)
  ·rw [if_pos qR] at H
   have qS:decide (1 < (j8.length:Int))=true:=decide_eq_true qR
   have qT:decide (1 < j8.length)=true:=decide_eq_true (by omega)
   clear qR
   obtain ⟨⟨jM,jt,jf⟩,qU,H⟩:=bsm H
   (try dsimp only at H)
   have YO:=am qU
   clear qU
   have qu:=am H
   clear H
   go_enter Try.func29,Try.ntmps29
   go_upto_region 5 with (first|((with_reducible refine bJ (N:=1) rfl ?_);refine bR rfl (N:=1) rfl (cs:=#[.int .i64 jc, .int .i64 jg, .slice jK j8.length jj]) (t:=28) rn_ ?_;intro j9 hg YZ hbox hb;have j7:=am (hbox);have Zf:=am ((by rw [hg];exact (aN dN):w.heap.size≤j9));have GE94:=am ((by rw [hg];exact (aN dN):w.heap.size≤j9));replace HB:=am (aC dN hb);clear hb hbox hg)|((with_reducible refine bJ (N:=2) rfl ?_);refine bR rfl (N:=2) rfl (cs:=#[.int .i64 0, .int .i64 0, .slice none 0 0]) (t:=28) rn_ ?_;intro j5 hg U0 hbox hb;have jb:=am (hbox);have Zg:=am ((by rw [hg];exact (aN DW):w.heap.size≤j5));have GE95:=am ((by rw [hg];exact (aN DW):w.heap.size≤j5));replace HB:=am (aC DW hb);have jF:=am ((by rw [hg];exact Nat.ne_of_lt (dM (g:=j9) (o:= .cells #[.int .i64 jc, .int .i64 jg, .slice jK j8.length jj] 28 (0,0)) (aG_ j7.out)):j9≠j5));have jG:=am ((by rw [hg];exact Nat.ne_of_gt (dM (g:=j9) (o:= .cells #[.int .i64 jc, .int .i64 jg, .slice jK j8.length jj] 28 (0,0)) (aG_ j7.out)):j5≠j9));replace j7:=am (aJ (g:=j9) (o:= .cells #[.int .i64 jc, .int .i64 jg, .slice jK j8.length jj] 28 (0,0)) (aG_ j7.out) hb);clear hb hbox hg;have ZE:=jF.out;have ZF:=jG.out;obtain ⟨jS,jT,jU,jV,jW,jX⟩:=gW j7.out;have jY:0≤(0:Int):=(by omega);have jZ:0 < (j8.length:Int):=of_decide_eq_true bT;obtain ⟨je,qv,qw,Zv,jA,jB,jC,hl104_2,hi104_2⟩:=kC qq.out 0 jY jZ;cases Zv;have ZG:(0 < j8.length)=True:=eq_true (by omega);(try rw [show ((0:Int)).toNat=0 from rfl] at jA);(try rw [show 0 * 3=0 from rfl] at jA);(try rw [Addr.add_zero'] at jA);(try rw [show ((0:Int)).toNat=0 from rfl] at jB);(try rw [show 0 * 3=0 from rfl] at jB);(try rw [Addr.add_zero'] at jB);(try rw [show ((0:Int)).toNat=0 from rfl] at jC);(try rw [show 0 * 3=0 from rfl] at jC);(try rw [Addr.add_zero'] at jC);replace jA:=(HB.out.cell (World.block_lt_of_cell? w _ jA)).trans jA;replace jB:=(HB.out.cell (World.block_lt_of_cell? w _ jB)).trans jB;replace jC:=(HB.out.cell (World.block_lt_of_cell? w _ jC)).trans jC;have q0:=am hi104_2;have q1:=am hl104_2;clear hi104_2 hl104_2;replace jY:=eq_true jY;replace jZ:=eq_true jZ)|((with_reducible refine aD (f:=29) rfl ?_);refine aU (some 20) rfl rfl Try.func29 (by kernel_rfl) rfl #[.agg #[.int .i64 ((bH j8 0).f0), .int .i64 ((bH j8 0).f1), .slice qv ((bH j8 0).f2).length qw]] rfl dK ?_;(with_reducible refine (ih k (by omega) ((bH j8 0).f0) ((bH j8 0).f1) _ _ ((bH j8 0).f2) jJ jH jw _ (aC_ (Kd.aI q0.out HB.out)) q1.out YN.out).mono ?_);rintro e U1 ⟨YP,rfl,ho0,hb⟩;refine ⟨_,rfl,?_⟩;have jI:=am (Kd.kK (Kd.eX (ok':=fun k_=>(w.heap.size≤k_)∧k_≠j9∧k_≠j5) ho0 (fun k_ hk_=>⟨(Nat.le_trans (aN vC) hk_),(Kd.kQ (g:=j9) (o:= .cells #[.int .i64 jc, .int .i64 jg, .slice (some je) j8.length jj] 28 (0,0)) (aG_ j7.out) k_ hk_),(Kd.kQ (g:=j5) (o:= .cells #[.int .i64 0, .int .i64 0, .slice none 0 0] 28 (0,0)) (aG_ jb.out) k_ hk_)⟩)) (aN vC));replace j7:=am (aJ (g:=j9) (o:= .cells #[.int .i64 jc, .int .i64 jg, .slice (some je) j8.length jj] 28 (0,0)) (aG_ j7.out) hb);replace jb:=am (aJ (g:=j5) (o:= .cells #[.int .i64 0, .int .i64 0, .slice none 0 0] 28 (0,0)) (aG_ jb.out) hb);replace HB:=am (aC vC hb);(try clear hb);(try clear ho0))|((with_reducible refine bJ (N:=3) rfl ?_);refine bR rfl (N:=3) rfl (cs:=#[.int .i64 0, .int .i64 0, .slice none 0 0]) (t:=28) rn_ ?_;intro j3 hg U2 hbox hb;replace jI:=am (Kd.gU (Kd.wH (aN_ jI.out) j3 (Nat.le_of_eq hg.symm)) hb);have j6:=am (hbox);have jR:=am ((by rw [hg];exact (aN vC):w.heap.size≤j3));have GE107:=am ((by rw [hg];exact (aN vC):w.heap.size≤j3));replace HB:=am (aC vC hb);have jk:=am ((by rw [hg];exact Nat.ne_of_lt (dM (g:=j9) (o:= .cells #[.int .i64 jc, .int .i64 jg, .slice (some je) j8.length jj] 28 (0,0)) (aG_ j7.out)):j9≠j3));have jy:=am ((by rw [hg];exact Nat.ne_of_gt (dM (g:=j9) (o:= .cells #[.int .i64 jc, .int .i64 jg, .slice (some je) j8.length jj] 28 (0,0)) (aG_ j7.out)):j3≠j9));replace j7:=am (aJ (g:=j9) (o:= .cells #[.int .i64 jc, .int .i64 jg, .slice (some je) j8.length jj] 28 (0,0)) (aG_ j7.out) hb);have jl:=am ((by rw [hg];exact Nat.ne_of_lt (dM (g:=j5) (o:= .cells #[.int .i64 0, .int .i64 0, .slice none 0 0] 28 (0,0)) (aG_ jb.out)):j5≠j3));have jz:=am ((by rw [hg];exact Nat.ne_of_gt (dM (g:=j5) (o:= .cells #[.int .i64 0, .int .i64 0, .slice none 0 0] 28 (0,0)) (aG_ jb.out)):j3≠j5));replace jb:=am (aJ (g:=j5) (o:= .cells #[.int .i64 0, .int .i64 0, .slice none 0 0] 28 (0,0)) (aG_ jb.out) hb);clear hb hbox hg;have ZH:=jy.out;have ZI:=jk.out;have ZJ:=jz.out;have ZK:=jl.out;obtain ⟨q2,q3,q4,q5,q6,q7⟩:=gW j6.out;obtain ⟨jh,ji,Zw⟩:=Kd.iB jI.out;subst Zw;obtain ⟨q8,q9,qa,qb,qc,qd⟩:=gW j7.out;have qe:0≤(1:Int):=(by omega);have qf:1 < (j8.length:Int):=of_decide_eq_true bT;obtain ⟨qV,qx,qy,Zx,js,ju,jv,hl108_2,hi108_2⟩:=kC qq.out 1 qe qf;obtain rfl:je=qV:=(by injection Zx);(try simp only [show (1:Int).toNat=1 from rfl,Nat.reduceMul,Nat.reduceEqDiff,Go.Addr.add,↓reduceIte] at js);(try simp only [show (1:Int).toNat=1 from rfl,Nat.reduceMul,Nat.reduceEqDiff,Go.Addr.add,↓reduceIte] at ju);(try simp only [show (1:Int).toNat=1 from rfl,Nat.reduceMul,Nat.reduceEqDiff,Go.Addr.add,↓reduceIte] at jv);have ZL:(1 < j8.length)=True:=eq_true (by omega);(try rw [show ((1:Int)).toNat=1 from rfl] at js);(try rw [show 1 * 3=3 from rfl] at js);(try rw [show ((1:Int)).toNat=1 from rfl] at ju);(try rw [show 1 * 3=3 from rfl] at ju);(try rw [show ((1:Int)).toNat=1 from rfl] at jv);(try rw [show 1 * 3=3 from rfl] at jv);have jL:je.block≠j3:=Nat.ne_of_lt (Nat.lt_of_lt_of_le (by have:=World.block_lt_of_cell? _ _ js;first|rwa [add_block] at this|exact this) jR.out);have qg:je.block≠j3:=Nat.ne_of_lt (Nat.lt_of_lt_of_le (by have:=World.block_lt_of_cell? _ _ js;first|rwa [add_block] at this|exact this) jR.out);have qh:je.block≠j3:=Nat.ne_of_lt (Nat.lt_of_lt_of_le (by have:=World.block_lt_of_cell? _ _ js;first|rwa [add_block] at this|exact this) jR.out);replace js:=(HB.out.cell (World.block_lt_of_cell? w _ js)).trans js;replace ju:=(HB.out.cell (World.block_lt_of_cell? w _ ju)).trans ju;replace jv:=(HB.out.cell (World.block_lt_of_cell? w _ jv)).trans jv;have qi:=am hi108_2;have qj:=am hl108_2;clear hi108_2 hl108_2;have FR_:=fun {W_:World} {a_:Addr} {x_:Value} (b_:a_.block≠j3) (h_:W_.cell? a_=some x_)=>((cell_far (p:=⟨j3,2,none⟩) b_ (.slice jh jw.length ji)).trans ((cell_far (p:=⟨j3,1,none⟩) b_ (.int .i64 jH)).trans ((cell_far (p:=⟨j3,0,none⟩) b_ (.int .i64 jJ)).trans h_)));replace js:=FR_ (nb_ jL) js;replace ju:=FR_ (nb_ jL) ju;replace jv:=FR_ (nb_ jL) jv;clear FR_;clear jL qg qh;replace qe:=eq_true qe;replace qf:=eq_true qf)|((with_reducible refine aD (f:=29) rfl ?_);refine aU (some 25) rfl rfl Try.func29 (by kernel_rfl) rfl #[.agg #[.int .i64 ((bH j8 1).f0), .int .i64 ((bH j8 1).f1), .slice qx ((bH j8 1).f2).length qy]] rfl dK ?_;(with_reducible refine (ih k (by omega) ((bH j8 1).f0) ((bH j8 1).f1) _ _ ((bH j8 1).f2) jM jt jf _ ?side1 qj.out YO.out).mono ?_);(case side1=>exact Kd.aI qi.out AZ);rintro e U3 ⟨YQ,rfl,ho0,hb⟩;refine ⟨_,rfl,?_⟩;have jO:=am (Kd.kK (Kd.eX (ok':=fun k_=>(w.heap.size≤k_)∧some k_≠(.slice jh jw.length ji:Value).ownBlock∧k_≠j9∧k_≠j5∧k_≠j3) ho0 (fun k_ hk_=>⟨(Nat.le_trans (aN AZ) hk_),(Kd.fresh' (Kd.LK (sQ ((Kd.eX (Kd.gH (p:=⟨j3,2,none⟩) (Kd.gH (p:=⟨j3,1,none⟩) (Kd.gH (p:=⟨j3,0,none⟩) (Kd.eX jI.out (fun k_ hk=>(⟨hk,hk.2⟩:_∧k_≠j3))) (fun _ hk=>hk.2) (.int .i64 jJ)) (fun _ hk=>hk.2) (.int .i64 jH)) (fun _ hk=>hk.2) (.slice jh jw.length ji)) (fun _ h_=>h_.1))))) k_ hk_),(Kd.kQ (g:=j9) (o:= .cells #[.int .i64 jc, .int .i64 jg, .slice (some je) j8.length jj] 28 (0,0)) (bQ (bQ (bQ j7.out jk.out _) jk.out _) jk.out _) k_ hk_),(Kd.kQ (g:=j5) (o:= .cells #[.int .i64 0, .int .i64 0, .slice none 0 0] 28 (0,0)) (bQ (bQ (bQ jb.out jl.out _) jl.out _) jl.out _) k_ hk_),(Kd.kQ (g:=j3) (o:= .cells #[.int .i64 jJ, .int .i64 jH, .slice jh jw.length ji] 28 (0,0)) (aT (aT (aT j6.out 0 _ rfl) 1 _ rfl) 2 _ rfl) k_ hk_)⟩)) (aN AZ));replace jI:=am (Kd.mH (sQ ((Kd.eX (Kd.gH (p:=⟨j3,2,none⟩) (Kd.gH (p:=⟨j3,1,none⟩) (Kd.gH (p:=⟨j3,0,none⟩) (Kd.eX jI.out (fun k_ hk=>(⟨hk,hk.2⟩:_∧k_≠j3))) (fun _ hk=>hk.2) (.int .i64 jJ)) (fun _ hk=>hk.2) (.int .i64 jH)) (fun _ hk=>hk.2) (.slice jh jw.length ji)) (fun _ h_=>h_.1)))) (by first|exact Kd.kL ho0|exact Kd.kL (Kd.R_N ho0)) hb);replace j7:=am (aJ (g:=j9) (o:= .cells #[.int .i64 jc, .int .i64 jg, .slice (some je) j8.length jj] 28 (0,0)) (bQ (bQ (bQ j7.out jk.out _) jk.out _) jk.out _) hb);replace jb:=am (aJ (g:=j5) (o:= .cells #[.int .i64 0, .int .i64 0, .slice none 0 0] 28 (0,0)) (bQ (bQ (bQ jb.out jl.out _) jl.out _) jl.out _) hb);replace j6:=am (aJ (g:=j3) (o:= .cells #[.int .i64 jJ, .int .i64 jH, .slice jh jw.length ji] 28 (0,0)) (aT (aT (aT j6.out 0 _ rfl) 1 _ rfl) 2 _ rfl) hb);replace HB:=am (aC AZ hb);(try clear hb);(try clear ho0))|((with_reducible refine bJ (N:=4) rfl ?_);refine bR rfl (N:=4) rfl (cs:=#[.int .i64 0, .int .i64 0, .slice none 0 0]) (t:=28) rn_ ?_;intro j4 hg U4 hbox hb;replace jI:=am (Kd.gU (Kd.wH (aN_ jI.out) j4 (Nat.le_of_eq hg.symm)) hb);replace jO:=am (Kd.gU (Kd.wH (aN_ jO.out) j4 (Nat.le_of_eq hg.symm)) hb);have ja:=am (hbox);have ZM:=am ((by rw [hg];exact (aN AZ):w.heap.size≤j4));have GE111:=am ((by rw [hg];exact (aN AZ):w.heap.size≤j4));replace HB:=am (aC AZ hb);have jm:=am ((by rw [hg];exact Nat.ne_of_lt (dM (g:=j9) (o:= .cells #[.int .i64 jc, .int .i64 jg, .slice (some je) j8.length jj] 28 (0,0)) (aG_ j7.out)):j9≠j4));have jD:=am ((by rw [hg];exact Nat.ne_of_gt (dM (g:=j9) (o:= .cells #[.int .i64 jc, .int .i64 jg, .slice (some je) j8.length jj] 28 (0,0)) (aG_ j7.out)):j4≠j9));replace j7:=am (aJ (g:=j9) (o:= .cells #[.int .i64 jc, .int .i64 jg, .slice (some je) j8.length jj] 28 (0,0)) (aG_ j7.out) hb);have jn:=am ((by rw [hg];exact Nat.ne_of_lt (dM (g:=j5) (o:= .cells #[.int .i64 0, .int .i64 0, .slice none 0 0] 28 (0,0)) (aG_ jb.out)):j5≠j4));have jE:=am ((by rw [hg];exact Nat.ne_of_gt (dM (g:=j5) (o:= .cells #[.int .i64 0, .int .i64 0, .slice none 0 0] 28 (0,0)) (aG_ jb.out)):j4≠j5));replace jb:=am (aJ (g:=j5) (o:= .cells #[.int .i64 0, .int .i64 0, .slice none 0 0] 28 (0,0)) (aG_ jb.out) hb);have jd:=am ((by rw [hg];exact Nat.ne_of_lt (dM (g:=j3) (o:= .cells #[.int .i64 jJ, .int .i64 jH, .slice jh jw.length ji] 28 (0,0)) (aG_ j6.out)):j3≠j4));have jx:=am ((by rw [hg];exact Nat.ne_of_gt (dM (g:=j3) (o:= .cells #[.int .i64 jJ, .int .i64 jH, .slice jh jw.length ji] 28 (0,0)) (aG_ j6.out)):j4≠j3));replace j6:=am (aJ (g:=j3) (o:= .cells #[.int .i64 jJ, .int .i64 jH, .slice jh jw.length ji] 28 (0,0)) (aG_ j6.out) hb);clear hb hbox hg;have ZN:=jD.out;have ZO:=jm.out;have ZP:=jE.out;have ZQ:=jn.out;have ZR:=jx.out;have ZS:=jd.out;obtain ⟨qk,ql,qm,qn,qo,qp⟩:=gW ja.out;obtain ⟨jq,jr,Zy⟩:=Kd.iB jO.out;subst Zy))
   (try simp only [Act.put,List.setIfInBounds_toArray,List.set_cons_zero,List.set_cons_succ])
   go_cut [33] (fun YR wc=>∃ (kq:Nat) (jN:Bool),YR= .bool jN∧Aside0 (dA.j0 kq jN jc jg j8 jJ jH jw jM jt jf=some (r1,r2,r3))∧Aside0 (kq≤k)∧Aside0 (Kd.N k28 28 wc w.heap.size (fun k_=>(w.heap.size≤k_)∧some k_≠((.slice jq jf.length jr):Value).ownBlock∧k_≠j9∧k_≠j5∧k_≠j3∧k_≠j4) (.slice jh jw.length ji) jw)∧Aside0 (Kd.N k28 28 wc w.heap.size (fun k_=>(w.heap.size≤k_)∧some k_≠((.slice jh jw.length ji):Value).ownBlock∧k_≠j9∧k_≠j5∧k_≠j3∧k_≠j4) (.slice jq jf.length jr) jf)∧Aside0 (wc.heap[j9]?=some (.cells #[.int .i64 jc, .int .i64 jg,(.slice (some je) j8.length jj)] 28 (0,0)))∧Aside0 (wc.heap[j5]?=some (.cells #[.int .i64 0, .int .i64 0,(.slice none 0 0)] 28 (0,0)))∧Aside0 (wc.heap[j3]?=some (.cells #[.int .i64 jJ, .int .i64 jH,(.slice jh jw.length ji)] 28 (0,0)))∧Aside0 (wc.heap[j4]?=some (.cells #[.int .i64 jM, .int .i64 jt,(.slice jq jf.length jr)] 28 (0,0)))∧Aside0 (Below w.heap.size w wc))
   case first=>
    have H:=qu.out
    clear qu
    by_cases qz:jJ=0
    ·rw [if_pos qz] at H
     have jP:(jJ == 0)=true:=beq_iff_eq.mpr qz
     have qW:(jJ != 0)=false:=bne_eq_false_iff_eq.mpr qz
     clear qz
     (first|rw [jP]|(simp only [gT,gZ];rw [jP])|skip)
     have H':=am H
     clear H
     have ZT:=jy.out
     have ZU:=jk.out
     have ZV:=jz.out
     have ZW:=jl.out
     have ZX:=jd.out
     have ZY:=jx.out
     obtain ⟨zQ,zR,zS,zT,zU,zV⟩:=gW j6.out
     have ZZ:=jD.out
     have Y0:=jm.out
     have Y1:=jE.out
     have Y2:=jn.out
     obtain ⟨zW,zX,zY,zZ,J0,J1⟩:=gW ja.out
     go_wp2
     go_meet
     case rel=>exact ⟨_,((jM == 0)),sd_,H',⟨by first|omega|exact Nat.le_refl _⟩,⟨sQ (Kd.eX (Kd.gH (p:=⟨j4,2,none⟩) (Kd.gH (p:=⟨j4,1,none⟩) (Kd.gH (p:=⟨j4,0,none⟩) (Kd.eX jI.out (fun k_ hk=>(⟨hk,hk.2⟩:_∧k_≠j4))) (fun _ hk=>hk.2) (.int .i64 jM)) (fun _ hk=>hk.2) (.int .i64 jt)) (fun _ hk=>hk.2) (.slice jq jf.length jr)) (fun _ hk=>⟨hk.1.1.1.1.1,⟨hk.1.1.2,⟨hk.1.1.1.1.2.1,⟨hk.1.1.1.1.2.2,⟨hk.1.1.1.2,hk.1.2⟩⟩⟩⟩⟩))⟩,⟨sQ (Kd.eX (Kd.gH (p:=⟨j4,2,none⟩) (Kd.gH (p:=⟨j4,1,none⟩) (Kd.gH (p:=⟨j4,0,none⟩) (Kd.eX jO.out (fun k_ hk=>(⟨hk,hk.2⟩:_∧k_≠j4))) (fun _ hk=>hk.2) (.int .i64 jM)) (fun _ hk=>hk.2) (.int .i64 jt)) (fun _ hk=>hk.2) (.slice jq jf.length jr)) (fun _ hk=>⟨hk.1.1.1,⟨hk.1.1.2.1,⟨hk.1.1.2.2.1,⟨hk.1.1.2.2.2.1,⟨hk.1.1.2.2.2.2,hk.1.2⟩⟩⟩⟩⟩))⟩,⟨(bQ (bQ (bQ j7.out jm.out _) jm.out _) jm.out _)⟩,⟨(bQ (bQ (bQ jb.out jn.out _) jn.out _) jn.out _)⟩,⟨(bQ (bQ (bQ j6.out jd.out _) jd.out _) jd.out _)⟩,⟨(aT (aT (aT ja.out 0 _ rfl) 1 _ rfl) 2 _ rfl)⟩,⟨sS⟩⟩
    rw [if_neg qz] at H
    have jP:(jJ == 0)=false:=beq_eq_false_iff_ne.mpr qz
    have qW:(jJ != 0)=true:=bne_iff_ne.mpr qz
    (first|rw [jP]|(simp only [gT,gZ];rw [jP])|skip)
    have H':=am H
    clear H
    have Y3:=jy.out
    have Y4:=jk.out
    have Y5:=jz.out
    have Y6:=jl.out
    have Y7:=jd.out
    have Y8:=jx.out
    obtain ⟨J2,J3,J4,J5,J6,J7⟩:=gW j6.out
    go_wp2
    go_meet
    case rel=>exact ⟨_,(false),sd_,H',⟨by first|omega|exact Nat.le_refl _⟩,⟨sQ (Kd.eX (Kd.gH (p:=⟨j4,2,none⟩) (Kd.gH (p:=⟨j4,1,none⟩) (Kd.gH (p:=⟨j4,0,none⟩) (Kd.eX jI.out (fun k_ hk=>(⟨hk,hk.2⟩:_∧k_≠j4))) (fun _ hk=>hk.2) (.int .i64 jM)) (fun _ hk=>hk.2) (.int .i64 jt)) (fun _ hk=>hk.2) (.slice jq jf.length jr)) (fun _ hk=>⟨hk.1.1.1.1.1,⟨hk.1.1.2,⟨hk.1.1.1.1.2.1,⟨hk.1.1.1.1.2.2,⟨hk.1.1.1.2,hk.1.2⟩⟩⟩⟩⟩))⟩,⟨sQ (Kd.eX (Kd.gH (p:=⟨j4,2,none⟩) (Kd.gH (p:=⟨j4,1,none⟩) (Kd.gH (p:=⟨j4,0,none⟩) (Kd.eX jO.out (fun k_ hk=>(⟨hk,hk.2⟩:_∧k_≠j4))) (fun _ hk=>hk.2) (.int .i64 jM)) (fun _ hk=>hk.2) (.int .i64 jt)) (fun _ hk=>hk.2) (.slice jq jf.length jr)) (fun _ hk=>⟨hk.1.1.1,⟨hk.1.1.2.1,⟨hk.1.1.2.2.1,⟨hk.1.1.2.2.2.1,⟨hk.1.1.2.2.2.2,hk.1.2⟩⟩⟩⟩⟩))⟩,⟨(bQ (bQ (bQ j7.out jm.out _) jm.out _) jm.out _)⟩,⟨(bQ (bQ (bQ jb.out jn.out _) jn.out _) jn.out _)⟩,⟨(bQ (bQ (bQ j6.out jd.out _) jd.out _) jd.out _)⟩,⟨(aT (aT (aT ja.out 0 _ rfl) 1 _ rfl) 2 _ rfl)⟩,⟨sS⟩⟩
   case rest=>
    clear qu
    try clear c2
    try clear qJ
    try clear qK
    try clear Zu
    try clear qO
    try clear qP
    try clear qQ
    try clear qR
    try clear qS
    try clear qT
    try clear jS
    try clear jT
    try clear jU
    try clear q2
    try clear q3
    try clear q4
    try clear q8
    try clear q9
    try clear qa
    try clear qk
    try clear ql
    try clear qm
    try clear jV
    try clear jW
    try clear jX
    try clear q5
    try clear q6
    try clear q7
    try clear qb
    try clear qc
    try clear qd
    try clear qn
    try clear qo
    try clear qp
    try clear jA
    try clear jB
    try clear jC
    try clear js
    try clear ju
    try clear jv
    try clear jY
    try clear qe
    try clear jZ
    try clear qf
    obtain ⟨kq,jN,rfl,HA,HJ14,jo,jp,j7,jb,j6,ja,HB⟩:=hcut
    cases kq with
    |zero=>exact absurd HA.out (by simp [dA.j0])
    |succ qX=>
     have H:=HA.out
     clear HA
     simp only [dA.j0] at H
     by_cases J8:jN=true
     ·subst J8
      rw [if_pos rfl] at H
      obtain ⟨⟨jQ,qY⟩,qZ,H⟩:=bsm H
      (try dsimp only at H)
      have Y9:=am qZ
      clear qZ
      obtain ⟨Zz,z0,H⟩:=bsm H
      (try dsimp only at H)
      have Ya:=am z0
      clear z0
      by_cases J9:Zz=true
      ·subst J9
       rw [if_pos rfl] at H
       obtain ⟨⟨qA,qB,qC⟩,z1,H⟩:=bsm H
       (try dsimp only at H)
       have YS:=am z1
       clear z1
       simp only [Option.some.injEq,Prod.mk.injEq] at H
       obtain ⟨rfl,rfl,rfl⟩:=H
       have Yb:=jF.out
       have Yc:=jG.out
       have Yd:=jk.out
       have Ye:=jy.out
       have Yf:=jm.out
       have Yg:=jD.out
       obtain ⟨Ja,Jb,Jc,Jd,Je,Jf⟩:=gW j7.out
       have Yh:=jz.out
       have Yi:=jl.out
       have Yj:=jd.out
       have Yk:=jx.out
       obtain ⟨Jg,Jh,Ji,Jj,Jk,Jl⟩:=gW j6.out
       have Yl:=jE.out
       have Ym:=jn.out
       obtain ⟨Jm,Jn,Jo,Jp,Jq,Jr⟩:=gW ja.out
       go_wp2_with (first|((with_reducible refine aD (f:=58) rfl ?_);refine aU (some 41) rfl rfl Try.func58 (by kernel_rfl) rfl #[.int .i64 jc, .int .i64 jH, .int .i64 jt] rfl dK ?_;(with_reducible refine (eG.calls qX jc jH jt jQ qY _ Y9.out).mono ?_);rintro e w' ⟨rfl,⟨nd,rfl⟩⟩;refine ⟨_,rfl,?_⟩;(try (rw [rV wc];generalize hq_:World.drewN wc _=wc;replace jo:Aside0 (Kd.N k28 28 wc w.heap.size (fun k_=>(w.heap.size≤k_)∧some k_≠(.slice jq jf.length jr:Value).ownBlock∧k_≠j9∧k_≠j5∧k_≠j3∧k_≠j4) (.slice jh jw.length ji) jw):=⟨by rw [← hq_];exact (aN_ jo.out)⟩;replace jp:Aside0 (Kd.N k28 28 wc w.heap.size (fun k_=>(w.heap.size≤k_)∧some k_≠(.slice jh jw.length ji:Value).ownBlock∧k_≠j9∧k_≠j5∧k_≠j3∧k_≠j4) (.slice jq jf.length jr) jf):=⟨by rw [← hq_];exact (aN_ jp.out)⟩;replace j7:Aside0 (wc.heap[j9]?=some (.cells #[.int .i64 jc, .int .i64 jg, .slice (some je) j8.length jj] 28 (0,0))):=⟨by rw [← hq_];exact (aG_ j7.out)⟩;replace jb:Aside0 (wc.heap[j5]?=some (.cells #[.int .i64 0, .int .i64 0, .slice none 0 0] 28 (0,0))):=⟨by rw [← hq_];exact (aG_ jb.out)⟩;replace j6:Aside0 (wc.heap[j3]?=some (.cells #[.int .i64 jJ, .int .i64 jH, .slice jh jw.length ji] 28 (0,0))):=⟨by rw [← hq_];exact (aG_ j6.out)⟩;replace ja:Aside0 (wc.heap[j4]?=some (.cells #[.int .i64 jM, .int .i64 jt, .slice jq jf.length jr] 28 (0,0))):=⟨by rw [← hq_];exact (aG_ ja.out)⟩;replace HB:Aside0 (Below w.heap.size w wc):=⟨by rw [← hq_];exact sS⟩;clear hq_;obtain ⟨Js,Jt⟩:=nZ j7.out;have Ju:wc.cell? ⟨j9,1,none⟩=some (.int .i64 jg):=(aA j7.out 1).trans rfl;have Jv:=aH j7.out 1;have Jw:wc.cell? ⟨j9,2,none⟩=some (.slice (some je) j8.length jj):=(aA j7.out 2).trans rfl;have Jx:=aH j7.out 2;obtain ⟨Jy,Jz⟩:=nZ jb.out;have JA:wc.cell? ⟨j5,1,none⟩=some (.int .i64 0):=(aA jb.out 1).trans rfl;have JB:=aH jb.out 1;have JC:wc.cell? ⟨j5,2,none⟩=some (.slice none 0 0):=(aA jb.out 2).trans rfl;have JD:=aH jb.out 2;obtain ⟨JE,JF⟩:=nZ j6.out;have JG:wc.cell? ⟨j3,1,none⟩=some (.int .i64 jH):=(aA j6.out 1).trans rfl;have JH:=aH j6.out 1;have JI:wc.cell? ⟨j3,2,none⟩=some (.slice jh jw.length ji):=(aA j6.out 2).trans rfl;have JJ:=aH j6.out 2;obtain ⟨JK,JL⟩:=nZ ja.out;have JM:wc.cell? ⟨j4,1,none⟩=some (.int .i64 jt):=(aA ja.out 1).trans rfl;have JN:=aH ja.out 1;have JO:wc.cell? ⟨j4,2,none⟩=some (.slice jq jf.length jr):=(aA ja.out 2).trans rfl;have JP:=aH ja.out 2)))|((with_reducible refine aD (f:=59) rfl ?_);refine aU (some 45) rfl rfl Try.func59 (by kernel_rfl) rfl #[.int .i64 jQ, .int .i64 0, .int .i64 99999] rfl dK ?_;(with_reducible refine (fD.calls jQ 0 99999 true _ Ya.out).mono ?_);rintro e w' ⟨rfl,⟨nd,rfl⟩⟩;refine ⟨_,rfl,?_⟩;(try (rw [rV wc];generalize hq_:World.drewN wc _=wc;replace jo:Aside0 (Kd.N k28 28 wc w.heap.size (fun k_=>(w.heap.size≤k_)∧some k_≠(.slice jq jf.length jr:Value).ownBlock∧k_≠j9∧k_≠j5∧k_≠j3∧k_≠j4) (.slice jh jw.length ji) jw):=⟨by rw [← hq_];exact (aN_ jo.out)⟩;replace jp:Aside0 (Kd.N k28 28 wc w.heap.size (fun k_=>(w.heap.size≤k_)∧some k_≠(.slice jh jw.length ji:Value).ownBlock∧k_≠j9∧k_≠j5∧k_≠j3∧k_≠j4) (.slice jq jf.length jr) jf):=⟨by rw [← hq_];exact (aN_ jp.out)⟩;replace j7:Aside0 (wc.heap[j9]?=some (.cells #[.int .i64 jc, .int .i64 jg, .slice (some je) j8.length jj] 28 (0,0))):=⟨by rw [← hq_];exact (aG_ j7.out)⟩;replace jb:Aside0 (wc.heap[j5]?=some (.cells #[.int .i64 0, .int .i64 0, .slice none 0 0] 28 (0,0))):=⟨by rw [← hq_];exact (aG_ jb.out)⟩;replace j6:Aside0 (wc.heap[j3]?=some (.cells #[.int .i64 jJ, .int .i64 jH, .slice jh jw.length ji] 28 (0,0))):=⟨by rw [← hq_];exact (aG_ j6.out)⟩;replace ja:Aside0 (wc.heap[j4]?=some (.cells #[.int .i64 jM, .int .i64 jt, .slice jq jf.length jr] 28 (0,0))):=⟨by rw [← hq_];exact (aG_ ja.out)⟩;replace HB:Aside0 (Below w.heap.size w wc):=⟨by rw [← hq_];exact sS⟩;clear hq_;obtain ⟨JQ,JR⟩:=nZ j7.out;have JS:wc.cell? ⟨j9,1,none⟩=some (.int .i64 jg):=(aA j7.out 1).trans rfl;have JT:=aH j7.out 1;have JU:wc.cell? ⟨j9,2,none⟩=some (.slice (some je) j8.length jj):=(aA j7.out 2).trans rfl;have JV:=aH j7.out 2;obtain ⟨JW,JX⟩:=nZ jb.out;have JY:wc.cell? ⟨j5,1,none⟩=some (.int .i64 0):=(aA jb.out 1).trans rfl;have JZ:=aH jb.out 1;have Q0:wc.cell? ⟨j5,2,none⟩=some (.slice none 0 0):=(aA jb.out 2).trans rfl;have Q1:=aH jb.out 2;obtain ⟨Q2,Q3⟩:=nZ j6.out;have Q4:wc.cell? ⟨j3,1,none⟩=some (.int .i64 jH):=(aA j6.out 1).trans rfl;have Q5:=aH j6.out 1;have Q6:wc.cell? ⟨j3,2,none⟩=some (.slice jh jw.length ji):=(aA j6.out 2).trans rfl;have Q7:=aH j6.out 2;obtain ⟨Q8,Q9⟩:=nZ ja.out;have Qa:wc.cell? ⟨j4,1,none⟩=some (.int .i64 jt):=(aA ja.out 1).trans rfl;have Qb:=aH ja.out 1;have Qc:wc.cell? ⟨j4,2,none⟩=some (.slice jq jf.length jr):=(aA ja.out 2).trans rfl;have Qd:=aH ja.out 2)))|((with_reducible refine aD (f:=57) rfl ?_);refine aU (some 47) rfl rfl Try.func57 (by kernel_rfl) rfl #[.int .i64 0, .int .i64 jQ] rfl dK ?_;(with_reducible refine (mE.calls 0 jQ qA qB qC _ YS.out).mono ?_);rintro e U5 ⟨YT,rfl,ho0,hb⟩;refine ⟨_,rfl,?_⟩;have qr:=am (Kd.kK (Kd.eX (ok':=fun k_=>(w.heap.size≤k_)∧some k_≠(.slice jh jw.length ji:Value).ownBlock∧some k_≠(.slice jq jf.length jr:Value).ownBlock∧k_≠j9∧k_≠j5∧k_≠j3∧k_≠j4) (Kd.R_N (Kd.kE ho0)) (fun k_ hk_=>⟨(Nat.le_trans (aN sS) hk_.2.1),(Kd.fresh' (Kd.LK (aN_ jo.out)) k_ hk_.2.1),(Kd.fresh' (Kd.LK (aN_ jp.out)) k_ hk_.2.1),(Kd.kQ (g:=j9) (o:= .cells #[.int .i64 jc, .int .i64 jg, .slice (some je) j8.length jj] 28 (0,0)) (aG_ j7.out) k_ hk_.2.1),(Kd.kQ (g:=j5) (o:= .cells #[.int .i64 0, .int .i64 0, .slice none 0 0] 28 (0,0)) (aG_ jb.out) k_ hk_.2.1),(Kd.kQ (g:=j3) (o:= .cells #[.int .i64 jJ, .int .i64 jH, .slice jh jw.length ji] 28 (0,0)) (aG_ j6.out) k_ hk_.2.1),(Kd.kQ (g:=j4) (o:= .cells #[.int .i64 jM, .int .i64 jt, .slice jq jf.length jr] 28 (0,0)) (aG_ ja.out) k_ hk_.2.1)⟩)) (aN sS));replace jo:=am (Kd.mH (aN_ jo.out) (by first|exact Kd.kL ho0|exact Kd.kL (Kd.R_N ho0)) hb);replace jp:=am (Kd.mH (aN_ jp.out) (by first|exact Kd.kL ho0|exact Kd.kL (Kd.R_N ho0)) hb);replace j7:=am (aJ (g:=j9) (o:= .cells #[.int .i64 jc, .int .i64 jg, .slice (some je) j8.length jj] 28 (0,0)) (aG_ j7.out) hb);replace jb:=am (aJ (g:=j5) (o:= .cells #[.int .i64 0, .int .i64 0, .slice none 0 0] 28 (0,0)) (aG_ jb.out) hb);replace j6:=am (aJ (g:=j3) (o:= .cells #[.int .i64 jJ, .int .i64 jH, .slice jh jw.length ji] 28 (0,0)) (aG_ j6.out) hb);replace ja:=am (aJ (g:=j4) (o:= .cells #[.int .i64 jM, .int .i64 jt, .slice jq jf.length jr] 28 (0,0)) (aG_ ja.out) hb);replace HB:=am (aC sS hb);(try clear hb);(try clear ho0);obtain ⟨Qe,Qf,Qg,Qh,Qi,Qj⟩:=gW jb.out;obtain ⟨z2,z3,ZA⟩:=Kd.iB qr.out;subst ZA))
       refine bodyPost_ret (results_cell_row rfl _ _ j5 28 #[.int .i64 qA, .int .i64 qB, .slice z2 qC.length z3] (0,0) _ rfl (aT (aT (aT jb.out 0 _ rfl) 1 _ rfl) 2 _ rfl) Try.underlying28 rfl (by kernel_rfl)) rfl ?_
       exact ⟨_,sJ,sQ (Kd.eX (Kd.gH (p:=⟨j5,2,none⟩) (Kd.gH (p:=⟨j5,1,none⟩) (Kd.gH (p:=⟨j5,0,none⟩) (Kd.eX qr.out (fun k_ hk=>(⟨hk,hk.2.2.2.2.1⟩:_∧k_≠j5))) (fun _ hk=>hk.2) (.int .i64 qA)) (fun _ hk=>hk.2) (.int .i64 qB)) (fun _ hk=>hk.2) (.slice z2 qC.length z3)) (fun _ hk=>hk.1.1)),sS⟩
      replace J9:=Bool.eq_false_iff.mpr J9
      subst J9
      rw [if_neg (show ¬ (false=true) by decide)] at H
      obtain ⟨⟨qD,qE,qF⟩,z4,H⟩:=bsm H
      (try dsimp only at H)
      have YU:=am z4
      clear z4
      simp only [Option.some.injEq,Prod.mk.injEq] at H
      obtain ⟨rfl,rfl,rfl⟩:=H
      have Yn:=jF.out
      have Yo:=jG.out
      have Yp:=jk.out
      have Yq:=jy.out
      have Yr:=jm.out
      have Ys:=jD.out
      obtain ⟨Qk,Ql,Qm,Qn,Qo,Qp⟩:=gW j7.out
      have Yt:=jz.out
      have Yu:=jl.out
      have Yv:=jd.out
      have Yw:=jx.out
      obtain ⟨Qq,Qr,Qs,Qt,Qu,Qv⟩:=gW j6.out
      have Yx:=jE.out
      have Yy:=jn.out
      obtain ⟨Qw,Qx,Qy,Qz,QA,QB⟩:=gW ja.out
      go_wp2_with (first|((with_reducible refine aD (f:=58) rfl ?_);refine aU (some 41) rfl rfl Try.func58 (by kernel_rfl) rfl #[.int .i64 jc, .int .i64 jH, .int .i64 jt] rfl dK ?_;(with_reducible refine (eG.calls qX jc jH jt jQ qY _ Y9.out).mono ?_);rintro e w' ⟨rfl,⟨nd,rfl⟩⟩;refine ⟨_,rfl,?_⟩;(try (rw [rV wc];generalize hq_:World.drewN wc _=wc;replace jo:Aside0 (Kd.N k28 28 wc w.heap.size (fun k_=>(w.heap.size≤k_)∧some k_≠(.slice jq jf.length jr:Value).ownBlock∧k_≠j9∧k_≠j5∧k_≠j3∧k_≠j4) (.slice jh jw.length ji) jw):=⟨by rw [← hq_];exact (aN_ jo.out)⟩;replace jp:Aside0 (Kd.N k28 28 wc w.heap.size (fun k_=>(w.heap.size≤k_)∧some k_≠(.slice jh jw.length ji:Value).ownBlock∧k_≠j9∧k_≠j5∧k_≠j3∧k_≠j4) (.slice jq jf.length jr) jf):=⟨by rw [← hq_];exact (aN_ jp.out)⟩;replace j7:Aside0 (wc.heap[j9]?=some (.cells #[.int .i64 jc, .int .i64 jg, .slice (some je) j8.length jj] 28 (0,0))):=⟨by rw [← hq_];exact (aG_ j7.out)⟩;replace jb:Aside0 (wc.heap[j5]?=some (.cells #[.int .i64 0, .int .i64 0, .slice none 0 0] 28 (0,0))):=⟨by rw [← hq_];exact (aG_ jb.out)⟩;replace j6:Aside0 (wc.heap[j3]?=some (.cells #[.int .i64 jJ, .int .i64 jH, .slice jh jw.length ji] 28 (0,0))):=⟨by rw [← hq_];exact (aG_ j6.out)⟩;replace ja:Aside0 (wc.heap[j4]?=some (.cells #[.int .i64 jM, .int .i64 jt, .slice jq jf.length jr] 28 (0,0))):=⟨by rw [← hq_];exact (aG_ ja.out)⟩;replace HB:Aside0 (Below w.heap.size w wc):=⟨by rw [← hq_];exact sS⟩;clear hq_;obtain ⟨QC,QD⟩:=nZ j7.out;have QE:wc.cell? ⟨j9,1,none⟩=some (.int .i64 jg):=(aA j7.out 1).trans rfl;have QF:=aH j7.out 1;have QG:wc.cell? ⟨j9,2,none⟩=some (.slice (some je) j8.length jj):=(aA j7.out 2).trans rfl;have QH:=aH j7.out 2;obtain ⟨z5,z6⟩:=nZ jb.out;have z7:wc.cell? ⟨j5,1,none⟩=some (.int .i64 0):=(aA jb.out 1).trans rfl;have z8:=aH jb.out 1;have z9:wc.cell? ⟨j5,2,none⟩=some (.slice none 0 0):=(aA jb.out 2).trans rfl;have za:=aH jb.out 2;obtain ⟨zb,zc⟩:=nZ j6.out;have zd:wc.cell? ⟨j3,1,none⟩=some (.int .i64 jH):=(aA j6.out 1).trans rfl;have ze:=aH j6.out 1;have zf:wc.cell? ⟨j3,2,none⟩=some (.slice jh jw.length ji):=(aA j6.out 2).trans rfl;have zg:=aH j6.out 2;obtain ⟨zh,zi⟩:=nZ ja.out;have zj:wc.cell? ⟨j4,1,none⟩=some (.int .i64 jt):=(aA ja.out 1).trans rfl;have zk:=aH ja.out 1;have zl:wc.cell? ⟨j4,2,none⟩=some (.slice jq jf.length jr):=(aA ja.out 2).trans rfl;have zm:=aH ja.out 2)))|((with_reducible refine aD (f:=59) rfl ?_);refine aU (some 45) rfl rfl Try.func59 (by kernel_rfl) rfl #[.int .i64 jQ, .int .i64 0, .int .i64 99999] rfl dK ?_;(with_reducible refine (fD.calls jQ 0 99999 false _ Ya.out).mono ?_);rintro e w' ⟨rfl,⟨nd,rfl⟩⟩;refine ⟨_,rfl,?_⟩;(try (rw [rV wc];generalize hq_:World.drewN wc _=wc;replace jo:Aside0 (Kd.N k28 28 wc w.heap.size (fun k_=>(w.heap.size≤k_)∧some k_≠(.slice jq jf.length jr:Value).ownBlock∧k_≠j9∧k_≠j5∧k_≠j3∧k_≠j4) (.slice jh jw.length ji) jw):=⟨by rw [← hq_];exact (aN_ jo.out)⟩;replace jp:Aside0 (Kd.N k28 28 wc w.heap.size (fun k_=>(w.heap.size≤k_)∧some k_≠(.slice jh jw.length ji:Value).ownBlock∧k_≠j9∧k_≠j5∧k_≠j3∧k_≠j4) (.slice jq jf.length jr) jf):=⟨by rw [← hq_];exact (aN_ jp.out)⟩;replace j7:Aside0 (wc.heap[j9]?=some (.cells #[.int .i64 jc, .int .i64 jg, .slice (some je) j8.length jj] 28 (0,0))):=⟨by rw [← hq_];exact (aG_ j7.out)⟩;replace jb:Aside0 (wc.heap[j5]?=some (.cells #[.int .i64 0, .int .i64 0, .slice none 0 0] 28 (0,0))):=⟨by rw [← hq_];exact (aG_ jb.out)⟩;replace j6:Aside0 (wc.heap[j3]?=some (.cells #[.int .i64 jJ, .int .i64 jH, .slice jh jw.length ji] 28 (0,0))):=⟨by rw [← hq_];exact (aG_ j6.out)⟩;replace ja:Aside0 (wc.heap[j4]?=some (.cells #[.int .i64 jM, .int .i64 jt, .slice jq jf.length jr] 28 (0,0))):=⟨by rw [← hq_];exact (aG_ ja.out)⟩;replace HB:Aside0 (Below w.heap.size w wc):=⟨by rw [← hq_];exact sS⟩;clear hq_;obtain ⟨zn,zo⟩:=nZ j7.out;have zp:wc.cell? ⟨j9,1,none⟩=some (.int .i64 jg):=(aA j7.out 1).trans rfl;have zq:=aH j7.out 1;have zr:wc.cell? ⟨j9,2,none⟩=some (.slice (some je) j8.length jj):=(aA j7.out 2).trans rfl;have zs:=aH j7.out 2;obtain ⟨zt,zu⟩:=nZ jb.out;have zv:wc.cell? ⟨j5,1,none⟩=some (.int .i64 0):=(aA jb.out 1).trans rfl;have zw:=aH jb.out 1;have zx:wc.cell? ⟨j5,2,none⟩=some (.slice none 0 0):=(aA jb.out 2).trans rfl;have zy:=aH jb.out 2;obtain ⟨zz,zA⟩:=nZ j6.out;have zB:wc.cell? ⟨j3,1,none⟩=some (.int .i64 jH):=(aA j6.out 1).trans rfl;have zC:=aH j6.out 1;have zD:wc.cell? ⟨j3,2,none⟩=some (.slice jh jw.length ji):=(aA j6.out 2).trans rfl;have zE:=aH j6.out 2;obtain ⟨zF,zG⟩:=nZ ja.out;have zH:wc.cell? ⟨j4,1,none⟩=some (.int .i64 jt):=(aA ja.out 1).trans rfl;have zI:=aH ja.out 1;have zJ:wc.cell? ⟨j4,2,none⟩=some (.slice jq jf.length jr):=(aA ja.out 2).trans rfl;have zK:=aH ja.out 2)))|((with_reducible refine aD (f:=60) rfl ?_);refine aU (some 52) rfl rfl Try.func60 (by kernel_rfl) rfl #[.int .i64 jc, .agg #[.int .i64 jJ, .int .i64 jH, .slice jh jw.length ji], .agg #[.int .i64 jM, .int .i64 jt, .slice jq jf.length jr]] rfl dK ?_;(with_reducible refine (mD.calls jc jJ jH (fun k_=>((w.heap.size≤k_)∧(some k_≠(.slice jq jf.length jr:Value).ownBlock∧(k_≠j9∧(k_≠j5∧(k_≠j3∧k_≠j4)))))) _ _ jw jM jt (fun k_=>((w.heap.size≤k_)∧(some k_≠(.slice jh jw.length ji:Value).ownBlock∧(k_≠j9∧(k_≠j5∧(k_≠j3∧k_≠j4)))))) _ _ jf qD qE qF _ ?side1 ?side2 YU.out).mono ?_);(case side1=>exact Kd.N_V (jo.out));(case side2=>exact Kd.N_V (jp.out));rintro e U6 ⟨YV,rfl,ho0,hb⟩;refine ⟨_,rfl,?_⟩;replace jo:=am (Kd.mH (aN_ jo.out) (by first|exact Kd.kL ho0|exact Kd.kL (Kd.R_N ho0)) hb);replace jp:=am (Kd.mH (aN_ jp.out) (by first|exact Kd.kL ho0|exact Kd.kL (Kd.R_N ho0)) hb);have qs:=am (Kd.kK (Kd.eX (ok':=fun k_=>(w.heap.size≤k_)∧k_≠j9∧k_≠j5∧k_≠j3∧k_≠j4) ho0 (fun k_ hk_=>⟨Or.elim hk_ (fun hs_=>Or.elim hs_ (fun hs_=>hs_.1) (fun hs_=>hs_.1)) (fun hn_=>(Nat.le_trans (aN sS) hn_)),Or.elim hk_ (fun hs_=>Or.elim hs_ (fun hs_=>hs_.2.2.1) (fun hs_=>hs_.2.2.1)) (fun hn_=>(Kd.kQ (g:=j9) (o:= .cells #[.int .i64 jc, .int .i64 jg, .slice (some je) j8.length jj] 28 (0,0)) (aG_ j7.out) k_ hn_)),Or.elim hk_ (fun hs_=>Or.elim hs_ (fun hs_=>hs_.2.2.2.1) (fun hs_=>hs_.2.2.2.1)) (fun hn_=>(Kd.kQ (g:=j5) (o:= .cells #[.int .i64 0, .int .i64 0, .slice none 0 0] 28 (0,0)) (aG_ jb.out) k_ hn_)),Or.elim hk_ (fun hs_=>Or.elim hs_ (fun hs_=>hs_.2.2.2.2.1) (fun hs_=>hs_.2.2.2.2.1)) (fun hn_=>(Kd.kQ (g:=j3) (o:= .cells #[.int .i64 jJ, .int .i64 jH, .slice jh jw.length ji] 28 (0,0)) (aG_ j6.out) k_ hn_)),Or.elim hk_ (fun hs_=>Or.elim hs_ (fun hs_=>hs_.2.2.2.2.2) (fun hs_=>hs_.2.2.2.2.2)) (fun hn_=>(Kd.kQ (g:=j4) (o:= .cells #[.int .i64 jM, .int .i64 jt, .slice jq jf.length jr] 28 (0,0)) (aG_ ja.out) k_ hn_))⟩)) (aN sS));replace j7:=am (aJ (g:=j9) (o:= .cells #[.int .i64 jc, .int .i64 jg, .slice (some je) j8.length jj] 28 (0,0)) (aG_ j7.out) hb);replace jb:=am (aJ (g:=j5) (o:= .cells #[.int .i64 0, .int .i64 0, .slice none 0 0] 28 (0,0)) (aG_ jb.out) hb);replace j6:=am (aJ (g:=j3) (o:= .cells #[.int .i64 jJ, .int .i64 jH, .slice jh jw.length ji] 28 (0,0)) (aG_ j6.out) hb);replace ja:=am (aJ (g:=j4) (o:= .cells #[.int .i64 jM, .int .i64 jt, .slice jq jf.length jr] 28 (0,0)) (aG_ ja.out) hb);replace HB:=am (aC sS hb);(try clear hb);(try clear ho0);obtain ⟨QI,QJ,QK,QL,QM,QN⟩:=gW jb.out;obtain ⟨zL,zM,ZB⟩:=Kd.iB qs.out;subst ZB))
      refine bodyPost_ret (results_cell_row rfl _ _ j5 28 #[.int .i64 qD, .int .i64 qE, .slice zL qF.length zM] (0,0) _ rfl (aT (aT (aT jb.out 0 _ rfl) 1 _ rfl) 2 _ rfl) Try.underlying28 rfl (by kernel_rfl)) rfl ?_
      exact ⟨_,sJ,sQ (Kd.eX (Kd.gH (p:=⟨j5,2,none⟩) (Kd.gH (p:=⟨j5,1,none⟩) (Kd.gH (p:=⟨j5,0,none⟩) (Kd.eX qs.out (fun k_ hk=>(⟨hk,hk.2.2.1⟩:_∧k_≠j5))) (fun _ hk=>hk.2) (.int .i64 qD)) (fun _ hk=>hk.2) (.int .i64 qE)) (fun _ hk=>hk.2) (.slice zL qF.length zM)) (fun _ hk=>hk.1.1)),sS⟩
     replace J8:=Bool.eq_false_iff.mpr J8
     subst J8
     rw [if_neg (show ¬ (false=true) by decide)] at H
     obtain ⟨⟨qG,qH,qI⟩,zN,H⟩:=bsm H
     (try dsimp only at H)
     have YW:=am zN
     clear zN
     simp only [Option.some.injEq,Prod.mk.injEq] at H
     obtain ⟨rfl,rfl,rfl⟩:=H
     have Yz:=jF.out
     have YA:=jG.out
     have YB:=jk.out
     have YC:=jy.out
     have YD:=jm.out
     have YE:=jD.out
     obtain ⟨QO,QP,QQ,QR,QS,QT⟩:=gW j7.out
     have YF:=jz.out
     have YG:=jl.out
     have YH:=jd.out
     have YI:=jx.out
     obtain ⟨QU,QV,QW,QX,QY,QZ⟩:=gW j6.out
     have YJ:=jE.out
     have YK:=jn.out
     obtain ⟨Z0,Z1,Z2,Z3,Z4,Z5⟩:=gW ja.out
     go_wp2_with (first|((with_reducible refine aD (f:=60) rfl ?_);refine aU (some 52) rfl rfl Try.func60 (by kernel_rfl) rfl #[.int .i64 jc, .agg #[.int .i64 jJ, .int .i64 jH, .slice jh jw.length ji], .agg #[.int .i64 jM, .int .i64 jt, .slice jq jf.length jr]] rfl dK ?_;(with_reducible refine (mD.calls jc jJ jH (fun k_=>((w.heap.size≤k_)∧(some k_≠(.slice jq jf.length jr:Value).ownBlock∧(k_≠j9∧(k_≠j5∧(k_≠j3∧k_≠j4)))))) _ _ jw jM jt (fun k_=>((w.heap.size≤k_)∧(some k_≠(.slice jh jw.length ji:Value).ownBlock∧(k_≠j9∧(k_≠j5∧(k_≠j3∧k_≠j4)))))) _ _ jf qG qH qI _ ?side1 ?side2 YW.out).mono ?_);(case side1=>exact Kd.N_V (jo.out));(case side2=>exact Kd.N_V (jp.out));rintro e U7 ⟨YX,rfl,ho0,hb⟩;refine ⟨_,rfl,?_⟩;replace jo:=am (Kd.mH (aN_ jo.out) (by first|exact Kd.kL ho0|exact Kd.kL (Kd.R_N ho0)) hb);replace jp:=am (Kd.mH (aN_ jp.out) (by first|exact Kd.kL ho0|exact Kd.kL (Kd.R_N ho0)) hb);have qt:=am (Kd.kK (Kd.eX (ok':=fun k_=>(w.heap.size≤k_)∧k_≠j9∧k_≠j5∧k_≠j3∧k_≠j4) ho0 (fun k_ hk_=>⟨Or.elim hk_ (fun hs_=>Or.elim hs_ (fun hs_=>hs_.1) (fun hs_=>hs_.1)) (fun hn_=>(Nat.le_trans (aN sS) hn_)),Or.elim hk_ (fun hs_=>Or.elim hs_ (fun hs_=>hs_.2.2.1) (fun hs_=>hs_.2.2.1)) (fun hn_=>(Kd.kQ (g:=j9) (o:= .cells #[.int .i64 jc, .int .i64 jg, .slice (some je) j8.length jj] 28 (0,0)) (aG_ j7.out) k_ hn_)),Or.elim hk_ (fun hs_=>Or.elim hs_ (fun hs_=>hs_.2.2.2.1) (fun hs_=>hs_.2.2.2.1)) (fun hn_=>(Kd.kQ (g:=j5) (o:= .cells #[.int .i64 0, .int .i64 0, .slice none 0 0] 28 (0,0)) (aG_ jb.out) k_ hn_)),Or.elim hk_ (fun hs_=>Or.elim hs_ (fun hs_=>hs_.2.2.2.2.1) (fun hs_=>hs_.2.2.2.2.1)) (fun hn_=>(Kd.kQ (g:=j3) (o:= .cells #[.int .i64 jJ, .int .i64 jH, .slice jh jw.length ji] 28 (0,0)) (aG_ j6.out) k_ hn_)),Or.elim hk_ (fun hs_=>Or.elim hs_ (fun hs_=>hs_.2.2.2.2.2) (fun hs_=>hs_.2.2.2.2.2)) (fun hn_=>(Kd.kQ (g:=j4) (o:= .cells #[.int .i64 jM, .int .i64 jt, .slice jq jf.length jr] 28 (0,0)) (aG_ ja.out) k_ hn_))⟩)) (aN sS));replace j7:=am (aJ (g:=j9) (o:= .cells #[.int .i64 jc, .int .i64 jg, .slice (some je) j8.length jj] 28 (0,0)) (aG_ j7.out) hb);replace jb:=am (aJ (g:=j5) (o:= .cells #[.int .i64 0, .int .i64 0, .slice none 0 0] 28 (0,0)) (aG_ jb.out) hb);replace j6:=am (aJ (g:=j3) (o:= .cells #[.int .i64 jJ, .int .i64 jH, .slice jh jw.length ji] 28 (0,0)) (aG_ j6.out) hb);replace ja:=am (aJ (g:=j4) (o:= .cells #[.int .i64 jM, .int .i64 jt, .slice jq jf.length jr] 28 (0,0)) (aG_ ja.out) hb);replace HB:=am (aC sS hb);(try clear hb);(try clear ho0);obtain ⟨Z6,Z7,Z8,Z9,Za,Zb⟩:=gW jb.out;obtain ⟨zO,zP,ZC⟩:=Kd.iB qt.out;subst ZC))
     refine bodyPost_ret (results_cell_row rfl _ _ j5 28 #[.int .i64 qG, .int .i64 qH, .slice zO qI.length zP] (0,0) _ rfl (aT (aT (aT jb.out 0 _ rfl) 1 _ rfl) 2 _ rfl) Try.underlying28 rfl (by kernel_rfl)) rfl ?_
     exact ⟨_,sJ,sQ (Kd.eX (Kd.gH (p:=⟨j5,2,none⟩) (Kd.gH (p:=⟨j5,1,none⟩) (Kd.gH (p:=⟨j5,0,none⟩) (Kd.eX qt.out (fun k_ hk=>(⟨hk,hk.2.2.1⟩:_∧k_≠j5))) (fun _ hk=>hk.2) (.int .i64 qG)) (fun _ hk=>hk.2) (.int .i64 qH)) (fun _ hk=>hk.2) (.slice zO qI.length zP)) (fun _ hk=>hk.1.1)),sS⟩
  rw [if_neg qR] at H
  exact absurd H (by simp)
 rw [if_neg qO] at H
 exact absurd H (by simp)
theorem aX.mono_all:∀ k,(∀ a b c,LeO (aX.l0 k a b c) (aX.l0 (k + 1) a b c))∧(∀ a,LeO (aX.f k a) (aX.f (k + 1) a))∧(∀ s,LeO (fB.f k s) (fB.f (k + 1) s))
 |0=>⟨fun _ _ _ r h=>by simp [aX.l0] at h,fun _ r h=>by simp [aX.f] at h,fun _ r h=>by simp [fB.f] at h⟩
 |k + 1=>by
  obtain ⟨i0,i1,i2⟩:=aX.mono_all k
  refine ⟨fun a b c=>?_,fun a=>?_,fun s=>?_⟩
  ·unfold aX.l0
   refine LeO.ite (LeO.ite (LeO.bind (i2 _) (fun _=>LeO.ite (i0 _ _ _) (LeO.none _))) (LeO.none _)) (LeO.refl _)
  ·unfold aX.f
   exact i0 _ _ _
  ·unfold fB.f
   exact LeO.bind (dA.mono _ _ _ _) (fun _=>LeO.bind (i1 _) (fun _=>LeO.bind (i1 _) (fun _=>LeO.refl _)))
theorem aX.mono:∀ a k,LeO (aX.f k a) (aX.f (k + 1) a):=fun a k=>(aX.mono_all k).2.1 a
abbrev aX.bY (k:Nat):Prop:=∀ (A0:Option Addr) (c0:Nat) (l0:List S70) (r:List S70) (w:World) (hr0:Kd.C k70 w A0 l0.length l0) (hc0:l0.length≤c0) (h:aX.f k l0=some r),
  Calls Try.prog 38 #[.slice A0 l0.length c0] w fun e w'=>∃ v0_:Value,e= .returned v0_∧Kd.N k70 70 w' w.heap.size (fun k_=>(w.heap.size≤k_)) v0_ r∧Below w.heap.size w w'
abbrev fB.bY (k:Nat):Prop:=∀ (x:S70) (A5:Option Addr) (c5:Nat) (A6:Option Addr) (c6:Nat) (A7:Option Addr) (c7:Nat) (r:List S70) (w:World) (h5:Kd.C k28 w A5 x.f3.f2.length x.f3.f2) (l5:x.f3.f2.length≤c5) (h6:Kd.C k70 w A6 x.f4.length x.f4) (l6:x.f4.length≤c6) (h7:Kd.C k70 w A7 x.f5.length x.f5) (l7:x.f5.length≤c7) (h:fB.f k x=some r),
  Calls Try.prog 65 #[.agg #[.int .i64 x.f0, .int .i64 x.f1, .int .i64 x.f2, .int .i64 x.f3.f0, .int .i64 x.f3.f1, .slice A5 x.f3.f2.length c5, .slice A6 x.f4.length c6, .slice A7 x.f5.length c7]] w fun e w'=>∃ v0_:Value,e= .returned v0_∧Kd.N k70 70 w' w.heap.size (fun k_=>(w.heap.size≤k_)) v0_ r∧Below w.heap.size w w'
theorem fB.step (k:Nat) (ihA:∀ m,m < k→aX.bY m):fB.bY k:=by
  intro x A5 c5 A6 c6 A7 c7 r w h5 q5 h6 q6 h7 q7 h
  cases k with
  |zero=>exact absurd h (by simp [fB.f])
  |succ k=>
  simp only [fB.f] at h
  replace h:=Option.bind_eq_some_iff.mp h
  obtain ⟨⟨op,n,la⟩,he,h⟩:=h
  replace h:=Option.bind_eq_some_iff.mp h
  obtain ⟨lb,hb6,h⟩:=h
  replace h:=Option.bind_eq_some_iff.mp h
  obtain ⟨le,hb7,h⟩:=h
  obtain rfl:=Option.some.inj h
  have H5:=am h5
  have H6:=am h6
  have H7:=am h7
  have L5:=am q5
  have L6:=am q6
  have L7:=am q7
  have HE:=am he
  have j3:=am hb6
  have j4:=am hb7
  clear h h5 h6 h7 q5 q6 q7 he hb6 hb7
  go_enter Try.func65,Try.ntmps65
  go_upto_region 1 with (first|((with_reducible refine bJ (N:=1) rfl ?_);refine bR (N:=1) rfl rfl (cs:=#[(.int .i64 x.f0),(.int .i64 x.f1),(.int .i64 x.f2),(.int .i64 x.f3.f0),(.int .i64 x.f3.f1),(.slice A5 x.f3.f2.length c5),(.slice A6 x.f4.length c6),(.slice A7 x.f5.length c7)]) (t:=70) rn_ ?_;intro gb hg w1 hbox hb;have GE:=am (hg:_=_);have X:=am hbox;have BW:=am hb;clear hbox hb hg)|fail)
  have GW:Aside0 (w.heap.size≤gb):=⟨Nat.le_of_eq GE.out.symm⟩
  have GL:=am (dM X.out)
  have p3:w1.cell? ⟨gb,3,none⟩=some (.int .i64 x.f3.f0):=aA X.out 3
  have p4:w1.cell? ⟨gb,4,none⟩=some (.int .i64 x.f3.f1):=aA X.out 4
  have p5:w1.cell? ⟨gb,5,none⟩=some (.slice A5 x.f3.f2.length c5):=aA X.out 5
  go_upto_region 2 with (first|((with_reducible refine aD (f:=29) rfl ?_);refine aU (some 6) rfl rfl Try.func29 (by kernel_rfl) rfl #[.agg #[(.int .i64 x.f3.f0),(.int .i64 x.f3.f1),(.slice A5 x.f3.f2.length c5)]] rfl (by (try simp only [List.map_toArray,List.map_cons,List.map_nil]);first|done|rfl) ?_;(with_reducible refine (dA.calls k _ _ A5 c5 _ op n la _ (Kd.aI H5.out BW.out) L5.out HE.out).mono ?_);rintro e w2 ⟨v5,rfl,hn,hb⟩;refine ⟨_,rfl,?_⟩;obtain ⟨B5,d5,rfl⟩:=Kd.iB hn;have N5:=am (Kd.eX (ok':=fun q=>w.heap.size≤q∧q≠gb) (Kd.kK hn BW.out.size) (fun q hq=>⟨Nat.le_trans BW.out.size hq,fun e=>by have:=GL.out;omega⟩));have X2:=am (aJ X.out hb);have B2:=am (aC BW.out hb);clear hn hb p3 p4 p5 X BW;have p3:w2.cell? ⟨gb,3,none⟩=some (.int .i64 x.f3.f0):=aA X2.out 3;have p4:w2.cell? ⟨gb,4,none⟩=some (.int .i64 x.f3.f1):=aA X2.out 4;have p5:w2.cell? ⟨gb,5,none⟩=some (.slice A5 x.f3.f2.length c5):=aA X2.out 5;have f3:=aH X2.out 3;have f4:=aH X2.out 4;have f5:=aH X2.out 5)|fail)
  have X:=am (aT (cs':=#[(.int .i64 x.f0),(.int .i64 x.f1),(.int .i64 x.f2),(.int .i64 op),(.int .i64 n),(.slice B5 la.length d5),(.slice A6 x.f4.length c6),(.slice A7 x.f5.length c7)]) (aT (cs':=#[(.int .i64 x.f0),(.int .i64 x.f1),(.int .i64 x.f2),(.int .i64 op),(.int .i64 n),(.slice A5 x.f3.f2.length c5),(.slice A6 x.f4.length c6),(.slice A7 x.f5.length c7)]) (aT (cs':=#[(.int .i64 x.f0),(.int .i64 x.f1),(.int .i64 x.f2),(.int .i64 op),(.int .i64 x.f3.f1),(.slice A5 x.f3.f2.length c5),(.slice A6 x.f4.length c6),(.slice A7 x.f5.length c7)]) X2.out 3 (.int .i64 op) rfl) 4 (.int .i64 n) rfl) 5 (.slice B5 la.length d5) rfl)
  have BW:=am (below_set (j:=5) (v:=(.slice B5 la.length d5)) (below_set (j:=4) (v:=(.int .i64 n)) (below_set (j:=3) (v:=(.int .i64 op)) B2.out GW.out) GW.out) GW.out)
  have N5_:=am (Kd.gH (p:=⟨gb,5,none⟩) (Kd.gH (p:=⟨gb,4,none⟩) (Kd.gH (p:=⟨gb,3,none⟩) N5.out (fun _ hq=>hq.2) (.int .i64 op)) (fun _ hq=>hq.2) (.int .i64 n)) (fun _ hq=>hq.2) (.slice B5 la.length d5))
  clear p3 p4 p5 f3 f4 f5 X2 B2 N5
  generalize (((w2.setCell ⟨gb,3,none⟩ (.int .i64 op)).setCell ⟨gb,4,none⟩ (.int .i64 n)).setCell ⟨gb,5,none⟩ (.slice B5 la.length d5))=w3 at X BW N5_ ⊢
  have N5:=N5_
  clear N5_
  have p6:w3.cell? ⟨gb,6,none⟩=some (.slice A6 x.f4.length c6):=aA X.out 6
  go_upto_region 3 with (first|((with_reducible refine aD (f:=38) rfl ?_);refine aU (some 10) rfl rfl Try.func38 (by kernel_rfl) rfl #[.slice A6 x.f4.length c6] rfl (by (try simp only [List.map_toArray,List.map_cons,List.map_nil]);first|done|rfl) ?_;(with_reducible refine (ihA k (Nat.lt_succ_self k) A6 c6 x.f4 lb _ (Kd.aI H6.out BW.out) L6.out j3.out).mono ?_);rintro e w4 ⟨v5,rfl,hn,hb⟩;refine ⟨_,rfl,?_⟩;obtain ⟨B6,d6,rfl⟩:=Kd.iB hn;have GL2:=dM X.out;have hle:=BW.out.size;have N6:=am (Kd.eX (ok':=fun q=>w.heap.size≤q∧q≠gb) (Kd.kK hn hle) (fun q hq=>⟨Nat.le_trans hle hq,fun e=>by omega⟩));have tN5:=am (Kd.gU N5.out hb);have X2:=am (aJ X.out hb);have B2:=am (aC BW.out hb);clear hn hb hle GL2 p6 X BW N5;have N5:=tN5;clear tN5;have p6:w4.cell? ⟨gb,6,none⟩=some (.slice A6 x.f4.length c6):=aA X2.out 6;have f6:=aH X2.out 6)|fail)
  have X:=am (aT (cs':=#[(.int .i64 x.f0),(.int .i64 x.f1),(.int .i64 x.f2),(.int .i64 op),(.int .i64 n),(.slice B5 la.length d5),(.slice B6 lb.length d6),(.slice A7 x.f5.length c7)]) X2.out 6 (.slice B6 lb.length d6) rfl)
  have BW:=am (below_set (j:=6) (v:=(.slice B6 lb.length d6)) B2.out GW.out)
  have tN5:=am (Kd.gH (p:=⟨gb,6,none⟩) N5.out (fun _ hq=>hq.2) (.slice B6 lb.length d6))
  have tN6:=am (Kd.gH (p:=⟨gb,6,none⟩) N6.out (fun _ hq=>hq.2) (.slice B6 lb.length d6))
  clear p6 f6 X2 B2 N5 N6
  generalize (w4.setCell ⟨gb,6,none⟩ (.slice B6 lb.length d6))=w5 at X BW tN5 tN6 ⊢
  have N5:=tN5
  have N6:=tN6
  clear tN5 tN6
  have p7:w5.cell? ⟨gb,7,none⟩=some (.slice A7 x.f5.length c7):=aA X.out 7
  go_upto_region 4 with (first|((with_reducible refine aD (f:=38) rfl ?_);refine aU (some 14) rfl rfl Try.func38 (by kernel_rfl) rfl #[.slice A7 x.f5.length c7] rfl (by (try simp only [List.map_toArray,List.map_cons,List.map_nil]);first|done|rfl) ?_;(with_reducible refine (ihA k (Nat.lt_succ_self k) A7 c7 x.f5 le _ (Kd.aI H7.out BW.out) L7.out j4.out).mono ?_);rintro e w6 ⟨v5,rfl,hn,hb⟩;refine ⟨_,rfl,?_⟩;obtain ⟨B7,d7,rfl⟩:=Kd.iB hn;have GL2:=dM X.out;have hle:=BW.out.size;have N7:=am (Kd.eX (ok':=fun q=>w.heap.size≤q∧q≠gb) (Kd.kK hn hle) (fun q hq=>⟨Nat.le_trans hle hq,fun e=>by omega⟩));have tN5:=am (Kd.gU N5.out hb);have tN6:=am (Kd.gU N6.out hb);have X2:=am (aJ X.out hb);have B2:=am (aC BW.out hb);clear hn hb hle GL2 p7 X BW N5 N6;have N5:=tN5;clear tN5;have N6:=tN6;clear tN6;have p7:w6.cell? ⟨gb,7,none⟩=some (.slice A7 x.f5.length c7):=aA X2.out 7;have f7:=aH X2.out 7)|fail)
  have X:=am (aT (cs':=#[(.int .i64 x.f0),(.int .i64 x.f1),(.int .i64 x.f2),(.int .i64 op),(.int .i64 n),(.slice B5 la.length d5),(.slice B6 lb.length d6),(.slice B7 le.length d7)]) X2.out 7 (.slice B7 le.length d7) rfl)
  have BW:=am (below_set (j:=7) (v:=(.slice B7 le.length d7)) B2.out GW.out)
  have tN5:=am (Kd.gH (p:=⟨gb,7,none⟩) N5.out (fun _ hq=>hq.2) (.slice B7 le.length d7))
  have tN6:=am (Kd.gH (p:=⟨gb,7,none⟩) N6.out (fun _ hq=>hq.2) (.slice B7 le.length d7))
  have tN7:=am (Kd.gH (p:=⟨gb,7,none⟩) N7.out (fun _ hq=>hq.2) (.slice B7 le.length d7))
  clear p7 f7 X2 B2 N5 N6 N7
  generalize (w6.setCell ⟨gb,7,none⟩ (.slice B7 le.length d7))=w7 at X BW tN5 tN6 tN7 ⊢
  have N5:=tN5
  have N6:=tN6
  have N7:=tN7
  clear tN5 tN6 tN7
  have p0:w7.cell? ⟨gb,0,none⟩=some (.int .i64 x.f0):=aA X.out 0
  have p1:w7.cell? ⟨gb,1,none⟩=some (.int .i64 x.f1):=aA X.out 1
  have p2:w7.cell? ⟨gb,2,none⟩=some (.int .i64 x.f2):=aA X.out 2
  have p3:w7.cell? ⟨gb,3,none⟩=some (.int .i64 op):=aA X.out 3
  have p4:w7.cell? ⟨gb,4,none⟩=some (.int .i64 n):=aA X.out 4
  have p5:w7.cell? ⟨gb,5,none⟩=some (.slice B5 la.length d5):=aA X.out 5
  have p6:w7.cell? ⟨gb,6,none⟩=some (.slice B6 lb.length d6):=aA X.out 6
  have p7:w7.cell? ⟨gb,7,none⟩=some (.slice B7 le.length d7):=aA X.out 7
  have HX:=X
  clear X GE GL GW HE j3 j4 H5 H6 H7 L5 L6 L7 ihA
  by_cases k2:x.f0=2 <;> by_cases k3:x.f0=3 <;> by_cases k0:op=0 <;> by_cases kn:n=0
  all_goals first
    |(exact absurd (k2.symm.trans k3) (by decide))
    | ((first|have e2:(x.f0 == 2)=true:=beq_iff_eq.mpr k2|have e2:(x.f0 == 2)=false:=beq_eq_false_iff_ne.mpr k2)
       (first|have e3:(x.f0 == 3)=true:=beq_iff_eq.mpr k3|have e3:(x.f0 == 3)=false:=beq_eq_false_iff_ne.mpr k3)
       (first|have e0:(op == 0)=true:=beq_iff_eq.mpr k0|have e0:(op == 0)=false:=beq_eq_false_iff_ne.mpr k0)
       (first|have en:(n == 0)=true:=beq_iff_eq.mpr kn|have en:(n == 0)=false:=beq_eq_false_iff_ne.mpr kn)
       (first|have em:(n != 0)=true:=bne_iff_ne.mpr kn|have em:(n != 0)=false:=bne_eq_false_iff_eq.mpr kn)
       clear k2 k3 k0 kn
       go_wp2_with (first|((with_reducible refine bJ (N:=54) rfl ?_);refine Kd.GZ k70 w7.heap.size 70 rfl (N':=54) rfl (w0:=w7) (xs:=([]:List S70)) (inner:=[]) (ok:=fun q=>w7.heap.size≤q) (okp:=fun _=>False) ?hr (fZ.none _ _) (fun _ hq=>hq.elim) (Nat.le_refl _) (Below.refl _ _) (Nat.le_refl _) (by simp) ?_;(case hr=>first|(go_simp;done)|(go_simp;rfl));intro v9 w8 hn hb _ _;obtain ⟨B9,d9,rfl⟩:=Kd.iB hn;have N9:=am hn;have B9_:=am hb;clear hn hb)|((with_reducible refine bJ (N:=56) rfl ?_);refine Kd.GZ k70 w7.heap.size 70 rfl (N':=56) rfl (w0:=w7) (xs:=[(⟨x.f0,x.f1,x.f2,⟨op,n,la⟩,lb,le⟩:S70)]) (inner:=[(.int .i64 x.f0),(.int .i64 x.f1),(.int .i64 x.f2),(.int .i64 op),(.int .i64 n),(.slice B5 la.length d5),(.slice B6 lb.length d6),(.slice B7 le.length d7)]) (ok:=fun q=>w.heap.size≤q) (okp:=fun q=>w.heap.size≤q∧q≠gb) ?hr (fZ.c8 (show Kd.FK k70 _ _ (⟨x.f0,x.f1,x.f2,⟨op,n,la⟩,lb,le⟩:S70) [(.int .i64 x.f0),(.int .i64 x.f1),(.int .i64 x.f2),(.int .i64 op),(.int .i64 n),(.slice B5 la.length d5),(.slice B6 lb.length d6),(.slice B7 le.length d7)] from aAf _ _ (⟨x.f0,x.f1,x.f2,⟨op,n,la⟩,lb,le⟩:S70) (Kd.kM N5.out).2.1 (Kd.N_F N5.out) (Kd.kM N6.out).2.1 (Kd.N_F N6.out) (Kd.kM N7.out).2.1 (Kd.N_F N7.out)) (fZ.none _ _)) (fun _ hq=>hq.1) BW.out.size (Below.refl _ _) (Nat.le_refl _) (by simp) ?_;(case hr=>first|(go_simp;done)|(go_simp;rfl));intro v9 w8 hn hb _ _;obtain ⟨B9,d9,rfl⟩:=Kd.iB hn;have N9:=am hn;have B9_:=am hb;clear hn hb)|fail)
       go_ret
       first
       |exact ⟨_,rfl,by (simp only [ED,e2,e3,e0,en,em,Bool.true_and,Bool.and_true,Bool.false_and,Bool.and_false,if_true,if_false,Bool.false_eq_true]);exact (Kd.eX N6.out (fun _ hq=>hq.1)),BW.out⟩
       |exact ⟨_,rfl,by (simp only [ED,e2,e3,e0,en,em,Bool.true_and,Bool.and_true,Bool.false_and,Bool.and_false,if_true,if_false,Bool.false_eq_true]);exact (Kd.eX N7.out (fun _ hq=>hq.1)),BW.out⟩
       |exact ⟨_,rfl,by (simp only [ED,e2,e3,e0,en,em,Bool.true_and,Bool.and_true,Bool.false_and,Bool.and_false,if_true,if_false,Bool.false_eq_true]);exact (Kd.eX (Kd.kK N9.out BW.out.size) (fun _ hq=>Nat.le_trans BW.out.size hq)),(aC BW.out B9_.out)⟩
       | exact ⟨_,rfl,by (simp only [ED,e2,e3,e0,en,em,Bool.true_and,Bool.and_true,Bool.false_and,Bool.and_false,if_true,if_false,Bool.false_eq_true]);exact (Kd.kK N9.out BW.out.size),(aC BW.out B9_.out)⟩)
theorem aX.step (k:Nat) (ihT:∀ m,m < k→fB.bY m):aX.bY k:=by
 intro A0 c0 l0 r w hr0 hc0 h
 cases k with
 |zero=>exact absurd h (by simp [aX.f])
 |succ k=>
 simp only [aX.f] at h
 have j6:=am hr0
 have ja:=am hc0
 have H':=am h
 clear hr0 hc0 h
 go_enter Try.func38,Try.ntmps38
 go_wp2_with (first|((with_reducible refine bJ (N:=5) rfl ?_);refine Kd.GZ k70 w.heap.size 70 rfl (N':=5) rfl (w0:=w) (xs:=([]:List S70)) (inner:=[]) (ok:=fun q=>w.heap.size≤q) (okp:=fun _=>False) ?hr (fZ.none _ _) (fun _ hq=>hq.elim) (Nat.le_refl _) (Below.refl _ _) (Nat.le_refl _) (by simp) ?_;(case hr=>first|(go_simp;done)|(go_simp;rfl));intro v3 w4 hn hb hg_ hnew_;clear hg_ hnew_;have HO:=am hn;have HB:=am hb;clear hn hb)|fail)
 go_loopg [3,4] k (fun kq v3 v4 w'=>∃ (x3:List S70) (x4:Int),v4= .int .i64 x4∧Aside0 (aX.l0 kq l0 x3 x4=some r)∧Aside0 (kq≤k)∧Aside0 (Kd.N k70 70 w' w.heap.size (fun q=>w.heap.size≤q) v3 x3)∧Aside0 (Below w.heap.size w w'))
 case atStart=>exact ⟨_,0,rfl,H',⟨Nat.le_refl _⟩,HO,HB⟩
 case round=>
  clear H'
  (try clear HO HB)
  obtain ⟨x3,x4,rfl,HA,j4,HO,HB⟩:=hrel
  obtain ⟨B3,d3,rfl⟩:=Kd.iB HO.out
  cases gk with
  |zero=>exact absurd HA.out (by simp [aX.l0])
  |succ k1=>
   have H:=HA.out
   clear HA
   simp only [aX.l0] at H
   by_cases c6:x4 < (l0.length:Int)
   ·rw [if_pos c6] at H
    by_cases c7:0≤x4
    ·rw [if_pos c7] at H
     obtain ⟨y,hs,H⟩:=bsm H
     by_cases c9:x3.length + y.length < 1256584717458
     ·rw [if_pos c9] at H
      have HS:=am hs
      have H':=am H
      clear hs H
      obtain ⟨ad,A5,c5,A6,d6,A7,d7,e0,x0,x1,x2,y3,y4,y5,y6,y7,l5,g5,l6,g6,l7,g7⟩:=eY j6.out x4 c7 c6
      cases e0
      replace x0:=(HB.out.cell (World.block_lt_of_cell? w _ x0)).trans x0
      replace x1:=(HB.out.cell (World.block_lt_of_cell? w _ x1)).trans x1
      replace x2:=(HB.out.cell (World.block_lt_of_cell? w _ x2)).trans x2
      replace y3:=(HB.out.cell (World.block_lt_of_cell? w _ y3)).trans y3
      replace y4:=(HB.out.cell (World.block_lt_of_cell? w _ y4)).trans y4
      replace y5:=(HB.out.cell (World.block_lt_of_cell? w _ y5)).trans y5
      replace y6:=(HB.out.cell (World.block_lt_of_cell? w _ y6)).trans y6
      replace y7:=(HB.out.cell (World.block_lt_of_cell? w _ y7)).trans y7
      have G5:=am (Kd.aI g5 HB.out)
      have G6:=am (Kd.aI g6 HB.out)
      have G7:=am (Kd.aI g7 HB.out)
      have L5:=am l5
      have L6:=am l6
      have L7:=am l7
      have C9:=am c9
      have j7:decide (x4 < (l0.length:Int))=true:=decide_eq_true c6
      have q0:=eq_true c7
      have q1:=eq_true c6
      clear g5 g6 g7 l5 l6 l7 c6 c7 c9
      go_wp2_with (first|((with_reducible refine aD (f:=65) rfl ?_);refine aU (some 17) rfl rfl Try.func65 (by kernel_rfl) rfl #[.agg #[(.int .i64 (aG l0 x4).f0),(.int .i64 (aG l0 x4).f1),(.int .i64 (aG l0 x4).f2),(.int .i64 (aG l0 x4).f3.f0),(.int .i64 (aG l0 x4).f3.f1),(.slice A5 (aG l0 x4).f3.f2.length c5),(.slice A6 (aG l0 x4).f4.length d6),(.slice A7 (aG l0 x4).f5.length d7)]] rfl (by (try simp only [List.map_toArray,List.map_cons,List.map_nil]);first|done|rfl) ?_;(with_reducible refine (ihT k1 (by have:=j4.out;omega) (aG l0 x4) A5 c5 A6 d6 A7 d7 y _ G5.out L5.out G6.out L6.out G7.out L7.out HS.out).mono ?_);rintro e jb ⟨jc,rfl,hn,hb⟩;refine ⟨_,rfl,?_⟩;obtain ⟨j8,j9,rfl⟩:=Kd.iB hn;have j5:=am hn;have OL:=am (Kd.LK HO.out);have OE:=am (Kd.gU HO.out hb);have j3:=am (aC HB.out hb);have SZ:=am HB.out.size;clear hn hb HO HB)|((with_reducible refine bJ (N:=18) rfl ?_);refine Kd.CG k70 (w0:=w) w.heap.size rfl (.tmp 12) (.tmp 17) 37 70 (.agg #[(.int .i64 0),(.int .i64 0),(.int .i64 0),(.int .i64 0),(.int .i64 0),(.slice none 0 0),(.slice none 0 0),(.slice none 0 0)]) 112 rfl Try.underlying37 BL rfl (by decide) (by omega) (.slice B3 x3.length d3) x3 y j8 y.length j9 (fun q=>w.heap.size≤q) _ rfl rfl OE.out (Kd.N_F j5.out) ?aK ?aF j3.out j3.out.size ?aL ?_;(case aK=>exact fun q hq=>⟨Nat.le_trans SZ.out hq,fun e=>by have:=OL.out q e.symm;omega⟩);(case aF=>exact fun q hq=>Nat.le_trans j3.out.size hq);(case aL=>(have:=C9.out;omega));intro jd je hn hb hg_ hat_;clear hg_ hat_;have HO:=am hn;have HB:=am hb;clear hn hb OE OL j3 j5 SZ)|fail)
      go_roundg k1
      case measure=>have:=j4.out;omega
      case rel=>exact ⟨_,wrap64 (x4 + 1),sd_,H',⟨by have:=j4.out;omega⟩,HO,HB⟩
     rw [if_neg c9] at H
     exact absurd H (by simp)
    rw [if_neg c7] at H
    exact absurd H (by simp)
   rw [if_neg c6] at H
   have j7:decide (x4 < (l0.length:Int))=false:=decide_eq_false c6
   clear c6
   obtain rfl:=Option.some.inj H
   go_wp2
   go_ret
   exact ⟨_,rfl,HO.out,HB.out⟩
theorem aX.calls_all (k:Nat):aX.bY k∧fB.bY k:=by
 induction k using Nat.strongRecOn with
 | _ k ih=>exact ⟨aX.step k (fun m hm=>(ih m hm).2),fB.step k (fun m hm=>(ih m hm).1)⟩
theorem aX.calls (k:Nat):aX.bY k:=(aX.calls_all k).1
theorem gB.mono_l:∀ k,(∀ y0 y1 y2 y3,LeO (gB.f k y0 y1 y2 y3) (gB.f (k + 1) y0 y1 y2 y3))
 |0=>fun _ _ _ _ r h=>by simp [gB.f] at h
 |k + 1=>by
  have ih0:=gB.mono_l k
  ·intro y0 y1 y2 y3
   unfold gB.f
   exact mo_
theorem gB.mono:∀ a0 a1 a2 a3 k,LeO (gB.f k a0 a1 a2 a3) (gB.f (k + 1) a0 a1 a2 a3):=by
 intro a0 a1 a2 a3 k
 have ih0:=gB.mono_l k
 exact ih0 a0 a1 a2 a3
theorem gB.calls (k:Nat):∀ (j7:Int) (j8:Int) (jg:Option Addr) (jh:Nat) (j3:List (S28)) (a1:Int) (r:Bool) (w:World) (hr0_2:Kd.C k28 w jg j3.length j3) (hc0_2:j3.length≤jh) (h:gB.f k j7 j8 j3 a1=some r),
  Calls Try.prog 56 #[.agg #[.int .i64 j7, .int .i64 j8, .slice jg j3.length jh], .int .i64 a1] w fun e w'=>e= .returned (.bool r)∧Below w.heap.size w w':=by
 induction k using Nat.strongRecOn with
 | _ k ih=>
 intro j7 j8 jg jh j3 a1 r w hr0_2 hc0_2 h
 cases k with
 |zero=>exact absurd h (by simp [gB.f])
 |succ k=>
 simp only [gB.f] at h
 have hu28:=Try.underlying28
 have jf:=am hr0_2
 have qL:=am hc0_2
 clear hr0_2 hc0_2
 have HB:=am (Below.refl w.heap.size w)
 have H:=h
 clear h
 have HH_:=am H
 clear H
 go_enter Try.func56,Try.ntmps56
 go_upto_region 1 with (first|((with_reducible refine bJ (N:=2) rfl ?_);(try (refine lW (by rfl) ?_;dsimp only));refine bR rfl (N:=2) rfl (cs:=#[.int .i64 j7, .int .i64 j8, .slice jg j3.length jh]) (t:=28) rn_ ?_;intro jp hg w4 hbox hb;have j9:=am (hbox);have qY:=am ((by rw [hg];exact (aN dN):w.heap.size≤jp));have GE44:=am ((by rw [hg];exact (aN dN):w.heap.size≤jp));replace HB:=am (aC dN hb);clear hb hbox hg))
 have H:=HH_.out
 clear HH_
 by_cases c3:a1 < 1
 ·rw [if_pos c3] at H
  have qx:decide (a1 < 1)=true:=decide_eq_true c3
  clear c3
  obtain rfl:=Option.some.inj H
  go_wp2
  go_ret
  exact ⟨rr_,oV⟩
 rw [if_neg c3] at H
 have qx:decide (a1 < 1)=false:=decide_eq_false c3
 clear c3
 by_cases c5:j7=0
 ·rw [if_pos c5] at H
  have qy:(j7 == 0)=true:=beq_iff_eq.mpr c5
  have qz:(j7 != 0)=false:=bne_eq_false_iff_eq.mpr c5
  clear c5
  obtain ⟨qZ,A6,H⟩:=bsa H
  (try dsimp only at H)
  by_cases c7:qZ=true
  ·subst c7
   rw [if_pos rfl] at H
   obtain rfl:=Option.some.inj H
   obtain ⟨qA,qB,qC,qD,qE,qF⟩:=gW j9.out
   go_wp2_with (first|((with_reducible refine aD (f:=59) rfl ?_);refine aU (some 12) rfl rfl Try.func59 (by kernel_rfl) rfl #[.int .i64 j8, .int .i64 0, .int .i64 99999] rfl dK ?_;(with_reducible refine (fD.calls j8 0 99999 true _ A6.out).mono ?_);rintro e w' ⟨rfl,⟨nd,rfl⟩⟩;refine ⟨_,rfl,?_⟩))
   go_ret
   exact ⟨rr_,oV⟩
  replace c7:=Bool.eq_false_iff.mpr c7
  subst c7
  rw [if_neg (show ¬ (false=true) by decide)] at H
  obtain rfl:=Option.some.inj H
  obtain ⟨jA,jB,jC,jD,jE,jF⟩:=gW j9.out
  go_wp2_with (first|((with_reducible refine aD (f:=59) rfl ?_);refine aU (some 12) rfl rfl Try.func59 (by kernel_rfl) rfl #[.int .i64 j8, .int .i64 0, .int .i64 99999] rfl dK ?_;(with_reducible refine (fD.calls j8 0 99999 false _ A6.out).mono ?_);rintro e w' ⟨rfl,⟨nd,rfl⟩⟩;refine ⟨_,rfl,?_⟩))
  go_ret
  exact ⟨rr_,oV⟩
 rw [if_neg c5] at H
 have qy:(j7 == 0)=false:=beq_eq_false_iff_ne.mpr c5
 have qz:(j7 != 0)=true:=bne_iff_ne.mpr c5
 by_cases ji:j7=13
 ·rw [if_pos ji] at H
  have jq:(j7 == 13)=true:=beq_iff_eq.mpr ji
  have jr:(j7 != 13)=false:=bne_eq_false_iff_eq.mpr ji
  clear ji
  obtain ⟨z0,qM,H⟩:=bsm H
  (try dsimp only at H)
  have qN:=am qM
  clear qM
  by_cases jG:z0=true
  ·subst jG
   rw [if_pos rfl] at H
   obtain rfl:=Option.some.inj H
   obtain ⟨jH,jI,jJ,jK,jL,jM⟩:=gW j9.out
   go_wp2_with (first|((with_reducible refine aD (f:=59) rfl ?_);refine aU (some 24) rfl rfl Try.func59 (by kernel_rfl) rfl #[.int .i64 j8, .int .i64 0, .int .i64 3] rfl dK ?_;(with_reducible refine (fD.calls j8 0 3 true _ qN.out).mono ?_);rintro e w' ⟨rfl,⟨nd,rfl⟩⟩;refine ⟨_,rfl,?_⟩))
   go_ret
   exact ⟨rr_,oV⟩
  replace jG:=Bool.eq_false_iff.mpr jG
  subst jG
  rw [if_neg (show ¬ (false=true) by decide)] at H
  obtain rfl:=Option.some.inj H
  obtain ⟨jN,jO,jP,jQ,jR,jS⟩:=gW j9.out
  go_wp2_with (first|((with_reducible refine aD (f:=59) rfl ?_);refine aU (some 24) rfl rfl Try.func59 (by kernel_rfl) rfl #[.int .i64 j8, .int .i64 0, .int .i64 3] rfl dK ?_;(with_reducible refine (fD.calls j8 0 3 false _ qN.out).mono ?_);rintro e w' ⟨rfl,⟨nd,rfl⟩⟩;refine ⟨_,rfl,?_⟩))
  go_ret
  exact ⟨rr_,oV⟩
 rw [if_neg ji] at H
 have jq:(j7 == 13)=false:=beq_eq_false_iff_ne.mpr ji
 have jr:(j7 != 13)=true:=bne_iff_ne.mpr ji
 obtain ⟨z1,qO,H⟩:=bsm H
 (try dsimp only at H)
 have js:=am qO
 clear qO
 by_cases jT:z1=true
 ·subst jT
  rw [if_pos rfl] at H
  by_cases jj:j8=0
  ·rw [if_pos jj] at H
   have jt:(j8 == 0)=true:=beq_iff_eq.mpr jj
   have ju:(j8 != 0)=false:=bne_eq_false_iff_eq.mpr jj
   clear jj
   by_cases jk:(j3.length:Int)=2
   ·rw [if_pos jk] at H
    have jv:((j3.length:Int) == 2)=true:=beq_iff_eq.mpr jk
    have jw:((j3.length:Int) != 2)=false:=bne_eq_false_iff_eq.mpr jk
    clear jk
    by_cases jU:0 < (j3.length:Int)
    ·rw [if_pos jU] at H
     have qP:decide (0 < (j3.length:Int))=true:=decide_eq_true jU
     have qQ:decide (0 < j3.length)=true:=decide_eq_true (by omega)
     clear jU
     obtain ⟨z2,qR,H⟩:=bsm H
     (try dsimp only at H)
     have qS:=am qR
     clear qR
     by_cases jV:z2=true
     ·subst jV
      rw [if_pos rfl] at H
      by_cases jW:1 < (j3.length:Int)
      ·rw [if_pos jW] at H
       have qT:decide (1 < (j3.length:Int))=true:=decide_eq_true jW
       have qU:decide (1 < j3.length)=true:=decide_eq_true (by omega)
       clear jW
       obtain ⟨z3,qV,H⟩:=bsm H
       (try dsimp only at H)
       have z4:=am qV
       clear qV
       obtain rfl:=Option.some.inj H
       obtain ⟨jX,jY,jZ,q0,q1,q2⟩:=gW j9.out
       go_wp2_with (first|((with_reducible refine aD (f:=70) rfl ?_);refine aU (some 33) rfl rfl Try.func70 (by kernel_rfl) rfl #[.int .i64 j7] rfl dK ?_;(with_reducible refine (gJ.calls j7 true _ js.out).mono ?_);rintro e w' ⟨rfl,⟨nd,rfl⟩⟩;refine ⟨_,rfl,?_⟩;have jl:0≤(0:Int):=(by omega);have jm:0 < (j3.length:Int):=of_decide_eq_true bT;obtain ⟨jx,jy,jz,qG,j4,j5,j6,hl49_2,hi49_2⟩:=kC jf.out 0 jl jm;cases qG;have qH:(0 < j3.length)=True:=eq_true (by omega);(try rw [show ((0:Int)).toNat=0 from rfl] at j4);(try rw [show 0 * 3=0 from rfl] at j4);(try rw [Addr.add_zero'] at j4);(try rw [show ((0:Int)).toNat=0 from rfl] at j5);(try rw [show 0 * 3=0 from rfl] at j5);(try rw [Addr.add_zero'] at j5);(try rw [show ((0:Int)).toNat=0 from rfl] at j6);(try rw [show 0 * 3=0 from rfl] at j6);(try rw [Addr.add_zero'] at j6);replace j4:=(HB.out.cell (World.block_lt_of_cell? w _ j4)).trans j4;replace j5:=(HB.out.cell (World.block_lt_of_cell? w _ j5)).trans j5;replace j6:=(HB.out.cell (World.block_lt_of_cell? w _ j6)).trans j6;have jd:=am hi49_2;have je:=am hl49_2;clear hi49_2 hl49_2;replace jl:=eq_true jl;replace jm:=eq_true jm)|(go_at_call 56;(with_reducible refine (ih k (by omega) ((bH j3 0).f0) ((bH j3 0).f1) _ _ ((bH j3 0).f2) (wrap64 (a1 - 1)) true _ (aC_ (Kd.aI jd.out oV)) je.out qS.out).mono ?_);rintro e z7 ⟨rfl,hb⟩;replace j9:=bbP j9 hb;replace HB:=am (aC oV hb);(try clear hb);obtain ⟨q3,q4,q5,q6,q7,q8⟩:=gW j9.out;have qI:0≤(1:Int):=(by omega);have qJ:1 < (j3.length:Int):=of_decide_eq_true bT;obtain ⟨qK,qW,qX,z5,ja,jb,jc,hl50_2,hi50_2⟩:=kC jf.out 1 qI qJ;obtain rfl:jx=qK:=(by injection z5);(try simp only [show (1:Int).toNat=1 from rfl,Nat.reduceMul,Nat.reduceEqDiff,Go.Addr.add,↓reduceIte] at ja);(try simp only [show (1:Int).toNat=1 from rfl,Nat.reduceMul,Nat.reduceEqDiff,Go.Addr.add,↓reduceIte] at jb);(try simp only [show (1:Int).toNat=1 from rfl,Nat.reduceMul,Nat.reduceEqDiff,Go.Addr.add,↓reduceIte] at jc);have z6:(1 < j3.length)=True:=eq_true (by omega);(try rw [show ((1:Int)).toNat=1 from rfl] at ja);(try rw [show 1 * 3=3 from rfl] at ja);(try rw [show ((1:Int)).toNat=1 from rfl] at jb);(try rw [show 1 * 3=3 from rfl] at jb);(try rw [show ((1:Int)).toNat=1 from rfl] at jc);(try rw [show 1 * 3=3 from rfl] at jc);replace ja:=(HB.out.cell (World.block_lt_of_cell? w _ ja)).trans ja;replace jb:=(HB.out.cell (World.block_lt_of_cell? w _ jb)).trans jb;replace jc:=(HB.out.cell (World.block_lt_of_cell? w _ jc)).trans jc;have jn:=am hi50_2;have jo:=am hl50_2;clear hi50_2 hl50_2;replace qI:=eq_true qI;replace qJ:=eq_true qJ)|(go_at_call 56;(with_reducible refine (ih k (by omega) ((bH j3 1).f0) ((bH j3 1).f1) _ _ ((bH j3 1).f2) (wrap64 (a1 - 1)) z3 _ (aC_ (Kd.aI jn.out HB.out)) jo.out z4.out).mono ?_);rintro e z8 ⟨rfl,hb⟩;replace j9:=bbP j9 hb;replace HB:=am (aC oV hb);(try clear hb)))
       go_ret
       exact ⟨rr_,oV⟩
      rw [if_neg jW] at H
      exact absurd H (by simp)
     replace jV:=Bool.eq_false_iff.mpr jV
     subst jV
     rw [if_neg (show ¬ (false=true) by decide)] at H
     obtain rfl:=Option.some.inj H
     obtain ⟨q9,qa,qb,qc,qd,qe⟩:=gW j9.out
     go_wp2_with (first|((with_reducible refine aD (f:=70) rfl ?_);refine aU (some 33) rfl rfl Try.func70 (by kernel_rfl) rfl #[.int .i64 j7] rfl dK ?_;(with_reducible refine (gJ.calls j7 true _ js.out).mono ?_);rintro e w' ⟨rfl,⟨nd,rfl⟩⟩;refine ⟨_,rfl,?_⟩;have jl:0≤(0:Int):=(by omega);have jm:0 < (j3.length:Int):=of_decide_eq_true bT;obtain ⟨jx,jy,jz,qG,j4,j5,j6,hl49_2,hi49_2⟩:=kC jf.out 0 jl jm;cases qG;have qH:(0 < j3.length)=True:=eq_true (by omega);(try rw [show ((0:Int)).toNat=0 from rfl] at j4);(try rw [show 0 * 3=0 from rfl] at j4);(try rw [Addr.add_zero'] at j4);(try rw [show ((0:Int)).toNat=0 from rfl] at j5);(try rw [show 0 * 3=0 from rfl] at j5);(try rw [Addr.add_zero'] at j5);(try rw [show ((0:Int)).toNat=0 from rfl] at j6);(try rw [show 0 * 3=0 from rfl] at j6);(try rw [Addr.add_zero'] at j6);replace j4:=(HB.out.cell (World.block_lt_of_cell? w _ j4)).trans j4;replace j5:=(HB.out.cell (World.block_lt_of_cell? w _ j5)).trans j5;replace j6:=(HB.out.cell (World.block_lt_of_cell? w _ j6)).trans j6;have jd:=am hi49_2;have je:=am hl49_2;clear hi49_2 hl49_2;replace jl:=eq_true jl;replace jm:=eq_true jm)|(go_at_call 56;(with_reducible refine (ih k (by omega) ((bH j3 0).f0) ((bH j3 0).f1) _ _ ((bH j3 0).f2) (wrap64 (a1 - 1)) false _ (aC_ (Kd.aI jd.out oV)) je.out qS.out).mono ?_);rintro e z9 ⟨rfl,hb⟩;replace j9:=bbP j9 hb;replace HB:=am (aC oV hb);(try clear hb)))
     go_ret
     exact ⟨rr_,oV⟩
    rw [if_neg jU] at H
    exact absurd H (by simp)
   rw [if_neg jk] at H
   have jv:((j3.length:Int) == 2)=false:=beq_eq_false_iff_ne.mpr jk
   have jw:((j3.length:Int) != 2)=true:=bne_iff_ne.mpr jk
   obtain rfl:=Option.some.inj H
   obtain ⟨qf,qg,qh,qi,qj,qk⟩:=gW j9.out
   go_wp2_with (first|((with_reducible refine aD (f:=70) rfl ?_);refine aU (some 33) rfl rfl Try.func70 (by kernel_rfl) rfl #[.int .i64 j7] rfl dK ?_;(with_reducible refine (gJ.calls j7 true _ js.out).mono ?_);rintro e w' ⟨rfl,⟨nd,rfl⟩⟩;refine ⟨_,rfl,?_⟩))
   go_ret
   exact ⟨rr_,oV⟩
  rw [if_neg jj] at H
  have jt:(j8 == 0)=false:=beq_eq_false_iff_ne.mpr jj
  have ju:(j8 != 0)=true:=bne_iff_ne.mpr jj
  obtain rfl:=Option.some.inj H
  obtain ⟨ql,qm,qn,qo,qp,qq⟩:=gW j9.out
  go_wp2_with (first|((with_reducible refine aD (f:=70) rfl ?_);refine aU (some 33) rfl rfl Try.func70 (by kernel_rfl) rfl #[.int .i64 j7] rfl dK ?_;(with_reducible refine (gJ.calls j7 true _ js.out).mono ?_);rintro e w' ⟨rfl,⟨nd,rfl⟩⟩;refine ⟨_,rfl,?_⟩))
  go_ret
  exact ⟨rr_,oV⟩
 replace jT:=Bool.eq_false_iff.mpr jT
 subst jT
 rw [if_neg (show ¬ (false=true) by decide)] at H
 obtain rfl:=Option.some.inj H
 obtain ⟨qr,qs,qt,qu,qv,qw⟩:=gW j9.out
 go_wp2_with (first|((with_reducible refine aD (f:=70) rfl ?_);refine aU (some 33) rfl rfl Try.func70 (by kernel_rfl) rfl #[.int .i64 j7] rfl dK ?_;(with_reducible refine (gJ.calls j7 false _ js.out).mono ?_);rintro e w' ⟨rfl,⟨nd,rfl⟩⟩;refine ⟨_,rfl,?_⟩))
 go_ret
 exact ⟨rr_,oV⟩
theorem dG.mono:∀ a0 a1 a2 k,LeO (dG.f k a0 a1 a2) (dG.f (k + 1) a0 a1 a2):=by
 intro a0 a1 a2 k
 unfold dG.f
 have m0:=@gB.mono
 exact mo_
theorem dG.calls (k:Nat) (j4:Int) (j5:Int) (j6:Option Addr) (j7:Nat) (j3:List (S28)) (r:Bool) (w:World) (hr0_2:Kd.C k28 w j6 j3.length j3) (hc0_2:j3.length≤j7) (h:dG.f k j4 j5 j3=some r):
  Calls Try.prog 28 #[.agg #[.int .i64 j4, .int .i64 j5, .slice j6 j3.length j7]] w fun e w'=>e= .returned (.bool r)∧Below w.heap.size w w':=by
 have hu28:=Try.underlying28
 have j9:=am hr0_2
 have ja:=am hc0_2
 clear hr0_2 hc0_2
 have HB:=am (Below.refl w.heap.size w)
 have H:((gB.f k j4 j5 j3 5).bind fun jc=>(some jc))=some r:=h
 clear h
 obtain ⟨jc,A2,H⟩:=bsa H
 (try dsimp only at H)
 obtain rfl:=Option.some.inj H
 go_enter Try.func28,Try.ntmps28
 go_wp2_with (first|((with_reducible refine bJ (N:=1) rfl ?_);refine bR rfl (N:=1) rfl (cs:=#[.int .i64 j4, .int .i64 j5, .slice j6 j3.length j7]) (t:=28) rn_ ?_;intro jb hg w3 hbox hb;have j8:=am (hbox);have jj:=am ((by rw [hg];exact (aN dN):w.heap.size≤jb));have GE22:=am ((by rw [hg];exact (aN dN):w.heap.size≤jb));replace HB:=am (aC dN hb);clear hb hbox hg;obtain ⟨jd,je,jf,jg,jh,ji⟩:=gW j8.out)|((with_reducible refine aD (f:=56) rfl ?_);refine aU (some 4) rfl rfl Try.func56 (by kernel_rfl) rfl #[.agg #[.int .i64 j4, .int .i64 j5, .slice j6 j3.length j7], .int .i64 5] rfl dK ?_;(with_reducible refine (gB.calls k j4 j5 _ _ j3 5 jc _ (aC_ (Kd.aI j9.out HB.out)) ja.out A2.out).mono ?_);rintro e w5 ⟨rfl,hb⟩;refine ⟨_,rfl,?_⟩;replace j8:=bbP j8 hb;replace HB:=am (aC lN hb);(try clear hb)))
 go_ret
 exact ⟨rr_,lN⟩
theorem dW.calls (j7:Int) (j3:Int) (j8:Int) (j9:Int) (ja:Int) (jb:Option Addr) (jc:Nat) (j4:List (S28)) (jd:Option Addr) (je:Nat) (j5:List (S70)) (jf:Option Addr) (jg:Nat) (j6:List (S70)) (a1:Bool) (r:Bool) (w:World) (hr0_5:Kd.C k28 w jb j4.length j4) (hc0_5:j4.length≤jc) (hr0_6:Kd.C k70 w jd j5.length j5) (hc0_6:j5.length≤je) (hr0_7:Kd.C k70 w jf j6.length j6) (hc0_7:j6.length≤jg) (h:dW.f j7 j3 j8 j9 ja j4 j5 j6 a1=some r):
  Calls Try.prog 83 #[.agg #[.int .i64 j7, .int .i64 j3, .int .i64 j8, .int .i64 j9, .int .i64 ja, .slice jb j4.length jc, .slice jd j5.length je, .slice jf j6.length jg], .bool a1] w fun e w'=>e= .returned (.bool r)∧Below w.heap.size w w':=by
 have hu70:=Try.underlying70
 have jA:=am hr0_5
 have jB:=am hc0_5
 clear hr0_5 hc0_5
 have jC:=am hr0_6
 have jD:=am hc0_6
 clear hr0_6 hc0_6
 have jE:=am hr0_7
 have jF:=am hc0_7
 clear hr0_7 hc0_7
 have HB:=am (Below.refl w.heap.size w)
 have H:(if a1=true then ((fD.f j3 0 3).bind fun ji=>(some ji)) else (some (j3 == 0)))=some r:=h
 clear h
 have HH_:=am H
 clear H
 go_enter Try.func83,Try.ntmps83
 go_upto_region 1 with (first|((with_reducible refine bJ (N:=2) rfl ?_);refine bR rfl (N:=2) rfl (cs:=#[.int .i64 j7, .int .i64 j3, .int .i64 j8, .int .i64 j9, .int .i64 ja, .slice jb j4.length jc, .slice jd j5.length je, .slice jf j6.length jg]) (t:=70) rn_ ?_;intro jh hg w5 hbox hb;have jj:=am (hbox);have jG:=am ((by rw [hg];exact (aN dN):w.heap.size≤jh));have GE21:=am ((by rw [hg];exact (aN dN):w.heap.size≤jh));replace HB:=am (aC dN hb);clear hb hbox hg;obtain ⟨jk,jl,jm,jn,jo,jp,jq,jr,js,jt,ju,jv,jw,jx,jy,jz⟩:=eF jj.out))
 have H:=HH_.out
 clear HH_
 by_cases c3:a1=true
 ·subst c3
  rw [if_pos rfl] at H
  obtain ⟨ji,A4,H⟩:=bsa H
  (try dsimp only at H)
  obtain rfl:=Option.some.inj H
  go_wp2_with (first|((with_reducible refine aD (f:=59) rfl ?_);refine aU (some 8) rfl rfl Try.func59 (by kernel_rfl) rfl #[.int .i64 j3, .int .i64 0, .int .i64 3] rfl dK ?_;(with_reducible refine (fD.calls j3 0 3 ji _ A4.out).mono ?_);rintro e w' ⟨rfl,⟨nd,rfl⟩⟩;refine ⟨_,rfl,?_⟩))
  go_ret
  exact ⟨rr_,nX⟩
 replace c3:=Bool.eq_false_iff.mpr c3
 subst c3
 rw [if_neg (show ¬ (false=true) by decide)] at H
 obtain rfl:=Option.some.inj H
 go_wp2
 go_ret
 exact ⟨rr_,nX⟩
theorem eU.calls (j7:Int) (j8:Int) (j3:Int) (j9:Int) (ja:Int) (jb:Option Addr) (jc:Nat) (j4:List (S28)) (jd:Option Addr) (je:Nat) (j5:List (S70)) (jf:Option Addr) (jg:Nat) (j6:List (S70)) (a1:Bool) (r:Bool) (w:World) (hr0_5:Kd.C k28 w jb j4.length j4) (hc0_5:j4.length≤jc) (hr0_6:Kd.C k70 w jd j5.length j5) (hc0_6:j5.length≤je) (hr0_7:Kd.C k70 w jf j6.length j6) (hc0_7:j6.length≤jg) (h:eU.f j7 j8 j3 j9 ja j4 j5 j6 a1=some r):
  Calls Try.prog 84 #[.agg #[.int .i64 j7, .int .i64 j8, .int .i64 j3, .int .i64 j9, .int .i64 ja, .slice jb j4.length jc, .slice jd j5.length je, .slice jf j6.length jg], .bool a1] w fun e w'=>e= .returned (.bool r)∧Below w.heap.size w w':=by
 have hu70:=Try.underlying70
 have jA:=am hr0_5
 have jB:=am hc0_5
 clear hr0_5 hc0_5
 have jC:=am hr0_6
 have jD:=am hc0_6
 clear hr0_6 hc0_6
 have jE:=am hr0_7
 have jF:=am hc0_7
 clear hr0_7 hc0_7
 have HB:=am (Below.refl w.heap.size w)
 have H:(if a1=true then ((fD.f j3 0 2).bind fun ji=>(some ji)) else (some (j3 == 0)))=some r:=h
 clear h
 have HH_:=am H
 clear H
 go_enter Try.func84,Try.ntmps84
 go_upto_region 1 with (first|((with_reducible refine bJ (N:=2) rfl ?_);refine bR rfl (N:=2) rfl (cs:=#[.int .i64 j7, .int .i64 j8, .int .i64 j3, .int .i64 j9, .int .i64 ja, .slice jb j4.length jc, .slice jd j5.length je, .slice jf j6.length jg]) (t:=70) rn_ ?_;intro jh hg w5 hbox hb;have jj:=am (hbox);have jG:=am ((by rw [hg];exact (aN dN):w.heap.size≤jh));have GE21:=am ((by rw [hg];exact (aN dN):w.heap.size≤jh));replace HB:=am (aC dN hb);clear hb hbox hg;obtain ⟨jk,jl,jm,jn,jo,jp,jq,jr,js,jt,ju,jv,jw,jx,jy,jz⟩:=eF jj.out))
 have H:=HH_.out
 clear HH_
 by_cases c3:a1=true
 ·subst c3
  rw [if_pos rfl] at H
  obtain ⟨ji,A4,H⟩:=bsa H
  (try dsimp only at H)
  obtain rfl:=Option.some.inj H
  go_wp2_with (first|((with_reducible refine aD (f:=59) rfl ?_);refine aU (some 8) rfl rfl Try.func59 (by kernel_rfl) rfl #[.int .i64 j3, .int .i64 0, .int .i64 2] rfl dK ?_;(with_reducible refine (fD.calls j3 0 2 ji _ A4.out).mono ?_);rintro e w' ⟨rfl,⟨nd,rfl⟩⟩;refine ⟨_,rfl,?_⟩))
  go_ret
  exact ⟨rr_,nX⟩
 replace c3:=Bool.eq_false_iff.mpr c3
 subst c3
 rw [if_neg (show ¬ (false=true) by decide)] at H
 obtain rfl:=Option.some.inj H
 go_wp2
 go_ret
 exact ⟨rr_,nX⟩
theorem iW.calls (j3:Int) (j4:Int) (j6:Option Addr) (j7:Nat) (j5:List (S28)) (r:Bool) (w:World) (hr0_2:Kd.C k28 w j6 j5.length j5) (hc0_2:j5.length≤j7) (h:iW.f j3 j4 j5=some r):
  Calls Try.prog 86 #[.agg #[.int .i64 j3, .int .i64 j4, .slice j6 j5.length j7]] w fun e w'=>e= .returned (.bool r)∧Below w.heap.size w w':=by
 have hu28:=Try.underlying28
 have jk:=am hr0_2
 have jl:=am hc0_2
 clear hr0_2 hc0_2
 have HB:=am (Below.refl w.heap.size w)
 have H:(if j3=0 then (if j4=0 then (some ((j5.length:Int) == 0)) else (some false)) else (some false))=some r:=h
 clear h
 have HH_:=am H
 clear H
 go_enter Try.func86,Try.ntmps86
 go_upto_region 1 with (first|((with_reducible refine bJ (N:=1) rfl ?_);(try (refine lW (by rfl) ?_;dsimp only));refine bR rfl (N:=1) rfl (cs:=#[.int .i64 j3, .int .i64 j4, .slice j6 j5.length j7]) (t:=28) rn_ ?_;intro j8 hg w4 hbox hb;have j9:=am (hbox);have jm:=am ((by rw [hg];exact (aN dN):w.heap.size≤j8));have GE20:=am ((by rw [hg];exact (aN dN):w.heap.size≤j8));replace HB:=am (aC dN hb);clear hb hbox hg;obtain ⟨ja,jb,jc,jd,je,jf⟩:=gW j9.out))
 have H:=HH_.out
 clear HH_
 by_cases c2:j3=0
 ·rw [if_pos c2] at H
  have jg:(j3 == 0)=true:=beq_iff_eq.mpr c2
  have jh:(j3 != 0)=false:=bne_eq_false_iff_eq.mpr c2
  clear c2
  by_cases c3:j4=0
  ·rw [if_pos c3] at H
   have ji:(j4 == 0)=true:=beq_iff_eq.mpr c3
   have jj:(j4 != 0)=false:=bne_eq_false_iff_eq.mpr c3
   clear c3
   obtain rfl:=Option.some.inj H
   go_wp2
   go_ret
   exact ⟨rr_,RX⟩
  rw [if_neg c3] at H
  have ji:(j4 == 0)=false:=beq_eq_false_iff_ne.mpr c3
  have jj:(j4 != 0)=true:=bne_iff_ne.mpr c3
  obtain rfl:=Option.some.inj H
  go_wp2
  go_ret
  exact ⟨rr_,RX⟩
 rw [if_neg c2] at H
 have jg:(j3 == 0)=false:=beq_eq_false_iff_ne.mpr c2
 have jh:(j3 != 0)=true:=bne_iff_ne.mpr c2
 obtain rfl:=Option.some.inj H
 go_wp2
 go_ret
 exact ⟨rr_,RX⟩
theorem bZ.mono_l:∀ k,(∀ y0 y1 y2 y3 y4 y5 y6 y7 y8,LeO (bZ.j0 k y0 y1 y2 y3 y4 y5 y6 y7 y8) (bZ.j0 (k + 1) y0 y1 y2 y3 y4 y5 y6 y7 y8))
 |0=>fun _ _ _ _ _ _ _ _ _ r h=>by simp [bZ.j0] at h
 |k + 1=>by
  have ih0:=bZ.mono_l k
  ·intro y0 y1 y2 y3 y4 y5 y6 y7 y8
   unfold bZ.j0
   have m0:=@dG.mono
   exact mo_
theorem bZ.mono:∀ a0 a1 a2 a3 a4 a5 a6 a7 k,LeO (bZ.f k a0 a1 a2 a3 a4 a5 a6 a7) (bZ.f (k + 1) a0 a1 a2 a3 a4 a5 a6 a7):=by
 intro a0 a1 a2 a3 a4 a5 a6 a7 k
 have ih0:=bZ.mono_l k
 unfold bZ.f
 have m0:=@dG.mono
 exact mo_
theorem bZ.calls (k:Nat) (j4:Int) (jc:Int) (jd:Int) (j7:Int) (j8:Int) (ji:Option Addr) (jj:Nat) (j5:List (S28)) (jk:Option Addr) (jl:Nat) (j6:List (S70)) (jm:Option Addr) (jn:Nat) (j9:List (S70)) (r:Bool) (w:World) (hr0_5:Kd.C k28 w ji j5.length j5) (hc0_5:j5.length≤jj) (hr0_6:Kd.C k70 w jk j6.length j6) (hc0_6:j6.length≤jl) (hr0_7:Kd.C k70 w jm j9.length j9) (hc0_7:j9.length≤jn) (h:bZ.f k j4 jc jd j7 j8 j5 j6 j9=some r):
  Calls Try.prog 82 #[.agg #[.int .i64 j4, .int .i64 jc, .int .i64 jd, .int .i64 j7, .int .i64 j8, .slice ji j5.length jj, .slice jk j6.length jl, .slice jm j9.length jn]] w fun e w'=>e= .returned (.bool r)∧Below w.heap.size w w':=by
 have hu70:=Try.underlying70
 have hu28:=Try.underlying28
 have ja:=am hr0_5
 have jb:=am hc0_5
 clear hr0_5 hc0_5
 have je:=am hr0_6
 have jf:=am hc0_6
 clear hr0_6 hc0_6
 have jg:=am hr0_7
 have jh:=am hc0_7
 clear hr0_7 hc0_7
 have HB:=am (Below.refl w.heap.size w)
 unfold bZ.f at h
 have H:=h
 clear h
 have VZ:=am H
 clear H
 go_enter Try.func82,Try.ntmps82
 go_upto_region 1 with (first|((with_reducible refine bJ (N:=1) rfl ?_);(try (refine lW (by rfl) ?_;dsimp only));refine bR rfl (N:=1) rfl (cs:=#[.int .i64 j4, .int .i64 jc, .int .i64 jd, .int .i64 j7, .int .i64 j8, .slice ji j5.length jj, .slice jk j6.length jl, .slice jm j9.length jn]) (t:=70) rn_ ?_;intro jq hg w3 hbox hb;have j3:=am (hbox);have XY:=am ((by rw [hg];exact (aN dN):w.heap.size≤jq));have GE99:=am ((by rw [hg];exact (aN dN):w.heap.size≤jq));replace HB:=am (aC dN hb);clear hb hbox hg))
 (try simp only [Act.put,List.setIfInBounds_toArray,List.set_cons_zero,List.set_cons_succ])
 go_cut [12] (fun XZ wc=>∃ (kq:Nat) (jo:Bool),XZ= .bool jo∧Aside0 (bZ.j0 kq jo j4 jc jd j7 j8 j5 j6 j9=some r)∧Aside0 (kq≤k)∧Aside0 (wc.heap[jq]?=some (.cells #[.int .i64 j4, .int .i64 jc, .int .i64 jd, .int .i64 j7, .int .i64 j8,(.slice ji j5.length jj),(.slice jk j6.length jl),(.slice jm j9.length jn)] 70 (0,0)))∧Aside0 (Below w.heap.size w wc))
 case first=>
  have H:=VZ.out
  clear VZ
  by_cases c4:(j6.length:Int) > 0
  ·rw [if_pos c4] at H
   have jp:decide (0 < (j6.length:Int))=true:=decide_eq_true c4
   have X0:decide (0 < j6.length)=true:=decide_eq_true (by omega)
   clear c4
   (first|rw [jp]|(simp only [gT,gZ];rw [jp])|skip)
   have H':=am H
   clear H
   obtain ⟨X1,X2,X3,X4,X5,X6,X7,X8,X9,Xa,Xb,Xc,Xd,Xe,Xf,Xg⟩:=eF j3.out
   go_wp2
   go_meet
   case rel=>exact ⟨_,(true),sd_,H',⟨by first|omega|exact Nat.le_refl _⟩,⟨by (with_reducible repeat (first|refine gK ?_ _|refine eH ?_|refine fH ?_ _));exact j3.out⟩,⟨iT⟩⟩
  rw [if_neg c4] at H
  have jp:decide (0 < (j6.length:Int))=false:=decide_eq_false c4
  have X0:decide (0 < j6.length)=false:=decide_eq_false (by omega)
  clear c4
  (first|rw [jp]|(simp only [gT,gZ];rw [jp])|skip)
  have H':=am H
  clear H
  obtain ⟨Xh,Xi,Xj,Xk,Xl,Xm,Xn,Xo,Xp,Xq,Xr,Xs,Xt,Xu,Xv,Xw⟩:=eF j3.out
  go_wp2
  go_meet
  case rel=>exact ⟨_,(decide ((j9.length:Int) > 0)),sd_,H',⟨by first|omega|exact Nat.le_refl _⟩,⟨by (with_reducible repeat (first|refine gK ?_ _|refine eH ?_|refine fH ?_ _));exact j3.out⟩,⟨iT⟩⟩
 case rest=>
  clear VZ
  obtain ⟨kq,jo,rfl,HA,HJ1,j3,HB⟩:=hcut
  cases kq with
  |zero=>exact absurd HA.out (by simp [bZ.j0])
  |succ Xx=>
   have H:=HA.out
   clear HA
   simp only [bZ.j0] at H
   by_cases c7:jo=true
   ·subst c7
    rw [if_pos rfl] at H
    obtain rfl:=Option.some.inj H
    go_wp2
    go_ret
    exact ⟨rr_,iT⟩
   replace c7:=Bool.eq_false_iff.mpr c7
   subst c7
   rw [if_neg (show ¬ (false=true) by decide)] at H
   by_cases c8:j4=1
   ·rw [if_pos c8] at H
    have Xy:(j4 == 1)=true:=beq_iff_eq.mpr c8
    have Xz:(j4 != 1)=false:=bne_eq_false_iff_eq.mpr c8
    clear c8
    obtain ⟨XA,A9,H⟩:=bsa H
    (try dsimp only at H)
    by_cases c10:XA=true
    ·subst c10
     rw [if_pos rfl] at H
     obtain ⟨XB,jv,H⟩:=bsm H
     (try dsimp only at H)
     have XT:=am jv
     clear jv
     by_cases jQ:XB=true
     ·subst jQ
      rw [if_pos rfl] at H
      obtain ⟨XC,jw,H⟩:=bsm H
      (try dsimp only at H)
      have P0:=am jw
      clear jw
      obtain rfl:=Option.some.inj H
      obtain ⟨jR,jS,jT,jU,jV,jW,jX,jY,jZ,q0,q1,q2,q3,q4,q5,q6⟩:=eF j3.out
      go_wp2_with (first|((with_reducible refine aD (f:=83) rfl ?_);refine aU (some 18) rfl rfl Try.func83 (by kernel_rfl) rfl #[.agg #[.int .i64 j4, .int .i64 jc, .int .i64 jd, .int .i64 j7, .int .i64 j8, .slice ji j5.length jj, .slice jk j6.length jl, .slice jm j9.length jn], .bool true] rfl dK ?_;(with_reducible refine (dW.calls j4 jc jd j7 j8 _ _ j5 _ _ j6 _ _ j9 true true _ (aC_ (Kd.aI ja.out HB.out)) jb.out (aC_ (Kd.aI je.out HB.out)) jf.out (aC_ (Kd.aI jg.out HB.out)) jh.out A9.out).mono ?_);rintro e P5 ⟨rfl,hb⟩;refine ⟨_,rfl,?_⟩;replace j3:=bbP j3 hb;replace HB:=am (aC iT hb);(try clear hb);obtain ⟨q7,q8,q9,qa,qb,qc,qd,qe,qf,qg,qh,qi,qj,qk,ql,qm⟩:=eF j3.out)|(go_at_call 84;(with_reducible refine (eU.calls j4 jc jd j7 j8 _ _ j5 _ _ j6 _ _ j9 false true _ (aC_ (Kd.aI ja.out HB.out)) jb.out (aC_ (Kd.aI je.out HB.out)) jf.out (aC_ (Kd.aI jg.out HB.out)) jh.out XT.out).mono ?_);rintro e P6 ⟨rfl,hb⟩;replace j3:=bbP j3 hb;replace HB:=am (aC iT hb);(try clear hb);obtain ⟨qn,qo,qp,qq,qr,qs,qt,qu,qv,qw,qx,qy,qz,qA,qB,qC⟩:=eF j3.out)|(go_at_call 28;(with_reducible refine (dG.calls Xx j7 j8 _ _ j5 XC _ (aC_ (Kd.aI ja.out HB.out)) jb.out P0.out).mono ?_);rintro e P7 ⟨rfl,hb⟩;replace j3:=bbP j3 hb;replace HB:=am (aC iT hb);(try clear hb)))
      go_ret
      exact ⟨rr_,iT⟩
     replace jQ:=Bool.eq_false_iff.mpr jQ
     subst jQ
     rw [if_neg (show ¬ (false=true) by decide)] at H
     obtain rfl:=Option.some.inj H
     obtain ⟨qD,qE,qF,qG,qH,qI,qJ,qK,qL,qM,qN,qO,qP,qQ,qR,qS⟩:=eF j3.out
     go_wp2_with (first|((with_reducible refine aD (f:=83) rfl ?_);refine aU (some 18) rfl rfl Try.func83 (by kernel_rfl) rfl #[.agg #[.int .i64 j4, .int .i64 jc, .int .i64 jd, .int .i64 j7, .int .i64 j8, .slice ji j5.length jj, .slice jk j6.length jl, .slice jm j9.length jn], .bool true] rfl dK ?_;(with_reducible refine (dW.calls j4 jc jd j7 j8 _ _ j5 _ _ j6 _ _ j9 true true _ (aC_ (Kd.aI ja.out HB.out)) jb.out (aC_ (Kd.aI je.out HB.out)) jf.out (aC_ (Kd.aI jg.out HB.out)) jh.out A9.out).mono ?_);rintro e P8 ⟨rfl,hb⟩;refine ⟨_,rfl,?_⟩;replace j3:=bbP j3 hb;replace HB:=am (aC iT hb);(try clear hb);obtain ⟨qT,qU,qV,qW,qX,qY,qZ,z0,z1,z2,z3,z4,z5,z6,z7,z8⟩:=eF j3.out)|(go_at_call 84;(with_reducible refine (eU.calls j4 jc jd j7 j8 _ _ j5 _ _ j6 _ _ j9 false false _ (aC_ (Kd.aI ja.out HB.out)) jb.out (aC_ (Kd.aI je.out HB.out)) jf.out (aC_ (Kd.aI jg.out HB.out)) jh.out XT.out).mono ?_);rintro e P9 ⟨rfl,hb⟩;replace j3:=bbP j3 hb;replace HB:=am (aC iT hb);(try clear hb)))
     go_ret
     exact ⟨rr_,iT⟩
    replace c10:=Bool.eq_false_iff.mpr c10
    subst c10
    rw [if_neg (show ¬ (false=true) by decide)] at H
    obtain rfl:=Option.some.inj H
    obtain ⟨z9,za,zb,zc,zd,ze,zf,zg,zh,zi,zj,zk,zl,zm,zn,zo⟩:=eF j3.out
    go_wp2_with (first|((with_reducible refine aD (f:=83) rfl ?_);refine aU (some 18) rfl rfl Try.func83 (by kernel_rfl) rfl #[.agg #[.int .i64 j4, .int .i64 jc, .int .i64 jd, .int .i64 j7, .int .i64 j8, .slice ji j5.length jj, .slice jk j6.length jl, .slice jm j9.length jn], .bool true] rfl dK ?_;(with_reducible refine (dW.calls j4 jc jd j7 j8 _ _ j5 _ _ j6 _ _ j9 true false _ (aC_ (Kd.aI ja.out HB.out)) jb.out (aC_ (Kd.aI je.out HB.out)) jf.out (aC_ (Kd.aI jg.out HB.out)) jh.out A9.out).mono ?_);rintro e Pa ⟨rfl,hb⟩;refine ⟨_,rfl,?_⟩;replace j3:=bbP j3 hb;replace HB:=am (aC iT hb);(try clear hb)))
    go_ret
    exact ⟨rr_,iT⟩
   rw [if_neg c8] at H
   have Xy:(j4 == 1)=false:=beq_eq_false_iff_ne.mpr c8
   have Xz:(j4 != 1)=true:=bne_iff_ne.mpr c8
   by_cases jr:j4=4
   ·rw [if_pos jr] at H
    have jx:(j4 == 4)=true:=beq_iff_eq.mpr jr
    have jy:(j4 != 4)=false:=bne_eq_false_iff_eq.mpr jr
    clear jr
    obtain ⟨XD,jz,H⟩:=bsm H
    (try dsimp only at H)
    have XE:=am jz
    clear jz
    by_cases zp:XD=true
    ·subst zp
     rw [if_pos rfl] at H
     obtain ⟨XF,jA,H⟩:=bsm H
     (try dsimp only at H)
     have XU:=am jA
     clear jA
     by_cases zq:XF=true
     ·subst zq
      rw [if_pos rfl] at H
      obtain ⟨XG,P1,H⟩:=bsa H
      (try dsimp only at H)
      obtain rfl:=Option.some.inj H
      obtain ⟨zr,zs,zt,zu,zv,zw,zx,zy,zz,zA,zB,zC,zD,zE,zF,zG⟩:=eF j3.out
      go_wp2_with (first|((with_reducible refine aD (f:=83) rfl ?_);refine aU (some 31) rfl rfl Try.func83 (by kernel_rfl) rfl #[.agg #[.int .i64 j4, .int .i64 jc, .int .i64 jd, .int .i64 j7, .int .i64 j8, .slice ji j5.length jj, .slice jk j6.length jl, .slice jm j9.length jn], .bool false] rfl dK ?_;(with_reducible refine (dW.calls j4 jc jd j7 j8 _ _ j5 _ _ j6 _ _ j9 false true _ (aC_ (Kd.aI ja.out HB.out)) jb.out (aC_ (Kd.aI je.out HB.out)) jf.out (aC_ (Kd.aI jg.out HB.out)) jh.out XE.out).mono ?_);rintro e Pb ⟨rfl,hb⟩;refine ⟨_,rfl,?_⟩;replace j3:=bbP j3 hb;replace HB:=am (aC iT hb);(try clear hb);obtain ⟨zH,zI,zJ,zK,zL,zM,zN,zO,zP,zQ,zR,zS,zT,zU,zV,zW⟩:=eF j3.out)|(go_at_call 84;(with_reducible refine (eU.calls j4 jc jd j7 j8 _ _ j5 _ _ j6 _ _ j9 true true _ (aC_ (Kd.aI ja.out HB.out)) jb.out (aC_ (Kd.aI je.out HB.out)) jf.out (aC_ (Kd.aI jg.out HB.out)) jh.out XU.out).mono ?_);rintro e Pc ⟨rfl,hb⟩;replace j3:=bbP j3 hb;replace HB:=am (aC iT hb);(try clear hb);obtain ⟨zX,zY,zZ,J0,J1,J2,J3,J4,J5,J6,J7,J8,J9,Ja,Jb,Jc⟩:=eF j3.out)|(go_at_call 28;(with_reducible refine (dG.calls Xx j7 j8 _ _ j5 XG _ (aC_ (Kd.aI ja.out HB.out)) jb.out P1.out).mono ?_);rintro e Pd ⟨rfl,hb⟩;replace j3:=bbP j3 hb;replace HB:=am (aC iT hb);(try clear hb)))
      go_ret
      exact ⟨rr_,iT⟩
     replace zq:=Bool.eq_false_iff.mpr zq
     subst zq
     rw [if_neg (show ¬ (false=true) by decide)] at H
     obtain rfl:=Option.some.inj H
     obtain ⟨Jd,Je,Jf,Jg,Jh,Ji,Jj,Jk,Jl,Jm,Jn,Jo,Jp,Jq,Jr,Js⟩:=eF j3.out
     go_wp2_with (first|((with_reducible refine aD (f:=83) rfl ?_);refine aU (some 31) rfl rfl Try.func83 (by kernel_rfl) rfl #[.agg #[.int .i64 j4, .int .i64 jc, .int .i64 jd, .int .i64 j7, .int .i64 j8, .slice ji j5.length jj, .slice jk j6.length jl, .slice jm j9.length jn], .bool false] rfl dK ?_;(with_reducible refine (dW.calls j4 jc jd j7 j8 _ _ j5 _ _ j6 _ _ j9 false true _ (aC_ (Kd.aI ja.out HB.out)) jb.out (aC_ (Kd.aI je.out HB.out)) jf.out (aC_ (Kd.aI jg.out HB.out)) jh.out XE.out).mono ?_);rintro e Pe ⟨rfl,hb⟩;refine ⟨_,rfl,?_⟩;replace j3:=bbP j3 hb;replace HB:=am (aC iT hb);(try clear hb);obtain ⟨Jt,Ju,Jv,Jw,Jx,Jy,Jz,JA,JB,JC,JD,JE,JF,JG,JH,JI⟩:=eF j3.out)|(go_at_call 84;(with_reducible refine (eU.calls j4 jc jd j7 j8 _ _ j5 _ _ j6 _ _ j9 true false _ (aC_ (Kd.aI ja.out HB.out)) jb.out (aC_ (Kd.aI je.out HB.out)) jf.out (aC_ (Kd.aI jg.out HB.out)) jh.out XU.out).mono ?_);rintro e Pf ⟨rfl,hb⟩;replace j3:=bbP j3 hb;replace HB:=am (aC iT hb);(try clear hb)))
     go_ret
     exact ⟨rr_,iT⟩
    replace zp:=Bool.eq_false_iff.mpr zp
    subst zp
    rw [if_neg (show ¬ (false=true) by decide)] at H
    obtain rfl:=Option.some.inj H
    obtain ⟨JJ,JK,JL,JM,JN,JO,JP,JQ,JR,JS,JT,JU,JV,JW,JX,JY⟩:=eF j3.out
    go_wp2_with (first|((with_reducible refine aD (f:=83) rfl ?_);refine aU (some 31) rfl rfl Try.func83 (by kernel_rfl) rfl #[.agg #[.int .i64 j4, .int .i64 jc, .int .i64 jd, .int .i64 j7, .int .i64 j8, .slice ji j5.length jj, .slice jk j6.length jl, .slice jm j9.length jn], .bool false] rfl dK ?_;(with_reducible refine (dW.calls j4 jc jd j7 j8 _ _ j5 _ _ j6 _ _ j9 false false _ (aC_ (Kd.aI ja.out HB.out)) jb.out (aC_ (Kd.aI je.out HB.out)) jf.out (aC_ (Kd.aI jg.out HB.out)) jh.out XE.out).mono ?_);rintro e Pg ⟨rfl,hb⟩;refine ⟨_,rfl,?_⟩;replace j3:=bbP j3 hb;replace HB:=am (aC iT hb);(try clear hb)))
    go_ret
    exact ⟨rr_,iT⟩
   rw [if_neg jr] at H
   have jx:(j4 == 4)=false:=beq_eq_false_iff_ne.mpr jr
   have jy:(j4 != 4)=true:=bne_iff_ne.mpr jr
   by_cases js:j4=5
   ·rw [if_pos js] at H
    have jB:(j4 == 5)=true:=beq_iff_eq.mpr js
    have jC:(j4 != 5)=false:=bne_eq_false_iff_eq.mpr js
    clear js
    obtain ⟨XH,jD,H⟩:=bsm H
    (try dsimp only at H)
    have XI:=am jD
    clear jD
    by_cases JZ:XH=true
    ·subst JZ
     rw [if_pos rfl] at H
     obtain ⟨XJ,jE,H⟩:=bsm H
     (try dsimp only at H)
     have XV:=am jE
     clear jE
     by_cases Q0:XJ=true
     ·subst Q0
      rw [if_pos rfl] at H
      obtain ⟨XK,jF,H⟩:=bsm H
      (try dsimp only at H)
      have P2:=am jF
      clear jF
      obtain rfl:=Option.some.inj H
      obtain ⟨Q1,Q2,Q3,Q4,Q5,Q6,Q7,Q8,Q9,Qa,Qb,Qc,Qd,Qe,Qf,Qg⟩:=eF j3.out
      go_wp2_with (first|((with_reducible refine aD (f:=83) rfl ?_);refine aU (some 44) rfl rfl Try.func83 (by kernel_rfl) rfl #[.agg #[.int .i64 j4, .int .i64 jc, .int .i64 jd, .int .i64 j7, .int .i64 j8, .slice ji j5.length jj, .slice jk j6.length jl, .slice jm j9.length jn], .bool true] rfl dK ?_;(with_reducible refine (dW.calls j4 jc jd j7 j8 _ _ j5 _ _ j6 _ _ j9 true true _ (aC_ (Kd.aI ja.out HB.out)) jb.out (aC_ (Kd.aI je.out HB.out)) jf.out (aC_ (Kd.aI jg.out HB.out)) jh.out XI.out).mono ?_);rintro e Ph ⟨rfl,hb⟩;refine ⟨_,rfl,?_⟩;replace j3:=bbP j3 hb;replace HB:=am (aC iT hb);(try clear hb);obtain ⟨Qh,Qi,Qj,Qk,Ql,Qm,Qn,Qo,Qp,Qq,Qr,Qs,Qt,Qu,Qv,Qw⟩:=eF j3.out)|(go_at_call 84;(with_reducible refine (eU.calls j4 jc jd j7 j8 _ _ j5 _ _ j6 _ _ j9 true true _ (aC_ (Kd.aI ja.out HB.out)) jb.out (aC_ (Kd.aI je.out HB.out)) jf.out (aC_ (Kd.aI jg.out HB.out)) jh.out XV.out).mono ?_);rintro e Pi ⟨rfl,hb⟩;replace j3:=bbP j3 hb;replace HB:=am (aC iT hb);(try clear hb);obtain ⟨Qx,Qy,Qz,QA,QB,QC,QD,QE,QF,QG,QH,QI,QJ,QK,QL,QM⟩:=eF j3.out)|(go_at_call 86;(with_reducible refine (iW.calls j7 j8 _ _ j5 XK _ (aC_ (Kd.aI ja.out HB.out)) jb.out P2.out).mono ?_);rintro e Pj ⟨rfl,hb⟩;replace j3:=bbP j3 hb;replace HB:=am (aC iT hb);(try clear hb)))
      go_ret
      exact ⟨rr_,iT⟩
     replace Q0:=Bool.eq_false_iff.mpr Q0
     subst Q0
     rw [if_neg (show ¬ (false=true) by decide)] at H
     obtain rfl:=Option.some.inj H
     obtain ⟨QN,QO,QP,QQ,QR,QS,QT,QU,QV,QW,QX,QY,QZ,Z0,Z1,Z2⟩:=eF j3.out
     go_wp2_with (first|((with_reducible refine aD (f:=83) rfl ?_);refine aU (some 44) rfl rfl Try.func83 (by kernel_rfl) rfl #[.agg #[.int .i64 j4, .int .i64 jc, .int .i64 jd, .int .i64 j7, .int .i64 j8, .slice ji j5.length jj, .slice jk j6.length jl, .slice jm j9.length jn], .bool true] rfl dK ?_;(with_reducible refine (dW.calls j4 jc jd j7 j8 _ _ j5 _ _ j6 _ _ j9 true true _ (aC_ (Kd.aI ja.out HB.out)) jb.out (aC_ (Kd.aI je.out HB.out)) jf.out (aC_ (Kd.aI jg.out HB.out)) jh.out XI.out).mono ?_);rintro e Pk ⟨rfl,hb⟩;refine ⟨_,rfl,?_⟩;replace j3:=bbP j3 hb;replace HB:=am (aC iT hb);(try clear hb);obtain ⟨Z3,Z4,Z5,Z6,Z7,Z8,Z9,Za,Zb,Zc,Zd,Ze,Zf,Zg,Zh,Zi⟩:=eF j3.out)|(go_at_call 84;(with_reducible refine (eU.calls j4 jc jd j7 j8 _ _ j5 _ _ j6 _ _ j9 true false _ (aC_ (Kd.aI ja.out HB.out)) jb.out (aC_ (Kd.aI je.out HB.out)) jf.out (aC_ (Kd.aI jg.out HB.out)) jh.out XV.out).mono ?_);rintro e Pl ⟨rfl,hb⟩;replace j3:=bbP j3 hb;replace HB:=am (aC iT hb);(try clear hb)))
     go_ret
     exact ⟨rr_,iT⟩
    replace JZ:=Bool.eq_false_iff.mpr JZ
    subst JZ
    rw [if_neg (show ¬ (false=true) by decide)] at H
    obtain rfl:=Option.some.inj H
    obtain ⟨Zj,Zk,Zl,Zm,Zn,Zo,Zp,Zq,Zr,Zs,Zt,Zu,Zv,Zw,Zx,Zy⟩:=eF j3.out
    go_wp2_with (first|((with_reducible refine aD (f:=83) rfl ?_);refine aU (some 44) rfl rfl Try.func83 (by kernel_rfl) rfl #[.agg #[.int .i64 j4, .int .i64 jc, .int .i64 jd, .int .i64 j7, .int .i64 j8, .slice ji j5.length jj, .slice jk j6.length jl, .slice jm j9.length jn], .bool true] rfl dK ?_;(with_reducible refine (dW.calls j4 jc jd j7 j8 _ _ j5 _ _ j6 _ _ j9 true false _ (aC_ (Kd.aI ja.out HB.out)) jb.out (aC_ (Kd.aI je.out HB.out)) jf.out (aC_ (Kd.aI jg.out HB.out)) jh.out XI.out).mono ?_);rintro e Pm ⟨rfl,hb⟩;refine ⟨_,rfl,?_⟩;replace j3:=bbP j3 hb;replace HB:=am (aC iT hb);(try clear hb)))
    go_ret
    exact ⟨rr_,iT⟩
   rw [if_neg js] at H
   have jB:(j4 == 5)=false:=beq_eq_false_iff_ne.mpr js
   have jC:(j4 != 5)=true:=bne_iff_ne.mpr js
   by_cases jt:j4=6
   ·rw [if_pos jt] at H
    have jG:(j4 == 6)=true:=beq_iff_eq.mpr jt
    have jH:(j4 != 6)=false:=bne_eq_false_iff_eq.mpr jt
    clear jt
    obtain ⟨XL,jI,H⟩:=bsm H
    (try dsimp only at H)
    have XM:=am jI
    clear jI
    by_cases Zz:XL=true
    ·subst Zz
     rw [if_pos rfl] at H
     obtain ⟨XN,jJ,H⟩:=bsm H
     (try dsimp only at H)
     have XW:=am jJ
     clear jJ
     by_cases ZA:XN=true
     ·subst ZA
      rw [if_pos rfl] at H
      obtain ⟨XO,jK,H⟩:=bsm H
      (try dsimp only at H)
      have P3:=am jK
      clear jK
      obtain rfl:=Option.some.inj H
      obtain ⟨ZB,ZC,ZD,ZE,ZF,ZG,ZH,ZI,ZJ,ZK,ZL,ZM,ZN,ZO,ZP,ZQ⟩:=eF j3.out
      go_wp2_with (first|((with_reducible refine aD (f:=83) rfl ?_);refine aU (some 57) rfl rfl Try.func83 (by kernel_rfl) rfl #[.agg #[.int .i64 j4, .int .i64 jc, .int .i64 jd, .int .i64 j7, .int .i64 j8, .slice ji j5.length jj, .slice jk j6.length jl, .slice jm j9.length jn], .bool false] rfl dK ?_;(with_reducible refine (dW.calls j4 jc jd j7 j8 _ _ j5 _ _ j6 _ _ j9 false true _ (aC_ (Kd.aI ja.out HB.out)) jb.out (aC_ (Kd.aI je.out HB.out)) jf.out (aC_ (Kd.aI jg.out HB.out)) jh.out XM.out).mono ?_);rintro e Pn ⟨rfl,hb⟩;refine ⟨_,rfl,?_⟩;replace j3:=bbP j3 hb;replace HB:=am (aC iT hb);(try clear hb);obtain ⟨ZR,ZS,ZT,ZU,ZV,ZW,ZX,ZY,ZZ,Y0,Y1,Y2,Y3,Y4,Y5,Y6⟩:=eF j3.out)|(go_at_call 84;(with_reducible refine (eU.calls j4 jc jd j7 j8 _ _ j5 _ _ j6 _ _ j9 false true _ (aC_ (Kd.aI ja.out HB.out)) jb.out (aC_ (Kd.aI je.out HB.out)) jf.out (aC_ (Kd.aI jg.out HB.out)) jh.out XW.out).mono ?_);rintro e Po ⟨rfl,hb⟩;replace j3:=bbP j3 hb;replace HB:=am (aC iT hb);(try clear hb);obtain ⟨Y7,Y8,Y9,Ya,Yb,Yc,Yd,Ye,Yf,Yg,Yh,Yi,Yj,Yk,Yl,Ym⟩:=eF j3.out)|(go_at_call 86;(with_reducible refine (iW.calls j7 j8 _ _ j5 XO _ (aC_ (Kd.aI ja.out HB.out)) jb.out P3.out).mono ?_);rintro e Pp ⟨rfl,hb⟩;replace j3:=bbP j3 hb;replace HB:=am (aC iT hb);(try clear hb)))
      go_ret
      exact ⟨rr_,iT⟩
     replace ZA:=Bool.eq_false_iff.mpr ZA
     subst ZA
     rw [if_neg (show ¬ (false=true) by decide)] at H
     obtain rfl:=Option.some.inj H
     obtain ⟨Yn,Yo,Yp,Yq,Yr,Ys,Yt,Yu,Yv,Yw,Yx,Yy,Yz,YA,YB,YC⟩:=eF j3.out
     go_wp2_with (first|((with_reducible refine aD (f:=83) rfl ?_);refine aU (some 57) rfl rfl Try.func83 (by kernel_rfl) rfl #[.agg #[.int .i64 j4, .int .i64 jc, .int .i64 jd, .int .i64 j7, .int .i64 j8, .slice ji j5.length jj, .slice jk j6.length jl, .slice jm j9.length jn], .bool false] rfl dK ?_;(with_reducible refine (dW.calls j4 jc jd j7 j8 _ _ j5 _ _ j6 _ _ j9 false true _ (aC_ (Kd.aI ja.out HB.out)) jb.out (aC_ (Kd.aI je.out HB.out)) jf.out (aC_ (Kd.aI jg.out HB.out)) jh.out XM.out).mono ?_);rintro e Pq ⟨rfl,hb⟩;refine ⟨_,rfl,?_⟩;replace j3:=bbP j3 hb;replace HB:=am (aC iT hb);(try clear hb);obtain ⟨YD,YE,YF,YG,YH,YI,YJ,YK,YL,YM,YN,YO,YP,YQ,YR,YS⟩:=eF j3.out)|(go_at_call 84;(with_reducible refine (eU.calls j4 jc jd j7 j8 _ _ j5 _ _ j6 _ _ j9 false false _ (aC_ (Kd.aI ja.out HB.out)) jb.out (aC_ (Kd.aI je.out HB.out)) jf.out (aC_ (Kd.aI jg.out HB.out)) jh.out XW.out).mono ?_);rintro e Pr ⟨rfl,hb⟩;replace j3:=bbP j3 hb;replace HB:=am (aC iT hb);(try clear hb)))
     go_ret
     exact ⟨rr_,iT⟩
    replace Zz:=Bool.eq_false_iff.mpr Zz
    subst Zz
    rw [if_neg (show ¬ (false=true) by decide)] at H
    obtain rfl:=Option.some.inj H
    obtain ⟨YT,YU,YV,YW,YX,YY,YZ,U0,U1,U2,U3,U4,U5,U6,U7,U8⟩:=eF j3.out
    go_wp2_with (first|((with_reducible refine aD (f:=83) rfl ?_);refine aU (some 57) rfl rfl Try.func83 (by kernel_rfl) rfl #[.agg #[.int .i64 j4, .int .i64 jc, .int .i64 jd, .int .i64 j7, .int .i64 j8, .slice ji j5.length jj, .slice jk j6.length jl, .slice jm j9.length jn], .bool false] rfl dK ?_;(with_reducible refine (dW.calls j4 jc jd j7 j8 _ _ j5 _ _ j6 _ _ j9 false false _ (aC_ (Kd.aI ja.out HB.out)) jb.out (aC_ (Kd.aI je.out HB.out)) jf.out (aC_ (Kd.aI jg.out HB.out)) jh.out XM.out).mono ?_);rintro e Ps ⟨rfl,hb⟩;refine ⟨_,rfl,?_⟩;replace j3:=bbP j3 hb;replace HB:=am (aC iT hb);(try clear hb)))
    go_ret
    exact ⟨rr_,iT⟩
   rw [if_neg jt] at H
   have jG:(j4 == 6)=false:=beq_eq_false_iff_ne.mpr jt
   have jH:(j4 != 6)=true:=bne_iff_ne.mpr jt
   by_cases ju:j4=7
   ·rw [if_pos ju] at H
    have jL:(j4 == 7)=true:=beq_iff_eq.mpr ju
    have jM:(j4 != 7)=false:=bne_eq_false_iff_eq.mpr ju
    clear ju
    obtain ⟨XP,jN,H⟩:=bsm H
    (try dsimp only at H)
    have XQ:=am jN
    clear jN
    by_cases U9:XP=true
    ·subst U9
     rw [if_pos rfl] at H
     obtain ⟨XR,jO,H⟩:=bsm H
     (try dsimp only at H)
     have XX:=am jO
     clear jO
     by_cases Ua:XR=true
     ·subst Ua
      rw [if_pos rfl] at H
      obtain ⟨XS,jP,H⟩:=bsm H
      (try dsimp only at H)
      have P4:=am jP
      clear jP
      obtain rfl:=Option.some.inj H
      obtain ⟨Ub,Uc,Ud,Ue,Uf,Ug,Uh,Ui,Uj,Uk,Ul,Um,Un,Uo,Up,Uq⟩:=eF j3.out
      go_wp2_with (first|((with_reducible refine aD (f:=83) rfl ?_);refine aU (some 70) rfl rfl Try.func83 (by kernel_rfl) rfl #[.agg #[.int .i64 j4, .int .i64 jc, .int .i64 jd, .int .i64 j7, .int .i64 j8, .slice ji j5.length jj, .slice jk j6.length jl, .slice jm j9.length jn], .bool false] rfl dK ?_;(with_reducible refine (dW.calls j4 jc jd j7 j8 _ _ j5 _ _ j6 _ _ j9 false true _ (aC_ (Kd.aI ja.out HB.out)) jb.out (aC_ (Kd.aI je.out HB.out)) jf.out (aC_ (Kd.aI jg.out HB.out)) jh.out XQ.out).mono ?_);rintro e Pt ⟨rfl,hb⟩;refine ⟨_,rfl,?_⟩;replace j3:=bbP j3 hb;replace HB:=am (aC iT hb);(try clear hb);obtain ⟨Ur,Us,Ut,Uu,Uv,Uw,Ux,Uy,Uz,UA,UB,UC,UD,UE,UF,UG⟩:=eF j3.out)|(go_at_call 84;(with_reducible refine (eU.calls j4 jc jd j7 j8 _ _ j5 _ _ j6 _ _ j9 false true _ (aC_ (Kd.aI ja.out HB.out)) jb.out (aC_ (Kd.aI je.out HB.out)) jf.out (aC_ (Kd.aI jg.out HB.out)) jh.out XX.out).mono ?_);rintro e Pu ⟨rfl,hb⟩;replace j3:=bbP j3 hb;replace HB:=am (aC iT hb);(try clear hb);obtain ⟨UH,UI,UJ,UK,UL,UM,UN,UO,UP,UQ,UR,US,UT,UU,UV,UW⟩:=eF j3.out)|(go_at_call 28;(with_reducible refine (dG.calls Xx j7 j8 _ _ j5 XS _ (aC_ (Kd.aI ja.out HB.out)) jb.out P4.out).mono ?_);rintro e Pv ⟨rfl,hb⟩;replace j3:=bbP j3 hb;replace HB:=am (aC iT hb);(try clear hb)))
      go_ret
      exact ⟨rr_,iT⟩
     replace Ua:=Bool.eq_false_iff.mpr Ua
     subst Ua
     rw [if_neg (show ¬ (false=true) by decide)] at H
     obtain rfl:=Option.some.inj H
     obtain ⟨UX,UY,UZ,V0,V1,V2,V3,V4,V5,V6,V7,V8,V9,Va,Vb,Vc⟩:=eF j3.out
     go_wp2_with (first|((with_reducible refine aD (f:=83) rfl ?_);refine aU (some 70) rfl rfl Try.func83 (by kernel_rfl) rfl #[.agg #[.int .i64 j4, .int .i64 jc, .int .i64 jd, .int .i64 j7, .int .i64 j8, .slice ji j5.length jj, .slice jk j6.length jl, .slice jm j9.length jn], .bool false] rfl dK ?_;(with_reducible refine (dW.calls j4 jc jd j7 j8 _ _ j5 _ _ j6 _ _ j9 false true _ (aC_ (Kd.aI ja.out HB.out)) jb.out (aC_ (Kd.aI je.out HB.out)) jf.out (aC_ (Kd.aI jg.out HB.out)) jh.out XQ.out).mono ?_);rintro e Pw ⟨rfl,hb⟩;refine ⟨_,rfl,?_⟩;replace j3:=bbP j3 hb;replace HB:=am (aC iT hb);(try clear hb);obtain ⟨Vd,Ve,Vf,Vg,Vh,Vi,Vj,Vk,Vl,Vm,Vn,Vo,Vp,Vq,Vr,Vs⟩:=eF j3.out)|(go_at_call 84;(with_reducible refine (eU.calls j4 jc jd j7 j8 _ _ j5 _ _ j6 _ _ j9 false false _ (aC_ (Kd.aI ja.out HB.out)) jb.out (aC_ (Kd.aI je.out HB.out)) jf.out (aC_ (Kd.aI jg.out HB.out)) jh.out XX.out).mono ?_);rintro e Px ⟨rfl,hb⟩;replace j3:=bbP j3 hb;replace HB:=am (aC iT hb);(try clear hb)))
     go_ret
     exact ⟨rr_,iT⟩
    replace U9:=Bool.eq_false_iff.mpr U9
    subst U9
    rw [if_neg (show ¬ (false=true) by decide)] at H
    obtain rfl:=Option.some.inj H
    obtain ⟨Vt,Vu,Vv,Vw,Vx,Vy,Vz,VA,VB,VC,VD,VE,VF,VG,VH,VI⟩:=eF j3.out
    go_wp2_with (first|((with_reducible refine aD (f:=83) rfl ?_);refine aU (some 70) rfl rfl Try.func83 (by kernel_rfl) rfl #[.agg #[.int .i64 j4, .int .i64 jc, .int .i64 jd, .int .i64 j7, .int .i64 j8, .slice ji j5.length jj, .slice jk j6.length jl, .slice jm j9.length jn], .bool false] rfl dK ?_;(with_reducible refine (dW.calls j4 jc jd j7 j8 _ _ j5 _ _ j6 _ _ j9 false false _ (aC_ (Kd.aI ja.out HB.out)) jb.out (aC_ (Kd.aI je.out HB.out)) jf.out (aC_ (Kd.aI jg.out HB.out)) jh.out XQ.out).mono ?_);rintro e Py ⟨rfl,hb⟩;refine ⟨_,rfl,?_⟩;replace j3:=bbP j3 hb;replace HB:=am (aC iT hb);(try clear hb)))
    go_ret
    exact ⟨rr_,iT⟩
   rw [if_neg ju] at H
   have jL:(j4 == 7)=false:=beq_eq_false_iff_ne.mpr ju
   have jM:(j4 != 7)=true:=bne_iff_ne.mpr ju
   obtain rfl:=Option.some.inj H
   obtain ⟨VJ,VK,VL,VM,VN,VO,VP,VQ,VR,VS,VT,VU,VV,VW,VX,VY⟩:=eF j3.out
   go_wp2
   go_ret
   exact ⟨rr_,iT⟩
theorem bK.mono_all:∀ k,(∀ y0 y1 y2 y3 y4 y5 y6 y7 y8,LeO (bK.f k y0 y1 y2 y3 y4 y5 y6 y7 y8) (bK.f (k + 1) y0 y1 y2 y3 y4 y5 y6 y7 y8))∧(∀ y0 y1 y2 y3 y4 y5 y6 y7 y8 y9,LeO (bK.j0 k y0 y1 y2 y3 y4 y5 y6 y7 y8 y9) (bK.j0 (k + 1) y0 y1 y2 y3 y4 y5 y6 y7 y8 y9))∧(∀ y0 y1 y2 y3 y4 y5 y6 y7 y8 y9,LeO (bK.j1 k y0 y1 y2 y3 y4 y5 y6 y7 y8 y9) (bK.j1 (k + 1) y0 y1 y2 y3 y4 y5 y6 y7 y8 y9))∧(∀ y0 y1,LeO (bE.f k y0 y1) (bE.f (k + 1) y0 y1))∧(∀ y0 y1 y2,LeO (bE.l0 k y0 y1 y2) (bE.l0 (k + 1) y0 y1 y2))
 |0=>⟨fun _ _ _ _ _ _ _ _ _ r h=>by simp [bK.f] at h,fun _ _ _ _ _ _ _ _ _ _ r h=>by simp [bK.j0] at h,fun _ _ _ _ _ _ _ _ _ _ r h=>by simp [bK.j1] at h,fun _ _ r h=>by simp [bE.f] at h,fun _ _ _ r h=>by simp [bE.l0] at h⟩
 |k + 1=>by
  obtain ⟨ih0,ih1,ih2,ih3,ih4⟩:=bK.mono_all k
  refine ⟨?_,?_,?_,?_,?_⟩
  ·intro y0 y1 y2 y3 y4 y5 y6 y7 y8
   unfold bK.f
   have m0:=@dG.mono
   have m1:=@bZ.mono
   exact mo_
  ·intro y0 y1 y2 y3 y4 y5 y6 y7 y8 y9
   unfold bK.j0
   have m0:=@dG.mono
   have m1:=@bZ.mono
   exact mo_
  ·intro y0 y1 y2 y3 y4 y5 y6 y7 y8 y9
   unfold bK.j1
   have m0:=@dG.mono
   have m1:=@bZ.mono
   exact mo_
  ·intro y0 y1
   unfold bE.f
   have m0:=@dG.mono
   have m1:=@bZ.mono
   exact mo_
  ·intro y0 y1 y2
   unfold bE.l0
   have m0:=@dG.mono
   have m1:=@bZ.mono
   exact mo_
theorem bK.mono:∀ a0 a1 a2 a3 a4 a5 a6 a7 a8 k,LeO (bK.f k a0 a1 a2 a3 a4 a5 a6 a7 a8) (bK.f (k + 1) a0 a1 a2 a3 a4 a5 a6 a7 a8):=by
 intro a0 a1 a2 a3 a4 a5 a6 a7 a8 k
 obtain ⟨ih0,ih1,ih2,ih3,ih4⟩:=bK.mono_all k
 exact ih0 a0 a1 a2 a3 a4 a5 a6 a7 a8
theorem bE.mono:∀ a0 a1 k,LeO (bE.f k a0 a1) (bE.f (k + 1) a0 a1):=by
 intro a0 a1 k
 obtain ⟨ih0,ih1,ih2,ih3,ih4⟩:=bK.mono_all k
 exact ih3 a0 a1
abbrev bK.bY (k:Nat):Prop:=∀ (a0_0:Int) (a0_1:Int) (a0_2:Int) (a0_3:Int) (a0_4:Int) (A0_5:Option Addr) (c0_5:Nat) (l0_5:List (S28)) (A0_6:Option Addr) (c0_6:Nat) (l0_6:List (S70)) (A0_7:Option Addr) (c0_7:Nat) (l0_7:List (S70)) (a1:Int) (r:Bool) (w:World) (hr0_5:Kd.C k28 w A0_5 l0_5.length l0_5) (hc0_5:l0_5.length≤c0_5) (hr0_6:Kd.C k70 w A0_6 l0_6.length l0_6) (hc0_6:l0_6.length≤c0_6) (hr0_7:Kd.C k70 w A0_7 l0_7.length l0_7) (hc0_7:l0_7.length≤c0_7) (h:bK.f k a0_0 a0_1 a0_2 a0_3 a0_4 l0_5 l0_6 l0_7 a1=some r),
  Calls Try.prog 80 #[.agg #[.int .i64 a0_0, .int .i64 a0_1, .int .i64 a0_2, .int .i64 a0_3, .int .i64 a0_4, .slice A0_5 l0_5.length c0_5, .slice A0_6 l0_6.length c0_6, .slice A0_7 l0_7.length c0_7], .int .i64 a1] w fun e w'=>e= .returned (.bool r)∧Below w.heap.size w w'
abbrev bE.bY (k:Nat):Prop:=∀ (A0:Option Addr) (c0:Nat) (l0:List (S70)) (a1:Int) (r:Bool) (w:World) (hr0:Kd.C k70 w A0 l0.length l0) (hc0:l0.length≤c0) (h:bE.f k l0 a1=some r),
  Calls Try.prog 63 #[.slice A0 l0.length c0, .int .i64 a1] w fun e w'=>e= .returned (.bool r)∧Below w.heap.size w w'
end Go.Proofs.Ythiegfpcfedbgaa.PA

