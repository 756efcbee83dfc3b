/- Part 6. -/
import Derived.Test.YtodhbeeibagiaaaQFnProgramFold4
import Derived.Laws.BitsLemmas
set_option maxHeartbeats 8000000
set_option maxRecDepth 100000
namespace Go.Proofs.Ytodhbeeibagiaaa.PA
open Go.RowKit Go.Proofs.YtodhbeeibagiaaaW.PrintWords Go.Proofs.YtodhbeeibagiaaaW.PrintLast Go.Proofs.YtodhbeeibagiaaaW.PrintMore
attribute [local go_sem] max2_int min2_int max_two min_two max_three min_three max_four min_four
set_option linter.unusedVariables false
set_option linter.unusedSimpArgs false
theorem aZ.mono_l:∀ k,(∀ y0 y1 y2 y3 y4 y5 y6 y7 y8,LeO (aZ.j0 k y0 y1 y2 y3 y4 y5 y6 y7 y8) (aZ.j0 (k + 1) y0 y1 y2 y3 y4 y5 y6 y7 y8))∧(∀ y0 y1 y2 y3 y4,LeO (aZ.l0 k y0 y1 y2 y3 y4) (aZ.l0 (k + 1) y0 y1 y2 y3 y4))
 |0=>⟨fun _ _ _ _ _ _ _ _ _ r h=>by simp [aZ.j0] at h,fun _ _ _ _ _ r h=>by simp [aZ.l0] at h⟩
 |k + 1=>by
  obtain ⟨ih0,ih1⟩:=aZ.mono_l k
  refine ⟨?_,?_⟩
  ·intro y0 y1 y2 y3 y4 y5 y6 y7 y8
   unfold aZ.j0
   have m0:=@bN.mono
   have m1:=@dK.mono
   have m2:=@bB.mono
   have m3:=@eZ.mono
   have m4:=@dV.mono
   have m5:=@bE.mono
   have m6:=@bF.mono
   have m7:=@bT.mono
   have m8:=@bL.mono
   exact mo_
  ·intro y0 y1 y2 y3 y4
   unfold aZ.l0
   have m0:=@bN.mono
   have m1:=@dK.mono
   have m2:=@bB.mono
   have m3:=@eZ.mono
   have m4:=@dV.mono
   have m5:=@bE.mono
   have m6:=@bF.mono
   have m7:=@bT.mono
   have m8:=@bL.mono
   exact mo_
theorem aZ.mono:∀ a0 k,LeO (aZ.f k a0) (aZ.f (k + 1) a0):=by
 intro a0 k
 obtain ⟨ih0,ih1⟩:=aZ.mono_l k
 unfold aZ.f
 have m0:=@bN.mono
 have m1:=@dK.mono
 have m2:=@bB.mono
 have m3:=@eZ.mono
 have m4:=@dV.mono
 have m5:=@bE.mono
 have m6:=@bF.mono
 have m7:=@bT.mono
 have m8:=@bL.mono
 exact mo_
def aZ.T14:Bool × List (List Nat × List Nat):=(true,[([],[]),([0],[0]),([1,1],[1]),([2],[2]),([3,2],[2,3]),([2],[2]),([5,2],[2,5]),([4,6,2,2],[2,4,6]),([2,7],[2,7]),([8,7],[8]),([9],[9]),([10,9,9],[9,10]),([9],[9]),([12,11,9],[9,12]),([11,13,9],[9,11,13]),([9,14],[9,14]),([15,13,0,1,2,3,4,5,6,7,8,9,10,11,12,13,14,15],[15])])
def aZ.B14:List Nat:=[0,1,3,7,15,7,39,127,255,511,1023,2047,1023,8191,16383,32767,65535]
theorem aZ.WC:lC .any (opsOf Try.f10 14)=aZ.T14:=by kernel_rfl
theorem aZ.NG:iJ aZ.T14.2 aZ.B14=true:=by kernel_rfl
theorem aZ.calls (k:Nat) (A0:Option Addr) (c0:Nat) (l0:List Int) (r:Bool) (w:World) (hr0:Kd.C (Kd.int .u8) w A0 l0.length l0) (hc0:l0.length≤c0) (h:aZ.f k l0=some r):
  Calls Try.prog 10 #[.slice A0 l0.length c0] w fun e w'=>e= .returned (.bool r)∧Below w.heap.size w w':=by
 have hu46:=Try.underlying46
 have Q9:=am hr0
 have Qa:=am hc0
 clear hr0 hc0
 have HB:=am (Below.refl w.heap.size w)
 have H:(if (l0.length:Int) > 1048576 then (some true) else ((bT.f k l0).bind fun jR=>((bN.f k jR.1 jR.2).bind fun jL=>((bL.f k jR.1 jR.2).bind fun jN=>(if (jL.2.2 != jN.2.2)=true then (aZ.j0 k jL.2.2 jN.2.2 true jR.1 jR.2 jL.1 jL.2.1 jN.1 jN.2.1) else ((bE.f k jL.1 jL.2.1 jN.1 jN.2.1).bind fun qp=>(if qp=true then (aZ.j0 k jL.2.2 jN.2.2 (!jL.2.2) jR.1 jR.2 jL.1 jL.2.1 jN.1 jN.2.1) else (aZ.j0 k jL.2.2 jN.2.2 true jR.1 jR.2 jL.1 jL.2.1 jN.1 jN.2.1))))))))=some r:=h
 clear h
 by_cases c2:(l0.length:Int) > 1048576
 ·rw [if_pos c2] at H
  have qq:decide (1048576 < (l0.length:Int))=true:=decide_eq_true c2
  have qr:decide (1048576 < l0.length)=true:=decide_eq_true (by omega)
  clear c2
  obtain rfl:=Option.some.inj H
  go_enter Try.func10,Try.ntmps10
  go_wp2
  go_ret
  exact ⟨rr_,fU⟩
 rw [if_neg c2] at H
 have qq:decide (1048576 < (l0.length:Int))=false:=decide_eq_false c2
 have qr:decide (1048576 < l0.length)=false:=decide_eq_false (by omega)
 clear c2
 obtain ⟨⟨jg,jh⟩,A3,H⟩:=bsa H
 (try dsimp only at H)
 obtain ⟨⟨jf,ji,jM⟩,A4,H⟩:=bsa H
 (try dsimp only at H)
 obtain ⟨⟨jj,jq,jP⟩,A5,H⟩:=bsa H
 (try dsimp only at H)
 have zN:=am H
 clear H
 go_enter Try.func10,Try.ntmps10
 go_upto_region 6 with (first|((with_reducible refine aN (f:=26) rfl ?_);refine gl_ 15 Try.func26 #[.slice A0 l0.length c0] ?_;(with_reducible refine (bT.calls k _ _ l0 jg jh _ (aC_ Q9.out) Qa.out A3.out).mono ?_);rintro e w7 ⟨zO,Qb,rfl,ho0,ho1,hb⟩;refine ⟨_,rfl,?_⟩;have jw:=am (Kd.kP (Kd.dL (ok':=fun k_=>True) ho0 (fun _ hk_=>trivial)) (aJ fU));have jC:=am (Kd.dF (Kd.aG (ok':=fun k_=>some k_≠(zO:Value).ownBlock) ho1 (fun k_ hk_=>hk_.2)) (aJ fU));replace HB:=am (aD fU hb);(try clear hb);(try clear ho0);(try clear ho1))|((with_reducible refine cZ (N:=3) rfl ?_);refine dO rfl (N:=3) rfl (cs:=#[.slice none 0 0, .slice none 0 0]) (t:=46) rn_ ?_;intro jc hg w8 hbox hb;replace jw:=am (Kd.eG (aR_ jw.out) hb);replace jC:=am (Kd.dS (Kd.gU (aN_ jC.out) jc (Nat.le_of_eq hg.symm)) hb);have j4:=am (hbox);have J8:=am ((by rw [hg];exact (aJ fU):w.heap.size≤jc));have GE113:=am ((by rw [hg];exact (aJ fU):w.heap.size≤jc));replace HB:=am (aD fU hb);clear hb hbox hg;obtain ⟨jH,jG,Qc⟩:=Kd.lF jw.out;subst Qc;obtain ⟨q4,q5,q6,q7⟩:=gD j4.out;obtain ⟨jD,jB,zP⟩:=Kd.dG jC.out;subst zP)|((with_reducible refine aN (f:=27) rfl ?_);refine gl_ 18 Try.func27 #[.agg #[.slice jH jg.length jG, .slice jD jh.length jB]] ?_;(with_reducible refine (bN.calls k _ _ jg _ _ jh jf ji jM _ ?side1 (Kd.fE jw.out).2.1 ?side3 (Kd.bQ jC.out).2.1 A4.out).mono ?_);(case side1=>refine (Kd.fE (e:=3) (base:=w.heap.size) (ok:=fun k_=>True) (n:=jg.length) (c:=jG) ?_).2.2;exact (iH ((Kd.dL (Kd.eH (p:=⟨jc,1,none⟩) (Kd.eH (p:=⟨jc,0,none⟩) (Kd.fK jw.out j4.out (by decide)) (fun _ hk=>hk.2) (.slice jH jg.length jG)) (fun _ hk=>hk.2) (.slice jD jh.length jB)) (fun _ h_=>h_.1)))));(case side3=>refine (Kd.bQ (e:=23) (base:=w.heap.size) (ok:=fun k_=>(some k_≠(.slice jH jg.length jG:Value).ownBlock∧k_≠jc)) (n:=jh.length) (c:=jB) ?_).2.2;exact (eO ((Kd.aG (Kd.aT (p:=⟨jc,1,none⟩) (Kd.aT (p:=⟨jc,0,none⟩) (Kd.aG jC.out (fun k_ hk=>(⟨hk,hk.2⟩:_∧k_≠jc))) (fun _ hk=>hk.2) (.slice jH jg.length jG)) (fun _ hk=>hk.2) (.slice jD jh.length jB)) (fun _ h_=>h_.1)))));rintro e Qn ⟨zQ,Qd,rfl,ho0,ho1,hb⟩;refine ⟨_,rfl,?_⟩;have jE:=am (Kd.kP (Kd.yF (Kd.dL (ok':=fun k_=>True) ho0 (fun _ hk_=>trivial)) (Kd.kW (iH ((Kd.dL (Kd.eH (p:=⟨jc,1,none⟩) (Kd.eH (p:=⟨jc,0,none⟩) (Kd.fK jw.out j4.out (by decide)) (fun _ hk=>hk.2) (.slice jH jg.length jG)) (fun _ hk=>hk.2) (.slice jD jh.length jB)) (fun _ h_=>h_.1)))))) (aJ GV));have jF:=am (Kd.dF (Kd.aG (ok':=fun k_=>some k_≠(zQ:Value).ownBlock∧some k_≠(.slice jH jg.length jG:Value).ownBlock∧some k_≠(.slice jD jh.length jB:Value).ownBlock∧k_≠jc) ho1 (fun k_ hk_=>⟨hk_.2,(Kd.fresh' (Kd.kW (iH ((Kd.dL (Kd.eH (p:=⟨jc,1,none⟩) (Kd.eH (p:=⟨jc,0,none⟩) (Kd.fK jw.out j4.out (by decide)) (fun _ hk=>hk.2) (.slice jH jg.length jG)) (fun _ hk=>hk.2) (.slice jD jh.length jB)) (fun _ h_=>h_.1))))) k_ hk_.1),(Kd.fresh' (Kd.iN (eO ((Kd.aG (Kd.aT (p:=⟨jc,1,none⟩) (Kd.aT (p:=⟨jc,0,none⟩) (Kd.aG jC.out (fun k_ hk=>(⟨hk,hk.2⟩:_∧k_≠jc))) (fun _ hk=>hk.2) (.slice jH jg.length jG)) (fun _ hk=>hk.2) (.slice jD jh.length jB)) (fun _ h_=>h_.1))))) k_ hk_.1),(Kd.lH (g:=jc) (o:= .cells #[.slice jH jg.length jG, .slice jD jh.length jB] 46 (0,0)) (aM (aM j4.out 0 _ rfl) 1 _ rfl) k_ hk_.1)⟩)) (aJ GV));replace jw:=am (Kd.tH (iH ((Kd.dL (Kd.eH (p:=⟨jc,1,none⟩) (Kd.eH (p:=⟨jc,0,none⟩) (Kd.fK jw.out j4.out (by decide)) (fun _ hk=>hk.2) (.slice jH jg.length jG)) (fun _ hk=>hk.2) (.slice jD jh.length jB)) (fun _ h_=>h_.1)))) (Kd.oO ho0) hb);replace jC:=am (Kd.aG (Kd.mQ (Kd.mQ (Kd.RZ (eO ((Kd.aG (Kd.aT (p:=⟨jc,1,none⟩) (Kd.aT (p:=⟨jc,0,none⟩) (Kd.aG jC.out (fun k_ hk=>(⟨hk,hk.2⟩:_∧k_≠jc))) (fun _ hk=>hk.2) (.slice jH jg.length jG)) (fun _ hk=>hk.2) (.slice jD jh.length jB)) (fun _ h_=>h_.1)))) hb) (Kd.oO ho0)) (Kd.dD ho1)) (fun _ h_=>h_.1));replace j4:=am (dR (g:=jc) (o:= .cells #[.slice jH jg.length jG, .slice jD jh.length jB] 46 (0,0)) (aM (aM j4.out 0 _ rfl) 1 _ rfl) hb);replace HB:=am (aD GV hb);(try clear hb);(try clear ho0);(try clear ho1))|((with_reducible refine cZ (N:=4) rfl ?_);refine dO rfl (N:=4) rfl (cs:=#[.slice none 0 0, .slice none 0 0]) (t:=46) rn_ ?_;intro j9 hg Qo hbox hb;replace jw:=am (Kd.eG (aR_ jw.out) hb);replace jC:=am (Kd.dS (Kd.gU (aN_ jC.out) j9 (Nat.le_of_eq hg.symm)) hb);replace jE:=am (Kd.eG (aR_ jE.out) hb);replace jF:=am (Kd.dS (Kd.gU (aN_ jF.out) j9 (Nat.le_of_eq hg.symm)) hb);have j5:=am (hbox);have J9:=am ((by rw [hg];exact (aJ GV):w.heap.size≤j9));have GE118:=am ((by rw [hg];exact (aJ GV):w.heap.size≤j9));replace HB:=am (aD GV hb);have jn:=am ((by rw [hg];exact Nat.ne_of_lt (gN j4.out):jc≠j9));have jz:=am ((by rw [hg];exact Nat.ne_of_gt (gN j4.out):j9≠jc));replace j4:=bbP j4 hb;clear hb hbox hg;obtain ⟨jo,jl,zR⟩:=Kd.lF jE.out;subst zR;have Ja:=jz.out;have Jb:=jn.out;obtain ⟨q8,q9,qa,qb⟩:=gD j5.out;obtain ⟨jx,jv,zS⟩:=Kd.dG jF.out;subst zS;obtain ⟨qc,qd,qe,qf⟩:=gD j4.out)|((with_reducible refine aN (f:=28) rfl ?_);refine gl_ 23 Try.func28 #[.agg #[.slice jH jg.length jG, .slice jD jh.length jB]] ?_;(with_reducible refine (bL.calls k _ _ jg _ _ jh jj jq jP _ ?side1 (Kd.fE jw.out).2.1 ?side3 (Kd.bQ jC.out).2.1 A5.out).mono ?_);(case side1=>refine (Kd.fE (e:=3) (base:=w.heap.size) (ok:=fun k_=>(True∧some k_≠(.slice jo jf.length jl:Value).ownBlock)) (n:=jg.length) (c:=jG) ?_).2.2;exact (iH ((Kd.dL (Kd.eH (p:=⟨j9,1,none⟩) (Kd.eH (p:=⟨j9,0,none⟩) (Kd.fK jw.out j5.out (by decide)) (fun _ hk=>hk.2) (.slice jo jf.length jl)) (fun _ hk=>hk.2) (.slice jx ji.length jv)) (fun _ h_=>h_.1)))));(case side3=>refine (Kd.bQ (e:=23) (base:=w.heap.size) (ok:=fun k_=>((((some k_≠(.slice jH jg.length jG:Value).ownBlock∧k_≠jc)∧some k_≠(.slice jo jf.length jl:Value).ownBlock)∧some k_≠(.slice jx ji.length jv:Value).ownBlock)∧k_≠j9)) (n:=jh.length) (c:=jB) ?_).2.2;exact (eO ((Kd.aG (Kd.aT (p:=⟨j9,1,none⟩) (Kd.aT (p:=⟨j9,0,none⟩) (Kd.aG jC.out (fun k_ hk=>(⟨hk,hk.2⟩:_∧k_≠j9))) (fun _ hk=>hk.2) (.slice jo jf.length jl)) (fun _ hk=>hk.2) (.slice jx ji.length jv)) (fun _ h_=>h_.1)))));rintro e Qp ⟨zT,Qe,rfl,ho0,ho1,hb⟩;refine ⟨_,rfl,?_⟩;have jJ:=am (Kd.kP (Kd.yF (Kd.yF (Kd.dL (ok':=fun k_=>True) ho0 (fun _ hk_=>trivial)) (Kd.kW (iH ((Kd.dL (Kd.eH (p:=⟨j9,1,none⟩) (Kd.eH (p:=⟨j9,0,none⟩) (Kd.fK jw.out j5.out (by decide)) (fun _ hk=>hk.2) (.slice jo jf.length jl)) (fun _ hk=>hk.2) (.slice jx ji.length jv)) (fun _ h_=>h_.1)))))) (Kd.kW (iH ((Kd.dL (Kd.eH (p:=⟨j9,1,none⟩) (Kd.eH (p:=⟨j9,0,none⟩) (Kd.fK jE.out j5.out (by decide)) (fun _ hk=>hk.2) (.slice jo jf.length jl)) (fun _ hk=>hk.2) (.slice jx ji.length jv)) (fun _ h_=>h_.1)))))) (aJ GK));have jK:=am (Kd.dF (Kd.aG (ok':=fun k_=>some k_≠(zT:Value).ownBlock∧some k_≠(.slice jH jg.length jG:Value).ownBlock∧some k_≠(.slice jD jh.length jB:Value).ownBlock∧some k_≠(.slice jo jf.length jl:Value).ownBlock∧some k_≠(.slice jx ji.length jv:Value).ownBlock∧k_≠jc∧k_≠j9) ho1 (fun k_ hk_=>⟨hk_.2,(Kd.fresh' (Kd.kW (iH ((Kd.dL (Kd.eH (p:=⟨j9,1,none⟩) (Kd.eH (p:=⟨j9,0,none⟩) (Kd.fK jw.out j5.out (by decide)) (fun _ hk=>hk.2) (.slice jo jf.length jl)) (fun _ hk=>hk.2) (.slice jx ji.length jv)) (fun _ h_=>h_.1))))) k_ hk_.1),(Kd.fresh' (Kd.iN (eO ((Kd.aG (Kd.aT (p:=⟨j9,1,none⟩) (Kd.aT (p:=⟨j9,0,none⟩) (Kd.aG jC.out (fun k_ hk=>(⟨hk,hk.2⟩:_∧k_≠j9))) (fun _ hk=>hk.2) (.slice jo jf.length jl)) (fun _ hk=>hk.2) (.slice jx ji.length jv)) (fun _ h_=>h_.1))))) k_ hk_.1),(Kd.fresh' (Kd.kW (iH ((Kd.dL (Kd.eH (p:=⟨j9,1,none⟩) (Kd.eH (p:=⟨j9,0,none⟩) (Kd.fK jE.out j5.out (by decide)) (fun _ hk=>hk.2) (.slice jo jf.length jl)) (fun _ hk=>hk.2) (.slice jx ji.length jv)) (fun _ h_=>h_.1))))) k_ hk_.1),(Kd.fresh' (Kd.iN (eO ((Kd.aG (Kd.aT (p:=⟨j9,1,none⟩) (Kd.aT (p:=⟨j9,0,none⟩) (Kd.aG jF.out (fun k_ hk=>(⟨hk,hk.2⟩:_∧k_≠j9))) (fun _ hk=>hk.2) (.slice jo jf.length jl)) (fun _ hk=>hk.2) (.slice jx ji.length jv)) (fun _ h_=>h_.1))))) k_ hk_.1),(Kd.lH (g:=jc) (o:= .cells #[.slice jH jg.length jG, .slice jD jh.length jB] 46 (0,0)) (bC (bC j4.out jn.out _) jn.out _) k_ hk_.1),(Kd.lH (g:=j9) (o:= .cells #[.slice jo jf.length jl, .slice jx ji.length jv] 46 (0,0)) (aM (aM j5.out 0 _ rfl) 1 _ rfl) k_ hk_.1)⟩)) (aJ GK));replace jw:=am (Kd.tH (iH ((Kd.dL (Kd.eH (p:=⟨j9,1,none⟩) (Kd.eH (p:=⟨j9,0,none⟩) (Kd.fK jw.out j5.out (by decide)) (fun _ hk=>hk.2) (.slice jo jf.length jl)) (fun _ hk=>hk.2) (.slice jx ji.length jv)) (fun _ h_=>h_.1)))) (Kd.oO ho0) hb);replace jC:=am (Kd.aG (Kd.mQ (Kd.mQ (Kd.RZ (eO ((Kd.aG (Kd.aT (p:=⟨j9,1,none⟩) (Kd.aT (p:=⟨j9,0,none⟩) (Kd.aG jC.out (fun k_ hk=>(⟨hk,hk.2⟩:_∧k_≠j9))) (fun _ hk=>hk.2) (.slice jo jf.length jl)) (fun _ hk=>hk.2) (.slice jx ji.length jv)) (fun _ h_=>h_.1)))) hb) (Kd.oO ho0)) (Kd.dD ho1)) (fun _ h_=>h_.1));replace jE:=am (Kd.tH (iH ((Kd.dL (Kd.eH (p:=⟨j9,1,none⟩) (Kd.eH (p:=⟨j9,0,none⟩) (Kd.fK jE.out j5.out (by decide)) (fun _ hk=>hk.2) (.slice jo jf.length jl)) (fun _ hk=>hk.2) (.slice jx ji.length jv)) (fun _ h_=>h_.1)))) (Kd.oO ho0) hb);replace jF:=am (Kd.aG (Kd.mQ (Kd.mQ (Kd.RZ (eO ((Kd.aG (Kd.aT (p:=⟨j9,1,none⟩) (Kd.aT (p:=⟨j9,0,none⟩) (Kd.aG jF.out (fun k_ hk=>(⟨hk,hk.2⟩:_∧k_≠j9))) (fun _ hk=>hk.2) (.slice jo jf.length jl)) (fun _ hk=>hk.2) (.slice jx ji.length jv)) (fun _ h_=>h_.1)))) hb) (Kd.oO ho0)) (Kd.dD ho1)) (fun _ h_=>h_.1));replace j4:=am (dR (g:=jc) (o:= .cells #[.slice jH jg.length jG, .slice jD jh.length jB] 46 (0,0)) (bC (bC j4.out jn.out _) jn.out _) hb);replace j5:=am (dR (g:=j9) (o:= .cells #[.slice jo jf.length jl, .slice jx ji.length jv] 46 (0,0)) (aM (aM j5.out 0 _ rfl) 1 _ rfl) hb);replace HB:=am (aD GK hb);(try clear hb);(try clear ho0);(try clear ho1))|((with_reducible refine cZ (N:=6) rfl ?_);refine dO rfl (N:=6) rfl (cs:=#[.slice none 0 0, .slice none 0 0]) (t:=46) rn_ ?_;intro j3 hg Qq hbox hb;replace jw:=am (Kd.eG (aR_ jw.out) hb);replace jC:=am (Kd.dS (Kd.gU (aN_ jC.out) j3 (Nat.le_of_eq hg.symm)) hb);replace jE:=am (Kd.eG (aR_ jE.out) hb);replace jF:=am (Kd.dS (Kd.gU (aN_ jF.out) j3 (Nat.le_of_eq hg.symm)) hb);replace jJ:=am (Kd.eG (aR_ jJ.out) hb);replace jK:=am (Kd.dS (Kd.gU (aN_ jK.out) j3 (Nat.le_of_eq hg.symm)) hb);have ja:=am (hbox);have Jc:=am ((by rw [hg];exact (aJ GK):w.heap.size≤j3));have GE123:=am ((by rw [hg];exact (aJ GK):w.heap.size≤j3));replace HB:=am (aD GK hb);have jk:=am ((by rw [hg];exact Nat.ne_of_lt (gN j4.out):jc≠j3));have jA:=am ((by rw [hg];exact Nat.ne_of_gt (gN j4.out):j3≠jc));replace j4:=bbP j4 hb;have jr:=am ((by rw [hg];exact Nat.ne_of_lt (gN j5.out):j9≠j3));have jI:=am ((by rw [hg];exact Nat.ne_of_gt (gN j5.out):j3≠j9));replace j5:=bbP j5 hb;clear hb hbox hg;obtain ⟨jp,jm,zU⟩:=Kd.lF jJ.out;subst zU;have Jd:=jA.out;have Je:=jk.out;have Jf:=jI.out;have Jg:=jr.out;obtain ⟨qg,qh,qi,qj⟩:=gD ja.out;obtain ⟨ju,jt,zV⟩:=Kd.dG jK.out;subst zV))
 (try simp only [Act.put,List.setIfInBounds_toArray,List.set_cons_zero,List.set_cons_succ])
 go_cut [38] (fun Qf wc=>∃ (kq:Nat) (qk:Bool),Qf= .bool qk∧Aside0 (aZ.j0 kq jM jP qk jg jh jf ji jj jq=some r)∧Aside0 (kq≤k)∧Aside0 (Kd.R (Kd.int .i64) 3 wc w.heap.size (fun k_=>some k_≠((.slice jo jf.length jl):Value).ownBlock∧some k_≠((.slice jp jj.length jm):Value).ownBlock) (.slice jH jg.length jG) jg)∧Aside0 (Kd.N (Kd.slice 35 k35) 23 wc w.heap.size (fun k_=>some k_≠((.slice jH jg.length jG):Value).ownBlock∧some k_≠((.slice jo jf.length jl):Value).ownBlock∧some k_≠((.slice jx ji.length jv):Value).ownBlock∧some k_≠((.slice jp jj.length jm):Value).ownBlock∧some k_≠((.slice ju jq.length jt):Value).ownBlock∧k_≠jc∧k_≠j9∧k_≠j3) (.slice jD jh.length jB) jh)∧Aside0 (Kd.R (Kd.int .i64) 3 wc w.heap.size (fun k_=>some k_≠((.slice jH jg.length jG):Value).ownBlock∧some k_≠((.slice jp jj.length jm):Value).ownBlock) (.slice jo jf.length jl) jf)∧Aside0 (Kd.N (Kd.slice 35 k35) 23 wc w.heap.size (fun k_=>some k_≠((.slice jH jg.length jG):Value).ownBlock∧some k_≠((.slice jD jh.length jB):Value).ownBlock∧some k_≠((.slice jo jf.length jl):Value).ownBlock∧some k_≠((.slice jp jj.length jm):Value).ownBlock∧some k_≠((.slice ju jq.length jt):Value).ownBlock∧k_≠jc∧k_≠j9∧k_≠j3) (.slice jx ji.length jv) ji)∧Aside0 (Kd.R (Kd.int .i64) 3 wc w.heap.size (fun k_=>some k_≠((.slice jH jg.length jG):Value).ownBlock∧some k_≠((.slice jo jf.length jl):Value).ownBlock) (.slice jp jj.length jm) jj)∧Aside0 (Kd.N (Kd.slice 35 k35) 23 wc w.heap.size (fun k_=>some k_≠((.slice jH jg.length jG):Value).ownBlock∧some k_≠((.slice jD jh.length jB):Value).ownBlock∧some k_≠((.slice jo jf.length jl):Value).ownBlock∧some k_≠((.slice jx ji.length jv):Value).ownBlock∧some k_≠((.slice jp jj.length jm):Value).ownBlock∧k_≠jc∧k_≠j9∧k_≠j3) (.slice ju jq.length jt) jq)∧Aside0 (wc.heap[jc]?=some (.cells #[(.slice jH jg.length jG),(.slice jD jh.length jB)] 46 (0,0)))∧Aside0 (wc.heap[j9]?=some (.cells #[(.slice jo jf.length jl),(.slice jx ji.length jv)] 46 (0,0)))∧Aside0 (wc.heap[j3]?=some (.cells #[(.slice jp jj.length jm),(.slice ju jq.length jt)] 46 (0,0)))∧Aside0 (Below w.heap.size w wc))
 case first=>
  have H:=zN.out
  clear zN
  by_cases ql:(jM != jP)=true
  ·rw [if_pos ql] at H
   have q2:(jM != jP)=true:=ql
   (try (have qw:decide (jM=jP)=false:=by simpa using ql))
   (try (have qx:(jM == jP)=false:=by simpa using ql))
   (try (have Jh:¬ (jM=jP):=by simpa using ql))
   clear ql
   (first|rw [q2]|(simp only [dN,dU];rw [q2])|skip)
   have H':=am H
   clear H
   go_wp2
   go_meet
   case rel=>exact ⟨_,(true),sd_,H',⟨by first|omega|exact Nat.le_refl _⟩,⟨iH (Kd.dL (Kd.eH (p:=⟨j3,1,none⟩) (Kd.eH (p:=⟨j3,0,none⟩) (Kd.fK jw.out ja.out (by decide)) (fun _ hk=>hk.2) (.slice jp jj.length jm)) (fun _ hk=>hk.2) (.slice ju jq.length jt)) (fun _ hk=>⟨hk.1.1.2,hk.1.2⟩))⟩,⟨eO (Kd.aG (Kd.aT (p:=⟨j3,1,none⟩) (Kd.aT (p:=⟨j3,0,none⟩) (Kd.aG jC.out (fun k_ hk=>(⟨hk,hk.2⟩:_∧k_≠j3))) (fun _ hk=>hk.2) (.slice jp jj.length jm)) (fun _ hk=>hk.2) (.slice ju jq.length jt)) (fun _ hk=>⟨hk.1.1.1.1.1.1.1.1,⟨hk.1.1.1.1.1.1.2,⟨hk.1.1.1.1.1.2,⟨hk.1.1.1.2,⟨hk.1.1.2,⟨hk.1.1.1.1.1.1.1.2,⟨hk.1.1.1.1.2,hk.1.2⟩⟩⟩⟩⟩⟩⟩))⟩,⟨iH (Kd.dL (Kd.eH (p:=⟨j3,1,none⟩) (Kd.eH (p:=⟨j3,0,none⟩) (Kd.fK jE.out ja.out (by decide)) (fun _ hk=>hk.2) (.slice jp jj.length jm)) (fun _ hk=>hk.2) (.slice ju jq.length jt)) (fun _ hk=>⟨hk.1.1.2,hk.1.2⟩))⟩,⟨eO (Kd.aG (Kd.aT (p:=⟨j3,1,none⟩) (Kd.aT (p:=⟨j3,0,none⟩) (Kd.aG jF.out (fun k_ hk=>(⟨hk,hk.2⟩:_∧k_≠j3))) (fun _ hk=>hk.2) (.slice jp jj.length jm)) (fun _ hk=>hk.2) (.slice ju jq.length jt)) (fun _ hk=>⟨hk.1.1.1.1.1.2.1,⟨hk.1.1.1.1.1.2.2.1,⟨hk.1.1.1.1.1.1,⟨hk.1.1.1.2,⟨hk.1.1.2,⟨hk.1.1.1.1.1.2.2.2,⟨hk.1.1.1.1.2,hk.1.2⟩⟩⟩⟩⟩⟩⟩))⟩,⟨iH (Kd.dL (Kd.eH (p:=⟨j3,1,none⟩) (Kd.eH (p:=⟨j3,0,none⟩) (Kd.fK jJ.out ja.out (by decide)) (fun _ hk=>hk.2) (.slice jp jj.length jm)) (fun _ hk=>hk.2) (.slice ju jq.length jt)) (fun _ hk=>⟨hk.1.1.2,hk.1.2⟩))⟩,⟨eO (Kd.aG (Kd.aT (p:=⟨j3,1,none⟩) (Kd.aT (p:=⟨j3,0,none⟩) (Kd.aG jK.out (fun k_ hk=>(⟨hk,hk.2⟩:_∧k_≠j3))) (fun _ hk=>hk.2) (.slice jp jj.length jm)) (fun _ hk=>hk.2) (.slice ju jq.length jt)) (fun _ hk=>⟨hk.1.1.2.1,⟨hk.1.1.2.2.1,⟨hk.1.1.2.2.2.1,⟨hk.1.1.2.2.2.2.1,⟨hk.1.1.1,⟨hk.1.1.2.2.2.2.2.1,⟨hk.1.1.2.2.2.2.2.2,hk.1.2⟩⟩⟩⟩⟩⟩⟩))⟩,⟨(bC (bC j4.out jk.out _) jk.out _)⟩,⟨(bC (bC j5.out jr.out _) jr.out _)⟩,⟨(aM (aM ja.out 0 _ rfl) 1 _ rfl)⟩,⟨mI⟩⟩
  rw [if_neg ql] at H
  have q2:(jM != jP)=false:=by simpa using ql
  (try (have qw:decide (jM=jP)=true:=by simpa using ql))
  (try (have qx:(jM == jP)=true:=by simpa using ql))
  clear ql
  (first|rw [q2]|(simp only [dN,dU];rw [q2])|skip)
  obtain ⟨qp,qy,H⟩:=bsm H
  (try dsimp only at H)
  have Ji:=am qy
  clear qy
  by_cases qM:qp=true
  ·subst qM
   rw [if_pos rfl] at H
   have H':=am H
   clear H
   have Jj:=jz.out
   have Jk:=jn.out
   have Jl:=jr.out
   have Jm:=jI.out
   obtain ⟨qN,qO,qP,qQ⟩:=gD j5.out
   have Jn:=jA.out
   have Jo:=jk.out
   obtain ⟨qR,qS,qT,qU⟩:=gD ja.out
   go_wp2_with (first|(go_at_call 29;(with_reducible refine (bE.calls k _ _ jf _ _ ji _ _ jj _ _ jq true _ ?side1 (Kd.fE jE.out).2.1 ?side3 (Kd.bQ jF.out).2.1 ?side5 (Kd.fE jJ.out).2.1 ?side7 (Kd.bQ jK.out).2.1 Ji.out).mono ?_);(case side1=>refine (Kd.fE (e:=3) (base:=w.heap.size) (ok:=fun k_=>((True∧some k_≠(.slice jH jg.length jG:Value).ownBlock)∧some k_≠(.slice jp jj.length jm:Value).ownBlock)) (n:=jf.length) (c:=jl) ?_).2.2;exact (iH ((Kd.dL (Kd.eH (p:=⟨j3,1,none⟩) (Kd.eH (p:=⟨j3,0,none⟩) (Kd.fK jE.out ja.out (by decide)) (fun _ hk=>hk.2) (.slice jp jj.length jm)) (fun _ hk=>hk.2) (.slice ju jq.length jt)) (fun _ h_=>h_.1)))));(case side3=>refine (Kd.bQ (e:=23) (base:=w.heap.size) (ok:=fun k_=>(((((some k_≠(.slice jo jf.length jl:Value).ownBlock∧(some k_≠(.slice jH jg.length jG:Value).ownBlock∧(some k_≠(.slice jD jh.length jB:Value).ownBlock∧k_≠jc)))∧k_≠j9)∧some k_≠(.slice jp jj.length jm:Value).ownBlock)∧some k_≠(.slice ju jq.length jt:Value).ownBlock)∧k_≠j3)) (n:=ji.length) (c:=jv) ?_).2.2;exact (eO ((Kd.aG (Kd.aT (p:=⟨j3,1,none⟩) (Kd.aT (p:=⟨j3,0,none⟩) (Kd.aG jF.out (fun k_ hk=>(⟨hk,hk.2⟩:_∧k_≠j3))) (fun _ hk=>hk.2) (.slice jp jj.length jm)) (fun _ hk=>hk.2) (.slice ju jq.length jt)) (fun _ h_=>h_.1)))));(case side5=>refine (Kd.fE (e:=3) (base:=w.heap.size) (ok:=fun k_=>((True∧some k_≠(.slice jH jg.length jG:Value).ownBlock)∧some k_≠(.slice jo jf.length jl:Value).ownBlock)) (n:=jj.length) (c:=jm) ?_).2.2;exact (iH ((Kd.dL (Kd.eH (p:=⟨j3,1,none⟩) (Kd.eH (p:=⟨j3,0,none⟩) (Kd.fK jJ.out ja.out (by decide)) (fun _ hk=>hk.2) (.slice jp jj.length jm)) (fun _ hk=>hk.2) (.slice ju jq.length jt)) (fun _ h_=>h_.1)))));(case side7=>refine (Kd.bQ (e:=23) (base:=w.heap.size) (ok:=fun k_=>((some k_≠(.slice jp jj.length jm:Value).ownBlock∧(some k_≠(.slice jH jg.length jG:Value).ownBlock∧(some k_≠(.slice jD jh.length jB:Value).ownBlock∧(some k_≠(.slice jo jf.length jl:Value).ownBlock∧(some k_≠(.slice jx ji.length jv:Value).ownBlock∧(k_≠jc∧k_≠j9))))))∧k_≠j3)) (n:=jq.length) (c:=jt) ?_).2.2;exact (eO ((Kd.aG (Kd.aT (p:=⟨j3,1,none⟩) (Kd.aT (p:=⟨j3,0,none⟩) (Kd.aG jK.out (fun k_ hk=>(⟨hk,hk.2⟩:_∧k_≠j3))) (fun _ hk=>hk.2) (.slice jp jj.length jm)) (fun _ hk=>hk.2) (.slice ju jq.length jt)) (fun _ h_=>h_.1)))));rintro e Qr ⟨rfl,hb⟩;replace jw:=am (Kd.eG (iH ((Kd.dL (Kd.eH (p:=⟨j3,1,none⟩) (Kd.eH (p:=⟨j3,0,none⟩) (Kd.fK jw.out ja.out (by decide)) (fun _ hk=>hk.2) (.slice jp jj.length jm)) (fun _ hk=>hk.2) (.slice ju jq.length jt)) (fun _ h_=>h_.1)))) hb);replace jC:=am (Kd.dS (eO ((Kd.aG (Kd.aT (p:=⟨j3,1,none⟩) (Kd.aT (p:=⟨j3,0,none⟩) (Kd.aG jC.out (fun k_ hk=>(⟨hk,hk.2⟩:_∧k_≠j3))) (fun _ hk=>hk.2) (.slice jp jj.length jm)) (fun _ hk=>hk.2) (.slice ju jq.length jt)) (fun _ h_=>h_.1)))) hb);replace jE:=am (Kd.eG (iH ((Kd.dL (Kd.eH (p:=⟨j3,1,none⟩) (Kd.eH (p:=⟨j3,0,none⟩) (Kd.fK jE.out ja.out (by decide)) (fun _ hk=>hk.2) (.slice jp jj.length jm)) (fun _ hk=>hk.2) (.slice ju jq.length jt)) (fun _ h_=>h_.1)))) hb);replace jF:=am (Kd.dS (eO ((Kd.aG (Kd.aT (p:=⟨j3,1,none⟩) (Kd.aT (p:=⟨j3,0,none⟩) (Kd.aG jF.out (fun k_ hk=>(⟨hk,hk.2⟩:_∧k_≠j3))) (fun _ hk=>hk.2) (.slice jp jj.length jm)) (fun _ hk=>hk.2) (.slice ju jq.length jt)) (fun _ h_=>h_.1)))) hb);replace jJ:=am (Kd.eG (iH ((Kd.dL (Kd.eH (p:=⟨j3,1,none⟩) (Kd.eH (p:=⟨j3,0,none⟩) (Kd.fK jJ.out ja.out (by decide)) (fun _ hk=>hk.2) (.slice jp jj.length jm)) (fun _ hk=>hk.2) (.slice ju jq.length jt)) (fun _ h_=>h_.1)))) hb);replace jK:=am (Kd.dS (eO ((Kd.aG (Kd.aT (p:=⟨j3,1,none⟩) (Kd.aT (p:=⟨j3,0,none⟩) (Kd.aG jK.out (fun k_ hk=>(⟨hk,hk.2⟩:_∧k_≠j3))) (fun _ hk=>hk.2) (.slice jp jj.length jm)) (fun _ hk=>hk.2) (.slice ju jq.length jt)) (fun _ h_=>h_.1)))) hb);replace j4:=am (dR (g:=jc) (o:= .cells #[.slice jH jg.length jG, .slice jD jh.length jB] 46 (0,0)) (bC (bC j4.out jk.out _) jk.out _) hb);replace j5:=am (dR (g:=j9) (o:= .cells #[.slice jo jf.length jl, .slice jx ji.length jv] 46 (0,0)) (bC (bC j5.out jr.out _) jr.out _) hb);replace ja:=am (dR (g:=j3) (o:= .cells #[.slice jp jj.length jm, .slice ju jq.length jt] 46 (0,0)) (aM (aM ja.out 0 _ rfl) 1 _ rfl) hb);replace HB:=am (aD mI hb);(try clear hb)))
   go_meet
   case rel=>exact ⟨_,(!jM),sd_,H',⟨by first|omega|exact Nat.le_refl _⟩,⟨iH (Kd.dL jw.out (fun _ hk=>⟨hk.1.2,hk.2⟩))⟩,⟨eO (Kd.aG jC.out (fun _ hk=>⟨hk.1.1.1.1.1.1.1,⟨hk.1.1.1.1.1.2,⟨hk.1.1.1.1.2,⟨hk.1.1.2,⟨hk.1.2,⟨hk.1.1.1.1.1.1.2,⟨hk.1.1.1.2,hk.2⟩⟩⟩⟩⟩⟩⟩))⟩,⟨iH (Kd.dL jE.out (fun _ hk=>⟨hk.1.2,hk.2⟩))⟩,⟨eO (Kd.aG jF.out (fun _ hk=>⟨hk.1.1.1.1.2.1,⟨hk.1.1.1.1.2.2.1,⟨hk.1.1.1.1.1,⟨hk.1.1.2,⟨hk.1.2,⟨hk.1.1.1.1.2.2.2,⟨hk.1.1.1.2,hk.2⟩⟩⟩⟩⟩⟩⟩))⟩,⟨iH (Kd.dL jJ.out (fun _ hk=>⟨hk.1.2,hk.2⟩))⟩,⟨eO (Kd.aG jK.out (fun _ hk=>⟨hk.1.2.1,⟨hk.1.2.2.1,⟨hk.1.2.2.2.1,⟨hk.1.2.2.2.2.1,⟨hk.1.1,⟨hk.1.2.2.2.2.2.1,⟨hk.1.2.2.2.2.2.2,hk.2⟩⟩⟩⟩⟩⟩⟩))⟩,⟨by (with_reducible repeat (first|refine dI ?_ _|refine bK ?_|refine bY ?_ _));exact j4.out⟩,⟨by (with_reducible repeat (first|refine dI ?_ _|refine bK ?_|refine bY ?_ _));exact j5.out⟩,⟨by (with_reducible repeat (first|refine dI ?_ _|refine bK ?_|refine bY ?_ _));exact ja.out⟩,⟨mI⟩⟩
  replace qM:=Bool.eq_false_iff.mpr qM
  subst qM
  rw [if_neg (show ¬ (false=true) by decide)] at H
  have H':=am H
  clear H
  have Jp:=jz.out
  have Jq:=jn.out
  have Jr:=jr.out
  have Js:=jI.out
  obtain ⟨qV,qW,qX,qY⟩:=gD j5.out
  have Jt:=jA.out
  have Ju:=jk.out
  obtain ⟨qZ,z0,z1,z2⟩:=gD ja.out
  go_wp2_with (first|(go_at_call 29;(with_reducible refine (bE.calls k _ _ jf _ _ ji _ _ jj _ _ jq false _ ?side1 (Kd.fE jE.out).2.1 ?side3 (Kd.bQ jF.out).2.1 ?side5 (Kd.fE jJ.out).2.1 ?side7 (Kd.bQ jK.out).2.1 Ji.out).mono ?_);(case side1=>refine (Kd.fE (e:=3) (base:=w.heap.size) (ok:=fun k_=>((True∧some k_≠(.slice jH jg.length jG:Value).ownBlock)∧some k_≠(.slice jp jj.length jm:Value).ownBlock)) (n:=jf.length) (c:=jl) ?_).2.2;exact (iH ((Kd.dL (Kd.eH (p:=⟨j3,1,none⟩) (Kd.eH (p:=⟨j3,0,none⟩) (Kd.fK jE.out ja.out (by decide)) (fun _ hk=>hk.2) (.slice jp jj.length jm)) (fun _ hk=>hk.2) (.slice ju jq.length jt)) (fun _ h_=>h_.1)))));(case side3=>refine (Kd.bQ (e:=23) (base:=w.heap.size) (ok:=fun k_=>(((((some k_≠(.slice jo jf.length jl:Value).ownBlock∧(some k_≠(.slice jH jg.length jG:Value).ownBlock∧(some k_≠(.slice jD jh.length jB:Value).ownBlock∧k_≠jc)))∧k_≠j9)∧some k_≠(.slice jp jj.length jm:Value).ownBlock)∧some k_≠(.slice ju jq.length jt:Value).ownBlock)∧k_≠j3)) (n:=ji.length) (c:=jv) ?_).2.2;exact (eO ((Kd.aG (Kd.aT (p:=⟨j3,1,none⟩) (Kd.aT (p:=⟨j3,0,none⟩) (Kd.aG jF.out (fun k_ hk=>(⟨hk,hk.2⟩:_∧k_≠j3))) (fun _ hk=>hk.2) (.slice jp jj.length jm)) (fun _ hk=>hk.2) (.slice ju jq.length jt)) (fun _ h_=>h_.1)))));(case side5=>refine (Kd.fE (e:=3) (base:=w.heap.size) (ok:=fun k_=>((True∧some k_≠(.slice jH jg.length jG:Value).ownBlock)∧some k_≠(.slice jo jf.length jl:Value).ownBlock)) (n:=jj.length) (c:=jm) ?_).2.2;exact (iH ((Kd.dL (Kd.eH (p:=⟨j3,1,none⟩) (Kd.eH (p:=⟨j3,0,none⟩) (Kd.fK jJ.out ja.out (by decide)) (fun _ hk=>hk.2) (.slice jp jj.length jm)) (fun _ hk=>hk.2) (.slice ju jq.length jt)) (fun _ h_=>h_.1)))));(case side7=>refine (Kd.bQ (e:=23) (base:=w.heap.size) (ok:=fun k_=>((some k_≠(.slice jp jj.length jm:Value).ownBlock∧(some k_≠(.slice jH jg.length jG:Value).ownBlock∧(some k_≠(.slice jD jh.length jB:Value).ownBlock∧(some k_≠(.slice jo jf.length jl:Value).ownBlock∧(some k_≠(.slice jx ji.length jv:Value).ownBlock∧(k_≠jc∧k_≠j9))))))∧k_≠j3)) (n:=jq.length) (c:=jt) ?_).2.2;exact (eO ((Kd.aG (Kd.aT (p:=⟨j3,1,none⟩) (Kd.aT (p:=⟨j3,0,none⟩) (Kd.aG jK.out (fun k_ hk=>(⟨hk,hk.2⟩:_∧k_≠j3))) (fun _ hk=>hk.2) (.slice jp jj.length jm)) (fun _ hk=>hk.2) (.slice ju jq.length jt)) (fun _ h_=>h_.1)))));rintro e Qs ⟨rfl,hb⟩;replace jw:=am (Kd.eG (iH ((Kd.dL (Kd.eH (p:=⟨j3,1,none⟩) (Kd.eH (p:=⟨j3,0,none⟩) (Kd.fK jw.out ja.out (by decide)) (fun _ hk=>hk.2) (.slice jp jj.length jm)) (fun _ hk=>hk.2) (.slice ju jq.length jt)) (fun _ h_=>h_.1)))) hb);replace jC:=am (Kd.dS (eO ((Kd.aG (Kd.aT (p:=⟨j3,1,none⟩) (Kd.aT (p:=⟨j3,0,none⟩) (Kd.aG jC.out (fun k_ hk=>(⟨hk,hk.2⟩:_∧k_≠j3))) (fun _ hk=>hk.2) (.slice jp jj.length jm)) (fun _ hk=>hk.2) (.slice ju jq.length jt)) (fun _ h_=>h_.1)))) hb);replace jE:=am (Kd.eG (iH ((Kd.dL (Kd.eH (p:=⟨j3,1,none⟩) (Kd.eH (p:=⟨j3,0,none⟩) (Kd.fK jE.out ja.out (by decide)) (fun _ hk=>hk.2) (.slice jp jj.length jm)) (fun _ hk=>hk.2) (.slice ju jq.length jt)) (fun _ h_=>h_.1)))) hb);replace jF:=am (Kd.dS (eO ((Kd.aG (Kd.aT (p:=⟨j3,1,none⟩) (Kd.aT (p:=⟨j3,0,none⟩) (Kd.aG jF.out (fun k_ hk=>(⟨hk,hk.2⟩:_∧k_≠j3))) (fun _ hk=>hk.2) (.slice jp jj.length jm)) (fun _ hk=>hk.2) (.slice ju jq.length jt)) (fun _ h_=>h_.1)))) hb);replace jJ:=am (Kd.eG (iH ((Kd.dL (Kd.eH (p:=⟨j3,1,none⟩) (Kd.eH (p:=⟨j3,0,none⟩) (Kd.fK jJ.out ja.out (by decide)) (fun _ hk=>hk.2) (.slice jp jj.length jm)) (fun _ hk=>hk.2) (.slice ju jq.length jt)) (fun _ h_=>h_.1)))) hb);replace jK:=am (Kd.dS (eO ((Kd.aG (Kd.aT (p:=⟨j3,1,none⟩) (Kd.aT (p:=⟨j3,0,none⟩) (Kd.aG jK.out (fun k_ hk=>(⟨hk,hk.2⟩:_∧k_≠j3))) (fun _ hk=>hk.2) (.slice jp jj.length jm)) (fun _ hk=>hk.2) (.slice ju jq.length jt)) (fun _ h_=>h_.1)))) hb);replace j4:=am (dR (g:=jc) (o:= .cells #[.slice jH jg.length jG, .slice jD jh.length jB] 46 (0,0)) (bC (bC j4.out jk.out _) jk.out _) hb);replace j5:=am (dR (g:=j9) (o:= .cells #[.slice jo jf.length jl, .slice jx ji.length jv] 46 (0,0)) (bC (bC j5.out jr.out _) jr.out _) hb);replace ja:=am (dR (g:=j3) (o:= .cells #[.slice jp jj.length jm, .slice ju jq.length jt] 46 (0,0)) (aM (aM ja.out 0 _ rfl) 1 _ rfl) hb);replace HB:=am (aD mI hb);(try clear hb)))
  go_meet
  case rel=>exact ⟨_,(true),sd_,H',⟨by first|omega|exact Nat.le_refl _⟩,⟨iH (Kd.dL jw.out (fun _ hk=>⟨hk.1.2,hk.2⟩))⟩,⟨eO (Kd.aG jC.out (fun _ hk=>⟨hk.1.1.1.1.1.1.1,⟨hk.1.1.1.1.1.2,⟨hk.1.1.1.1.2,⟨hk.1.1.2,⟨hk.1.2,⟨hk.1.1.1.1.1.1.2,⟨hk.1.1.1.2,hk.2⟩⟩⟩⟩⟩⟩⟩))⟩,⟨iH (Kd.dL jE.out (fun _ hk=>⟨hk.1.2,hk.2⟩))⟩,⟨eO (Kd.aG jF.out (fun _ hk=>⟨hk.1.1.1.1.2.1,⟨hk.1.1.1.1.2.2.1,⟨hk.1.1.1.1.1,⟨hk.1.1.2,⟨hk.1.2,⟨hk.1.1.1.1.2.2.2,⟨hk.1.1.1.2,hk.2⟩⟩⟩⟩⟩⟩⟩))⟩,⟨iH (Kd.dL jJ.out (fun _ hk=>⟨hk.1.2,hk.2⟩))⟩,⟨eO (Kd.aG jK.out (fun _ hk=>⟨hk.1.2.1,⟨hk.1.2.2.1,⟨hk.1.2.2.2.1,⟨hk.1.2.2.2.2.1,⟨hk.1.1,⟨hk.1.2.2.2.2.2.1,⟨hk.1.2.2.2.2.2.2,hk.2⟩⟩⟩⟩⟩⟩⟩))⟩,⟨by (with_reducible repeat (first|refine dI ?_ _|refine bK ?_|refine bY ?_ _));exact j4.out⟩,⟨by (with_reducible repeat (first|refine dI ?_ _|refine bK ?_|refine bY ?_ _));exact j5.out⟩,⟨by (with_reducible repeat (first|refine dI ?_ _|refine bK ?_|refine bY ?_ _));exact ja.out⟩,⟨mI⟩⟩
 case rest=>
  clear zN
  try clear c2
  try clear qq
  try clear qr
  try clear q4
  try clear q5
  try clear q8
  try clear q9
  try clear qc
  try clear qd
  try clear qg
  try clear qh
  try clear q6
  try clear q7
  try clear qa
  try clear qb
  try clear qe
  try clear qf
  try clear qi
  try clear qj
  obtain ⟨kq,qk,rfl,HA,HJ5,jb,j8,j7,j6,jd,je,j4,j5,ja,HB⟩:=hcut
  cases kq with
  |zero=>exact absurd HA.out (by simp [aZ.j0])
  |succ zW=>
   have H:=HA.out
   clear HA
   simp only [aZ.j0] at H
   by_cases qz:qk=true
   ·subst qz
    rw [if_pos rfl] at H
    by_cases qm:(jM == jP)=true
    ·rw [if_pos qm] at H
     have qA:(jM == jP)=true:=qm
     (try (have qB:decide (jM=jP)=true:=by simpa using qm))
     (try (have qC:(jM == jP)=true:=by simpa using qm))
     clear qm
     obtain ⟨zX,qD,H⟩:=bsm H
     (try dsimp only at H)
     have Qg:=am qD
     clear qD
     obtain rfl:=Option.some.inj H
     have Jv:=jz.out
     have Jw:=jn.out
     have Jx:=jr.out
     have Jy:=jI.out
     obtain ⟨z3,z4,z5,z6⟩:=gD j5.out
     have Jz:=jA.out
     have JA:=jk.out
     obtain ⟨z7,z8,z9,za⟩:=gD ja.out
     go_wp2_with (first|(go_at_call 29;(with_reducible refine (bE.calls zW _ _ jf _ _ ji _ _ jj _ _ jq zX _ (aC_ (Kd.fE j7.out).2.2) (Kd.fE j7.out).2.1 (aC_ (Kd.bQ j6.out).2.2) (Kd.bQ j6.out).2.1 (aC_ (Kd.fE jd.out).2.2) (Kd.fE jd.out).2.1 (aC_ (Kd.bQ je.out).2.2) (Kd.bQ je.out).2.1 Qg.out).mono ?_);rintro e Qt ⟨rfl,hb⟩;replace jb:=am (Kd.eG (aR_ jb.out) hb);replace j8:=am (Kd.dS (aN_ j8.out) hb);replace j7:=am (Kd.eG (aR_ j7.out) hb);replace j6:=am (Kd.dS (aN_ j6.out) hb);replace jd:=am (Kd.eG (aR_ jd.out) hb);replace je:=am (Kd.dS (aN_ je.out) hb);replace j4:=bbP j4 hb;replace j5:=bbP j5 hb;replace ja:=bbP ja hb;replace HB:=am (aD mI hb);(try clear hb)))
     go_ret
     exact ⟨rr_,mI⟩
    rw [if_neg qm] at H
    have qA:(jM == jP)=false:=by simpa using qm
    (try (have qB:decide (jM=jP)=false:=by simpa using qm))
    (try (have qC:(jM == jP)=false:=by simpa using qm))
    (try (have JB:¬ (jM=jP):=by simpa using qm))
    clear qm
    obtain rfl:=Option.some.inj H
    go_wp2
    go_ret
    exact ⟨rr_,mI⟩
   replace qz:=Bool.eq_false_iff.mpr qz
   subst qz
   rw [if_neg (show ¬ (false=true) by decide)] at H
   have H':=am H
   clear H
   go_wp2
   go_loopg [8] zW (fun kq v8 w'=>∃ (js:Int),v8= .int .i64 js∧Aside0 (aZ.l0 kq js jg jh jf ji=some r)∧Aside0 (kq≤zW)∧Aside0 (Kd.R (Kd.int .i64) 3 w' w.heap.size (fun k_=>some k_≠((.slice jo jf.length jl):Value).ownBlock∧some k_≠((.slice jp jj.length jm):Value).ownBlock) (.slice jH jg.length jG) jg)∧Aside0 (Kd.N (Kd.slice 35 k35) 23 w' w.heap.size (fun k_=>some k_≠((.slice jH jg.length jG):Value).ownBlock∧some k_≠((.slice jo jf.length jl):Value).ownBlock∧some k_≠((.slice jx ji.length jv):Value).ownBlock∧some k_≠((.slice jp jj.length jm):Value).ownBlock∧some k_≠((.slice ju jq.length jt):Value).ownBlock∧k_≠jc∧k_≠j9∧k_≠j3) (.slice jD jh.length jB) jh)∧Aside0 (Kd.R (Kd.int .i64) 3 w' w.heap.size (fun k_=>some k_≠((.slice jH jg.length jG):Value).ownBlock∧some k_≠((.slice jp jj.length jm):Value).ownBlock) (.slice jo jf.length jl) jf)∧Aside0 (Kd.N (Kd.slice 35 k35) 23 w' w.heap.size (fun k_=>some k_≠((.slice jH jg.length jG):Value).ownBlock∧some k_≠((.slice jD jh.length jB):Value).ownBlock∧some k_≠((.slice jo jf.length jl):Value).ownBlock∧some k_≠((.slice jp jj.length jm):Value).ownBlock∧some k_≠((.slice ju jq.length jt):Value).ownBlock∧k_≠jc∧k_≠j9∧k_≠j3) (.slice jx ji.length jv) ji)∧Aside0 (Kd.R (Kd.int .i64) 3 w' w.heap.size (fun k_=>some k_≠((.slice jH jg.length jG):Value).ownBlock∧some k_≠((.slice jo jf.length jl):Value).ownBlock) (.slice jp jj.length jm) jj)∧Aside0 (Kd.N (Kd.slice 35 k35) 23 w' w.heap.size (fun k_=>some k_≠((.slice jH jg.length jG):Value).ownBlock∧some k_≠((.slice jD jh.length jB):Value).ownBlock∧some k_≠((.slice jo jf.length jl):Value).ownBlock∧some k_≠((.slice jx ji.length jv):Value).ownBlock∧some k_≠((.slice jp jj.length jm):Value).ownBlock∧k_≠jc∧k_≠j9∧k_≠j3) (.slice ju jq.length jt) jq)∧Aside0 (w'.heap[jc]?=some (.cells #[(.slice jH jg.length jG),(.slice jD jh.length jB)] 46 (0,0)))∧Aside0 (w'.heap[j9]?=some (.cells #[(.slice jo jf.length jl),(.slice jx ji.length jv)] 46 (0,0)))∧Aside0 (w'.heap[j3]?=some (.cells #[(.slice jp jj.length jm),(.slice ju jq.length jt)] 46 (0,0)))∧Aside0 (Below w.heap.size w w'))
   case atStart=>exact ⟨(0),sd_,H',⟨Nat.le_refl _⟩,⟨iH jb.out⟩,⟨eO j8.out⟩,⟨iH j7.out⟩,⟨eO j6.out⟩,⟨iH jd.out⟩,⟨eO je.out⟩,⟨by (with_reducible repeat (first|refine dI ?_ _|refine bK ?_|refine bY ?_ _));exact j4.out⟩,⟨by (with_reducible repeat (first|refine dI ?_ _|refine bK ?_|refine bY ?_ _));exact j5.out⟩,⟨by (with_reducible repeat (first|refine dI ?_ _|refine bK ?_|refine bY ?_ _));exact ja.out⟩,⟨mI⟩⟩
   case round=>
    clear H'
    try clear c2
    try clear qq
    try clear qr
    try clear qz
    try clear q4
    try clear q5
    try clear q8
    try clear q9
    try clear qc
    try clear qd
    try clear qg
    try clear qh
    try clear q6
    try clear q7
    try clear qa
    try clear qb
    try clear qe
    try clear qf
    try clear qi
    try clear qj
    obtain ⟨js,rfl,HA,JC,jb,j8,j7,j6,jd,je,j4,j5,ja,HB⟩:=hrel
    cases gk with
    |zero=>exact absurd HA.out (by simp [aZ.l0])
    |succ k2=>
     have H:=HA.out
     clear HA
     simp only [aZ.l0] at H
     by_cases qv:js < (jh.length:Int)
     ·rw [if_pos qv] at H
      have qE:decide (js < (jh.length:Int))=true:=decide_eq_true qv
      clear qv
      by_cases zb:0≤js
      ·rw [if_pos zb] at H
       have JD:decide (0≤js)=true:=decide_eq_true zb
       clear zb
       obtain ⟨⟨qn,zY⟩,qF,H⟩:=bsm H
       (try dsimp only at H)
       have zZ:=am qF
       clear qF
       by_cases zc:zY=true
       ·subst zc
        rw [if_pos rfl] at H
        by_cases zd:js < (ji.length:Int)
        ·rw [if_pos zd] at H
         have JE:decide (js < (ji.length:Int))=true:=decide_eq_true zd
         clear zd
         obtain ⟨J0,qG,H⟩:=bsm H
         (try dsimp only at H)
         have JF:=am qG
         clear qG
         by_cases ze:J0=true
         ·subst ze
          rw [if_pos rfl] at H
          have H':=am H
          clear H
          have JG:=jn.out
          have JH:=jz.out
          have JI:=jk.out
          have JJ:=jA.out
          obtain ⟨zf,zg,zh,zi⟩:=gD j4.out
          have jS:0≤(js:Int):=of_decide_eq_true fV
          have jT:js < (jh.length:Int):=of_decide_eq_true fV
          obtain ⟨q3,jW,jX,qo,jU,hl139_0,hi139_0⟩:=nY (Kd.bQ j8.out).2.2 js jS jT
          cases qo
          obtain ⟨ce1094,hce1094,hMe1094,hcc1094⟩:=Kd.CK j8.out [] js jS (by first|exact jT|exact of_decide_eq_true fV|(have e_:=(Kd.bQ j8.out).1;omega))
          obtain ⟨ua1094_0,uc1094_0,rfl,ul1094_0,ge1094_0⟩:=Kd.kJ hMe1094
          have hv1094_0:=hcc1094 0 _ rfl
          rw [Nat.add_zero,show ((Kd.slice 35 k35)).sz=1 from rfl,Nat.mul_one] at hv1094_0
          replace hv1094_0:=Option.some.inj (hv1094_0.symm.trans jU)
          injection hv1094_0 with hva_ hvn_ hvc_
          rw [hva_] at ge1094_0
          rw [hvc_] at ul1094_0
          have jy:=am (show Kd.V k35 35 _ w.heap.size _ _ (fB jh js) from Kd.KW ul1094_0 ge1094_0)
          clear hva_ hvn_ hvc_ ge1094_0 ul1094_0
          clear hcc1094 hce1094
          have HR139_0:=am hi139_0
          have jV:=am hl139_0
          clear hi139_0 hl139_0
          replace jS:=eq_true jS
          replace jT:=eq_true jT
          go_wp2_with (first|((with_reducible refine aN (f:=13) rfl ?_);refine gl_ 60 Try.func13 #[.slice jW (fB jh js).length jX] ?_;(with_reducible refine (eZ.calls k2 _ _ (fB jh js) qn true _ ?side1 jV.out zZ.out).mono ?_);(case side1=>repeat (first|exact CV|(with_reducible refine Kd.nU ?_ _)|(with_reducible refine Kd.nA ?_ _)|(with_reducible refine Kd.oL ?_)));rintro e Qu ⟨qH,rfl,ho0,hb⟩;refine ⟨_,rfl,?_⟩;replace jy:=am (Kd.sJ (by (with_reducible repeat (first|apply Kd.kS|apply Kd.kT|apply Kd.mG));exact jy.out) (by first|exact Kd.dD ho0|exact Kd.dD (Kd.R_N ho0)) hb);have jO:=am (Kd.dF (Kd.aG (ok':=fun k_=>some k_≠(.slice jH jg.length jG:Value).ownBlock∧some k_≠(.slice (some q3) jh.length jB:Value).ownBlock∧some k_≠(.slice jo jf.length jl:Value).ownBlock∧some k_≠(.slice jx ji.length jv:Value).ownBlock∧some k_≠(.slice jp jj.length jm:Value).ownBlock∧some k_≠(.slice ju jq.length jt:Value).ownBlock∧k_≠jc∧k_≠j9∧k_≠j3) ho0 (fun k_ hk_=>⟨(Kd.fresh' (Kd.kW (aR_ jb.out)) k_ hk_),(Kd.fresh' (Kd.iN (aN_ j8.out)) k_ hk_),(Kd.fresh' (Kd.kW (aR_ j7.out)) k_ hk_),(Kd.fresh' (Kd.iN (aN_ j6.out)) k_ hk_),(Kd.fresh' (Kd.kW (aR_ jd.out)) k_ hk_),(Kd.fresh' (Kd.iN (aN_ je.out)) k_ hk_),(fJ j4.out k_ hk_),(fJ j5.out k_ hk_),(fJ ja.out k_ hk_)⟩)) (aJ mI));replace jb:=am (Kd.eG (aR_ jb.out) hb);replace j8:=am (Kd.eY (aN_ j8.out) (by first|exact Kd.dD ho0|exact Kd.dD (Kd.R_N ho0)) hb);replace j7:=am (Kd.eG (aR_ j7.out) hb);replace j6:=am (Kd.eY (aN_ j6.out) (by first|exact Kd.dD ho0|exact Kd.dD (Kd.R_N ho0)) hb);replace jd:=am (Kd.eG (aR_ jd.out) hb);replace je:=am (Kd.eY (aN_ je.out) (by first|exact Kd.dD ho0|exact Kd.dD (Kd.R_N ho0)) hb);replace j4:=bbP j4 hb;replace j5:=bbP j5 hb;replace ja:=bbP ja hb;replace HR139_0:=am (Kd.aV CV hb);replace HB:=am (aD mI hb);(try clear hb);(try clear ho0);have JK:=jr.out;have JL:=jI.out;obtain ⟨zj,zk,zl,zm⟩:=gD j5.out;have jY:0≤(js:Int):=of_decide_eq_true fV;have jZ:js < (ji.length:Int):=of_decide_eq_true fV;obtain ⟨qI,qs,qt,qu,q0,hl142_0,hi142_0⟩:=nY (Kd.bQ j6.out).2.2 js jY jZ;cases qu;obtain ⟨ce1099,hce1099,hMe1099,hcc1099⟩:=Kd.CK j6.out [] js jY (by first|exact jZ|exact of_decide_eq_true fV|(have e_:=(Kd.bQ j6.out).1;omega));obtain ⟨ua1099_0,uc1099_0,rfl,ul1099_0,ge1099_0⟩:=Kd.kJ hMe1099;have hv1099_0:=hcc1099 0 _ rfl;rw [Nat.add_zero,show ((Kd.slice 35 k35)).sz=1 from rfl,Nat.mul_one] at hv1099_0;replace hv1099_0:=Option.some.inj (hv1099_0.symm.trans q0);injection hv1099_0 with hva_ hvn_ hvc_;rw [hva_] at ge1099_0;rw [hvc_] at ul1099_0;have jQ:=am (show Kd.V k35 35 _ w.heap.size _ _ (fB ji js) from Kd.KW ul1099_0 ge1099_0);clear hva_ hvn_ hvc_ ge1099_0 ul1099_0 hcc1099 hce1099;have HR142_0:=am hi142_0;have q1:=am hl142_0;clear hi142_0 hl142_0;replace jY:=eq_true jY;replace jZ:=eq_true jZ;obtain ⟨Qh,Qi,J1⟩:=Kd.dG jO.out;subst J1)|(go_at_call 15;(with_reducible refine (bF.calls k2 _ _ qn _ _ (fB ji js) true _ (aC_ (Kd.bQ jO.out).2.2) (Kd.bQ jO.out).2.1 ?side3 q1.out JF.out).mono ?_);(case side3=>repeat (first|exact PD|(with_reducible refine Kd.nU ?_ _)|(with_reducible refine Kd.nA ?_ _)|(with_reducible refine Kd.oL ?_)));rintro e w64 ⟨rfl,hb⟩;replace jb:=am (Kd.eG (aR_ jb.out) hb);replace j8:=am (Kd.dS (aN_ j8.out) hb);replace j7:=am (Kd.eG (aR_ j7.out) hb);replace j6:=am (Kd.dS (aN_ j6.out) hb);replace jd:=am (Kd.eG (aR_ jd.out) hb);replace je:=am (Kd.dS (aN_ je.out) hb);replace jy:=am (Kd.rY (by (with_reducible repeat (first|apply Kd.kS|apply Kd.kT|apply Kd.mG));exact jy.out) hb);replace jO:=am (Kd.dS (aN_ jO.out) hb);replace jQ:=am (Kd.rY (by (with_reducible repeat (first|apply Kd.kS|apply Kd.kT|apply Kd.mG));exact jQ.out) hb);replace j4:=bbP j4 hb;replace j5:=bbP j5 hb;replace ja:=bbP ja hb;replace HR139_0:=am (Kd.aV CV hb);replace HR142_0:=am (Kd.aV PD hb);replace HB:=am (aD mI hb);(try clear hb)))
          go_roundg k2
          case measure=>have:=HJ5.out;have:=JC.out;omega
          case rel=>exact ⟨(wrap64 (js + 1)),sd_,H',⟨by have:=HJ5.out;have:=JC.out;omega⟩,⟨iH jb.out⟩,⟨eO (Kd.aG j8.out (fun _ hk=>⟨hk.1.1,⟨hk.1.2.1,⟨hk.1.2.2.1,⟨hk.1.2.2.2.1,⟨hk.1.2.2.2.2.1,⟨hk.1.2.2.2.2.2.1,⟨hk.1.2.2.2.2.2.2.1,hk.1.2.2.2.2.2.2.2⟩⟩⟩⟩⟩⟩⟩))⟩,⟨iH j7.out⟩,⟨eO (Kd.aG j6.out (fun _ hk=>⟨hk.1.1,⟨hk.1.2.1,⟨hk.1.2.2.1,⟨hk.1.2.2.2.1,⟨hk.1.2.2.2.2.1,⟨hk.1.2.2.2.2.2.1,⟨hk.1.2.2.2.2.2.2.1,hk.1.2.2.2.2.2.2.2⟩⟩⟩⟩⟩⟩⟩))⟩,⟨iH jd.out⟩,⟨eO (Kd.aG je.out (fun _ hk=>⟨hk.1.1,⟨hk.1.2.1,⟨hk.1.2.2.1,⟨hk.1.2.2.2.1,⟨hk.1.2.2.2.2.1,⟨hk.1.2.2.2.2.2.1,⟨hk.1.2.2.2.2.2.2.1,hk.1.2.2.2.2.2.2.2⟩⟩⟩⟩⟩⟩⟩))⟩,⟨by (with_reducible repeat (first|refine dI ?_ _|refine bK ?_|refine bY ?_ _));exact j4.out⟩,⟨by (with_reducible repeat (first|refine dI ?_ _|refine bK ?_|refine bY ?_ _));exact j5.out⟩,⟨by (with_reducible repeat (first|refine dI ?_ _|refine bK ?_|refine bY ?_ _));exact ja.out⟩,⟨mI⟩⟩
         replace ze:=Bool.eq_false_iff.mpr ze
         subst ze
         rw [if_neg (show ¬ (false=true) by decide)] at H
         obtain rfl:=Option.some.inj H
         have JM:=jn.out
         have JN:=jz.out
         have JO:=jk.out
         have JP:=jA.out
         obtain ⟨zn,zo,zp,zq⟩:=gD j4.out
         have jS:0≤(js:Int):=of_decide_eq_true fV
         have jT:js < (jh.length:Int):=of_decide_eq_true fV
         obtain ⟨q3,jW,jX,qo,jU,hl139_0,hi139_0⟩:=nY (Kd.bQ j8.out).2.2 js jS jT
         cases qo
         obtain ⟨ce1094,hce1094,hMe1094,hcc1094⟩:=Kd.CK j8.out [] js jS (by first|exact jT|exact of_decide_eq_true fV|(have e_:=(Kd.bQ j8.out).1;omega))
         obtain ⟨ua1094_0,uc1094_0,rfl,ul1094_0,ge1094_0⟩:=Kd.kJ hMe1094
         have hv1094_0:=hcc1094 0 _ rfl
         rw [Nat.add_zero,show ((Kd.slice 35 k35)).sz=1 from rfl,Nat.mul_one] at hv1094_0
         replace hv1094_0:=Option.some.inj (hv1094_0.symm.trans jU)
         injection hv1094_0 with hva_ hvn_ hvc_
         rw [hva_] at ge1094_0
         rw [hvc_] at ul1094_0
         have jy:=am (show Kd.V k35 35 _ w.heap.size _ _ (fB jh js) from Kd.KW ul1094_0 ge1094_0)
         clear hva_ hvn_ hvc_ ge1094_0 ul1094_0
         clear hcc1094 hce1094
         have HR139_0:=am hi139_0
         have jV:=am hl139_0
         clear hi139_0 hl139_0
         replace jS:=eq_true jS
         replace jT:=eq_true jT
         go_wp2_with (first|((with_reducible refine aN (f:=13) rfl ?_);refine gl_ 60 Try.func13 #[.slice jW (fB jh js).length jX] ?_;(with_reducible refine (eZ.calls k2 _ _ (fB jh js) qn true _ ?side1 jV.out zZ.out).mono ?_);(case side1=>repeat (first|exact CV|(with_reducible refine Kd.nU ?_ _)|(with_reducible refine Kd.nA ?_ _)|(with_reducible refine Kd.oL ?_)));rintro e Qv ⟨qH,rfl,ho0,hb⟩;refine ⟨_,rfl,?_⟩;replace jy:=am (Kd.sJ (by (with_reducible repeat (first|apply Kd.kS|apply Kd.kT|apply Kd.mG));exact jy.out) (by first|exact Kd.dD ho0|exact Kd.dD (Kd.R_N ho0)) hb);have jO:=am (Kd.dF (Kd.aG (ok':=fun k_=>some k_≠(.slice jH jg.length jG:Value).ownBlock∧some k_≠(.slice (some q3) jh.length jB:Value).ownBlock∧some k_≠(.slice jo jf.length jl:Value).ownBlock∧some k_≠(.slice jx ji.length jv:Value).ownBlock∧some k_≠(.slice jp jj.length jm:Value).ownBlock∧some k_≠(.slice ju jq.length jt:Value).ownBlock∧k_≠jc∧k_≠j9∧k_≠j3) ho0 (fun k_ hk_=>⟨(Kd.fresh' (Kd.kW (aR_ jb.out)) k_ hk_),(Kd.fresh' (Kd.iN (aN_ j8.out)) k_ hk_),(Kd.fresh' (Kd.kW (aR_ j7.out)) k_ hk_),(Kd.fresh' (Kd.iN (aN_ j6.out)) k_ hk_),(Kd.fresh' (Kd.kW (aR_ jd.out)) k_ hk_),(Kd.fresh' (Kd.iN (aN_ je.out)) k_ hk_),(fJ j4.out k_ hk_),(fJ j5.out k_ hk_),(fJ ja.out k_ hk_)⟩)) (aJ mI));replace jb:=am (Kd.eG (aR_ jb.out) hb);replace j8:=am (Kd.eY (aN_ j8.out) (by first|exact Kd.dD ho0|exact Kd.dD (Kd.R_N ho0)) hb);replace j7:=am (Kd.eG (aR_ j7.out) hb);replace j6:=am (Kd.eY (aN_ j6.out) (by first|exact Kd.dD ho0|exact Kd.dD (Kd.R_N ho0)) hb);replace jd:=am (Kd.eG (aR_ jd.out) hb);replace je:=am (Kd.eY (aN_ je.out) (by first|exact Kd.dD ho0|exact Kd.dD (Kd.R_N ho0)) hb);replace j4:=bbP j4 hb;replace j5:=bbP j5 hb;replace ja:=bbP ja hb;replace HR139_0:=am (Kd.aV CV hb);replace HB:=am (aD mI hb);(try clear hb);(try clear ho0);have JQ:=jr.out;have JR:=jI.out;obtain ⟨zr,zs,zt,zu⟩:=gD j5.out;have jY:0≤(js:Int):=of_decide_eq_true fV;have jZ:js < (ji.length:Int):=of_decide_eq_true fV;obtain ⟨qI,qs,qt,qu,q0,hl142_0,hi142_0⟩:=nY (Kd.bQ j6.out).2.2 js jY jZ;cases qu;obtain ⟨ce1099,hce1099,hMe1099,hcc1099⟩:=Kd.CK j6.out [] js jY (by first|exact jZ|exact of_decide_eq_true fV|(have e_:=(Kd.bQ j6.out).1;omega));obtain ⟨ua1099_0,uc1099_0,rfl,ul1099_0,ge1099_0⟩:=Kd.kJ hMe1099;have hv1099_0:=hcc1099 0 _ rfl;rw [Nat.add_zero,show ((Kd.slice 35 k35)).sz=1 from rfl,Nat.mul_one] at hv1099_0;replace hv1099_0:=Option.some.inj (hv1099_0.symm.trans q0);injection hv1099_0 with hva_ hvn_ hvc_;rw [hva_] at ge1099_0;rw [hvc_] at ul1099_0;have jQ:=am (show Kd.V k35 35 _ w.heap.size _ _ (fB ji js) from Kd.KW ul1099_0 ge1099_0);clear hva_ hvn_ hvc_ ge1099_0 ul1099_0 hcc1099 hce1099;have HR142_0:=am hi142_0;have q1:=am hl142_0;clear hi142_0 hl142_0;replace jY:=eq_true jY;replace jZ:=eq_true jZ;obtain ⟨Qj,Qk,J2⟩:=Kd.dG jO.out;subst J2)|(go_at_call 15;(with_reducible refine (bF.calls k2 _ _ qn _ _ (fB ji js) false _ (aC_ (Kd.bQ jO.out).2.2) (Kd.bQ jO.out).2.1 ?side3 q1.out JF.out).mono ?_);(case side3=>repeat (first|exact PD|(with_reducible refine Kd.nU ?_ _)|(with_reducible refine Kd.nA ?_ _)|(with_reducible refine Kd.oL ?_)));rintro e Qw ⟨rfl,hb⟩;replace jb:=am (Kd.eG (aR_ jb.out) hb);replace j8:=am (Kd.dS (aN_ j8.out) hb);replace j7:=am (Kd.eG (aR_ j7.out) hb);replace j6:=am (Kd.dS (aN_ j6.out) hb);replace jd:=am (Kd.eG (aR_ jd.out) hb);replace je:=am (Kd.dS (aN_ je.out) hb);replace jy:=am (Kd.rY (by (with_reducible repeat (first|apply Kd.kS|apply Kd.kT|apply Kd.mG));exact jy.out) hb);replace jO:=am (Kd.dS (aN_ jO.out) hb);replace jQ:=am (Kd.rY (by (with_reducible repeat (first|apply Kd.kS|apply Kd.kT|apply Kd.mG));exact jQ.out) hb);replace j4:=bbP j4 hb;replace j5:=bbP j5 hb;replace ja:=bbP ja hb;replace HR139_0:=am (Kd.aV CV hb);replace HR142_0:=am (Kd.aV PD hb);replace HB:=am (aD mI hb);(try clear hb)))
         go_ret
         exact ⟨rr_,mI⟩
        rw [if_neg zd] at H
        exact absurd H (by simp)
       replace zc:=Bool.eq_false_iff.mpr zc
       subst zc
       rw [if_neg (show ¬ (false=true) by decide)] at H
       obtain rfl:=Option.some.inj H
       have JS:=jn.out
       have JT:=jz.out
       have JU:=jk.out
       have JV:=jA.out
       obtain ⟨zv,zw,zx,zy⟩:=gD j4.out
       have jS:0≤(js:Int):=of_decide_eq_true fV
       have jT:js < (jh.length:Int):=of_decide_eq_true fV
       obtain ⟨q3,jW,jX,qo,jU,hl139_0,hi139_0⟩:=nY (Kd.bQ j8.out).2.2 js jS jT
       cases qo
       obtain ⟨ce1094,hce1094,hMe1094,hcc1094⟩:=Kd.CK j8.out [] js jS (by first|exact jT|exact of_decide_eq_true fV|(have e_:=(Kd.bQ j8.out).1;omega))
       obtain ⟨ua1094_0,uc1094_0,rfl,ul1094_0,ge1094_0⟩:=Kd.kJ hMe1094
       have hv1094_0:=hcc1094 0 _ rfl
       rw [Nat.add_zero,show ((Kd.slice 35 k35)).sz=1 from rfl,Nat.mul_one] at hv1094_0
       replace hv1094_0:=Option.some.inj (hv1094_0.symm.trans jU)
       injection hv1094_0 with hva_ hvn_ hvc_
       rw [hva_] at ge1094_0
       rw [hvc_] at ul1094_0
       have jy:=am (show Kd.V k35 35 _ w.heap.size _ _ (fB jh js) from Kd.KW ul1094_0 ge1094_0)
       clear hva_ hvn_ hvc_ ge1094_0 ul1094_0
       clear hcc1094 hce1094
       have HR139_0:=am hi139_0
       have jV:=am hl139_0
       clear hi139_0 hl139_0
       replace jS:=eq_true jS
       replace jT:=eq_true jT
       go_wp2_with (first|((with_reducible refine aN (f:=13) rfl ?_);refine gl_ 60 Try.func13 #[.slice jW (fB jh js).length jX] ?_;(with_reducible refine (eZ.calls k2 _ _ (fB jh js) qn false _ ?side1 jV.out zZ.out).mono ?_);(case side1=>repeat (first|exact CV|(with_reducible refine Kd.nU ?_ _)|(with_reducible refine Kd.nA ?_ _)|(with_reducible refine Kd.oL ?_)));rintro e Qx ⟨qH,rfl,ho0,hb⟩;refine ⟨_,rfl,?_⟩;replace jy:=am (Kd.sJ (by (with_reducible repeat (first|apply Kd.kS|apply Kd.kT|apply Kd.mG));exact jy.out) (by first|exact Kd.dD ho0|exact Kd.dD (Kd.R_N ho0)) hb);have jO:=am (Kd.dF (Kd.aG (ok':=fun k_=>some k_≠(.slice jH jg.length jG:Value).ownBlock∧some k_≠(.slice (some q3) jh.length jB:Value).ownBlock∧some k_≠(.slice jo jf.length jl:Value).ownBlock∧some k_≠(.slice jx ji.length jv:Value).ownBlock∧some k_≠(.slice jp jj.length jm:Value).ownBlock∧some k_≠(.slice ju jq.length jt:Value).ownBlock∧k_≠jc∧k_≠j9∧k_≠j3) ho0 (fun k_ hk_=>⟨(Kd.fresh' (Kd.kW (aR_ jb.out)) k_ hk_),(Kd.fresh' (Kd.iN (aN_ j8.out)) k_ hk_),(Kd.fresh' (Kd.kW (aR_ j7.out)) k_ hk_),(Kd.fresh' (Kd.iN (aN_ j6.out)) k_ hk_),(Kd.fresh' (Kd.kW (aR_ jd.out)) k_ hk_),(Kd.fresh' (Kd.iN (aN_ je.out)) k_ hk_),(fJ j4.out k_ hk_),(fJ j5.out k_ hk_),(fJ ja.out k_ hk_)⟩)) (aJ mI));replace jb:=am (Kd.eG (aR_ jb.out) hb);replace j8:=am (Kd.eY (aN_ j8.out) (by first|exact Kd.dD ho0|exact Kd.dD (Kd.R_N ho0)) hb);replace j7:=am (Kd.eG (aR_ j7.out) hb);replace j6:=am (Kd.eY (aN_ j6.out) (by first|exact Kd.dD ho0|exact Kd.dD (Kd.R_N ho0)) hb);replace jd:=am (Kd.eG (aR_ jd.out) hb);replace je:=am (Kd.eY (aN_ je.out) (by first|exact Kd.dD ho0|exact Kd.dD (Kd.R_N ho0)) hb);replace j4:=bbP j4 hb;replace j5:=bbP j5 hb;replace ja:=bbP ja hb;replace HR139_0:=am (Kd.aV CV hb);replace HB:=am (aD mI hb);(try clear hb);(try clear ho0)))
       go_ret
       exact ⟨rr_,mI⟩
      rw [if_neg zb] at H
      exact absurd H (by simp)
     rw [if_neg qv] at H
     have qE:decide (js < (jh.length:Int))=false:=decide_eq_false qv
     clear qv
     obtain ⟨J3,qJ,H⟩:=bsm H
     (try dsimp only at H)
     have J4:=am qJ
     clear qJ
     by_cases zz:J3=true
     ·subst zz
      rw [if_pos rfl] at H
      obtain ⟨J5,qK,H⟩:=bsm H
      (try dsimp only at H)
      have JW:=am qK
      clear qK
      by_cases zA:J5=true
      ·subst zA
       rw [if_pos rfl] at H
       obtain ⟨J6,qL,H⟩:=bsm H
       (try dsimp only at H)
       have Ql:=am qL
       clear qL
       obtain ⟨J7,Qm,H⟩:=bsa H
       (try dsimp only at H)
       obtain rfl:=Option.some.inj H
       have JX:=jn.out
       have JY:=jz.out
       have JZ:=jk.out
       have Q0:=jA.out
       obtain ⟨zB,zC,zD,zE⟩:=gD j4.out
       try go_wp2
       replace jb:=am (Kd.nK jb.out)
       replace j8:=am (Kd.kV j8.out)
       replace j7:=am (Kd.nK j7.out)
       replace j6:=am (Kd.kV j6.out)
       replace jd:=am (Kd.nK jd.out)
       replace je:=am (Kd.kV je.out)
       replace j4:=am (bK j4.out)
       replace j5:=am (bK j5.out)
       replace ja:=am (bK ja.out)
       replace HB:=am (bG HB.out)
       refine lK (n:=17) (S:=fun w'=>w'.cell? ⟨j9,0,none⟩=some (.slice jo jf.length jl)∧w'.cell? ⟨j9,1,none⟩=some (.slice jx ji.length jv)∧w'.cell? ⟨jc,0,none⟩=some (.slice jH jg.length jG)∧w'.cell? ⟨jc,1,none⟩=some (.slice jD jh.length jB)) (ds:=[]) (bz 17 0) (by kernel_rfl) rfl rfl ⟨(aC j5.out 0).trans rfl,(aC j5.out 1).trans rfl,(aC j4.out 0).trans rfl,(aC j4.out 1).trans rfl⟩ (fun hHeld=>?_);refine iF aZ.WC aZ.NG (fun HT_ HW_=>?_)
       generalize wr.drew=Qy at jb j8 j7 j6 jd je j4 j5 ja HB hHeld ⊢
       refine wB 0 75 (bz 17 1) HT_ HW_ hHeld ?_
       refine kN (i:=1) (N:=some 76) (bz 17 3) rfl rfl (fQ HT_.out (by kernel_rfl)) (by decide) (fun K hK=>?_)
       refine iP Try.func31 (by kernel_rfl) rfl #[.agg #[.slice jo jf.length jl, .slice jx ji.length jv]] (by rfl) rfl rfl mO ?_
       with_reducible refine (bB.calls k2 _ _ jf _ _ ji true _ (aC_ (Kd.fE j7.out).2.2) (Kd.fE j7.out).2.1 (aC_ (Kd.bQ j6.out).2.2) (Kd.bQ j6.out).2.1 J4.out).mono ?_
       rintro e Qz ⟨rfl,hb⟩
       refine ⟨_,rfl,?_⟩
       replace jb:=am (Kd.eG (aR_ jb.out) hb)
       replace j8:=am (Kd.dS (aN_ j8.out) hb)
       replace j7:=am (Kd.eG (aR_ j7.out) hb)
       replace j6:=am (Kd.dS (aN_ j6.out) hb)
       replace jd:=am (Kd.eG (aR_ jd.out) hb)
       replace je:=am (Kd.dS (aN_ je.out) hb)
       replace j4:=bbP j4 hb
       replace j5:=bbP j5 hb
       replace ja:=bbP ja hb
       replace HB:=am (aD mI hb)
       (try clear hb)
       (try clear hb2)
       (try clear hk)
       (try clear hi)
       refine hK.out _ _ ⟨(aC j5.out 0).trans rfl,(aC j5.out 1).trans rfl,(aC j4.out 0).trans rfl,(aC j4.out 1).trans rfl⟩ (fun hHeld=>?_)
       clear hK K
       refine eT (a':=?_) ?_ ?_
       rotate_left
       ·show Act.put _ (some 76) _=_
        simp only [Act.put,List.setIfInBounds_toArray,List.set_cons_zero,List.set_cons_succ,dN,dU]
        rfl
       refine pr_ 2 77 (bz 17 7) HT_ ?_
       refine pr_ 3 78 (bz 17 15) HT_ ?_
       refine pr_ 5 80 (bz 17 47) HT_ ?_
       refine wB 4 79 (bz 17 63) HT_ HW_ hHeld ?_
       refine wB 6 81 (bz 17 127) HT_ HW_ hHeld ?_
       refine kN (i:=7) (N:=some 82) (bz 17 255) rfl rfl (fQ HT_.out (by kernel_rfl)) (by decide) (fun K hK=>?_)
       refine iP Try.func32 (by kernel_rfl) rfl #[.slice jo jf.length jl, .slice jH jg.length jG] (by rfl) rfl rfl mO ?_
       with_reducible refine (dV.calls k2 _ _ jf _ _ jg true _ (aC_ (Kd.fE j7.out).2.2) (Kd.fE j7.out).2.1 (aC_ (Kd.fE jb.out).2.2) (Kd.fE jb.out).2.1 JW.out).mono ?_
       rintro e w' ⟨rfl,⟨nd,rfl⟩⟩
       refine ⟨_,rfl,?_⟩
       refine hK.out _ _ ⟨(aC j5.out 0).trans rfl,(aC j5.out 1).trans rfl,(aC j4.out 0).trans rfl,(aC j4.out 1).trans rfl⟩ (fun hHeld=>?_)
       clear hK K
       refine eT (a':=?_) ?_ ?_
       rotate_left
       ·show Act.put _ (some 82) _=_
        simp only [Act.put,List.setIfInBounds_toArray,List.set_cons_zero,List.set_cons_succ,dN,dU]
        rfl
       refine pr_ 8 83 (bz 17 511) HT_ ?_
       refine pr_ 9 84 (bz 17 1023) HT_ ?_
       refine wB 10 85 (bz 17 2047) HT_ HW_ hHeld ?_
       refine wB 12 87 (bz 17 6143) HT_ HW_ hHeld ?_
       refine kN (i:=11) (N:=some 86) (bz 17 8191) rfl rfl (fQ HT_.out (by kernel_rfl)) (by decide) (fun K hK=>?_)
       refine iP Try.func33 (by kernel_rfl) rfl #[.agg #[.slice jo jf.length jl, .slice jx ji.length jv]] (by rfl) rfl rfl mO ?_
       with_reducible refine (dK.calls k2 _ _ jf _ _ ji J6 _ (aC_ (Kd.fE j7.out).2.2) (Kd.fE j7.out).2.1 (aC_ (Kd.bQ j6.out).2.2) (Kd.bQ j6.out).2.1 Ql.out).mono ?_
       rintro e QA ⟨rfl,hb⟩
       refine ⟨_,rfl,?_⟩
       replace jb:=am (Kd.eG (aR_ jb.out) hb)
       replace j8:=am (Kd.dS (aN_ j8.out) hb)
       replace j7:=am (Kd.eG (aR_ j7.out) hb)
       replace j6:=am (Kd.dS (aN_ j6.out) hb)
       replace jd:=am (Kd.eG (aR_ jd.out) hb)
       replace je:=am (Kd.dS (aN_ je.out) hb)
       replace j4:=bbP j4 hb
       replace j5:=bbP j5 hb
       replace ja:=bbP ja hb
       replace HB:=am (aD mI hb)
       (try clear hb)
       (try clear hb2)
       (try clear hk)
       (try clear hi)
       refine hK.out _ _ ⟨(aC j5.out 0).trans rfl,(aC j5.out 1).trans rfl,(aC j4.out 0).trans rfl,(aC j4.out 1).trans rfl⟩ (fun hHeld=>?_)
       clear hK K
       refine eT (a':=?_) ?_ ?_
       rotate_left
       ·show Act.put _ (some 86) _=_
        simp only [Act.put,List.setIfInBounds_toArray,List.set_cons_zero,List.set_cons_succ,dN,dU]
        rfl
       refine kN (i:=13) (N:=some 88) (bz 17 16383) rfl rfl (fQ HT_.out (by kernel_rfl)) (by decide) (fun K hK=>?_)
       refine iP Try.func33 (by kernel_rfl) rfl #[.agg #[.slice jH jg.length jG, .slice jD jh.length jB]] (by rfl) rfl rfl mO ?_
       with_reducible refine (dK.calls k2 _ _ jg _ _ jh J7 _ (aC_ (Kd.fE jb.out).2.2) (Kd.fE jb.out).2.1 (aC_ (Kd.bQ j8.out).2.2) (Kd.bQ j8.out).2.1 Qm.out).mono ?_
       rintro e QB ⟨rfl,hb⟩
       refine ⟨_,rfl,?_⟩
       replace jb:=am (Kd.eG (aR_ jb.out) hb)
       replace j8:=am (Kd.dS (aN_ j8.out) hb)
       replace j7:=am (Kd.eG (aR_ j7.out) hb)
       replace j6:=am (Kd.dS (aN_ j6.out) hb)
       replace jd:=am (Kd.eG (aR_ jd.out) hb)
       replace je:=am (Kd.dS (aN_ je.out) hb)
       replace j4:=bbP j4 hb
       replace j5:=bbP j5 hb
       replace ja:=bbP ja hb
       replace HB:=am (aD mI hb)
       (try clear hb)
       (try clear hb2)
       (try clear hk)
       (try clear hi)
       refine hK.out _ _ ⟨(aC j5.out 0).trans rfl,(aC j5.out 1).trans rfl,(aC j4.out 0).trans rfl,(aC j4.out 1).trans rfl⟩ (fun hHeld=>?_)
       clear hK K
       refine eT (a':=?_) ?_ ?_
       rotate_left
       ·show Act.put _ (some 88) _=_
        simp only [Act.put,List.setIfInBounds_toArray,List.set_cons_zero,List.set_cons_succ,dN,dU]
        rfl
       refine pr_ 14 89 (bz 17 32767) HT_ ?_
       refine pr_ 15 90 (bz 17 65535) HT_ ?_
       refine pr_ 16 2 (bz 17 131071) HT_ ?_
       refine nN (kQ HT_.out (by kernel_rfl)) ?_
       try go_wp2
       go_ret
       exact ⟨rr_,mI⟩
      replace zA:=Bool.eq_false_iff.mpr zA
      subst zA
      rw [if_neg (show ¬ (false=true) by decide)] at H
      obtain rfl:=Option.some.inj H
      have Q1:=jn.out
      have Q2:=jz.out
      have Q3:=jk.out
      have Q4:=jA.out
      obtain ⟨zF,zG,zH,zI⟩:=gD j4.out
      try go_wp2
      replace jb:=am (Kd.nK jb.out)
      replace j8:=am (Kd.kV j8.out)
      replace j7:=am (Kd.nK j7.out)
      replace j6:=am (Kd.kV j6.out)
      replace jd:=am (Kd.nK jd.out)
      replace je:=am (Kd.kV je.out)
      replace j4:=am (bK j4.out)
      replace j5:=am (bK j5.out)
      replace ja:=am (bK ja.out)
      replace HB:=am (bG HB.out)
      refine lK (n:=17) (S:=fun w'=>w'.cell? ⟨j9,0,none⟩=some (.slice jo jf.length jl)∧w'.cell? ⟨j9,1,none⟩=some (.slice jx ji.length jv)∧w'.cell? ⟨jc,0,none⟩=some (.slice jH jg.length jG)∧w'.cell? ⟨jc,1,none⟩=some (.slice jD jh.length jB)) (ds:=[]) (bz 17 0) (by kernel_rfl) rfl rfl ⟨(aC j5.out 0).trans rfl,(aC j5.out 1).trans rfl,(aC j4.out 0).trans rfl,(aC j4.out 1).trans rfl⟩ (fun hHeld=>?_);refine iF aZ.WC aZ.NG (fun HT_ HW_=>?_)
      generalize wr.drew=QC at jb j8 j7 j6 jd je j4 j5 ja HB hHeld ⊢
      refine wB 0 75 (bz 17 1) HT_ HW_ hHeld ?_
      refine kN (i:=1) (N:=some 76) (bz 17 3) rfl rfl (fQ HT_.out (by kernel_rfl)) (by decide) (fun K hK=>?_)
      refine iP Try.func31 (by kernel_rfl) rfl #[.agg #[.slice jo jf.length jl, .slice jx ji.length jv]] (by rfl) rfl rfl mO ?_
      with_reducible refine (bB.calls k2 _ _ jf _ _ ji true _ (aC_ (Kd.fE j7.out).2.2) (Kd.fE j7.out).2.1 (aC_ (Kd.bQ j6.out).2.2) (Kd.bQ j6.out).2.1 J4.out).mono ?_
      rintro e QD ⟨rfl,hb⟩
      refine ⟨_,rfl,?_⟩
      replace jb:=am (Kd.eG (aR_ jb.out) hb)
      replace j8:=am (Kd.dS (aN_ j8.out) hb)
      replace j7:=am (Kd.eG (aR_ j7.out) hb)
      replace j6:=am (Kd.dS (aN_ j6.out) hb)
      replace jd:=am (Kd.eG (aR_ jd.out) hb)
      replace je:=am (Kd.dS (aN_ je.out) hb)
      replace j4:=bbP j4 hb
      replace j5:=bbP j5 hb
      replace ja:=bbP ja hb
      replace HB:=am (aD mI hb)
      (try clear hb)
      (try clear hb2)
      (try clear hk)
      (try clear hi)
      refine hK.out _ _ ⟨(aC j5.out 0).trans rfl,(aC j5.out 1).trans rfl,(aC j4.out 0).trans rfl,(aC j4.out 1).trans rfl⟩ (fun hHeld=>?_)
      clear hK K
      refine eT (a':=?_) ?_ ?_
      rotate_left
      ·show Act.put _ (some 76) _=_
       simp only [Act.put,List.setIfInBounds_toArray,List.set_cons_zero,List.set_cons_succ,dN,dU]
       rfl
      refine pr_ 2 77 (bz 17 7) HT_ ?_
      refine pr_ 3 78 (bz 17 15) HT_ ?_
      refine pr_ 5 80 (bz 17 47) HT_ ?_
      refine wB 4 79 (bz 17 63) HT_ HW_ hHeld ?_
      refine wB 6 81 (bz 17 127) HT_ HW_ hHeld ?_
      refine kN (i:=7) (N:=some 82) (bz 17 255) rfl rfl (fQ HT_.out (by kernel_rfl)) (by decide) (fun K hK=>?_)
      refine iP Try.func32 (by kernel_rfl) rfl #[.slice jo jf.length jl, .slice jH jg.length jG] (by rfl) rfl rfl mO ?_
      with_reducible refine (dV.calls k2 _ _ jf _ _ jg false _ (aC_ (Kd.fE j7.out).2.2) (Kd.fE j7.out).2.1 (aC_ (Kd.fE jb.out).2.2) (Kd.fE jb.out).2.1 JW.out).mono ?_
      rintro e w' ⟨rfl,⟨nd,rfl⟩⟩
      refine ⟨_,rfl,?_⟩
      refine hK.out _ _ ⟨(aC j5.out 0).trans rfl,(aC j5.out 1).trans rfl,(aC j4.out 0).trans rfl,(aC j4.out 1).trans rfl⟩ (fun hHeld=>?_)
      clear hK K
      refine eT (a':=?_) ?_ ?_
      rotate_left
      ·show Act.put _ (some 82) _=_
       simp only [Act.put,List.setIfInBounds_toArray,List.set_cons_zero,List.set_cons_succ,dN,dU]
       rfl
      refine pr_ 8 83 (bz 17 511) HT_ ?_
      refine pr_ 9 84 (bz 17 1023) HT_ ?_
      refine pu_ 10 85 (bz 17 2047) HT_ ?_
      refine pu_ 11 86 (bz 17 4095) HT_ ?_
      refine pu_ 12 87 (bz 17 8191) HT_ ?_
      refine pu_ 13 88 (bz 17 16383) HT_ ?_
      refine pu_ 14 89 (bz 17 32767) HT_ ?_
      refine pr_ 15 90 (bz 17 65535) HT_ ?_
      refine pr_ 16 2 (bz 17 131071) HT_ ?_
      refine nN (kQ HT_.out (by kernel_rfl)) ?_
      try go_wp2
      go_ret
      exact ⟨rr_,mI⟩
     replace zz:=Bool.eq_false_iff.mpr zz
     subst zz
     rw [if_neg (show ¬ (false=true) by decide)] at H
     obtain rfl:=Option.some.inj H
     have Q5:=jn.out
     have Q6:=jz.out
     have Q7:=jk.out
     have Q8:=jA.out
     obtain ⟨zJ,zK,zL,zM⟩:=gD j4.out
     try go_wp2
     replace jb:=am (Kd.nK jb.out)
     replace j8:=am (Kd.kV j8.out)
     replace j7:=am (Kd.nK j7.out)
     replace j6:=am (Kd.kV j6.out)
     replace jd:=am (Kd.nK jd.out)
     replace je:=am (Kd.kV je.out)
     replace j4:=am (bK j4.out)
     replace j5:=am (bK j5.out)
     replace ja:=am (bK ja.out)
     replace HB:=am (bG HB.out)
     refine lK (n:=17) (S:=fun w'=>w'.cell? ⟨j9,0,none⟩=some (.slice jo jf.length jl)∧w'.cell? ⟨j9,1,none⟩=some (.slice jx ji.length jv)) (ds:=[]) (bz 17 0) (by kernel_rfl) rfl rfl ⟨(aC j5.out 0).trans rfl,(aC j5.out 1).trans rfl⟩ (fun hHeld=>?_);refine iF aZ.WC aZ.NG (fun HT_ HW_=>?_)
     generalize wr.drew=QE at jb j8 j7 j6 jd je j4 j5 ja HB hHeld ⊢
     refine NY 0 75 (bz 17 1) HT_ HW_ hHeld ?_
     refine kN (i:=1) (N:=some 76) (bz 17 3) rfl rfl (fQ HT_.out (by kernel_rfl)) (by decide) (fun K hK=>?_)
     refine iP Try.func31 (by kernel_rfl) rfl #[.agg #[.slice jo jf.length jl, .slice jx ji.length jv]] (by rfl) rfl rfl mO ?_
     with_reducible refine (bB.calls k2 _ _ jf _ _ ji false _ (aC_ (Kd.fE j7.out).2.2) (Kd.fE j7.out).2.1 (aC_ (Kd.bQ j6.out).2.2) (Kd.bQ j6.out).2.1 J4.out).mono ?_
     rintro e QF ⟨rfl,hb⟩
     refine ⟨_,rfl,?_⟩
     replace jb:=am (Kd.eG (aR_ jb.out) hb)
     replace j8:=am (Kd.dS (aN_ j8.out) hb)
     replace j7:=am (Kd.eG (aR_ j7.out) hb)
     replace j6:=am (Kd.dS (aN_ j6.out) hb)
     replace jd:=am (Kd.eG (aR_ jd.out) hb)
     replace je:=am (Kd.dS (aN_ je.out) hb)
     replace j4:=bbP j4 hb
     replace j5:=bbP j5 hb
     replace ja:=bbP ja hb
     replace HB:=am (aD mI hb)
     (try clear hb)
     (try clear hb2)
     (try clear hk)
     (try clear hi)
     refine hK.out _ _ ⟨(aC j5.out 0).trans rfl,(aC j5.out 1).trans rfl⟩ (fun hHeld=>?_)
     clear hK K
     refine eT (a':=?_) ?_ ?_
     rotate_left
     ·show Act.put _ (some 76) _=_
      simp only [Act.put,List.setIfInBounds_toArray,List.set_cons_zero,List.set_cons_succ,dN,dU]
      rfl
     refine pr_ 2 77 (bz 17 7) HT_ ?_
     refine pu_ 3 78 (bz 17 15) HT_ ?_
     refine pu_ 4 79 (bz 17 31) HT_ ?_
     refine pu_ 5 80 (bz 17 63) HT_ ?_
     refine pu_ 6 81 (bz 17 127) HT_ ?_
     refine pu_ 7 82 (bz 17 255) HT_ ?_
     refine pr_ 8 83 (bz 17 511) HT_ ?_
     refine pr_ 9 84 (bz 17 1023) HT_ ?_
     refine pu_ 10 85 (bz 17 2047) HT_ ?_
     refine pu_ 11 86 (bz 17 4095) HT_ ?_
     refine pu_ 12 87 (bz 17 8191) HT_ ?_
     refine pu_ 13 88 (bz 17 16383) HT_ ?_
     refine pu_ 14 89 (bz 17 32767) HT_ ?_
     refine pr_ 15 90 (bz 17 65535) HT_ ?_
     refine pr_ 16 2 (bz 17 131071) HT_ ?_
     refine nN (kQ HT_.out (by kernel_rfl)) ?_
     try go_wp2
     go_ret
     exact ⟨rr_,mI⟩
def aZ.Pure:Prop:=∀ (l0:List Int),l0.length≤maxLen→l0.length * 1≤140737488351232→(∀ x ∈ l0,(Lit.int .u8 x).wf=true)→∃ k,aZ.f k l0=some true
theorem aZ.walk (P:aZ.Pure) (a0:Option Addr) (len0 cap0:Nat) (z0:List Int) (w:World) (w0:(a0=none∧len0=0∧cap0=0∧z0=[])∨∃ x,a0=some x∧len0≤cap0∧cap0≤maxLen∧z0.length=cap0∧(∀ i,i < z0.length→w.cell? (x.add i)=some (.int .u8 (z0.getD i 0)))∧∀ n ∈ z0,(Lit.int .u8 n).wf=true) (y0:len0 * 1≤140737488351232):
  Calls Try.prog 10 #[.slice a0 len0 cap0] w fun e w'=>e= .returned (.bool true)∧Below w.heap.size w w':=by
 obtain ⟨l0,rfl,hr0,hm0,hw0,hc0⟩:=kE.aBg w0
 obtain ⟨k,h⟩:=P l0 hm0 y0 hw0
 refine (aZ.calls k _ _ l0 true w (Kd.DY (d:=(0:Int)) (h1:=fun _=>rfl) hr0) hc0 h).mono ?_
 rintro e w' ⟨rfl,hd⟩
 exact ⟨rfl,hd⟩
end Go.Proofs.Ytodhbeeibagiaaa.PA

namespace Go.Proofs.Ytodhbeeibagiaaa.Core
open Go.RowKit Go.Proofs.YtodhbeeibagiaaaW.PrintWords Go.Proofs.YtodhbeeibagiaaaW.PrintMore
section
variable {α β:Type} {g h:Nat→Option α} {P Q:α→Prop}
def EvP (g:Nat→Option α) (P:α→Prop):Prop:=∃ r,Ev g r∧P r
theorem EvP.ret {r:α} (h:P r):EvP (fun _=>some r) P:=⟨r,Ev.now r,h⟩
theorem EvP.mono (h:EvP g P) (k:∀ a,P a→Q a):EvP g Q:=by
 obtain ⟨r,h1,h2⟩:=h
 exact ⟨r,h1,k r h2⟩
theorem EvP.bind {f:Nat→α→Option β} {R:β→Prop} (h:EvP g P) (k:∀ a,P a→EvP (fun n=>f n a) R):EvP (fun n=>(g n).bind (f n)) R:=by
 obtain ⟨a,h1,h2⟩:=h
 obtain ⟨r,k1,k2⟩:=k a h2
 exact ⟨r,Ev.bind h1 k1,k2⟩
theorem EvP.gQ {o:Option α} {a:α} {f:Nat→α→Option β} {R:β→Prop} (h:o=some a) (k:EvP (fun n=>f n a) R):EvP (fun n=>o.bind (f n)) R:=by
 subst h
 exact k
theorem EvP.ite {c:Prop} [Decidable c] (h1:c→EvP g P) (h2:¬ c→EvP h P):EvP (fun n=>if c then g n else h n) P:=by
 by_cases hc:c
 ·simp only [if_pos hc]
  exact h1 hc
 ·simp only [if_neg hc]
  exact h2 hc
theorem EvP.yes {c:Prop} [Decidable c] (hc:c) (h1:EvP g P):EvP (fun n=>if c then g n else h n) P:=by
 simp only [if_pos hc]
 exact h1
theorem EvP.no {c:Prop} [Decidable c] (hc:¬ c) (h1:EvP h P):EvP (fun n=>if c then g n else h n) P:=by
 simp only [if_neg hc]
 exact h1
theorem EvP.step {f:Nat→Option α} (h:∀ k,g (k + 1)=f k) (k:EvP f P):EvP g P:=by
 obtain ⟨r,h1,h2⟩:=k
 exact ⟨r,Ev.step h h1,h2⟩
theorem EvP.ends {r:α} (h:EvP g (·=r)):∃ k,g k=some r:=by
  obtain ⟨a,h1,h2⟩:=h
  subst h2
  exact h1.rounds
theorem EvP.congr {f:Nat→Option α} (h:∀ k,g k=f k) (k:EvP f P):EvP g P:=by
 obtain ⟨r,h1,h2⟩:=k
 exact ⟨r,Ev.congr h h1,h2⟩
theorem EvP.fD {f:Nat→α→Option β} {R:β→Prop} {a:α} (h:EvP g (·=a)) (k:EvP (fun n=>f n a) R):EvP (fun n=>(g n).bind (f n)) R:=
  EvP.bind h (fun b hb=>by subst hb;exact k)
end
theorem w64 {n:Int} (h1:-9223372036854775808≤n) (h2:n≤9223372036854775807):wrap64 n=n:=by
 unfold wrap64
 omega
theorem KQ (xs:List Int) (i:Nat) (h:i < xs.length):rd xs (i:Int)=xs[i]:=by
 unfold rd
 rw [Int.toNat_natCast,List.getD_eq_getElem?_getD,List.getElem?_eq_getElem h]
 rfl
theorem TY (xs:List Int) (i:Int) (h0:0≤i) (h:i < xs.length):rd xs i ∈ xs:=by
 unfold rd
 rw [List.getD_eq_getElem?_getD,List.getElem?_eq_getElem (by omega)]
 exact List.getElem_mem _
theorem BK {a b:Int} (h0:0≤a) (hb:0 < b):0≤Int.tmod a b∧Int.tmod a b < b:=by
 rw [Int.tmod_eq_emod_of_nonneg h0]
 exact ⟨Int.emod_nonneg _ (by omega),Int.emod_lt_of_pos _ hb⟩
end Go.Proofs.Ytodhbeeibagiaaa.Core

namespace Go.Proofs.Ytodhbeeibagiaaa.PA
open Go.RowKit Go.Proofs.YtodhbeeibagiaaaW.PrintWords Go.Proofs.YtodhbeeibagiaaaW.PrintMore Go.Proofs.Ytodhbeeibagiaaa.Core
def vw (n:Int):Bool:=decide (-2147483648≤n) && decide (n≤2147483647)
theorem WJ {n:Int}:vw n=true ↔ -2147483648≤n∧n≤2147483647:=by
 unfold vw
 rw [Bool.and_eq_true,decide_eq_true_eq,decide_eq_true_eq]
theorem aAm (b:Int):0≤Go.bits .and .i64 b 31∧Go.bits .and .i64 b 31≤31:=by
 simp only [Go.bits]
 rw [show IntKind.i64.bits=64 from rfl,IntKind.wrap_i64,BitVec.toNat_and]
 have h:(BitVec.ofInt 64 b).toNat &&& (BitVec.ofInt 64 31).toNat≤(BitVec.ofInt 64 31).toNat:=Nat.and_le_right
 have e:(BitVec.ofInt 64 31).toNat=31:=by decide
 rw [e] at h ⊢
 omega
theorem uP (a:Int):wrap32 (wrap64 a)=wrap32 a:=by
 unfold wrap32 wrap64
 omega
theorem aAl (a:Int):wrap64 (wrap32 a)=wrap32 a:=by
 unfold wrap32 wrap64
 omega
def ap (op a b:Int):Int:=
 if op=1 then Go.bits .or .i64 a b else if op=2 then Go.bits .xor .i64 a b else if op=3 then Go.bits .and .i64 a b
 else if op=4 then (if a=b then 1 else 0) else if op=5 then (if a < b then 1 else 0)
 else if op=6 then wrap32 (shl .i64 a (Go.bits .and .i64 b 31)) else if op=7 then shr .i64 a (Go.bits .and .i64 b 31)
 else if op=8 then wrap32 (a + b) else if op=9 then wrap32 (a - b) else if op=10 then wrap32 (a * b)
 else if op=11 then (if b=0 then -1 else wrap32 (Int.tdiv a b)) else if b=0 then a else Int.tmod a b
end Go.Proofs.Ytodhbeeibagiaaa.PA

namespace Go.Proofs.Ytodhbeeibagiaaa.PA
open Go.RowKit Go.Proofs.YtodhbeeibagiaaaW.PrintWords Go.Proofs.Ytodhbeeibagiaaa.Core
theorem tC (a b c:Int):gB.f a b c=some (decide (b≤a) && decide (a≤c)):=by
 unfold gB.f
 by_cases h:a≥b
 ·rw [if_pos h,decide_eq_true h,Bool.true_and]
 ·rw [if_neg h,decide_eq_false h,Bool.false_and]
theorem uL (a:Int):iR.f a=some (vw a):=by
 unfold iR.f
 rw [tC]
 rfl
theorem MH (l m:List Int) (hl:l.length≤1000000000) (hm:l.length=m.length):∀ (d j:Nat),j + d=l.length→EvP (fun k=>dV.l0 k l m (j:Int)) (·=decide (l.drop j=m.drop j)):=by
  intro d
  induction d with
  |zero=>
    intro j hj
    refine EvP.step (fun k=>dV.l0.eq_2 (k:=k) ..) (EvP.no (by omega) (EvP.ret ?_))
    rw [List.drop_eq_nil_of_le (by omega),List.drop_eq_nil_of_le (by omega)]
    rfl
  |succ d ih=>
    intro j hj
    have hlt:j < l.length:=by omega
    have hlm:j < m.length:=by omega
    refine EvP.step (fun k=>dV.l0.eq_2 (k:=k) ..) (EvP.yes (by omega) (EvP.yes (by omega) (EvP.yes (by omega) ?_)))
    rw [KQ l j hlt,KQ m j hlm,List.drop_eq_getElem_cons hlt,List.drop_eq_getElem_cons hlm]
    refine EvP.ite (fun h=>?_) (fun h=>EvP.ret ?_)
    · rw [h,w64 (by omega) (by omega)]
      refine (ih (j + 1) (by omega)).mono fun a ha=>?_
      rw [ha]
      exact decide_eq_decide.mpr ⟨fun e=>by rw [e],fun e=>(List.cons.inj e).2⟩
    · exact (decide_eq_false (fun e=>h (List.cons.inj e).1)).symm
theorem DJ (l m:List Int) (hl:l.length≤1000000000):EvP (fun k=>dV.f k l m) (·=decide (l=m)):=by
  unfold dV.f
  refine EvP.ite (fun h=>?_) (fun h=>EvP.ret ?_)
  · exact MH l m hl (by omega) l.length 0 (by omega)
  · rw [decide_eq_false]
    rintro rfl
    exact h rfl
theorem SS (l:List Int) (hl:l.length≤1000000000):iQ.f l=some l:=by
 unfold iQ.f
 simp only [Option.bind_some,List.length_nil,List.nil_append]
 rw [if_pos (by omega)]
end Go.Proofs.Ytodhbeeibagiaaa.PA

namespace Go.Proofs.Ytodhbeeibagiaaa.PA
open Go.RowKit Go.Proofs.Ytodhbeeibagiaaa.Core
inductive X where
 |num (n:Int)
 |var (v:Int)
 |bin (op:Int) (a b:X)
namespace X
def ok:X→Prop
 |num n=>0≤n∧n≤99999
 |var v=>0≤v∧v < 4
 |bin op a b=>(1≤op∧op≤12)∧a.ok∧b.ok
def depth:X→Nat
 |num _=>1
 |var _=>1
 |bin _ a b=>max a.depth b.depth + 1
def size:X→Nat
 |num _=>1
 |var _=>1
 |bin _ a b=>a.size + b.size + 1
def eval (g:Int→Int):X→Int
 |num n=>n
 |var v=>g v
 |bin op a b=>ap op (a.eval g) (b.eval g)
def uZ (op:Int):X→X→X
 |num m,num n=>if 0≤ap op m n∧ap op m n≤99999 then num (ap op m n) else bin op (num m) (num n)
 |a,b=>bin op a b
def fold:X→X
 |num n=>num n
 |var v=>var v
 |bin op a b=>uZ op a.fold b.fold
def isNum:X→Bool
 |num _=>true
 | _=>false
theorem KN:∀ x:X,1≤x.depth
 |num _|var _=>Nat.le_refl _
 |bin _ _ _=>Nat.le_add_left _ _
theorem SX {op:Int} (ho:1≤op∧op≤12):∀ {a b:X},a.ok→b.ok→(uZ op a b).ok:=by
 intro a b ha hb
 unfold uZ
 split
 ·split
  ·assumption
  ·exact ⟨ho,ha,hb⟩
 ·exact ⟨ho,ha,hb⟩
theorem rZ:∀ x:X,x.ok→x.fold.ok
 |num _,h=>h
 |var _,h=>h
 |bin _ a b,h=>SX h.1 (rZ a h.2.1) (rZ b h.2.2)
theorem LC (op:Int) (a b:X):(uZ op a b).depth≤max a.depth b.depth + 1:=by
 unfold uZ
 split
 ·split
  ·simp [depth]
  ·exact Nat.le_refl _
 ·exact Nat.le_refl _
theorem vI:∀ x:X,x.fold.depth≤x.depth
 |num _=>Nat.le_refl _
 |var _=>Nat.le_refl _
 |bin op a b=>by
  have ha:=vI a
  have hb:=vI b
  have h:=LC op a.fold b.fold
  simp only [fold,depth]
  omega
theorem LD {op:Int} {a b:X} (h:∀ m n,a=num m→b=num n→¬ (0≤ap op m n∧ap op m n≤99999)):uZ op a b=bin op a b:=by
 unfold uZ
 split
 ·rw [if_neg (h _ _ rfl rfl)]
 ·rfl
end X
end Go.Proofs.Ytodhbeeibagiaaa.PA

namespace Go.Proofs.Ytodhbeeibagiaaa.PA
open Go.RowKit Go.Proofs.YtodhbeeibagiaaaW.PrintWords Go.Proofs.YtodhbeeibagiaaaW.PrintMore Go.Proofs.Ytodhbeeibagiaaa.Core
def emb:X→S32
 | .num n=>⟨0,n,[]⟩
 | .var v=>⟨13,v,[]⟩
 | .bin op a b=>⟨op,0,[emb a,emb b]⟩
theorem TV (a b:S32):aY [a,b] 0=a:=rfl
theorem TW (a b:S32):aY [a,b] 1=b:=rfl
theorem BQ (a:S32):(⟨a.f0,a.f1,a.f2⟩:S32)=a:=by
 cases a
 rfl
def vx:Nat→Int→Int→List S32→Bool
 |0,_,_,_=>false
 |d + 1,op,n,l=>
  if op=0 then decide (0≤n) && (decide (n≤99999) && decide (l.length=0))
  else if op=13 then decide (0≤n) && (decide (n < 4) && decide (l.length=0))
  else decide (1≤op) && (decide (op≤12) && (decide (n=0) && (match l with
   |[a,b]=>vx d a.f0 a.f1 a.f2 && vx d b.f0 b.f1 b.f2
   | _=>false)))
theorem vP {α:Type} {l:List α} (h:l.length=2):∃ a b,l=[a,b]:=by
 match l,h with
 |[a,b],_=>exact ⟨a,b,rfl⟩
theorem KS:∀ (d:Nat) (op n:Int) (l:List S32),vx d op n l=true→∃ x:X,x.ok∧x.depth≤d∧emb x=⟨op,n,l⟩
 |0,_,_,_,h=>by cases h
 |d + 1,op,n,l,h=>by
  unfold vx at h
  by_cases h0:op=0
  ·rw [if_pos h0] at h
   simp only [Bool.and_eq_true,decide_eq_true_eq] at h
   subst h0
   exact ⟨.num n,⟨h.1,h.2.1⟩,by simp [X.depth],by rw [emb,List.eq_nil_of_length_eq_zero h.2.2]⟩
  ·rw [if_neg h0] at h
   by_cases j3:op=13
   ·rw [if_pos j3] at h
    simp only [Bool.and_eq_true,decide_eq_true_eq] at h
    subst j3
    exact ⟨.var n,⟨h.1,h.2.1⟩,by simp [X.depth],by rw [emb,List.eq_nil_of_length_eq_zero h.2.2]⟩
   ·rw [if_neg j3] at h
    simp only [Bool.and_eq_true,decide_eq_true_eq] at h
    obtain ⟨h1,h2,h3,h4⟩:=h
    split at h4
    ·rename_i a b
     simp only [Bool.and_eq_true] at h4
     obtain ⟨x,x1,x2,x3⟩:=KS d a.f0 a.f1 a.f2 h4.1
     obtain ⟨y,y1,y2,y3⟩:=KS d b.f0 b.f1 b.f2 h4.2
     exact ⟨.bin op x y,⟨⟨h1,h2⟩,x1,y1⟩,by simp only [X.depth];omega,by rw [emb,x3,y3,h3,BQ,BQ]⟩
    ·cases h4
theorem OA:∀ (x:X) (d:Nat),x.ok→(vx d (emb x).f0 (emb x).f1 (emb x).f2=decide (x.depth≤d))
 |x,0,_=>by
  have:=X.KN x
  rw [decide_eq_false (by omega)]
  rfl
 | .num n,d + 1,h=>by
  have h:0≤n∧n≤99999:=h
  simp [vx,emb,X.depth,h.1,h.2]
 | .var v,d + 1,h=>by
  have h:0≤v∧v < 4:=h
  simp [vx,emb,X.depth,h.1,h.2]
 | .bin op a b,d + 1,h=>by
  have h1:=h.1
  have ha:=OA a d h.2.1
  have hb:=OA b d h.2.2
  have e0:¬ (op=0):=by omega
  have j3:¬ (op=13):=by omega
  have e:(X.bin op a b).depth=max a.depth b.depth + 1:=rfl
  show (if op=0 then _ else if op=13 then _ else decide (1≤op) && (decide (op≤12) && (true && (vx d (emb a).f0 (emb a).f1 (emb a).f2 && vx d (emb b).f0 (emb b).f1 (emb b).f2))))=_
  rw [if_neg e0,if_neg j3,decide_eq_true h1.1,decide_eq_true h1.2,ha,hb,e,Bool.true_and,Bool.true_and,Bool.true_and,Bool.eq_iff_iff]
  simp only [Bool.and_eq_true,decide_eq_true_eq]
  omega
theorem vW (a:Int):kD.f a=some (decide (1≤a) && decide (a≤12)):=by
 unfold kD.f
 by_cases h:a≥1
 ·rw [if_pos h,decide_eq_true h,Bool.true_and]
 ·rw [if_neg h,decide_eq_false h,Bool.false_and]
theorem vZ (a:Int):iC.f a=some (decide (1≤a) && decide (a≤12)):=by
 unfold iC.f
 rw [tC]
 rfl
theorem rG:∀ (d:Nat) (op n:Int) (l:List S32),d≤1000→EvP (fun k=>fA.f k op n l (d:Int)) (·=vx d op n l)
  |0,op,n,l,hd=>by
    refine EvP.step (fun k=>fA.f.eq_2 (k:=k) ..) ?_
    refine EvP.ite (fun h=>?_) (fun h=>?_)
    · refine EvP.ite (fun _=>EvP.ite (fun _=>EvP.ite (fun _=>EvP.ret ?_) (fun _=>EvP.ret ?_)) (fun _=>EvP.ret ?_)) (fun _=>EvP.ret ?_) <;> simp [vx]
    · refine EvP.ite (fun h=>?_) (fun h=>?_)
      · refine EvP.ite (fun _=>EvP.ite (fun _=>EvP.ite (fun _=>EvP.ret ?_) (fun _=>EvP.ret ?_)) (fun _=>EvP.ret ?_)) (fun _=>EvP.ret ?_) <;> simp [vx]
      · refine EvP.gQ (vW op) (EvP.ite (fun _=>EvP.ite (fun _=>EvP.ite (fun _=>EvP.no (by omega) (EvP.ret ?_)) (fun _=>EvP.ret ?_)) (fun _=>EvP.ret ?_)) (fun _=>EvP.ret ?_)) <;> simp [vx]
  |d + 1,op,n,l,hd=>by
    refine EvP.step (fun k=>fA.f.eq_2 (k:=k) ..) ?_
    unfold vx
    refine EvP.ite (fun h=>?_) (fun h=>?_)
    · rw [if_pos h]
      refine EvP.ite (fun h1=>EvP.ite (fun h2=>EvP.ite (fun h3=>EvP.ret ?_) (fun h3=>EvP.ret ?_)) (fun h2=>EvP.ret ?_)) (fun h1=>EvP.ret ?_)
      · rw [decide_eq_true (show 0≤n from h1),decide_eq_true h2,decide_eq_true (show l.length=0 by omega)]
        simp
      · rw [decide_eq_false (p:=l.length=0) (by omega)]
        simp
      · rw [decide_eq_false h2]
        simp
      · rw [decide_eq_false (p:=0≤n) h1]
        simp
    · rw [if_neg h]
      refine EvP.ite (fun h=>?_) (fun j3=>?_)
      · rw [if_pos h]
        refine EvP.ite (fun h1=>EvP.ite (fun h2=>EvP.ite (fun h3=>EvP.ret ?_) (fun h3=>EvP.ret ?_)) (fun h2=>EvP.ret ?_)) (fun h1=>EvP.ret ?_)
        · rw [decide_eq_true (show 0≤n from h1),decide_eq_true h2,decide_eq_true (show l.length=0 by omega)]
          simp
        · rw [decide_eq_false (p:=l.length=0) (by omega)]
          simp
        · rw [decide_eq_false h2]
          simp
        · rw [decide_eq_false (p:=0≤n) h1]
          simp
      · rw [if_neg j3]
        refine EvP.gQ (vW op) (EvP.ite (fun h1=>?_) (fun h1=>EvP.ret ?_))
        · simp only [Bool.and_eq_true,decide_eq_true_eq] at h1
          rw [decide_eq_true h1.1,decide_eq_true h1.2]
          refine EvP.ite (fun h2=>?_) (fun h2=>EvP.ret (by rw [decide_eq_false h2];rfl))
          rw [decide_eq_true h2]
          refine EvP.ite (fun h3=>?_) (fun h3=>EvP.ret ?_)
          · obtain ⟨a,b,rfl⟩:=vP (show l.length=2 by omega)
            refine EvP.ite (fun h4=>?_) (fun h4=>EvP.ret ?_)
            · rw [w64 (by omega) (by omega),show ((d + 1:Nat):Int) - 1=(d:Int) by omega,TV,TW]
              refine EvP.yes (by simp) (EvP.fD (rG d _ _ _ (by omega)) (EvP.ite (fun h5=>?_) (fun h5=>EvP.ret ?_)))
              · refine EvP.yes (by simp) (EvP.fD (rG d _ _ _ (by omega)) (EvP.ret ?_))
                simp [h5]
              · simp [h5]
            · have hd0:d=0:=by omega
              subst hd0
              rfl
          · split
            · simp at h3
            · rfl
        · symm
          rw [Bool.eq_false_iff]
          intro e
          simp only [Bool.and_eq_true,decide_eq_true_eq] at e h1
          exact h1 ⟨e.1,e.2.1⟩
theorem vO:∀ (d:Nat) (op n:Int) (l:List S32),d≤1000→EvP (fun k=>gZ.f k op n l (d:Int)) (·=vx d op n l)
  |0,op,n,l,hd=>EvP.step (fun k=>gZ.f.eq_2 (k:=k) ..) (EvP.yes (by omega) (EvP.ret rfl))
  |d + 1,op,n,l,hd=>by
    have hlen:((l.length:Int) == 0)=decide (l.length=0):=by
      rw [Bool.eq_iff_iff,beq_iff_eq,decide_eq_true_eq]
      omega
    refine EvP.step (fun k=>gZ.f.eq_2 (k:=k) ..) (EvP.no (by omega) ?_)
    unfold vx
    refine EvP.ite (fun h=>?_) (fun h=>?_)
    · rw [if_pos h,tC]
      refine EvP.gQ rfl (EvP.ite (fun h1=>EvP.ret ?_) (fun h1=>EvP.ret ?_))
      · rw [hlen]
        simp only [Bool.and_eq_true,decide_eq_true_eq] at h1
        rw [decide_eq_true h1.1,decide_eq_true h1.2]
        rfl
      · rw [← Bool.and_assoc,Bool.eq_false_iff.mpr h1]
        rfl
    · rw [if_neg h]
      refine EvP.ite (fun h=>?_) (fun j3=>?_)
      · rw [if_pos h,tC]
        have e3:decide (n < 4)=decide (n≤3):=decide_eq_decide.mpr (by omega)
        rw [e3]
        refine EvP.gQ rfl (EvP.ite (fun h1=>EvP.ret ?_) (fun h1=>EvP.ret ?_))
        · rw [hlen]
          simp only [Bool.and_eq_true,decide_eq_true_eq] at h1
          rw [decide_eq_true h1.1,decide_eq_true h1.2]
          rfl
        · rw [← Bool.and_assoc,Bool.eq_false_iff.mpr h1]
          rfl
      · rw [if_neg j3]
        refine EvP.gQ (vZ op) (EvP.ite (fun h1=>?_) (fun h1=>EvP.ret ?_))
        · simp only [Bool.and_eq_true,decide_eq_true_eq] at h1
          rw [decide_eq_true h1.1,decide_eq_true h1.2]
          refine EvP.ite (fun h2=>?_) (fun h2=>EvP.ret (by rw [decide_eq_false h2];rfl))
          rw [decide_eq_true h2]
          refine EvP.ite (fun h3=>?_) (fun h3=>EvP.ret ?_)
          · obtain ⟨a,b,rfl⟩:=vP (show l.length=2 by omega)
            rw [w64 (by omega) (by omega),show ((d + 1:Nat):Int) - 1=(d:Int) by omega,TV,TW]
            refine EvP.yes (by simp) (EvP.fD (vO d _ _ _ (by omega)) (EvP.ite (fun h5=>?_) (fun h5=>EvP.ret ?_)))
            · refine EvP.yes (by simp) (EvP.fD (vO d _ _ _ (by omega)) (EvP.ret ?_))
              simp [h5]
            · simp [h5]
          · split
            · simp at h3
            · rfl
        · rw [← Bool.and_assoc,Bool.eq_false_iff.mpr h1]
          rfl
theorem nQ (op n:Int) (l:List S32):EvP (fun k=>fC.f k op n l) (·=vx 5 op n l):=by
  unfold fC.f
  exact EvP.fD (vO 5 op n l (by omega)) (EvP.ret rfl)
theorem AQ (op n:Int) (l:List S32):EvP (fun k=>iD.f k op n l) (·=vx 5 op n l):=by
  unfold iD.f
  exact EvP.fD (rG 5 op n l (by omega)) (EvP.ret rfl)
mutual
def cS:S35→Nat
 |⟨_,_,_,_,b,e⟩=>cSs b + cSs e
def cSs:List S35→Nat
 |[]=>0
 |x :: xs=>cS x + 1 + cSs xs
end
theorem EM (x:S35):cS x=cSs x.f4 + cSs x.f5:=by
 cases x
 rw [cS]
theorem gI:∀ l:List S35,l.length≤cSs l
 |[]=>Nat.zero_le _
 |x :: xs=>by
  have:=gI xs
  rw [cSs,List.length_cons]
  omega
theorem rR:∀ l m:List S35,cSs (l ++ m)=cSs l + cSs m
 |[],m=>by rw [cSs];simp
 |x :: xs,m=>by
  rw [List.cons_append,cSs,cSs,rR xs m]
  omega
theorem vG:∀ (l:List S35) (x:S35),x ∈ l→cS x < cSs l
 |y :: ys,x,h=>by
  rw [cSs]
  rcases List.mem_cons.1 h with rfl|h
  ·omega
  ·have:=vG ys x h
   omega
theorem EN (l:List S35) (i:Nat) (h:i < l.length):cSs (l.drop i)=cS l[i] + 1 + cSs (l.drop (i + 1)):=by
 rw [List.drop_eq_getElem_cons h,cSs]
theorem PG (x:S35):cSs [x]=cS x + 1:=by
 rw [cSs,cSs]
theorem rD:cSs []=0:=by rw [cSs]
theorem FI (l:List S35) (n:Nat):cSs (l.take n) + cSs (l.drop n)=cSs l:=by
 rw [← rR,List.take_append_drop]
theorem xD (l:List S35) (i:Nat) (h:i < l.length):aA l (i:Int)=l[i]:=by
 unfold aA
 rw [Int.toNat_natCast,List.getD_eq_getElem?_getD,List.getElem?_eq_getElem h]
 rfl
def FC (use:Bool) (va:Int):Bool:=if use=true then decide (0≤va) && decide (va≤3) else va == 0
def xR (boxes:Int) (use:Bool) (bx:Int):Bool:=if use=true then decide (0≤bx) && decide (bx≤boxes - 1) else bx == 0
def nO (op n:Int) (la:List S32):Bool:=op == 0 && (n == 0 && la.length == 0)
def lQ (boxes:Int) (nv nb ne nd no:Bool) (va bx op n:Int) (la:List S32) (lb le:Nat):Bool:=
 FC nv va && (xR boxes nb bx && ((if ne=true then vx 5 op n la else nO op n la) && ((nd || lb == 0) && (no || le == 0))))
def xM (boxes kd va bx op n:Int) (la:List S32) (lb le:Nat):Bool:=
 if kd=1 then lQ boxes true false true false false va bx op n la lb le
 else if kd=2 then lQ boxes false false true true true va bx op n la lb le
 else if kd=3 then lQ boxes false false true true false va bx op n la lb le
 else if kd=4 then lQ boxes false true true false false va bx op n la lb le
 else if kd=5 then lQ boxes true true false false false va bx op n la lb le
 else if kd=7 then lQ boxes false false true false false va bx op n la lb le
 else if kd=6 then lQ boxes false false false false false va bx op n la lb le
 else false
def stS (boxes:Int) (s:S35):Bool:=xM boxes s.f0 s.f1 s.f2 s.f3.f0 s.f3.f1 s.f3.f2 s.f4.length s.f5.length
def oF (s:S35):Bool:=s.f0 == 2 || s.f0 == 3
def iM (boxes:Int):Nat→S35→Bool
 |0,s=>stS boxes s && !oF s
 |d + 1,s=>stS boxes s && (!oF s || (s.f4.all (iM boxes d) && s.f5.all (iM boxes d)))
def okL (boxes:Int) (d:Nat) (l:List S35):Bool:=l.all (iM boxes d)
theorem TN {boxes:Int} {d:Nat} {s:S35} (h:iM boxes d s=true):stS boxes s=true:=by
 cases d <;> (simp only [iM,Bool.and_eq_true] at h;exact h.1)
theorem IL {boxes kd va bx op n:Int} {la:List S32} {lb le:Nat} (h:xM boxes kd va bx op n la lb le=true) (h2:kd≠2) (h3:kd≠3):lb=0∧le=0:=by
 unfold xM at h
 rw [if_neg h2,if_neg h3] at h
 repeat' split at h
 all_goals first
  |(cases h;done)
  |(simp only [lQ,Bool.and_eq_true,Bool.false_or,beq_iff_eq] at h;exact h.2.2.2)
theorem DX {boxes:Int} {s:S35} (h:stS boxes s=true) (h2:¬ (s.f0=2∨s.f0=3)):cS s=0:=by
 obtain ⟨h4,h5⟩:=IL h (fun e=>h2 (.inl e)) (fun e=>h2 (.inr e))
 rw [EM,List.eq_nil_of_length_eq_zero h4,List.eq_nil_of_length_eq_zero h5,cSs]
theorem pG (s:S35):oF s=true ↔ s.f0=2∨s.f0=3:=by
 unfold oF
 simp
theorem aAe (use:Bool) (va:Int):inr va 4 use=FC use va:=by
 rw [Bool.eq_iff_iff]
 cases use
 ·simp [inr,FC]
 ·simp [inr,FC]
  omega
theorem MJ (nv nb ne nd no:Bool) (va bx op n:Int) (la:List S32) (lb le:Nat) (boxes:Int):
    EvP (fun k=>lD k nv nb ne nd no va bx op n la lb le boxes) (·=lQ boxes nv nb ne nd no va bx op n la lb le):=by
  unfold lD lQ
  rw [aAe]
  refine EvP.ite (fun h1=>?_) (fun h1=>EvP.ret (by rw [Bool.eq_false_iff.mpr h1];rfl))
  rw [h1,Bool.true_and]
  have hb:(inr bx boxes nb=true∧¬ (nb=true∧boxes≤bx)) ↔ xR boxes nb bx=true:=by
    cases nb
    · simp [inr,xR]
    · simp [inr,xR]
      omega
  refine EvP.ite (fun h2=>EvP.ite (fun h3=>EvP.ret ?_) (fun h3=>?_)) (fun h2=>EvP.ret ?_)
  · have:xR boxes nb bx=false:=Bool.eq_false_iff.mpr (fun e=>(hb.mpr e).2 h3)
    rw [this]
    rfl
  · rw [hb.mp ⟨h2,h3⟩,Bool.true_and]
    refine EvP.ite (fun h4=>?_) (fun h4=>?_)
    · rw [if_pos h4]
      refine EvP.fD (AQ op n la) (EvP.ite (fun h5=>EvP.ret (by rw [h5,Bool.true_and])) (fun h5=>EvP.ret (by rw [Bool.eq_false_iff.mpr h5];rfl)))
    · rw [if_neg h4]
      unfold nO
      refine EvP.ite (fun h5=>EvP.ite (fun h6=>EvP.ite (fun h7=>EvP.ret ?_) (fun h7=>EvP.ret ?_)) (fun h6=>EvP.ret ?_)) (fun h5=>EvP.ret ?_)
      · rw [beq_eq_false_iff_ne.mpr (show la.length≠0 by omega)]
        simp
      · rw [h5,h6,beq_iff_eq.mpr (show la.length=0 by omega)]
        simp
      · rw [beq_eq_false_iff_ne.mpr h6]
        simp
      · rw [beq_eq_false_iff_ne.mpr h5]
        simp
  · have:xR boxes nb bx=false:=Bool.eq_false_iff.mpr (fun e=>h2 (hb.mpr e).1)
    rw [this]
    rfl
theorem AV (kd va bx op n:Int) (la:List S32) (lb le:Nat) (boxes:Int):
    EvP (fun k=>fF.f k kd va bx op n la lb le boxes) (·=xM boxes kd va bx op n la lb le):=by
  unfold fF.f xM
  have hr:=fun nv nb ne nd no=>MJ nv nb ne nd no va bx op n la lb le boxes
  repeat (refine EvP.ite (fun h=>?_) (fun h=>?_);· rw [if_pos h];exact hr _ _ _ _ _
          rw [if_neg h])
  exact EvP.ret rfl
def OC (boxes:Int) (d:Nat) (l:List S35) (cnt:Int) (p:Bool × Int):Prop:=
 p.1=(okL boxes d l && decide (cnt + cSs l≤16))∧(p.1=true→p.2=cnt + cSs l)
theorem xQ (boxes blocks:Int) (d:Nat) (hd:d≤3) (hb:blocks=3 - d) (l:List S35) (hl:cSs l≤1000000000)
  (sub:∀ d',d=d' + 1→∀ (m:List S35) (cnt:Int),cSs m≤1000000000→0≤cnt→cnt≤16→EvP (fun k=>dJ.f k m boxes (wrap64 (blocks + 1)) cnt) (OC boxes d' m cnt)):
  ∀ (r j:Nat) (cnt:Int),j + r=l.length→0≤cnt→cnt≤16→
   EvP (fun k=>dJ.l0 k l boxes blocks (j:Int) cnt) (fun p=>p.1=(okL boxes d (l.drop j) && decide (cnt + cSs (l.drop j) - r≤16))∧(p.1=true→p.2=cnt + cSs (l.drop j) - r)):=by
 intro r
 have hlen:=gI l
 induction r with
 |zero=>
  intro j cnt hj h0 h1
  refine EvP.step (fun k=>dJ.l0.eq_2 (k:=k) ..) (EvP.no (by omega) (EvP.ret ?_))
  rw [List.drop_eq_nil_of_le (by omega),rD]
  constructor
  ·simp [okL]
   omega
  ·intro _
   simp
 |succ r ih=>
  intro j cnt hj h0 h1
  have hlt:j < l.length:=by omega
  have hc:=EN l j hlt
  have hr:r≤cSs (l.drop (j + 1)):=by
   have:=gI (l.drop (j + 1))
   rw [List.length_drop] at this
   omega
  have hm:=vG l _ (List.getElem_mem hlt)
  have hcs:=EM l[j]
  have hall:okL boxes d (l.drop j)=(iM boxes d l[j] && okL boxes d (l.drop (j + 1))):=by
   rw [List.drop_eq_getElem_cons hlt]
   rfl
  rw [hall]
  refine EvP.step (fun k=>dJ.l0.eq_2 (k:=k) ..) (EvP.yes (by omega) (EvP.yes (by omega) ?_))
  rw [xD l j hlt,w64 (n:=(j:Int) + 1) (by omega) (by omega)]
  refine EvP.fD (AV _ _ _ _ _ _ _ _ _) (EvP.ite (fun hs=>?_) (fun hs=>EvP.ret ?_))
  ·have hs:stS boxes l[j]=true:=hs
   refine EvP.no (by omega) (EvP.ite (fun hk=>?_) (fun hk=>?_))
   ·have hbk:oF l[j]=true:=(pG _).mpr hk
    cases d with
    |zero=>
     refine EvP.yes (by omega) (EvP.ret ?_)
     have:iM boxes 0 l[j]=false:=by simp [iM,hbk]
     rw [this]
     exact ⟨rfl,fun h=>by cases h⟩
    |succ d'=>
     have ho:iM boxes (d' + 1) l[j]=(okL boxes d' l[j].f4 && okL boxes d' l[j].f5):=by
      simp only [iM,hs,hbk,okL]
      rfl
     rw [ho]
     refine EvP.no (by omega) (EvP.bind (sub d' rfl _ cnt (by omega) h0 h1) fun p hp=>?_)
     obtain ⟨hp1,hp2⟩:=hp
     refine EvP.ite (fun hy=>?_) (fun hy=>EvP.ret ?_)
     ·have e2:=hp2 hy
      rw [hy] at hp1
      have hq:=hp1.symm
      rw [Bool.and_eq_true,decide_eq_true_eq] at hq
      rw [e2]
      refine EvP.bind (sub d' rfl _ _ (by omega) (by omega) hq.2) fun q hq'=>?_
      obtain ⟨hq1,hq2⟩:=hq'
      refine EvP.ite (fun hz=>?_) (fun hz=>EvP.ret ?_)
      ·have e3:=hq2 hz
       rw [hz] at hq1
       have hq3:=hq1.symm
       rw [Bool.and_eq_true,decide_eq_true_eq] at hq3
       rw [e3]
       refine (ih (j + 1) _ (by omega) (by omega) hq3.2).mono fun a ha=>?_
       rw [hq.1,hq3.1,Bool.true_and,Bool.true_and]
       refine ⟨ha.1.trans ?_,fun h=>(ha.2 h).trans ?_⟩
       ·congr 1
        exact decide_eq_decide.mpr (by omega)
       ·omega
      ·have hz':=Bool.eq_false_iff.mpr hz
       rw [hz'] at hq1
       refine ⟨?_,fun h=>by cases h⟩
       show false=_
       symm
       rw [Bool.eq_false_iff]
       intro e
       simp only [Bool.and_eq_true,decide_eq_true_eq] at e
       have:(okL boxes d' l[j].f5 && decide (cnt + ↑(cSs l[j].f4) + ↑(cSs l[j].f5)≤16))=true:=by
        rw [e.1.1.2,decide_eq_true (by omega)]
        rfl
       rw [this] at hq1
       cases hq1
     ·have hy':=Bool.eq_false_iff.mpr hy
      rw [hy'] at hp1
      refine ⟨?_,fun h=>by cases h⟩
      show false=_
      symm
      rw [Bool.eq_false_iff]
      intro e
      simp only [Bool.and_eq_true,decide_eq_true_eq] at e
      have:(okL boxes d' l[j].f4 && decide (cnt + ↑(cSs l[j].f4)≤16))=true:=by
       rw [e.1.1.1,decide_eq_true (by omega)]
       rfl
      rw [this] at hp1
      cases hp1
   ·have hbk:oF l[j]=false:=Bool.eq_false_iff.mpr (fun e=>hk ((pG _).mp e))
    have ho:iM boxes d l[j]=true:=by
     cases d <;> simp [iM,hs,hbk]
    have hz:=DX hs hk
    rw [ho,Bool.true_and]
    refine (ih (j + 1) cnt (by omega) h0 h1).mono fun a ha=>?_
    refine ⟨ha.1.trans ?_,fun h=>(ha.2 h).trans ?_⟩
    ·congr 1
     exact decide_eq_decide.mpr (by omega)
    ·omega
  ·have hs:stS boxes l[j]=false:=Bool.eq_false_iff.mpr hs
   have ho:iM boxes d l[j]=false:=Bool.eq_false_iff.mpr (fun e=>by rw [TN e] at hs;cases hs)
   rw [ho]
   exact ⟨rfl,fun h=>by cases h⟩
theorem yO (boxes:Int):∀ (d:Nat) (blocks:Int) (l:List S35) (cnt:Int),d≤3→blocks=3 - d→cSs l≤1000000000→0≤cnt→cnt≤16→
  EvP (fun k=>dJ.f k l boxes blocks cnt) (OC boxes d l cnt):=by
 intro d
 induction d with
 |zero=>
  intro blocks l cnt hd hb hl h0 h1
  have hlen:=gI l
  refine EvP.step (fun k=>dJ.f.eq_2 (k:=k) ..) ?_
  rw [w64 (n:=cnt + (l.length:Int)) (by omega) (by omega)]
  refine EvP.ite (fun h=>EvP.ret ?_) (fun h=>?_)
  ·refine ⟨?_,fun h=>by cases h⟩
   rw [decide_eq_false (by omega)]
   simp
  ·refine (xQ boxes blocks 0 hd hb l hl (fun d' e=>by omega) l.length 0 _ (by omega) (by omega) (by omega)).mono fun a ha=>?_
   rw [List.drop_zero] at ha
   refine ⟨ha.1.trans ?_,fun h=>(ha.2 h).trans ?_⟩
   ·congr 1
    exact decide_eq_decide.mpr (by omega)
   ·omega
 |succ d ih=>
  intro blocks l cnt hd hb hl h0 h1
  have hlen:=gI l
  refine EvP.step (fun k=>dJ.f.eq_2 (k:=k) ..) ?_
  rw [w64 (n:=cnt + (l.length:Int)) (by omega) (by omega)]
  refine EvP.ite (fun h=>EvP.ret ?_) (fun h=>?_)
  ·refine ⟨?_,fun h=>by cases h⟩
   rw [decide_eq_false (by omega)]
   simp
  ·refine (xQ boxes blocks (d + 1) hd hb l hl (fun d' e m cnt hm h0 h1=>?_) l.length 0 _ (by omega) (by omega) (by omega)).mono fun a ha=>?_
   ·have e':d=d':=by omega
    subst e'
    rw [w64 (by omega) (by omega)]
    exact ih _ m cnt (by omega) (by omega) hm h0 h1
   ·rw [List.drop_zero] at ha
    refine ⟨ha.1.trans ?_,fun h=>(ha.2 h).trans ?_⟩
    ·congr 1
     exact decide_eq_decide.mpr (by omega)
    ·omega
def okT (boxes:Int) (l:List S35):Bool:=okL boxes 3 l && decide (cSs l≤16)
theorem tO (boxes:Int) (l:List S35) (hl:cSs l≤1000000000):EvP (fun k=>fP.f k l boxes) (·=okT boxes l):=by
  unfold fP.f
  refine EvP.bind (yO boxes 3 0 l 0 (by omega) (by omega) hl (by omega) (by omega)) fun p hp=>EvP.ret ?_
  rw [hp.1]
  unfold okT
  congr 1
  exact decide_eq_decide.mpr (by omega)
theorem yN (l:List S35) (hl:cSs l≤1000000000):EvP (fun k=>gJ.f k l) (·=okT 3 l):=by
  unfold gJ.f
  exact EvP.fD (tO 3 l hl) (EvP.ret rfl)
theorem mV (a b c d e:Int) (l:List S32) (m n:List S35) (u:Bool):fH.f a b c d e l m n u=some (FC u b):=by
 unfold fH.f FC
 rw [tC]
 cases u <;> rfl
theorem mU (a b c d e:Int) (l:List S32) (m n:List S35) (u:Bool):gH.f a b c d e l m n u=some (xR 3 u c):=by
 unfold gH.f xR
 rw [tC]
 cases u <;> rfl
theorem vB (op n:Int) (l:List S32):lN.f op n l=some (nO op n l):=by
 unfold lN.f nO
 have hlen:((l.length:Int) == 0)=(l.length == 0):=by
  rw [Bool.eq_iff_iff,beq_iff_eq,beq_iff_eq]
  omega
 by_cases h:op=0
 ·rw [if_pos h,h]
  by_cases h2:n=0
  ·rw [if_pos h2,h2,hlen]
   rfl
  ·rw [if_neg h2,beq_eq_false_iff_ne.mpr h2]
   rfl
 ·rw [if_neg h,beq_eq_false_iff_ne.mpr h]
  rfl
theorem uN (kd va bx op n:Int) (la:List S32) (m1 m2:List S35) (h2:kd≠2) (h3:kd≠3):
    EvP (fun k=>dY.f k kd va bx op n la m1 m2) (·=xM 3 kd va bx op n la m1.length m2.length):=by
  unfold dY.f
  have yes:∀ b:Bool,((m1.length == 0 && m2.length == 0)=!b)→EvP (fun k=>dY.j0 k b kd va bx op n la m1 m2) (·=xM 3 kd va bx op n la m1.length m2.length):=by
    intro b hb
    refine EvP.step (fun k=>dY.j0.eq_2 (k:=k) ..) ?_
    refine EvP.ite (fun h=>EvP.ret ?_) (fun h=>?_)
    · symm
      rw [Bool.eq_false_iff]
      intro e
      obtain ⟨z1,z2⟩:=IL e h2 h3
      rw [z1,z2,h] at hb
      cases hb
    · have hb':(m1.length == 0 && m2.length == 0)=true:=by
        rw [hb,Bool.eq_false_iff.mpr h]
        rfl
      unfold xM
      have hT:∀ a b c:Bool,(a && (b && (c && ((false || m1.length == 0) && (false || m2.length == 0)))))=(a && (b && c)):=by
        intro a b c
        rw [Bool.false_or,Bool.false_or,hb',Bool.and_true]
      refine EvP.ite (fun h1=>?_) (fun h1=>?_)
      · rw [if_pos h1]
        unfold lQ
        rw [hT]
        refine EvP.gQ (mV ..) (EvP.ite (fun hv=>EvP.gQ (mU ..) (EvP.ite (fun hx=>EvP.fD (nQ ..) (EvP.ret ?_)) (fun hx=>EvP.ret ?_))) (fun hv=>EvP.ret ?_)) <;> simp [*]
      · rw [if_neg h1,if_neg h2,if_neg h3]
        refine EvP.ite (fun h1=>?_) (fun h1=>?_)
        · rw [if_pos h1]
          unfold lQ
          rw [hT]
          refine EvP.gQ (mV ..) (EvP.ite (fun hv=>EvP.gQ (mU ..) (EvP.ite (fun hx=>EvP.fD (nQ ..) (EvP.ret ?_)) (fun hx=>EvP.ret ?_))) (fun hv=>EvP.ret ?_)) <;> simp [*]
        · rw [if_neg h1]
          refine EvP.ite (fun h1=>?_) (fun h1=>?_)
          · rw [if_pos h1]
            unfold lQ
            rw [hT]
            refine EvP.gQ (mV ..) (EvP.ite (fun hv=>EvP.gQ (mU ..) (EvP.ite (fun hx=>EvP.gQ (vB ..) (EvP.ret ?_)) (fun hx=>EvP.ret ?_))) (fun hv=>EvP.ret ?_)) <;> simp [*]
          · rw [if_neg h1]
            refine EvP.ite (fun h6=>?_) (fun h6=>?_)
            · rw [if_neg (by omega),if_pos h6]
              unfold lQ
              rw [hT]
              refine EvP.gQ (mV ..) (EvP.ite (fun hv=>EvP.gQ (mU ..) (EvP.ite (fun hx=>EvP.gQ (vB ..) (EvP.ret ?_)) (fun hx=>EvP.ret ?_))) (fun hv=>EvP.ret ?_)) <;> simp [*]
            · refine EvP.ite (fun h7=>?_) (fun h7=>?_)
              · rw [if_pos h7]
                unfold lQ
                rw [hT]
                refine EvP.gQ (mV ..) (EvP.ite (fun hv=>EvP.gQ (mU ..) (EvP.ite (fun hx=>EvP.fD (nQ ..) (EvP.ret ?_)) (fun hx=>EvP.ret ?_))) (fun hv=>EvP.ret ?_)) <;> simp [*]
              · rw [if_neg h7,if_neg h6]
                exact EvP.ret rfl
  refine EvP.ite (fun h=>yes true ?_) (fun h=>yes _ ?_)
  · rw [beq_eq_false_iff_ne.mpr (show m1.length≠0 by omega)]
    rfl
  · rw [beq_iff_eq.mpr (show m1.length=0 by omega),Bool.true_and,← decide_not,Bool.eq_iff_iff,beq_iff_eq,decide_eq_true_eq]
    omega
theorem BI (l:List S35) (hl:l.length≤1000000000) (x1:Int) (d:Nat) (sub:∀ x ∈ l,EvP (fun k=>dH.f k x.f0 x.f1 x.f2 x.f3.f0 x.f3.f1 x.f3.f2 x.f4 x.f5 x1) (·=iM 3 d x)):
    ∀ (r j:Nat),j + r=l.length→EvP (fun k=>dB.l0 k l x1 (j:Int)) (·=okL 3 d (l.drop j)):=by
  intro r
  induction r with
  |zero=>
    intro j hj
    refine EvP.step (fun k=>dB.l0.eq_2 (k:=k) ..) (EvP.no (by omega) (EvP.ret ?_))
    rw [List.drop_eq_nil_of_le (by omega)]
    rfl
  |succ r ih=>
    intro j hj
    have hlt:j < l.length:=by omega
    refine EvP.step (fun k=>dB.l0.eq_2 (k:=k) ..) (EvP.yes (by omega) (EvP.yes (by omega) ?_))
    rw [xD l j hlt,w64 (n:=(j:Int) + 1) (by omega) (by omega)]
    have hall:okL 3 d (l.drop j)=(iM 3 d l[j] && okL 3 d (l.drop (j + 1))):=by
      rw [List.drop_eq_getElem_cons hlt]
      rfl
    rw [hall]
    refine EvP.fD (sub _ (List.getElem_mem hlt)) (EvP.ite (fun h=>?_) (fun h=>EvP.ret ?_))
    · rw [h,Bool.true_and]
      exact ih (j + 1) (by omega)
    · rw [Bool.eq_false_iff.mpr h]
      rfl
theorem uM (l:List S35) (hl:l.length≤1000000000) (x1:Int) (d:Nat) (sub:∀ x ∈ l,EvP (fun k=>dH.f k x.f0 x.f1 x.f2 x.f3.f0 x.f3.f1 x.f3.f2 x.f4 x.f5 x1) (·=iM 3 d x)):
    EvP (fun k=>dB.f k l x1) (·=okL 3 d l):=
  EvP.step (fun k=>dB.f.eq_2 (k:=k) ..) (BI l hl x1 d sub l.length 0 (by omega))
theorem FW:∀ (d:Nat) (x1:Int) (x:S35),d≤3→x1=d→cS x≤1000000000→EvP (fun k=>dH.f k x.f0 x.f1 x.f2 x.f3.f0 x.f3.f1 x.f3.f2 x.f4 x.f5 x1) (·=iM 3 d x):=by
  intro d
  induction d with
  |zero=>
    intro x1 x hd h1 hc
    have j1:EvP (fun k=>dH.j1 k x1 true x.f0 x.f1 x.f2 x.f3.f0 x.f3.f1 x.f3.f2 x.f4 x.f5) (·=false):=
      EvP.step (fun k=>dH.j1.eq_2 (k:=k) ..) (EvP.yes rfl (EvP.ret rfl))
    refine EvP.step (fun k=>dH.f.eq_2 (k:=k) ..) (EvP.ite (fun h2=>?_) (fun h2=>?_))
    · have:iM 3 0 x=false:=by simp [iM,oF,h2]
      rw [this]
      refine EvP.step (fun k=>dH.j0.eq_2 (k:=k) ..) (EvP.no Bool.false_ne_true (EvP.yes (by omega) j1))
    · refine EvP.step (fun k=>dH.j0.eq_2 (k:=k) ..) (EvP.ite (fun h3=>?_) (fun h3=>EvP.yes (by omega) ?_))
      · have h3:x.f0≠3:=bne_iff_ne.mp h3
        refine EvP.fD (uN _ _ _ _ _ _ _ _ h2 h3) (EvP.ret ?_)
        simp [iM,oF,h2,h3,stS]
      · have h3:x.f0=3:=by simpa using h3
        have:iM 3 0 x=false:=by simp [iM,oF,h3]
        rw [this]
        exact j1
  |succ d ih=>
    intro x1 x hd h1 hc
    have hcs:=EM x
    have e1:wrap64 (x1 - 1)=(d:Int):=by
      rw [w64 (by omega) (by omega)]
      omega
    have len4:=gI x.f4
    have len5:=gI x.f5
    have sub:∀ m:List S35,cSs m≤1000000000→EvP (fun k=>dB.f k m (wrap64 (x1 - 1))) (·=okL 3 d m):=by
      intro m hm
      have:=gI m
      refine uM m (by omega) _ d (fun y hy=>ih _ y (by omega) e1 ?_)
      have:=vG m y hy
      omega
    have j1:∀ b:Bool,oF x=true→(b=(x.f0 == 3 && decide ((x.f5.length:Int) > 0)))→EvP (fun k=>dH.j1 k x1 b x.f0 x.f1 x.f2 x.f3.f0 x.f3.f1 x.f3.f2 x.f4 x.f5) (·=iM 3 (d + 1) x):=by
      intro b hb hbb
      have ho:iM 3 (d + 1) x=(stS 3 x && (okL 3 d x.f4 && okL 3 d x.f5)):=by
        simp only [iM,hb,okL]
        rfl
      rw [ho]
      refine EvP.step (fun k=>dH.j1.eq_2 (k:=k) ..) (EvP.ite (fun h=>EvP.ret ?_) (fun h=>?_))
      · rw [h] at hbb
        have h4:=hbb.symm
        simp only [Bool.and_eq_true,beq_iff_eq,decide_eq_true_eq] at h4
        have:stS 3 x=false:=by
          have hne:(x.f5.length == 0)=false:=beq_eq_false_iff_ne.mpr (by omega)
          simp [stS,xM,h4.1,lQ,hne]
        rw [this]
        rfl
      · have hst:stS 3 x=(FC false x.f1 && (xR 3 false x.f2 && vx 5 x.f3.f0 x.f3.f1 x.f3.f2)):=by
          rcases (pG x).mp hb with h2|h2
          · simp [stS,xM,h2,lQ]
          · have h5:x.f5.length=0:=by
              rw [Bool.eq_false_iff.mpr h,h2] at hbb
              have:=hbb.symm
              simp only [beq_self_eq_true,Bool.true_and,decide_eq_false_iff_not] at this
              omega
            simp [stS,xM,h2,lQ,h5]
        rw [hst]
        refine EvP.gQ (mV ..) (EvP.ite (fun hv=>EvP.gQ (mU ..) (EvP.ite (fun hx=>EvP.fD (nQ ..) (EvP.ite (fun he=>?_) (fun he=>EvP.ret ?_))) (fun hx=>EvP.ret ?_))) (fun hv=>EvP.ret ?_))
        · refine EvP.fD (sub x.f4 (by omega)) (EvP.ite (fun h4=>EvP.fD (sub x.f5 (by omega)) (EvP.ret ?_)) (fun h4=>EvP.ret ?_)) <;> simp [*]
        all_goals simp [*]
    refine EvP.step (fun k=>dH.f.eq_2 (k:=k) ..) (EvP.ite (fun h2=>?_) (fun h2=>?_))
    · refine EvP.step (fun k=>dH.j0.eq_2 (k:=k) ..) (EvP.no Bool.false_ne_true (EvP.no (by omega) (EvP.no (by omega) (j1 false ?_ ?_))))
      · simp [oF,h2]
      · simp [h2]
    · refine EvP.step (fun k=>dH.j0.eq_2 (k:=k) ..) (EvP.ite (fun h3=>?_) (fun h3=>EvP.no (by omega) ?_))
      · have h3:x.f0≠3:=bne_iff_ne.mp h3
        refine EvP.fD (uN _ _ _ _ _ _ _ _ h2 h3) (EvP.ret ?_)
        simp [iM,oF,h2,h3,stS]
      · have h3:x.f0=3:=by simpa using h3
        refine EvP.yes h3 (j1 _ ?_ ?_)
        · simp [oF,h3]
        · simp [h3]
theorem BH (l:List S35) (hl:cSs l≤1000000000):EvP (fun k=>dB.f k l 3) (·=okL 3 3 l):=by
  have:=gI l
  refine uM l (by omega) _ 3 (fun y hy=>FW 3 3 y (by omega) (by omega) ?_)
  have:=vG l y hy
  omega
theorem rX:∀ (c:Nat) (l:List S35),cSs l≤c→c≤1000000000→EvP (fun k=>bX.f k l) (·=(cSs l:Int)):=by
  intro c
  induction c with
  |zero=>
    intro l hl hc
    have:=gI l
    refine EvP.step (fun k=>bX.f.eq_2 (k:=k) ..) (EvP.step (fun k=>bX.l0.eq_2 (k:=k) ..) (EvP.no (by omega) (EvP.ret ?_)))
    omega
  |succ c ih=>
    intro l hl hc
    have hlen:=gI l
    have loop:∀ (r j:Nat) (a:Int),j + r=l.length→0≤a→a + cSs (l.drop j)≤1000000000→EvP (fun k=>bX.l0 k l a (j:Int)) (·=a + cSs (l.drop j)):=by
      intro r
      induction r with
      |zero=>
        intro j a hj h0 h1
        refine EvP.step (fun k=>bX.l0.eq_2 (k:=k) ..) (EvP.no (by omega) (EvP.ret ?_))
        rw [List.drop_eq_nil_of_le (by omega),rD]
        omega
      |succ r ih2=>
        intro j a hj h0 h1
        have hlt:j < l.length:=by omega
        have hd:=EN l j hlt
        have hm:=vG l _ (List.getElem_mem hlt)
        have hcs:=EM l[j]
        refine EvP.step (fun k=>bX.l0.eq_2 (k:=k) ..) (EvP.yes (by omega) (EvP.yes (by omega) ?_))
        rw [xD l j hlt,w64 (n:=(j:Int) + 1) (by omega) (by omega)]
        refine EvP.fD (ih _ (by omega) (by omega)) (EvP.fD (ih _ (by omega) (by omega)) ?_)
        rw [w64 (n:=a + 1) (by omega) (by omega),w64 (n:=a + 1 + (cSs l[j].f4:Int)) (by omega) (by omega),w64 (by omega) (by omega)]
        refine (ih2 (j + 1) _ (by omega) (by omega) (by omega)).mono fun b hb=>?_
        omega
    refine EvP.step (fun k=>bX.f.eq_2 (k:=k) ..) ((loop l.length 0 0 (by omega) (by omega) (by rw [List.drop_zero];omega)).mono fun b hb=>?_)
    rw [List.drop_zero] at hb
    omega
theorem yT (l:List S35) (hl:cSs l≤1000000000):EvP (fun k=>gK.f k l) (·=okT 3 l):=by
  unfold gK.f okT
  refine EvP.fD (BH l hl) (EvP.ite (fun h=>EvP.fD (rX _ l hl (by omega)) (EvP.ret ?_)) (fun h=>EvP.ret ?_))
  · rw [h,Bool.true_and]
    exact decide_eq_decide.mpr (by omega)
  · rw [Bool.eq_false_iff.mpr h]
    rfl
theorem yQ:∀ (c:Nat) (l:List S35),cSs l≤c→c≤1000000000→EvP (fun k=>bO.f k l) (·=(cSs l:Int)):=by
  intro c
  induction c with
  |zero=>
    intro l hl hc
    have:=gI l
    refine EvP.step (fun k=>bO.f.eq_2 (k:=k) ..) (EvP.step (fun k=>bO.l0.eq_2 (k:=k) ..) (EvP.no (by omega) (EvP.ret ?_)))
    omega
  |succ c ih=>
    intro l hl hc
    have hlen:=gI l
    have loop:∀ (r j:Nat) (a:Int),j + r=l.length→0≤a→a + cSs (l.drop j)≤2000000000→EvP (fun k=>bO.l0 k a l (l.length:Int) (j:Int)) (·=a + cSs (l.drop j) - r):=by
      intro r
      induction r with
      |zero=>
        intro j a hj h0 h1
        refine EvP.step (fun k=>bO.l0.eq_2 (k:=k) ..) (EvP.no (by omega) (EvP.ret ?_))
        rw [List.drop_eq_nil_of_le (by omega),rD]
        omega
      |succ r ih2=>
        intro j a hj h0 h1
        have hlt:j < l.length:=by omega
        have hd:=EN l j hlt
        have hm:=vG l _ (List.getElem_mem hlt)
        have hcs:=EM l[j]
        refine EvP.step (fun k=>bO.l0.eq_2 (k:=k) ..) (EvP.yes (by omega) (EvP.yes (by omega) (EvP.yes (by omega) ?_)))
        rw [xD l j hlt,w64 (n:=(j:Int) + 1) (by omega) (by omega)]
        refine EvP.fD (ih _ (by omega) (by omega)) (EvP.fD (ih _ (by omega) (by omega)) ?_)
        rw [w64 (n:=(cSs l[j].f4:Int) + cSs l[j].f5) (by omega) (by omega),w64 (by omega) (by omega)]
        refine (ih2 (j + 1) _ (by omega) (by omega) (by omega)).mono fun b hb=>?_
        omega
    refine EvP.step (fun k=>bO.f.eq_2 (k:=k) ..) ((loop l.length 0 l.length (by omega) (by omega) (by rw [List.drop_zero];omega)).mono fun b hb=>?_)
    rw [List.drop_zero] at hb
    omega
theorem NP (boxes:Int) (d:Nat) (l m:List S35):okL boxes d (l ++ m)=(okL boxes d l && okL boxes d m):=List.all_append
theorem vK {boxes:Int} {l:List S35}:okT boxes l=true ↔ okL boxes 3 l=true∧cSs l≤16:=by
 unfold okT
 rw [Bool.and_eq_true,decide_eq_true_eq]
theorem yS (boxes:Int):∀ (d:Nat) (s:S35),iM boxes d s=true→iM boxes (d + 1) s=true
 |0,s,h=>by
  simp only [iM,Bool.and_eq_true] at h ⊢
  exact ⟨h.1,by rw [h.2];rfl⟩
 |d + 1,s,h=>by
  simp only [iM,Bool.and_eq_true,Bool.or_eq_true] at h ⊢
  refine ⟨h.1,?_⟩
  rcases h.2 with h2|⟨h2,h3⟩
  ·exact .inl h2
  ·right
   constructor
   ·rw [List.all_eq_true] at h2 ⊢
    intro x hx
    have:=yS boxes d x (h2 x hx)
    simp only [iM,Bool.and_eq_true,Bool.or_eq_true] at this
    exact Bool.and_eq_true_iff.mpr ⟨this.1,Bool.or_eq_true_iff.mpr (this.2.imp id fun h=>Bool.and_eq_true_iff.mpr h)⟩
   ·rw [List.all_eq_true] at h3 ⊢
    intro x hx
    have:=yS boxes d x (h3 x hx)
    simp only [iM,Bool.and_eq_true,Bool.or_eq_true] at this
    exact Bool.and_eq_true_iff.mpr ⟨this.1,Bool.or_eq_true_iff.mpr (this.2.imp id fun h=>Bool.and_eq_true_iff.mpr h)⟩
theorem MB {boxes:Int} {d:Nat} {l:List S35} (h:okL boxes d l=true):okL boxes (d + 1) l=true:=by
 unfold okL at h ⊢
 rw [List.all_eq_true] at h ⊢
 exact fun x hx=>yS boxes d x (h x hx)
end Go.Proofs.Ytodhbeeibagiaaa.PA

namespace Go.Proofs.Ytodhbeeibagiaaa.PA
open Go.RowKit Go.Proofs.YtodhbeeibagiaaaW.PrintWords Go.Proofs.YtodhbeeibagiaaaW.PrintMore Go.Proofs.Ytodhbeeibagiaaa.Core
theorem aCa (a:S35):(⟨a.f0,a.f1,a.f2,a.f3,a.f4,a.f5⟩:S35)=a:=by
 cases a
 rfl
inductive ST where
 |mk (kd va bx:Int) (x:X) (b e:List ST)
namespace ST
def kd:ST→Int|⟨a,_,_,_,_,_⟩=>a
def va:ST→Int|⟨_,a,_,_,_,_⟩=>a
def bx:ST→Int|⟨_,_,a,_,_,_⟩=>a
def x:ST→X|⟨_,_,_,a,_,_⟩=>a
def b:ST→List ST|⟨_,_,_,_,a,_⟩=>a
def e:ST→List ST|⟨_,_,_,_,_,a⟩=>a
end ST
mutual
def pO:ST→S35
 |⟨kd,va,bx,x,b,e⟩=>⟨kd,va,bx,emb x,dW b,dW e⟩
def dW:List ST→List S35
 |[]=>[]
 |s :: ss=>pO s :: dW ss
end
def AZ (kd va bx:Int) (x:X) (b e:List ST):List ST:=
 if kd=2 then (match x with
  | .num n=>if n=0 then e else b
  | y=>[⟨kd,va,bx,y,b,e⟩])
 else if kd=3 then (match x with
  | .num n=>if n=0 then [] else [⟨kd,va,bx, .num n,b,e⟩]
  | y=>[⟨kd,va,bx,y,b,e⟩])
 else [⟨kd,va,bx,x,b,e⟩]
mutual
def pF:ST→List ST
 |⟨kd,va,bx,x,b,e⟩=>AZ kd va bx x.fold (fM b) (fM e)
def fM:List ST→List ST
 |[]=>[]
 |s :: ss=>pF s ++ fM ss
end
theorem sQ (t:ST):pO t=⟨t.kd,t.va,t.bx,emb t.x,dW t.b,dW t.e⟩:=by
 cases t
 rw [pO]
 rfl
theorem xA (t:ST):pF t=AZ t.kd t.va t.bx t.x.fold (fM t.b) (fM t.e):=by
 cases t
 rw [pF]
 rfl
theorem iW:∀ l:List ST,(dW l).length=l.length
 |[]=>by rw [dW];rfl
 |x :: xs=>by rw [dW,List.length_cons,List.length_cons,iW xs]
theorem rE:∀ l m:List ST,dW (l ++ m)=dW l ++ dW m
 |[],m=>by rw [dW];rfl
 |x :: xs,m=>by rw [List.cons_append,dW,dW,rE xs m];rfl
theorem GY:∀ (l:List ST) (i:Nat) (h:i < l.length),(dW l)[i]'(by rw [iW];exact h)=pO l[i]
 |x :: xs,0,_=>by simp [dW]
 |x :: xs,i + 1,h=>by
  have h2:=GY xs i (by simpa using h)
  simp only [dW,List.getElem_cons_succ]
  exact h2
theorem TA {P:ST→Prop} (h:∀ t:ST,(∀ y ∈ t.b,P y)→(∀ y ∈ t.e,P y)→P t) (t:ST):P t:=
 @ST.rec (motive_1:=P) (motive_2:=fun l=>∀ y ∈ l,P y) (fun a b c d m n i1 i2=>h ⟨a,b,c,d,m,n⟩ i1 i2) (fun y hy=>by simp at hy) (fun y ys h1 h2 z hz=>by
  rcases List.mem_cons.1 hz with rfl|hz
  ·exact h1
  ·exact h2 z hz) t
inductive AX:ST→Prop
 |mk (t:ST) (h1:t.x.ok) (h2:t.x.depth≤5) (hb:∀ y ∈ t.b,AX y) (he:∀ y ∈ t.e,AX y):AX t
theorem TL (boxes:Int):∀ (d:Nat) (s:S35),iM boxes d s=true→∃ t,pO t=s∧AX t:=by
 have ex:∀ s:S35,stS boxes s=true→∃ x:X,emb x=s.f3∧x.ok∧x.depth≤5:=by
  intro s h
  have hv:vx 5 s.f3.f0 s.f3.f1 s.f3.f2=true∨nO s.f3.f0 s.f3.f1 s.f3.f2=true:=by
   unfold stS xM lQ at h
   repeat' split at h
   all_goals first
    |(cases h;done)
    |(simp only [Bool.and_eq_true] at h;first|exact .inl h.2.2.1|exact .inr h.2.2.1)
    |skip
   all_goals simp_all
  rcases hv with hv|hv
  ·obtain ⟨x,h1,h2,h3⟩:=KS 5 _ _ _ hv
   exact ⟨x,h3.trans (BQ _),h1,h2⟩
  ·unfold nO at hv
   simp only [Bool.and_eq_true,beq_iff_eq] at hv
   refine ⟨.num 0,?_,⟨by omega,by omega⟩,by simp [X.depth]⟩
   rw [emb,← BQ s.f3,hv.1,hv.2.1,List.eq_nil_of_length_eq_zero hv.2.2]
 have mk:∀ (s:S35),stS boxes s=true→(∃ l,dW l=s.f4∧∀ y ∈ l,AX y)→(∃ l,dW l=s.f5∧∀ y ∈ l,AX y)→∃ t,pO t=s∧AX t:=by
  rintro s h ⟨l,h4,a4⟩ ⟨m,h5,a5⟩
  obtain ⟨x,hx,hok,hd⟩:=ex s h
  refine ⟨⟨s.f0,s.f1,s.f2,x,l,m⟩,?_, .mk _ hok hd a4 a5⟩
  rw [pO,hx,h4,h5]
  exact aCa s
 have nils:∀ s:S35,stS boxes s=true→oF s=false→(∃ l,dW l=s.f4∧∀ y ∈ l,AX y)∧(∃ l,dW l=s.f5∧∀ y ∈ l,AX y):=by
  intro s h hb
  have hf:=DX h (fun e=>by rw [(pG s).mpr e] at hb;cases hb)
  rw [EM] at hf
  have l4:=gI s.f4
  have l5:=gI s.f5
  rw [List.eq_nil_of_length_eq_zero (show s.f4.length=0 by omega),List.eq_nil_of_length_eq_zero (show s.f5.length=0 by omega)]
  exact ⟨⟨[],by rw [dW],by simp⟩,⟨[],by rw [dW],by simp⟩⟩
 intro d
 induction d with
 |zero=>
  intro s h
  simp only [iM,Bool.and_eq_true] at h
  obtain ⟨n4,n5⟩:=nils s h.1 (by simpa using h.2)
  exact mk s h.1 n4 n5
 |succ d ih=>
  intro s h
  have lists:∀ l:List S35,l.all (iM boxes d)=true→∃ m,dW m=l∧∀ y ∈ m,AX y:=by
   intro l
   induction l with
   |nil=>exact fun _=>⟨[],by rw [dW],by simp⟩
   |cons y ys ihl=>
    intro h
    rw [List.all_cons,Bool.and_eq_true] at h
    obtain ⟨t,ht,at_⟩:=ih y h.1
    obtain ⟨m,hm,am⟩:=ihl h.2
    refine ⟨t :: m,by rw [dW,ht,hm],fun z hz=>?_⟩
    rcases List.mem_cons.1 hz with rfl|hz
    ·exact at_
    ·exact am z hz
  simp only [iM,Bool.and_eq_true,Bool.or_eq_true] at h
  cases hb:oF s with
  |false=>
   obtain ⟨n4,n5⟩:=nils s h.1 hb
   exact mk s h.1 n4 n5
  |true=>
   rw [hb] at h
   rcases h.2 with h2|h2
   ·cases h2
   ·exact mk s h.1 (lists _ h2.1) (lists _ h2.2)
theorem TK (boxes:Int) (d:Nat):∀ l:List S35,okL boxes d l=true→∃ m,dW m=l∧∀ y ∈ m,AX y
 |[],_=>⟨[],by rw [dW],by simp⟩
 |y :: ys,h=>by
  have h':(iM boxes d y && okL boxes d ys)=true:=h
  rw [Bool.and_eq_true] at h'
  obtain ⟨t,ht,at_⟩:=TL boxes d y h'.1
  obtain ⟨m,hm,am⟩:=TK boxes d ys h'.2
  refine ⟨t :: m,by rw [dW,ht,hm],fun z hz=>?_⟩
  rcases List.mem_cons.1 hz with rfl|hz
  ·exact at_
  ·exact am z hz
theorem uK (kd va bx:Int) (x:X) (b e:List ST):(AZ kd va bx x b e=b∧kd=2)∨(AZ kd va bx x b e=e∧kd=2)∨AZ kd va bx x b e=[]∨(AZ kd va bx x b e=[⟨kd,va,bx,x,b,e⟩]∧¬ (kd=2∧x.isNum=true)∧¬ (kd=3∧x= .num 0)):=by
 unfold AZ
 by_cases h2:kd=2
 ·rw [if_pos h2]
  cases x with
  |num n=>
   dsimp only
   by_cases h:n=0
   ·rw [if_pos h]
    exact .inr (.inl ⟨rfl,h2⟩)
   ·rw [if_neg h]
    exact .inl ⟨rfl,h2⟩
  |var v=>exact .inr (.inr (.inr ⟨rfl,by simp [X.isNum],by simp⟩))
  |bin o p q=>exact .inr (.inr (.inr ⟨rfl,by simp [X.isNum],by simp⟩))
 ·rw [if_neg h2]
  by_cases h3:kd=3
  ·rw [if_pos h3]
   cases x with
   |num n=>
    dsimp only
    by_cases h:n=0
    ·rw [if_pos h]
     exact .inr (.inr (.inl rfl))
    ·rw [if_neg h]
     exact .inr (.inr (.inr ⟨rfl,by simp [h2],by simp [h]⟩))
   |var v=>exact .inr (.inr (.inr ⟨rfl,by simp [h2],by simp⟩))
   |bin o p q=>exact .inr (.inr (.inr ⟨rfl,by simp [h2],by simp⟩))
  ·rw [if_neg h3]
   exact .inr (.inr (.inr ⟨rfl,by simp [h2],by simp [h3]⟩))
def cT (l:List ST):Nat:=cSs (dW l)
theorem BO (l m:List ST):cT (l ++ m)=cT l + cT m:=by
 unfold cT
 rw [rE,rR]
theorem BP (t:ST):cT [t]=cT t.b + cT t.e + 1:=by
 unfold cT
 rw [dW,dW,PG,sQ,EM]
theorem DV (t:ST) (l:List ST):cT (t :: l)=cT t.b + cT t.e + 1 + cT l:=by
 rw [show t :: l=[t] ++ l from rfl,BO,BP]
theorem aBb:cT []=0:=by
 unfold cT
 rw [dW,cSs]
theorem vH (l:List ST) (h:∀ y ∈ l,cT (pF y)≤cT [y]):cT (fM l)≤cT l:=by
 induction l with
 |nil=>rw [fM];exact Nat.le_refl _
 |cons y ys ih=>
  have h1:=h y List.mem_cons_self
  have h2:=ih (fun z hz=>h z (List.mem_cons_of_mem _ hz))
  rw [fM,BO,DV]
  rw [BP] at h1
  omega
theorem EO (t:ST):cT (pF t)≤cT [t]:=by
 refine TA (P:=fun t=>cT (pF t)≤cT [t]) (fun t i1 i2=>?_) t
 have h1:=vH t.b i1
 have h2:=vH t.e i2
 rw [xA,BP]
 rcases uK t.kd t.va t.bx t.x.fold (fM t.b) (fM t.e) with ⟨h,_⟩|⟨h,_⟩|h|⟨h,_⟩
 ·rw [h];omega
 ·rw [h];omega
 ·rw [h,aBb];omega
 ·rw [h,BP]
  show cT (fM t.b) + cT (fM t.e) + 1≤_
  omega
theorem rT (l:List ST):cT (fM l)≤cT l:=vH l (fun y _=>EO y)
theorem vF (l:List ST) (h:∀ y ∈ l,∀ z ∈ pF y,AX z):∀ z ∈ fM l,AX z:=by
 induction l with
 |nil=>rw [fM];simp
 |cons y ys ih=>
  intro z hz
  rw [fM,List.mem_append] at hz
  rcases hz with hz|hz
  ·exact h y List.mem_cons_self z hz
  ·exact ih (fun w hw=>h w (List.mem_cons_of_mem _ hw)) z hz
theorem SG (t:ST):AX t→∀ z ∈ pF t,AX z:=by
 refine TA (P:=fun t=>AX t→∀ z ∈ pF t,AX z) (fun t i1 i2 ha=>?_) t
 cases ha with
 |mk _ h1 h2 hb he=>
  have g1:=vF t.b (fun y hy=>i1 y hy (hb y hy))
  have g2:=vF t.e (fun y hy=>i2 y hy (he y hy))
  rw [xA]
  rcases uK t.kd t.va t.bx t.x.fold (fM t.b) (fM t.e) with ⟨h,_⟩|⟨h,_⟩|h|⟨h,_⟩
  ·rw [h];exact g1
  ·rw [h];exact g2
  ·rw [h];simp
  ·rw [h]
   intro z hz
   rw [List.mem_singleton] at hz
   subst hz
   exact .mk _ (X.rZ _ h1) (Nat.le_trans (X.vI _) h2) g1 g2
theorem PX (l:List ST) (h:∀ y ∈ l,AX y):∀ z ∈ fM l,AX z:=vF l (fun y hy=>SG y (h y hy))
end Go.Proofs.Ytodhbeeibagiaaa.PA

namespace Go.Proofs.Ytodhbeeibagiaaa.PA
open Go.RowKit Go.Proofs.YtodhbeeibagiaaaW.PrintWords Go.Proofs.YtodhbeeibagiaaaW.PrintMore Go.Proofs.Ytodhbeeibagiaaa.Core
theorem DI {boxes:Int} {nv nb ne nd no:Bool} {va bx op n op' n':Int} {la la':List S32} {lb le lb' le':Nat} (h:lQ boxes nv nb ne nd no va bx op n la lb le=true)
  (h1:vx 5 op n la=true→vx 5 op' n' la'=true) (h2:nO op n la=true→nO op' n' la'=true) (h3:lb=0→lb'=0) (h4:le=0→le'=0):lQ boxes nv nb ne nd no va bx op' n' la' lb' le'=true:=by
 unfold lQ at h ⊢
 simp only [Bool.and_eq_true,Bool.or_eq_true,beq_iff_eq] at h ⊢
 refine ⟨h.1,h.2.1,?_,h.2.2.2.1.imp id h3,h.2.2.2.2.imp id h4⟩
 have h5:=h.2.2.1
 cases ne
 ·exact h2 h5
 ·exact h1 h5
theorem RL {boxes kd va bx op n op' n':Int} {la la':List S32} {lb le lb' le':Nat} (h:xM boxes kd va bx op n la lb le=true)
  (h1:vx 5 op n la=true→vx 5 op' n' la'=true) (h2:nO op n la=true→nO op' n' la'=true) (h3:lb=0→lb'=0) (h4:le=0→le'=0):xM boxes kd va bx op' n' la' lb' le'=true:=by
 unfold xM at h ⊢
 repeat' split at h
 all_goals first
  |(cases h;done)
  |(rename_i h0;rw [if_pos h0];exact DI h h1 h2 h3 h4)
  |skip
 all_goals (simp_all;try exact DI h h1 h2 h3 h4)
theorem uW (boxes:Int) (d:Nat) (l:List ST) (hl:okL boxes d (dW l)=true) (h:∀ t ∈ l,iM boxes d (pO t)=true→okL boxes d (dW (pF t))=true):okL boxes d (dW (fM l))=true:=by
 induction l with
 |nil=>rw [fM];exact hl
 |cons y ys ih=>
  rw [dW] at hl
  have hl':(iM boxes d (pO y) && okL boxes d (dW ys))=true:=hl
  rw [Bool.and_eq_true] at hl'
  rw [fM,rE,NP,Bool.and_eq_true]
  exact ⟨h y List.mem_cons_self hl'.1,ih hl'.2 (fun z hz=>h z (List.mem_cons_of_mem _ hz))⟩
theorem EX {l:List ST} (h:(dW l).length=0):(dW (fM l)).length=0:=by
 rw [iW] at h
 rw [List.eq_nil_of_length_eq_zero h,fM,dW]
 rfl
theorem NQ (boxes:Int):∀ (d:Nat) (t:ST),AX t→iM boxes d (pO t)=true→okL boxes d (dW (pF t))=true:=by
 have st:∀ t:ST,AX t→stS boxes (pO t)=true→stS boxes (pO ⟨t.kd,t.va,t.bx,t.x.fold,fM t.b,fM t.e⟩)=true:=by
  intro t ha h
  cases ha with
  |mk _ h1 h2 hb he=>
   rw [sQ] at h ⊢
   unfold stS at h ⊢
   refine RL h (fun _=>?_) (fun hp=>?_) EX EX
   ·exact (OA t.x.fold 5 (X.rZ _ h1)).trans (decide_eq_true (Nat.le_trans (X.vI _) h2))
   ·replace hp:nO (emb t.x).f0 (emb t.x).f1 (emb t.x).f2=true:=hp
    show nO (emb t.x.fold).f0 (emb t.x.fold).f1 (emb t.x.fold).f2=true
    revert hp h1
    generalize t.x=x
    intro h1 hp
    cases x with
    |num n=>exact hp
    |var v=>
     simp [nO,emb] at hp
    |bin o p q=>
     simp [nO,emb] at hp
 intro d
 induction d with
 |zero=>
  intro t ha h
  have h':(stS boxes (pO t) && !oF (pO t))=true:=h
  rw [Bool.and_eq_true] at h'
  have hb:¬ ((pO t).f0=2∨(pO t).f0=3):=fun e=>by
   have:=(pG _).mpr e
   rw [this] at h'
   cases h'.2
  rw [sQ] at hb
  have s2:=st t ha h'.1
  rw [xA]
  rcases uK t.kd t.va t.bx t.x.fold (fM t.b) (fM t.e) with ⟨_,e⟩|⟨_,e⟩|e|⟨e,_⟩
  ·exact absurd (.inl e) hb
  ·exact absurd (.inl e) hb
  ·rw [e,dW];rfl
  ·rw [e,dW,dW]
   unfold okL
   simp only [List.all_cons,List.all_nil,Bool.and_true,iM,Bool.and_eq_true]
   refine ⟨s2,?_⟩
   rw [sQ]
   show (!(t.kd == 2 || t.kd == 3))=true
   simpa using hb
 |succ d ih=>
  intro t ha h
  have h':(stS boxes (pO t) && (!oF (pO t) || (okL boxes d (pO t).f4 && okL boxes d (pO t).f5)))=true:=h
  rw [Bool.and_eq_true] at h'
  have s2:=st t ha h'.1
  have hblk:oF (pO t)=true→okL boxes d (dW (fM t.b))=true∧okL boxes d (dW (fM t.e))=true:=by
   intro hb
   have h2:=h'.2
   rw [hb,sQ] at h2
   simp only [Bool.not_true,Bool.false_or,Bool.and_eq_true] at h2
   cases ha with
   |mk _ _ _ hb he=>exact ⟨uW boxes d _ h2.1 (fun y hy=>ih y (hb y hy)),uW boxes d _ h2.2 (fun y hy=>ih y (he y hy))⟩
  have hk:t.kd=2→oF (pO t)=true:=fun e=>(pG _).mpr (.inl (by rw [sQ];exact e))
  rw [xA]
  rcases uK t.kd t.va t.bx t.x.fold (fM t.b) (fM t.e) with ⟨e,e2⟩|⟨e,e2⟩|e|⟨e,_⟩
  ·rw [e];exact MB (hblk (hk e2)).1
  ·rw [e];exact MB (hblk (hk e2)).2
  ·rw [e,dW];rfl
  ·rw [e,dW,dW]
   unfold okL
   simp only [List.all_cons,List.all_nil,Bool.and_true,iM,Bool.and_eq_true,Bool.or_eq_true]
   refine ⟨s2,?_⟩
   cases hb:oF (pO t) with
   |false=>
    left
    rw [sQ] at hb
    rw [sQ]
    replace hb:(t.kd == 2 || t.kd == 3)=false:=hb
    show (!(t.kd == 2 || t.kd == 3))=true
    rw [hb]
    rfl
   |true=>
    right
    have:=hblk hb
    rw [sQ]
    exact this
theorem TM (boxes:Int) (d:Nat) (l:List ST) (ha:∀ t ∈ l,AX t) (h:okL boxes d (dW l)=true):okL boxes d (dW (fM l))=true:=
 uW boxes d l h (fun t ht=>NQ boxes d t (ha t ht))
theorem TP (boxes:Int) (l:List ST) (ha:∀ t ∈ l,AX t) (h:okT boxes (dW l)=true):okT boxes (dW (fM l))=true:=by
 rw [vK] at h ⊢
 have:=rT l
 unfold cT at this
 exact ⟨TM boxes 3 l ha h.1,by omega⟩
def tri (e:S32):Int × Int × List S32:=(e.f0,e.f1,e.f2)
theorem rF (a:Int):iL.f a=some (wrap32 a):=by
 unfold iL.f
 rw [aAl]
theorem rJ (a:Int):kH.f a=some (wrap32 a):=by
 have ht:Int.tmod a 4294967296=a % 4294967296∨(a < 0∧Int.tmod a 4294967296= -((-a) % 4294967296)):=by
  rcases Int.le_total 0 a with h|h
  ·exact .inl (Int.tmod_eq_emod_of_nonneg h)
  ·by_cases h0:a=0
   ·subst h0
    exact .inl rfl
   ·refine .inr ⟨by omega,?_⟩
    rw [← Int.tmod_eq_emod_of_nonneg (show 0≤-a by omega),Int.neg_tmod,Int.neg_neg]
 unfold kH.f
 generalize Int.tmod a 4294967296=m at ht ⊢
 unfold wrap32
 by_cases h1:m > 2147483647
 ·rw [if_pos h1,w64 (by omega) (by omega)]
  congr 1
  omega
 ·by_cases h2:m < -2147483648
  ·rw [if_neg h1,if_pos h2,w64 (by omega) (by omega)]
   congr 1
   omega
  ·rw [if_neg h1,if_neg h2]
   congr 1
   omega
theorem xU (b:Bool):mH.f b=some (if b=true then 1 else 0):=by
 unfold mH.f
 cases b <;> rfl
theorem wU (b:Bool):mY.f b=some (if b=true then 1 else 0):=by
 unfold mY.f
 cases b <;> rfl
theorem FJ (op a b:Int):nS.f op a b=some (ap op a b):=by
 unfold nS.f ap
 have hs:=aAm b
 by_cases h1:op=1
 ·rw [if_pos h1,if_pos h1]
 rw [if_neg h1,if_neg h1]
 by_cases h2:op=2
 ·rw [if_pos h2,if_pos h2]
 rw [if_neg h2,if_neg h2]
 by_cases h3:op=3
 ·rw [if_pos h3,if_pos h3]
 rw [if_neg h3,if_neg h3]
 by_cases h4:op=4
 ·rw [if_pos h4,if_pos h4,xU]
  simp
 rw [if_neg h4,if_neg h4]
 by_cases h5:op=5
 ·rw [if_pos h5,if_pos h5,xU]
  simp
 rw [if_neg h5,if_neg h5]
 by_cases h6:op=6
 ·rw [if_pos h6,if_pos h6,if_pos hs.1,rF,Option.bind_some]
 rw [if_neg h6,if_neg h6]
 by_cases h7:op=7
 ·rw [if_pos h7,if_pos h7,if_pos hs.1]
 rw [if_neg h7,if_neg h7]
 by_cases h8:op=8
 ·rw [if_pos h8,if_pos h8,rF,Option.bind_some,uP]
 rw [if_neg h8,if_neg h8]
 by_cases h9:op=9
 ·rw [if_pos h9,if_pos h9,rF,Option.bind_some,uP]
 rw [if_neg h9,if_neg h9]
 by_cases j3:op=10
 ·rw [if_pos j3,if_pos j3,rF,Option.bind_some,uP]
 rw [if_neg j3,if_neg j3]
 by_cases j4:op=11
 ·rw [if_pos j4,if_pos j4]
  by_cases hb:b=0
  ·rw [if_pos hb,if_pos hb]
  ·rw [if_neg hb,if_neg hb,rF,Option.bind_some,uP]
 rw [if_neg j4,if_neg j4]
 by_cases hb:b=0
 ·rw [if_pos hb,if_pos hb]
 ·rw [if_neg hb,if_neg hb]
theorem FV (op a b:Int) (ho:1≤op∧op≤12) (ha:vw a=true) (hb:vw b=true):EvP (fun k=>fT.f k op a b) (·=(ap op a b,true)):=by
  have hs:=aAm b
  unfold fT.f ap
  refine EvP.gQ (vZ op) (EvP.yes (by simp;exact ho) (EvP.gQ (uL a) (EvP.yes ha (EvP.gQ (uL b) ?_))))
  rw [hb]
  refine EvP.step (fun k=>fT.j0.eq_2 (k:=k) ..) (EvP.no (by simp) ?_)
  refine EvP.ite (fun h=>EvP.ret (by rw [if_pos h])) (fun h=>?_)
  rw [if_neg h]
  refine EvP.ite (fun h=>EvP.ret (by rw [if_pos h])) (fun h=>?_)
  rw [if_neg h]
  refine EvP.ite (fun h=>EvP.ret (by rw [if_pos h])) (fun h=>?_)
  rw [if_neg h]
  refine EvP.ite (fun h=>EvP.gQ (wU _) (EvP.ret (by rw [if_pos h];simp))) (fun h=>?_)
  rw [if_neg h]
  refine EvP.ite (fun h=>EvP.gQ (wU _) (EvP.ret (by rw [if_pos h];simp))) (fun h=>?_)
  rw [if_neg h]
  refine EvP.ite (fun h=>?_) (fun h=>?_)
  · rw [if_pos h]
    unfold mE.f
    rw [if_neg (by simp),if_pos hs.1,rJ,Option.bind_some]
    exact EvP.gQ rfl (EvP.ret rfl)
  rw [if_neg h]
  refine EvP.ite (fun h=>?_) (fun h=>?_)
  · rw [if_pos h]
    unfold mE.f
    rw [if_pos rfl,if_pos hs.1]
    exact EvP.gQ rfl (EvP.ret rfl)
  rw [if_neg h]
  refine EvP.ite (fun h=>EvP.gQ (rJ _) (EvP.ret (by rw [if_pos h,uP]))) (fun h=>?_)
  rw [if_neg h]
  refine EvP.ite (fun h=>EvP.gQ (rJ _) (EvP.ret (by rw [if_pos h,uP]))) (fun h=>?_)
  rw [if_neg h]
  refine EvP.ite (fun h=>EvP.gQ (rJ _) (EvP.ret (by rw [if_pos h,uP]))) (fun h=>?_)
  rw [if_neg h]
  refine EvP.ite (fun h=>?_) (fun h=>?_)
  · rw [if_pos h]
    unfold oH.f
    by_cases hz:b=0
    · rw [if_pos hz,if_pos hz]
      exact EvP.gQ rfl (EvP.ret rfl)
    · rw [if_neg hz,if_neg hz,rJ,Option.bind_some,uP]
      exact EvP.gQ rfl (EvP.ret rfl)
  rw [if_neg h]
  unfold oI.f
  by_cases hz:b=0
  · rw [if_pos hz,if_pos hz]
    exact EvP.gQ rfl (EvP.ret rfl)
  · rw [if_neg hz,if_neg hz]
    exact EvP.gQ rfl (EvP.ret rfl)
theorem KM {x:X} (h:x.ok):(emb x).f0=0 ↔ ∃ n,x= .num n:=by
 cases x with
 |num n=>exact ⟨fun _=>⟨n,rfl⟩,fun _=>rfl⟩
 |var v=>
  refine ⟨fun e=>?_,fun ⟨n,e⟩=>by cases e⟩
  simp [emb] at e
 |bin op a b=>
  refine ⟨fun e=>?_,fun ⟨n,e⟩=>by cases e⟩
  have e:op=0:=e
  have ho:=h.1
  omega
theorem rW:∀ x:X,x.ok→EvP (fun k=>bZ.f k (emb x).f0 (emb x).f1 (emb x).f2) (·=tri (emb x.fold))
  | .num n,h=>EvP.step (fun k=>bZ.f.eq_2 (k:=k) ..) (EvP.yes rfl (EvP.ret rfl))
  | .var v,h=>EvP.step (fun k=>bZ.f.eq_2 (k:=k) ..) (EvP.yes rfl (EvP.ret rfl))
  | .bin op a b,h=>by
    have ha:=X.rZ a h.2.1
    have hb:=X.rZ b h.2.2
    have he:(X.bin op a b).fold=X.uZ op a.fold b.fold:=rfl
    rw [he]
    refine EvP.step (fun k=>bZ.f.eq_2 (k:=k) ..) (EvP.no (by simp [emb]) (EvP.yes (by simp [emb]) ?_))
    refine EvP.fD (rW a h.2.1) (EvP.yes (by simp [emb]) (EvP.fD (rW b h.2.2) ?_))
    generalize a.fold=x at ha ⊢
    generalize b.fold=y at hb ⊢
    simp only [tri]
    have stay:(¬ ∃ m n,x= .num m∧y= .num n)→X.uZ op x y= .bin op x y:=fun hn=>X.LD fun m n e1 e2=>absurd ⟨m,n,e1,e2⟩ hn
    refine EvP.ite (fun hx=>?_) (fun hx=>?_)
    · obtain ⟨m,rfl⟩:=(KM ha).1 hx
      refine EvP.step (fun k=>bZ.j0.eq_2 (k:=k) ..) (EvP.ite (fun hy=>?_) (fun hy=>EvP.ret ?_))
      · obtain ⟨n,rfl⟩:=(KM hb).1 (by simpa using hy)
        refine EvP.gQ (FJ _ _ _) ?_
        simp only [emb,X.uZ]
        refine EvP.ite (fun h1=>EvP.ite (fun h2=>EvP.ret ?_) (fun h2=>EvP.ret ?_)) (fun h1=>EvP.ret ?_)
        · rw [if_pos ⟨h1,h2⟩]
          rfl
        · rw [if_neg (fun e=>h2 e.2)]
          rfl
        · rw [if_neg (fun e=>h1 e.1)]
          rfl
      · rw [stay (fun ⟨m',n,_,e⟩=>hy (by rw [e];rfl))]
        simp only [emb,BQ]
    · refine EvP.step (fun k=>bZ.j0.eq_2 (k:=k) ..) (EvP.no (by simp) (EvP.ret ?_))
      rw [stay (fun ⟨m',n,e,_⟩=>hx (by rw [e];rfl))]
      simp only [emb,BQ]
theorem tZ:∀ x:X,x.ok→EvP (fun k=>eF.f k (emb x).f0 (emb x).f1 (emb x).f2) (·=tri (emb x.fold))
  | .num n,h=>EvP.step (fun k=>eF.f.eq_2 (k:=k) ..) (EvP.yes rfl (EvP.gQ rfl (EvP.ret rfl)))
  | .var v,h=>EvP.step (fun k=>eF.f.eq_2 (k:=k) ..) (EvP.yes rfl (EvP.gQ rfl (EvP.ret rfl)))
  | .bin op a b,h=>by
    have ha:=X.rZ a h.2.1
    have hb:=X.rZ b h.2.2
    have he:(X.bin op a b).fold=X.uZ op a.fold b.fold:=rfl
    rw [he]
    refine EvP.step (fun k=>eF.f.eq_2 (k:=k) ..) (EvP.no (by simp [emb]) (EvP.yes (by simp [emb]) ?_))
    refine EvP.fD (tZ a h.2.1) (EvP.yes (by simp [emb]) (EvP.fD (tZ b h.2.2) ?_))
    generalize a.fold=x at ha ⊢
    generalize b.fold=y at hb ⊢
    simp only [tri]
    have stay:(¬ ∃ m n,x= .num m∧y= .num n)→X.uZ op x y= .bin op x y:=fun hn=>X.LD fun m n e1 e2=>absurd ⟨m,n,e1,e2⟩ hn
    refine EvP.ite (fun hx=>?_) (fun hx=>?_)
    · obtain ⟨m,rfl⟩:=(KM ha).1 hx
      refine EvP.step (fun k=>eF.j0.eq_2 (k:=k) ..) (EvP.ite (fun hy=>?_) (fun hy=>EvP.gQ rfl (EvP.ret ?_)))
      · obtain ⟨n,rfl⟩:=(KM hb).1 (by simpa using hy)
        have hm:0≤m∧m≤99999:=ha
        have hn:0≤n∧n≤99999:=hb
        refine EvP.fD (FV _ _ _ h.1 (WJ.2 (by simp only [emb];omega)) (WJ.2 (by simp only [emb];omega))) (EvP.gQ (tC _ _ _) ?_)
        simp only [emb,X.uZ]
        refine EvP.ite (fun h1=>EvP.gQ rfl (EvP.ret ?_)) (fun h1=>EvP.gQ rfl (EvP.ret ?_))
        · rw [Bool.and_eq_true] at h1
          rw [if_pos ⟨of_decide_eq_true h1.1,of_decide_eq_true h1.2⟩]
          rfl
        · rw [Bool.and_eq_true] at h1
          rw [if_neg (fun e=>h1 ⟨decide_eq_true e.1,decide_eq_true e.2⟩)]
          rfl
      · rw [stay (fun ⟨m',n,_,e⟩=>hy (by rw [e];rfl))]
        simp only [emb,BQ]
    · refine EvP.step (fun k=>eF.j0.eq_2 (k:=k) ..) (EvP.no (by simp) (EvP.gQ rfl (EvP.ret ?_)))
      rw [stay (fun ⟨m',n,e,_⟩=>hx (by rw [e];rfl))]
      simp only [emb,BQ]
theorem FB (o n:Int):EvP (fun k=>bI.f k o n ([]:List S32) o n []) (·=true):=by
  refine EvP.step (fun k=>bI.f.eq_2 (k:=k) ..) (EvP.yes rfl (EvP.yes rfl ?_))
  refine EvP.step (fun k=>bI.j0.eq_2 (k:=k) ..) (EvP.no (by simp) ?_)
  exact EvP.step (fun k=>bI.l0.eq_2 (k:=k) ..) (EvP.no (by simp) (EvP.ret rfl))
theorem wQ:∀ x:X,EvP (fun k=>bI.f k (emb x).f0 (emb x).f1 (emb x).f2 (emb x).f0 (emb x).f1 (emb x).f2) (·=true)
  | .num n=>FB _ _
  | .var v=>FB _ _
  | .bin op a b=>by
    refine EvP.step (fun k=>bI.f.eq_2 (k:=k) ..) (EvP.yes rfl (EvP.yes rfl ?_))
    refine EvP.step (fun k=>bI.j0.eq_2 (k:=k) ..) (EvP.no (by simp) ?_)
    simp only [emb]
    refine EvP.step (fun k=>bI.l0.eq_2 (k:=k) ..) (EvP.yes (by simp) (EvP.yes (by omega) (EvP.yes (by simp) ?_)))
    rw [TV]
    refine EvP.fD (wQ a) (EvP.yes rfl ?_)
    rw [w64 (by omega) (by omega),show (0:Int) + 1=1 from rfl]
    refine EvP.step (fun k=>bI.l0.eq_2 (k:=k) ..) (EvP.yes (by simp) (EvP.yes (by omega) (EvP.yes (by simp) ?_)))
    rw [TW]
    refine EvP.fD (wQ b) (EvP.yes rfl ?_)
    rw [w64 (n:=1 + 1) (by omega) (by omega),show (1:Int) + 1=2 from rfl]
    exact EvP.step (fun k=>bI.l0.eq_2 (k:=k) ..) (EvP.no (by simp) (EvP.ret rfl))
end Go.Proofs.Ytodhbeeibagiaaa.PA

namespace Go.Proofs.Ytodhbeeibagiaaa.PA
open Go.RowKit Go.Proofs.YtodhbeeibagiaaaW.PrintWords Go.Proofs.Ytodhbeeibagiaaa.Core
theorem OB (x y:Int) (hx:0≤x) (j3:x < 4611686018427387904) (hy:0≤y) (j4:y < 4611686018427387904):0≤Go.bits .xor .i64 x y:=by
 obtain ⟨a,rfl⟩:=Int.eq_ofNat_of_zero_le hx
 obtain ⟨b,rfl⟩:=Int.eq_ofNat_of_zero_le hy
 have ha:a < 2 ^ 62:=by omega
 have hb:b < 2 ^ 62:=by omega
 have hx:=Nat.xor_lt_two_pow ha hb
 simp only [Go.bits,BitVec.ofInt_natCast,BitVec.toNat_xor,BitVec.toNat_ofNat]
 rw [show IntKind.i64.bits=64 from rfl,Nat.mod_eq_of_lt (a:=a) (by omega),Nat.mod_eq_of_lt (a:=b) (by omega),IntKind.wrap_i64]
 omega
def Bytes (b:List Int):Prop:=b.length≤2000∧∀ x ∈ b,0≤x∧x≤255
theorem Bytes.rd {b:List Int} (h:Bytes b) (i:Int) (h0:0≤i) (h1:i < b.length):0≤Go.Proofs.YtodhbeeibagiaaaW.PrintWords.rd b i∧Go.Proofs.YtodhbeeibagiaaaW.PrintWords.rd b i≤255:=h.2 _ (TY b i h0 h1)
theorem NR (l:List Int) (hl:l.length≤140737488351232) (hw:∀ x ∈ l,(Lit.int .u8 x).wf=true):∃ b,mZ.f l=some (b,0)∧Bytes b:=by
 have hb:∀ x ∈ l,0≤x∧x≤255:=by
  intro x hx
  have h:=hw x hx
  simp only [Lit.wf,Bool.and_eq_true,decide_eq_true_eq] at h
  have e1:IntKind.u8.min=0:=by decide
  have e2:IntKind.u8.max=255:=by decide
  omega
 unfold mZ.f
 by_cases h:(l.length:Int) > 2000
 ·rw [if_pos h,if_pos (by omega)]
  exact ⟨_,rfl,by rw [List.length_take];omega,fun x hx=>hb x (List.mem_of_mem_take hx)⟩
 ·rw [if_neg h]
  exact ⟨_,rfl,by omega,hb⟩
def aAs (p n:Int) (r:Int × Int):Prop:=r.2=p + 1∧0≤r.1∧(1≤n→r.1 < n)∧(n < 1→r.1=0)
theorem aAh (b:List Int) (hb:Bytes b) (p n:Int) (h0:0≤p) (h1:p≤1000000000000):EvP (fun k=>aH.f k b p n) (aAs p n):=by
 unfold aH.f
 rw [w64 (n:=p + 1) (by omega) (by omega)]
 have hz:EvP (fun k=>aH.j0 k n true b (p + 1)) (fun r=>r.2=p + 1∧r.1=0):=
  EvP.step (fun k=>aH.j0.eq_2 (k:=k) ..) (EvP.yes rfl (EvP.ret ⟨rfl,rfl⟩))
 refine EvP.ite (fun h=>?_) (fun h=>?_)
 ·exact hz.mono fun r hr=>⟨hr.1,by omega,fun _=>by omega,fun _=>hr.2⟩
 ·cases hl:((b.length:Int) == 0) with
  |true=>exact hz.mono fun r hr=>⟨hr.1,by omega,fun _=>by omega,fun _=>hr.2⟩
  |false=>
   have hl':(b.length:Int)≠0:=by simpa using hl
   have hbl:=hb.1
   refine EvP.step (fun k=>aH.j0.eq_2 (k:=k) ..) (EvP.no (by decide) ?_)
   rw [w64 (n:=p + 1 - 1) (by omega) (by omega),show p + 1 - 1=p by omega]
   refine EvP.ite (fun h2=>?_) (fun h2=>?_)
   ·refine EvP.yes h0 (EvP.no (by omega) (EvP.ret ?_))
    have hr:=hb.rd p h0 h2
    rw [w64 (by omega) (by omega)]
    have ht:=BK hr.1 (show 0 < n by omega)
    exact ⟨rfl,ht.1,fun _=>ht.2,fun _=>by omega⟩
   ·have t1:=BK h0 (show (0:Int) < b.length by omega)
    have t2:=BK (show 0≤p * 7 + 3 by omega) (show (0:Int) < b.length by omega)
    rw [w64 (n:=p * 7) (by omega) (by omega),w64 (n:=p * 7 + 3) (by omega) (by omega)]
    refine EvP.no hl' (EvP.yes t1.1 (EvP.yes t1.2 (EvP.yes t2.1 (EvP.yes t2.2 (EvP.no (by omega) (EvP.ret ?_))))))
    have r1:=hb.rd _ t1.1 t1.2
    have r2:=hb.rd _ t2.1 t2.2
    have hd0:0≤Int.tdiv p b.length:=Int.tdiv_nonneg h0 (by omega)
    have hd1:Int.tdiv p b.length≤p:=by
     rw [Int.tdiv_eq_ediv_of_nonneg h0]
     exact Int.ediv_le_self _ h0
    generalize Go.Proofs.YtodhbeeibagiaaaW.PrintWords.rd b (Int.tmod p b.length)=x1 at *
    generalize Go.Proofs.YtodhbeeibagiaaaW.PrintWords.rd b (Int.tmod (p * 7 + 3) b.length)=x2 at *
    generalize Int.tdiv p b.length=q at *
    simp only [w64 (n:=x1) (by omega) (by omega),w64 (n:=x2) (by omega) (by omega),w64 (n:=q) (by omega) (by omega)]
    simp only [w64 (n:=x1 * 131) (by omega) (by omega),w64 (n:=x2 * 1117) (by omega) (by omega),w64 (n:=p * 29) (by omega) (by omega),w64 (n:=q * 53) (by omega) (by omega)]
    simp only [w64 (n:=x1 * 131 + x2 * 1117) (by omega) (by omega)]
    simp only [w64 (n:=x1 * 131 + x2 * 1117 + p * 29) (by omega) (by omega)]
    simp only [w64 (n:=x1 * 131 + x2 * 1117 + p * 29 + q * 53) (by omega) (by omega)]
    have j3:0≤x1 * 131 + x2 * 1117 + p * 29 + q * 53:=by omega
    have j4:x1 * 131 + x2 * 1117 + p * 29 + q * 53 < 1000000000000000:=by omega
    generalize x1 * 131 + x2 * 1117 + p * 29 + q * 53=s at *
    have hv0:0≤Int.tdiv s 64:=Int.tdiv_nonneg j3 (by omega)
    have hv1:Int.tdiv s 64≤s:=by
     rw [Int.tdiv_eq_ediv_of_nonneg j3]
     exact Int.ediv_le_self _ j3
    rw [w64 (n:=Int.tdiv s 64) (by omega) (by omega)]
    have hx:=OB s (Int.tdiv s 64) j3 (by omega) hv0 (by omega)
    have ht:=BK hx (show 0 < n by omega)
    exact ⟨rfl,ht.1,fun _=>ht.2,fun _=>by omega⟩
theorem fZ {β:Type} {b:List Int} (hb:Bytes b) {p n:Int} (h0:0≤p) (h1:p≤1000000000000) {f:Nat→Int × Int→Option β} {R:β→Prop}
  (k:∀ v,0≤v→(1≤n→v < n)→(n < 1→v=0)→EvP (fun m=>f m (v,p + 1)) R):EvP (fun m=>(aH.f m b p n).bind (f m)) R:=
 EvP.bind (aAh b hb p n h0 h1) (fun r hr=>by
  obtain ⟨v,q⟩:=r
  obtain ⟨e,k0,k1,k2⟩:=hr
  obtain rfl:q=p + 1:=e
  exact k v k0 k1 k2)
theorem LP (b:List Int) (hb:Bytes b) (p:Int) (h0:0≤p) (h1:p≤900000000000):EvP (fun k=>iT.f k b p) (fun r=>r.2=p + 1∧1≤r.1∧r.1≤12):=by
 unfold iT.f
 refine fZ hb h0 (by omega) fun v v0 v1 _=>?_
 have:=v1 (by omega)
 dsimp only
 rw [w64 (by omega) (by omega)]
 exact EvP.ret (by dsimp only;omega)
theorem ET (b:List Int) (hb:Bytes b) (p:Int) (h0:0≤p) (h1:p≤900000000000):EvP (fun k=>gV.f k b p) (fun r=>p≤r.2.2.2∧r.2.2.2≤p + 2∧r.2.2.1.length=0):=by
 unfold gV.f
 refine fZ hb h0 (by omega) fun v v0 v1 _=>?_
 dsimp only
 refine EvP.ite (fun h=>?_) (fun h=>?_)
 ·refine fZ hb (by omega) (by omega) fun v2 w0 w1 _=>?_
  exact EvP.gQ rfl (EvP.ret (by simp;omega))
 ·refine EvP.ite (fun h=>?_) (fun h=>?_)
  ·refine EvP.gQ rfl (fZ hb (by omega) (by omega) fun v2 w0 w1 _=>?_)
   have:=w1 (by omega)
   exact EvP.yes w0 (EvP.yes (by simp;omega) (EvP.gQ rfl (EvP.ret (by simp;omega))))
  ·refine fZ hb (by omega) (by omega) fun v2 w0 w1 _=>?_
   exact EvP.gQ rfl (EvP.ret (by simp;omega))
theorem NI (b:List Int) (hb:Bytes b):∀ (d:Nat) (p:Int),d≤10→0≤p→p + 4 ^ (d + 1)≤800000000000→EvP (fun k=>bJ.f k b p (d:Int)) (fun r=>p≤r.2.2.2∧r.2.2.2≤p + 4 ^ (d + 1)∧r.2.2.1.length≤2):=by
 intro d
 have leaf:∀ (d':Int) (q:Int) (p:Int) (m:Nat),0≤q→q≤800000000000→p≤q→q + 2≤p + 4 ^ (m + 1)→EvP (fun k=>bJ.j0 k d' true b q) (fun r=>p≤r.2.2.2∧r.2.2.2≤p + 4 ^ (m + 1)∧r.2.2.1.length≤2):=by
  intro d' q p m h0 h1 h2 h3
  refine EvP.step (fun k=>bJ.j0.eq_2 (k:=k) ..) (EvP.yes rfl ?_)
  refine EvP.bind (ET b hb q h0 (by omega)) fun r hr=>?_
  exact EvP.ret (by dsimp only;omega)
 induction d with
 |zero=>
  intro p hd h0 h1
  refine EvP.step (fun k=>bJ.f.eq_2 (k:=k) ..) (EvP.yes (by omega) ?_)
  exact leaf _ p p 0 h0 (by omega) (by omega) (by omega)
 |succ d ih=>
  intro p hd h0 h1
  have h4:(4:Int) ^ (d + 1 + 1)=4 * 4 ^ (d + 1):=by rw [Int.pow_succ,Int.mul_comm]
  have h5:(4:Int)≤4 ^ (d + 1):=by
   have:0 < (4:Int) ^ d:=Int.pow_pos (by omega)
   rw [Int.pow_succ]
   omega
  refine EvP.step (fun k=>bJ.f.eq_2 (k:=k) ..) (EvP.ite (fun h=>?_) (fun h=>?_))
  ·exact leaf _ p p (d + 1) h0 (by omega) (by omega) (by omega)
  ·refine fZ hb h0 (by omega) fun v v0 v1 _=>?_
   dsimp only
   cases hv:(v == 0) with
   |true=>exact leaf _ (p + 1) p (d + 1) (by omega) (by omega) (by omega) (by omega)
   |false=>
    refine EvP.step (fun k=>bJ.j0.eq_2 (k:=k) ..) (EvP.no (by simp) ?_)
    rw [w64 (by omega) (by omega),show ((d + 1:Nat):Int) - 1=(d:Int) by omega]
    refine EvP.bind (LP b hb (p + 1) (by omega) (by omega)) fun r hr=>?_
    refine EvP.bind (ih r.2 (by omega) (by omega) (by omega)) fun s hs=>?_
    refine EvP.bind (ih s.2.2.2 (by omega) (by omega) (by omega)) fun u hu=>?_
    exact EvP.gQ rfl (EvP.ret (by simp;omega))
theorem pI (b:List Int) (hb:Bytes b) (d:Int) (p:Int) (hd0:0≤d) (hd:d≤5) (h0:0≤p) (h1:p≤700000000000):EvP (fun k=>bJ.f k b p d) (fun r=>p≤r.2.2.2∧r.2.2.2≤p + 4096∧r.2.2.1.length≤2):=by
 have hp:(4:Int) ^ (d.toNat + 1)≤4096:=by
  have:d.toNat≤5:=by omega
  have h2:4 ^ (d.toNat + 1)≤4 ^ 6:=Nat.pow_le_pow_right (by omega) (by omega)
  have h3:((4 ^ (d.toNat + 1):Nat):Int)≤4096:=by omega
  rw [Int.natCast_pow] at h3
  exact h3
 have h:=NI b hb d.toNat p (by omega) h0 (by omega)
 rw [Int.toNat_of_nonneg hd0] at h
 exact h.mono fun r hr=>by omega
def cB:Nat→Nat
 |0=>1
 |d + 1=>4 * cB d + 3
def pB:Nat→Nat
 |0=>5000
 |d + 1=>4 * pB d + 5000
theorem SQ {d:Nat} (h:d≤3):1≤cB d∧cB d≤127:=by
 match d,h with
 |0,_=>decide
 |1,_=>decide
 |2,_=>decide
 |3,_=>decide
theorem TT {d:Nat} (h:d≤3):5000≤pB d∧pB d≤425000:=by
 match d,h with
 |0,_=>decide
 |1,_=>decide
 |2,_=>decide
 |3,_=>decide
def DS (p:Int) (P C:Nat) (r:Int × Int × Int × Int × Int × (List (S32)) × (List (S35)) × (List (S35)) × Int):Prop:=
 p≤r.2.2.2.2.2.2.2.2∧r.2.2.2.2.2.2.2.2≤p + P∧cSs r.2.2.2.2.2.2.1 + cSs r.2.2.2.2.2.2.2.1≤C
def DL (p:Int) (P C:Nat) (r:List (S35) × Int):Prop:=p≤r.2∧r.2≤p + P∧cSs r.1≤C
theorem BS (b:List Int) (hb:Bytes b) (p:Int) (h0:0≤p) (h1:p≤600000000000):EvP (fun k=>gP.f k b p) (DS p 4100 0):=by
 unfold gP.f
 refine fZ hb h0 (by omega) fun v v0 v1 _=>?_
 refine fZ hb (by dsimp only;omega) (by dsimp only;omega) fun u u0 u1 _=>?_
 have:=u1 (by omega)
 dsimp only
 rw [w64 (by omega) (by omega)]
 refine EvP.bind (pI b hb _ _ (by omega) (by omega) (by omega) (by omega)) fun r hr=>EvP.ret ?_
 unfold DS
 simp only [rD]
 omega
theorem NK (b:List Int) (hb:Bytes b) (p a1:Int) (h0:0≤p) (h1:p≤500000000000):EvP (fun k=>gW.f k b p a1) (DS p 4200 0):=by
 unfold gW.f
 refine EvP.ite (fun h=>?_) (fun h=>?_)
 ·refine EvP.bind (BS b hb p h0 (by omega)) fun r hr=>EvP.ret ?_
  unfold DS at hr ⊢
  dsimp only
  omega
 ·refine fZ hb h0 (by omega) fun v v0 v1 _=>?_
  refine fZ hb (by dsimp only;omega) (by dsimp only;omega) fun u u0 u1 _=>?_
  dsimp only
  refine EvP.ite (fun h=>?_) (fun h=>?_)
  ·refine fZ hb (by omega) (by omega) fun w w0 w1 _=>?_
   have:=w1 (by omega)
   dsimp only
   rw [w64 (by omega) (by omega)]
   refine EvP.bind (pI b hb _ _ (by omega) (by omega) (by omega) (by omega)) fun r hr=>EvP.ret ?_
   unfold DS
   simp only [rD]
   omega
  ·refine fZ hb (by omega) (by omega) fun w w0 w1 _=>EvP.ret ?_
   unfold DS
   simp only [rD]
   omega
theorem LQ (b:List Int) (x1 x2:Int) (x4:Bool) (P C:Nat) (M:Int)
  (stmt:∀ p,0≤p→p≤M→EvP (fun k=>bH.f k b p x1 x2 x4) (DL p P C)) (n:Int):
  ∀ (r j:Nat) (l:List (S35)) (p:Int),(j:Int) + r=n→j + r≤100→cSs l + r * C≤1000000→0≤p→p + ((r * P:Nat):Int)≤M→
   EvP (fun k=>bU.l0 k x1 x2 n x4 l (j:Int) b p) (DL p (r * P) (cSs l + r * C)):=by
 intro r
 induction r with
 |zero=>
  intro j l p hj hr hl h0 h1
  refine EvP.step (fun k=>bU.l0.eq_2 (k:=k) ..) (EvP.no (by omega) (EvP.ret ?_))
  unfold DL
  dsimp only
  omega
 |succ r ih=>
  intro j l p hj hr hl h0 h1
  have e1:(r + 1) * P=r * P + P:=Nat.succ_mul r P
  have e2:(r + 1) * C=r * C + C:=Nat.succ_mul r C
  rw [e1] at h1 ⊢
  rw [e2] at hl ⊢
  refine EvP.step (fun k=>bU.l0.eq_2 (k:=k) ..) (EvP.yes (by omega) ?_)
  refine EvP.bind (stmt p h0 (by omega)) fun s hs=>?_
  obtain ⟨s0,s1,s2⟩:=hs
  have l1:=gI l
  have l2:=gI s.1
  have ha:=rR l s.1
  refine EvP.yes (by omega) ?_
  rw [w64 (by omega) (by omega)]
  refine (ih (j + 1) (l ++ s.1) s.2 (by omega) (by omega) (by omega) (by omega) (by omega)).mono fun a ha=>?_
  unfold DL at ha ⊢
  omega
theorem uJ (b:List Int) (x1 x2:Int) (x4:Bool) (P C:Nat) (M:Int)
  (stmt:∀ p,0≤p→p≤M→EvP (fun k=>bH.f k b p x1 x2 x4) (DL p P C)) (n:Int) (m:Nat) (j3:0≤n) (hn:n≤m) (hm:m≤100) (hC:m * C≤1000000) (p:Int) (h0:0≤p) (h1:p + ((m * P:Nat):Int)≤M):
  EvP (fun k=>bU.f k b p x1 x2 n x4) (DL p (m * P) (m * C)):=by
 have hnm:n.toNat≤m:=by omega
 have e1:n.toNat * P≤m * P:=Nat.mul_le_mul_right P hnm
 have e2:n.toNat * C≤m * C:=Nat.mul_le_mul_right C hnm
 refine EvP.step (fun k=>bU.f.eq_2 (k:=k) ..) ?_
 refine (LQ b x1 x2 x4 P C M stmt n n.toNat 0 [] p (by omega) (by omega) (by rw [rD];omega) h0 (by omega)).mono fun a ha=>?_
 unfold DL at ha ⊢
 rw [rD] at ha
 omega
theorem LU (b:List Int) (hb:Bytes b) (x1 a2:Int) (x4:Bool) (P C:Nat) (hP:P≤1000000) (hC:C≤1000) (M:Int) (hM:M≤300000000000)
  (stmt:∀ p,0≤p→p≤M→EvP (fun k=>bH.f k b p x1 (wrap64 (a2 - 1)) x4) (DL p P C)) (p:Int) (h0:0≤p) (h1:p + 10000000≤M):
  EvP (fun k=>eP.f k b p x1 a2 x4) (DS p (4 * P + 4200) (4 * C)):=by
 refine EvP.step (fun k=>eP.f.eq_2 (k:=k) ..) ?_
 refine fZ hb h0 (by omega) fun v v0 v1 _=>?_
 have:=v1 (by omega)
 dsimp only
 rw [w64 (n:=1 + v) (by omega) (by omega)]
 refine EvP.bind (pI b hb _ _ (by omega) (by omega) (by omega) (by omega)) fun r hr=>?_
 refine fZ hb (by omega) (by omega) fun u u0 u1 _=>?_
 have:=u1 (by omega)
 refine EvP.bind (uJ b x1 _ x4 P C M stmt u 2 u0 (by omega) (by omega) (by omega) _ (by dsimp only;omega) (by dsimp only;omega)) fun s hs=>?_
 obtain ⟨s0,s1,s2⟩:=hs
 dsimp only at s0 s1
 refine fZ hb (by omega) (by omega) fun w w0 w1 _=>?_
 have:=w1 (by omega)
 refine EvP.bind (uJ b x1 _ x4 P C M stmt w 2 w0 (by omega) (by omega) (by omega) _ (by dsimp only;omega) (by dsimp only;omega)) fun t ht=>EvP.ret ?_
 obtain ⟨t0,t1,t2⟩:=ht
 dsimp only at t0 t1
 unfold DS
 dsimp only
 omega
theorem NJ (b:List Int) (hb:Bytes b) (x1 a2:Int) (P C:Nat) (hP:P≤1000000) (hC:C≤1000) (M:Int) (hM:M≤300000000000)
  (stmt:∀ p,0≤p→p≤M→EvP (fun k=>bH.f k b p x1 (wrap64 (a2 - 1)) false) (DL p P C)) (p:Int) (h0:0≤p) (h1:p + 10000000≤M):
  EvP (fun k=>dX.f k b p x1 a2) (DL p (2 * P + 10) (2 * C + 3)):=by
 refine EvP.step (fun k=>dX.f.eq_2 (k:=k) ..) ?_
 refine fZ hb h0 (by omega) fun v v0 v1 _=>?_
 have:=v1 (by omega)
 refine EvP.bind (uJ b x1 _ false P C M stmt v 2 v0 (by omega) (by omega) (by omega) _ (by dsimp only;omega) (by dsimp only;omega)) fun s hs=>?_
 obtain ⟨s0,s1,s2⟩:=hs
 dsimp only at s0 s1
 refine EvP.gQ rfl (EvP.gQ rfl (EvP.gQ rfl (EvP.gQ rfl ?_)))
 refine fZ hb (by omega) (by omega) fun u u0 u1 _=>?_
 refine EvP.gQ rfl (EvP.gQ rfl (EvP.gQ rfl ?_))
 have l1:=gI s.1
 refine EvP.yes (by simp;omega) (EvP.gQ rfl (EvP.ret ?_))
 unfold DL
 simp only [cSs,cS,rR]
 omega
theorem EW (b:List Int) (hb:Bytes b) (x1 j3:Int) (x:Bool) (p:Int) (h0:0≤p) (h1:p≤300000000000):
  EvP (fun k=>bH.j2 k x1 j3 x b p) (DL p 4300 1):=by
 refine EvP.step (fun k=>bH.j2.eq_2 (k:=k) ..) (EvP.ite (fun h=>?_) (fun h=>EvP.ite (fun h=>EvP.ret ?_) (fun h=>?_)))
 ·refine EvP.bind (NK b hb p x1 h0 (by omega)) fun r hr=>EvP.ret ?_
  unfold DS at hr
  unfold DL
  simp only [cSs,cS]
  omega
 ·unfold DL
  simp only [cSs,cS]
  omega
 ·refine fZ hb h0 (by omega) fun u u0 u1 _=>?_
  have:=u1 (by omega)
  dsimp only
  rw [w64 (by omega) (by omega)]
  refine EvP.bind (pI b hb _ _ (by omega) (by omega) (by omega) (by omega)) fun r hr=>EvP.ret ?_
  unfold DL
  simp only [cSs,cS]
  omega
theorem EU (b:List Int) (hb:Bytes b):∀ (d:Nat) (a2:Int) (x1:Int) (x3:Bool) (p:Int),d≤3→a2=d→0≤p→p + (d:Int) * 20000000≤200000000000→EvP (fun k=>bH.f k b p x1 a2 x3) (DL p (pB d) (cB d)):=by
 intro d
 induction d with
 |zero=>
  intro a2 x1 x3 p hd ha h0 h1
  have j2:∀ (q j5:Int) (x:Bool),p≤q→q≤p + 1→EvP (fun k=>bH.j2 k x1 j5 x b q) (DL p (pB 0) (cB 0)):=fun q j5 x hq hq2=>(EW b hb x1 j5 x q (by omega) (by omega)).mono fun r hr=>by
   unfold DL at hr ⊢
   simp only [pB,cB]
   omega
  have pr:∀ q:Int,p≤q→q≤p + 1→EvP (fun k=>(aH.f k b q 3).bind fun j4=>((bJ.f k b j4.2 (wrap64 (1 + j4.1))).bind fun j3=>(some ((([(⟨7,0,0,(⟨j3.1,j3.2.1,j3.2.2.1⟩:S32),([]:List (S35)),([]:List (S35))⟩:S35)]:List (S35))),j3.2.2.2)))) (DL p (pB 0) (cB 0)):=by
   intro q hq hq2
   refine fZ hb (by omega) (by omega) fun u u0 u1 _=>?_
   have:=u1 (by omega)
   dsimp only
   rw [w64 (by omega) (by omega)]
   refine EvP.bind (pI b hb _ _ (by omega) (by omega) (by omega) (by omega)) fun r hr=>EvP.ret ?_
   unfold DL
   simp only [cSs,cS,pB,cB]
   omega
  have j1:∀ q:Int,p≤q→q≤p + 1→EvP (fun k=>bH.j1 k x1 a2 false b q) (DL p (pB 0) (cB 0)):=fun q hq hq2=>
   EvP.step (fun k=>bH.j1.eq_2 (k:=k) ..) (EvP.no Bool.false_ne_true (pr q hq hq2))
  have j0:∀ (q j5:Int) (x:Bool),p≤q→q≤p + 1→EvP (fun k=>bH.j0 k x1 a2 x3 j5 x b q) (DL p (pB 0) (cB 0)):=by
   intro q j5 x hq hq2
   refine EvP.step (fun k=>bH.j0.eq_2 (k:=k) ..) (EvP.ite (fun h=>?_) (fun h=>EvP.ite (fun h=>EvP.no (by omega) (pr q hq hq2)) (fun h=>EvP.ite (fun h=>EvP.no (by omega) (j1 q hq hq2)) (fun h=>EvP.ite (fun h=>j2 q _ _ hq hq2) (fun h=>EvP.ite (fun h=>j2 q _ _ hq hq2) (fun h=>j2 q _ _ hq hq2))))))
   refine EvP.bind (BS b hb q (by omega) (by omega)) fun r hr=>EvP.ret ?_
   unfold DS at hr
   unfold DL
   simp only [cSs,cS,pB,cB]
   omega
  refine EvP.step (fun k=>bH.f.eq_2 (k:=k) ..) (fZ hb h0 (by omega) fun u u0 u1 _=>?_)
  dsimp only
  exact EvP.ite (fun h=>j0 _ _ _ (by omega) (by omega)) (fun h=>j0 _ _ _ (by omega) (by omega))
 |succ d ih=>
  intro a2 x1 x3 p hd ha h0 h1
  have hc:=SQ (show d≤3 by omega)
  have hp:=TT (show d≤3 by omega)
  have ec:cB (d + 1)=4 * cB d + 3:=rfl
  have ep:pB (d + 1)=4 * pB d + 5000:=rfl
  have ew:wrap64 (a2 - 1)=(d:Int):=by
   rw [w64 (by omega) (by omega)]
   omega
  have stmt:∀ (x4:Bool) (p:Int),0≤p→p≤200000000000 - (d:Int) * 20000000→EvP (fun k=>bH.f k b p x1 (wrap64 (a2 - 1)) x4) (DL p (pB d) (cB d)):=fun x4 p h0 h1=>ih _ x1 x4 p (by omega) ew h0 (by omega)
  have j2:∀ (q j5:Int) (x:Bool),p≤q→q≤p + 1→EvP (fun k=>bH.j2 k x1 j5 x b q) (DL p (pB (d + 1)) (cB (d + 1))):=fun q j5 x hq hq2=>(EW b hb x1 j5 x q (by omega) (by omega)).mono fun r hr=>by
   unfold DL at hr ⊢
   omega
  have pr:∀ q:Int,p≤q→q≤p + 1→EvP (fun k=>(aH.f k b q 3).bind fun j4=>((bJ.f k b j4.2 (wrap64 (1 + j4.1))).bind fun j3=>(some ((([(⟨7,0,0,(⟨j3.1,j3.2.1,j3.2.2.1⟩:S32),([]:List (S35)),([]:List (S35))⟩:S35)]:List (S35))),j3.2.2.2)))) (DL p (pB (d + 1)) (cB (d + 1))):=by
   intro q hq hq2
   refine fZ hb (by omega) (by omega) fun u u0 u1 _=>?_
   have:=u1 (by omega)
   dsimp only
   rw [w64 (by omega) (by omega)]
   refine EvP.bind (pI b hb _ _ (by omega) (by omega) (by omega) (by omega)) fun r hr=>EvP.ret ?_
   unfold DL
   simp only [cSs,cS]
   omega
  have j1:∀ (q:Int) (x:Bool),p≤q→q≤p + 1→EvP (fun k=>bH.j1 k x1 a2 x b q) (DL p (pB (d + 1)) (cB (d + 1))):=by
   intro q x hq hq2
   refine EvP.step (fun k=>bH.j1.eq_2 (k:=k) ..) (EvP.ite (fun h=>?_) (fun h=>pr q hq hq2))
   refine EvP.bind (NJ b hb x1 a2 (pB d) (cB d) (by omega) (by omega) (200000000000 - (d:Int) * 20000000) (by omega) (stmt false) q (by omega) (by omega)) fun r hr=>EvP.ret ?_
   unfold DL at hr ⊢
   dsimp only
   omega
  have j0:∀ (q j5:Int) (x:Bool),p≤q→q≤p + 1→EvP (fun k=>bH.j0 k x1 a2 x3 j5 x b q) (DL p (pB (d + 1)) (cB (d + 1))):=by
   intro q j5 x hq hq2
   refine EvP.step (fun k=>bH.j0.eq_2 (k:=k) ..) (EvP.ite (fun h=>?_) (fun h=>EvP.ite (fun h=>EvP.ite (fun h=>?_) (fun h=>pr q hq hq2)) (fun h=>EvP.ite (fun h=>EvP.ite (fun h=>j1 q _ hq hq2) (fun h=>j1 q _ hq hq2)) (fun h=>EvP.ite (fun h=>j2 q _ _ hq hq2) (fun h=>EvP.ite (fun h=>j2 q _ _ hq hq2) (fun h=>j2 q _ _ hq hq2))))))
   ·refine EvP.bind (BS b hb q (by omega) (by omega)) fun r hr=>EvP.ret ?_
    unfold DS at hr
    unfold DL
    simp only [cSs,cS]
    omega
   ·refine EvP.bind (LU b hb x1 a2 x3 (pB d) (cB d) (by omega) (by omega) (200000000000 - (d:Int) * 20000000) (by omega) (stmt x3) q (by omega) (by omega)) fun r hr=>EvP.ret ?_
    unfold DS at hr
    unfold DL
    simp only [cSs,cS]
    omega
  refine EvP.step (fun k=>bH.f.eq_2 (k:=k) ..) (fZ hb h0 (by omega) fun u u0 u1 _=>?_)
  dsimp only
  exact EvP.ite (fun h=>j0 _ _ _ (by omega) (by omega)) (fun h=>j0 _ _ _ (by omega) (by omega))
theorem CY (b:List Int) (hb:Bytes b) (d:Nat) (hd:d≤3) (a2 x1:Int) (ha:a2=d) (x4:Bool) (n:Int) (m:Nat) (j3:0≤n) (hn:n≤m) (hm:m≤6) (p:Int) (h0:0≤p) (h1:p≤190000000000):
  EvP (fun k=>bU.f k b p x1 a2 n x4) (DL p (m * pB d) (m * cB d)):=by
 have hc:=SQ hd
 have hp:=TT hd
 have e1:m * pB d≤6 * pB d:=Nat.mul_le_mul_right _ hm
 have e2:m * cB d≤6 * cB d:=Nat.mul_le_mul_right _ hm
 exact uJ b x1 a2 x4 (pB d) (cB d) (200000000000 - (d:Int) * 20000000) (fun p h0 h1=>EU b hb d a2 x1 x4 p hd ha h0 (by omega)) n m j3 hn (by omega) (by omega) p h0 (by omega)
theorem LY (b:List Int) (p:Int):∀ (m:Nat) (l:List (S35)),l.length=m→cSs l≤1000000→EvP (fun k=>eD.l0 k l b p) (fun r=>r.2=p∧cSs r.1≤16):=by
 intro m
 induction m with
 |zero=>
  intro l hm hl
  obtain rfl:=List.eq_nil_of_length_eq_zero hm
  refine EvP.step (fun k=>eD.l0.eq_2 (k:=k) ..) (EvP.fD (rX _ _ hl (by omega)) (EvP.no ?_ (EvP.ret ⟨rfl,?_⟩)))
  ·rw [rD]
   omega
  ·rw [rD]
   omega
 |succ m ih=>
  intro l hm hl
  refine EvP.step (fun k=>eD.l0.eq_2 (k:=k) ..) (EvP.fD (rX _ _ hl (by omega)) (EvP.ite (fun h=>?_) (fun h=>EvP.ret ⟨rfl,by dsimp only;omega⟩)))
  have hlen:=gI l
  rw [w64 (by omega) (by omega),show (((l.length:Int) - 1)).toNat=m by omega]
  have ht:=FI l m
  exact EvP.yes (by omega) (EvP.yes (by omega) (ih _ (by rw [List.length_take];omega) (by omega)))
theorem LX (b:List Int) (hb:Bytes b) (p a1:Int) (h0:0≤p) (h1:p≤180000000000):EvP (fun k=>eD.f k b p a1) (DL p 3000000 16):=by
 unfold eD.f
 refine fZ hb h0 (by omega) fun v v0 v1 _=>?_
 have:=v1 (by omega)
 dsimp only
 rw [w64 (by omega) (by omega)]
 have hc:=SQ (show 3≤3 by omega)
 have hp:=TT (show 3≤3 by omega)
 refine EvP.bind (CY b hb 3 (by omega) 3 a1 rfl true (1 + v) 6 (by omega) (by omega) (by omega) _ (by omega) (by omega)) fun r hr=>?_
 obtain ⟨r0,r1,r2⟩:=hr
 refine (LY b r.2 _ r.1 rfl (by omega)).mono fun s hs=>?_
 unfold DL
 omega
theorem FN (b:List Int) (hb:Bytes b) (p:Int) (h0:0≤p) (h1:p≤180000000000):EvP (fun k=>iA.f k b p) (DS p 100000 20):=by
 unfold iA.f
 refine EvP.gQ rfl (fZ hb h0 (by omega) fun v v0 v1 _=>?_)
 have:=v1 (by omega)
 dsimp only
 refine EvP.bind (CY b hb 1 (by omega) 1 0 rfl false v 2 (by omega) (by omega) (by omega) _ (by omega) (by omega)) fun r hr=>EvP.ret ?_
 obtain ⟨r0,r1,r2⟩:=hr
 have e1:cB 1=7:=rfl
 have e2:pB 1=25000:=rfl
 rw [e2] at r1
 rw [e1] at r2
 unfold DS
 simp only [rD]
 omega
theorem TI (b:List Int) (hb:Bytes b) (p x1:Int) (x4:Bool) (h0:0≤p) (h1:p≤180000000000):EvP (fun k=>eP.f k b p x1 1 x4) (DS p 30000 4):=by
 have e1:cB 0=1:=rfl
 have e2:pB 0=5000:=rfl
 refine (LU b hb x1 1 x4 (pB 0) (cB 0) (by omega) (by omega) 200000000000 (by omega) (fun p h0 h1=>EU b hb 0 _ x1 x4 p (by omega) (by rw [w64 (by omega) (by omega)];rfl) h0 (by omega)) p h0 (by omega)).mono fun r hr=>?_
 unfold DS at hr ⊢
 omega
end Go.Proofs.Ytodhbeeibagiaaa.PA

namespace Go.Proofs.Ytodhbeeibagiaaa.PA
set_option linter.unusedSimpArgs false
open Go.RowKit Go.Proofs.YtodhbeeibagiaaaW.PrintWords Go.Proofs.YtodhbeeibagiaaaW.PrintMore Go.Proofs.Ytodhbeeibagiaaa.Core
theorem nH (l:List ST):l.length≤cT l:=by
 have h:=gI (dW l)
 rw [iW] at h
 exact h
theorem EP (l:List ST) (j:Nat):cT (l.take j) + cT (l.drop j)=cT l:=by
 rw [← BO,List.take_append_drop]
theorem KP (l:List ST) (j:Nat) (h:j < l.length):aA (dW l) (j:Int)=pO l[j]:=by
 rw [xD _ j (by rw [iW];exact h),GY l j h]
theorem PL (kd va bx:Int) (y:X) (hy:y.ok) (b e:List ST):
  AZ kd va bx y b e=if kd=2∧(emb y).f0=0∧(emb y).f1≠0 then b else if kd=2∧(emb y).f0=0 then e else if kd=3∧(emb y).f0=0∧(emb y).f1=0 then [] else [⟨kd,va,bx,y,b,e⟩]:=by
 unfold AZ
 cases y with
 |num n=>
  by_cases h2:kd=2
  ·subst h2
   by_cases hn:n=0 <;> simp [emb,hn]
  ·by_cases h3:kd=3
   ·subst h3
    by_cases hn:n=0 <;> simp [emb,hn]
   ·simp [emb,h2,h3]
 |var v=>by_cases h2:kd=2 <;> by_cases h3:kd=3 <;> simp [emb,h2,h3]
 |bin o p q=>
  have ho:o≠0:=by have:=hy.1;omega
  by_cases h2:kd=2 <;> by_cases h3:kd=3 <;> simp [emb,h2,h3,ho]
theorem uH:∀ (c:Nat) (l:List ST),(∀ t ∈ l,AX t)→cT l≤c→c≤1000000000→EvP (fun k=>aX.f k (dW l)) (·=dW (fM l)):=by
  intro c
  induction c with
  |zero=>
    intro l _ hl hc
    have:=nH l
    obtain rfl:=List.eq_nil_of_length_eq_zero (show l.length=0 by omega)
    refine EvP.step (fun k=>aX.f.eq_2 (k:=k) ..) (EvP.step (fun k=>aX.l0.eq_2 (k:=k) ..) (EvP.no (by rw [dW];simp) (EvP.ret ?_)))
    rw [fM,dW]
  |succ c ih=>
    intro l ha hl hc
    have hlen:=iW l
    have loop:∀ (r j:Nat) (acc:List ST),j + r=l.length→acc.length + cT (l.drop j)≤2000000000→EvP (fun k=>aX.l0 k (dW acc) (dW l) ((dW l).length:Int) (j:Int)) (·=dW (acc ++ fM (l.drop j))):=by
      intro r
      induction r with
      |zero=>
        intro j acc hj h1
        refine EvP.step (fun k=>aX.l0.eq_2 (k:=k) ..) (EvP.no (by omega) (EvP.ret ?_))
        rw [List.drop_eq_nil_of_le (by omega),fM,List.append_nil]
      |succ r ih2=>
        intro j acc hj h1
        have hlt:j < l.length:=by omega
        have hl2:=nH l
        have hsp:=EP l j
        have hd:=List.drop_eq_getElem_cons hlt
        have hcd:cT (l.drop j)=cT l[j].b + cT l[j].e + 1 + cT (l.drop (j + 1)):=by rw [hd,DV]
        have hrd:=KP l j hlt
        have hat:=ha _ (List.getElem_mem hlt)
        have hft:=EO l[j]
        rw [BP] at hft
        have hfl:=nH (pF l[j])
        have hb1:=nH (fM l[j].b)
        have hb2:=rT l[j].b
        have he1:=nH (fM l[j].e)
        have he2:=rT l[j].e
        generalize l[j]=t at *
        obtain ⟨hok,_,hab,hae⟩:t.x.ok∧t.x.depth≤5∧(∀ y ∈ t.b,AX y)∧(∀ y ∈ t.e,AX y):=by
          cases hat with
          |mk _ a b c d=>exact ⟨a,b,c,d⟩
        refine EvP.step (fun k=>aX.l0.eq_2 (k:=k) ..) (EvP.yes (by omega) (EvP.yes (by omega) (EvP.yes (by omega) ?_)))
        rw [hrd,sQ t]
        dsimp only
        refine EvP.fD (ih _ hab (by omega) (by omega)) (EvP.fD (ih _ hae (by omega) (by omega)) (EvP.fD (rW _ hok) ?_))
        have hyo:=X.rZ _ hok
        have hf:pF t=_:=(xA t).trans (PL _ _ _ _ hyo _ _)
        have next:∀ p:List ST,pF t=p→EvP (fun k=>aX.l0 k (dW acc ++ dW p) (dW l) ((dW l).length:Int) ((j:Int) + 1)) (·=dW (acc ++ fM (l.drop j))):=by
          rintro p rfl
          rw [← rE]
          refine (ih2 (j + 1) (acc ++ pF t) (by omega) (by rw [List.length_append];omega)).mono fun b hb=>?_
          rw [hb,hd,fM,List.append_assoc]
        have la:=iW acc
        have lb:=iW (fM t.b)
        have le:=iW (fM t.e)
        dsimp only [tri]
        have one:pF t=[⟨t.kd,t.va,t.bx,t.x.fold,fM t.b,fM t.e⟩]→EvP (fun k=>aX.l0 k (dW acc ++ [(⟨t.kd,t.va,t.bx,⟨(emb t.x.fold).f0,(emb t.x.fold).f1,(emb t.x.fold).f2⟩,dW (fM t.b),dW (fM t.e)⟩:S35)]) (dW l) ((dW l).length:Int) ((j:Int) + 1)) (·=dW (acc ++ fM (l.drop j))):=by
          intro h
          have h2:=next _ h
          rw [dW,dW,pO] at h2
          rw [BQ]
          exact h2
        clear ih ih2
        by_cases h2:t.kd=2
        · refine EvP.yes h2 ?_
          by_cases ho:(emb t.x.fold).f0=0
          · refine EvP.yes ho (EvP.step (fun k=>aX.j1.eq_2 (k:=k) ..) ?_)
            by_cases hn:(emb t.x.fold).f1=0
            · refine EvP.no (by simp [hn]) (EvP.yes h2 (EvP.step (fun k=>aX.j2.eq_2 (k:=k) ..) (EvP.yes (by simp [ho]) (EvP.yes (by omega) ?_))))
              rw [w64 (n:=(j:Int) + 1) (by omega) (by omega)]
              exact next _ (by rw [hf,if_neg (fun e=>e.2.2 hn),if_pos ⟨h2,ho⟩])
            · refine EvP.yes (by simp [hn]) (EvP.yes (by omega) ?_)
              rw [w64 (n:=(j:Int) + 1) (by omega) (by omega)]
              exact next _ (by rw [hf,if_pos ⟨h2,ho,hn⟩])
          · refine EvP.no ho (EvP.step (fun k=>aX.j1.eq_2 (k:=k) ..) (EvP.no (by simp) (EvP.yes h2 (EvP.step (fun k=>aX.j2.eq_2 (k:=k) ..) (EvP.no (by simp [ho]) (EvP.no (by omega) (EvP.yes (by omega) ?_)))))))
            rw [w64 (n:=(j:Int) + 1) (by omega) (by omega)]
            exact one (by rw [hf,if_neg (fun e=>ho e.2.1),if_neg (fun e=>ho e.2),if_neg (fun e=>ho e.2.1)])
        · refine EvP.no h2 (EvP.step (fun k=>aX.j1.eq_2 (k:=k) ..) (EvP.no (by simp) (EvP.no h2 (EvP.step (fun k=>aX.j2.eq_2 (k:=k) ..) (EvP.no (by simp) ?_)))))
          rw [w64 (n:=(j:Int) + 1) (by omega) (by omega)]
          by_cases h3:t.kd=3
          · refine EvP.yes h3 ?_
            by_cases ho:(emb t.x.fold).f0=0
            · refine EvP.yes (by simp [ho]) ?_
              by_cases hn:(emb t.x.fold).f1=0
              · refine EvP.yes hn ?_
                have h4:=next [] (by rw [hf,if_neg (fun e=>h2 e.1),if_neg (fun e=>h2 e.1),if_pos ⟨h3,ho,hn⟩])
                rw [dW,List.append_nil] at h4
                exact h4
              · exact EvP.no hn (EvP.yes (by omega) (one (by rw [hf,if_neg (fun e=>h2 e.1),if_neg (fun e=>h2 e.1),if_neg (fun e=>hn e.2.2)])))
            · exact EvP.no (by simp [ho]) (EvP.yes (by omega) (one (by rw [hf,if_neg (fun e=>h2 e.1),if_neg (fun e=>h2 e.1),if_neg (fun e=>ho e.2.1)])))
          · exact EvP.no h3 (EvP.yes (by omega) (one (by rw [hf,if_neg (fun e=>h2 e.1),if_neg (fun e=>h2 e.1),if_neg (fun e=>h3 e.1)])))
    refine EvP.step (fun k=>aX.f.eq_2 (k:=k) ..) ?_
    have h:=loop l.length 0 [] (by omega) (by rw [List.drop_zero];simp;omega)
    rw [List.drop_zero,List.nil_append,dW] at h
    exact h
theorem yV (t:ST) (hok:t.x.ok) (hb:EvP (fun k=>bM.f k (dW t.b)) (·=dW (fM t.b))) (he:EvP (fun k=>bM.f k (dW t.e)) (·=dW (fM t.e))):
    EvP (fun k=>gL.f k (pO t)) (·=dW (pF t)):=by
  refine EvP.step (fun k=>gL.f.eq_2 (k:=k) ..) ?_
  rw [sQ t]
  dsimp only
  refine EvP.fD (tZ _ hok) (EvP.fD hb (EvP.fD he (EvP.ret ?_)))
  have hyo:=X.rZ _ hok
  rw [xA,PL _ _ _ _ hyo]
  dsimp only [tri,IC]
  by_cases h2:t.kd=2
  · by_cases ho:(emb t.x.fold).f0=0
    · by_cases hn:(emb t.x.fold).f1=0 <;> simp [h2,ho,hn]
    · simp [h2,ho,dW,pO,BQ]
  · by_cases h3:t.kd=3
    · by_cases ho:(emb t.x.fold).f0=0
      · by_cases hn:(emb t.x.fold).f1=0
        · simp [h3,ho,hn,dW]
        · simp [h3,ho,hn,dW,pO]
          rw [← ho,BQ]
      · simp [h3,ho,dW,pO,BQ]
    · simp [h2,h3,dW,pO,BQ]
theorem yU:∀ (c:Nat) (l:List ST),(∀ t ∈ l,AX t)→cT l≤c→c≤1000000000→EvP (fun k=>bM.f k (dW l)) (·=dW (fM l)):=by
  intro c
  induction c with
  |zero=>
    intro l _ hl hc
    have:=nH l
    obtain rfl:=List.eq_nil_of_length_eq_zero (show l.length=0 by omega)
    refine EvP.step (fun k=>bM.f.eq_2 (k:=k) ..) (EvP.step (fun k=>bM.l0.eq_2 (k:=k) ..) (EvP.no (by rw [dW];simp) (EvP.ret ?_)))
    rw [fM,dW]
  |succ c ih=>
    intro l ha hl hc
    have hlen:=iW l
    have loop:∀ (r j:Nat) (acc:List ST),j + r=l.length→acc.length + cT (l.drop j)≤2000000000→EvP (fun k=>bM.l0 k (dW l) (dW acc) (j:Int)) (·=dW (acc ++ fM (l.drop j))):=by
      intro r
      induction r with
      |zero=>
        intro j acc hj h1
        refine EvP.step (fun k=>bM.l0.eq_2 (k:=k) ..) (EvP.no (by omega) (EvP.ret ?_))
        rw [List.drop_eq_nil_of_le (by omega),fM,List.append_nil]
      |succ r ih2=>
        intro j acc hj h1
        have hlt:j < l.length:=by omega
        have hl2:=nH l
        have hsp:=EP l j
        have hd:=List.drop_eq_getElem_cons hlt
        have hcd:cT (l.drop j)=cT l[j].b + cT l[j].e + 1 + cT (l.drop (j + 1)):=by rw [hd,DV]
        have hrd:=KP l j hlt
        have hat:=ha _ (List.getElem_mem hlt)
        have hft:=EO l[j]
        rw [BP] at hft
        have hfl:=nH (pF l[j])
        generalize l[j]=t at *
        obtain ⟨hok,_,hab,hae⟩:t.x.ok∧t.x.depth≤5∧(∀ y ∈ t.b,AX y)∧(∀ y ∈ t.e,AX y):=by
          cases hat with
          |mk _ a b c d=>exact ⟨a,b,c,d⟩
        have la:=iW acc
        have lf:=iW (pF t)
        refine EvP.step (fun k=>bM.l0.eq_2 (k:=k) ..) (EvP.yes (by omega) (EvP.yes (by omega) ?_))
        rw [hrd]
        refine EvP.fD (yV t hok (ih _ hab (by omega) (by omega)) (ih _ hae (by omega) (by omega))) (EvP.yes (by omega) ?_)
        rw [w64 (n:=(j:Int) + 1) (by omega) (by omega),← rE]
        refine (ih2 (j + 1) (acc ++ pF t) (by omega) (by rw [List.length_append];omega)).mono fun b hb=>?_
        rw [hb,hd,fM,List.append_assoc]
    refine EvP.step (fun k=>bM.f.eq_2 (k:=k) ..) ?_
    have h:=loop l.length 0 [] (by omega) (by rw [List.drop_zero];simp;omega)
    rw [List.drop_zero,List.nil_append,dW] at h
    exact h
theorem yM (m:List ST) (ha:∀ t ∈ m,AX t) (h:okT 3 (dW m)=true):EvP (fun k=>eZ.f k (dW m)) (·=(dW (fM m),true)):=by
  have hc:=(vK.1 h).2
  unfold eZ.f
  exact EvP.fD (yN _ (by omega)) (EvP.yes h (EvP.fD (uH 16 m ha hc (by omega)) (EvP.ret rfl)))
theorem BD:∀ (c:Nat) (l:List ST),cT l≤c→c≤1000000000→EvP (fun k=>bF.f k (dW l) (dW l)) (·=true):=by
  intro c
  induction c with
  |zero=>
    intro l hl hc
    have:=nH l
    obtain rfl:=List.eq_nil_of_length_eq_zero (show l.length=0 by omega)
    exact EvP.step (fun k=>bF.f.eq_2 (k:=k) ..) (EvP.yes rfl (EvP.step (fun k=>bF.l0.eq_2 (k:=k) ..) (EvP.no (by rw [dW];simp) (EvP.ret rfl))))
  |succ c ih=>
    intro l hl hc
    have hlen:=iW l
    have loop:∀ (r j:Nat),j + r=l.length→EvP (fun k=>bF.l0 k (dW l) (dW l) (j:Int)) (·=true):=by
      intro r
      induction r with
      |zero=>
        intro j hj
        exact EvP.step (fun k=>bF.l0.eq_2 (k:=k) ..) (EvP.no (by omega) (EvP.ret rfl))
      |succ r ih2=>
        intro j hj
        have hlt:j < l.length:=by omega
        have hl2:=nH l
        have hsp:=EP l j
        have hcd:cT (l.drop j)=cT l[j].b + cT l[j].e + 1 + cT (l.drop (j + 1)):=by rw [List.drop_eq_getElem_cons hlt,DV]
        have hrd:=KP l j hlt
        generalize l[j]=t at *
        refine EvP.step (fun k=>bF.l0.eq_2 (k:=k) ..) (EvP.yes (by omega) (EvP.yes (by omega) (EvP.yes (by omega) ?_)))
        rw [hrd,sQ t]
        dsimp only
        refine EvP.yes rfl (EvP.yes rfl (EvP.yes rfl (EvP.fD (wQ _) ?_)))
        refine EvP.step (fun k=>bF.j1.eq_2 (k:=k) ..) (EvP.no (by simp) ?_)
        refine EvP.fD (ih _ (by omega) (by omega)) (EvP.yes rfl (EvP.fD (ih _ (by omega) (by omega)) (EvP.yes rfl ?_)))
        rw [w64 (n:=(j:Int) + 1) (by omega) (by omega)]
        exact ih2 (j + 1) (by omega)
    exact EvP.step (fun k=>bF.f.eq_2 (k:=k) ..) (EvP.yes rfl (loop l.length 0 (by omega)))
end Go.Proofs.Ytodhbeeibagiaaa.PA

namespace Go.Proofs.Ytodhbeeibagiaaa.PA
open Go.RowKit Go.Proofs.YtodhbeeibagiaaaW.PrintWords Go.Proofs.YtodhbeeibagiaaaW.PrintMore Go.Proofs.Ytodhbeeibagiaaa.Core
theorem rH (l:List (List S35)) (i:Nat) (h:i < l.length):fB l (i:Int)=l[i]:=by
 unfold fB
 rw [Int.toNat_natCast,List.getD_eq_getElem?_getD,List.getElem?_eq_getElem h]
 rfl
def tY (r:Int):Bool:=decide (1≤r) && decide (r≤4)
def sF (rs:List Int):Bool:=rs.all tY && decide ((rs.length:Int)≤3)
theorem FM (rs:List Int) (hl:rs.length≤1000000000):∀ (d j:Nat),j + d=rs.length→EvP (fun k=>dQ.l0 k rs rs (rs.length:Int) (j:Int)) (·=((rs.drop j).all tY && decide ((rs.length:Int)≤3))):=by
  intro d
  induction d with
  |zero=>
    intro j hj
    refine EvP.step (fun k=>dQ.l0.eq_2 (k:=k) ..) (EvP.no (by omega) (EvP.ret ?_))
    rw [List.drop_eq_nil_of_le (by omega)]
    rfl
  |succ d ih=>
    intro j hj
    have hlt:j < rs.length:=by omega
    refine EvP.step (fun k=>dQ.l0.eq_2 (k:=k) ..) (EvP.yes (by omega) (EvP.yes (by omega) (EvP.yes (by omega) ?_)))
    rw [KQ rs j hlt,w64 (by omega) (by omega),List.drop_eq_getElem_cons hlt,List.all_cons]
    refine EvP.ite (fun h=>EvP.ret ?_) (fun h=>EvP.ite (fun h2=>EvP.ret ?_) (fun h2=>?_))
    · have:tY rs[j]=false:=by
        unfold tY
        rw [decide_eq_false (by omega)]
        rfl
      rw [this]
      rfl
    · have:tY rs[j]=false:=by
        unfold tY
        rw [decide_eq_false (p:=rs[j]≤4) (by omega),Bool.and_false]
      rw [this]
      rfl
    · have:tY rs[j]=true:=by
        unfold tY
        rw [decide_eq_true (by omega),decide_eq_true (by omega)]
        rfl
      rw [this,Bool.true_and]
      exact ih (j + 1) (by omega)
theorem FL (rs:List Int) (hl:rs.length≤1000000000):EvP (fun k=>dQ.f k rs) (·=sF rs):=by
  unfold dQ.f
  exact FM rs hl rs.length 0 (by omega)
theorem FY (rs:List Int) (hl:rs.length≤1000000000):∀ (d j:Nat),j + d=rs.length→EvP (fun k=>eB.l0 k rs (j:Int)) (·=((rs.drop j).all tY && decide ((rs.length:Int)≤3))):=by
  intro d
  induction d with
  |zero=>
    intro j hj
    refine EvP.step (fun k=>eB.l0.eq_2 (k:=k) ..) (EvP.no (by omega) (EvP.ret ?_))
    rw [List.drop_eq_nil_of_le (by omega)]
    rfl
  |succ d ih=>
    intro j hj
    have hlt:j < rs.length:=by omega
    refine EvP.step (fun k=>eB.l0.eq_2 (k:=k) ..) (EvP.yes (by omega) (EvP.yes (by omega) ?_))
    rw [KQ rs j hlt,w64 (by omega) (by omega),List.drop_eq_getElem_cons hlt,List.all_cons,tC]
    refine EvP.gQ rfl (EvP.ite (fun h=>?_) (fun h=>EvP.ret ?_))
    · rw [show tY rs[j]=true from h,Bool.true_and]
      exact ih (j + 1) (by omega)
    · rw [show tY rs[j]=false from Bool.eq_false_iff.mpr h]
      rfl
theorem FX (rs:List Int) (hl:rs.length≤1000000000):EvP (fun k=>eB.f k rs) (·=sF rs):=by
  unfold eB.f
  exact FY rs hl rs.length 0 (by omega)
def vJ (m:Int) (s:S35):Bool:=!((s.f0 == 4 || s.f0 == 5) && decide (s.f2≥m))
mutual
def bxS (m:Int):S35→Bool
 |⟨a,b,c,e,l1,l2⟩=>vJ m ⟨a,b,c,e,l1,l2⟩ && (sZ m l1 && sZ m l2)
def sZ (m:Int):List S35→Bool
 |[]=>true
 |x :: xs=>bxS m x && sZ m xs
end
theorem SN (m:Int) (s:S35):bxS m s=(vJ m s && (sZ m s.f4 && sZ m s.f5)):=by
 cases s
 rw [bxS]
theorem EL (m:Int):∀ l:List S35,sZ m l=l.all (bxS m)
 |[]=>by rw [sZ];rfl
 |x :: xs=>by rw [sZ,EL m xs];rfl
theorem BZ (m:Int):∀ (c:Nat) (l:List S35),cSs l≤c→c≤1000000000→EvP (fun k=>bW.f k l m) (·=sZ m l):=by
  intro c
  induction c with
  |zero=>
    intro l hl hc
    have:=gI l
    obtain rfl:=List.eq_nil_of_length_eq_zero (show l.length=0 by omega)
    exact EvP.step (fun k=>bW.f.eq_2 (k:=k) ..) (EvP.step (fun k=>bW.l0.eq_2 (k:=k) ..) (EvP.no (by simp) (EvP.ret (by rw [sZ]))))
  |succ c ih=>
    intro l hl hc
    have hlen:=gI l
    have loop:∀ (r j:Nat),j + r=l.length→EvP (fun k=>bW.l0 k l m (j:Int)) (·=sZ m (l.drop j)):=by
      intro r
      induction r with
      |zero=>
        intro j hj
        refine EvP.step (fun k=>bW.l0.eq_2 (k:=k) ..) (EvP.no (by omega) (EvP.ret ?_))
        rw [List.drop_eq_nil_of_le (by omega),sZ]
      |succ r ih2=>
        intro j hj
        have hlt:j < l.length:=by omega
        have hm:=vG l _ (List.getElem_mem hlt)
        have hcs:=EM l[j]
        have hd:sZ m (l.drop j)=(bxS m l[j] && sZ m (l.drop (j + 1))):=by
          rw [List.drop_eq_getElem_cons hlt,sZ]
        rw [hd,SN]
        have j1:∀ b:Bool,(vJ m l[j]=!b)→EvP (fun k=>bW.j1 k l m (j:Int) b l[j].f0 l[j].f1 l[j].f2 l[j].f3.f0 l[j].f3.f1 l[j].f3.f2 l[j].f4 l[j].f5) (·=(vJ m l[j] && (sZ m l[j].f4 && sZ m l[j].f5) && sZ m (l.drop (j + 1)))):=by
          intro b hb
          refine EvP.step (fun k=>bW.j1.eq_2 (k:=k) ..) (EvP.ite (fun h=>EvP.ret ?_) (fun h=>?_))
          · rw [hb,h]
            rfl
          · rw [hb,Bool.eq_false_iff.mpr h,w64 (n:=(j:Int) + 1) (by omega) (by omega)]
            refine EvP.fD (ih _ (by omega) (by omega)) (EvP.ite (fun h4=>EvP.fD (ih _ (by omega) (by omega)) (EvP.ite (fun h5=>?_) (fun h5=>EvP.ret ?_))) (fun h4=>EvP.ret ?_))
            · rw [h4,h5]
              exact ih2 (j + 1) (by omega)
            · rw [Bool.eq_false_iff.mpr h5]
              simp
            · rw [Bool.eq_false_iff.mpr h4]
              simp
        refine EvP.step (fun k=>bW.l0.eq_2 (k:=k) ..) (EvP.yes (by omega) (EvP.yes (by omega) ?_))
        rw [xD l j hlt]
        refine EvP.ite (fun h4=>j1 _ ?_) (fun h4=>EvP.ite (fun h5=>j1 _ ?_) (fun h5=>j1 _ ?_))
        · simp [vJ,h4]
        · simp [vJ,h5]
        · simp [vJ,h4,h5]
    refine EvP.step (fun k=>bW.f.eq_2 (k:=k) ..) ?_
    exact loop l.length 0 (by omega)
theorem IQ (m:Int) (h0:0≤m) (h3:m≤3) (s:S35):stS m s=(stS 3 s && vJ m s):=by
 rw [Bool.eq_iff_iff,Bool.and_eq_true]
 unfold stS xM lQ vJ xR
 by_cases c4:s.f0=4
 ·simp only [c4]
  simp
  constructor
  ·rintro ⟨a,⟨b,c⟩,d⟩
   exact ⟨⟨a,⟨b,by omega⟩,d⟩,by omega⟩
  ·rintro ⟨⟨a,⟨b,c⟩,d⟩,e⟩
   exact ⟨a,⟨b,by omega⟩,d⟩
 ·by_cases c5:s.f0=5
  ·simp only [c5]
   simp
   constructor
   ·rintro ⟨a,⟨b,c⟩,d⟩
    exact ⟨⟨a,⟨b,by omega⟩,d⟩,by omega⟩
   ·rintro ⟨⟨a,⟨b,c⟩,d⟩,e⟩
    exact ⟨a,⟨b,by omega⟩,d⟩
  ·simp [c4,c5]
theorem pJ (m:Int) (h0:0≤m) (h3:m≤3):∀ (d:Nat) (s:S35),iM m d s=true ↔ (iM 3 d s=true∧bxS m s=true)
 |0,s=>by
  simp only [iM,Bool.and_eq_true,IQ m h0 h3 s,SN]
  constructor
  ·rintro ⟨⟨a,b⟩,c⟩
   have hf:=DX a (fun e=>by rw [(pG s).mpr e] at c;cases c)
   rw [EM] at hf
   have l4:=gI s.f4
   have l5:=gI s.f5
   rw [List.eq_nil_of_length_eq_zero (show s.f4.length=0 by omega),List.eq_nil_of_length_eq_zero (show s.f5.length=0 by omega)]
   exact ⟨⟨a,c⟩,b,by rw [sZ],by rw [sZ]⟩
  ·rintro ⟨⟨a,c⟩,b,_⟩
   exact ⟨⟨a,b⟩,c⟩
 |d + 1,s=>by
  have ih:∀ l:List S35,l.all (iM m d)=true ↔ (l.all (iM 3 d)=true∧sZ m l=true):=by
   intro l
   rw [EL,List.all_eq_true,List.all_eq_true,List.all_eq_true]
   constructor
   ·exact fun h=>⟨fun x hx=>((pJ m h0 h3 d x).mp (h x hx)).1,fun x hx=>((pJ m h0 h3 d x).mp (h x hx)).2⟩
   ·exact fun h x hx=>(pJ m h0 h3 d x).mpr ⟨h.1 x hx,h.2 x hx⟩
  simp only [iM,Bool.and_eq_true,Bool.or_eq_true,IQ m h0 h3 s,SN,ih]
  cases hb:oF s with
  |true=>
   simp only [Bool.not_true,Bool.false_eq_true,false_or]
   constructor
   ·rintro ⟨⟨a,b⟩,⟨c1,c2⟩,d1,d2⟩
    exact ⟨⟨a,c1,d1⟩,b,c2,d2⟩
   ·rintro ⟨⟨a,c1,d1⟩,b,c2,d2⟩
    exact ⟨⟨a,b⟩,⟨c1,c2⟩,d1,d2⟩
  |false=>
   simp only [Bool.not_false,true_or,and_true]
   constructor
   ·rintro ⟨a,b⟩
    have hf:=DX a (fun e=>by rw [(pG s).mpr e] at hb;cases hb)
    rw [EM] at hf
    have l4:=gI s.f4
    have l5:=gI s.f5
    rw [List.eq_nil_of_length_eq_zero (show s.f4.length=0 by omega),List.eq_nil_of_length_eq_zero (show s.f5.length=0 by omega)]
    exact ⟨a,b,by rw [sZ],by rw [sZ]⟩
   ·rintro ⟨a,b,_⟩
    exact ⟨a,b⟩
theorem IB (m:Int) (h0:0≤m) (h3:m≤3) (l:List S35):okT m l=(okT 3 l && sZ m l):=by
 rw [Bool.eq_iff_iff,Bool.and_eq_true,vK,vK,EL]
 unfold okL
 rw [List.all_eq_true,List.all_eq_true,List.all_eq_true]
 constructor
 ·exact fun h=>⟨⟨fun x hx=>((pJ m h0 h3 3 x).mp (h.1 x hx)).1,h.2⟩,fun x hx=>((pJ m h0 h3 3 x).mp (h.1 x hx)).2⟩
 ·exact fun h=>⟨fun x hx=>(pJ m h0 h3 3 x).mpr ⟨h.1.1 x hx,h.2 x hx⟩,h.1.2⟩
def lJ (rs:List Int) (ts:List (List S35)):Bool:=sF rs && (decide (1≤ts.length) && decide (ts.length≤3) && ts.all (okT (rs.length:Int)))
theorem II {rs:List Int} (h:sF rs=true):(0:Int)≤rs.length∧(rs.length:Int)≤3:=by
 unfold sF at h
 rw [Bool.and_eq_true,decide_eq_true_eq] at h
 exact ⟨by omega,h.2⟩
def vE (ts:List (List S35)):Prop:=ts.length≤1000000000∧∀ t ∈ ts,cSs t≤1000000000
theorem lZ (rs:List Int) (ts:List (List S35)) (hr:rs.length≤1000000000) (ht:vE ts):EvP (fun k=>bB.f k rs ts) (·=lJ rs ts):=by
  obtain ⟨hl,ht⟩:=ht
  have loop:sF rs=true→∀ (d j:Nat),j + d=ts.length→EvP (fun k=>bB.l0 k ts (ts.length:Int) (j:Int) rs ts) (·=(ts.drop j).all (okT (rs.length:Int))):=by
    intro hro d
    induction d with
    |zero=>
      intro j hj
      refine EvP.step (fun k=>bB.l0.eq_2 (k:=k) ..) (EvP.no (by omega) (EvP.ret ?_))
      rw [List.drop_eq_nil_of_le (by omega)]
      rfl
    |succ d ih=>
      intro j hj
      have hlt:j < ts.length:=by omega
      refine EvP.step (fun k=>bB.l0.eq_2 (k:=k) ..) (EvP.yes (by omega) (EvP.yes (by omega) (EvP.yes (by omega) ?_)))
      rw [rH ts j hlt,w64 (by omega) (by omega),List.drop_eq_getElem_cons hlt,List.all_cons]
      refine EvP.fD (tO _ _ (ht _ (List.getElem_mem hlt))) (EvP.ite (fun h=>?_) (fun h=>EvP.ret ?_))
      · rw [h,Bool.true_and]
        exact ih (j + 1) (by omega)
      · rw [Bool.eq_false_iff.mpr h]
        rfl
  have j0:∀ b:Bool,(b=false→sF rs=true∧1≤ts.length∧ts.length≤3)→(b=true→lJ rs ts=false)→EvP (fun k=>bB.j0 k b rs ts) (·=lJ rs ts):=by
    intro b h1 h2
    refine EvP.step (fun k=>bB.j0.eq_2 (k:=k) ..) (EvP.ite (fun h=>EvP.ret (h2 h).symm) (fun h=>?_))
    obtain ⟨g1,g2,g3⟩:=h1 (Bool.eq_false_iff.mpr h)
    unfold lJ
    rw [g1,decide_eq_true g2,decide_eq_true g3]
    exact loop g1 ts.length 0 (by omega)
  unfold bB.f
  refine EvP.fD (FL rs hr) (EvP.ite (fun h=>EvP.ite (fun h1=>j0 true (fun e=>by cases e) (fun _=>?_)) (fun h1=>j0 _ (fun e=>?_) (fun e=>?_))) (fun h=>j0 true (fun e=>by cases e) (fun _=>?_)))
  · unfold lJ
    rw [decide_eq_false (by omega)]
    simp
  · have:=of_decide_eq_false e
    exact ⟨h,by omega,by omega⟩
  · have:=of_decide_eq_true e
    unfold lJ
    rw [decide_eq_false (p:=ts.length≤3) (by omega)]
    simp
  · unfold lJ
    rw [Bool.eq_false_iff.mpr h]
    rfl
theorem sO (rs:List Int) (ts:List (List S35)) (hr:rs.length≤1000000000) (ht:vE ts):EvP (fun k=>bD.f k rs ts) (·=lJ rs ts):=by
  obtain ⟨hl,ht⟩:=ht
  have loop:sF rs=true→∀ (d j:Nat),j + d=ts.length→EvP (fun k=>bD.l0 k (j:Int) rs ts) (·=(ts.drop j).all (okT (rs.length:Int))):=by
    intro hro d
    obtain ⟨r0,r3⟩:=II hro
    induction d with
    |zero=>
      intro j hj
      refine EvP.step (fun k=>bD.l0.eq_2 (k:=k) ..) (EvP.no (by omega) (EvP.ret ?_))
      rw [List.drop_eq_nil_of_le (by omega)]
      rfl
    |succ d ih=>
      intro j hj
      have hlt:j < ts.length:=by omega
      refine EvP.step (fun k=>bD.l0.eq_2 (k:=k) ..) (EvP.yes (by omega) (EvP.yes (by omega) ?_))
      rw [rH ts j hlt,w64 (by omega) (by omega),List.drop_eq_getElem_cons hlt,List.all_cons,IB _ r0 r3]
      refine EvP.fD (yT _ (ht _ (List.getElem_mem hlt))) (EvP.ite (fun h=>EvP.fD (BZ _ _ _ (ht _ (List.getElem_mem hlt)) (by omega)) (EvP.ite (fun h2=>?_) (fun h2=>EvP.ret ?_))) (fun h=>EvP.ret ?_))
      · rw [h,h2,Bool.true_and,Bool.true_and]
        exact ih (j + 1) (by omega)
      · rw [h,Bool.eq_false_iff.mpr h2]
        rfl
      · rw [Bool.eq_false_iff.mpr h]
        rfl
  have j0:∀ b:Bool,(b=false→sF rs=true∧1≤ts.length∧ts.length≤3)→(b=true→lJ rs ts=false)→EvP (fun k=>bD.j0 k b rs ts) (·=lJ rs ts):=by
    intro b h1 h2
    refine EvP.step (fun k=>bD.j0.eq_2 (k:=k) ..) (EvP.ite (fun h=>EvP.ret (h2 h).symm) (fun h=>?_))
    obtain ⟨g1,g2,g3⟩:=h1 (Bool.eq_false_iff.mpr h)
    unfold lJ
    rw [g1,decide_eq_true g2,decide_eq_true g3]
    exact loop g1 ts.length 0 (by omega)
  unfold bD.f
  refine EvP.fD (FX rs hr) (EvP.ite (fun h=>?_) (fun h=>j0 true (fun e=>by cases e) (fun _=>?_)))
  · rw [tC]
    refine EvP.gQ rfl (j0 _ (fun e=>?_) (fun e=>?_))
    · rw [Bool.not_eq_false',Bool.and_eq_true,decide_eq_true_eq,decide_eq_true_eq] at e
      exact ⟨h,by omega,by omega⟩
    · unfold lJ
      have e2:(decide (1≤ts.length) && decide (ts.length≤3))=false:=by
        rw [Bool.eq_false_iff]
        intro q
        rw [Bool.and_eq_true,decide_eq_true_eq,decide_eq_true_eq] at q
        rw [decide_eq_true (by omega),decide_eq_true (by omega)] at e
        cases e
      rw [e2]
      simp
  · unfold lJ
    rw [Bool.eq_false_iff.mpr h]
    rfl
def MK:List (List S35)→Nat
 |[]=>0
 |t :: ts=>cSs t + MK ts
theorem tX {rs:List Int} {ts:List (List S35)}:lJ rs ts=true ↔ sF rs=true∧1≤ts.length∧ts.length≤3∧∀ t ∈ ts,okT (rs.length:Int) t=true:=by
 unfold lJ
 simp only [Bool.and_eq_true,decide_eq_true_eq,List.all_eq_true,and_assoc]
theorem sW (rs:List Int) (ts:List (List S35)) (hr:rs.length≤1000000000) (ht:vE ts):EvP (fun k=>dK.f k rs ts) (·=if lJ rs ts=true then (MK ts:Int) else -1):=by
  unfold dK.f
  refine EvP.fD (lZ rs ts hr ht) (EvP.ite (fun h=>?_) (fun h=>EvP.ret (by rw [if_neg h])))
  rw [if_pos h]
  obtain ⟨_,g1,g2,g3⟩:=tX.mp h
  have loop:∀ (d j:Nat) (a:Int),j + d=ts.length→0≤a→a + 16 * d≤1000→EvP (fun k=>dK.l0 k a ts (ts.length:Int) (j:Int)) (·=a + MK (ts.drop j)):=by
    intro d
    induction d with
    |zero=>
      intro j a hj h0 h1
      refine EvP.step (fun k=>dK.l0.eq_2 (k:=k) ..) (EvP.no (by omega) (EvP.ret ?_))
      rw [List.drop_eq_nil_of_le (by omega),MK]
      omega
    |succ d ih=>
      intro j a hj h0 h1
      have hlt:j < ts.length:=by omega
      have hc:=(vK.mp (g3 _ (List.getElem_mem hlt))).2
      refine EvP.step (fun k=>dK.l0.eq_2 (k:=k) ..) (EvP.yes (by omega) (EvP.yes (by omega) (EvP.yes (by omega) ?_)))
      rw [rH ts j hlt,w64 (n:=(j:Int) + 1) (by omega) (by omega)]
      refine EvP.fD (yQ _ _ (Nat.le_refl _) (by omega)) ?_
      rw [w64 (by omega) (by omega)]
      refine (ih (j + 1) _ (by omega) (by omega) (by omega)).mono fun r hr=>?_
      rw [hr,List.drop_eq_getElem_cons hlt,MK]
      omega
  exact (loop ts.length 0 0 (by omega) (by omega) (by omega)).mono fun r hr=>by rw [hr,List.drop_zero];omega
end Go.Proofs.Ytodhbeeibagiaaa.PA

namespace Go.Proofs.Ytodhbeeibagiaaa.PA
set_option linter.unusedSimpArgs false
open Go.RowKit Go.Proofs.YtodhbeeibagiaaaW.PrintWords Go.Proofs.YtodhbeeibagiaaaW.PrintMore Go.Proofs.Ytodhbeeibagiaaa.Core
def xS (ms:List (List ST)):List (List S35):=ms.map (fun m=>dW (fM m))
theorem xH (rs:List Int) (ms:List (List ST)) (hl:ms.length≤1000) (ha:∀ m ∈ ms,(∀ t ∈ m,AX t)∧cT m≤16):∀ (r j:Nat) (acc:List (List S35)),j + r=ms.length→acc.length + r≤2000→
    EvP (fun k=>bN.l0 k (ms.map dW) ((ms.map dW).length:Int) (j:Int) rs acc) (·=(rs,acc ++ xS (ms.drop j),true)):=by
  have hlen:(ms.map dW).length=ms.length:=List.length_map _
  intro r
  induction r with
  |zero=>
    intro j acc hj h1
    refine EvP.step (fun k=>bN.l0.eq_2 (k:=k) ..) (EvP.no (by omega) (EvP.ret ?_))
    rw [List.drop_eq_nil_of_le (by omega)]
    simp [xS]
  |succ r ih=>
    intro j acc hj h1
    have hlt:j < ms.length:=by omega
    obtain ⟨hax,hc⟩:=ha _ (List.getElem_mem hlt)
    refine EvP.step (fun k=>bN.l0.eq_2 (k:=k) ..) (EvP.yes (by omega) (EvP.yes (by omega) (EvP.yes (by omega) ?_)))
    rw [rH _ j (by omega),List.getElem_map]
    refine EvP.fD (uH 16 _ hax hc (by omega)) (EvP.yes (by omega) ?_)
    rw [w64 (by omega) (by omega)]
    refine (ih (j + 1) _ (by omega) (by rw [List.length_append];simp;omega)).mono fun b hb=>?_
    rw [hb,List.drop_eq_getElem_cons hlt]
    unfold xS
    rw [List.map_cons,List.append_assoc]
    rfl
theorem xK (rs qs:List Int) (ms:List (List ST)) (hl:ms.length≤1000) (ha:∀ m ∈ ms,(∀ t ∈ m,AX t)∧cT m≤16):∀ (r j:Nat) (acc:List (List S35)),j + r=ms.length→acc.length + r≤2000→
    EvP (fun k=>bL.l0 k (j:Int) qs (ms.map dW) rs acc) (·=(rs,acc ++ xS (ms.drop j),true)):=by
  have hlen:(ms.map dW).length=ms.length:=List.length_map _
  intro r
  induction r with
  |zero=>
    intro j acc hj h1
    refine EvP.step (fun k=>bL.l0.eq_2 (k:=k) ..) (EvP.no (by omega) (EvP.ret ?_))
    rw [List.drop_eq_nil_of_le (by omega)]
    simp [xS]
  |succ r ih=>
    intro j acc hj h1
    have hlt:j < ms.length:=by omega
    obtain ⟨hax,hc⟩:=ha _ (List.getElem_mem hlt)
    refine EvP.step (fun k=>bL.l0.eq_2 (k:=k) ..) (EvP.yes (by omega) (EvP.yes (by omega) ?_))
    rw [rH _ j (by omega),List.getElem_map]
    refine EvP.fD (yU 16 _ hax hc (by omega)) (EvP.yes (by omega) ?_)
    rw [w64 (by omega) (by omega)]
    refine (ih (j + 1) _ (by omega) (by rw [List.length_append];simp;omega)).mono fun b hb=>?_
    rw [hb,List.drop_eq_getElem_cons hlt]
    unfold xS
    rw [List.map_cons,List.append_assoc]
    rfl
theorem xI {rs:List Int} {ts:List (List S35)} (hr:rs.length≤1000000000) (ht:vE ts) (h:lJ rs ts=false):EvP (fun k=>bN.f k rs ts) (·=([],[],false)):=by
  unfold bN.f
  exact EvP.fD (lZ rs ts hr ht) (EvP.no (by rw [h];simp) (EvP.ret rfl))
theorem xL {rs:List Int} {ts:List (List S35)} (hr:rs.length≤1000000000) (ht:vE ts) (h:lJ rs ts=false):EvP (fun k=>bL.f k rs ts) (·=([],[],false)):=by
  unfold bL.f
  exact EvP.fD (sO rs ts hr ht) (EvP.no (by rw [h];simp) (EvP.ret rfl))
theorem wM {rs:List Int} {ms:List (List ST)} (hr:rs.length≤1000) (ht:vE (ms.map dW)) (hl:ms.length≤1000) (ha:∀ m ∈ ms,(∀ t ∈ m,AX t)∧cT m≤16) (h:lJ rs (ms.map dW)=true):
    EvP (fun k=>bN.f k rs (ms.map dW)) (·=(rs,xS ms,true)):=by
  unfold bN.f
  refine EvP.fD (lZ rs _ (by omega) ht) (EvP.yes h (EvP.gQ (SS rs (by omega)) ?_))
  have:=xH rs ms hl ha ms.length 0 [] (by omega) (by simp;omega)
  rw [List.drop_zero,List.nil_append] at this
  exact this
theorem wT {rs:List Int} {ms:List (List ST)} (hr:rs.length≤1000) (ht:vE (ms.map dW)) (hl:ms.length≤1000) (ha:∀ m ∈ ms,(∀ t ∈ m,AX t)∧cT m≤16) (h:lJ rs (ms.map dW)=true):
    EvP (fun k=>bL.f k rs (ms.map dW)) (·=(rs,xS ms,true)):=by
  unfold bL.f
  refine EvP.fD (sO rs _ (by omega) ht) (EvP.yes h (EvP.gQ rfl (EvP.yes (by simp;omega) ?_)))
  have:=xK ([] ++ rs) rs ms hl ha ms.length 0 [] (by omega) (by simp;omega)
  rw [List.drop_zero,List.nil_append,List.nil_append] at this
  rw [List.nil_append]
  exact this
theorem aBe {rs:List Int} {ts:List (List S35)} (h:lJ rs ts=true):∃ ms:List (List ST),ms.map dW=ts∧ms.length≤3∧(∀ m ∈ ms,(∀ t ∈ m,AX t)∧cT m≤16)∧∀ m ∈ ms,okT (rs.length:Int) (dW m)=true:=by
 obtain ⟨_,_,h3,h4⟩:=tX.1 h
 suffices ∀ ts:List (List S35),(∀ t ∈ ts,okT (rs.length:Int) t=true)→∃ ms:List (List ST),ms.map dW=ts∧(∀ m ∈ ms,(∀ t ∈ m,AX t)∧cT m≤16)∧∀ m ∈ ms,okT (rs.length:Int) (dW m)=true by
  obtain ⟨ms,e,ha,ho⟩:=this ts h4
  exact ⟨ms,e,by rw [← List.length_map (f:=dW),e];exact h3,ha,ho⟩
 intro ts
 induction ts with
 |nil=>exact fun _=>⟨[],rfl,by simp,by simp⟩
 |cons t ts ih=>
  intro h
  obtain ⟨ms,e,ha,ho⟩:=ih (fun x hx=>h x (List.mem_cons_of_mem _ hx))
  have ht:=h t List.mem_cons_self
  obtain ⟨m,hm,hx⟩:=TK _ 3 t (vK.1 ht).1
  subst hm
  refine ⟨m :: ms,by rw [List.map_cons,e],fun y hy=>?_,fun y hy=>?_⟩
  ·rcases List.mem_cons.1 hy with rfl|hy
   ·exact ⟨hx,(vK.1 ht).2⟩
   ·exact ha y hy
  ·rcases List.mem_cons.1 hy with rfl|hy
   ·exact ht
   ·exact ho y hy
theorem wR (rs:List Int) (hr:rs.length≤1000000000) (ms:List (List ST)) (hl:ms.length≤1000) (hc:∀ m ∈ ms,cT m≤1000000):EvP (fun k=>bE.f k rs (ms.map dW) rs (ms.map dW)) (·=true):=by
  have hlen:(ms.map dW).length=ms.length:=List.length_map _
  have loop:∀ (r j:Nat),j + r=ms.length→EvP (fun k=>bE.l0 k (j:Int) rs (ms.map dW) rs (ms.map dW)) (·=true):=by
    intro r
    induction r with
    |zero=>
      intro j hj
      exact EvP.step (fun k=>bE.l0.eq_2 (k:=k) ..) (EvP.no (by omega) (EvP.ret rfl))
    |succ r ih=>
      intro j hj
      have hlt:j < ms.length:=by omega
      have h1:=hc _ (List.getElem_mem hlt)
      refine EvP.step (fun k=>bE.l0.eq_2 (k:=k) ..) (EvP.yes (by omega) (EvP.yes (by omega) (EvP.yes (by omega) ?_)))
      rw [rH _ j (by omega),List.getElem_map]
      refine EvP.fD (BD _ _ h1 (by omega)) (EvP.yes rfl ?_)
      rw [w64 (by omega) (by omega)]
      exact ih (j + 1) (by omega)
  unfold bE.f
  refine EvP.fD (DJ rs rs hr) (EvP.yes (by simp) (EvP.step (fun k=>bE.j0.eq_2 (k:=k) ..) (EvP.no (by simp) (loop ms.length 0 (by omega)))))
end Go.Proofs.Ytodhbeeibagiaaa.PA

namespace Go.Proofs.Ytodhbeeibagiaaa.PA
open Go.RowKit Go.Proofs.YtodhbeeibagiaaaW.PrintWords Go.Proofs.YtodhbeeibagiaaaW.PrintLast Go.Proofs.YtodhbeeibagiaaaW.PrintMore Go.Proofs.Ytodhbeeibagiaaa.Core
theorem LW (b:List Int) (hb:Bytes b):∀ (d:Nat) (l:List Int) (n:Int) (p:Int),(l.length:Int) + d=n→n≤3→0≤p→p + d≤800000000000→
  EvP (fun k=>dZ.l0 k l n (l.length:Int) b p) (fun r=>r.2=p + d∧r.1.length=l.length + d):=by
 intro d
 induction d with
 |zero=>
  intro l n p hn h3 h0 h1
  exact EvP.step (fun k=>dZ.l0.eq_2 (k:=k) ..) (EvP.no (by omega) (EvP.ret ⟨by simp,rfl⟩))
 |succ d ih=>
  intro l n p hn h3 h0 h1
  refine EvP.step (fun k=>dZ.l0.eq_2 (k:=k) ..) (EvP.yes (by omega) (EvP.gQ rfl (fZ hb h0 (by omega) fun v v0 v1 _=>?_)))
  have:=v1 (by omega)
  dsimp only
  refine EvP.yes (by omega) (EvP.yes (by simp;omega) (EvP.yes (by omega) ?_))
  have e:wrap64 ((l.length:Int) + 1)=((l ++ [rd [1,1,2,3,4] v]).length:Int):=by
   rw [w64 (by omega) (by omega),List.length_append]
   simp
  rw [e]
  refine (ih _ n _ (by rw [List.length_append,List.length_singleton];omega) h3 (by omega) (by omega)).mono fun r hr=>?_
  rw [List.length_append,List.length_singleton] at hr
  omega
theorem LV (b:List Int) (hb:Bytes b) (p:Int) (h0:0≤p) (h1:p≤700000000000):EvP (fun k=>dZ.f k b p) (fun r=>p≤r.2∧r.2≤p + 4∧r.1.length≤3):=by
 unfold dZ.f
 refine EvP.gQ rfl (fZ hb h0 (by omega) fun v v0 v1 _=>?_)
 have:=v1 (by omega)
 dsimp only
 refine EvP.yes (by omega) (EvP.yes (by simp;omega) ?_)
 have hm:rd [0,1,1,2,2,3] v ∈ [0,1,1,2,2,3]:=TY _ _ (by omega) (by simp;omega)
 have hr:0≤rd [0,1,1,2,2,3] v∧rd [0,1,1,2,2,3] v≤3:=by
  generalize rd [0,1,1,2,2,3] v=x at hm
  simp at hm
  omega
 refine (LW b hb (rd [0,1,1,2,2,3] v).toNat [] (rd [0,1,1,2,2,3] v) (p + 1) (by simp;omega) (by omega) (by omega) (by omega)).mono fun r hr=>?_
 simp only [List.length_nil] at hr
 omega
def DP (p:Int) (P R T C:Nat) (r:List Int × List (List (S35)) × Int):Prop:=p≤r.2.2∧r.2.2≤p + P∧r.1.length≤R∧r.2.1.length≤T∧∀ t ∈ r.2.1,cSs t≤C
theorem FQ (b:List Int) (hb:Bytes b) (rs:List Int):∀ (d:Nat) (ts:List (List (S35))) (n p:Int),(ts.length:Int) + d=n→1≤n→n≤3→0≤p→p + d * 3000000≤100000000000→(∀ t ∈ ts,cSs t≤36)→
  EvP (fun k=>cK.l0 k n (ts.length:Int) b p rs ts) (fun r=>p≤r.2.2∧r.2.2≤p + d * 3000000 + 200000∧r.1=rs∧1≤r.2.1.length∧r.2.1.length≤3∧∀ t ∈ r.2.1,cSs t≤36):=by
 intro d
 induction d with
 |zero=>
  intro ts n p hn h1 h3 h0 hp ht
  refine EvP.step (fun k=>cK.l0.eq_2 (k:=k) ..) (EvP.no (by omega) (fZ hb h0 (by omega) fun v v0 v1 _=>?_))
  dsimp only
  refine EvP.ite (fun _=>EvP.bind (FN b hb _ (by omega) (by omega)) fun s hs=>EvP.yes (by omega) (EvP.ret ?_)) (fun _=>EvP.ret ?_)
  ·unfold DS at hs
   refine ⟨by dsimp only;omega,by dsimp only;omega,rfl,by dsimp only;rw [List.length_set];omega,by dsimp only;rw [List.length_set];omega,fun t hm=>?_⟩
   rcases List.mem_or_eq_of_mem_set hm with hm|rfl
   ·exact ht t hm
   ·simp only [cSs,cS]
    omega
  ·exact ⟨by dsimp only;omega,by dsimp only;omega,rfl,by dsimp only;omega,by dsimp only;omega,ht⟩
 |succ d ih=>
  intro ts n p hn h1 h3 h0 hp ht
  refine EvP.step (fun k=>cK.l0.eq_2 (k:=k) ..) (EvP.yes (by omega) (EvP.bind (LX b hb p _ h0 (by omega)) fun s hs=>EvP.yes (by omega) ?_))
  obtain ⟨s0,s1,s2⟩:=hs
  have e:wrap64 ((ts.length:Int) + 1)=((ts ++ [s.1]).length:Int):=by
   rw [w64 (by omega) (by omega),List.length_append]
   simp
  rw [e]
  refine (ih _ n s.2 (by rw [List.length_append,List.length_singleton];omega) h1 h3 (by omega) (by omega) (fun t hm=>?_)).mono fun r hr=>?_
  ·rcases List.mem_append.1 hm with hm|hm
   ·exact ht t hm
   ·rw [List.mem_singleton.1 hm]
    omega
  ·obtain ⟨r0,r1,r2⟩:=hr
   exact ⟨by omega,by omega,r2⟩
theorem FP (b:List Int) (hb:Bytes b) (p:Int) (h0:0≤p) (h1:p≤50000000000):EvP (fun k=>cK.f k b p) (fun r=>DP p 9500000 3 3 36 r∧1≤r.2.1.length):=by
 unfold cK.f
 refine EvP.bind (LV b hb p h0 (by omega)) fun r hr=>fZ hb (by omega) (by omega) fun v v0 v1 _=>?_
 have:=v1 (by omega)
 dsimp only
 rw [w64 (by omega) (by omega)]
 refine (FQ b hb r.1 (1 + v).toNat [] (1 + v) (r.2 + 1) (by simp;omega) (by omega) (by omega) (by omega) (by omega) (fun t ht=>by cases ht)).mono fun s hs=>?_
 obtain ⟨s0,s1,s2,s3,s4,s5⟩:=hs
 exact ⟨⟨by omega,by omega,by rw [s2];omega,by omega,s5⟩,s3⟩
theorem MF (l:List (List (S35))) (h:0 < l.length):fB l 0 ∈ l:=by
 rw [show (0:Int)=((0:Nat):Int) from rfl,rH l 0 h]
 exact List.getElem_mem h
theorem LZ (b:List Int) (hb:Bytes b) (p:Int) (h0:0≤p) (h1:p≤50000000000):EvP (fun k=>dM.f k b p) (DP p 9600000 4 6 40):=by
 unfold dM.f
 refine EvP.bind (FP b hb p h0 h1) fun r hr=>?_
 obtain ⟨⟨r0,r1,r2,r3,r4⟩,r5⟩:=hr
 refine fZ hb (by omega) (by omega) fun v v0 v1 _=>?_
 dsimp only
 have hl:∀ t ∈ r.2.1,cSs t≤40:=fun t ht=>Nat.le_trans (r4 t ht) (by omega)
 refine EvP.ite (fun h=>?_) (fun h=>EvP.ite (fun h=>?_) (fun h=>EvP.ite (fun h=>?_) (fun h=>EvP.ite (fun h=>?_) (fun h=>EvP.ite (fun h=>?_) (fun h=>EvP.ret ?_)))))
 ·refine EvP.gQ rfl (fZ hb (by omega) (by omega) fun u u0 u1 _=>?_)
  have:=u1 (by omega)
  refine EvP.yes u0 (EvP.yes (by simp;omega) (EvP.yes (by omega) (EvP.ret ⟨by dsimp only;omega,by dsimp only;omega,by dsimp only;rw [List.length_append,List.length_singleton];omega,by dsimp only;omega,hl⟩)))
 ·refine EvP.bind (ET b hb _ (by omega) (by omega)) fun s hs=>EvP.yes (by omega) (EvP.ret ⟨by dsimp only;omega,by dsimp only;omega,by dsimp only;omega,by dsimp only;rw [List.length_append,List.length_singleton];omega,fun t ht=>?_⟩)
  rcases List.mem_append.1 ht with ht|ht
  ·exact hl t ht
  ·rw [List.mem_singleton.1 ht]
   simp only [cSs,cS]
   omega
 ·exact EvP.ret ⟨by dsimp only;omega,by dsimp only;omega,by dsimp only;omega,by simp,fun t ht=>by cases ht⟩
 ·have hm:=MF r.2.1 (by omega)
  refine EvP.yes (by omega) (EvP.gQ rfl (EvP.yes (by simp;omega) (EvP.ret ⟨by dsimp only;omega,by dsimp only;omega,by dsimp only;omega,by dsimp only;rw [List.length_append];simp;omega,fun t ht=>?_⟩)))
  rcases List.mem_append.1 ht with ht|ht
  ·exact hl t ht
  ·simp only [List.mem_cons,List.not_mem_nil,or_false,or_self] at ht
   rw [ht]
   exact hl _ hm
 ·have hm:=MF r.2.1 (by omega)
  have hc:=r4 _ hm
  have hlen:=gI (fB r.2.1 0)
  refine EvP.yes (by omega) (EvP.yes (by omega) (EvP.ret ⟨by dsimp only;omega,by dsimp only;omega,by dsimp only;omega,by dsimp only;rw [List.length_set];omega,fun t ht=>?_⟩))
  rcases List.mem_or_eq_of_mem_set ht with ht|rfl
  ·exact hl t ht
  ·rw [rR]
   simp only [cSs,cS]
   omega
 ·exact ⟨by dsimp only;omega,by dsimp only;omega,by dsimp only;omega,by dsimp only;omega,hl⟩
theorem RJ {ts:List (List (S35))} (h:ts.length≤6∧∀ t ∈ ts,cSs t≤40):vE ts:=⟨by omega,fun t ht=>Nat.le_trans (h.2 t ht) (by omega)⟩
end Go.Proofs.Ytodhbeeibagiaaa.PA

namespace Go.Proofs.Ytodhbeeibagiaaa.PA
set_option linter.unusedSimpArgs false
open Go.RowKit Go.Proofs.YtodhbeeibagiaaaW.PrintWords Go.Proofs.YtodhbeeibagiaaaW.PrintMore Go.Proofs.Ytodhbeeibagiaaa.Core
theorem RD (ms:List (List ST)):xS ms=(ms.map fM).map dW:=by
 unfold xS
 rw [List.map_map]
 rfl
theorem ME {rs:List Int} {ms:List (List ST)} (ha:∀ m ∈ ms,(∀ t ∈ m,AX t)∧cT m≤16) (h:lJ rs (ms.map dW)=true):lJ rs ((ms.map fM).map dW)=true:=by
 obtain ⟨h1,h2,h3,h4⟩:=tX.1 h
 refine tX.2 ⟨h1,by simpa using h2,by simpa using h3,fun t ht=>?_⟩
 obtain ⟨m,hm,rfl⟩:=List.mem_map.1 ht
 obtain ⟨m',hm',rfl⟩:=List.mem_map.1 hm
 exact TP _ m' (ha m' hm').1 (h4 _ (List.mem_map.2 ⟨m',hm',rfl⟩))
theorem MI {ms:List (List ST)} (hl:ms.length≤1000) (ha:∀ m ∈ ms,(∀ t ∈ m,AX t)∧cT m≤16):vE ((ms.map fM).map dW):=by
 refine ⟨by simp;omega,fun t ht=>?_⟩
 obtain ⟨m,hm,rfl⟩:=List.mem_map.1 ht
 obtain ⟨m',hm',rfl⟩:=List.mem_map.1 hm
 have h1:=rT m'
 have h2:=(ha m' hm').2
 unfold cT at h1 h2
 omega
theorem aAb {ms:List (List ST)} (ha:∀ m ∈ ms,(∀ t ∈ m,AX t)∧cT m≤16):∀ m ∈ ms.map fM,(∀ t ∈ m,AX t)∧cT m≤16:=by
 intro m hm
 obtain ⟨m',hm',rfl⟩:=List.mem_map.1 hm
 exact ⟨PX m' (ha m' hm').1,Nat.le_trans (rT m') (ha m' hm').2⟩
theorem IU:∀ ms:List (List ST),MK ((ms.map fM).map dW)≤MK (ms.map dW)
 |[]=>Nat.le_refl _
 |m :: ms=>by
  have h1:=rT m
  have h2:=IU ms
  unfold cT at h1
  simp only [List.map_cons,MK]
  omega
theorem xW:EvP (fun k=>bE.f k [] [] [] []) (·=true):=wR [] (by simp) [] (by simp) (by simp)
theorem xZ (l:List Int) (hl:l.length≤140737488351232) (hw:∀ x ∈ l,(Lit.int .u8 x).wf=true):EvP (fun k=>bT.f k l) (fun r=>r.1.length≤4∧r.2.length≤6∧∀ t ∈ r.2,cSs t≤40):=by
 obtain ⟨b,hb0,hb⟩:=NR l hl hw
 unfold bT.f
 refine EvP.gQ hb0 (EvP.bind (LZ b hb _ (by dsimp only;omega) (by dsimp only;omega)) fun r hr=>?_)
 obtain ⟨rs,ts,p⟩:=r
 obtain ⟨r0,r1,r2,r3,r4⟩:=hr
 dsimp only at r0 r1 r2 r3 r4 ⊢
 refine fZ hb (by omega) (by omega) fun v v0 v1 _=>?_
 dsimp only
 have no:EvP (fun k=>bT.j0 k false b (p + 1) rs ts) (fun r=>r.1.length≤4∧r.2.length≤6∧∀ t ∈ r.2,cSs t≤40):=EvP.step (fun k=>bT.j0.eq_2 (k:=k) ..) (EvP.no (by simp) (EvP.ret ⟨r2,r3,r4⟩))
 refine EvP.ite (fun h=>?_) (fun h=>no)
 by_cases hn:0 < (ts.length:Int)
 ·rw [decide_eq_true (show (ts.length:Int) > 0 from hn)]
  refine EvP.step (fun k=>bT.j0.eq_2 (k:=k) ..) (EvP.yes rfl (EvP.bind (TI b hb _ _ false (by omega) (by omega)) fun i hi=>?_))
  obtain ⟨i1,i2,i3,i4,i5,i6,i7,i8,p3⟩:=i
  unfold DS at hi
  dsimp only at hi ⊢
  refine EvP.bind (LP b hb _ (by omega) (by omega)) fun q hq=>?_
  obtain ⟨q1,p4⟩:=q
  dsimp only at hq ⊢
  refine fZ hb (by omega) (by omega) fun a a0 a1 _=>?_
  dsimp only
  refine EvP.gQ rfl (fZ hb (by omega) (by omega) fun b' b0 b1 _=>?_)
  refine EvP.gQ rfl (EvP.gQ rfl (EvP.yes hn (EvP.ret ⟨r2,by dsimp only;rw [List.length_set];exact r3,fun t ht=>?_⟩)))
  rcases List.mem_or_eq_of_mem_set ht with ht|rfl
  ·exact r4 t ht
  ·rw [PG,EM]
   dsimp only
   omega
 ·rw [decide_eq_false (show ¬ (ts.length:Int) > 0 from hn)]
  exact no
end Go.Proofs.Ytodhbeeibagiaaa.PA

namespace Go.Proofs.Ytodhbeeibagiaaa.Pure
open Go.RowKit Go.Proofs.Ytodhbeeibagiaaa.PA Go.Proofs.YtodhbeeibagiaaaW.PrintWords Go.Proofs.YtodhbeeibagiaaaW.PrintLast Go.Proofs.YtodhbeeibagiaaaW.PrintMore Go.Proofs.Ytodhbeeibagiaaa.Core
theorem FnProgramFold:aZ.Pure:=by
  intro l _ hl hw
  refine EvP.ends (r:=true) ?_
  unfold aZ.f
  refine EvP.ite (fun _=>EvP.ret rfl) (fun _=>?_)
  refine EvP.bind (xZ l (by omega) hw) fun r hr=>?_
  obtain ⟨rs,ts⟩:=r
  obtain ⟨h4,h6⟩:=hr
  dsimp only at h4 h6 ⊢
  have hs:=RJ h6
  cases hv:lJ rs ts with
  |false=>
    refine EvP.fD (xI (by omega) hs hv) (EvP.fD (xL (by omega) hs hv) (EvP.no (by simp) (EvP.fD xW (EvP.yes rfl ?_))))
    exact EvP.step (fun k=>aZ.j0.eq_2 (k:=k) ..) (EvP.yes rfl (EvP.yes rfl (EvP.fD xW (EvP.ret rfl))))
  |true=>
    obtain ⟨ms,rfl,hl3,hax,hok⟩:=aBe hv
    have hax':=aAb hax
    have hlen:(ms.map dW).length=ms.length:=List.length_map _
    have hlen':((ms.map fM).map dW).length=ms.length:=by rw [List.length_map,List.length_map]
    have hlm:(ms.map fM).length=ms.length:=List.length_map _
    have hsf:=MI (ms:=ms) (by omega) hax
    have hpf:=ME hax hv
    have hrl:=II (tX.1 hv).1
    refine EvP.fD (wM (by omega) hs (by omega) hax hv) (EvP.fD (wT (by omega) hs (by omega) hax hv) (EvP.no (by simp) ?_))
    dsimp only
    rw [RD]
    have same:=wR rs (by omega) (ms.map fM) (by omega) (fun m hm=>Nat.le_trans (hax' m hm).2 (by omega))
    refine EvP.fD same (EvP.yes rfl (EvP.step (fun k=>aZ.j0.eq_2 (k:=k) ..) (EvP.no (by simp) ?_)))
    have loop:∀ (d j:Nat),j + d=ms.length→EvP (fun k=>aZ.l0 k (j:Int) rs (ms.map dW) rs ((ms.map fM).map dW)) (·=true):=by
      intro d
      induction d with
      |zero=>
        intro j hj
        refine EvP.step (fun k=>aZ.l0.eq_2 (k:=k) ..) (EvP.no (by omega) ?_)
        refine EvP.fD (lZ rs _ (by omega) hsf) (EvP.yes hpf (EvP.fD (DJ rs rs (by omega)) (EvP.yes (by simp) ?_)))
        refine EvP.fD (sW rs _ (by omega) hsf) (EvP.fD (sW rs _ (by omega) hs) (EvP.ret ?_))
        rw [if_pos hpf,if_pos hv]
        have:=IU ms
        exact decide_eq_true (by omega)
      |succ d ih=>
        intro j hj
        have hlt:j < ms.length:=by omega
        have hm:=List.getElem_mem hlt
        have ho:okT 3 (dW ms[j])=true:=by
          have:=hok _ hm
          rw [IB _ hrl.1 hrl.2,Bool.and_eq_true] at this
          exact this.1
        have hc:=(hax _ hm).2
        have hcf:=rT ms[j]
        refine EvP.step (fun k=>aZ.l0.eq_2 (k:=k) ..) (EvP.yes (by omega) (EvP.yes (by omega) ?_))
        rw [rH _ j (by omega),List.getElem_map,rH _ j (by omega),List.getElem_map,List.getElem_map,w64 (n:=(j:Int) + 1) (by omega) (by omega)]
        refine EvP.fD (yM _ (hax _ hm).1 ho) (EvP.yes rfl (EvP.yes (by omega) (EvP.fD (BD 16 _ (by omega) (by omega)) (EvP.yes rfl ?_))))
        exact ih (j + 1) (by omega)
    exact loop ms.length 0 (by omega)
end Go.Proofs.Ytodhbeeibagiaaa.Pure

