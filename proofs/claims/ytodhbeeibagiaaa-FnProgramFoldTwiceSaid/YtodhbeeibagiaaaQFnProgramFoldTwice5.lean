/- Part 6. -/
import Derived.Test.YtodhbeeibagiaaaQFnProgramFoldTwice4
import Derived.Laws.BitsLemmas
set_option maxHeartbeats 8000000
set_option maxRecDepth 100000
namespace Go.Proofs.Ytodhbeeibagiaaa.PA
open Go.RowKit Go.Proofs.YtodhbeeibagiaaaW.PrintWords Go.Proofs.YtodhbeeibagiaaaW.PrintLast Go.Proofs.YtodhbeeibagiaaaW.PrintMore
attribute [local go_sem] max2_int min2_int max_two min_two max_three min_three max_four min_four
set_option linter.unusedVariables false
set_option linter.unusedSimpArgs false
theorem bJ.mono_l:∀ k,(∀ y0 y1 y2 y3 y4 y5 y6 y7 y8,LeO (bJ.j0 k y0 y1 y2 y3 y4 y5 y6 y7 y8) (bJ.j0 (k + 1) y0 y1 y2 y3 y4 y5 y6 y7 y8))
 |0=>fun _ _ _ _ _ _ _ _ _ r h=>by simp [bJ.j0] at h
 |k + 1=>by
  have ih0:=bJ.mono_l k
  ·intro y0 y1 y2 y3 y4 y5 y6 y7 y8
   unfold bJ.j0
   have m0:=@bK.mono
   have m1:=@fQ.mono
   have m2:=@bB.mono
   have m3:=@bV.mono
   have m4:=@bL.mono
   exact mo_
theorem bJ.mono:∀ a0 k,LeO (bJ.f k a0) (bJ.f (k + 1) a0):=by
 intro a0 k
 have ih0:=bJ.mono_l k
 unfold bJ.f
 have m0:=@bK.mono
 have m1:=@fQ.mono
 have m2:=@bB.mono
 have m3:=@bV.mono
 have m4:=@bL.mono
 exact mo_
theorem bJ.calls (k:Nat) (A0:Option Addr) (c0:Nat) (l0:List Int) (r:Bool) (w:World) (hr0:Kd.C (Kd.int .u8) w A0 l0.length l0) (hc0:l0.length≤c0) (h:bJ.f k l0=some r):
  Calls Try.prog 9 #[.slice A0 l0.length c0] w fun e w'=>e= .returned (.bool r)∧Below w.heap.size w w':=by
 have hu46:=Try.underlying46
 have QQ:=am hr0
 have QR:=am hc0
 clear hr0 hc0
 have HB:=am (Below.refl w.heap.size w)
 have H:(if (l0.length:Int) > 1048576 then (some true) else ((bV.f k l0).bind fun q7=>((bK.f k q7.1 q7.2).bind fun jX=>((bL.f k q7.1 q7.2).bind fun jZ=>(if (jX.2.2 != jZ.2.2)=true then (bJ.j0 k jX.2.2 jZ.2.2 true q7.1 q7.2 jX.1 jX.2.1 jZ.1 jZ.2.1) else ((bB.f k jX.1 jX.2.1 jZ.1 jZ.2.1).bind fun qz=>(if qz=true then (bJ.j0 k jX.2.2 jZ.2.2 (!jX.2.2) q7.1 q7.2 jX.1 jX.2.1 jZ.1 jZ.2.1) else (bJ.j0 k jX.2.2 jZ.2.2 true q7.1 q7.2 jX.1 jX.2.1 jZ.1 jZ.2.1))))))))=some r:=h
 clear h
 by_cases c2:(l0.length:Int) > 1048576
 ·rw [if_pos c2] at H
  have qB:decide (1048576 < (l0.length:Int))=true:=decide_eq_true c2
  have qC:decide (1048576 < l0.length)=true:=decide_eq_true (by omega)
  clear c2
  obtain rfl:=Option.some.inj H
  go_enter Try.func9,Try.ntmps9
  go_wp2
  go_ret
  exact ⟨rr_,gK⟩
 rw [if_neg c2] at H
 have qB:decide (1048576 < (l0.length:Int))=false:=decide_eq_false c2
 have qC:decide (1048576 < l0.length)=false:=decide_eq_false (by omega)
 clear c2
 obtain ⟨⟨ji,jz⟩,A3,H⟩:=bsa H
 (try dsimp only at H)
 obtain ⟨⟨jg,jm,jY⟩,A4,H⟩:=bsa H
 (try dsimp only at H)
 obtain ⟨⟨jh,jp,q0⟩,A5,H⟩:=bsa H
 (try dsimp only at H)
 have Jf:=am H
 clear H
 go_enter Try.func9,Try.ntmps9
 go_upto_region 6 with (first|((with_reducible refine aN (f:=26) rfl ?_);refine gl_ 14 Try.func26 #[.slice A0 l0.length c0] ?_;(with_reducible refine (bV.calls k _ _ l0 ji jz _ (aC_ QQ.out) QR.out A3.out).mono ?_);rintro e w7 ⟨Jg,QS,rfl,ho0,ho1,hb⟩;refine ⟨_,rfl,?_⟩;have jF:=am (Kd.kC (Kd.cZ (ok':=fun k_=>True) ho0 (fun _ hk_=>trivial)) (aJ gK));have jI:=am (Kd.dH (Kd.aD (ok':=fun k_=>some k_≠(Jg:Value).ownBlock) ho1 (fun k_ hk_=>hk_.2)) (aJ gK));replace HB:=am (aG gK hb);(try clear hb);(try clear ho0);(try clear ho1))|((with_reducible refine bQ (N:=3) rfl ?_);refine dJ rfl (N:=3) rfl (cs:=#[.slice none 0 0, .slice none 0 0]) (t:=46) rn_ ?_;intro jb hg w8 hbox hb;replace jF:=am (Kd.dW (aR_ jF.out) hb);replace jI:=am (Kd.dG (Kd.fC (aN_ jI.out) jb (Nat.le_of_eq hg.symm)) hb);have j7:=am (hbox);have JJ:=am ((by rw [hg];exact (aJ gK):w.heap.size≤jb));have GE128:=am ((by rw [hg];exact (aJ gK):w.heap.size≤jb));replace HB:=am (aG gK hb);clear hb hbox hg;obtain ⟨jR,jN,QT⟩:=Kd.kP jF.out;subst QT;obtain ⟨qj,qk,ql,qm⟩:=fT j7.out;obtain ⟨jG,jE,Jh⟩:=Kd.dD jI.out;subst Jh)|((with_reducible refine aN (f:=27) rfl ?_);refine gl_ 17 Try.func27 #[.agg #[.slice jR ji.length jN, .slice jG jz.length jE]] ?_;(with_reducible refine (bK.calls k _ _ ji _ _ jz jg jm jY _ ?side1 (Kd.eT jF.out).2.1 ?side3 (Kd.bN jI.out).2.1 A4.out).mono ?_);(case side1=>refine (Kd.eT (e:=3) (base:=w.heap.size) (ok:=fun k_=>True) (n:=ji.length) (c:=jN) ?_).2.2;exact (iC ((Kd.cZ (Kd.dM (p:=⟨jb,1,none⟩) (Kd.dM (p:=⟨jb,0,none⟩) (Kd.eF jF.out j7.out (by decide)) (fun _ hk=>hk.2) (.slice jR ji.length jN)) (fun _ hk=>hk.2) (.slice jG jz.length jE)) (fun _ h_=>h_.1)))));(case side3=>refine (Kd.bN (e:=23) (base:=w.heap.size) (ok:=fun k_=>(some k_≠(.slice jR ji.length jN:Value).ownBlock∧k_≠jb)) (n:=jz.length) (c:=jE) ?_).2.2;exact (eO ((Kd.aD (Kd.aT (p:=⟨jb,1,none⟩) (Kd.aT (p:=⟨jb,0,none⟩) (Kd.aD jI.out (fun k_ hk=>(⟨hk,hk.2⟩:_∧k_≠jb))) (fun _ hk=>hk.2) (.slice jR ji.length jN)) (fun _ hk=>hk.2) (.slice jG jz.length jE)) (fun _ h_=>h_.1)))));rintro e Z2 ⟨Ji,QU,rfl,ho0,ho1,hb⟩;refine ⟨_,rfl,?_⟩;have jJ:=am (Kd.kC (Kd.mZ (Kd.cZ (ok':=fun k_=>True) ho0 (fun _ hk_=>trivial)) (Kd.iY (iC ((Kd.cZ (Kd.dM (p:=⟨jb,1,none⟩) (Kd.dM (p:=⟨jb,0,none⟩) (Kd.eF jF.out j7.out (by decide)) (fun _ hk=>hk.2) (.slice jR ji.length jN)) (fun _ hk=>hk.2) (.slice jG jz.length jE)) (fun _ h_=>h_.1)))))) (aJ HY));have jM:=am (Kd.dH (Kd.aD (ok':=fun k_=>some k_≠(Ji:Value).ownBlock∧some k_≠(.slice jR ji.length jN:Value).ownBlock∧some k_≠(.slice jG jz.length jE:Value).ownBlock∧k_≠jb) ho1 (fun k_ hk_=>⟨hk_.2,(Kd.fresh' (Kd.iY (iC ((Kd.cZ (Kd.dM (p:=⟨jb,1,none⟩) (Kd.dM (p:=⟨jb,0,none⟩) (Kd.eF jF.out j7.out (by decide)) (fun _ hk=>hk.2) (.slice jR ji.length jN)) (fun _ hk=>hk.2) (.slice jG jz.length jE)) (fun _ h_=>h_.1))))) k_ hk_.1),(Kd.fresh' (Kd.iH (eO ((Kd.aD (Kd.aT (p:=⟨jb,1,none⟩) (Kd.aT (p:=⟨jb,0,none⟩) (Kd.aD jI.out (fun k_ hk=>(⟨hk,hk.2⟩:_∧k_≠jb))) (fun _ hk=>hk.2) (.slice jR ji.length jN)) (fun _ hk=>hk.2) (.slice jG jz.length jE)) (fun _ h_=>h_.1))))) k_ hk_.1),(Kd.lF (g:=jb) (o:= .cells #[.slice jR ji.length jN, .slice jG jz.length jE] 46 (0,0)) (aM (aM j7.out 0 _ rfl) 1 _ rfl) k_ hk_.1)⟩)) (aJ HY));replace jF:=am (Kd.kN (iC ((Kd.cZ (Kd.dM (p:=⟨jb,1,none⟩) (Kd.dM (p:=⟨jb,0,none⟩) (Kd.eF jF.out j7.out (by decide)) (fun _ hk=>hk.2) (.slice jR ji.length jN)) (fun _ hk=>hk.2) (.slice jG jz.length jE)) (fun _ h_=>h_.1)))) (Kd.iG ho0) hb);replace jI:=am (Kd.aD (Kd.gZ (Kd.gZ (Kd.tF (eO ((Kd.aD (Kd.aT (p:=⟨jb,1,none⟩) (Kd.aT (p:=⟨jb,0,none⟩) (Kd.aD jI.out (fun k_ hk=>(⟨hk,hk.2⟩:_∧k_≠jb))) (fun _ hk=>hk.2) (.slice jR ji.length jN)) (fun _ hk=>hk.2) (.slice jG jz.length jE)) (fun _ h_=>h_.1)))) hb) (Kd.iG ho0)) (Kd.dL ho1)) (fun _ h_=>h_.1));replace j7:=am (bY (g:=jb) (o:= .cells #[.slice jR ji.length jN, .slice jG jz.length jE] 46 (0,0)) (aM (aM j7.out 0 _ rfl) 1 _ rfl) hb);replace HB:=am (aG HY hb);(try clear hb);(try clear ho0);(try clear ho1))|((with_reducible refine bQ (N:=4) rfl ?_);refine dJ rfl (N:=4) rfl (cs:=#[.slice none 0 0, .slice none 0 0]) (t:=46) rn_ ?_;intro j8 hg Z3 hbox hb;replace jF:=am (Kd.dW (aR_ jF.out) hb);replace jI:=am (Kd.dG (Kd.fC (aN_ jI.out) j8 (Nat.le_of_eq hg.symm)) hb);replace jJ:=am (Kd.dW (aR_ jJ.out) hb);replace jM:=am (Kd.dG (Kd.fC (aN_ jM.out) j8 (Nat.le_of_eq hg.symm)) hb);have j5:=am (hbox);have JK:=am ((by rw [hg];exact (aJ HY):w.heap.size≤j8));have GE133:=am ((by rw [hg];exact (aJ HY):w.heap.size≤j8));replace HB:=am (aG HY hb);have jB:=am ((by rw [hg];exact Nat.ne_of_lt (fO j7.out):jb≠j8));have jK:=am ((by rw [hg];exact Nat.ne_of_gt (fO j7.out):j8≠jb));replace j7:=bbP j7 hb;clear hb hbox hg;obtain ⟨jq,jn,Jj⟩:=Kd.kP jJ.out;subst Jj;have JL:=jK.out;have JM:=jB.out;obtain ⟨qn,qo,qp,qq⟩:=fT j5.out;obtain ⟨jH,jD,Jk⟩:=Kd.dD jM.out;subst Jk;obtain ⟨qr,qs,qt,qu⟩:=fT j7.out)|((with_reducible refine aN (f:=28) rfl ?_);refine gl_ 22 Try.func28 #[.agg #[.slice jR ji.length jN, .slice jG jz.length jE]] ?_;(with_reducible refine (bL.calls k _ _ ji _ _ jz jh jp q0 _ ?side1 (Kd.eT jF.out).2.1 ?side3 (Kd.bN jI.out).2.1 A5.out).mono ?_);(case side1=>refine (Kd.eT (e:=3) (base:=w.heap.size) (ok:=fun k_=>(True∧some k_≠(.slice jq jg.length jn:Value).ownBlock)) (n:=ji.length) (c:=jN) ?_).2.2;exact (iC ((Kd.cZ (Kd.dM (p:=⟨j8,1,none⟩) (Kd.dM (p:=⟨j8,0,none⟩) (Kd.eF jF.out j5.out (by decide)) (fun _ hk=>hk.2) (.slice jq jg.length jn)) (fun _ hk=>hk.2) (.slice jH jm.length jD)) (fun _ h_=>h_.1)))));(case side3=>refine (Kd.bN (e:=23) (base:=w.heap.size) (ok:=fun k_=>((((some k_≠(.slice jR ji.length jN:Value).ownBlock∧k_≠jb)∧some k_≠(.slice jq jg.length jn:Value).ownBlock)∧some k_≠(.slice jH jm.length jD:Value).ownBlock)∧k_≠j8)) (n:=jz.length) (c:=jE) ?_).2.2;exact (eO ((Kd.aD (Kd.aT (p:=⟨j8,1,none⟩) (Kd.aT (p:=⟨j8,0,none⟩) (Kd.aD jI.out (fun k_ hk=>(⟨hk,hk.2⟩:_∧k_≠j8))) (fun _ hk=>hk.2) (.slice jq jg.length jn)) (fun _ hk=>hk.2) (.slice jH jm.length jD)) (fun _ h_=>h_.1)))));rintro e Z4 ⟨Jl,QV,rfl,ho0,ho1,hb⟩;refine ⟨_,rfl,?_⟩;have jU:=am (Kd.kC (Kd.mZ (Kd.mZ (Kd.cZ (ok':=fun k_=>True) ho0 (fun _ hk_=>trivial)) (Kd.iY (iC ((Kd.cZ (Kd.dM (p:=⟨j8,1,none⟩) (Kd.dM (p:=⟨j8,0,none⟩) (Kd.eF jF.out j5.out (by decide)) (fun _ hk=>hk.2) (.slice jq jg.length jn)) (fun _ hk=>hk.2) (.slice jH jm.length jD)) (fun _ h_=>h_.1)))))) (Kd.iY (iC ((Kd.cZ (Kd.dM (p:=⟨j8,1,none⟩) (Kd.dM (p:=⟨j8,0,none⟩) (Kd.eF jJ.out j5.out (by decide)) (fun _ hk=>hk.2) (.slice jq jg.length jn)) (fun _ hk=>hk.2) (.slice jH jm.length jD)) (fun _ h_=>h_.1)))))) (aJ GU));have jV:=am (Kd.dH (Kd.aD (ok':=fun k_=>some k_≠(Jl:Value).ownBlock∧some k_≠(.slice jR ji.length jN:Value).ownBlock∧some k_≠(.slice jG jz.length jE:Value).ownBlock∧some k_≠(.slice jq jg.length jn:Value).ownBlock∧some k_≠(.slice jH jm.length jD:Value).ownBlock∧k_≠jb∧k_≠j8) ho1 (fun k_ hk_=>⟨hk_.2,(Kd.fresh' (Kd.iY (iC ((Kd.cZ (Kd.dM (p:=⟨j8,1,none⟩) (Kd.dM (p:=⟨j8,0,none⟩) (Kd.eF jF.out j5.out (by decide)) (fun _ hk=>hk.2) (.slice jq jg.length jn)) (fun _ hk=>hk.2) (.slice jH jm.length jD)) (fun _ h_=>h_.1))))) k_ hk_.1),(Kd.fresh' (Kd.iH (eO ((Kd.aD (Kd.aT (p:=⟨j8,1,none⟩) (Kd.aT (p:=⟨j8,0,none⟩) (Kd.aD jI.out (fun k_ hk=>(⟨hk,hk.2⟩:_∧k_≠j8))) (fun _ hk=>hk.2) (.slice jq jg.length jn)) (fun _ hk=>hk.2) (.slice jH jm.length jD)) (fun _ h_=>h_.1))))) k_ hk_.1),(Kd.fresh' (Kd.iY (iC ((Kd.cZ (Kd.dM (p:=⟨j8,1,none⟩) (Kd.dM (p:=⟨j8,0,none⟩) (Kd.eF jJ.out j5.out (by decide)) (fun _ hk=>hk.2) (.slice jq jg.length jn)) (fun _ hk=>hk.2) (.slice jH jm.length jD)) (fun _ h_=>h_.1))))) k_ hk_.1),(Kd.fresh' (Kd.iH (eO ((Kd.aD (Kd.aT (p:=⟨j8,1,none⟩) (Kd.aT (p:=⟨j8,0,none⟩) (Kd.aD jM.out (fun k_ hk=>(⟨hk,hk.2⟩:_∧k_≠j8))) (fun _ hk=>hk.2) (.slice jq jg.length jn)) (fun _ hk=>hk.2) (.slice jH jm.length jD)) (fun _ h_=>h_.1))))) k_ hk_.1),(Kd.lF (g:=jb) (o:= .cells #[.slice jR ji.length jN, .slice jG jz.length jE] 46 (0,0)) (aZ (aZ j7.out jB.out _) jB.out _) k_ hk_.1),(Kd.lF (g:=j8) (o:= .cells #[.slice jq jg.length jn, .slice jH jm.length jD] 46 (0,0)) (aM (aM j5.out 0 _ rfl) 1 _ rfl) k_ hk_.1)⟩)) (aJ GU));replace jF:=am (Kd.kN (iC ((Kd.cZ (Kd.dM (p:=⟨j8,1,none⟩) (Kd.dM (p:=⟨j8,0,none⟩) (Kd.eF jF.out j5.out (by decide)) (fun _ hk=>hk.2) (.slice jq jg.length jn)) (fun _ hk=>hk.2) (.slice jH jm.length jD)) (fun _ h_=>h_.1)))) (Kd.iG ho0) hb);replace jI:=am (Kd.aD (Kd.gZ (Kd.gZ (Kd.tF (eO ((Kd.aD (Kd.aT (p:=⟨j8,1,none⟩) (Kd.aT (p:=⟨j8,0,none⟩) (Kd.aD jI.out (fun k_ hk=>(⟨hk,hk.2⟩:_∧k_≠j8))) (fun _ hk=>hk.2) (.slice jq jg.length jn)) (fun _ hk=>hk.2) (.slice jH jm.length jD)) (fun _ h_=>h_.1)))) hb) (Kd.iG ho0)) (Kd.dL ho1)) (fun _ h_=>h_.1));replace jJ:=am (Kd.kN (iC ((Kd.cZ (Kd.dM (p:=⟨j8,1,none⟩) (Kd.dM (p:=⟨j8,0,none⟩) (Kd.eF jJ.out j5.out (by decide)) (fun _ hk=>hk.2) (.slice jq jg.length jn)) (fun _ hk=>hk.2) (.slice jH jm.length jD)) (fun _ h_=>h_.1)))) (Kd.iG ho0) hb);replace jM:=am (Kd.aD (Kd.gZ (Kd.gZ (Kd.tF (eO ((Kd.aD (Kd.aT (p:=⟨j8,1,none⟩) (Kd.aT (p:=⟨j8,0,none⟩) (Kd.aD jM.out (fun k_ hk=>(⟨hk,hk.2⟩:_∧k_≠j8))) (fun _ hk=>hk.2) (.slice jq jg.length jn)) (fun _ hk=>hk.2) (.slice jH jm.length jD)) (fun _ h_=>h_.1)))) hb) (Kd.iG ho0)) (Kd.dL ho1)) (fun _ h_=>h_.1));replace j7:=am (bY (g:=jb) (o:= .cells #[.slice jR ji.length jN, .slice jG jz.length jE] 46 (0,0)) (aZ (aZ j7.out jB.out _) jB.out _) hb);replace j5:=am (bY (g:=j8) (o:= .cells #[.slice jq jg.length jn, .slice jH jm.length jD] 46 (0,0)) (aM (aM j5.out 0 _ rfl) 1 _ rfl) hb);replace HB:=am (aG GU hb);(try clear hb);(try clear ho0);(try clear ho1))|((with_reducible refine bQ (N:=6) rfl ?_);refine dJ rfl (N:=6) rfl (cs:=#[.slice none 0 0, .slice none 0 0]) (t:=46) rn_ ?_;intro j4 hg Z5 hbox hb;replace jF:=am (Kd.dW (aR_ jF.out) hb);replace jI:=am (Kd.dG (Kd.fC (aN_ jI.out) j4 (Nat.le_of_eq hg.symm)) hb);replace jJ:=am (Kd.dW (aR_ jJ.out) hb);replace jM:=am (Kd.dG (Kd.fC (aN_ jM.out) j4 (Nat.le_of_eq hg.symm)) hb);replace jU:=am (Kd.dW (aR_ jU.out) hb);replace jV:=am (Kd.dG (Kd.fC (aN_ jV.out) j4 (Nat.le_of_eq hg.symm)) hb);have ja:=am (hbox);have JN:=am ((by rw [hg];exact (aJ GU):w.heap.size≤j4));have GE138:=am ((by rw [hg];exact (aJ GU):w.heap.size≤j4));replace HB:=am (aG GU hb);have jC:=am ((by rw [hg];exact Nat.ne_of_lt (fO j7.out):jb≠j4));have jS:=am ((by rw [hg];exact Nat.ne_of_gt (fO j7.out):j4≠jb));replace j7:=bbP j7 hb;have js:=am ((by rw [hg];exact Nat.ne_of_lt (fO j5.out):j8≠j4));have jL:=am ((by rw [hg];exact Nat.ne_of_gt (fO j5.out):j4≠j8));replace j5:=bbP j5 hb;clear hb hbox hg;obtain ⟨jk,jj,Jm⟩:=Kd.kP jU.out;subst Jm;have JO:=jS.out;have JP:=jC.out;have JQ:=jL.out;have JR:=js.out;obtain ⟨qv,qw,qx,qy⟩:=fT ja.out;obtain ⟨jA,jv,Jn⟩:=Kd.dD jV.out;subst Jn))
 (try simp only [Act.put,List.setIfInBounds_toArray,List.set_cons_zero,List.set_cons_succ])
 go_cut [37] (fun QW wc=>∃ (kq:Nat) (qe:Bool),QW= .bool qe∧Aside0 (bJ.j0 kq jY q0 qe ji jz jg jm jh jp=some r)∧Aside0 (kq≤k)∧Aside0 (Kd.R (Kd.int .i64) 3 wc w.heap.size (fun k_=>some k_≠((.slice jq jg.length jn):Value).ownBlock∧some k_≠((.slice jk jh.length jj):Value).ownBlock) (.slice jR ji.length jN) ji)∧Aside0 (Kd.N (Kd.slice 35 k35) 23 wc w.heap.size (fun k_=>some k_≠((.slice jR ji.length jN):Value).ownBlock∧some k_≠((.slice jq jg.length jn):Value).ownBlock∧some k_≠((.slice jH jm.length jD):Value).ownBlock∧some k_≠((.slice jk jh.length jj):Value).ownBlock∧some k_≠((.slice jA jp.length jv):Value).ownBlock∧k_≠jb∧k_≠j8∧k_≠j4) (.slice jG jz.length jE) jz)∧Aside0 (Kd.R (Kd.int .i64) 3 wc w.heap.size (fun k_=>some k_≠((.slice jR ji.length jN):Value).ownBlock∧some k_≠((.slice jk jh.length jj):Value).ownBlock) (.slice jq jg.length jn) jg)∧Aside0 (Kd.N (Kd.slice 35 k35) 23 wc w.heap.size (fun k_=>some k_≠((.slice jR ji.length jN):Value).ownBlock∧some k_≠((.slice jG jz.length jE):Value).ownBlock∧some k_≠((.slice jq jg.length jn):Value).ownBlock∧some k_≠((.slice jk jh.length jj):Value).ownBlock∧some k_≠((.slice jA jp.length jv):Value).ownBlock∧k_≠jb∧k_≠j8∧k_≠j4) (.slice jH jm.length jD) jm)∧Aside0 (Kd.R (Kd.int .i64) 3 wc w.heap.size (fun k_=>some k_≠((.slice jR ji.length jN):Value).ownBlock∧some k_≠((.slice jq jg.length jn):Value).ownBlock) (.slice jk jh.length jj) jh)∧Aside0 (Kd.N (Kd.slice 35 k35) 23 wc w.heap.size (fun k_=>some k_≠((.slice jR ji.length jN):Value).ownBlock∧some k_≠((.slice jG jz.length jE):Value).ownBlock∧some k_≠((.slice jq jg.length jn):Value).ownBlock∧some k_≠((.slice jH jm.length jD):Value).ownBlock∧some k_≠((.slice jk jh.length jj):Value).ownBlock∧k_≠jb∧k_≠j8∧k_≠j4) (.slice jA jp.length jv) jp)∧Aside0 (wc.heap[jb]?=some (.cells #[(.slice jR ji.length jN),(.slice jG jz.length jE)] 46 (0,0)))∧Aside0 (wc.heap[j8]?=some (.cells #[(.slice jq jg.length jn),(.slice jH jm.length jD)] 46 (0,0)))∧Aside0 (wc.heap[j4]?=some (.cells #[(.slice jk jh.length jj),(.slice jA jp.length jv)] 46 (0,0)))∧Aside0 (Below w.heap.size w wc))
 case first=>
  have H:=Jf.out
  clear Jf
  by_cases qf:(jY != q0)=true
  ·rw [if_pos qf] at H
   have qc:(jY != q0)=true:=qf
   (try (have qD:decide (jY=q0)=false:=by simpa using qf))
   (try (have qE:(jY == q0)=false:=by simpa using qf))
   (try (have JS:¬ (jY=q0):=by simpa using qf))
   clear qf
   (first|rw [qc]|(simp only [dS,dV];rw [qc])|skip)
   have H':=am H
   clear H
   go_wp2
   go_meet
   case rel=>exact ⟨_,(true),sd_,H',⟨by first|omega|exact Nat.le_refl _⟩,⟨iC (Kd.cZ (Kd.dM (p:=⟨j4,1,none⟩) (Kd.dM (p:=⟨j4,0,none⟩) (Kd.eF jF.out ja.out (by decide)) (fun _ hk=>hk.2) (.slice jk jh.length jj)) (fun _ hk=>hk.2) (.slice jA jp.length jv)) (fun _ hk=>⟨hk.1.1.2,hk.1.2⟩))⟩,⟨eO (Kd.aD (Kd.aT (p:=⟨j4,1,none⟩) (Kd.aT (p:=⟨j4,0,none⟩) (Kd.aD jI.out (fun k_ hk=>(⟨hk,hk.2⟩:_∧k_≠j4))) (fun _ hk=>hk.2) (.slice jk jh.length jj)) (fun _ hk=>hk.2) (.slice jA jp.length jv)) (fun _ hk=>⟨hk.1.1.1.1.1.1.1.1,⟨hk.1.1.1.1.1.1.2,⟨hk.1.1.1.1.1.2,⟨hk.1.1.1.2,⟨hk.1.1.2,⟨hk.1.1.1.1.1.1.1.2,⟨hk.1.1.1.1.2,hk.1.2⟩⟩⟩⟩⟩⟩⟩))⟩,⟨iC (Kd.cZ (Kd.dM (p:=⟨j4,1,none⟩) (Kd.dM (p:=⟨j4,0,none⟩) (Kd.eF jJ.out ja.out (by decide)) (fun _ hk=>hk.2) (.slice jk jh.length jj)) (fun _ hk=>hk.2) (.slice jA jp.length jv)) (fun _ hk=>⟨hk.1.1.2,hk.1.2⟩))⟩,⟨eO (Kd.aD (Kd.aT (p:=⟨j4,1,none⟩) (Kd.aT (p:=⟨j4,0,none⟩) (Kd.aD jM.out (fun k_ hk=>(⟨hk,hk.2⟩:_∧k_≠j4))) (fun _ hk=>hk.2) (.slice jk jh.length jj)) (fun _ hk=>hk.2) (.slice jA jp.length jv)) (fun _ hk=>⟨hk.1.1.1.1.1.2.1,⟨hk.1.1.1.1.1.2.2.1,⟨hk.1.1.1.1.1.1,⟨hk.1.1.1.2,⟨hk.1.1.2,⟨hk.1.1.1.1.1.2.2.2,⟨hk.1.1.1.1.2,hk.1.2⟩⟩⟩⟩⟩⟩⟩))⟩,⟨iC (Kd.cZ (Kd.dM (p:=⟨j4,1,none⟩) (Kd.dM (p:=⟨j4,0,none⟩) (Kd.eF jU.out ja.out (by decide)) (fun _ hk=>hk.2) (.slice jk jh.length jj)) (fun _ hk=>hk.2) (.slice jA jp.length jv)) (fun _ hk=>⟨hk.1.1.2,hk.1.2⟩))⟩,⟨eO (Kd.aD (Kd.aT (p:=⟨j4,1,none⟩) (Kd.aT (p:=⟨j4,0,none⟩) (Kd.aD jV.out (fun k_ hk=>(⟨hk,hk.2⟩:_∧k_≠j4))) (fun _ hk=>hk.2) (.slice jk jh.length jj)) (fun _ hk=>hk.2) (.slice jA jp.length jv)) (fun _ hk=>⟨hk.1.1.2.1,⟨hk.1.1.2.2.1,⟨hk.1.1.2.2.2.1,⟨hk.1.1.2.2.2.2.1,⟨hk.1.1.1,⟨hk.1.1.2.2.2.2.2.1,⟨hk.1.1.2.2.2.2.2.2,hk.1.2⟩⟩⟩⟩⟩⟩⟩))⟩,⟨(aZ (aZ j7.out jC.out _) jC.out _)⟩,⟨(aZ (aZ j5.out js.out _) js.out _)⟩,⟨(aM (aM ja.out 0 _ rfl) 1 _ rfl)⟩,⟨lK⟩⟩
  rw [if_neg qf] at H
  have qc:(jY != q0)=false:=by simpa using qf
  (try (have qD:decide (jY=q0)=true:=by simpa using qf))
  (try (have qE:(jY == q0)=true:=by simpa using qf))
  clear qf
  (first|rw [qc]|(simp only [dS,dV];rw [qc])|skip)
  obtain ⟨qz,qF,H⟩:=bsm H
  (try dsimp only at H)
  have JT:=am qF
  clear qF
  by_cases z7:qz=true
  ·subst z7
   rw [if_pos rfl] at H
   have H':=am H
   clear H
   have JU:=jK.out
   have JV:=jB.out
   have JW:=js.out
   have JX:=jL.out
   obtain ⟨z8,z9,za,zb⟩:=fT j5.out
   have JY:=jS.out
   have JZ:=jC.out
   obtain ⟨zc,zd,ze,zf⟩:=fT ja.out
   go_wp2_with (first|(go_at_call 29;(with_reducible refine (bB.calls k _ _ jg _ _ jm _ _ jh _ _ jp true _ ?side1 (Kd.eT jJ.out).2.1 ?side3 (Kd.bN jM.out).2.1 ?side5 (Kd.eT jU.out).2.1 ?side7 (Kd.bN jV.out).2.1 JT.out).mono ?_);(case side1=>refine (Kd.eT (e:=3) (base:=w.heap.size) (ok:=fun k_=>((True∧some k_≠(.slice jR ji.length jN:Value).ownBlock)∧some k_≠(.slice jk jh.length jj:Value).ownBlock)) (n:=jg.length) (c:=jn) ?_).2.2;exact (iC ((Kd.cZ (Kd.dM (p:=⟨j4,1,none⟩) (Kd.dM (p:=⟨j4,0,none⟩) (Kd.eF jJ.out ja.out (by decide)) (fun _ hk=>hk.2) (.slice jk jh.length jj)) (fun _ hk=>hk.2) (.slice jA jp.length jv)) (fun _ h_=>h_.1)))));(case side3=>refine (Kd.bN (e:=23) (base:=w.heap.size) (ok:=fun k_=>(((((some k_≠(.slice jq jg.length jn:Value).ownBlock∧(some k_≠(.slice jR ji.length jN:Value).ownBlock∧(some k_≠(.slice jG jz.length jE:Value).ownBlock∧k_≠jb)))∧k_≠j8)∧some k_≠(.slice jk jh.length jj:Value).ownBlock)∧some k_≠(.slice jA jp.length jv:Value).ownBlock)∧k_≠j4)) (n:=jm.length) (c:=jD) ?_).2.2;exact (eO ((Kd.aD (Kd.aT (p:=⟨j4,1,none⟩) (Kd.aT (p:=⟨j4,0,none⟩) (Kd.aD jM.out (fun k_ hk=>(⟨hk,hk.2⟩:_∧k_≠j4))) (fun _ hk=>hk.2) (.slice jk jh.length jj)) (fun _ hk=>hk.2) (.slice jA jp.length jv)) (fun _ h_=>h_.1)))));(case side5=>refine (Kd.eT (e:=3) (base:=w.heap.size) (ok:=fun k_=>((True∧some k_≠(.slice jR ji.length jN:Value).ownBlock)∧some k_≠(.slice jq jg.length jn:Value).ownBlock)) (n:=jh.length) (c:=jj) ?_).2.2;exact (iC ((Kd.cZ (Kd.dM (p:=⟨j4,1,none⟩) (Kd.dM (p:=⟨j4,0,none⟩) (Kd.eF jU.out ja.out (by decide)) (fun _ hk=>hk.2) (.slice jk jh.length jj)) (fun _ hk=>hk.2) (.slice jA jp.length jv)) (fun _ h_=>h_.1)))));(case side7=>refine (Kd.bN (e:=23) (base:=w.heap.size) (ok:=fun k_=>((some k_≠(.slice jk jh.length jj:Value).ownBlock∧(some k_≠(.slice jR ji.length jN:Value).ownBlock∧(some k_≠(.slice jG jz.length jE:Value).ownBlock∧(some k_≠(.slice jq jg.length jn:Value).ownBlock∧(some k_≠(.slice jH jm.length jD:Value).ownBlock∧(k_≠jb∧k_≠j8))))))∧k_≠j4)) (n:=jp.length) (c:=jv) ?_).2.2;exact (eO ((Kd.aD (Kd.aT (p:=⟨j4,1,none⟩) (Kd.aT (p:=⟨j4,0,none⟩) (Kd.aD jV.out (fun k_ hk=>(⟨hk,hk.2⟩:_∧k_≠j4))) (fun _ hk=>hk.2) (.slice jk jh.length jj)) (fun _ hk=>hk.2) (.slice jA jp.length jv)) (fun _ h_=>h_.1)))));rintro e Z6 ⟨rfl,hb⟩;replace jF:=am (Kd.dW (iC ((Kd.cZ (Kd.dM (p:=⟨j4,1,none⟩) (Kd.dM (p:=⟨j4,0,none⟩) (Kd.eF jF.out ja.out (by decide)) (fun _ hk=>hk.2) (.slice jk jh.length jj)) (fun _ hk=>hk.2) (.slice jA jp.length jv)) (fun _ h_=>h_.1)))) hb);replace jI:=am (Kd.dG (eO ((Kd.aD (Kd.aT (p:=⟨j4,1,none⟩) (Kd.aT (p:=⟨j4,0,none⟩) (Kd.aD jI.out (fun k_ hk=>(⟨hk,hk.2⟩:_∧k_≠j4))) (fun _ hk=>hk.2) (.slice jk jh.length jj)) (fun _ hk=>hk.2) (.slice jA jp.length jv)) (fun _ h_=>h_.1)))) hb);replace jJ:=am (Kd.dW (iC ((Kd.cZ (Kd.dM (p:=⟨j4,1,none⟩) (Kd.dM (p:=⟨j4,0,none⟩) (Kd.eF jJ.out ja.out (by decide)) (fun _ hk=>hk.2) (.slice jk jh.length jj)) (fun _ hk=>hk.2) (.slice jA jp.length jv)) (fun _ h_=>h_.1)))) hb);replace jM:=am (Kd.dG (eO ((Kd.aD (Kd.aT (p:=⟨j4,1,none⟩) (Kd.aT (p:=⟨j4,0,none⟩) (Kd.aD jM.out (fun k_ hk=>(⟨hk,hk.2⟩:_∧k_≠j4))) (fun _ hk=>hk.2) (.slice jk jh.length jj)) (fun _ hk=>hk.2) (.slice jA jp.length jv)) (fun _ h_=>h_.1)))) hb);replace jU:=am (Kd.dW (iC ((Kd.cZ (Kd.dM (p:=⟨j4,1,none⟩) (Kd.dM (p:=⟨j4,0,none⟩) (Kd.eF jU.out ja.out (by decide)) (fun _ hk=>hk.2) (.slice jk jh.length jj)) (fun _ hk=>hk.2) (.slice jA jp.length jv)) (fun _ h_=>h_.1)))) hb);replace jV:=am (Kd.dG (eO ((Kd.aD (Kd.aT (p:=⟨j4,1,none⟩) (Kd.aT (p:=⟨j4,0,none⟩) (Kd.aD jV.out (fun k_ hk=>(⟨hk,hk.2⟩:_∧k_≠j4))) (fun _ hk=>hk.2) (.slice jk jh.length jj)) (fun _ hk=>hk.2) (.slice jA jp.length jv)) (fun _ h_=>h_.1)))) hb);replace j7:=am (bY (g:=jb) (o:= .cells #[.slice jR ji.length jN, .slice jG jz.length jE] 46 (0,0)) (aZ (aZ j7.out jC.out _) jC.out _) hb);replace j5:=am (bY (g:=j8) (o:= .cells #[.slice jq jg.length jn, .slice jH jm.length jD] 46 (0,0)) (aZ (aZ j5.out js.out _) js.out _) hb);replace ja:=am (bY (g:=j4) (o:= .cells #[.slice jk jh.length jj, .slice jA jp.length jv] 46 (0,0)) (aM (aM ja.out 0 _ rfl) 1 _ rfl) hb);replace HB:=am (aG lK hb);(try clear hb)))
   go_meet
   case rel=>exact ⟨_,(!jY),sd_,H',⟨by first|omega|exact Nat.le_refl _⟩,⟨iC (Kd.cZ jF.out (fun _ hk=>⟨hk.1.2,hk.2⟩))⟩,⟨eO (Kd.aD jI.out (fun _ hk=>⟨hk.1.1.1.1.1.1.1,⟨hk.1.1.1.1.1.2,⟨hk.1.1.1.1.2,⟨hk.1.1.2,⟨hk.1.2,⟨hk.1.1.1.1.1.1.2,⟨hk.1.1.1.2,hk.2⟩⟩⟩⟩⟩⟩⟩))⟩,⟨iC (Kd.cZ jJ.out (fun _ hk=>⟨hk.1.2,hk.2⟩))⟩,⟨eO (Kd.aD jM.out (fun _ hk=>⟨hk.1.1.1.1.2.1,⟨hk.1.1.1.1.2.2.1,⟨hk.1.1.1.1.1,⟨hk.1.1.2,⟨hk.1.2,⟨hk.1.1.1.1.2.2.2,⟨hk.1.1.1.2,hk.2⟩⟩⟩⟩⟩⟩⟩))⟩,⟨iC (Kd.cZ jU.out (fun _ hk=>⟨hk.1.2,hk.2⟩))⟩,⟨eO (Kd.aD jV.out (fun _ hk=>⟨hk.1.2.1,⟨hk.1.2.2.1,⟨hk.1.2.2.2.1,⟨hk.1.2.2.2.2.1,⟨hk.1.1,⟨hk.1.2.2.2.2.2.1,⟨hk.1.2.2.2.2.2.2,hk.2⟩⟩⟩⟩⟩⟩⟩))⟩,⟨by (with_reducible repeat (first|refine dQ ?_ _|refine bT ?_|refine dF ?_ _));exact j7.out⟩,⟨by (with_reducible repeat (first|refine dQ ?_ _|refine bT ?_|refine dF ?_ _));exact j5.out⟩,⟨by (with_reducible repeat (first|refine dQ ?_ _|refine bT ?_|refine dF ?_ _));exact ja.out⟩,⟨lK⟩⟩
  replace z7:=Bool.eq_false_iff.mpr z7
  subst z7
  rw [if_neg (show ¬ (false=true) by decide)] at H
  have H':=am H
  clear H
  have Q0:=jK.out
  have Q1:=jB.out
  have Q2:=js.out
  have Q3:=jL.out
  obtain ⟨zg,zh,zi,zj⟩:=fT j5.out
  have Q4:=jS.out
  have Q5:=jC.out
  obtain ⟨zk,zl,zm,zn⟩:=fT ja.out
  go_wp2_with (first|(go_at_call 29;(with_reducible refine (bB.calls k _ _ jg _ _ jm _ _ jh _ _ jp false _ ?side1 (Kd.eT jJ.out).2.1 ?side3 (Kd.bN jM.out).2.1 ?side5 (Kd.eT jU.out).2.1 ?side7 (Kd.bN jV.out).2.1 JT.out).mono ?_);(case side1=>refine (Kd.eT (e:=3) (base:=w.heap.size) (ok:=fun k_=>((True∧some k_≠(.slice jR ji.length jN:Value).ownBlock)∧some k_≠(.slice jk jh.length jj:Value).ownBlock)) (n:=jg.length) (c:=jn) ?_).2.2;exact (iC ((Kd.cZ (Kd.dM (p:=⟨j4,1,none⟩) (Kd.dM (p:=⟨j4,0,none⟩) (Kd.eF jJ.out ja.out (by decide)) (fun _ hk=>hk.2) (.slice jk jh.length jj)) (fun _ hk=>hk.2) (.slice jA jp.length jv)) (fun _ h_=>h_.1)))));(case side3=>refine (Kd.bN (e:=23) (base:=w.heap.size) (ok:=fun k_=>(((((some k_≠(.slice jq jg.length jn:Value).ownBlock∧(some k_≠(.slice jR ji.length jN:Value).ownBlock∧(some k_≠(.slice jG jz.length jE:Value).ownBlock∧k_≠jb)))∧k_≠j8)∧some k_≠(.slice jk jh.length jj:Value).ownBlock)∧some k_≠(.slice jA jp.length jv:Value).ownBlock)∧k_≠j4)) (n:=jm.length) (c:=jD) ?_).2.2;exact (eO ((Kd.aD (Kd.aT (p:=⟨j4,1,none⟩) (Kd.aT (p:=⟨j4,0,none⟩) (Kd.aD jM.out (fun k_ hk=>(⟨hk,hk.2⟩:_∧k_≠j4))) (fun _ hk=>hk.2) (.slice jk jh.length jj)) (fun _ hk=>hk.2) (.slice jA jp.length jv)) (fun _ h_=>h_.1)))));(case side5=>refine (Kd.eT (e:=3) (base:=w.heap.size) (ok:=fun k_=>((True∧some k_≠(.slice jR ji.length jN:Value).ownBlock)∧some k_≠(.slice jq jg.length jn:Value).ownBlock)) (n:=jh.length) (c:=jj) ?_).2.2;exact (iC ((Kd.cZ (Kd.dM (p:=⟨j4,1,none⟩) (Kd.dM (p:=⟨j4,0,none⟩) (Kd.eF jU.out ja.out (by decide)) (fun _ hk=>hk.2) (.slice jk jh.length jj)) (fun _ hk=>hk.2) (.slice jA jp.length jv)) (fun _ h_=>h_.1)))));(case side7=>refine (Kd.bN (e:=23) (base:=w.heap.size) (ok:=fun k_=>((some k_≠(.slice jk jh.length jj:Value).ownBlock∧(some k_≠(.slice jR ji.length jN:Value).ownBlock∧(some k_≠(.slice jG jz.length jE:Value).ownBlock∧(some k_≠(.slice jq jg.length jn:Value).ownBlock∧(some k_≠(.slice jH jm.length jD:Value).ownBlock∧(k_≠jb∧k_≠j8))))))∧k_≠j4)) (n:=jp.length) (c:=jv) ?_).2.2;exact (eO ((Kd.aD (Kd.aT (p:=⟨j4,1,none⟩) (Kd.aT (p:=⟨j4,0,none⟩) (Kd.aD jV.out (fun k_ hk=>(⟨hk,hk.2⟩:_∧k_≠j4))) (fun _ hk=>hk.2) (.slice jk jh.length jj)) (fun _ hk=>hk.2) (.slice jA jp.length jv)) (fun _ h_=>h_.1)))));rintro e Z7 ⟨rfl,hb⟩;replace jF:=am (Kd.dW (iC ((Kd.cZ (Kd.dM (p:=⟨j4,1,none⟩) (Kd.dM (p:=⟨j4,0,none⟩) (Kd.eF jF.out ja.out (by decide)) (fun _ hk=>hk.2) (.slice jk jh.length jj)) (fun _ hk=>hk.2) (.slice jA jp.length jv)) (fun _ h_=>h_.1)))) hb);replace jI:=am (Kd.dG (eO ((Kd.aD (Kd.aT (p:=⟨j4,1,none⟩) (Kd.aT (p:=⟨j4,0,none⟩) (Kd.aD jI.out (fun k_ hk=>(⟨hk,hk.2⟩:_∧k_≠j4))) (fun _ hk=>hk.2) (.slice jk jh.length jj)) (fun _ hk=>hk.2) (.slice jA jp.length jv)) (fun _ h_=>h_.1)))) hb);replace jJ:=am (Kd.dW (iC ((Kd.cZ (Kd.dM (p:=⟨j4,1,none⟩) (Kd.dM (p:=⟨j4,0,none⟩) (Kd.eF jJ.out ja.out (by decide)) (fun _ hk=>hk.2) (.slice jk jh.length jj)) (fun _ hk=>hk.2) (.slice jA jp.length jv)) (fun _ h_=>h_.1)))) hb);replace jM:=am (Kd.dG (eO ((Kd.aD (Kd.aT (p:=⟨j4,1,none⟩) (Kd.aT (p:=⟨j4,0,none⟩) (Kd.aD jM.out (fun k_ hk=>(⟨hk,hk.2⟩:_∧k_≠j4))) (fun _ hk=>hk.2) (.slice jk jh.length jj)) (fun _ hk=>hk.2) (.slice jA jp.length jv)) (fun _ h_=>h_.1)))) hb);replace jU:=am (Kd.dW (iC ((Kd.cZ (Kd.dM (p:=⟨j4,1,none⟩) (Kd.dM (p:=⟨j4,0,none⟩) (Kd.eF jU.out ja.out (by decide)) (fun _ hk=>hk.2) (.slice jk jh.length jj)) (fun _ hk=>hk.2) (.slice jA jp.length jv)) (fun _ h_=>h_.1)))) hb);replace jV:=am (Kd.dG (eO ((Kd.aD (Kd.aT (p:=⟨j4,1,none⟩) (Kd.aT (p:=⟨j4,0,none⟩) (Kd.aD jV.out (fun k_ hk=>(⟨hk,hk.2⟩:_∧k_≠j4))) (fun _ hk=>hk.2) (.slice jk jh.length jj)) (fun _ hk=>hk.2) (.slice jA jp.length jv)) (fun _ h_=>h_.1)))) hb);replace j7:=am (bY (g:=jb) (o:= .cells #[.slice jR ji.length jN, .slice jG jz.length jE] 46 (0,0)) (aZ (aZ j7.out jC.out _) jC.out _) hb);replace j5:=am (bY (g:=j8) (o:= .cells #[.slice jq jg.length jn, .slice jH jm.length jD] 46 (0,0)) (aZ (aZ j5.out js.out _) js.out _) hb);replace ja:=am (bY (g:=j4) (o:= .cells #[.slice jk jh.length jj, .slice jA jp.length jv] 46 (0,0)) (aM (aM ja.out 0 _ rfl) 1 _ rfl) hb);replace HB:=am (aG lK hb);(try clear hb)))
  go_meet
  case rel=>exact ⟨_,(true),sd_,H',⟨by first|omega|exact Nat.le_refl _⟩,⟨iC (Kd.cZ jF.out (fun _ hk=>⟨hk.1.2,hk.2⟩))⟩,⟨eO (Kd.aD jI.out (fun _ hk=>⟨hk.1.1.1.1.1.1.1,⟨hk.1.1.1.1.1.2,⟨hk.1.1.1.1.2,⟨hk.1.1.2,⟨hk.1.2,⟨hk.1.1.1.1.1.1.2,⟨hk.1.1.1.2,hk.2⟩⟩⟩⟩⟩⟩⟩))⟩,⟨iC (Kd.cZ jJ.out (fun _ hk=>⟨hk.1.2,hk.2⟩))⟩,⟨eO (Kd.aD jM.out (fun _ hk=>⟨hk.1.1.1.1.2.1,⟨hk.1.1.1.1.2.2.1,⟨hk.1.1.1.1.1,⟨hk.1.1.2,⟨hk.1.2,⟨hk.1.1.1.1.2.2.2,⟨hk.1.1.1.2,hk.2⟩⟩⟩⟩⟩⟩⟩))⟩,⟨iC (Kd.cZ jU.out (fun _ hk=>⟨hk.1.2,hk.2⟩))⟩,⟨eO (Kd.aD jV.out (fun _ hk=>⟨hk.1.2.1,⟨hk.1.2.2.1,⟨hk.1.2.2.2.1,⟨hk.1.2.2.2.2.1,⟨hk.1.1,⟨hk.1.2.2.2.2.2.1,⟨hk.1.2.2.2.2.2.2,hk.2⟩⟩⟩⟩⟩⟩⟩))⟩,⟨by (with_reducible repeat (first|refine dQ ?_ _|refine bT ?_|refine dF ?_ _));exact j7.out⟩,⟨by (with_reducible repeat (first|refine dQ ?_ _|refine bT ?_|refine dF ?_ _));exact j5.out⟩,⟨by (with_reducible repeat (first|refine dQ ?_ _|refine bT ?_|refine dF ?_ _));exact ja.out⟩,⟨lK⟩⟩
 case rest=>
  clear Jf
  try clear c2
  try clear qB
  try clear qC
  try clear qj
  try clear qk
  try clear qn
  try clear qo
  try clear qr
  try clear qs
  try clear qv
  try clear qw
  try clear ql
  try clear qm
  try clear qp
  try clear qq
  try clear qt
  try clear qu
  try clear qx
  try clear qy
  obtain ⟨kq,qe,rfl,HA,HJ5,jc,je,j6,j9,jd,jf,j7,j5,ja,HB⟩:=hcut
  cases kq with
  |zero=>exact absurd HA.out (by simp [bJ.j0])
  |succ qg=>
   have H:=HA.out
   clear HA
   simp only [bJ.j0] at H
   by_cases zo:qe=true
   ·subst zo
    rw [if_pos rfl] at H
    by_cases qh:(jY == q0)=true
    ·rw [if_pos qh] at H
     have qG:(jY == q0)=true:=qh
     (try (have qH:decide (jY=q0)=true:=by simpa using qh))
     (try (have qI:(jY == q0)=true:=by simpa using qh))
     clear qh
     obtain ⟨Jo,qJ,H⟩:=bsm H
     (try dsimp only at H)
     have QX:=am qJ
     clear qJ
     obtain rfl:=Option.some.inj H
     have Q6:=jK.out
     have Q7:=jB.out
     have Q8:=js.out
     have Q9:=jL.out
     obtain ⟨zp,zq,zr,zs⟩:=fT j5.out
     have Qa:=jS.out
     have Qb:=jC.out
     obtain ⟨zt,zu,zv,zw⟩:=fT ja.out
     go_wp2_with (first|(go_at_call 29;(with_reducible refine (bB.calls qg _ _ jg _ _ jm _ _ jh _ _ jp Jo _ (aC_ (Kd.eT j6.out).2.2) (Kd.eT j6.out).2.1 (aC_ (Kd.bN j9.out).2.2) (Kd.bN j9.out).2.1 (aC_ (Kd.eT jd.out).2.2) (Kd.eT jd.out).2.1 (aC_ (Kd.bN jf.out).2.2) (Kd.bN jf.out).2.1 QX.out).mono ?_);rintro e Z8 ⟨rfl,hb⟩;replace jc:=am (Kd.dW (aR_ jc.out) hb);replace je:=am (Kd.dG (aN_ je.out) hb);replace j6:=am (Kd.dW (aR_ j6.out) hb);replace j9:=am (Kd.dG (aN_ j9.out) hb);replace jd:=am (Kd.dW (aR_ jd.out) hb);replace jf:=am (Kd.dG (aN_ jf.out) hb);replace j7:=bbP j7 hb;replace j5:=bbP j5 hb;replace ja:=bbP ja hb;replace HB:=am (aG lK hb);(try clear hb)))
     go_ret
     exact ⟨rr_,lK⟩
    rw [if_neg qh] at H
    have qG:(jY == q0)=false:=by simpa using qh
    (try (have qH:decide (jY=q0)=false:=by simpa using qh))
    (try (have qI:(jY == q0)=false:=by simpa using qh))
    (try (have Qc:¬ (jY=q0):=by simpa using qh))
    clear qh
    obtain rfl:=Option.some.inj H
    go_wp2
    go_ret
    exact ⟨rr_,lK⟩
   replace zo:=Bool.eq_false_iff.mpr zo
   subst zo
   rw [if_neg (show ¬ (false=true) by decide)] at H
   obtain ⟨⟨jl,jr,Jp⟩,qK,H⟩:=bsm H
   (try dsimp only at H)
   have zx:=am qK
   clear qK
   by_cases zy:Jp=true
   ·subst zy
    rw [if_pos rfl] at H
    obtain ⟨Jq,qL,H⟩:=bsm H
    (try dsimp only at H)
    have Jr:=am qL
    clear qL
    by_cases zz:Jq=true
    ·subst zz
     rw [if_pos rfl] at H
     obtain ⟨Js,qM,H⟩:=bsm H
     (try dsimp only at H)
     have Qd:=am qM
     clear qM
     by_cases zA:Js=true
     ·subst zA
      rw [if_pos rfl] at H
      obtain ⟨Jt,qN,H⟩:=bsm H
      (try dsimp only at H)
      have QY:=am qN
      clear qN
      obtain rfl:=Option.some.inj H
      have Qe:=jK.out
      have Qf:=jB.out
      have Qg:=js.out
      have Qh:=jL.out
      obtain ⟨zB,zC,zD,zE⟩:=fT j5.out
      go_wp2_with (first|((with_reducible refine aN (f:=27) rfl ?_);refine gl_ 48 Try.func27 #[.agg #[.slice jq jg.length jn, .slice jH jm.length jD]] ?_;(with_reducible refine (bK.calls qg _ _ jg _ _ jm jl jr true _ (aC_ (Kd.eT j6.out).2.2) (Kd.eT j6.out).2.1 (aC_ (Kd.bN j9.out).2.2) (Kd.bN j9.out).2.1 zx.out).mono ?_);rintro e Z9 ⟨qd,qA,rfl,ho0,ho1,hb⟩;refine ⟨_,rfl,?_⟩;have jt:=am (Kd.kC (Kd.mZ (Kd.mZ (Kd.mZ (Kd.cZ (ok':=fun k_=>True) ho0 (fun _ hk_=>trivial)) (Kd.iY (aR_ jc.out))) (Kd.iY (aR_ j6.out))) (Kd.iY (aR_ jd.out))) (aJ lK));have ju:=am (Kd.dH (Kd.aD (ok':=fun k_=>some k_≠(qd:Value).ownBlock∧some k_≠(.slice jR ji.length jN:Value).ownBlock∧some k_≠(.slice jG jz.length jE:Value).ownBlock∧some k_≠(.slice jq jg.length jn:Value).ownBlock∧some k_≠(.slice jH jm.length jD:Value).ownBlock∧some k_≠(.slice jk jh.length jj:Value).ownBlock∧some k_≠(.slice jA jp.length jv:Value).ownBlock∧k_≠jb∧k_≠j8∧k_≠j4) ho1 (fun k_ hk_=>⟨hk_.2,(Kd.fresh' (Kd.iY (aR_ jc.out)) k_ hk_.1),(Kd.fresh' (Kd.iH (aN_ je.out)) k_ hk_.1),(Kd.fresh' (Kd.iY (aR_ j6.out)) k_ hk_.1),(Kd.fresh' (Kd.iH (aN_ j9.out)) k_ hk_.1),(Kd.fresh' (Kd.iY (aR_ jd.out)) k_ hk_.1),(Kd.fresh' (Kd.iH (aN_ jf.out)) k_ hk_.1),(fG j7.out k_ hk_.1),(fG j5.out k_ hk_.1),(fG ja.out k_ hk_.1)⟩)) (aJ lK));replace jc:=am (Kd.kN (aR_ jc.out) (Kd.iG ho0) hb);replace je:=am (Kd.aD (Kd.gZ (Kd.gZ (Kd.tF (aN_ je.out) hb) (Kd.iG ho0)) (Kd.dL ho1)) (fun _ h_=>h_.1));replace j6:=am (Kd.kN (aR_ j6.out) (Kd.iG ho0) hb);replace j9:=am (Kd.aD (Kd.gZ (Kd.gZ (Kd.tF (aN_ j9.out) hb) (Kd.iG ho0)) (Kd.dL ho1)) (fun _ h_=>h_.1));replace jd:=am (Kd.kN (aR_ jd.out) (Kd.iG ho0) hb);replace jf:=am (Kd.aD (Kd.gZ (Kd.gZ (Kd.tF (aN_ jf.out) hb) (Kd.iG ho0)) (Kd.dL ho1)) (fun _ h_=>h_.1));replace j7:=bbP j7 hb;replace j5:=bbP j5 hb;replace ja:=bbP ja hb;replace HB:=am (aG lK hb);(try clear hb);(try clear ho0);(try clear ho1))|((with_reducible refine bQ (N:=8) rfl ?_);refine dJ rfl (N:=8) rfl (cs:=#[.slice none 0 0, .slice none 0 0]) (t:=46) rn_ ?_;intro j3 hg Za hbox hb;replace jc:=am (Kd.dW (aR_ jc.out) hb);replace je:=am (Kd.dG (Kd.fC (aN_ je.out) j3 (Nat.le_of_eq hg.symm)) hb);replace j6:=am (Kd.dW (aR_ j6.out) hb);replace j9:=am (Kd.dG (Kd.fC (aN_ j9.out) j3 (Nat.le_of_eq hg.symm)) hb);replace jd:=am (Kd.dW (aR_ jd.out) hb);replace jf:=am (Kd.dG (Kd.fC (aN_ jf.out) j3 (Nat.le_of_eq hg.symm)) hb);replace jt:=am (Kd.dW (aR_ jt.out) hb);replace ju:=am (Kd.dG (Kd.fC (aN_ ju.out) j3 (Nat.le_of_eq hg.symm)) hb);have jo:=am (hbox);have qi:=am ((by rw [hg];exact (aJ lK):w.heap.size≤j3));have GE162:=am ((by rw [hg];exact (aJ lK):w.heap.size≤j3));replace HB:=am (aG lK hb);have jw:=am ((by rw [hg];exact Nat.ne_of_lt (fO j7.out):jb≠j3));have jO:=am ((by rw [hg];exact Nat.ne_of_gt (fO j7.out):j3≠jb));replace j7:=bbP j7 hb;have jx:=am ((by rw [hg];exact Nat.ne_of_lt (fO j5.out):j8≠j3));have jP:=am ((by rw [hg];exact Nat.ne_of_gt (fO j5.out):j3≠j8));replace j5:=bbP j5 hb;have jy:=am ((by rw [hg];exact Nat.ne_of_lt (fO ja.out):j4≠j3));have jQ:=am ((by rw [hg];exact Nat.ne_of_gt (fO ja.out):j3≠j4));replace ja:=bbP ja hb;clear hb hbox hg;obtain ⟨q4,q1,Ju⟩:=Kd.kP jt.out;subst Ju;have Qi:=jO.out;have Qj:=jw.out;have Qk:=jP.out;have Ql:=jx.out;have Qm:=jQ.out;have Qn:=jy.out;obtain ⟨zF,zG,zH,zI⟩:=fT jo.out;obtain ⟨qa,q8,Jv⟩:=Kd.dD ju.out;subst Jv;obtain ⟨zJ,zK,zL,zM⟩:=fT j5.out)|(go_at_call 29;(with_reducible refine (bB.calls qg _ _ jl _ _ jr _ _ jg _ _ jm true _ ?side1 (Kd.eT jt.out).2.1 ?side3 (Kd.bN ju.out).2.1 ?side5 (Kd.eT j6.out).2.1 ?side7 (Kd.bN j9.out).2.1 Jr.out).mono ?_);(case side1=>refine (Kd.eT (e:=3) (base:=w.heap.size) (ok:=fun k_=>(((True∧some k_≠(.slice jR ji.length jN:Value).ownBlock)∧some k_≠(.slice jq jg.length jn:Value).ownBlock)∧some k_≠(.slice jk jh.length jj:Value).ownBlock)) (n:=jl.length) (c:=q1) ?_).2.2;exact (iC ((Kd.cZ (Kd.dM (p:=⟨j3,1,none⟩) (Kd.dM (p:=⟨j3,0,none⟩) (Kd.eF jt.out jo.out (by decide)) (fun _ hk=>hk.2) (.slice q4 jl.length q1)) (fun _ hk=>hk.2) (.slice qa jr.length q8)) (fun _ h_=>h_.1)))));(case side3=>refine (Kd.bN (e:=23) (base:=w.heap.size) (ok:=fun k_=>((some k_≠(.slice q4 jl.length q1:Value).ownBlock∧(some k_≠(.slice jR ji.length jN:Value).ownBlock∧(some k_≠(.slice jG jz.length jE:Value).ownBlock∧(some k_≠(.slice jq jg.length jn:Value).ownBlock∧(some k_≠(.slice jH jm.length jD:Value).ownBlock∧(some k_≠(.slice jk jh.length jj:Value).ownBlock∧(some k_≠(.slice jA jp.length jv:Value).ownBlock∧(k_≠jb∧(k_≠j8∧k_≠j4)))))))))∧k_≠j3)) (n:=jr.length) (c:=q8) ?_).2.2;exact (eO ((Kd.aD (Kd.aT (p:=⟨j3,1,none⟩) (Kd.aT (p:=⟨j3,0,none⟩) (Kd.aD ju.out (fun k_ hk=>(⟨hk,hk.2⟩:_∧k_≠j3))) (fun _ hk=>hk.2) (.slice q4 jl.length q1)) (fun _ hk=>hk.2) (.slice qa jr.length q8)) (fun _ h_=>h_.1)))));(case side5=>refine (Kd.eT (e:=3) (base:=w.heap.size) (ok:=fun k_=>((some k_≠(.slice jR ji.length jN:Value).ownBlock∧some k_≠(.slice jk jh.length jj:Value).ownBlock)∧some k_≠(.slice q4 jl.length q1:Value).ownBlock)) (n:=jg.length) (c:=jn) ?_).2.2;exact (iC ((Kd.cZ (Kd.dM (p:=⟨j3,1,none⟩) (Kd.dM (p:=⟨j3,0,none⟩) (Kd.eF j6.out jo.out (by decide)) (fun _ hk=>hk.2) (.slice q4 jl.length q1)) (fun _ hk=>hk.2) (.slice qa jr.length q8)) (fun _ h_=>h_.1)))));(case side7=>refine (Kd.bN (e:=23) (base:=w.heap.size) (ok:=fun k_=>((((some k_≠(.slice jR ji.length jN:Value).ownBlock∧(some k_≠(.slice jG jz.length jE:Value).ownBlock∧(some k_≠(.slice jq jg.length jn:Value).ownBlock∧(some k_≠(.slice jk jh.length jj:Value).ownBlock∧(some k_≠(.slice jA jp.length jv:Value).ownBlock∧(k_≠jb∧(k_≠j8∧k_≠j4)))))))∧some k_≠(.slice q4 jl.length q1:Value).ownBlock)∧some k_≠(.slice qa jr.length q8:Value).ownBlock)∧k_≠j3)) (n:=jm.length) (c:=jD) ?_).2.2;exact (eO ((Kd.aD (Kd.aT (p:=⟨j3,1,none⟩) (Kd.aT (p:=⟨j3,0,none⟩) (Kd.aD j9.out (fun k_ hk=>(⟨hk,hk.2⟩:_∧k_≠j3))) (fun _ hk=>hk.2) (.slice q4 jl.length q1)) (fun _ hk=>hk.2) (.slice qa jr.length q8)) (fun _ h_=>h_.1)))));rintro e Zb ⟨rfl,hb⟩;replace jc:=am (Kd.dW (iC ((Kd.cZ (Kd.dM (p:=⟨j3,1,none⟩) (Kd.dM (p:=⟨j3,0,none⟩) (Kd.eF jc.out jo.out (by decide)) (fun _ hk=>hk.2) (.slice q4 jl.length q1)) (fun _ hk=>hk.2) (.slice qa jr.length q8)) (fun _ h_=>h_.1)))) hb);replace je:=am (Kd.dG (eO ((Kd.aD (Kd.aT (p:=⟨j3,1,none⟩) (Kd.aT (p:=⟨j3,0,none⟩) (Kd.aD je.out (fun k_ hk=>(⟨hk,hk.2⟩:_∧k_≠j3))) (fun _ hk=>hk.2) (.slice q4 jl.length q1)) (fun _ hk=>hk.2) (.slice qa jr.length q8)) (fun _ h_=>h_.1)))) hb);replace j6:=am (Kd.dW (iC ((Kd.cZ (Kd.dM (p:=⟨j3,1,none⟩) (Kd.dM (p:=⟨j3,0,none⟩) (Kd.eF j6.out jo.out (by decide)) (fun _ hk=>hk.2) (.slice q4 jl.length q1)) (fun _ hk=>hk.2) (.slice qa jr.length q8)) (fun _ h_=>h_.1)))) hb);replace j9:=am (Kd.dG (eO ((Kd.aD (Kd.aT (p:=⟨j3,1,none⟩) (Kd.aT (p:=⟨j3,0,none⟩) (Kd.aD j9.out (fun k_ hk=>(⟨hk,hk.2⟩:_∧k_≠j3))) (fun _ hk=>hk.2) (.slice q4 jl.length q1)) (fun _ hk=>hk.2) (.slice qa jr.length q8)) (fun _ h_=>h_.1)))) hb);replace jd:=am (Kd.dW (iC ((Kd.cZ (Kd.dM (p:=⟨j3,1,none⟩) (Kd.dM (p:=⟨j3,0,none⟩) (Kd.eF jd.out jo.out (by decide)) (fun _ hk=>hk.2) (.slice q4 jl.length q1)) (fun _ hk=>hk.2) (.slice qa jr.length q8)) (fun _ h_=>h_.1)))) hb);replace jf:=am (Kd.dG (eO ((Kd.aD (Kd.aT (p:=⟨j3,1,none⟩) (Kd.aT (p:=⟨j3,0,none⟩) (Kd.aD jf.out (fun k_ hk=>(⟨hk,hk.2⟩:_∧k_≠j3))) (fun _ hk=>hk.2) (.slice q4 jl.length q1)) (fun _ hk=>hk.2) (.slice qa jr.length q8)) (fun _ h_=>h_.1)))) hb);replace jt:=am (Kd.dW (iC ((Kd.cZ (Kd.dM (p:=⟨j3,1,none⟩) (Kd.dM (p:=⟨j3,0,none⟩) (Kd.eF jt.out jo.out (by decide)) (fun _ hk=>hk.2) (.slice q4 jl.length q1)) (fun _ hk=>hk.2) (.slice qa jr.length q8)) (fun _ h_=>h_.1)))) hb);replace ju:=am (Kd.dG (eO ((Kd.aD (Kd.aT (p:=⟨j3,1,none⟩) (Kd.aT (p:=⟨j3,0,none⟩) (Kd.aD ju.out (fun k_ hk=>(⟨hk,hk.2⟩:_∧k_≠j3))) (fun _ hk=>hk.2) (.slice q4 jl.length q1)) (fun _ hk=>hk.2) (.slice qa jr.length q8)) (fun _ h_=>h_.1)))) hb);replace j7:=am (bY (g:=jb) (o:= .cells #[.slice jR ji.length jN, .slice jG jz.length jE] 46 (0,0)) (aZ (aZ j7.out jw.out _) jw.out _) hb);replace j5:=am (bY (g:=j8) (o:= .cells #[.slice jq jg.length jn, .slice jH jm.length jD] 46 (0,0)) (aZ (aZ j5.out jx.out _) jx.out _) hb);replace ja:=am (bY (g:=j4) (o:= .cells #[.slice jk jh.length jj, .slice jA jp.length jv] 46 (0,0)) (aZ (aZ ja.out jy.out _) jy.out _) hb);replace jo:=am (bY (g:=j3) (o:= .cells #[.slice q4 jl.length q1, .slice qa jr.length q8] 46 (0,0)) (aM (aM jo.out 0 _ rfl) 1 _ rfl) hb);replace HB:=am (aG xP hb);(try clear hb);have Qo:=jC.out;have Qp:=jS.out;obtain ⟨zN,zO,zP,zQ⟩:=fT j7.out)|(go_at_call 30;(with_reducible refine (fQ.calls qg _ _ ji _ _ jz true _ (aC_ (Kd.eT jc.out).2.2) (Kd.eT jc.out).2.1 (aC_ (Kd.bN je.out).2.2) (Kd.bN je.out).2.1 Qd.out).mono ?_);rintro e Zc ⟨rfl,hb⟩;replace jc:=am (Kd.dW (aR_ jc.out) hb);replace je:=am (Kd.dG (aN_ je.out) hb);replace j6:=am (Kd.dW (aR_ j6.out) hb);replace j9:=am (Kd.dG (aN_ j9.out) hb);replace jd:=am (Kd.dW (aR_ jd.out) hb);replace jf:=am (Kd.dG (aN_ jf.out) hb);replace jt:=am (Kd.dW (aR_ jt.out) hb);replace ju:=am (Kd.dG (aN_ ju.out) hb);replace j7:=bbP j7 hb;replace j5:=bbP j5 hb;replace ja:=bbP ja hb;replace jo:=bbP jo hb;replace HB:=am (aG xP hb);(try clear hb);obtain ⟨zR,zS,zT,zU⟩:=fT j5.out)|(go_at_call 30;(with_reducible refine (fQ.calls qg _ _ jg _ _ jm Jt _ (aC_ (Kd.eT j6.out).2.2) (Kd.eT j6.out).2.1 (aC_ (Kd.bN j9.out).2.2) (Kd.bN j9.out).2.1 QY.out).mono ?_);rintro e Zd ⟨rfl,hb⟩;replace jc:=am (Kd.dW (aR_ jc.out) hb);replace je:=am (Kd.dG (aN_ je.out) hb);replace j6:=am (Kd.dW (aR_ j6.out) hb);replace j9:=am (Kd.dG (aN_ j9.out) hb);replace jd:=am (Kd.dW (aR_ jd.out) hb);replace jf:=am (Kd.dG (aN_ jf.out) hb);replace jt:=am (Kd.dW (aR_ jt.out) hb);replace ju:=am (Kd.dG (aN_ ju.out) hb);replace j7:=bbP j7 hb;replace j5:=bbP j5 hb;replace ja:=bbP ja hb;replace jo:=bbP jo hb;replace HB:=am (aG xP hb);(try clear hb)))
      go_ret
      exact ⟨rr_,xP⟩
     replace zA:=Bool.eq_false_iff.mpr zA
     subst zA
     rw [if_neg (show ¬ (false=true) by decide)] at H
     obtain rfl:=Option.some.inj H
     have Qq:=jK.out
     have Qr:=jB.out
     have Qs:=js.out
     have Qt:=jL.out
     obtain ⟨zV,zW,zX,zY⟩:=fT j5.out
     go_wp2_with (first|((with_reducible refine aN (f:=27) rfl ?_);refine gl_ 48 Try.func27 #[.agg #[.slice jq jg.length jn, .slice jH jm.length jD]] ?_;(with_reducible refine (bK.calls qg _ _ jg _ _ jm jl jr true _ (aC_ (Kd.eT j6.out).2.2) (Kd.eT j6.out).2.1 (aC_ (Kd.bN j9.out).2.2) (Kd.bN j9.out).2.1 zx.out).mono ?_);rintro e Ze ⟨qd,qA,rfl,ho0,ho1,hb⟩;refine ⟨_,rfl,?_⟩;have jt:=am (Kd.kC (Kd.mZ (Kd.mZ (Kd.mZ (Kd.cZ (ok':=fun k_=>True) ho0 (fun _ hk_=>trivial)) (Kd.iY (aR_ jc.out))) (Kd.iY (aR_ j6.out))) (Kd.iY (aR_ jd.out))) (aJ lK));have ju:=am (Kd.dH (Kd.aD (ok':=fun k_=>some k_≠(qd:Value).ownBlock∧some k_≠(.slice jR ji.length jN:Value).ownBlock∧some k_≠(.slice jG jz.length jE:Value).ownBlock∧some k_≠(.slice jq jg.length jn:Value).ownBlock∧some k_≠(.slice jH jm.length jD:Value).ownBlock∧some k_≠(.slice jk jh.length jj:Value).ownBlock∧some k_≠(.slice jA jp.length jv:Value).ownBlock∧k_≠jb∧k_≠j8∧k_≠j4) ho1 (fun k_ hk_=>⟨hk_.2,(Kd.fresh' (Kd.iY (aR_ jc.out)) k_ hk_.1),(Kd.fresh' (Kd.iH (aN_ je.out)) k_ hk_.1),(Kd.fresh' (Kd.iY (aR_ j6.out)) k_ hk_.1),(Kd.fresh' (Kd.iH (aN_ j9.out)) k_ hk_.1),(Kd.fresh' (Kd.iY (aR_ jd.out)) k_ hk_.1),(Kd.fresh' (Kd.iH (aN_ jf.out)) k_ hk_.1),(fG j7.out k_ hk_.1),(fG j5.out k_ hk_.1),(fG ja.out k_ hk_.1)⟩)) (aJ lK));replace jc:=am (Kd.kN (aR_ jc.out) (Kd.iG ho0) hb);replace je:=am (Kd.aD (Kd.gZ (Kd.gZ (Kd.tF (aN_ je.out) hb) (Kd.iG ho0)) (Kd.dL ho1)) (fun _ h_=>h_.1));replace j6:=am (Kd.kN (aR_ j6.out) (Kd.iG ho0) hb);replace j9:=am (Kd.aD (Kd.gZ (Kd.gZ (Kd.tF (aN_ j9.out) hb) (Kd.iG ho0)) (Kd.dL ho1)) (fun _ h_=>h_.1));replace jd:=am (Kd.kN (aR_ jd.out) (Kd.iG ho0) hb);replace jf:=am (Kd.aD (Kd.gZ (Kd.gZ (Kd.tF (aN_ jf.out) hb) (Kd.iG ho0)) (Kd.dL ho1)) (fun _ h_=>h_.1));replace j7:=bbP j7 hb;replace j5:=bbP j5 hb;replace ja:=bbP ja hb;replace HB:=am (aG lK hb);(try clear hb);(try clear ho0);(try clear ho1))|((with_reducible refine bQ (N:=8) rfl ?_);refine dJ rfl (N:=8) rfl (cs:=#[.slice none 0 0, .slice none 0 0]) (t:=46) rn_ ?_;intro j3 hg Zf hbox hb;replace jc:=am (Kd.dW (aR_ jc.out) hb);replace je:=am (Kd.dG (Kd.fC (aN_ je.out) j3 (Nat.le_of_eq hg.symm)) hb);replace j6:=am (Kd.dW (aR_ j6.out) hb);replace j9:=am (Kd.dG (Kd.fC (aN_ j9.out) j3 (Nat.le_of_eq hg.symm)) hb);replace jd:=am (Kd.dW (aR_ jd.out) hb);replace jf:=am (Kd.dG (Kd.fC (aN_ jf.out) j3 (Nat.le_of_eq hg.symm)) hb);replace jt:=am (Kd.dW (aR_ jt.out) hb);replace ju:=am (Kd.dG (Kd.fC (aN_ ju.out) j3 (Nat.le_of_eq hg.symm)) hb);have jo:=am (hbox);have qi:=am ((by rw [hg];exact (aJ lK):w.heap.size≤j3));have GE162:=am ((by rw [hg];exact (aJ lK):w.heap.size≤j3));replace HB:=am (aG lK hb);have jw:=am ((by rw [hg];exact Nat.ne_of_lt (fO j7.out):jb≠j3));have jO:=am ((by rw [hg];exact Nat.ne_of_gt (fO j7.out):j3≠jb));replace j7:=bbP j7 hb;have jx:=am ((by rw [hg];exact Nat.ne_of_lt (fO j5.out):j8≠j3));have jP:=am ((by rw [hg];exact Nat.ne_of_gt (fO j5.out):j3≠j8));replace j5:=bbP j5 hb;have jy:=am ((by rw [hg];exact Nat.ne_of_lt (fO ja.out):j4≠j3));have jQ:=am ((by rw [hg];exact Nat.ne_of_gt (fO ja.out):j3≠j4));replace ja:=bbP ja hb;clear hb hbox hg;obtain ⟨q5,q2,Jw⟩:=Kd.kP jt.out;subst Jw;have Qu:=jO.out;have Qv:=jw.out;have Qw:=jP.out;have Qx:=jx.out;have Qy:=jQ.out;have Qz:=jy.out;obtain ⟨zZ,J0,J1,J2⟩:=fT jo.out;obtain ⟨qb,q9,Jx⟩:=Kd.dD ju.out;subst Jx;obtain ⟨J3,J4,J5,J6⟩:=fT j5.out)|(go_at_call 29;(with_reducible refine (bB.calls qg _ _ jl _ _ jr _ _ jg _ _ jm true _ ?side1 (Kd.eT jt.out).2.1 ?side3 (Kd.bN ju.out).2.1 ?side5 (Kd.eT j6.out).2.1 ?side7 (Kd.bN j9.out).2.1 Jr.out).mono ?_);(case side1=>refine (Kd.eT (e:=3) (base:=w.heap.size) (ok:=fun k_=>(((True∧some k_≠(.slice jR ji.length jN:Value).ownBlock)∧some k_≠(.slice jq jg.length jn:Value).ownBlock)∧some k_≠(.slice jk jh.length jj:Value).ownBlock)) (n:=jl.length) (c:=q2) ?_).2.2;exact (iC ((Kd.cZ (Kd.dM (p:=⟨j3,1,none⟩) (Kd.dM (p:=⟨j3,0,none⟩) (Kd.eF jt.out jo.out (by decide)) (fun _ hk=>hk.2) (.slice q5 jl.length q2)) (fun _ hk=>hk.2) (.slice qb jr.length q9)) (fun _ h_=>h_.1)))));(case side3=>refine (Kd.bN (e:=23) (base:=w.heap.size) (ok:=fun k_=>((some k_≠(.slice q5 jl.length q2:Value).ownBlock∧(some k_≠(.slice jR ji.length jN:Value).ownBlock∧(some k_≠(.slice jG jz.length jE:Value).ownBlock∧(some k_≠(.slice jq jg.length jn:Value).ownBlock∧(some k_≠(.slice jH jm.length jD:Value).ownBlock∧(some k_≠(.slice jk jh.length jj:Value).ownBlock∧(some k_≠(.slice jA jp.length jv:Value).ownBlock∧(k_≠jb∧(k_≠j8∧k_≠j4)))))))))∧k_≠j3)) (n:=jr.length) (c:=q9) ?_).2.2;exact (eO ((Kd.aD (Kd.aT (p:=⟨j3,1,none⟩) (Kd.aT (p:=⟨j3,0,none⟩) (Kd.aD ju.out (fun k_ hk=>(⟨hk,hk.2⟩:_∧k_≠j3))) (fun _ hk=>hk.2) (.slice q5 jl.length q2)) (fun _ hk=>hk.2) (.slice qb jr.length q9)) (fun _ h_=>h_.1)))));(case side5=>refine (Kd.eT (e:=3) (base:=w.heap.size) (ok:=fun k_=>((some k_≠(.slice jR ji.length jN:Value).ownBlock∧some k_≠(.slice jk jh.length jj:Value).ownBlock)∧some k_≠(.slice q5 jl.length q2:Value).ownBlock)) (n:=jg.length) (c:=jn) ?_).2.2;exact (iC ((Kd.cZ (Kd.dM (p:=⟨j3,1,none⟩) (Kd.dM (p:=⟨j3,0,none⟩) (Kd.eF j6.out jo.out (by decide)) (fun _ hk=>hk.2) (.slice q5 jl.length q2)) (fun _ hk=>hk.2) (.slice qb jr.length q9)) (fun _ h_=>h_.1)))));(case side7=>refine (Kd.bN (e:=23) (base:=w.heap.size) (ok:=fun k_=>((((some k_≠(.slice jR ji.length jN:Value).ownBlock∧(some k_≠(.slice jG jz.length jE:Value).ownBlock∧(some k_≠(.slice jq jg.length jn:Value).ownBlock∧(some k_≠(.slice jk jh.length jj:Value).ownBlock∧(some k_≠(.slice jA jp.length jv:Value).ownBlock∧(k_≠jb∧(k_≠j8∧k_≠j4)))))))∧some k_≠(.slice q5 jl.length q2:Value).ownBlock)∧some k_≠(.slice qb jr.length q9:Value).ownBlock)∧k_≠j3)) (n:=jm.length) (c:=jD) ?_).2.2;exact (eO ((Kd.aD (Kd.aT (p:=⟨j3,1,none⟩) (Kd.aT (p:=⟨j3,0,none⟩) (Kd.aD j9.out (fun k_ hk=>(⟨hk,hk.2⟩:_∧k_≠j3))) (fun _ hk=>hk.2) (.slice q5 jl.length q2)) (fun _ hk=>hk.2) (.slice qb jr.length q9)) (fun _ h_=>h_.1)))));rintro e Zg ⟨rfl,hb⟩;replace jc:=am (Kd.dW (iC ((Kd.cZ (Kd.dM (p:=⟨j3,1,none⟩) (Kd.dM (p:=⟨j3,0,none⟩) (Kd.eF jc.out jo.out (by decide)) (fun _ hk=>hk.2) (.slice q5 jl.length q2)) (fun _ hk=>hk.2) (.slice qb jr.length q9)) (fun _ h_=>h_.1)))) hb);replace je:=am (Kd.dG (eO ((Kd.aD (Kd.aT (p:=⟨j3,1,none⟩) (Kd.aT (p:=⟨j3,0,none⟩) (Kd.aD je.out (fun k_ hk=>(⟨hk,hk.2⟩:_∧k_≠j3))) (fun _ hk=>hk.2) (.slice q5 jl.length q2)) (fun _ hk=>hk.2) (.slice qb jr.length q9)) (fun _ h_=>h_.1)))) hb);replace j6:=am (Kd.dW (iC ((Kd.cZ (Kd.dM (p:=⟨j3,1,none⟩) (Kd.dM (p:=⟨j3,0,none⟩) (Kd.eF j6.out jo.out (by decide)) (fun _ hk=>hk.2) (.slice q5 jl.length q2)) (fun _ hk=>hk.2) (.slice qb jr.length q9)) (fun _ h_=>h_.1)))) hb);replace j9:=am (Kd.dG (eO ((Kd.aD (Kd.aT (p:=⟨j3,1,none⟩) (Kd.aT (p:=⟨j3,0,none⟩) (Kd.aD j9.out (fun k_ hk=>(⟨hk,hk.2⟩:_∧k_≠j3))) (fun _ hk=>hk.2) (.slice q5 jl.length q2)) (fun _ hk=>hk.2) (.slice qb jr.length q9)) (fun _ h_=>h_.1)))) hb);replace jd:=am (Kd.dW (iC ((Kd.cZ (Kd.dM (p:=⟨j3,1,none⟩) (Kd.dM (p:=⟨j3,0,none⟩) (Kd.eF jd.out jo.out (by decide)) (fun _ hk=>hk.2) (.slice q5 jl.length q2)) (fun _ hk=>hk.2) (.slice qb jr.length q9)) (fun _ h_=>h_.1)))) hb);replace jf:=am (Kd.dG (eO ((Kd.aD (Kd.aT (p:=⟨j3,1,none⟩) (Kd.aT (p:=⟨j3,0,none⟩) (Kd.aD jf.out (fun k_ hk=>(⟨hk,hk.2⟩:_∧k_≠j3))) (fun _ hk=>hk.2) (.slice q5 jl.length q2)) (fun _ hk=>hk.2) (.slice qb jr.length q9)) (fun _ h_=>h_.1)))) hb);replace jt:=am (Kd.dW (iC ((Kd.cZ (Kd.dM (p:=⟨j3,1,none⟩) (Kd.dM (p:=⟨j3,0,none⟩) (Kd.eF jt.out jo.out (by decide)) (fun _ hk=>hk.2) (.slice q5 jl.length q2)) (fun _ hk=>hk.2) (.slice qb jr.length q9)) (fun _ h_=>h_.1)))) hb);replace ju:=am (Kd.dG (eO ((Kd.aD (Kd.aT (p:=⟨j3,1,none⟩) (Kd.aT (p:=⟨j3,0,none⟩) (Kd.aD ju.out (fun k_ hk=>(⟨hk,hk.2⟩:_∧k_≠j3))) (fun _ hk=>hk.2) (.slice q5 jl.length q2)) (fun _ hk=>hk.2) (.slice qb jr.length q9)) (fun _ h_=>h_.1)))) hb);replace j7:=am (bY (g:=jb) (o:= .cells #[.slice jR ji.length jN, .slice jG jz.length jE] 46 (0,0)) (aZ (aZ j7.out jw.out _) jw.out _) hb);replace j5:=am (bY (g:=j8) (o:= .cells #[.slice jq jg.length jn, .slice jH jm.length jD] 46 (0,0)) (aZ (aZ j5.out jx.out _) jx.out _) hb);replace ja:=am (bY (g:=j4) (o:= .cells #[.slice jk jh.length jj, .slice jA jp.length jv] 46 (0,0)) (aZ (aZ ja.out jy.out _) jy.out _) hb);replace jo:=am (bY (g:=j3) (o:= .cells #[.slice q5 jl.length q2, .slice qb jr.length q9] 46 (0,0)) (aM (aM jo.out 0 _ rfl) 1 _ rfl) hb);replace HB:=am (aG xP hb);(try clear hb);have QA:=jC.out;have QB:=jS.out;obtain ⟨J7,J8,J9,Ja⟩:=fT j7.out)|(go_at_call 30;(with_reducible refine (fQ.calls qg _ _ ji _ _ jz false _ (aC_ (Kd.eT jc.out).2.2) (Kd.eT jc.out).2.1 (aC_ (Kd.bN je.out).2.2) (Kd.bN je.out).2.1 Qd.out).mono ?_);rintro e Zh ⟨rfl,hb⟩;replace jc:=am (Kd.dW (aR_ jc.out) hb);replace je:=am (Kd.dG (aN_ je.out) hb);replace j6:=am (Kd.dW (aR_ j6.out) hb);replace j9:=am (Kd.dG (aN_ j9.out) hb);replace jd:=am (Kd.dW (aR_ jd.out) hb);replace jf:=am (Kd.dG (aN_ jf.out) hb);replace jt:=am (Kd.dW (aR_ jt.out) hb);replace ju:=am (Kd.dG (aN_ ju.out) hb);replace j7:=bbP j7 hb;replace j5:=bbP j5 hb;replace ja:=bbP ja hb;replace jo:=bbP jo hb;replace HB:=am (aG xP hb);(try clear hb)))
     go_ret
     exact ⟨rr_,xP⟩
    replace zz:=Bool.eq_false_iff.mpr zz
    subst zz
    rw [if_neg (show ¬ (false=true) by decide)] at H
    obtain rfl:=Option.some.inj H
    have QC:=jK.out
    have QD:=jB.out
    have QE:=js.out
    have QF:=jL.out
    obtain ⟨Jb,Jc,Jd,Je⟩:=fT j5.out
    go_wp2_with (first|((with_reducible refine aN (f:=27) rfl ?_);refine gl_ 48 Try.func27 #[.agg #[.slice jq jg.length jn, .slice jH jm.length jD]] ?_;(with_reducible refine (bK.calls qg _ _ jg _ _ jm jl jr true _ (aC_ (Kd.eT j6.out).2.2) (Kd.eT j6.out).2.1 (aC_ (Kd.bN j9.out).2.2) (Kd.bN j9.out).2.1 zx.out).mono ?_);rintro e Zi ⟨qd,qA,rfl,ho0,ho1,hb⟩;refine ⟨_,rfl,?_⟩;have jt:=am (Kd.kC (Kd.mZ (Kd.mZ (Kd.mZ (Kd.cZ (ok':=fun k_=>True) ho0 (fun _ hk_=>trivial)) (Kd.iY (aR_ jc.out))) (Kd.iY (aR_ j6.out))) (Kd.iY (aR_ jd.out))) (aJ lK));have ju:=am (Kd.dH (Kd.aD (ok':=fun k_=>some k_≠(qd:Value).ownBlock∧some k_≠(.slice jR ji.length jN:Value).ownBlock∧some k_≠(.slice jG jz.length jE:Value).ownBlock∧some k_≠(.slice jq jg.length jn:Value).ownBlock∧some k_≠(.slice jH jm.length jD:Value).ownBlock∧some k_≠(.slice jk jh.length jj:Value).ownBlock∧some k_≠(.slice jA jp.length jv:Value).ownBlock∧k_≠jb∧k_≠j8∧k_≠j4) ho1 (fun k_ hk_=>⟨hk_.2,(Kd.fresh' (Kd.iY (aR_ jc.out)) k_ hk_.1),(Kd.fresh' (Kd.iH (aN_ je.out)) k_ hk_.1),(Kd.fresh' (Kd.iY (aR_ j6.out)) k_ hk_.1),(Kd.fresh' (Kd.iH (aN_ j9.out)) k_ hk_.1),(Kd.fresh' (Kd.iY (aR_ jd.out)) k_ hk_.1),(Kd.fresh' (Kd.iH (aN_ jf.out)) k_ hk_.1),(fG j7.out k_ hk_.1),(fG j5.out k_ hk_.1),(fG ja.out k_ hk_.1)⟩)) (aJ lK));replace jc:=am (Kd.kN (aR_ jc.out) (Kd.iG ho0) hb);replace je:=am (Kd.aD (Kd.gZ (Kd.gZ (Kd.tF (aN_ je.out) hb) (Kd.iG ho0)) (Kd.dL ho1)) (fun _ h_=>h_.1));replace j6:=am (Kd.kN (aR_ j6.out) (Kd.iG ho0) hb);replace j9:=am (Kd.aD (Kd.gZ (Kd.gZ (Kd.tF (aN_ j9.out) hb) (Kd.iG ho0)) (Kd.dL ho1)) (fun _ h_=>h_.1));replace jd:=am (Kd.kN (aR_ jd.out) (Kd.iG ho0) hb);replace jf:=am (Kd.aD (Kd.gZ (Kd.gZ (Kd.tF (aN_ jf.out) hb) (Kd.iG ho0)) (Kd.dL ho1)) (fun _ h_=>h_.1));replace j7:=bbP j7 hb;replace j5:=bbP j5 hb;replace ja:=bbP ja hb;replace HB:=am (aG lK hb);(try clear hb);(try clear ho0);(try clear ho1))|((with_reducible refine bQ (N:=8) rfl ?_);refine dJ rfl (N:=8) rfl (cs:=#[.slice none 0 0, .slice none 0 0]) (t:=46) rn_ ?_;intro j3 hg Zj hbox hb;replace jc:=am (Kd.dW (aR_ jc.out) hb);replace je:=am (Kd.dG (Kd.fC (aN_ je.out) j3 (Nat.le_of_eq hg.symm)) hb);replace j6:=am (Kd.dW (aR_ j6.out) hb);replace j9:=am (Kd.dG (Kd.fC (aN_ j9.out) j3 (Nat.le_of_eq hg.symm)) hb);replace jd:=am (Kd.dW (aR_ jd.out) hb);replace jf:=am (Kd.dG (Kd.fC (aN_ jf.out) j3 (Nat.le_of_eq hg.symm)) hb);replace jt:=am (Kd.dW (aR_ jt.out) hb);replace ju:=am (Kd.dG (Kd.fC (aN_ ju.out) j3 (Nat.le_of_eq hg.symm)) hb);have jo:=am (hbox);have qi:=am ((by rw [hg];exact (aJ lK):w.heap.size≤j3));have GE162:=am ((by rw [hg];exact (aJ lK):w.heap.size≤j3));replace HB:=am (aG lK hb);have jw:=am ((by rw [hg];exact Nat.ne_of_lt (fO j7.out):jb≠j3));have jO:=am ((by rw [hg];exact Nat.ne_of_gt (fO j7.out):j3≠jb));replace j7:=bbP j7 hb;have jx:=am ((by rw [hg];exact Nat.ne_of_lt (fO j5.out):j8≠j3));have jP:=am ((by rw [hg];exact Nat.ne_of_gt (fO j5.out):j3≠j8));replace j5:=bbP j5 hb;have jy:=am ((by rw [hg];exact Nat.ne_of_lt (fO ja.out):j4≠j3));have jQ:=am ((by rw [hg];exact Nat.ne_of_gt (fO ja.out):j3≠j4));replace ja:=bbP ja hb;clear hb hbox hg;obtain ⟨q6,q3,Jy⟩:=Kd.kP jt.out;subst Jy;have QG:=jO.out;have QH:=jw.out;have QI:=jP.out;have QJ:=jx.out;have QK:=jQ.out;have QL:=jy.out;obtain ⟨qO,qP,qQ,qR⟩:=fT jo.out;obtain ⟨jW,jT,qS⟩:=Kd.dD ju.out;subst qS;obtain ⟨qT,qU,qV,qW⟩:=fT j5.out)|(go_at_call 29;(with_reducible refine (bB.calls qg _ _ jl _ _ jr _ _ jg _ _ jm false _ ?side1 (Kd.eT jt.out).2.1 ?side3 (Kd.bN ju.out).2.1 ?side5 (Kd.eT j6.out).2.1 ?side7 (Kd.bN j9.out).2.1 Jr.out).mono ?_);(case side1=>refine (Kd.eT (e:=3) (base:=w.heap.size) (ok:=fun k_=>(((True∧some k_≠(.slice jR ji.length jN:Value).ownBlock)∧some k_≠(.slice jq jg.length jn:Value).ownBlock)∧some k_≠(.slice jk jh.length jj:Value).ownBlock)) (n:=jl.length) (c:=q3) ?_).2.2;exact (iC ((Kd.cZ (Kd.dM (p:=⟨j3,1,none⟩) (Kd.dM (p:=⟨j3,0,none⟩) (Kd.eF jt.out jo.out (by decide)) (fun _ hk=>hk.2) (.slice q6 jl.length q3)) (fun _ hk=>hk.2) (.slice jW jr.length jT)) (fun _ h_=>h_.1)))));(case side3=>refine (Kd.bN (e:=23) (base:=w.heap.size) (ok:=fun k_=>((some k_≠(.slice q6 jl.length q3:Value).ownBlock∧(some k_≠(.slice jR ji.length jN:Value).ownBlock∧(some k_≠(.slice jG jz.length jE:Value).ownBlock∧(some k_≠(.slice jq jg.length jn:Value).ownBlock∧(some k_≠(.slice jH jm.length jD:Value).ownBlock∧(some k_≠(.slice jk jh.length jj:Value).ownBlock∧(some k_≠(.slice jA jp.length jv:Value).ownBlock∧(k_≠jb∧(k_≠j8∧k_≠j4)))))))))∧k_≠j3)) (n:=jr.length) (c:=jT) ?_).2.2;exact (eO ((Kd.aD (Kd.aT (p:=⟨j3,1,none⟩) (Kd.aT (p:=⟨j3,0,none⟩) (Kd.aD ju.out (fun k_ hk=>(⟨hk,hk.2⟩:_∧k_≠j3))) (fun _ hk=>hk.2) (.slice q6 jl.length q3)) (fun _ hk=>hk.2) (.slice jW jr.length jT)) (fun _ h_=>h_.1)))));(case side5=>refine (Kd.eT (e:=3) (base:=w.heap.size) (ok:=fun k_=>((some k_≠(.slice jR ji.length jN:Value).ownBlock∧some k_≠(.slice jk jh.length jj:Value).ownBlock)∧some k_≠(.slice q6 jl.length q3:Value).ownBlock)) (n:=jg.length) (c:=jn) ?_).2.2;exact (iC ((Kd.cZ (Kd.dM (p:=⟨j3,1,none⟩) (Kd.dM (p:=⟨j3,0,none⟩) (Kd.eF j6.out jo.out (by decide)) (fun _ hk=>hk.2) (.slice q6 jl.length q3)) (fun _ hk=>hk.2) (.slice jW jr.length jT)) (fun _ h_=>h_.1)))));(case side7=>refine (Kd.bN (e:=23) (base:=w.heap.size) (ok:=fun k_=>((((some k_≠(.slice jR ji.length jN:Value).ownBlock∧(some k_≠(.slice jG jz.length jE:Value).ownBlock∧(some k_≠(.slice jq jg.length jn:Value).ownBlock∧(some k_≠(.slice jk jh.length jj:Value).ownBlock∧(some k_≠(.slice jA jp.length jv:Value).ownBlock∧(k_≠jb∧(k_≠j8∧k_≠j4)))))))∧some k_≠(.slice q6 jl.length q3:Value).ownBlock)∧some k_≠(.slice jW jr.length jT:Value).ownBlock)∧k_≠j3)) (n:=jm.length) (c:=jD) ?_).2.2;exact (eO ((Kd.aD (Kd.aT (p:=⟨j3,1,none⟩) (Kd.aT (p:=⟨j3,0,none⟩) (Kd.aD j9.out (fun k_ hk=>(⟨hk,hk.2⟩:_∧k_≠j3))) (fun _ hk=>hk.2) (.slice q6 jl.length q3)) (fun _ hk=>hk.2) (.slice jW jr.length jT)) (fun _ h_=>h_.1)))));rintro e QZ ⟨rfl,hb⟩;replace jc:=am (Kd.dW (iC ((Kd.cZ (Kd.dM (p:=⟨j3,1,none⟩) (Kd.dM (p:=⟨j3,0,none⟩) (Kd.eF jc.out jo.out (by decide)) (fun _ hk=>hk.2) (.slice q6 jl.length q3)) (fun _ hk=>hk.2) (.slice jW jr.length jT)) (fun _ h_=>h_.1)))) hb);replace je:=am (Kd.dG (eO ((Kd.aD (Kd.aT (p:=⟨j3,1,none⟩) (Kd.aT (p:=⟨j3,0,none⟩) (Kd.aD je.out (fun k_ hk=>(⟨hk,hk.2⟩:_∧k_≠j3))) (fun _ hk=>hk.2) (.slice q6 jl.length q3)) (fun _ hk=>hk.2) (.slice jW jr.length jT)) (fun _ h_=>h_.1)))) hb);replace j6:=am (Kd.dW (iC ((Kd.cZ (Kd.dM (p:=⟨j3,1,none⟩) (Kd.dM (p:=⟨j3,0,none⟩) (Kd.eF j6.out jo.out (by decide)) (fun _ hk=>hk.2) (.slice q6 jl.length q3)) (fun _ hk=>hk.2) (.slice jW jr.length jT)) (fun _ h_=>h_.1)))) hb);replace j9:=am (Kd.dG (eO ((Kd.aD (Kd.aT (p:=⟨j3,1,none⟩) (Kd.aT (p:=⟨j3,0,none⟩) (Kd.aD j9.out (fun k_ hk=>(⟨hk,hk.2⟩:_∧k_≠j3))) (fun _ hk=>hk.2) (.slice q6 jl.length q3)) (fun _ hk=>hk.2) (.slice jW jr.length jT)) (fun _ h_=>h_.1)))) hb);replace jd:=am (Kd.dW (iC ((Kd.cZ (Kd.dM (p:=⟨j3,1,none⟩) (Kd.dM (p:=⟨j3,0,none⟩) (Kd.eF jd.out jo.out (by decide)) (fun _ hk=>hk.2) (.slice q6 jl.length q3)) (fun _ hk=>hk.2) (.slice jW jr.length jT)) (fun _ h_=>h_.1)))) hb);replace jf:=am (Kd.dG (eO ((Kd.aD (Kd.aT (p:=⟨j3,1,none⟩) (Kd.aT (p:=⟨j3,0,none⟩) (Kd.aD jf.out (fun k_ hk=>(⟨hk,hk.2⟩:_∧k_≠j3))) (fun _ hk=>hk.2) (.slice q6 jl.length q3)) (fun _ hk=>hk.2) (.slice jW jr.length jT)) (fun _ h_=>h_.1)))) hb);replace jt:=am (Kd.dW (iC ((Kd.cZ (Kd.dM (p:=⟨j3,1,none⟩) (Kd.dM (p:=⟨j3,0,none⟩) (Kd.eF jt.out jo.out (by decide)) (fun _ hk=>hk.2) (.slice q6 jl.length q3)) (fun _ hk=>hk.2) (.slice jW jr.length jT)) (fun _ h_=>h_.1)))) hb);replace ju:=am (Kd.dG (eO ((Kd.aD (Kd.aT (p:=⟨j3,1,none⟩) (Kd.aT (p:=⟨j3,0,none⟩) (Kd.aD ju.out (fun k_ hk=>(⟨hk,hk.2⟩:_∧k_≠j3))) (fun _ hk=>hk.2) (.slice q6 jl.length q3)) (fun _ hk=>hk.2) (.slice jW jr.length jT)) (fun _ h_=>h_.1)))) hb);replace j7:=am (bY (g:=jb) (o:= .cells #[.slice jR ji.length jN, .slice jG jz.length jE] 46 (0,0)) (aZ (aZ j7.out jw.out _) jw.out _) hb);replace j5:=am (bY (g:=j8) (o:= .cells #[.slice jq jg.length jn, .slice jH jm.length jD] 46 (0,0)) (aZ (aZ j5.out jx.out _) jx.out _) hb);replace ja:=am (bY (g:=j4) (o:= .cells #[.slice jk jh.length jj, .slice jA jp.length jv] 46 (0,0)) (aZ (aZ ja.out jy.out _) jy.out _) hb);replace jo:=am (bY (g:=j3) (o:= .cells #[.slice q6 jl.length q3, .slice jW jr.length jT] 46 (0,0)) (aM (aM jo.out 0 _ rfl) 1 _ rfl) hb);replace HB:=am (aG xP hb);(try clear hb)))
    go_ret
    exact ⟨rr_,xP⟩
   replace zy:=Bool.eq_false_iff.mpr zy
   subst zy
   rw [if_neg (show ¬ (false=true) by decide)] at H
   obtain rfl:=Option.some.inj H
   have Jz:=jK.out
   have JA:=jB.out
   have JB:=js.out
   have JC:=jL.out
   obtain ⟨qX,qY,qZ,z0⟩:=fT j5.out
   go_wp2_with (first|((with_reducible refine aN (f:=27) rfl ?_);refine gl_ 48 Try.func27 #[.agg #[.slice jq jg.length jn, .slice jH jm.length jD]] ?_;(with_reducible refine (bK.calls qg _ _ jg _ _ jm jl jr false _ (aC_ (Kd.eT j6.out).2.2) (Kd.eT j6.out).2.1 (aC_ (Kd.bN j9.out).2.2) (Kd.bN j9.out).2.1 zx.out).mono ?_);rintro e Z0 ⟨qd,qA,rfl,ho0,ho1,hb⟩;refine ⟨_,rfl,?_⟩;have jt:=am (Kd.kC (Kd.mZ (Kd.mZ (Kd.mZ (Kd.cZ (ok':=fun k_=>True) ho0 (fun _ hk_=>trivial)) (Kd.iY (aR_ jc.out))) (Kd.iY (aR_ j6.out))) (Kd.iY (aR_ jd.out))) (aJ lK));have ju:=am (Kd.dH (Kd.aD (ok':=fun k_=>some k_≠(qd:Value).ownBlock∧some k_≠(.slice jR ji.length jN:Value).ownBlock∧some k_≠(.slice jG jz.length jE:Value).ownBlock∧some k_≠(.slice jq jg.length jn:Value).ownBlock∧some k_≠(.slice jH jm.length jD:Value).ownBlock∧some k_≠(.slice jk jh.length jj:Value).ownBlock∧some k_≠(.slice jA jp.length jv:Value).ownBlock∧k_≠jb∧k_≠j8∧k_≠j4) ho1 (fun k_ hk_=>⟨hk_.2,(Kd.fresh' (Kd.iY (aR_ jc.out)) k_ hk_.1),(Kd.fresh' (Kd.iH (aN_ je.out)) k_ hk_.1),(Kd.fresh' (Kd.iY (aR_ j6.out)) k_ hk_.1),(Kd.fresh' (Kd.iH (aN_ j9.out)) k_ hk_.1),(Kd.fresh' (Kd.iY (aR_ jd.out)) k_ hk_.1),(Kd.fresh' (Kd.iH (aN_ jf.out)) k_ hk_.1),(fG j7.out k_ hk_.1),(fG j5.out k_ hk_.1),(fG ja.out k_ hk_.1)⟩)) (aJ lK));replace jc:=am (Kd.kN (aR_ jc.out) (Kd.iG ho0) hb);replace je:=am (Kd.aD (Kd.gZ (Kd.gZ (Kd.tF (aN_ je.out) hb) (Kd.iG ho0)) (Kd.dL ho1)) (fun _ h_=>h_.1));replace j6:=am (Kd.kN (aR_ j6.out) (Kd.iG ho0) hb);replace j9:=am (Kd.aD (Kd.gZ (Kd.gZ (Kd.tF (aN_ j9.out) hb) (Kd.iG ho0)) (Kd.dL ho1)) (fun _ h_=>h_.1));replace jd:=am (Kd.kN (aR_ jd.out) (Kd.iG ho0) hb);replace jf:=am (Kd.aD (Kd.gZ (Kd.gZ (Kd.tF (aN_ jf.out) hb) (Kd.iG ho0)) (Kd.dL ho1)) (fun _ h_=>h_.1));replace j7:=bbP j7 hb;replace j5:=bbP j5 hb;replace ja:=bbP ja hb;replace HB:=am (aG lK hb);(try clear hb);(try clear ho0);(try clear ho1))|((with_reducible refine bQ (N:=8) rfl ?_);refine dJ rfl (N:=8) rfl (cs:=#[.slice none 0 0, .slice none 0 0]) (t:=46) rn_ ?_;intro j3 hg Z1 hbox hb;replace jc:=am (Kd.dW (aR_ jc.out) hb);replace je:=am (Kd.dG (Kd.fC (aN_ je.out) j3 (Nat.le_of_eq hg.symm)) hb);replace j6:=am (Kd.dW (aR_ j6.out) hb);replace j9:=am (Kd.dG (Kd.fC (aN_ j9.out) j3 (Nat.le_of_eq hg.symm)) hb);replace jd:=am (Kd.dW (aR_ jd.out) hb);replace jf:=am (Kd.dG (Kd.fC (aN_ jf.out) j3 (Nat.le_of_eq hg.symm)) hb);replace jt:=am (Kd.dW (aR_ jt.out) hb);replace ju:=am (Kd.dG (Kd.fC (aN_ ju.out) j3 (Nat.le_of_eq hg.symm)) hb);have jo:=am (hbox);have qi:=am ((by rw [hg];exact (aJ lK):w.heap.size≤j3));have GE162:=am ((by rw [hg];exact (aJ lK):w.heap.size≤j3));replace HB:=am (aG lK hb);have jw:=am ((by rw [hg];exact Nat.ne_of_lt (fO j7.out):jb≠j3));have jO:=am ((by rw [hg];exact Nat.ne_of_gt (fO j7.out):j3≠jb));replace j7:=bbP j7 hb;have jx:=am ((by rw [hg];exact Nat.ne_of_lt (fO j5.out):j8≠j3));have jP:=am ((by rw [hg];exact Nat.ne_of_gt (fO j5.out):j3≠j8));replace j5:=bbP j5 hb;have jy:=am ((by rw [hg];exact Nat.ne_of_lt (fO ja.out):j4≠j3));have jQ:=am ((by rw [hg];exact Nat.ne_of_gt (fO ja.out):j3≠j4));replace ja:=bbP ja hb;clear hb hbox hg;obtain ⟨QM,QN,z1⟩:=Kd.kP jt.out;subst z1;have JD:=jO.out;have JE:=jw.out;have JF:=jP.out;have JG:=jx.out;have JH:=jQ.out;have JI:=jy.out;obtain ⟨z2,z3,z4,z5⟩:=fT jo.out;obtain ⟨QO,QP,z6⟩:=Kd.dD ju.out;subst z6))
   go_ret
   exact ⟨rr_,xP⟩
def bJ.Pure:Prop:=∀ (l0:List Int),l0.length≤maxLen→l0.length * 1≤140737488351232→(∀ x ∈ l0,(Lit.int .u8 x).wf=true)→∃ k,bJ.f k l0=some true
theorem bJ.walk (P:bJ.Pure) (a0:Option Addr) (len0 cap0:Nat) (z0:List Int) (w:World) (w0:(a0=none∧len0=0∧cap0=0∧z0=[])∨∃ x,a0=some x∧len0≤cap0∧cap0≤maxLen∧z0.length=cap0∧(∀ i,i < z0.length→w.cell? (x.add i)=some (.int .u8 (z0.getD i 0)))∧∀ n ∈ z0,(Lit.int .u8 n).wf=true) (y0:len0 * 1≤140737488351232):
  Calls Try.prog 9 #[.slice a0 len0 cap0] w fun e w'=>e= .returned (.bool true)∧Below w.heap.size w w':=by
 obtain ⟨l0,rfl,hr0,hm0,hw0,hc0⟩:=kI.aBx w0
 obtain ⟨k,h⟩:=P l0 hm0 y0 hw0
 refine (bJ.calls k _ _ l0 true w (Kd.DY (d:=(0:Int)) (h1:=fun _=>rfl) hr0) hc0 h).mono ?_
 rintro e w' ⟨rfl,hd⟩
 exact ⟨rfl,hd⟩
end Go.Proofs.Ytodhbeeibagiaaa.PA

namespace Go.Proofs.Ytodhbeeibagiaaa.Core
open Go.RowKit Go.Proofs.YtodhbeeibagiaaaW.PrintWords Go.Proofs.YtodhbeeibagiaaaW.PrintMore
section
variable {α β:Type} {g h:Nat→Option α} {P Q:α→Prop}
def EvP (g:Nat→Option α) (P:α→Prop):Prop:=∃ r,Ev g r∧P r
theorem EvP.ret {r:α} (h:P r):EvP (fun _=>some r) P:=⟨r,Ev.now r,h⟩
theorem EvP.mono (h:EvP g P) (k:∀ a,P a→Q a):EvP g Q:=by
 obtain ⟨r,h1,h2⟩:=h
 exact ⟨r,h1,k r h2⟩
theorem EvP.bind {f:Nat→α→Option β} {R:β→Prop} (h:EvP g P) (k:∀ a,P a→EvP (fun n=>f n a) R):EvP (fun n=>(g n).bind (f n)) R:=by
 obtain ⟨a,h1,h2⟩:=h
 obtain ⟨r,k1,k2⟩:=k a h2
 exact ⟨r,Ev.bind h1 k1,k2⟩
theorem EvP.gP {o:Option α} {a:α} {f:Nat→α→Option β} {R:β→Prop} (h:o=some a) (k:EvP (fun n=>f n a) R):EvP (fun n=>o.bind (f n)) R:=by
 subst h
 exact k
theorem EvP.ite {c:Prop} [Decidable c] (h1:c→EvP g P) (h2:¬ c→EvP h P):EvP (fun n=>if c then g n else h n) P:=by
 by_cases hc:c
 ·simp only [if_pos hc]
  exact h1 hc
 ·simp only [if_neg hc]
  exact h2 hc
theorem EvP.yes {c:Prop} [Decidable c] (hc:c) (h1:EvP g P):EvP (fun n=>if c then g n else h n) P:=by
 simp only [if_pos hc]
 exact h1
theorem EvP.no {c:Prop} [Decidable c] (hc:¬ c) (h1:EvP h P):EvP (fun n=>if c then g n else h n) P:=by
 simp only [if_neg hc]
 exact h1
theorem EvP.step {f:Nat→Option α} (h:∀ k,g (k + 1)=f k) (k:EvP f P):EvP g P:=by
 obtain ⟨r,h1,h2⟩:=k
 exact ⟨r,Ev.step h h1,h2⟩
theorem EvP.ends {r:α} (h:EvP g (·=r)):∃ k,g k=some r:=by
  obtain ⟨a,h1,h2⟩:=h
  subst h2
  exact h1.rounds
theorem EvP.congr {f:Nat→Option α} (h:∀ k,g k=f k) (k:EvP f P):EvP g P:=by
 obtain ⟨r,h1,h2⟩:=k
 exact ⟨r,Ev.congr h h1,h2⟩
theorem EvP.fD {f:Nat→α→Option β} {R:β→Prop} {a:α} (h:EvP g (·=a)) (k:EvP (fun n=>f n a) R):EvP (fun n=>(g n).bind (f n)) R:=
  EvP.bind h (fun b hb=>by subst hb;exact k)
end
theorem w64 {n:Int} (h1:-9223372036854775808≤n) (h2:n≤9223372036854775807):wrap64 n=n:=by
 unfold wrap64
 omega
theorem KT (xs:List Int) (i:Nat) (h:i < xs.length):rd xs (i:Int)=xs[i]:=by
 unfold rd
 rw [Int.toNat_natCast,List.getD_eq_getElem?_getD,List.getElem?_eq_getElem h]
 rfl
theorem WS (xs:List Int) (i:Int) (h0:0≤i) (h:i < xs.length):rd xs i ∈ xs:=by
 unfold rd
 rw [List.getD_eq_getElem?_getD,List.getElem?_eq_getElem (by omega)]
 exact List.getElem_mem _
theorem BM {a b:Int} (h0:0≤a) (hb:0 < b):0≤Int.tmod a b∧Int.tmod a b < b:=by
 rw [Int.tmod_eq_emod_of_nonneg h0]
 exact ⟨Int.emod_nonneg _ (by omega),Int.emod_lt_of_pos _ hb⟩
end Go.Proofs.Ytodhbeeibagiaaa.Core

namespace Go.Proofs.Ytodhbeeibagiaaa.PA
open Go.RowKit Go.Proofs.YtodhbeeibagiaaaW.PrintWords Go.Proofs.YtodhbeeibagiaaaW.PrintMore Go.Proofs.Ytodhbeeibagiaaa.Core
def vw (n:Int):Bool:=decide (-2147483648≤n) && decide (n≤2147483647)
theorem WX {n:Int}:vw n=true ↔ -2147483648≤n∧n≤2147483647:=by
 unfold vw
 rw [Bool.and_eq_true,decide_eq_true_eq,decide_eq_true_eq]
theorem aAz (b:Int):0≤Go.bits .and .i64 b 31∧Go.bits .and .i64 b 31≤31:=by
 simp only [Go.bits]
 rw [show IntKind.i64.bits=64 from rfl,IntKind.wrap_i64,BitVec.toNat_and]
 have h:(BitVec.ofInt 64 b).toNat &&& (BitVec.ofInt 64 31).toNat≤(BitVec.ofInt 64 31).toNat:=Nat.and_le_right
 have e:(BitVec.ofInt 64 31).toNat=31:=by decide
 rw [e] at h ⊢
 omega
theorem uN (a:Int):wrap32 (wrap64 a)=wrap32 a:=by
 unfold wrap32 wrap64
 omega
theorem aAy (a:Int):wrap64 (wrap32 a)=wrap32 a:=by
 unfold wrap32 wrap64
 omega
def ap (op a b:Int):Int:=
 if op=1 then Go.bits .or .i64 a b else if op=2 then Go.bits .xor .i64 a b else if op=3 then Go.bits .and .i64 a b
 else if op=4 then (if a=b then 1 else 0) else if op=5 then (if a < b then 1 else 0)
 else if op=6 then wrap32 (shl .i64 a (Go.bits .and .i64 b 31)) else if op=7 then shr .i64 a (Go.bits .and .i64 b 31)
 else if op=8 then wrap32 (a + b) else if op=9 then wrap32 (a - b) else if op=10 then wrap32 (a * b)
 else if op=11 then (if b=0 then -1 else wrap32 (Int.tdiv a b)) else if b=0 then a else Int.tmod a b
theorem sZ (a b c:Int):fV.f a b c=some (decide (b≤a) && decide (a≤c)):=by
 unfold fV.f
 by_cases h:a≥b
 ·rw [if_pos h,decide_eq_true h,Bool.true_and]
 ·rw [if_neg h,decide_eq_false h,Bool.false_and]
theorem uJ (a:Int):iQ.f a=some (vw a):=by
 unfold iQ.f
 rw [sZ]
 rfl
theorem MS (l m:List Int) (hl:l.length≤1000000000) (hm:l.length=m.length):∀ (d j:Nat),j + d=l.length→EvP (fun k=>eD.l0 k l m (j:Int)) (·=decide (l.drop j=m.drop j)):=by
  intro d
  induction d with
  |zero=>
    intro j hj
    refine EvP.step (fun k=>eD.l0.eq_2 (k:=k) ..) (EvP.no (by omega) (EvP.ret ?_))
    rw [List.drop_eq_nil_of_le (by omega),List.drop_eq_nil_of_le (by omega)]
    rfl
  |succ d ih=>
    intro j hj
    have hlt:j < l.length:=by omega
    have hlm:j < m.length:=by omega
    refine EvP.step (fun k=>eD.l0.eq_2 (k:=k) ..) (EvP.yes (by omega) (EvP.yes (by omega) (EvP.yes (by omega) ?_)))
    rw [KT l j hlt,KT m j hlm,List.drop_eq_getElem_cons hlt,List.drop_eq_getElem_cons hlm]
    refine EvP.ite (fun h=>?_) (fun h=>EvP.ret ?_)
    · rw [h,w64 (by omega) (by omega)]
      refine (ih (j + 1) (by omega)).mono fun a ha=>?_
      rw [ha]
      exact decide_eq_decide.mpr ⟨fun e=>by rw [e],fun e=>(List.cons.inj e).2⟩
    · exact (decide_eq_false (fun e=>h (List.cons.inj e).1)).symm
theorem MR (l m:List Int) (hl:l.length≤1000000000):EvP (fun k=>eD.f k l m) (·=decide (l=m)):=by
  unfold eD.f
  refine EvP.ite (fun h=>?_) (fun h=>EvP.ret ?_)
  · exact MS l m hl (by omega) l.length 0 (by omega)
  · rw [decide_eq_false]
    rintro rfl
    exact h rfl
theorem TK (l:List Int) (hl:l.length≤1000000000):iP.f l=some l:=by
 unfold iP.f
 simp only [Option.bind_some,List.length_nil,List.nil_append]
 rw [if_pos (by omega)]
inductive X where
 |num (n:Int)
 |var (v:Int)
 |bin (op:Int) (a b:X)
namespace X
def ok:X→Prop
 |num n=>0≤n∧n≤99999
 |var v=>0≤v∧v < 4
 |bin op a b=>(1≤op∧op≤12)∧a.ok∧b.ok
def depth:X→Nat
 |num _=>1
 |var _=>1
 |bin _ a b=>max a.depth b.depth + 1
def size:X→Nat
 |num _=>1
 |var _=>1
 |bin _ a b=>a.size + b.size + 1
def eval (g:Int→Int):X→Int
 |num n=>n
 |var v=>g v
 |bin op a b=>ap op (a.eval g) (b.eval g)
def rM (op:Int):X→X→X
 |num m,num n=>if 0≤ap op m n∧ap op m n≤99999 then num (ap op m n) else bin op (num m) (num n)
 |a,b=>bin op a b
def fold:X→X
 |num n=>num n
 |var v=>var v
 |bin op a b=>rM op a.fold b.fold
def isNum:X→Bool
 |num _=>true
 | _=>false
theorem KQ:∀ x:X,1≤x.depth
 |num _|var _=>Nat.le_refl _
 |bin _ _ _=>Nat.le_add_left _ _
theorem TM {op:Int} (ho:1≤op∧op≤12):∀ {a b:X},a.ok→b.ok→(rM op a b).ok:=by
 intro a b ha hb
 unfold rM
 split
 ·split
  ·assumption
  ·exact ⟨ho,ha,hb⟩
 ·exact ⟨ho,ha,hb⟩
theorem rY:∀ x:X,x.ok→x.fold.ok
 |num _,h=>h
 |var _,h=>h
 |bin _ a b,h=>TM h.1 (rY a h.2.1) (rY b h.2.2)
theorem LQ (op:Int) (a b:X):(rM op a b).depth≤max a.depth b.depth + 1:=by
 unfold rM
 split
 ·split
  ·simp [depth]
  ·exact Nat.le_refl _
 ·exact Nat.le_refl _
theorem vH:∀ x:X,x.fold.depth≤x.depth
 |num _=>Nat.le_refl _
 |var _=>Nat.le_refl _
 |bin op a b=>by
  have ha:=vH a
  have hb:=vH b
  have h:=LQ op a.fold b.fold
  simp only [fold,depth]
  omega
theorem LU {op:Int} {a b:X} (h:∀ m n,a=num m→b=num n→¬ (0≤ap op m n∧ap op m n≤99999)):rM op a b=bin op a b:=by
 unfold rM
 split
 ·rw [if_neg (h _ _ rfl rfl)]
 ·rfl
theorem NS (op:Int) (a b:X):(rM op a b=bin op a b)∨∃ m,rM op a b=num m:=by
 unfold rM
 split
 ·split
  ·exact .inr ⟨_,rfl⟩
  ·exact .inl rfl
 ·exact .inl rfl
theorem LP (op:Int) (a b:X) (ha:a.fold=a) (hb:b.fold=b):(rM op a b).fold=rM op a b:=by
 rcases NS op a b with h|⟨m,h⟩
 ·rw [h,fold,ha,hb,h]
 ·rw [h]
  rfl
theorem yN:∀ x:X,x.fold.fold=x.fold
 |num _=>rfl
 |var _=>rfl
 |bin op a b=>LP op _ _ (yN a) (yN b)
end X
def emb:X→S32
 | .num n=>⟨0,n,[]⟩
 | .var v=>⟨13,v,[]⟩
 | .bin op a b=>⟨op,0,[emb a,emb b]⟩
theorem WQ (a b:S32):aY [a,b] 0=a:=rfl
theorem WR (a b:S32):aY [a,b] 1=b:=rfl
theorem BS (a:S32):(⟨a.f0,a.f1,a.f2⟩:S32)=a:=by
 cases a
 rfl
def vx:Nat→Int→Int→List S32→Bool
 |0,_,_,_=>false
 |d + 1,op,n,l=>
  if op=0 then decide (0≤n) && (decide (n≤99999) && decide (l.length=0))
  else if op=13 then decide (0≤n) && (decide (n < 4) && decide (l.length=0))
  else decide (1≤op) && (decide (op≤12) && (decide (n=0) && (match l with
   |[a,b]=>vx d a.f0 a.f1 a.f2 && vx d b.f0 b.f1 b.f2
   | _=>false)))
theorem vN {α:Type} {l:List α} (h:l.length=2):∃ a b,l=[a,b]:=by
 match l,h with
 |[a,b],_=>exact ⟨a,b,rfl⟩
theorem KW:∀ (d:Nat) (op n:Int) (l:List S32),vx d op n l=true→∃ x:X,x.ok∧x.depth≤d∧emb x=⟨op,n,l⟩
 |0,_,_,_,h=>by cases h
 |d + 1,op,n,l,h=>by
  unfold vx at h
  by_cases h0:op=0
  ·rw [if_pos h0] at h
   simp only [Bool.and_eq_true,decide_eq_true_eq] at h
   subst h0
   exact ⟨.num n,⟨h.1,h.2.1⟩,by simp [X.depth],by rw [emb,List.eq_nil_of_length_eq_zero h.2.2]⟩
  ·rw [if_neg h0] at h
   by_cases j3:op=13
   ·rw [if_pos j3] at h
    simp only [Bool.and_eq_true,decide_eq_true_eq] at h
    subst j3
    exact ⟨.var n,⟨h.1,h.2.1⟩,by simp [X.depth],by rw [emb,List.eq_nil_of_length_eq_zero h.2.2]⟩
   ·rw [if_neg j3] at h
    simp only [Bool.and_eq_true,decide_eq_true_eq] at h
    obtain ⟨h1,h2,h3,h4⟩:=h
    split at h4
    ·rename_i a b
     simp only [Bool.and_eq_true] at h4
     obtain ⟨x,x1,x2,x3⟩:=KW d a.f0 a.f1 a.f2 h4.1
     obtain ⟨y,y1,y2,y3⟩:=KW d b.f0 b.f1 b.f2 h4.2
     exact ⟨.bin op x y,⟨⟨h1,h2⟩,x1,y1⟩,by simp only [X.depth];omega,by rw [emb,x3,y3,h3,BS,BS]⟩
    ·cases h4
theorem OM:∀ (x:X) (d:Nat),x.ok→(vx d (emb x).f0 (emb x).f1 (emb x).f2=decide (x.depth≤d))
 |x,0,_=>by
  have:=X.KQ x
  rw [decide_eq_false (by omega)]
  rfl
 | .num n,d + 1,h=>by
  have h:0≤n∧n≤99999:=h
  simp [vx,emb,X.depth,h.1,h.2]
 | .var v,d + 1,h=>by
  have h:0≤v∧v < 4:=h
  simp [vx,emb,X.depth,h.1,h.2]
 | .bin op a b,d + 1,h=>by
  have h1:=h.1
  have ha:=OM a d h.2.1
  have hb:=OM b d h.2.2
  have e0:¬ (op=0):=by omega
  have j3:¬ (op=13):=by omega
  have e:(X.bin op a b).depth=max a.depth b.depth + 1:=rfl
  show (if op=0 then _ else if op=13 then _ else decide (1≤op) && (decide (op≤12) && (true && (vx d (emb a).f0 (emb a).f1 (emb a).f2 && vx d (emb b).f0 (emb b).f1 (emb b).f2))))=_
  rw [if_neg e0,if_neg j3,decide_eq_true h1.1,decide_eq_true h1.2,ha,hb,e,Bool.true_and,Bool.true_and,Bool.true_and,Bool.eq_iff_iff]
  simp only [Bool.and_eq_true,decide_eq_true_eq]
  omega
theorem vU (a:Int):kG.f a=some (decide (1≤a) && decide (a≤12)):=by
 unfold kG.f
 by_cases h:a≥1
 ·rw [if_pos h,decide_eq_true h,Bool.true_and]
 ·rw [if_neg h,decide_eq_false h,Bool.false_and]
theorem vX (a:Int):iD.f a=some (decide (1≤a) && decide (a≤12)):=by
 unfold iD.f
 rw [sZ]
 rfl
theorem rF:∀ (d:Nat) (op n:Int) (l:List S32),d≤1000→EvP (fun k=>eZ.f k op n l (d:Int)) (·=vx d op n l)
  |0,op,n,l,hd=>by
    refine EvP.step (fun k=>eZ.f.eq_2 (k:=k) ..) ?_
    refine EvP.ite (fun h=>?_) (fun h=>?_)
    · refine EvP.ite (fun _=>EvP.ite (fun _=>EvP.ite (fun _=>EvP.ret ?_) (fun _=>EvP.ret ?_)) (fun _=>EvP.ret ?_)) (fun _=>EvP.ret ?_) <;> simp [vx]
    · refine EvP.ite (fun h=>?_) (fun h=>?_)
      · refine EvP.ite (fun _=>EvP.ite (fun _=>EvP.ite (fun _=>EvP.ret ?_) (fun _=>EvP.ret ?_)) (fun _=>EvP.ret ?_)) (fun _=>EvP.ret ?_) <;> simp [vx]
      · refine EvP.gP (vU op) (EvP.ite (fun _=>EvP.ite (fun _=>EvP.ite (fun _=>EvP.no (by omega) (EvP.ret ?_)) (fun _=>EvP.ret ?_)) (fun _=>EvP.ret ?_)) (fun _=>EvP.ret ?_)) <;> simp [vx]
  |d + 1,op,n,l,hd=>by
    refine EvP.step (fun k=>eZ.f.eq_2 (k:=k) ..) ?_
    unfold vx
    refine EvP.ite (fun h=>?_) (fun h=>?_)
    · rw [if_pos h]
      refine EvP.ite (fun h1=>EvP.ite (fun h2=>EvP.ite (fun h3=>EvP.ret ?_) (fun h3=>EvP.ret ?_)) (fun h2=>EvP.ret ?_)) (fun h1=>EvP.ret ?_)
      · rw [decide_eq_true (show 0≤n from h1),decide_eq_true h2,decide_eq_true (show l.length=0 by omega)]
        simp
      · rw [decide_eq_false (p:=l.length=0) (by omega)]
        simp
      · rw [decide_eq_false h2]
        simp
      · rw [decide_eq_false (p:=0≤n) h1]
        simp
    · rw [if_neg h]
      refine EvP.ite (fun h=>?_) (fun j3=>?_)
      · rw [if_pos h]
        refine EvP.ite (fun h1=>EvP.ite (fun h2=>EvP.ite (fun h3=>EvP.ret ?_) (fun h3=>EvP.ret ?_)) (fun h2=>EvP.ret ?_)) (fun h1=>EvP.ret ?_)
        · rw [decide_eq_true (show 0≤n from h1),decide_eq_true h2,decide_eq_true (show l.length=0 by omega)]
          simp
        · rw [decide_eq_false (p:=l.length=0) (by omega)]
          simp
        · rw [decide_eq_false h2]
          simp
        · rw [decide_eq_false (p:=0≤n) h1]
          simp
      · rw [if_neg j3]
        refine EvP.gP (vU op) (EvP.ite (fun h1=>?_) (fun h1=>EvP.ret ?_))
        · simp only [Bool.and_eq_true,decide_eq_true_eq] at h1
          rw [decide_eq_true h1.1,decide_eq_true h1.2]
          refine EvP.ite (fun h2=>?_) (fun h2=>EvP.ret (by rw [decide_eq_false h2];rfl))
          rw [decide_eq_true h2]
          refine EvP.ite (fun h3=>?_) (fun h3=>EvP.ret ?_)
          · obtain ⟨a,b,rfl⟩:=vN (show l.length=2 by omega)
            refine EvP.ite (fun h4=>?_) (fun h4=>EvP.ret ?_)
            · rw [w64 (by omega) (by omega),show ((d + 1:Nat):Int) - 1=(d:Int) by omega,WQ,WR]
              refine EvP.yes (by simp) (EvP.fD (rF d _ _ _ (by omega)) (EvP.ite (fun h5=>?_) (fun h5=>EvP.ret ?_)))
              · refine EvP.yes (by simp) (EvP.fD (rF d _ _ _ (by omega)) (EvP.ret ?_))
                simp [h5]
              · simp [h5]
            · have hd0:d=0:=by omega
              subst hd0
              rfl
          · split
            · simp at h3
            · rfl
        · symm
          rw [Bool.eq_false_iff]
          intro e
          simp only [Bool.and_eq_true,decide_eq_true_eq] at e h1
          exact h1 ⟨e.1,e.2.1⟩
theorem vM:∀ (d:Nat) (op n:Int) (l:List S32),d≤1000→EvP (fun k=>gX.f k op n l (d:Int)) (·=vx d op n l)
  |0,op,n,l,hd=>EvP.step (fun k=>gX.f.eq_2 (k:=k) ..) (EvP.yes (by omega) (EvP.ret rfl))
  |d + 1,op,n,l,hd=>by
    have hlen:((l.length:Int) == 0)=decide (l.length=0):=by
      rw [Bool.eq_iff_iff,beq_iff_eq,decide_eq_true_eq]
      omega
    refine EvP.step (fun k=>gX.f.eq_2 (k:=k) ..) (EvP.no (by omega) ?_)
    unfold vx
    refine EvP.ite (fun h=>?_) (fun h=>?_)
    · rw [if_pos h,sZ]
      refine EvP.gP rfl (EvP.ite (fun h1=>EvP.ret ?_) (fun h1=>EvP.ret ?_))
      · rw [hlen]
        simp only [Bool.and_eq_true,decide_eq_true_eq] at h1
        rw [decide_eq_true h1.1,decide_eq_true h1.2]
        rfl
      · rw [← Bool.and_assoc,Bool.eq_false_iff.mpr h1]
        rfl
    · rw [if_neg h]
      refine EvP.ite (fun h=>?_) (fun j3=>?_)
      · rw [if_pos h,sZ]
        have e3:decide (n < 4)=decide (n≤3):=decide_eq_decide.mpr (by omega)
        rw [e3]
        refine EvP.gP rfl (EvP.ite (fun h1=>EvP.ret ?_) (fun h1=>EvP.ret ?_))
        · rw [hlen]
          simp only [Bool.and_eq_true,decide_eq_true_eq] at h1
          rw [decide_eq_true h1.1,decide_eq_true h1.2]
          rfl
        · rw [← Bool.and_assoc,Bool.eq_false_iff.mpr h1]
          rfl
      · rw [if_neg j3]
        refine EvP.gP (vX op) (EvP.ite (fun h1=>?_) (fun h1=>EvP.ret ?_))
        · simp only [Bool.and_eq_true,decide_eq_true_eq] at h1
          rw [decide_eq_true h1.1,decide_eq_true h1.2]
          refine EvP.ite (fun h2=>?_) (fun h2=>EvP.ret (by rw [decide_eq_false h2];rfl))
          rw [decide_eq_true h2]
          refine EvP.ite (fun h3=>?_) (fun h3=>EvP.ret ?_)
          · obtain ⟨a,b,rfl⟩:=vN (show l.length=2 by omega)
            rw [w64 (by omega) (by omega),show ((d + 1:Nat):Int) - 1=(d:Int) by omega,WQ,WR]
            refine EvP.yes (by simp) (EvP.fD (vM d _ _ _ (by omega)) (EvP.ite (fun h5=>?_) (fun h5=>EvP.ret ?_)))
            · refine EvP.yes (by simp) (EvP.fD (vM d _ _ _ (by omega)) (EvP.ret ?_))
              simp [h5]
            · simp [h5]
          · split
            · simp at h3
            · rfl
        · rw [← Bool.and_assoc,Bool.eq_false_iff.mpr h1]
          rfl
theorem nN (op n:Int) (l:List S32):EvP (fun k=>fA.f k op n l) (·=vx 5 op n l):=by
  unfold fA.f
  exact EvP.fD (vM 5 op n l (by omega)) (EvP.ret rfl)
theorem AV (op n:Int) (l:List S32):EvP (fun k=>iE.f k op n l) (·=vx 5 op n l):=by
  unfold iE.f
  exact EvP.fD (rF 5 op n l (by omega)) (EvP.ret rfl)
mutual
def cS:S35→Nat
 |⟨_,_,_,_,b,e⟩=>cSs b + cSs e
def cSs:List S35→Nat
 |[]=>0
 |x :: xs=>cS x + 1 + cSs xs
end
theorem EM (x:S35):cS x=cSs x.f4 + cSs x.f5:=by
 cases x
 rw [cS]
theorem gF:∀ l:List S35,l.length≤cSs l
 |[]=>Nat.zero_le _
 |x :: xs=>by
  have:=gF xs
  rw [cSs,List.length_cons]
  omega
theorem rQ:∀ l m:List S35,cSs (l ++ m)=cSs l + cSs m
 |[],m=>by rw [cSs];simp
 |x :: xs,m=>by
  rw [List.cons_append,cSs,cSs,rQ xs m]
  omega
theorem vF:∀ (l:List S35) (x:S35),x ∈ l→cS x < cSs l
 |y :: ys,x,h=>by
  rw [cSs]
  rcases List.mem_cons.1 h with rfl|h
  ·omega
  ·have:=vF ys x h
   omega
theorem LK (l:List S35) (i:Nat) (h:i < l.length):cSs (l.drop i)=cS l[i] + 1 + cSs (l.drop (i + 1)):=by
 rw [List.drop_eq_getElem_cons h,cSs]
theorem PV (x:S35):cSs [x]=cS x + 1:=by
 rw [cSs,cSs]
theorem rX:cSs []=0:=by rw [cSs]
theorem FM (l:List S35) (n:Nat):cSs (l.take n) + cSs (l.drop n)=cSs l:=by
 rw [← rQ,List.take_append_drop]
theorem xD (l:List S35) (i:Nat) (h:i < l.length):aC l (i:Int)=l[i]:=by
 unfold aC
 rw [Int.toNat_natCast,List.getD_eq_getElem?_getD,List.getElem?_eq_getElem h]
 rfl
def FH (use:Bool) (va:Int):Bool:=if use=true then decide (0≤va) && decide (va≤3) else va == 0
def xU (boxes:Int) (use:Bool) (bx:Int):Bool:=if use=true then decide (0≤bx) && decide (bx≤boxes - 1) else bx == 0
def nM (op n:Int) (la:List S32):Bool:=op == 0 && (n == 0 && la.length == 0)
def lQ (boxes:Int) (nv nb ne nd no:Bool) (va bx op n:Int) (la:List S32) (lb le:Nat):Bool:=
 FH nv va && (xU boxes nb bx && ((if ne=true then vx 5 op n la else nM op n la) && ((nd || lb == 0) && (no || le == 0))))
def xO (boxes kd va bx op n:Int) (la:List S32) (lb le:Nat):Bool:=
 if kd=1 then lQ boxes true false true false false va bx op n la lb le
 else if kd=2 then lQ boxes false false true true true va bx op n la lb le
 else if kd=3 then lQ boxes false false true true false va bx op n la lb le
 else if kd=4 then lQ boxes false true true false false va bx op n la lb le
 else if kd=5 then lQ boxes true true false false false va bx op n la lb le
 else if kd=7 then lQ boxes false false true false false va bx op n la lb le
 else if kd=6 then lQ boxes false false false false false va bx op n la lb le
 else false
def stS (boxes:Int) (s:S35):Bool:=xO boxes s.f0 s.f1 s.f2 s.f3.f0 s.f3.f1 s.f3.f2 s.f4.length s.f5.length
def oD (s:S35):Bool:=s.f0 == 2 || s.f0 == 3
def iL (boxes:Int):Nat→S35→Bool
 |0,s=>stS boxes s && !oD s
 |d + 1,s=>stS boxes s && (!oD s || (s.f4.all (iL boxes d) && s.f5.all (iL boxes d)))
def okL (boxes:Int) (d:Nat) (l:List S35):Bool:=l.all (iL boxes d)
theorem WH {boxes:Int} {d:Nat} {s:S35} (h:iL boxes d s=true):stS boxes s=true:=by
 cases d <;> (simp only [iL,Bool.and_eq_true] at h;exact h.1)
theorem IV {boxes kd va bx op n:Int} {la:List S32} {lb le:Nat} (h:xO boxes kd va bx op n la lb le=true) (h2:kd≠2) (h3:kd≠3):lb=0∧le=0:=by
 unfold xO at h
 rw [if_neg h2,if_neg h3] at h
 repeat' split at h
 all_goals first
  |(cases h;done)
  |(simp only [lQ,Bool.and_eq_true,Bool.false_or,beq_iff_eq] at h;exact h.2.2.2)
theorem DX {boxes:Int} {s:S35} (h:stS boxes s=true) (h2:¬ (s.f0=2∨s.f0=3)):cS s=0:=by
 obtain ⟨h4,h5⟩:=IV h (fun e=>h2 (.inl e)) (fun e=>h2 (.inr e))
 rw [EM,List.eq_nil_of_length_eq_zero h4,List.eq_nil_of_length_eq_zero h5,cSs]
theorem pF (s:S35):oD s=true ↔ s.f0=2∨s.f0=3:=by
 unfold oD
 simp
theorem aAq (use:Bool) (va:Int):inr va 4 use=FH use va:=by
 rw [Bool.eq_iff_iff]
 cases use
 ·simp [inr,FH]
 ·simp [inr,FH]
  omega
theorem MV (nv nb ne nd no:Bool) (va bx op n:Int) (la:List S32) (lb le:Nat) (boxes:Int):
    EvP (fun k=>lC k nv nb ne nd no va bx op n la lb le boxes) (·=lQ boxes nv nb ne nd no va bx op n la lb le):=by
  unfold lC lQ
  rw [aAq]
  refine EvP.ite (fun h1=>?_) (fun h1=>EvP.ret (by rw [Bool.eq_false_iff.mpr h1];rfl))
  rw [h1,Bool.true_and]
  have hb:(inr bx boxes nb=true∧¬ (nb=true∧boxes≤bx)) ↔ xU boxes nb bx=true:=by
    cases nb
    · simp [inr,xU]
    · simp [inr,xU]
      omega
  refine EvP.ite (fun h2=>EvP.ite (fun h3=>EvP.ret ?_) (fun h3=>?_)) (fun h2=>EvP.ret ?_)
  · have:xU boxes nb bx=false:=Bool.eq_false_iff.mpr (fun e=>(hb.mpr e).2 h3)
    rw [this]
    rfl
  · rw [hb.mp ⟨h2,h3⟩,Bool.true_and]
    refine EvP.ite (fun h4=>?_) (fun h4=>?_)
    · rw [if_pos h4]
      refine EvP.fD (AV op n la) (EvP.ite (fun h5=>EvP.ret (by rw [h5,Bool.true_and])) (fun h5=>EvP.ret (by rw [Bool.eq_false_iff.mpr h5];rfl)))
    · rw [if_neg h4]
      unfold nM
      refine EvP.ite (fun h5=>EvP.ite (fun h6=>EvP.ite (fun h7=>EvP.ret ?_) (fun h7=>EvP.ret ?_)) (fun h6=>EvP.ret ?_)) (fun h5=>EvP.ret ?_)
      · rw [beq_eq_false_iff_ne.mpr (show la.length≠0 by omega)]
        simp
      · rw [h5,h6,beq_iff_eq.mpr (show la.length=0 by omega)]
        simp
      · rw [beq_eq_false_iff_ne.mpr h6]
        simp
      · rw [beq_eq_false_iff_ne.mpr h5]
        simp
  · have:xU boxes nb bx=false:=Bool.eq_false_iff.mpr (fun e=>h2 (hb.mpr e).1)
    rw [this]
    rfl
theorem AY (kd va bx op n:Int) (la:List S32) (lb le:Nat) (boxes:Int):
    EvP (fun k=>fE.f k kd va bx op n la lb le boxes) (·=xO boxes kd va bx op n la lb le):=by
  unfold fE.f xO
  have hr:=fun nv nb ne nd no=>MV nv nb ne nd no va bx op n la lb le boxes
  repeat (refine EvP.ite (fun h=>?_) (fun h=>?_);· rw [if_pos h];exact hr _ _ _ _ _
          rw [if_neg h])
  exact EvP.ret rfl
def OP (boxes:Int) (d:Nat) (l:List S35) (cnt:Int) (p:Bool × Int):Prop:=
 p.1=(okL boxes d l && decide (cnt + cSs l≤16))∧(p.1=true→p.2=cnt + cSs l)
theorem xS (boxes blocks:Int) (d:Nat) (hd:d≤3) (hb:blocks=3 - d) (l:List S35) (hl:cSs l≤1000000000)
  (sub:∀ d',d=d' + 1→∀ (m:List S35) (cnt:Int),cSs m≤1000000000→0≤cnt→cnt≤16→EvP (fun k=>dK.f k m boxes (wrap64 (blocks + 1)) cnt) (OP boxes d' m cnt)):
  ∀ (r j:Nat) (cnt:Int),j + r=l.length→0≤cnt→cnt≤16→
   EvP (fun k=>dK.l0 k l boxes blocks (j:Int) cnt) (fun p=>p.1=(okL boxes d (l.drop j) && decide (cnt + cSs (l.drop j) - r≤16))∧(p.1=true→p.2=cnt + cSs (l.drop j) - r)):=by
 intro r
 have hlen:=gF l
 induction r with
 |zero=>
  intro j cnt hj h0 h1
  refine EvP.step (fun k=>dK.l0.eq_2 (k:=k) ..) (EvP.no (by omega) (EvP.ret ?_))
  rw [List.drop_eq_nil_of_le (by omega),rX]
  constructor
  ·simp [okL]
   omega
  ·intro _
   simp
 |succ r ih=>
  intro j cnt hj h0 h1
  have hlt:j < l.length:=by omega
  have hc:=LK l j hlt
  have hr:r≤cSs (l.drop (j + 1)):=by
   have:=gF (l.drop (j + 1))
   rw [List.length_drop] at this
   omega
  have hm:=vF l _ (List.getElem_mem hlt)
  have hcs:=EM l[j]
  have hall:okL boxes d (l.drop j)=(iL boxes d l[j] && okL boxes d (l.drop (j + 1))):=by
   rw [List.drop_eq_getElem_cons hlt]
   rfl
  rw [hall]
  refine EvP.step (fun k=>dK.l0.eq_2 (k:=k) ..) (EvP.yes (by omega) (EvP.yes (by omega) ?_))
  rw [xD l j hlt,w64 (n:=(j:Int) + 1) (by omega) (by omega)]
  refine EvP.fD (AY _ _ _ _ _ _ _ _ _) (EvP.ite (fun hs=>?_) (fun hs=>EvP.ret ?_))
  ·have hs:stS boxes l[j]=true:=hs
   refine EvP.no (by omega) (EvP.ite (fun hk=>?_) (fun hk=>?_))
   ·have hbk:oD l[j]=true:=(pF _).mpr hk
    cases d with
    |zero=>
     refine EvP.yes (by omega) (EvP.ret ?_)
     have:iL boxes 0 l[j]=false:=by simp [iL,hbk]
     rw [this]
     exact ⟨rfl,fun h=>by cases h⟩
    |succ d'=>
     have ho:iL boxes (d' + 1) l[j]=(okL boxes d' l[j].f4 && okL boxes d' l[j].f5):=by
      simp only [iL,hs,hbk,okL]
      rfl
     rw [ho]
     refine EvP.no (by omega) (EvP.bind (sub d' rfl _ cnt (by omega) h0 h1) fun p hp=>?_)
     obtain ⟨hp1,hp2⟩:=hp
     refine EvP.ite (fun hy=>?_) (fun hy=>EvP.ret ?_)
     ·have e2:=hp2 hy
      rw [hy] at hp1
      have hq:=hp1.symm
      rw [Bool.and_eq_true,decide_eq_true_eq] at hq
      rw [e2]
      refine EvP.bind (sub d' rfl _ _ (by omega) (by omega) hq.2) fun q hq'=>?_
      obtain ⟨hq1,hq2⟩:=hq'
      refine EvP.ite (fun hz=>?_) (fun hz=>EvP.ret ?_)
      ·have e3:=hq2 hz
       rw [hz] at hq1
       have hq3:=hq1.symm
       rw [Bool.and_eq_true,decide_eq_true_eq] at hq3
       rw [e3]
       refine (ih (j + 1) _ (by omega) (by omega) hq3.2).mono fun a ha=>?_
       rw [hq.1,hq3.1,Bool.true_and,Bool.true_and]
       refine ⟨ha.1.trans ?_,fun h=>(ha.2 h).trans ?_⟩
       ·congr 1
        exact decide_eq_decide.mpr (by omega)
       ·omega
      ·have hz':=Bool.eq_false_iff.mpr hz
       rw [hz'] at hq1
       refine ⟨?_,fun h=>by cases h⟩
       show false=_
       symm
       rw [Bool.eq_false_iff]
       intro e
       simp only [Bool.and_eq_true,decide_eq_true_eq] at e
       have:(okL boxes d' l[j].f5 && decide (cnt + ↑(cSs l[j].f4) + ↑(cSs l[j].f5)≤16))=true:=by
        rw [e.1.1.2,decide_eq_true (by omega)]
        rfl
       rw [this] at hq1
       cases hq1
     ·have hy':=Bool.eq_false_iff.mpr hy
      rw [hy'] at hp1
      refine ⟨?_,fun h=>by cases h⟩
      show false=_
      symm
      rw [Bool.eq_false_iff]
      intro e
      simp only [Bool.and_eq_true,decide_eq_true_eq] at e
      have:(okL boxes d' l[j].f4 && decide (cnt + ↑(cSs l[j].f4)≤16))=true:=by
       rw [e.1.1.1,decide_eq_true (by omega)]
       rfl
      rw [this] at hp1
      cases hp1
   ·have hbk:oD l[j]=false:=Bool.eq_false_iff.mpr (fun e=>hk ((pF _).mp e))
    have ho:iL boxes d l[j]=true:=by
     cases d <;> simp [iL,hs,hbk]
    have hz:=DX hs hk
    rw [ho,Bool.true_and]
    refine (ih (j + 1) cnt (by omega) h0 h1).mono fun a ha=>?_
    refine ⟨ha.1.trans ?_,fun h=>(ha.2 h).trans ?_⟩
    ·congr 1
     exact decide_eq_decide.mpr (by omega)
    ·omega
  ·have hs:stS boxes l[j]=false:=Bool.eq_false_iff.mpr hs
   have ho:iL boxes d l[j]=false:=Bool.eq_false_iff.mpr (fun e=>by rw [WH e] at hs;cases hs)
   rw [ho]
   exact ⟨rfl,fun h=>by cases h⟩
theorem yQ (boxes:Int):∀ (d:Nat) (blocks:Int) (l:List S35) (cnt:Int),d≤3→blocks=3 - d→cSs l≤1000000000→0≤cnt→cnt≤16→
  EvP (fun k=>dK.f k l boxes blocks cnt) (OP boxes d l cnt):=by
 intro d
 induction d with
 |zero=>
  intro blocks l cnt hd hb hl h0 h1
  have hlen:=gF l
  refine EvP.step (fun k=>dK.f.eq_2 (k:=k) ..) ?_
  rw [w64 (n:=cnt + (l.length:Int)) (by omega) (by omega)]
  refine EvP.ite (fun h=>EvP.ret ?_) (fun h=>?_)
  ·refine ⟨?_,fun h=>by cases h⟩
   rw [decide_eq_false (by omega)]
   simp
  ·refine (xS boxes blocks 0 hd hb l hl (fun d' e=>by omega) l.length 0 _ (by omega) (by omega) (by omega)).mono fun a ha=>?_
   rw [List.drop_zero] at ha
   refine ⟨ha.1.trans ?_,fun h=>(ha.2 h).trans ?_⟩
   ·congr 1
    exact decide_eq_decide.mpr (by omega)
   ·omega
 |succ d ih=>
  intro blocks l cnt hd hb hl h0 h1
  have hlen:=gF l
  refine EvP.step (fun k=>dK.f.eq_2 (k:=k) ..) ?_
  rw [w64 (n:=cnt + (l.length:Int)) (by omega) (by omega)]
  refine EvP.ite (fun h=>EvP.ret ?_) (fun h=>?_)
  ·refine ⟨?_,fun h=>by cases h⟩
   rw [decide_eq_false (by omega)]
   simp
  ·refine (xS boxes blocks (d + 1) hd hb l hl (fun d' e m cnt hm h0 h1=>?_) l.length 0 _ (by omega) (by omega) (by omega)).mono fun a ha=>?_
   ·have e':d=d':=by omega
    subst e'
    rw [w64 (by omega) (by omega)]
    exact ih _ m cnt (by omega) (by omega) hm h0 h1
   ·rw [List.drop_zero] at ha
    refine ⟨ha.1.trans ?_,fun h=>(ha.2 h).trans ?_⟩
    ·congr 1
     exact decide_eq_decide.mpr (by omega)
    ·omega
def okT (boxes:Int) (l:List S35):Bool:=okL boxes 3 l && decide (cSs l≤16)
theorem yS (boxes:Int) (l:List S35) (hl:cSs l≤1000000000):EvP (fun k=>gH.f k l boxes) (·=okT boxes l):=by
  unfold gH.f
  refine EvP.bind (yQ boxes 3 0 l 0 (by omega) (by omega) hl (by omega) (by omega)) fun p hp=>EvP.ret ?_
  rw [hp.1]
  unfold okT
  congr 1
  exact decide_eq_decide.mpr (by omega)
theorem mQ (a b c d e:Int) (l:List S32) (m n:List S35) (u:Bool):fH.f a b c d e l m n u=some (FH u b):=by
 unfold fH.f FH
 rw [sZ]
 cases u <;> rfl
theorem mP (a b c d e:Int) (l:List S32) (m n:List S35) (u:Bool):gD.f a b c d e l m n u=some (xU 3 u c):=by
 unfold gD.f xU
 rw [sZ]
 cases u <;> rfl
theorem uY (op n:Int) (l:List S32):lN.f op n l=some (nM op n l):=by
 unfold lN.f nM
 have hlen:((l.length:Int) == 0)=(l.length == 0):=by
  rw [Bool.eq_iff_iff,beq_iff_eq,beq_iff_eq]
  omega
 by_cases h:op=0
 ·rw [if_pos h,h]
  by_cases h2:n=0
  ·rw [if_pos h2,h2,hlen]
   rfl
  ·rw [if_neg h2,beq_eq_false_iff_ne.mpr h2]
   rfl
 ·rw [if_neg h,beq_eq_false_iff_ne.mpr h]
  rfl
theorem uL (kd va bx op n:Int) (la:List S32) (m1 m2:List S35) (h2:kd≠2) (h3:kd≠3):
    EvP (fun k=>dY.f k kd va bx op n la m1 m2) (·=xO 3 kd va bx op n la m1.length m2.length):=by
  unfold dY.f
  have yes:∀ b:Bool,((m1.length == 0 && m2.length == 0)=!b)→EvP (fun k=>dY.j0 k b kd va bx op n la m1 m2) (·=xO 3 kd va bx op n la m1.length m2.length):=by
    intro b hb
    refine EvP.step (fun k=>dY.j0.eq_2 (k:=k) ..) ?_
    refine EvP.ite (fun h=>EvP.ret ?_) (fun h=>?_)
    · symm
      rw [Bool.eq_false_iff]
      intro e
      obtain ⟨z1,z2⟩:=IV e h2 h3
      rw [z1,z2,h] at hb
      cases hb
    · have hb':(m1.length == 0 && m2.length == 0)=true:=by
        rw [hb,Bool.eq_false_iff.mpr h]
        rfl
      unfold xO
      have hT:∀ a b c:Bool,(a && (b && (c && ((false || m1.length == 0) && (false || m2.length == 0)))))=(a && (b && c)):=by
        intro a b c
        rw [Bool.false_or,Bool.false_or,hb',Bool.and_true]
      refine EvP.ite (fun h1=>?_) (fun h1=>?_)
      · rw [if_pos h1]
        unfold lQ
        rw [hT]
        refine EvP.gP (mQ ..) (EvP.ite (fun hv=>EvP.gP (mP ..) (EvP.ite (fun hx=>EvP.fD (nN ..) (EvP.ret ?_)) (fun hx=>EvP.ret ?_))) (fun hv=>EvP.ret ?_)) <;> simp [*]
      · rw [if_neg h1,if_neg h2,if_neg h3]
        refine EvP.ite (fun h1=>?_) (fun h1=>?_)
        · rw [if_pos h1]
          unfold lQ
          rw [hT]
          refine EvP.gP (mQ ..) (EvP.ite (fun hv=>EvP.gP (mP ..) (EvP.ite (fun hx=>EvP.fD (nN ..) (EvP.ret ?_)) (fun hx=>EvP.ret ?_))) (fun hv=>EvP.ret ?_)) <;> simp [*]
        · rw [if_neg h1]
          refine EvP.ite (fun h1=>?_) (fun h1=>?_)
          · rw [if_pos h1]
            unfold lQ
            rw [hT]
            refine EvP.gP (mQ ..) (EvP.ite (fun hv=>EvP.gP (mP ..) (EvP.ite (fun hx=>EvP.gP (uY ..) (EvP.ret ?_)) (fun hx=>EvP.ret ?_))) (fun hv=>EvP.ret ?_)) <;> simp [*]
          · rw [if_neg h1]
            refine EvP.ite (fun h6=>?_) (fun h6=>?_)
            · rw [if_neg (by omega),if_pos h6]
              unfold lQ
              rw [hT]
              refine EvP.gP (mQ ..) (EvP.ite (fun hv=>EvP.gP (mP ..) (EvP.ite (fun hx=>EvP.gP (uY ..) (EvP.ret ?_)) (fun hx=>EvP.ret ?_))) (fun hv=>EvP.ret ?_)) <;> simp [*]
            · refine EvP.ite (fun h7=>?_) (fun h7=>?_)
              · rw [if_pos h7]
                unfold lQ
                rw [hT]
                refine EvP.gP (mQ ..) (EvP.ite (fun hv=>EvP.gP (mP ..) (EvP.ite (fun hx=>EvP.fD (nN ..) (EvP.ret ?_)) (fun hx=>EvP.ret ?_))) (fun hv=>EvP.ret ?_)) <;> simp [*]
              · rw [if_neg h7,if_neg h6]
                exact EvP.ret rfl
  refine EvP.ite (fun h=>yes true ?_) (fun h=>yes _ ?_)
  · rw [beq_eq_false_iff_ne.mpr (show m1.length≠0 by omega)]
    rfl
  · rw [beq_iff_eq.mpr (show m1.length=0 by omega),Bool.true_and,← decide_not,Bool.eq_iff_iff,beq_iff_eq,decide_eq_true_eq]
    omega
theorem BK (l:List S35) (hl:l.length≤1000000000) (x1:Int) (d:Nat) (sub:∀ x ∈ l,EvP (fun k=>dI.f k x.f0 x.f1 x.f2 x.f3.f0 x.f3.f1 x.f3.f2 x.f4 x.f5 x1) (·=iL 3 d x)):
    ∀ (r j:Nat),j + r=l.length→EvP (fun k=>dB.l0 k l x1 (j:Int)) (·=okL 3 d (l.drop j)):=by
  intro r
  induction r with
  |zero=>
    intro j hj
    refine EvP.step (fun k=>dB.l0.eq_2 (k:=k) ..) (EvP.no (by omega) (EvP.ret ?_))
    rw [List.drop_eq_nil_of_le (by omega)]
    rfl
  |succ r ih=>
    intro j hj
    have hlt:j < l.length:=by omega
    refine EvP.step (fun k=>dB.l0.eq_2 (k:=k) ..) (EvP.yes (by omega) (EvP.yes (by omega) ?_))
    rw [xD l j hlt,w64 (n:=(j:Int) + 1) (by omega) (by omega)]
    have hall:okL 3 d (l.drop j)=(iL 3 d l[j] && okL 3 d (l.drop (j + 1))):=by
      rw [List.drop_eq_getElem_cons hlt]
      rfl
    rw [hall]
    refine EvP.fD (sub _ (List.getElem_mem hlt)) (EvP.ite (fun h=>?_) (fun h=>EvP.ret ?_))
    · rw [h,Bool.true_and]
      exact ih (j + 1) (by omega)
    · rw [Bool.eq_false_iff.mpr h]
      rfl
theorem uK (l:List S35) (hl:l.length≤1000000000) (x1:Int) (d:Nat) (sub:∀ x ∈ l,EvP (fun k=>dI.f k x.f0 x.f1 x.f2 x.f3.f0 x.f3.f1 x.f3.f2 x.f4 x.f5 x1) (·=iL 3 d x)):
    EvP (fun k=>dB.f k l x1) (·=okL 3 d l):=
  EvP.step (fun k=>dB.f.eq_2 (k:=k) ..) (BK l hl x1 d sub l.length 0 (by omega))
theorem FZ:∀ (d:Nat) (x1:Int) (x:S35),d≤3→x1=d→cS x≤1000000000→EvP (fun k=>dI.f k x.f0 x.f1 x.f2 x.f3.f0 x.f3.f1 x.f3.f2 x.f4 x.f5 x1) (·=iL 3 d x):=by
  intro d
  induction d with
  |zero=>
    intro x1 x hd h1 hc
    have j1:EvP (fun k=>dI.j1 k x1 true x.f0 x.f1 x.f2 x.f3.f0 x.f3.f1 x.f3.f2 x.f4 x.f5) (·=false):=
      EvP.step (fun k=>dI.j1.eq_2 (k:=k) ..) (EvP.yes rfl (EvP.ret rfl))
    refine EvP.step (fun k=>dI.f.eq_2 (k:=k) ..) (EvP.ite (fun h2=>?_) (fun h2=>?_))
    · have:iL 3 0 x=false:=by simp [iL,oD,h2]
      rw [this]
      refine EvP.step (fun k=>dI.j0.eq_2 (k:=k) ..) (EvP.no Bool.false_ne_true (EvP.yes (by omega) j1))
    · refine EvP.step (fun k=>dI.j0.eq_2 (k:=k) ..) (EvP.ite (fun h3=>?_) (fun h3=>EvP.yes (by omega) ?_))
      · have h3:x.f0≠3:=bne_iff_ne.mp h3
        refine EvP.fD (uL _ _ _ _ _ _ _ _ h2 h3) (EvP.ret ?_)
        simp [iL,oD,h2,h3,stS]
      · have h3:x.f0=3:=by simpa using h3
        have:iL 3 0 x=false:=by simp [iL,oD,h3]
        rw [this]
        exact j1
  |succ d ih=>
    intro x1 x hd h1 hc
    have hcs:=EM x
    have e1:wrap64 (x1 - 1)=(d:Int):=by
      rw [w64 (by omega) (by omega)]
      omega
    have len4:=gF x.f4
    have len5:=gF x.f5
    have sub:∀ m:List S35,cSs m≤1000000000→EvP (fun k=>dB.f k m (wrap64 (x1 - 1))) (·=okL 3 d m):=by
      intro m hm
      have:=gF m
      refine uK m (by omega) _ d (fun y hy=>ih _ y (by omega) e1 ?_)
      have:=vF m y hy
      omega
    have j1:∀ b:Bool,oD x=true→(b=(x.f0 == 3 && decide ((x.f5.length:Int) > 0)))→EvP (fun k=>dI.j1 k x1 b x.f0 x.f1 x.f2 x.f3.f0 x.f3.f1 x.f3.f2 x.f4 x.f5) (·=iL 3 (d + 1) x):=by
      intro b hb hbb
      have ho:iL 3 (d + 1) x=(stS 3 x && (okL 3 d x.f4 && okL 3 d x.f5)):=by
        simp only [iL,hb,okL]
        rfl
      rw [ho]
      refine EvP.step (fun k=>dI.j1.eq_2 (k:=k) ..) (EvP.ite (fun h=>EvP.ret ?_) (fun h=>?_))
      · rw [h] at hbb
        have h4:=hbb.symm
        simp only [Bool.and_eq_true,beq_iff_eq,decide_eq_true_eq] at h4
        have:stS 3 x=false:=by
          have hne:(x.f5.length == 0)=false:=beq_eq_false_iff_ne.mpr (by omega)
          simp [stS,xO,h4.1,lQ,hne]
        rw [this]
        rfl
      · have hst:stS 3 x=(FH false x.f1 && (xU 3 false x.f2 && vx 5 x.f3.f0 x.f3.f1 x.f3.f2)):=by
          rcases (pF x).mp hb with h2|h2
          · simp [stS,xO,h2,lQ]
          · have h5:x.f5.length=0:=by
              rw [Bool.eq_false_iff.mpr h,h2] at hbb
              have:=hbb.symm
              simp only [beq_self_eq_true,Bool.true_and,decide_eq_false_iff_not] at this
              omega
            simp [stS,xO,h2,lQ,h5]
        rw [hst]
        refine EvP.gP (mQ ..) (EvP.ite (fun hv=>EvP.gP (mP ..) (EvP.ite (fun hx=>EvP.fD (nN ..) (EvP.ite (fun he=>?_) (fun he=>EvP.ret ?_))) (fun hx=>EvP.ret ?_))) (fun hv=>EvP.ret ?_))
        · refine EvP.fD (sub x.f4 (by omega)) (EvP.ite (fun h4=>EvP.fD (sub x.f5 (by omega)) (EvP.ret ?_)) (fun h4=>EvP.ret ?_)) <;> simp [*]
        all_goals simp [*]
    refine EvP.step (fun k=>dI.f.eq_2 (k:=k) ..) (EvP.ite (fun h2=>?_) (fun h2=>?_))
    · refine EvP.step (fun k=>dI.j0.eq_2 (k:=k) ..) (EvP.no Bool.false_ne_true (EvP.no (by omega) (EvP.no (by omega) (j1 false ?_ ?_))))
      · simp [oD,h2]
      · simp [h2]
    · refine EvP.step (fun k=>dI.j0.eq_2 (k:=k) ..) (EvP.ite (fun h3=>?_) (fun h3=>EvP.no (by omega) ?_))
      · have h3:x.f0≠3:=bne_iff_ne.mp h3
        refine EvP.fD (uL _ _ _ _ _ _ _ _ h2 h3) (EvP.ret ?_)
        simp [iL,oD,h2,h3,stS]
      · have h3:x.f0=3:=by simpa using h3
        refine EvP.yes h3 (j1 _ ?_ ?_)
        · simp [oD,h3]
        · simp [h3]
theorem BJ (l:List S35) (hl:cSs l≤1000000000):EvP (fun k=>dB.f k l 3) (·=okL 3 3 l):=by
  have:=gF l
  refine uK l (by omega) _ 3 (fun y hy=>FZ 3 3 y (by omega) (by omega) ?_)
  have:=vF l y hy
  omega
theorem rW:∀ (c:Nat) (l:List S35),cSs l≤c→c≤1000000000→EvP (fun k=>bX.f k l) (·=(cSs l:Int)):=by
  intro c
  induction c with
  |zero=>
    intro l hl hc
    have:=gF l
    refine EvP.step (fun k=>bX.f.eq_2 (k:=k) ..) (EvP.step (fun k=>bX.l0.eq_2 (k:=k) ..) (EvP.no (by omega) (EvP.ret ?_)))
    omega
  |succ c ih=>
    intro l hl hc
    have hlen:=gF l
    have loop:∀ (r j:Nat) (a:Int),j + r=l.length→0≤a→a + cSs (l.drop j)≤1000000000→EvP (fun k=>bX.l0 k l a (j:Int)) (·=a + cSs (l.drop j)):=by
      intro r
      induction r with
      |zero=>
        intro j a hj h0 h1
        refine EvP.step (fun k=>bX.l0.eq_2 (k:=k) ..) (EvP.no (by omega) (EvP.ret ?_))
        rw [List.drop_eq_nil_of_le (by omega),rX]
        omega
      |succ r ih2=>
        intro j a hj h0 h1
        have hlt:j < l.length:=by omega
        have hd:=LK l j hlt
        have hm:=vF l _ (List.getElem_mem hlt)
        have hcs:=EM l[j]
        refine EvP.step (fun k=>bX.l0.eq_2 (k:=k) ..) (EvP.yes (by omega) (EvP.yes (by omega) ?_))
        rw [xD l j hlt,w64 (n:=(j:Int) + 1) (by omega) (by omega)]
        refine EvP.fD (ih _ (by omega) (by omega)) (EvP.fD (ih _ (by omega) (by omega)) ?_)
        rw [w64 (n:=a + 1) (by omega) (by omega),w64 (n:=a + 1 + (cSs l[j].f4:Int)) (by omega) (by omega),w64 (by omega) (by omega)]
        refine (ih2 (j + 1) _ (by omega) (by omega) (by omega)).mono fun b hb=>?_
        omega
    refine EvP.step (fun k=>bX.f.eq_2 (k:=k) ..) ((loop l.length 0 0 (by omega) (by omega) (by rw [List.drop_zero];omega)).mono fun b hb=>?_)
    rw [List.drop_zero] at hb
    omega
theorem yV (l:List S35) (hl:cSs l≤1000000000):EvP (fun k=>gI.f k l) (·=okT 3 l):=by
  unfold gI.f okT
  refine EvP.fD (BJ l hl) (EvP.ite (fun h=>EvP.fD (rW _ l hl (by omega)) (EvP.ret ?_)) (fun h=>EvP.ret ?_))
  · rw [h,Bool.true_and]
    exact decide_eq_decide.mpr (by omega)
  · rw [Bool.eq_false_iff.mpr h]
    rfl
theorem OA (boxes:Int) (d:Nat) (l m:List S35):okL boxes d (l ++ m)=(okL boxes d l && okL boxes d m):=List.all_append
theorem BA {boxes:Int} {l:List S35}:okT boxes l=true ↔ okL boxes 3 l=true∧cSs l≤16:=by
 unfold okT
 rw [Bool.and_eq_true,decide_eq_true_eq]
theorem yT (boxes:Int):∀ (d:Nat) (s:S35),iL boxes d s=true→iL boxes (d + 1) s=true
 |0,s,h=>by
  simp only [iL,Bool.and_eq_true] at h ⊢
  exact ⟨h.1,by rw [h.2];rfl⟩
 |d + 1,s,h=>by
  simp only [iL,Bool.and_eq_true,Bool.or_eq_true] at h ⊢
  refine ⟨h.1,?_⟩
  rcases h.2 with h2|⟨h2,h3⟩
  ·exact .inl h2
  ·right
   constructor
   ·rw [List.all_eq_true] at h2 ⊢
    intro x hx
    have:=yT boxes d x (h2 x hx)
    simp only [iL,Bool.and_eq_true,Bool.or_eq_true] at this
    exact Bool.and_eq_true_iff.mpr ⟨this.1,Bool.or_eq_true_iff.mpr (this.2.imp id fun h=>Bool.and_eq_true_iff.mpr h)⟩
   ·rw [List.all_eq_true] at h3 ⊢
    intro x hx
    have:=yT boxes d x (h3 x hx)
    simp only [iL,Bool.and_eq_true,Bool.or_eq_true] at this
    exact Bool.and_eq_true_iff.mpr ⟨this.1,Bool.or_eq_true_iff.mpr (this.2.imp id fun h=>Bool.and_eq_true_iff.mpr h)⟩
theorem ML {boxes:Int} {d:Nat} {l:List S35} (h:okL boxes d l=true):okL boxes (d + 1) l=true:=by
 unfold okL at h ⊢
 rw [List.all_eq_true] at h ⊢
 exact fun x hx=>yT boxes d x (h x hx)
theorem aCt (a:S35):(⟨a.f0,a.f1,a.f2,a.f3,a.f4,a.f5⟩:S35)=a:=by
 cases a
 rfl
inductive ST where
 |mk (kd va bx:Int) (x:X) (b e:List ST)
namespace ST
def kd:ST→Int|⟨a,_,_,_,_,_⟩=>a
def va:ST→Int|⟨_,a,_,_,_,_⟩=>a
def bx:ST→Int|⟨_,_,a,_,_,_⟩=>a
def x:ST→X|⟨_,_,_,a,_,_⟩=>a
def b:ST→List ST|⟨_,_,_,_,a,_⟩=>a
def e:ST→List ST|⟨_,_,_,_,_,a⟩=>a
end ST
mutual
def nY:ST→S35
 |⟨kd,va,bx,x,b,e⟩=>⟨kd,va,bx,emb x,dU b,dU e⟩
def dU:List ST→List S35
 |[]=>[]
 |s :: ss=>nY s :: dU ss
end
def BF (kd va bx:Int) (x:X) (b e:List ST):List ST:=
 if kd=2 then (match x with
  | .num n=>if n=0 then e else b
  | y=>[⟨kd,va,bx,y,b,e⟩])
 else if kd=3 then (match x with
  | .num n=>if n=0 then [] else [⟨kd,va,bx, .num n,b,e⟩]
  | y=>[⟨kd,va,bx,y,b,e⟩])
 else [⟨kd,va,bx,x,b,e⟩]
mutual
def lY:ST→List ST
 |⟨kd,va,bx,x,b,e⟩=>BF kd va bx x.fold (dZ b) (dZ e)
def dZ:List ST→List ST
 |[]=>[]
 |s :: ss=>lY s ++ dZ ss
end
theorem rT (t:ST):nY t=⟨t.kd,t.va,t.bx,emb t.x,dU t.b,dU t.e⟩:=by
 cases t
 rw [nY]
 rfl
theorem uG (t:ST):lY t=BF t.kd t.va t.bx t.x.fold (dZ t.b) (dZ t.e):=by
 cases t
 rw [lY]
 rfl
theorem iV:∀ l:List ST,(dU l).length=l.length
 |[]=>by rw [dU];rfl
 |x :: xs=>by rw [dU,List.length_cons,List.length_cons,iV xs]
theorem rD:∀ l m:List ST,dU (l ++ m)=dU l ++ dU m
 |[],m=>by rw [dU];rfl
 |x :: xs,m=>by rw [List.cons_append,dU,dU,rD xs m];rfl
theorem xW:∀ l m:List ST,dZ (l ++ m)=dZ l ++ dZ m
 |[],m=>by rw [dZ];rfl
 |x :: xs,m=>by rw [List.cons_append,dZ,dZ,xW xs m,List.append_assoc]
theorem IB:∀ (l:List ST) (i:Nat) (h:i < l.length),(dU l)[i]'(by rw [iV];exact h)=nY l[i]
 |x :: xs,0,_=>by simp [dU]
 |x :: xs,i + 1,h=>by
  have h2:=IB xs i (by simpa using h)
  simp only [dU,List.getElem_cons_succ]
  exact h2
theorem ES {P:ST→Prop} (h:∀ t:ST,(∀ y ∈ t.b,P y)→(∀ y ∈ t.e,P y)→P t) (t:ST):P t:=
 @ST.rec (motive_1:=P) (motive_2:=fun l=>∀ y ∈ l,P y) (fun a b c d m n i1 i2=>h ⟨a,b,c,d,m,n⟩ i1 i2) (fun y hy=>by simp at hy) (fun y ys h1 h2 z hz=>by
  rcases List.mem_cons.1 hz with rfl|hz
  ·exact h1
  ·exact h2 z hz) t
inductive AX:ST→Prop
 |mk (t:ST) (h1:t.x.ok) (h2:t.x.depth≤5) (hb:∀ y ∈ t.b,AX y) (he:∀ y ∈ t.e,AX y):AX t
theorem WE (boxes:Int):∀ (d:Nat) (s:S35),iL boxes d s=true→∃ t,nY t=s∧AX t:=by
 have ex:∀ s:S35,stS boxes s=true→∃ x:X,emb x=s.f3∧x.ok∧x.depth≤5:=by
  intro s h
  have hv:vx 5 s.f3.f0 s.f3.f1 s.f3.f2=true∨nM s.f3.f0 s.f3.f1 s.f3.f2=true:=by
   unfold stS xO lQ at h
   repeat' split at h
   all_goals first
    |(cases h;done)
    |(simp only [Bool.and_eq_true] at h;first|exact .inl h.2.2.1|exact .inr h.2.2.1)
    |skip
   all_goals simp_all
  rcases hv with hv|hv
  ·obtain ⟨x,h1,h2,h3⟩:=KW 5 _ _ _ hv
   exact ⟨x,h3.trans (BS _),h1,h2⟩
  ·unfold nM at hv
   simp only [Bool.and_eq_true,beq_iff_eq] at hv
   refine ⟨.num 0,?_,⟨by omega,by omega⟩,by simp [X.depth]⟩
   rw [emb,← BS s.f3,hv.1,hv.2.1,List.eq_nil_of_length_eq_zero hv.2.2]
 have mk:∀ (s:S35),stS boxes s=true→(∃ l,dU l=s.f4∧∀ y ∈ l,AX y)→(∃ l,dU l=s.f5∧∀ y ∈ l,AX y)→∃ t,nY t=s∧AX t:=by
  rintro s h ⟨l,h4,a4⟩ ⟨m,h5,a5⟩
  obtain ⟨x,hx,hok,hd⟩:=ex s h
  refine ⟨⟨s.f0,s.f1,s.f2,x,l,m⟩,?_, .mk _ hok hd a4 a5⟩
  rw [nY,hx,h4,h5]
  exact aCt s
 have nils:∀ s:S35,stS boxes s=true→oD s=false→(∃ l,dU l=s.f4∧∀ y ∈ l,AX y)∧(∃ l,dU l=s.f5∧∀ y ∈ l,AX y):=by
  intro s h hb
  have hf:=DX h (fun e=>by rw [(pF s).mpr e] at hb;cases hb)
  rw [EM] at hf
  have l4:=gF s.f4
  have l5:=gF s.f5
  rw [List.eq_nil_of_length_eq_zero (show s.f4.length=0 by omega),List.eq_nil_of_length_eq_zero (show s.f5.length=0 by omega)]
  exact ⟨⟨[],by rw [dU],by simp⟩,⟨[],by rw [dU],by simp⟩⟩
 intro d
 induction d with
 |zero=>
  intro s h
  simp only [iL,Bool.and_eq_true] at h
  obtain ⟨n4,n5⟩:=nils s h.1 (by simpa using h.2)
  exact mk s h.1 n4 n5
 |succ d ih=>
  intro s h
  have lists:∀ l:List S35,l.all (iL boxes d)=true→∃ m,dU m=l∧∀ y ∈ m,AX y:=by
   intro l
   induction l with
   |nil=>exact fun _=>⟨[],by rw [dU],by simp⟩
   |cons y ys ihl=>
    intro h
    rw [List.all_cons,Bool.and_eq_true] at h
    obtain ⟨t,ht,at_⟩:=ih y h.1
    obtain ⟨m,hm,am⟩:=ihl h.2
    refine ⟨t :: m,by rw [dU,ht,hm],fun z hz=>?_⟩
    rcases List.mem_cons.1 hz with rfl|hz
    ·exact at_
    ·exact am z hz
  simp only [iL,Bool.and_eq_true,Bool.or_eq_true] at h
  cases hb:oD s with
  |false=>
   obtain ⟨n4,n5⟩:=nils s h.1 hb
   exact mk s h.1 n4 n5
  |true=>
   rw [hb] at h
   rcases h.2 with h2|h2
   ·cases h2
   ·exact mk s h.1 (lists _ h2.1) (lists _ h2.2)
theorem WC (boxes:Int) (d:Nat):∀ l:List S35,okL boxes d l=true→∃ m,dU m=l∧∀ y ∈ m,AX y
 |[],_=>⟨[],by rw [dU],by simp⟩
 |y :: ys,h=>by
  have h':(iL boxes d y && okL boxes d ys)=true:=h
  rw [Bool.and_eq_true] at h'
  obtain ⟨t,ht,at_⟩:=WE boxes d y h'.1
  obtain ⟨m,hm,am⟩:=WC boxes d ys h'.2
  refine ⟨t :: m,by rw [dU,ht,hm],fun z hz=>?_⟩
  rcases List.mem_cons.1 hz with rfl|hz
  ·exact at_
  ·exact am z hz
theorem pJ (kd va bx:Int) (x:X) (b e:List ST):(BF kd va bx x b e=b∧kd=2)∨(BF kd va bx x b e=e∧kd=2)∨BF kd va bx x b e=[]∨(BF kd va bx x b e=[⟨kd,va,bx,x,b,e⟩]∧¬ (kd=2∧x.isNum=true)∧¬ (kd=3∧x= .num 0)):=by
 unfold BF
 by_cases h2:kd=2
 ·rw [if_pos h2]
  cases x with
  |num n=>
   dsimp only
   by_cases h:n=0
   ·rw [if_pos h]
    exact .inr (.inl ⟨rfl,h2⟩)
   ·rw [if_neg h]
    exact .inl ⟨rfl,h2⟩
  |var v=>exact .inr (.inr (.inr ⟨rfl,by simp [X.isNum],by simp⟩))
  |bin o p q=>exact .inr (.inr (.inr ⟨rfl,by simp [X.isNum],by simp⟩))
 ·rw [if_neg h2]
  by_cases h3:kd=3
  ·rw [if_pos h3]
   cases x with
   |num n=>
    dsimp only
    by_cases h:n=0
    ·rw [if_pos h]
     exact .inr (.inr (.inl rfl))
    ·rw [if_neg h]
     exact .inr (.inr (.inr ⟨rfl,by simp [h2],by simp [h]⟩))
   |var v=>exact .inr (.inr (.inr ⟨rfl,by simp [h2],by simp⟩))
   |bin o p q=>exact .inr (.inr (.inr ⟨rfl,by simp [h2],by simp⟩))
  ·rw [if_neg h3]
   exact .inr (.inr (.inr ⟨rfl,by simp [h2],by simp [h3]⟩))
def cT (l:List ST):Nat:=cSs (dU l)
theorem BQ (l m:List ST):cT (l ++ m)=cT l + cT m:=by
 unfold cT
 rw [rD,rQ]
theorem BR (t:ST):cT [t]=cT t.b + cT t.e + 1:=by
 unfold cT
 rw [dU,dU,PV,rT,EM]
theorem DV (t:ST) (l:List ST):cT (t :: l)=cT t.b + cT t.e + 1 + cT l:=by
 rw [show t :: l=[t] ++ l from rfl,BQ,BR]
theorem aBs:cT []=0:=by
 unfold cT
 rw [dU,cSs]
theorem vG (l:List ST) (h:∀ y ∈ l,cT (lY y)≤cT [y]):cT (dZ l)≤cT l:=by
 induction l with
 |nil=>rw [dZ];exact Nat.le_refl _
 |cons y ys ih=>
  have h1:=h y List.mem_cons_self
  have h2:=ih (fun z hz=>h z (List.mem_cons_of_mem _ hz))
  rw [dZ,BQ,DV]
  rw [BR] at h1
  omega
theorem EN (t:ST):cT (lY t)≤cT [t]:=by
 refine ES (P:=fun t=>cT (lY t)≤cT [t]) (fun t i1 i2=>?_) t
 have h1:=vG t.b i1
 have h2:=vG t.e i2
 rw [uG,BR]
 rcases pJ t.kd t.va t.bx t.x.fold (dZ t.b) (dZ t.e) with ⟨h,_⟩|⟨h,_⟩|h|⟨h,_⟩
 ·rw [h];omega
 ·rw [h];omega
 ·rw [h,aBs];omega
 ·rw [h,BR]
  show cT (dZ t.b) + cT (dZ t.e) + 1≤_
  omega
theorem uX (l:List ST):cT (dZ l)≤cT l:=vG l (fun y _=>EN y)
theorem vE (l:List ST) (h:∀ y ∈ l,∀ z ∈ lY y,AX z):∀ z ∈ dZ l,AX z:=by
 induction l with
 |nil=>rw [dZ];simp
 |cons y ys ih=>
  intro z hz
  rw [dZ,List.mem_append] at hz
  rcases hz with hz|hz
  ·exact h y List.mem_cons_self z hz
  ·exact ih (fun w hw=>h w (List.mem_cons_of_mem _ hw)) z hz
theorem SY (t:ST):AX t→∀ z ∈ lY t,AX z:=by
 refine ES (P:=fun t=>AX t→∀ z ∈ lY t,AX z) (fun t i1 i2 ha=>?_) t
 cases ha with
 |mk _ h1 h2 hb he=>
  have g1:=vE t.b (fun y hy=>i1 y hy (hb y hy))
  have g2:=vE t.e (fun y hy=>i2 y hy (he y hy))
  rw [uG]
  rcases pJ t.kd t.va t.bx t.x.fold (dZ t.b) (dZ t.e) with ⟨h,_⟩|⟨h,_⟩|h|⟨h,_⟩
  ·rw [h];exact g1
  ·rw [h];exact g2
  ·rw [h];simp
  ·rw [h]
   intro z hz
   rw [List.mem_singleton] at hz
   subst hz
   exact .mk _ (X.rY _ h1) (Nat.le_trans (X.vH _) h2) g1 g2
theorem RG (l:List ST) (h:∀ y ∈ l,AX y):∀ z ∈ dZ l,AX z:=vE l (fun y hy=>SY y (h y hy))
theorem EK (l:List ST) (h:∀ y ∈ l,dZ (lY y)=lY y):dZ (dZ l)=dZ l:=by
 induction l with
 |nil=>rw [dZ,dZ]
 |cons y ys ih=>
  rw [dZ,xW,h y List.mem_cons_self,ih (fun z hz=>h z (List.mem_cons_of_mem _ hz))]
theorem LV (t:ST):dZ (lY t)=lY t:=by
 refine ES (P:=fun t=>dZ (lY t)=lY t) (fun t i1 i2=>?_) t
 have g1:=EK t.b i1
 have g2:=EK t.e i2
 rw [uG]
 rcases pJ t.kd t.va t.bx t.x.fold (dZ t.b) (dZ t.e) with ⟨h,_⟩|⟨h,_⟩|h|⟨h,n1,n2⟩
 ·rw [h,g1]
 ·rw [h,g2]
 ·rw [h,dZ]
 ·rw [h,dZ,dZ,List.append_nil,lY,X.yN,g1,g2]
  exact h
theorem KO (l:List ST):dZ (dZ l)=dZ l:=EK l (fun y _=>LV y)
theorem DJ {boxes:Int} {nv nb ne nd no:Bool} {va bx op n op' n':Int} {la la':List S32} {lb le lb' le':Nat} (h:lQ boxes nv nb ne nd no va bx op n la lb le=true)
  (h1:vx 5 op n la=true→vx 5 op' n' la'=true) (h2:nM op n la=true→nM op' n' la'=true) (h3:lb=0→lb'=0) (h4:le=0→le'=0):lQ boxes nv nb ne nd no va bx op' n' la' lb' le'=true:=by
 unfold lQ at h ⊢
 simp only [Bool.and_eq_true,Bool.or_eq_true,beq_iff_eq] at h ⊢
 refine ⟨h.1,h.2.1,?_,h.2.2.2.1.imp id h3,h.2.2.2.2.imp id h4⟩
 have h5:=h.2.2.1
 cases ne
 ·exact h2 h5
 ·exact h1 h5
theorem RY {boxes kd va bx op n op' n':Int} {la la':List S32} {lb le lb' le':Nat} (h:xO boxes kd va bx op n la lb le=true)
  (h1:vx 5 op n la=true→vx 5 op' n' la'=true) (h2:nM op n la=true→nM op' n' la'=true) (h3:lb=0→lb'=0) (h4:le=0→le'=0):xO boxes kd va bx op' n' la' lb' le'=true:=by
 unfold xO at h ⊢
 repeat' split at h
 all_goals first
  |(cases h;done)
  |(rename_i h0;rw [if_pos h0];exact DJ h h1 h2 h3 h4)
  |skip
 all_goals (simp_all;try exact DJ h h1 h2 h3 h4)
theorem uU (boxes:Int) (d:Nat) (l:List ST) (hl:okL boxes d (dU l)=true) (h:∀ t ∈ l,iL boxes d (nY t)=true→okL boxes d (dU (lY t))=true):okL boxes d (dU (dZ l))=true:=by
 induction l with
 |nil=>rw [dZ];exact hl
 |cons y ys ih=>
  rw [dU] at hl
  have hl':(iL boxes d (nY y) && okL boxes d (dU ys))=true:=hl
  rw [Bool.and_eq_true] at hl'
  rw [dZ,rD,OA,Bool.and_eq_true]
  exact ⟨h y List.mem_cons_self hl'.1,ih hl'.2 (fun z hz=>h z (List.mem_cons_of_mem _ hz))⟩
theorem EZ {l:List ST} (h:(dU l).length=0):(dU (dZ l)).length=0:=by
 rw [iV] at h
 rw [List.eq_nil_of_length_eq_zero h,dZ,dU]
 rfl
theorem OB (boxes:Int):∀ (d:Nat) (t:ST),AX t→iL boxes d (nY t)=true→okL boxes d (dU (lY t))=true:=by
 have st:∀ t:ST,AX t→stS boxes (nY t)=true→stS boxes (nY ⟨t.kd,t.va,t.bx,t.x.fold,dZ t.b,dZ t.e⟩)=true:=by
  intro t ha h
  cases ha with
  |mk _ h1 h2 hb he=>
   rw [rT] at h ⊢
   unfold stS at h ⊢
   refine RY h (fun _=>?_) (fun hp=>?_) EZ EZ
   ·exact (OM t.x.fold 5 (X.rY _ h1)).trans (decide_eq_true (Nat.le_trans (X.vH _) h2))
   ·replace hp:nM (emb t.x).f0 (emb t.x).f1 (emb t.x).f2=true:=hp
    show nM (emb t.x.fold).f0 (emb t.x.fold).f1 (emb t.x.fold).f2=true
    revert hp h1
    generalize t.x=x
    intro h1 hp
    cases x with
    |num n=>exact hp
    |var v=>
     simp [nM,emb] at hp
    |bin o p q=>
     simp [nM,emb] at hp
 intro d
 induction d with
 |zero=>
  intro t ha h
  have h':(stS boxes (nY t) && !oD (nY t))=true:=h
  rw [Bool.and_eq_true] at h'
  have hb:¬ ((nY t).f0=2∨(nY t).f0=3):=fun e=>by
   have:=(pF _).mpr e
   rw [this] at h'
   cases h'.2
  rw [rT] at hb
  have s2:=st t ha h'.1
  rw [uG]
  rcases pJ t.kd t.va t.bx t.x.fold (dZ t.b) (dZ t.e) with ⟨_,e⟩|⟨_,e⟩|e|⟨e,_⟩
  ·exact absurd (.inl e) hb
  ·exact absurd (.inl e) hb
  ·rw [e,dU];rfl
  ·rw [e,dU,dU]
   unfold okL
   simp only [List.all_cons,List.all_nil,Bool.and_true,iL,Bool.and_eq_true]
   refine ⟨s2,?_⟩
   rw [rT]
   show (!(t.kd == 2 || t.kd == 3))=true
   simpa using hb
 |succ d ih=>
  intro t ha h
  have h':(stS boxes (nY t) && (!oD (nY t) || (okL boxes d (nY t).f4 && okL boxes d (nY t).f5)))=true:=h
  rw [Bool.and_eq_true] at h'
  have s2:=st t ha h'.1
  have hblk:oD (nY t)=true→okL boxes d (dU (dZ t.b))=true∧okL boxes d (dU (dZ t.e))=true:=by
   intro hb
   have h2:=h'.2
   rw [hb,rT] at h2
   simp only [Bool.not_true,Bool.false_or,Bool.and_eq_true] at h2
   cases ha with
   |mk _ _ _ hb he=>exact ⟨uU boxes d _ h2.1 (fun y hy=>ih y (hb y hy)),uU boxes d _ h2.2 (fun y hy=>ih y (he y hy))⟩
  have hk:t.kd=2→oD (nY t)=true:=fun e=>(pF _).mpr (.inl (by rw [rT];exact e))
  rw [uG]
  rcases pJ t.kd t.va t.bx t.x.fold (dZ t.b) (dZ t.e) with ⟨e,e2⟩|⟨e,e2⟩|e|⟨e,_⟩
  ·rw [e];exact ML (hblk (hk e2)).1
  ·rw [e];exact ML (hblk (hk e2)).2
  ·rw [e,dU];rfl
  ·rw [e,dU,dU]
   unfold okL
   simp only [List.all_cons,List.all_nil,Bool.and_true,iL,Bool.and_eq_true,Bool.or_eq_true]
   refine ⟨s2,?_⟩
   cases hb:oD (nY t) with
   |false=>
    left
    rw [rT] at hb
    rw [rT]
    replace hb:(t.kd == 2 || t.kd == 3)=false:=hb
    show (!(t.kd == 2 || t.kd == 3))=true
    rw [hb]
    rfl
   |true=>
    right
    have:=hblk hb
    rw [rT]
    exact this
theorem WG (boxes:Int) (d:Nat) (l:List ST) (ha:∀ t ∈ l,AX t) (h:okL boxes d (dU l)=true):okL boxes d (dU (dZ l))=true:=
 uU boxes d l h (fun t ht=>OB boxes d t (ha t ht))
theorem WI (boxes:Int) (l:List ST) (ha:∀ t ∈ l,AX t) (h:okT boxes (dU l)=true):okT boxes (dU (dZ l))=true:=by
 rw [BA] at h ⊢
 have:=uX l
 unfold cT at this
 exact ⟨WG boxes 3 l ha h.1,by omega⟩
def tri (e:S32):Int × Int × List S32:=(e.f0,e.f1,e.f2)
theorem rE (a:Int):iK.f a=some (wrap32 a):=by
 unfold iK.f
 rw [aAy]
theorem rG (a:Int):kL.f a=some (wrap32 a):=by
 have ht:Int.tmod a 4294967296=a % 4294967296∨(a < 0∧Int.tmod a 4294967296= -((-a) % 4294967296)):=by
  rcases Int.le_total 0 a with h|h
  ·exact .inl (Int.tmod_eq_emod_of_nonneg h)
  ·by_cases h0:a=0
   ·subst h0
    exact .inl rfl
   ·refine .inr ⟨by omega,?_⟩
    rw [← Int.tmod_eq_emod_of_nonneg (show 0≤-a by omega),Int.neg_tmod,Int.neg_neg]
 unfold kL.f
 generalize Int.tmod a 4294967296=m at ht ⊢
 unfold wrap32
 by_cases h1:m > 2147483647
 ·rw [if_pos h1,w64 (by omega) (by omega)]
  congr 1
  omega
 ·by_cases h2:m < -2147483648
  ·rw [if_neg h1,if_pos h2,w64 (by omega) (by omega)]
   congr 1
   omega
  ·rw [if_neg h1,if_neg h2]
   congr 1
   omega
theorem xX (b:Bool):mG.f b=some (if b=true then 1 else 0):=by
 unfold mG.f
 cases b <;> rfl
theorem wT (b:Bool):mW.f b=some (if b=true then 1 else 0):=by
 unfold mW.f
 cases b <;> rfl
theorem FN (op a b:Int):nS.f op a b=some (ap op a b):=by
 unfold nS.f ap
 have hs:=aAz b
 by_cases h1:op=1
 ·rw [if_pos h1,if_pos h1]
 rw [if_neg h1,if_neg h1]
 by_cases h2:op=2
 ·rw [if_pos h2,if_pos h2]
 rw [if_neg h2,if_neg h2]
 by_cases h3:op=3
 ·rw [if_pos h3,if_pos h3]
 rw [if_neg h3,if_neg h3]
 by_cases h4:op=4
 ·rw [if_pos h4,if_pos h4,xX]
  simp
 rw [if_neg h4,if_neg h4]
 by_cases h5:op=5
 ·rw [if_pos h5,if_pos h5,xX]
  simp
 rw [if_neg h5,if_neg h5]
 by_cases h6:op=6
 ·rw [if_pos h6,if_pos h6,if_pos hs.1,rE,Option.bind_some]
 rw [if_neg h6,if_neg h6]
 by_cases h7:op=7
 ·rw [if_pos h7,if_pos h7,if_pos hs.1]
 rw [if_neg h7,if_neg h7]
 by_cases h8:op=8
 ·rw [if_pos h8,if_pos h8,rE,Option.bind_some,uN]
 rw [if_neg h8,if_neg h8]
 by_cases h9:op=9
 ·rw [if_pos h9,if_pos h9,rE,Option.bind_some,uN]
 rw [if_neg h9,if_neg h9]
 by_cases j3:op=10
 ·rw [if_pos j3,if_pos j3,rE,Option.bind_some,uN]
 rw [if_neg j3,if_neg j3]
 by_cases j4:op=11
 ·rw [if_pos j4,if_pos j4]
  by_cases hb:b=0
  ·rw [if_pos hb,if_pos hb]
  ·rw [if_neg hb,if_neg hb,rE,Option.bind_some,uN]
 rw [if_neg j4,if_neg j4]
 by_cases hb:b=0
 ·rw [if_pos hb,if_pos hb]
 ·rw [if_neg hb,if_neg hb]
theorem FY (op a b:Int) (ho:1≤op∧op≤12) (ha:vw a=true) (hb:vw b=true):EvP (fun k=>fP.f k op a b) (·=(ap op a b,true)):=by
  have hs:=aAz b
  unfold fP.f ap
  refine EvP.gP (vX op) (EvP.yes (by simp;exact ho) (EvP.gP (uJ a) (EvP.yes ha (EvP.gP (uJ b) ?_))))
  rw [hb]
  refine EvP.step (fun k=>fP.j0.eq_2 (k:=k) ..) (EvP.no (by simp) ?_)
  refine EvP.ite (fun h=>EvP.ret (by rw [if_pos h])) (fun h=>?_)
  rw [if_neg h]
  refine EvP.ite (fun h=>EvP.ret (by rw [if_pos h])) (fun h=>?_)
  rw [if_neg h]
  refine EvP.ite (fun h=>EvP.ret (by rw [if_pos h])) (fun h=>?_)
  rw [if_neg h]
  refine EvP.ite (fun h=>EvP.gP (wT _) (EvP.ret (by rw [if_pos h];simp))) (fun h=>?_)
  rw [if_neg h]
  refine EvP.ite (fun h=>EvP.gP (wT _) (EvP.ret (by rw [if_pos h];simp))) (fun h=>?_)
  rw [if_neg h]
  refine EvP.ite (fun h=>?_) (fun h=>?_)
  · rw [if_pos h]
    unfold mE.f
    rw [if_neg (by simp),if_pos hs.1,rG,Option.bind_some]
    exact EvP.gP rfl (EvP.ret rfl)
  rw [if_neg h]
  refine EvP.ite (fun h=>?_) (fun h=>?_)
  · rw [if_pos h]
    unfold mE.f
    rw [if_pos rfl,if_pos hs.1]
    exact EvP.gP rfl (EvP.ret rfl)
  rw [if_neg h]
  refine EvP.ite (fun h=>EvP.gP (rG _) (EvP.ret (by rw [if_pos h,uN]))) (fun h=>?_)
  rw [if_neg h]
  refine EvP.ite (fun h=>EvP.gP (rG _) (EvP.ret (by rw [if_pos h,uN]))) (fun h=>?_)
  rw [if_neg h]
  refine EvP.ite (fun h=>EvP.gP (rG _) (EvP.ret (by rw [if_pos h,uN]))) (fun h=>?_)
  rw [if_neg h]
  refine EvP.ite (fun h=>?_) (fun h=>?_)
  · rw [if_pos h]
    unfold oG.f
    by_cases hz:b=0
    · rw [if_pos hz,if_pos hz]
      exact EvP.gP rfl (EvP.ret rfl)
    · rw [if_neg hz,if_neg hz,rG,Option.bind_some,uN]
      exact EvP.gP rfl (EvP.ret rfl)
  rw [if_neg h]
  unfold oH.f
  by_cases hz:b=0
  · rw [if_pos hz,if_pos hz]
    exact EvP.gP rfl (EvP.ret rfl)
  · rw [if_neg hz,if_neg hz]
    exact EvP.gP rfl (EvP.ret rfl)
theorem KN {x:X} (h:x.ok):(emb x).f0=0 ↔ ∃ n,x= .num n:=by
 cases x with
 |num n=>exact ⟨fun _=>⟨n,rfl⟩,fun _=>rfl⟩
 |var v=>
  refine ⟨fun e=>?_,fun ⟨n,e⟩=>by cases e⟩
  simp [emb] at e
 |bin op a b=>
  refine ⟨fun e=>?_,fun ⟨n,e⟩=>by cases e⟩
  have e:op=0:=e
  have ho:=h.1
  omega
theorem rV:∀ x:X,x.ok→EvP (fun k=>bZ.f k (emb x).f0 (emb x).f1 (emb x).f2) (·=tri (emb x.fold))
  | .num n,h=>EvP.step (fun k=>bZ.f.eq_2 (k:=k) ..) (EvP.yes rfl (EvP.ret rfl))
  | .var v,h=>EvP.step (fun k=>bZ.f.eq_2 (k:=k) ..) (EvP.yes rfl (EvP.ret rfl))
  | .bin op a b,h=>by
    have ha:=X.rY a h.2.1
    have hb:=X.rY b h.2.2
    have he:(X.bin op a b).fold=X.rM op a.fold b.fold:=rfl
    rw [he]
    refine EvP.step (fun k=>bZ.f.eq_2 (k:=k) ..) (EvP.no (by simp [emb]) (EvP.yes (by simp [emb]) ?_))
    refine EvP.fD (rV a h.2.1) (EvP.yes (by simp [emb]) (EvP.fD (rV b h.2.2) ?_))
    generalize a.fold=x at ha ⊢
    generalize b.fold=y at hb ⊢
    simp only [tri]
    have stay:(¬ ∃ m n,x= .num m∧y= .num n)→X.rM op x y= .bin op x y:=fun hn=>X.LU fun m n e1 e2=>absurd ⟨m,n,e1,e2⟩ hn
    refine EvP.ite (fun hx=>?_) (fun hx=>?_)
    · obtain ⟨m,rfl⟩:=(KN ha).1 hx
      refine EvP.step (fun k=>bZ.j0.eq_2 (k:=k) ..) (EvP.ite (fun hy=>?_) (fun hy=>EvP.ret ?_))
      · obtain ⟨n,rfl⟩:=(KN hb).1 (by simpa using hy)
        refine EvP.gP (FN _ _ _) ?_
        simp only [emb,X.rM]
        refine EvP.ite (fun h1=>EvP.ite (fun h2=>EvP.ret ?_) (fun h2=>EvP.ret ?_)) (fun h1=>EvP.ret ?_)
        · rw [if_pos ⟨h1,h2⟩]
          rfl
        · rw [if_neg (fun e=>h2 e.2)]
          rfl
        · rw [if_neg (fun e=>h1 e.1)]
          rfl
      · rw [stay (fun ⟨m',n,_,e⟩=>hy (by rw [e];rfl))]
        simp only [emb,BS]
    · refine EvP.step (fun k=>bZ.j0.eq_2 (k:=k) ..) (EvP.no (by simp) (EvP.ret ?_))
      rw [stay (fun ⟨m',n,e,_⟩=>hx (by rw [e];rfl))]
      simp only [emb,BS]
theorem tX:∀ x:X,x.ok→EvP (fun k=>eP.f k (emb x).f0 (emb x).f1 (emb x).f2) (·=tri (emb x.fold))
  | .num n,h=>EvP.step (fun k=>eP.f.eq_2 (k:=k) ..) (EvP.yes rfl (EvP.gP rfl (EvP.ret rfl)))
  | .var v,h=>EvP.step (fun k=>eP.f.eq_2 (k:=k) ..) (EvP.yes rfl (EvP.gP rfl (EvP.ret rfl)))
  | .bin op a b,h=>by
    have ha:=X.rY a h.2.1
    have hb:=X.rY b h.2.2
    have he:(X.bin op a b).fold=X.rM op a.fold b.fold:=rfl
    rw [he]
    refine EvP.step (fun k=>eP.f.eq_2 (k:=k) ..) (EvP.no (by simp [emb]) (EvP.yes (by simp [emb]) ?_))
    refine EvP.fD (tX a h.2.1) (EvP.yes (by simp [emb]) (EvP.fD (tX b h.2.2) ?_))
    generalize a.fold=x at ha ⊢
    generalize b.fold=y at hb ⊢
    simp only [tri]
    have stay:(¬ ∃ m n,x= .num m∧y= .num n)→X.rM op x y= .bin op x y:=fun hn=>X.LU fun m n e1 e2=>absurd ⟨m,n,e1,e2⟩ hn
    refine EvP.ite (fun hx=>?_) (fun hx=>?_)
    · obtain ⟨m,rfl⟩:=(KN ha).1 hx
      refine EvP.step (fun k=>eP.j0.eq_2 (k:=k) ..) (EvP.ite (fun hy=>?_) (fun hy=>EvP.gP rfl (EvP.ret ?_)))
      · obtain ⟨n,rfl⟩:=(KN hb).1 (by simpa using hy)
        have hm:0≤m∧m≤99999:=ha
        have hn:0≤n∧n≤99999:=hb
        refine EvP.fD (FY _ _ _ h.1 (WX.2 (by simp only [emb];omega)) (WX.2 (by simp only [emb];omega))) (EvP.gP (sZ _ _ _) ?_)
        simp only [emb,X.rM]
        refine EvP.ite (fun h1=>EvP.gP rfl (EvP.ret ?_)) (fun h1=>EvP.gP rfl (EvP.ret ?_))
        · rw [Bool.and_eq_true] at h1
          rw [if_pos ⟨of_decide_eq_true h1.1,of_decide_eq_true h1.2⟩]
          rfl
        · rw [Bool.and_eq_true] at h1
          rw [if_neg (fun e=>h1 ⟨decide_eq_true e.1,decide_eq_true e.2⟩)]
          rfl
      · rw [stay (fun ⟨m',n,_,e⟩=>hy (by rw [e];rfl))]
        simp only [emb,BS]
    · refine EvP.step (fun k=>eP.j0.eq_2 (k:=k) ..) (EvP.no (by simp) (EvP.gP rfl (EvP.ret ?_)))
      rw [stay (fun ⟨m',n,e,_⟩=>hx (by rw [e];rfl))]
      simp only [emb,BS]
theorem FE (o n:Int):EvP (fun k=>bH.f k o n ([]:List S32) o n []) (·=true):=by
  refine EvP.step (fun k=>bH.f.eq_2 (k:=k) ..) (EvP.yes rfl (EvP.yes rfl ?_))
  refine EvP.step (fun k=>bH.j0.eq_2 (k:=k) ..) (EvP.no (by simp) ?_)
  exact EvP.step (fun k=>bH.l0.eq_2 (k:=k) ..) (EvP.no (by simp) (EvP.ret rfl))
theorem wP:∀ x:X,EvP (fun k=>bH.f k (emb x).f0 (emb x).f1 (emb x).f2 (emb x).f0 (emb x).f1 (emb x).f2) (·=true)
  | .num n=>FE _ _
  | .var v=>FE _ _
  | .bin op a b=>by
    refine EvP.step (fun k=>bH.f.eq_2 (k:=k) ..) (EvP.yes rfl (EvP.yes rfl ?_))
    refine EvP.step (fun k=>bH.j0.eq_2 (k:=k) ..) (EvP.no (by simp) ?_)
    simp only [emb]
    refine EvP.step (fun k=>bH.l0.eq_2 (k:=k) ..) (EvP.yes (by simp) (EvP.yes (by omega) (EvP.yes (by simp) ?_)))
    rw [WQ]
    refine EvP.fD (wP a) (EvP.yes rfl ?_)
    rw [w64 (by omega) (by omega),show (0:Int) + 1=1 from rfl]
    refine EvP.step (fun k=>bH.l0.eq_2 (k:=k) ..) (EvP.yes (by simp) (EvP.yes (by omega) (EvP.yes (by simp) ?_)))
    rw [WR]
    refine EvP.fD (wP b) (EvP.yes rfl ?_)
    rw [w64 (n:=1 + 1) (by omega) (by omega),show (1:Int) + 1=2 from rfl]
    exact EvP.step (fun k=>bH.l0.eq_2 (k:=k) ..) (EvP.no (by simp) (EvP.ret rfl))
theorem OO (x y:Int) (hx:0≤x) (j3:x < 4611686018427387904) (hy:0≤y) (j4:y < 4611686018427387904):0≤Go.bits .xor .i64 x y:=by
 obtain ⟨a,rfl⟩:=Int.eq_ofNat_of_zero_le hx
 obtain ⟨b,rfl⟩:=Int.eq_ofNat_of_zero_le hy
 have ha:a < 2 ^ 62:=by omega
 have hb:b < 2 ^ 62:=by omega
 have hx:=Nat.xor_lt_two_pow ha hb
 simp only [Go.bits,BitVec.ofInt_natCast,BitVec.toNat_xor,BitVec.toNat_ofNat]
 rw [show IntKind.i64.bits=64 from rfl,Nat.mod_eq_of_lt (a:=a) (by omega),Nat.mod_eq_of_lt (a:=b) (by omega),IntKind.wrap_i64]
 omega
def Bytes (b:List Int):Prop:=b.length≤2000∧∀ x ∈ b,0≤x∧x≤255
theorem Bytes.rd {b:List Int} (h:Bytes b) (i:Int) (h0:0≤i) (h1:i < b.length):0≤Go.Proofs.YtodhbeeibagiaaaW.PrintWords.rd b i∧Go.Proofs.YtodhbeeibagiaaaW.PrintWords.rd b i≤255:=h.2 _ (WS b i h0 h1)
theorem OC (l:List Int) (hl:l.length≤140737488351232) (hw:∀ x ∈ l,(Lit.int .u8 x).wf=true):∃ b,mX.f l=some (b,0)∧Bytes b:=by
 have hb:∀ x ∈ l,0≤x∧x≤255:=by
  intro x hx
  have h:=hw x hx
  simp only [Lit.wf,Bool.and_eq_true,decide_eq_true_eq] at h
  have e1:IntKind.u8.min=0:=by decide
  have e2:IntKind.u8.max=255:=by decide
  omega
 unfold mX.f
 by_cases h:(l.length:Int) > 2000
 ·rw [if_pos h,if_pos (by omega)]
  exact ⟨_,rfl,by rw [List.length_take];omega,fun x hx=>hb x (List.mem_of_mem_take hx)⟩
 ·rw [if_neg h]
  exact ⟨_,rfl,by omega,hb⟩
def aBh (p n:Int) (r:Int × Int):Prop:=r.2=p + 1∧0≤r.1∧(1≤n→r.1 < n)∧(n < 1→r.1=0)
theorem aAu (b:List Int) (hb:Bytes b) (p n:Int) (h0:0≤p) (h1:p≤1000000000000):EvP (fun k=>aH.f k b p n) (aBh p n):=by
 unfold aH.f
 rw [w64 (n:=p + 1) (by omega) (by omega)]
 have hz:EvP (fun k=>aH.j0 k n true b (p + 1)) (fun r=>r.2=p + 1∧r.1=0):=
  EvP.step (fun k=>aH.j0.eq_2 (k:=k) ..) (EvP.yes rfl (EvP.ret ⟨rfl,rfl⟩))
 refine EvP.ite (fun h=>?_) (fun h=>?_)
 ·exact hz.mono fun r hr=>⟨hr.1,by omega,fun _=>by omega,fun _=>hr.2⟩
 ·cases hl:((b.length:Int) == 0) with
  |true=>exact hz.mono fun r hr=>⟨hr.1,by omega,fun _=>by omega,fun _=>hr.2⟩
  |false=>
   have hl':(b.length:Int)≠0:=by simpa using hl
   have hbl:=hb.1
   refine EvP.step (fun k=>aH.j0.eq_2 (k:=k) ..) (EvP.no (by decide) ?_)
   rw [w64 (n:=p + 1 - 1) (by omega) (by omega),show p + 1 - 1=p by omega]
   refine EvP.ite (fun h2=>?_) (fun h2=>?_)
   ·refine EvP.yes h0 (EvP.no (by omega) (EvP.ret ?_))
    have hr:=hb.rd p h0 h2
    rw [w64 (by omega) (by omega)]
    have ht:=BM hr.1 (show 0 < n by omega)
    exact ⟨rfl,ht.1,fun _=>ht.2,fun _=>by omega⟩
   ·have t1:=BM h0 (show (0:Int) < b.length by omega)
    have t2:=BM (show 0≤p * 7 + 3 by omega) (show (0:Int) < b.length by omega)
    rw [w64 (n:=p * 7) (by omega) (by omega),w64 (n:=p * 7 + 3) (by omega) (by omega)]
    refine EvP.no hl' (EvP.yes t1.1 (EvP.yes t1.2 (EvP.yes t2.1 (EvP.yes t2.2 (EvP.no (by omega) (EvP.ret ?_))))))
    have r1:=hb.rd _ t1.1 t1.2
    have r2:=hb.rd _ t2.1 t2.2
    have hd0:0≤Int.tdiv p b.length:=Int.tdiv_nonneg h0 (by omega)
    have hd1:Int.tdiv p b.length≤p:=by
     rw [Int.tdiv_eq_ediv_of_nonneg h0]
     exact Int.ediv_le_self _ h0
    generalize Go.Proofs.YtodhbeeibagiaaaW.PrintWords.rd b (Int.tmod p b.length)=x1 at *
    generalize Go.Proofs.YtodhbeeibagiaaaW.PrintWords.rd b (Int.tmod (p * 7 + 3) b.length)=x2 at *
    generalize Int.tdiv p b.length=q at *
    simp only [w64 (n:=x1) (by omega) (by omega),w64 (n:=x2) (by omega) (by omega),w64 (n:=q) (by omega) (by omega)]
    simp only [w64 (n:=x1 * 131) (by omega) (by omega),w64 (n:=x2 * 1117) (by omega) (by omega),w64 (n:=p * 29) (by omega) (by omega),w64 (n:=q * 53) (by omega) (by omega)]
    simp only [w64 (n:=x1 * 131 + x2 * 1117) (by omega) (by omega)]
    simp only [w64 (n:=x1 * 131 + x2 * 1117 + p * 29) (by omega) (by omega)]
    simp only [w64 (n:=x1 * 131 + x2 * 1117 + p * 29 + q * 53) (by omega) (by omega)]
    have j3:0≤x1 * 131 + x2 * 1117 + p * 29 + q * 53:=by omega
    have j4:x1 * 131 + x2 * 1117 + p * 29 + q * 53 < 1000000000000000:=by omega
    generalize x1 * 131 + x2 * 1117 + p * 29 + q * 53=s at *
    have hv0:0≤Int.tdiv s 64:=Int.tdiv_nonneg j3 (by omega)
    have hv1:Int.tdiv s 64≤s:=by
     rw [Int.tdiv_eq_ediv_of_nonneg j3]
     exact Int.ediv_le_self _ j3
    rw [w64 (n:=Int.tdiv s 64) (by omega) (by omega)]
    have hx:=OO s (Int.tdiv s 64) j3 (by omega) hv0 (by omega)
    have ht:=BM hx (show 0 < n by omega)
    exact ⟨rfl,ht.1,fun _=>ht.2,fun _=>by omega⟩
theorem fU {β:Type} {b:List Int} (hb:Bytes b) {p n:Int} (h0:0≤p) (h1:p≤1000000000000) {f:Nat→Int × Int→Option β} {R:β→Prop}
  (k:∀ v,0≤v→(1≤n→v < n)→(n < 1→v=0)→EvP (fun m=>f m (v,p + 1)) R):EvP (fun m=>(aH.f m b p n).bind (f m)) R:=
 EvP.bind (aAu b hb p n h0 h1) (fun r hr=>by
  obtain ⟨v,q⟩:=r
  obtain ⟨e,k0,k1,k2⟩:=hr
  obtain rfl:q=p + 1:=e
  exact k v k0 k1 k2)
theorem MC (b:List Int) (hb:Bytes b) (p:Int) (h0:0≤p) (h1:p≤900000000000):EvP (fun k=>iR.f k b p) (fun r=>r.2=p + 1∧1≤r.1∧r.1≤12):=by
 unfold iR.f
 refine fU hb h0 (by omega) fun v v0 v1 _=>?_
 have:=v1 (by omega)
 dsimp only
 rw [w64 (by omega) (by omega)]
 exact EvP.ret (by dsimp only;omega)
theorem EW (b:List Int) (hb:Bytes b) (p:Int) (h0:0≤p) (h1:p≤900000000000):EvP (fun k=>gT.f k b p) (fun r=>p≤r.2.2.2∧r.2.2.2≤p + 2∧r.2.2.1.length=0):=by
 unfold gT.f
 refine fU hb h0 (by omega) fun v v0 v1 _=>?_
 dsimp only
 refine EvP.ite (fun h=>?_) (fun h=>?_)
 ·refine fU hb (by omega) (by omega) fun v2 w0 w1 _=>?_
  exact EvP.gP rfl (EvP.ret (by simp;omega))
 ·refine EvP.ite (fun h=>?_) (fun h=>?_)
  ·refine EvP.gP rfl (fU hb (by omega) (by omega) fun v2 w0 w1 _=>?_)
   have:=w1 (by omega)
   exact EvP.yes w0 (EvP.yes (by simp;omega) (EvP.gP rfl (EvP.ret (by simp;omega))))
  ·refine fU hb (by omega) (by omega) fun v2 w0 w1 _=>?_
   exact EvP.gP rfl (EvP.ret (by simp;omega))
theorem NV (b:List Int) (hb:Bytes b):∀ (d:Nat) (p:Int),d≤10→0≤p→p + 4 ^ (d + 1)≤800000000000→EvP (fun k=>bI.f k b p (d:Int)) (fun r=>p≤r.2.2.2∧r.2.2.2≤p + 4 ^ (d + 1)∧r.2.2.1.length≤2):=by
 intro d
 have leaf:∀ (d':Int) (q:Int) (p:Int) (m:Nat),0≤q→q≤800000000000→p≤q→q + 2≤p + 4 ^ (m + 1)→EvP (fun k=>bI.j0 k d' true b q) (fun r=>p≤r.2.2.2∧r.2.2.2≤p + 4 ^ (m + 1)∧r.2.2.1.length≤2):=by
  intro d' q p m h0 h1 h2 h3
  refine EvP.step (fun k=>bI.j0.eq_2 (k:=k) ..) (EvP.yes rfl ?_)
  refine EvP.bind (EW b hb q h0 (by omega)) fun r hr=>?_
  exact EvP.ret (by dsimp only;omega)
 induction d with
 |zero=>
  intro p hd h0 h1
  refine EvP.step (fun k=>bI.f.eq_2 (k:=k) ..) (EvP.yes (by omega) ?_)
  exact leaf _ p p 0 h0 (by omega) (by omega) (by omega)
 |succ d ih=>
  intro p hd h0 h1
  have h4:(4:Int) ^ (d + 1 + 1)=4 * 4 ^ (d + 1):=by rw [Int.pow_succ,Int.mul_comm]
  have h5:(4:Int)≤4 ^ (d + 1):=by
   have:0 < (4:Int) ^ d:=Int.pow_pos (by omega)
   rw [Int.pow_succ]
   omega
  refine EvP.step (fun k=>bI.f.eq_2 (k:=k) ..) (EvP.ite (fun h=>?_) (fun h=>?_))
  ·exact leaf _ p p (d + 1) h0 (by omega) (by omega) (by omega)
  ·refine fU hb h0 (by omega) fun v v0 v1 _=>?_
   dsimp only
   cases hv:(v == 0) with
   |true=>exact leaf _ (p + 1) p (d + 1) (by omega) (by omega) (by omega) (by omega)
   |false=>
    refine EvP.step (fun k=>bI.j0.eq_2 (k:=k) ..) (EvP.no (by simp) ?_)
    rw [w64 (by omega) (by omega),show ((d + 1:Nat):Int) - 1=(d:Int) by omega]
    refine EvP.bind (MC b hb (p + 1) (by omega) (by omega)) fun r hr=>?_
    refine EvP.bind (ih r.2 (by omega) (by omega) (by omega)) fun s hs=>?_
    refine EvP.bind (ih s.2.2.2 (by omega) (by omega) (by omega)) fun u hu=>?_
    exact EvP.gP rfl (EvP.ret (by simp;omega))
theorem pG (b:List Int) (hb:Bytes b) (d:Int) (p:Int) (hd0:0≤d) (hd:d≤5) (h0:0≤p) (h1:p≤700000000000):EvP (fun k=>bI.f k b p d) (fun r=>p≤r.2.2.2∧r.2.2.2≤p + 4096∧r.2.2.1.length≤2):=by
 have hp:(4:Int) ^ (d.toNat + 1)≤4096:=by
  have:d.toNat≤5:=by omega
  have h2:4 ^ (d.toNat + 1)≤4 ^ 6:=Nat.pow_le_pow_right (by omega) (by omega)
  have h3:((4 ^ (d.toNat + 1):Nat):Int)≤4096:=by omega
  rw [Int.natCast_pow] at h3
  exact h3
 have h:=NV b hb d.toNat p (by omega) h0 (by omega)
 rw [Int.toNat_of_nonneg hd0] at h
 exact h.mono fun r hr=>by omega
def cB:Nat→Nat
 |0=>1
 |d + 1=>4 * cB d + 3
def pB:Nat→Nat
 |0=>5000
 |d + 1=>4 * pB d + 5000
theorem TJ {d:Nat} (h:d≤3):1≤cB d∧cB d≤127:=by
 match d,h with
 |0,_=>decide
 |1,_=>decide
 |2,_=>decide
 |3,_=>decide
theorem WM {d:Nat} (h:d≤3):5000≤pB d∧pB d≤425000:=by
 match d,h with
 |0,_=>decide
 |1,_=>decide
 |2,_=>decide
 |3,_=>decide
def DS (p:Int) (P C:Nat) (r:Int × Int × Int × Int × Int × (List (S32)) × (List (S35)) × (List (S35)) × Int):Prop:=
 p≤r.2.2.2.2.2.2.2.2∧r.2.2.2.2.2.2.2.2≤p + P∧cSs r.2.2.2.2.2.2.1 + cSs r.2.2.2.2.2.2.2.1≤C
def DL (p:Int) (P C:Nat) (r:List (S35) × Int):Prop:=p≤r.2∧r.2≤p + P∧cSs r.1≤C
theorem BX (b:List Int) (hb:Bytes b) (p:Int) (h0:0≤p) (h1:p≤600000000000):EvP (fun k=>gN.f k b p) (DS p 4100 0):=by
 unfold gN.f
 refine fU hb h0 (by omega) fun v v0 v1 _=>?_
 refine fU hb (by dsimp only;omega) (by dsimp only;omega) fun u u0 u1 _=>?_
 have:=u1 (by omega)
 dsimp only
 rw [w64 (by omega) (by omega)]
 refine EvP.bind (pG b hb _ _ (by omega) (by omega) (by omega) (by omega)) fun r hr=>EvP.ret ?_
 unfold DS
 simp only [rX]
 omega
theorem NY (b:List Int) (hb:Bytes b) (p a1:Int) (h0:0≤p) (h1:p≤500000000000):EvP (fun k=>gU.f k b p a1) (DS p 4200 0):=by
 unfold gU.f
 refine EvP.ite (fun h=>?_) (fun h=>?_)
 ·refine EvP.bind (BX b hb p h0 (by omega)) fun r hr=>EvP.ret ?_
  unfold DS at hr ⊢
  dsimp only
  omega
 ·refine fU hb h0 (by omega) fun v v0 v1 _=>?_
  refine fU hb (by dsimp only;omega) (by dsimp only;omega) fun u u0 u1 _=>?_
  dsimp only
  refine EvP.ite (fun h=>?_) (fun h=>?_)
  ·refine fU hb (by omega) (by omega) fun w w0 w1 _=>?_
   have:=w1 (by omega)
   dsimp only
   rw [w64 (by omega) (by omega)]
   refine EvP.bind (pG b hb _ _ (by omega) (by omega) (by omega) (by omega)) fun r hr=>EvP.ret ?_
   unfold DS
   simp only [rX]
   omega
  ·refine fU hb (by omega) (by omega) fun w w0 w1 _=>EvP.ret ?_
   unfold DS
   simp only [rX]
   omega
theorem ME (b:List Int) (x1 x2:Int) (x4:Bool) (P C:Nat) (M:Int)
  (stmt:∀ p,0≤p→p≤M→EvP (fun k=>bF.f k b p x1 x2 x4) (DL p P C)) (n:Int):
  ∀ (r j:Nat) (l:List (S35)) (p:Int),(j:Int) + r=n→j + r≤100→cSs l + r * C≤1000000→0≤p→p + ((r * P:Nat):Int)≤M→
   EvP (fun k=>bS.l0 k x1 x2 n x4 l (j:Int) b p) (DL p (r * P) (cSs l + r * C)):=by
 intro r
 induction r with
 |zero=>
  intro j l p hj hr hl h0 h1
  refine EvP.step (fun k=>bS.l0.eq_2 (k:=k) ..) (EvP.no (by omega) (EvP.ret ?_))
  unfold DL
  dsimp only
  omega
 |succ r ih=>
  intro j l p hj hr hl h0 h1
  have e1:(r + 1) * P=r * P + P:=Nat.succ_mul r P
  have e2:(r + 1) * C=r * C + C:=Nat.succ_mul r C
  rw [e1] at h1 ⊢
  rw [e2] at hl ⊢
  refine EvP.step (fun k=>bS.l0.eq_2 (k:=k) ..) (EvP.yes (by omega) ?_)
  refine EvP.bind (stmt p h0 (by omega)) fun s hs=>?_
  obtain ⟨s0,s1,s2⟩:=hs
  have l1:=gF l
  have l2:=gF s.1
  have ha:=rQ l s.1
  refine EvP.yes (by omega) ?_
  rw [w64 (by omega) (by omega)]
  refine (ih (j + 1) (l ++ s.1) s.2 (by omega) (by omega) (by omega) (by omega) (by omega)).mono fun a ha=>?_
  unfold DL at ha ⊢
  omega
theorem uI (b:List Int) (x1 x2:Int) (x4:Bool) (P C:Nat) (M:Int)
  (stmt:∀ p,0≤p→p≤M→EvP (fun k=>bF.f k b p x1 x2 x4) (DL p P C)) (n:Int) (m:Nat) (j3:0≤n) (hn:n≤m) (hm:m≤100) (hC:m * C≤1000000) (p:Int) (h0:0≤p) (h1:p + ((m * P:Nat):Int)≤M):
  EvP (fun k=>bS.f k b p x1 x2 n x4) (DL p (m * P) (m * C)):=by
 have hnm:n.toNat≤m:=by omega
 have e1:n.toNat * P≤m * P:=Nat.mul_le_mul_right P hnm
 have e2:n.toNat * C≤m * C:=Nat.mul_le_mul_right C hnm
 refine EvP.step (fun k=>bS.f.eq_2 (k:=k) ..) ?_
 refine (ME b x1 x2 x4 P C M stmt n n.toNat 0 [] p (by omega) (by omega) (by rw [rX];omega) h0 (by omega)).mono fun a ha=>?_
 unfold DL at ha ⊢
 rw [rX] at ha
 omega
theorem MF (b:List Int) (hb:Bytes b) (x1 a2:Int) (x4:Bool) (P C:Nat) (hP:P≤1000000) (hC:C≤1000) (M:Int) (hM:M≤300000000000)
  (stmt:∀ p,0≤p→p≤M→EvP (fun k=>bF.f k b p x1 (wrap64 (a2 - 1)) x4) (DL p P C)) (p:Int) (h0:0≤p) (h1:p + 10000000≤M):
  EvP (fun k=>eU.f k b p x1 a2 x4) (DS p (4 * P + 4200) (4 * C)):=by
 refine EvP.step (fun k=>eU.f.eq_2 (k:=k) ..) ?_
 refine fU hb h0 (by omega) fun v v0 v1 _=>?_
 have:=v1 (by omega)
 dsimp only
 rw [w64 (n:=1 + v) (by omega) (by omega)]
 refine EvP.bind (pG b hb _ _ (by omega) (by omega) (by omega) (by omega)) fun r hr=>?_
 refine fU hb (by omega) (by omega) fun u u0 u1 _=>?_
 have:=u1 (by omega)
 refine EvP.bind (uI b x1 _ x4 P C M stmt u 2 u0 (by omega) (by omega) (by omega) _ (by dsimp only;omega) (by dsimp only;omega)) fun s hs=>?_
 obtain ⟨s0,s1,s2⟩:=hs
 dsimp only at s0 s1
 refine fU hb (by omega) (by omega) fun w w0 w1 _=>?_
 have:=w1 (by omega)
 refine EvP.bind (uI b x1 _ x4 P C M stmt w 2 w0 (by omega) (by omega) (by omega) _ (by dsimp only;omega) (by dsimp only;omega)) fun t ht=>EvP.ret ?_
 obtain ⟨t0,t1,t2⟩:=ht
 dsimp only at t0 t1
 unfold DS
 dsimp only
 omega
theorem NW (b:List Int) (hb:Bytes b) (x1 a2:Int) (P C:Nat) (hP:P≤1000000) (hC:C≤1000) (M:Int) (hM:M≤300000000000)
  (stmt:∀ p,0≤p→p≤M→EvP (fun k=>bF.f k b p x1 (wrap64 (a2 - 1)) false) (DL p P C)) (p:Int) (h0:0≤p) (h1:p + 10000000≤M):
  EvP (fun k=>dX.f k b p x1 a2) (DL p (2 * P + 10) (2 * C + 3)):=by
 refine EvP.step (fun k=>dX.f.eq_2 (k:=k) ..) ?_
 refine fU hb h0 (by omega) fun v v0 v1 _=>?_
 have:=v1 (by omega)
 refine EvP.bind (uI b x1 _ false P C M stmt v 2 v0 (by omega) (by omega) (by omega) _ (by dsimp only;omega) (by dsimp only;omega)) fun s hs=>?_
 obtain ⟨s0,s1,s2⟩:=hs
 dsimp only at s0 s1
 refine EvP.gP rfl (EvP.gP rfl (EvP.gP rfl (EvP.gP rfl ?_)))
 refine fU hb (by omega) (by omega) fun u u0 u1 _=>?_
 refine EvP.gP rfl (EvP.gP rfl (EvP.gP rfl ?_))
 have l1:=gF s.1
 refine EvP.yes (by simp;omega) (EvP.gP rfl (EvP.ret ?_))
 unfold DL
 simp only [cSs,cS,rQ]
 omega
theorem EY (b:List Int) (hb:Bytes b) (x1 j3:Int) (x:Bool) (p:Int) (h0:0≤p) (h1:p≤300000000000):
  EvP (fun k=>bF.j2 k x1 j3 x b p) (DL p 4300 1):=by
 refine EvP.step (fun k=>bF.j2.eq_2 (k:=k) ..) (EvP.ite (fun h=>?_) (fun h=>EvP.ite (fun h=>EvP.ret ?_) (fun h=>?_)))
 ·refine EvP.bind (NY b hb p x1 h0 (by omega)) fun r hr=>EvP.ret ?_
  unfold DS at hr
  unfold DL
  simp only [cSs,cS]
  omega
 ·unfold DL
  simp only [cSs,cS]
  omega
 ·refine fU hb h0 (by omega) fun u u0 u1 _=>?_
  have:=u1 (by omega)
  dsimp only
  rw [w64 (by omega) (by omega)]
  refine EvP.bind (pG b hb _ _ (by omega) (by omega) (by omega) (by omega)) fun r hr=>EvP.ret ?_
  unfold DL
  simp only [cSs,cS]
  omega
theorem EX (b:List Int) (hb:Bytes b):∀ (d:Nat) (a2:Int) (x1:Int) (x3:Bool) (p:Int),d≤3→a2=d→0≤p→p + (d:Int) * 20000000≤200000000000→EvP (fun k=>bF.f k b p x1 a2 x3) (DL p (pB d) (cB d)):=by
 intro d
 induction d with
 |zero=>
  intro a2 x1 x3 p hd ha h0 h1
  have j2:∀ (q j5:Int) (x:Bool),p≤q→q≤p + 1→EvP (fun k=>bF.j2 k x1 j5 x b q) (DL p (pB 0) (cB 0)):=fun q j5 x hq hq2=>(EY b hb x1 j5 x q (by omega) (by omega)).mono fun r hr=>by
   unfold DL at hr ⊢
   simp only [pB,cB]
   omega
  have pr:∀ q:Int,p≤q→q≤p + 1→EvP (fun k=>(aH.f k b q 3).bind fun j4=>((bI.f k b j4.2 (wrap64 (1 + j4.1))).bind fun j3=>(some ((([(⟨7,0,0,(⟨j3.1,j3.2.1,j3.2.2.1⟩:S32),([]:List (S35)),([]:List (S35))⟩:S35)]:List (S35))),j3.2.2.2)))) (DL p (pB 0) (cB 0)):=by
   intro q hq hq2
   refine fU hb (by omega) (by omega) fun u u0 u1 _=>?_
   have:=u1 (by omega)
   dsimp only
   rw [w64 (by omega) (by omega)]
   refine EvP.bind (pG b hb _ _ (by omega) (by omega) (by omega) (by omega)) fun r hr=>EvP.ret ?_
   unfold DL
   simp only [cSs,cS,pB,cB]
   omega
  have j1:∀ q:Int,p≤q→q≤p + 1→EvP (fun k=>bF.j1 k x1 a2 false b q) (DL p (pB 0) (cB 0)):=fun q hq hq2=>
   EvP.step (fun k=>bF.j1.eq_2 (k:=k) ..) (EvP.no Bool.false_ne_true (pr q hq hq2))
  have j0:∀ (q j5:Int) (x:Bool),p≤q→q≤p + 1→EvP (fun k=>bF.j0 k x1 a2 x3 j5 x b q) (DL p (pB 0) (cB 0)):=by
   intro q j5 x hq hq2
   refine EvP.step (fun k=>bF.j0.eq_2 (k:=k) ..) (EvP.ite (fun h=>?_) (fun h=>EvP.ite (fun h=>EvP.no (by omega) (pr q hq hq2)) (fun h=>EvP.ite (fun h=>EvP.no (by omega) (j1 q hq hq2)) (fun h=>EvP.ite (fun h=>j2 q _ _ hq hq2) (fun h=>EvP.ite (fun h=>j2 q _ _ hq hq2) (fun h=>j2 q _ _ hq hq2))))))
   refine EvP.bind (BX b hb q (by omega) (by omega)) fun r hr=>EvP.ret ?_
   unfold DS at hr
   unfold DL
   simp only [cSs,cS,pB,cB]
   omega
  refine EvP.step (fun k=>bF.f.eq_2 (k:=k) ..) (fU hb h0 (by omega) fun u u0 u1 _=>?_)
  dsimp only
  exact EvP.ite (fun h=>j0 _ _ _ (by omega) (by omega)) (fun h=>j0 _ _ _ (by omega) (by omega))
 |succ d ih=>
  intro a2 x1 x3 p hd ha h0 h1
  have hc:=TJ (show d≤3 by omega)
  have hp:=WM (show d≤3 by omega)
  have ec:cB (d + 1)=4 * cB d + 3:=rfl
  have ep:pB (d + 1)=4 * pB d + 5000:=rfl
  have ew:wrap64 (a2 - 1)=(d:Int):=by
   rw [w64 (by omega) (by omega)]
   omega
  have stmt:∀ (x4:Bool) (p:Int),0≤p→p≤200000000000 - (d:Int) * 20000000→EvP (fun k=>bF.f k b p x1 (wrap64 (a2 - 1)) x4) (DL p (pB d) (cB d)):=fun x4 p h0 h1=>ih _ x1 x4 p (by omega) ew h0 (by omega)
  have j2:∀ (q j5:Int) (x:Bool),p≤q→q≤p + 1→EvP (fun k=>bF.j2 k x1 j5 x b q) (DL p (pB (d + 1)) (cB (d + 1))):=fun q j5 x hq hq2=>(EY b hb x1 j5 x q (by omega) (by omega)).mono fun r hr=>by
   unfold DL at hr ⊢
   omega
  have pr:∀ q:Int,p≤q→q≤p + 1→EvP (fun k=>(aH.f k b q 3).bind fun j4=>((bI.f k b j4.2 (wrap64 (1 + j4.1))).bind fun j3=>(some ((([(⟨7,0,0,(⟨j3.1,j3.2.1,j3.2.2.1⟩:S32),([]:List (S35)),([]:List (S35))⟩:S35)]:List (S35))),j3.2.2.2)))) (DL p (pB (d + 1)) (cB (d + 1))):=by
   intro q hq hq2
   refine fU hb (by omega) (by omega) fun u u0 u1 _=>?_
   have:=u1 (by omega)
   dsimp only
   rw [w64 (by omega) (by omega)]
   refine EvP.bind (pG b hb _ _ (by omega) (by omega) (by omega) (by omega)) fun r hr=>EvP.ret ?_
   unfold DL
   simp only [cSs,cS]
   omega
  have j1:∀ (q:Int) (x:Bool),p≤q→q≤p + 1→EvP (fun k=>bF.j1 k x1 a2 x b q) (DL p (pB (d + 1)) (cB (d + 1))):=by
   intro q x hq hq2
   refine EvP.step (fun k=>bF.j1.eq_2 (k:=k) ..) (EvP.ite (fun h=>?_) (fun h=>pr q hq hq2))
   refine EvP.bind (NW b hb x1 a2 (pB d) (cB d) (by omega) (by omega) (200000000000 - (d:Int) * 20000000) (by omega) (stmt false) q (by omega) (by omega)) fun r hr=>EvP.ret ?_
   unfold DL at hr ⊢
   dsimp only
   omega
  have j0:∀ (q j5:Int) (x:Bool),p≤q→q≤p + 1→EvP (fun k=>bF.j0 k x1 a2 x3 j5 x b q) (DL p (pB (d + 1)) (cB (d + 1))):=by
   intro q j5 x hq hq2
   refine EvP.step (fun k=>bF.j0.eq_2 (k:=k) ..) (EvP.ite (fun h=>?_) (fun h=>EvP.ite (fun h=>EvP.ite (fun h=>?_) (fun h=>pr q hq hq2)) (fun h=>EvP.ite (fun h=>EvP.ite (fun h=>j1 q _ hq hq2) (fun h=>j1 q _ hq hq2)) (fun h=>EvP.ite (fun h=>j2 q _ _ hq hq2) (fun h=>EvP.ite (fun h=>j2 q _ _ hq hq2) (fun h=>j2 q _ _ hq hq2))))))
   ·refine EvP.bind (BX b hb q (by omega) (by omega)) fun r hr=>EvP.ret ?_
    unfold DS at hr
    unfold DL
    simp only [cSs,cS]
    omega
   ·refine EvP.bind (MF b hb x1 a2 x3 (pB d) (cB d) (by omega) (by omega) (200000000000 - (d:Int) * 20000000) (by omega) (stmt x3) q (by omega) (by omega)) fun r hr=>EvP.ret ?_
    unfold DS at hr
    unfold DL
    simp only [cSs,cS]
    omega
  refine EvP.step (fun k=>bF.f.eq_2 (k:=k) ..) (fU hb h0 (by omega) fun u u0 u1 _=>?_)
  dsimp only
  exact EvP.ite (fun h=>j0 _ _ _ (by omega) (by omega)) (fun h=>j0 _ _ _ (by omega) (by omega))
theorem CY (b:List Int) (hb:Bytes b) (d:Nat) (hd:d≤3) (a2 x1:Int) (ha:a2=d) (x4:Bool) (n:Int) (m:Nat) (j3:0≤n) (hn:n≤m) (hm:m≤6) (p:Int) (h0:0≤p) (h1:p≤190000000000):
  EvP (fun k=>bS.f k b p x1 a2 n x4) (DL p (m * pB d) (m * cB d)):=by
 have hc:=TJ hd
 have hp:=WM hd
 have e1:m * pB d≤6 * pB d:=Nat.mul_le_mul_right _ hm
 have e2:m * cB d≤6 * cB d:=Nat.mul_le_mul_right _ hm
 exact uI b x1 a2 x4 (pB d) (cB d) (200000000000 - (d:Int) * 20000000) (fun p h0 h1=>EX b hb d a2 x1 x4 p hd ha h0 (by omega)) n m j3 hn (by omega) (by omega) p h0 (by omega)
theorem MJ (b:List Int) (p:Int):∀ (m:Nat) (l:List (S35)),l.length=m→cSs l≤1000000→EvP (fun k=>eH.l0 k l b p) (fun r=>r.2=p∧cSs r.1≤16):=by
 intro m
 induction m with
 |zero=>
  intro l hm hl
  obtain rfl:=List.eq_nil_of_length_eq_zero hm
  refine EvP.step (fun k=>eH.l0.eq_2 (k:=k) ..) (EvP.fD (rW _ _ hl (by omega)) (EvP.no ?_ (EvP.ret ⟨rfl,?_⟩)))
  ·rw [rX]
   omega
  ·rw [rX]
   omega
 |succ m ih=>
  intro l hm hl
  refine EvP.step (fun k=>eH.l0.eq_2 (k:=k) ..) (EvP.fD (rW _ _ hl (by omega)) (EvP.ite (fun h=>?_) (fun h=>EvP.ret ⟨rfl,by dsimp only;omega⟩)))
  have hlen:=gF l
  rw [w64 (by omega) (by omega),show (((l.length:Int) - 1)).toNat=m by omega]
  have ht:=FM l m
  exact EvP.yes (by omega) (EvP.yes (by omega) (ih _ (by rw [List.length_take];omega) (by omega)))
theorem MI (b:List Int) (hb:Bytes b) (p a1:Int) (h0:0≤p) (h1:p≤180000000000):EvP (fun k=>eH.f k b p a1) (DL p 3000000 16):=by
 unfold eH.f
 refine fU hb h0 (by omega) fun v v0 v1 _=>?_
 have:=v1 (by omega)
 dsimp only
 rw [w64 (by omega) (by omega)]
 have hc:=TJ (show 3≤3 by omega)
 have hp:=WM (show 3≤3 by omega)
 refine EvP.bind (CY b hb 3 (by omega) 3 a1 rfl true (1 + v) 6 (by omega) (by omega) (by omega) _ (by omega) (by omega)) fun r hr=>?_
 obtain ⟨r0,r1,r2⟩:=hr
 refine (MJ b r.2 _ r.1 rfl (by omega)).mono fun s hs=>?_
 unfold DL
 omega
theorem FR (b:List Int) (hb:Bytes b) (p:Int) (h0:0≤p) (h1:p≤180000000000):EvP (fun k=>gY.f k b p) (DS p 100000 20):=by
 unfold gY.f
 refine EvP.gP rfl (fU hb h0 (by omega) fun v v0 v1 _=>?_)
 have:=v1 (by omega)
 dsimp only
 refine EvP.bind (CY b hb 1 (by omega) 1 0 rfl false v 2 (by omega) (by omega) (by omega) _ (by omega) (by omega)) fun r hr=>EvP.ret ?_
 obtain ⟨r0,r1,r2⟩:=hr
 have e1:cB 1=7:=rfl
 have e2:pB 1=25000:=rfl
 rw [e2] at r1
 rw [e1] at r2
 unfold DS
 simp only [rX]
 omega
theorem TV (b:List Int) (hb:Bytes b) (p x1:Int) (x4:Bool) (h0:0≤p) (h1:p≤180000000000):EvP (fun k=>eU.f k b p x1 1 x4) (DS p 30000 4):=by
 have e1:cB 0=1:=rfl
 have e2:pB 0=5000:=rfl
 refine (MF b hb x1 1 x4 (pB 0) (cB 0) (by omega) (by omega) 200000000000 (by omega) (fun p h0 h1=>EX b hb 0 _ x1 x4 p (by omega) (by rw [w64 (by omega) (by omega)];rfl) h0 (by omega)) p h0 (by omega)).mono fun r hr=>?_
 unfold DS at hr ⊢
 omega
set_option linter.unusedSimpArgs false
theorem nE (l:List ST):l.length≤cT l:=by
 have h:=gF (dU l)
 rw [iV] at h
 exact h
theorem EO (l:List ST) (j:Nat):cT (l.take j) + cT (l.drop j)=cT l:=by
 rw [← BQ,List.take_append_drop]
theorem KS (l:List ST) (j:Nat) (h:j < l.length):aC (dU l) (j:Int)=nY l[j]:=by
 rw [xD _ j (by rw [iV];exact h),IB l j h]
theorem PY (kd va bx:Int) (y:X) (hy:y.ok) (b e:List ST):
  BF kd va bx y b e=if kd=2∧(emb y).f0=0∧(emb y).f1≠0 then b else if kd=2∧(emb y).f0=0 then e else if kd=3∧(emb y).f0=0∧(emb y).f1=0 then [] else [⟨kd,va,bx,y,b,e⟩]:=by
 unfold BF
 cases y with
 |num n=>
  by_cases h2:kd=2
  ·subst h2
   by_cases hn:n=0 <;> simp [emb,hn]
  ·by_cases h3:kd=3
   ·subst h3
    by_cases hn:n=0 <;> simp [emb,hn]
   ·simp [emb,h2,h3]
 |var v=>by_cases h2:kd=2 <;> by_cases h3:kd=3 <;> simp [emb,h2,h3]
 |bin o p q=>
  have ho:o≠0:=by have:=hy.1;omega
  by_cases h2:kd=2 <;> by_cases h3:kd=3 <;> simp [emb,h2,h3,ho]
theorem AZ:∀ (c:Nat) (l:List ST),(∀ t ∈ l,AX t)→cT l≤c→c≤1000000000→EvP (fun k=>aX.f k (dU l)) (·=dU (dZ l)):=by
  intro c
  induction c with
  |zero=>
    intro l _ hl hc
    have:=nE l
    obtain rfl:=List.eq_nil_of_length_eq_zero (show l.length=0 by omega)
    refine EvP.step (fun k=>aX.f.eq_2 (k:=k) ..) (EvP.step (fun k=>aX.l0.eq_2 (k:=k) ..) (EvP.no (by rw [dU];simp) (EvP.ret ?_)))
    rw [dZ,dU]
  |succ c ih=>
    intro l ha hl hc
    have hlen:=iV l
    have loop:∀ (r j:Nat) (acc:List ST),j + r=l.length→acc.length + cT (l.drop j)≤2000000000→EvP (fun k=>aX.l0 k (dU acc) (dU l) ((dU l).length:Int) (j:Int)) (·=dU (acc ++ dZ (l.drop j))):=by
      intro r
      induction r with
      |zero=>
        intro j acc hj h1
        refine EvP.step (fun k=>aX.l0.eq_2 (k:=k) ..) (EvP.no (by omega) (EvP.ret ?_))
        rw [List.drop_eq_nil_of_le (by omega),dZ,List.append_nil]
      |succ r ih2=>
        intro j acc hj h1
        have hlt:j < l.length:=by omega
        have hl2:=nE l
        have hsp:=EO l j
        have hd:=List.drop_eq_getElem_cons hlt
        have hcd:cT (l.drop j)=cT l[j].b + cT l[j].e + 1 + cT (l.drop (j + 1)):=by rw [hd,DV]
        have hrd:=KS l j hlt
        have hat:=ha _ (List.getElem_mem hlt)
        have hft:=EN l[j]
        rw [BR] at hft
        have hfl:=nE (lY l[j])
        have hb1:=nE (dZ l[j].b)
        have hb2:=uX l[j].b
        have he1:=nE (dZ l[j].e)
        have he2:=uX l[j].e
        generalize l[j]=t at *
        obtain ⟨hok,_,hab,hae⟩:t.x.ok∧t.x.depth≤5∧(∀ y ∈ t.b,AX y)∧(∀ y ∈ t.e,AX y):=by
          cases hat with
          |mk _ a b c d=>exact ⟨a,b,c,d⟩
        refine EvP.step (fun k=>aX.l0.eq_2 (k:=k) ..) (EvP.yes (by omega) (EvP.yes (by omega) (EvP.yes (by omega) ?_)))
        rw [hrd,rT t]
        dsimp only
        refine EvP.fD (ih _ hab (by omega) (by omega)) (EvP.fD (ih _ hae (by omega) (by omega)) (EvP.fD (rV _ hok) ?_))
        have hyo:=X.rY _ hok
        have hf:lY t=_:=(uG t).trans (PY _ _ _ _ hyo _ _)
        have next:∀ p:List ST,lY t=p→EvP (fun k=>aX.l0 k (dU acc ++ dU p) (dU l) ((dU l).length:Int) ((j:Int) + 1)) (·=dU (acc ++ dZ (l.drop j))):=by
          rintro p rfl
          rw [← rD]
          refine (ih2 (j + 1) (acc ++ lY t) (by omega) (by rw [List.length_append];omega)).mono fun b hb=>?_
          rw [hb,hd,dZ,List.append_assoc]
        have la:=iV acc
        have lb:=iV (dZ t.b)
        have le:=iV (dZ t.e)
        dsimp only [tri]
        have one:lY t=[⟨t.kd,t.va,t.bx,t.x.fold,dZ t.b,dZ t.e⟩]→EvP (fun k=>aX.l0 k (dU acc ++ [(⟨t.kd,t.va,t.bx,⟨(emb t.x.fold).f0,(emb t.x.fold).f1,(emb t.x.fold).f2⟩,dU (dZ t.b),dU (dZ t.e)⟩:S35)]) (dU l) ((dU l).length:Int) ((j:Int) + 1)) (·=dU (acc ++ dZ (l.drop j))):=by
          intro h
          have h2:=next _ h
          rw [dU,dU,nY] at h2
          rw [BS]
          exact h2
        clear ih ih2
        by_cases h2:t.kd=2
        · refine EvP.yes h2 ?_
          by_cases ho:(emb t.x.fold).f0=0
          · refine EvP.yes ho (EvP.step (fun k=>aX.j1.eq_2 (k:=k) ..) ?_)
            by_cases hn:(emb t.x.fold).f1=0
            · refine EvP.no (by simp [hn]) (EvP.yes h2 (EvP.step (fun k=>aX.j2.eq_2 (k:=k) ..) (EvP.yes (by simp [ho]) (EvP.yes (by omega) ?_))))
              rw [w64 (n:=(j:Int) + 1) (by omega) (by omega)]
              exact next _ (by rw [hf,if_neg (fun e=>e.2.2 hn),if_pos ⟨h2,ho⟩])
            · refine EvP.yes (by simp [hn]) (EvP.yes (by omega) ?_)
              rw [w64 (n:=(j:Int) + 1) (by omega) (by omega)]
              exact next _ (by rw [hf,if_pos ⟨h2,ho,hn⟩])
          · refine EvP.no ho (EvP.step (fun k=>aX.j1.eq_2 (k:=k) ..) (EvP.no (by simp) (EvP.yes h2 (EvP.step (fun k=>aX.j2.eq_2 (k:=k) ..) (EvP.no (by simp [ho]) (EvP.no (by omega) (EvP.yes (by omega) ?_)))))))
            rw [w64 (n:=(j:Int) + 1) (by omega) (by omega)]
            exact one (by rw [hf,if_neg (fun e=>ho e.2.1),if_neg (fun e=>ho e.2),if_neg (fun e=>ho e.2.1)])
        · refine EvP.no h2 (EvP.step (fun k=>aX.j1.eq_2 (k:=k) ..) (EvP.no (by simp) (EvP.no h2 (EvP.step (fun k=>aX.j2.eq_2 (k:=k) ..) (EvP.no (by simp) ?_)))))
          rw [w64 (n:=(j:Int) + 1) (by omega) (by omega)]
          by_cases h3:t.kd=3
          · refine EvP.yes h3 ?_
            by_cases ho:(emb t.x.fold).f0=0
            · refine EvP.yes (by simp [ho]) ?_
              by_cases hn:(emb t.x.fold).f1=0
              · refine EvP.yes hn ?_
                have h4:=next [] (by rw [hf,if_neg (fun e=>h2 e.1),if_neg (fun e=>h2 e.1),if_pos ⟨h3,ho,hn⟩])
                rw [dU,List.append_nil] at h4
                exact h4
              · exact EvP.no hn (EvP.yes (by omega) (one (by rw [hf,if_neg (fun e=>h2 e.1),if_neg (fun e=>h2 e.1),if_neg (fun e=>hn e.2.2)])))
            · exact EvP.no (by simp [ho]) (EvP.yes (by omega) (one (by rw [hf,if_neg (fun e=>h2 e.1),if_neg (fun e=>h2 e.1),if_neg (fun e=>ho e.2.1)])))
          · exact EvP.no h3 (EvP.yes (by omega) (one (by rw [hf,if_neg (fun e=>h2 e.1),if_neg (fun e=>h2 e.1),if_neg (fun e=>h3 e.1)])))
    refine EvP.step (fun k=>aX.f.eq_2 (k:=k) ..) ?_
    have h:=loop l.length 0 [] (by omega) (by rw [List.drop_zero];simp;omega)
    rw [List.drop_zero,List.nil_append,dU] at h
    exact h
theorem yZ (t:ST) (hok:t.x.ok) (hb:EvP (fun k=>bM.f k (dU t.b)) (·=dU (dZ t.b))) (he:EvP (fun k=>bM.f k (dU t.e)) (·=dU (dZ t.e))):
    EvP (fun k=>gJ.f k (nY t)) (·=dU (lY t)):=by
  refine EvP.step (fun k=>gJ.f.eq_2 (k:=k) ..) ?_
  rw [rT t]
  dsimp only
  refine EvP.fD (tX _ hok) (EvP.fD hb (EvP.fD he (EvP.ret ?_)))
  have hyo:=X.rY _ hok
  rw [uG,PY _ _ _ _ hyo]
  dsimp only [tri,IJ]
  by_cases h2:t.kd=2
  · by_cases ho:(emb t.x.fold).f0=0
    · by_cases hn:(emb t.x.fold).f1=0 <;> simp [h2,ho,hn]
    · simp [h2,ho,dU,nY,BS]
  · by_cases h3:t.kd=3
    · by_cases ho:(emb t.x.fold).f0=0
      · by_cases hn:(emb t.x.fold).f1=0
        · simp [h3,ho,hn,dU]
        · simp [h3,ho,hn,dU,nY]
          rw [← ho,BS]
      · simp [h3,ho,dU,nY,BS]
    · simp [h2,h3,dU,nY,BS]
theorem yY:∀ (c:Nat) (l:List ST),(∀ t ∈ l,AX t)→cT l≤c→c≤1000000000→EvP (fun k=>bM.f k (dU l)) (·=dU (dZ l)):=by
  intro c
  induction c with
  |zero=>
    intro l _ hl hc
    have:=nE l
    obtain rfl:=List.eq_nil_of_length_eq_zero (show l.length=0 by omega)
    refine EvP.step (fun k=>bM.f.eq_2 (k:=k) ..) (EvP.step (fun k=>bM.l0.eq_2 (k:=k) ..) (EvP.no (by rw [dU];simp) (EvP.ret ?_)))
    rw [dZ,dU]
  |succ c ih=>
    intro l ha hl hc
    have hlen:=iV l
    have loop:∀ (r j:Nat) (acc:List ST),j + r=l.length→acc.length + cT (l.drop j)≤2000000000→EvP (fun k=>bM.l0 k (dU l) (dU acc) (j:Int)) (·=dU (acc ++ dZ (l.drop j))):=by
      intro r
      induction r with
      |zero=>
        intro j acc hj h1
        refine EvP.step (fun k=>bM.l0.eq_2 (k:=k) ..) (EvP.no (by omega) (EvP.ret ?_))
        rw [List.drop_eq_nil_of_le (by omega),dZ,List.append_nil]
      |succ r ih2=>
        intro j acc hj h1
        have hlt:j < l.length:=by omega
        have hl2:=nE l
        have hsp:=EO l j
        have hd:=List.drop_eq_getElem_cons hlt
        have hcd:cT (l.drop j)=cT l[j].b + cT l[j].e + 1 + cT (l.drop (j + 1)):=by rw [hd,DV]
        have hrd:=KS l j hlt
        have hat:=ha _ (List.getElem_mem hlt)
        have hft:=EN l[j]
        rw [BR] at hft
        have hfl:=nE (lY l[j])
        generalize l[j]=t at *
        obtain ⟨hok,_,hab,hae⟩:t.x.ok∧t.x.depth≤5∧(∀ y ∈ t.b,AX y)∧(∀ y ∈ t.e,AX y):=by
          cases hat with
          |mk _ a b c d=>exact ⟨a,b,c,d⟩
        have la:=iV acc
        have lf:=iV (lY t)
        refine EvP.step (fun k=>bM.l0.eq_2 (k:=k) ..) (EvP.yes (by omega) (EvP.yes (by omega) ?_))
        rw [hrd]
        refine EvP.fD (yZ t hok (ih _ hab (by omega) (by omega)) (ih _ hae (by omega) (by omega))) (EvP.yes (by omega) ?_)
        rw [w64 (n:=(j:Int) + 1) (by omega) (by omega),← rD]
        refine (ih2 (j + 1) (acc ++ lY t) (by omega) (by rw [List.length_append];omega)).mono fun b hb=>?_
        rw [hb,hd,dZ,List.append_assoc]
    refine EvP.step (fun k=>bM.f.eq_2 (k:=k) ..) ?_
    have h:=loop l.length 0 [] (by omega) (by rw [List.drop_zero];simp;omega)
    rw [List.drop_zero,List.nil_append,dU] at h
    exact h
theorem KU:∀ (c:Nat) (l:List ST),cT l≤c→c≤1000000000→EvP (fun k=>bE.f k (dU l) (dU l)) (·=true):=by
  intro c
  induction c with
  |zero=>
    intro l hl hc
    have:=nE l
    obtain rfl:=List.eq_nil_of_length_eq_zero (show l.length=0 by omega)
    exact EvP.step (fun k=>bE.f.eq_2 (k:=k) ..) (EvP.yes rfl (EvP.step (fun k=>bE.l0.eq_2 (k:=k) ..) (EvP.no (by rw [dU];simp) (EvP.ret rfl))))
  |succ c ih=>
    intro l hl hc
    have hlen:=iV l
    have loop:∀ (r j:Nat),j + r=l.length→EvP (fun k=>bE.l0 k (dU l) (dU l) (j:Int)) (·=true):=by
      intro r
      induction r with
      |zero=>
        intro j hj
        exact EvP.step (fun k=>bE.l0.eq_2 (k:=k) ..) (EvP.no (by omega) (EvP.ret rfl))
      |succ r ih2=>
        intro j hj
        have hlt:j < l.length:=by omega
        have hl2:=nE l
        have hsp:=EO l j
        have hcd:cT (l.drop j)=cT l[j].b + cT l[j].e + 1 + cT (l.drop (j + 1)):=by rw [List.drop_eq_getElem_cons hlt,DV]
        have hrd:=KS l j hlt
        generalize l[j]=t at *
        refine EvP.step (fun k=>bE.l0.eq_2 (k:=k) ..) (EvP.yes (by omega) (EvP.yes (by omega) (EvP.yes (by omega) ?_)))
        rw [hrd,rT t]
        dsimp only
        refine EvP.yes rfl (EvP.yes rfl (EvP.yes rfl (EvP.fD (wP _) ?_)))
        refine EvP.step (fun k=>bE.j1.eq_2 (k:=k) ..) (EvP.no (by simp) ?_)
        refine EvP.fD (ih _ (by omega) (by omega)) (EvP.yes rfl (EvP.fD (ih _ (by omega) (by omega)) (EvP.yes rfl ?_)))
        rw [w64 (n:=(j:Int) + 1) (by omega) (by omega)]
        exact ih2 (j + 1) (by omega)
    exact EvP.step (fun k=>bE.f.eq_2 (k:=k) ..) (EvP.yes rfl (loop l.length 0 (by omega)))
mutual
def kT:ST→Nat
 |⟨kd,_,_,_,b,e⟩=>(if kd=3 then 1 else 0) + kTs b + kTs e
def kTs:List ST→Nat
 |[]=>0
 |s :: ss=>kT s + kTs ss
end
theorem aCn (t:ST):kT t=(if t.kd=3 then 1 else 0) + kTs t.b + kTs t.e:=by
 cases t
 rw [kT]
 rfl
theorem EU:∀ l m:List ST,kTs (l ++ m)=kTs l + kTs m
 |[],m=>by rw [kTs,List.nil_append,Nat.zero_add]
 |x :: xs,m=>by rw [List.cons_append,kTs,kTs,EU xs m,Nat.add_assoc]
theorem wM (l:List ST) (h:∀ y ∈ l,kTs (lY y)≤kT y):kTs (dZ l)≤kTs l:=by
 induction l with
 |nil=>rw [dZ];omega
 |cons y ys ih=>
  have h1:=h y List.mem_cons_self
  have h2:=ih (fun z hz=>h z (List.mem_cons_of_mem _ hz))
  rw [dZ,EU,kTs]
  omega
theorem aAr (t:ST):kTs (lY t)≤kT t:=by
 refine ES (P:=fun t=>kTs (lY t)≤kT t) (fun t i1 i2=>?_) t
 have h1:=wM t.b i1
 have h2:=wM t.e i2
 rw [uG,aCn t]
 rcases pJ t.kd t.va t.bx t.x.fold (dZ t.b) (dZ t.e) with ⟨h,_⟩|⟨h,_⟩|h|⟨h,_⟩
 ·rw [h];split <;> omega
 ·rw [h];split <;> omega
 ·rw [h,kTs];split <;> omega
 ·rw [h,kTs,kTs,kT]
  split <;> omega
theorem TU (l:List ST):kTs (dZ l)≤kTs l:=wM l (fun y _=>aAr y)
theorem tT (l:List (List S35)) (i:Nat) (h:i < l.length):fJ l (i:Int)=l[i]:=by
 unfold fJ
 rw [Int.toNat_natCast,List.getD_eq_getElem?_getD,List.getElem?_eq_getElem h]
 rfl
def tV (r:Int):Bool:=decide (1≤r) && decide (r≤4)
def sD (rs:List Int):Bool:=rs.all tV && decide ((rs.length:Int)≤3)
theorem FQ (rs:List Int) (hl:rs.length≤1000000000):∀ (d j:Nat),j + d=rs.length→EvP (fun k=>dP.l0 k rs rs (rs.length:Int) (j:Int)) (·=((rs.drop j).all tV && decide ((rs.length:Int)≤3))):=by
  intro d
  induction d with
  |zero=>
    intro j hj
    refine EvP.step (fun k=>dP.l0.eq_2 (k:=k) ..) (EvP.no (by omega) (EvP.ret ?_))
    rw [List.drop_eq_nil_of_le (by omega)]
    rfl
  |succ d ih=>
    intro j hj
    have hlt:j < rs.length:=by omega
    refine EvP.step (fun k=>dP.l0.eq_2 (k:=k) ..) (EvP.yes (by omega) (EvP.yes (by omega) (EvP.yes (by omega) ?_)))
    rw [KT rs j hlt,w64 (by omega) (by omega),List.drop_eq_getElem_cons hlt,List.all_cons]
    refine EvP.ite (fun h=>EvP.ret ?_) (fun h=>EvP.ite (fun h2=>EvP.ret ?_) (fun h2=>?_))
    · have:tV rs[j]=false:=by
        unfold tV
        rw [decide_eq_false (by omega)]
        rfl
      rw [this]
      rfl
    · have:tV rs[j]=false:=by
        unfold tV
        rw [decide_eq_false (p:=rs[j]≤4) (by omega),Bool.and_false]
      rw [this]
      rfl
    · have:tV rs[j]=true:=by
        unfold tV
        rw [decide_eq_true (by omega),decide_eq_true (by omega)]
        rfl
      rw [this,Bool.true_and]
      exact ih (j + 1) (by omega)
theorem FP (rs:List Int) (hl:rs.length≤1000000000):EvP (fun k=>dP.f k rs) (·=sD rs):=by
  unfold dP.f
  exact FQ rs hl rs.length 0 (by omega)
theorem GD (rs:List Int) (hl:rs.length≤1000000000):∀ (d j:Nat),j + d=rs.length→EvP (fun k=>eG.l0 k rs (j:Int)) (·=((rs.drop j).all tV && decide ((rs.length:Int)≤3))):=by
  intro d
  induction d with
  |zero=>
    intro j hj
    refine EvP.step (fun k=>eG.l0.eq_2 (k:=k) ..) (EvP.no (by omega) (EvP.ret ?_))
    rw [List.drop_eq_nil_of_le (by omega)]
    rfl
  |succ d ih=>
    intro j hj
    have hlt:j < rs.length:=by omega
    refine EvP.step (fun k=>eG.l0.eq_2 (k:=k) ..) (EvP.yes (by omega) (EvP.yes (by omega) ?_))
    rw [KT rs j hlt,w64 (by omega) (by omega),List.drop_eq_getElem_cons hlt,List.all_cons,sZ]
    refine EvP.gP rfl (EvP.ite (fun h=>?_) (fun h=>EvP.ret ?_))
    · rw [show tV rs[j]=true from h,Bool.true_and]
      exact ih (j + 1) (by omega)
    · rw [show tV rs[j]=false from Bool.eq_false_iff.mpr h]
      rfl
theorem GA (rs:List Int) (hl:rs.length≤1000000000):EvP (fun k=>eG.f k rs) (·=sD rs):=by
  unfold eG.f
  exact GD rs hl rs.length 0 (by omega)
def vI (m:Int) (s:S35):Bool:=!((s.f0 == 4 || s.f0 == 5) && decide (s.f2≥m))
mutual
def bxS (m:Int):S35→Bool
 |⟨a,b,c,e,l1,l2⟩=>vI m ⟨a,b,c,e,l1,l2⟩ && (sW m l1 && sW m l2)
def sW (m:Int):List S35→Bool
 |[]=>true
 |x :: xs=>bxS m x && sW m xs
end
theorem TI (m:Int) (s:S35):bxS m s=(vI m s && (sW m s.f4 && sW m s.f5)):=by
 cases s
 rw [bxS]
theorem EL (m:Int):∀ l:List S35,sW m l=l.all (bxS m)
 |[]=>by rw [sW];rfl
 |x :: xs=>by rw [sW,EL m xs];rfl
theorem CF (m:Int):∀ (c:Nat) (l:List S35),cSs l≤c→c≤1000000000→EvP (fun k=>bW.f k l m) (·=sW m l):=by
  intro c
  induction c with
  |zero=>
    intro l hl hc
    have:=gF l
    obtain rfl:=List.eq_nil_of_length_eq_zero (show l.length=0 by omega)
    exact EvP.step (fun k=>bW.f.eq_2 (k:=k) ..) (EvP.step (fun k=>bW.l0.eq_2 (k:=k) ..) (EvP.no (by simp) (EvP.ret (by rw [sW]))))
  |succ c ih=>
    intro l hl hc
    have hlen:=gF l
    have loop:∀ (r j:Nat),j + r=l.length→EvP (fun k=>bW.l0 k l m (j:Int)) (·=sW m (l.drop j)):=by
      intro r
      induction r with
      |zero=>
        intro j hj
        refine EvP.step (fun k=>bW.l0.eq_2 (k:=k) ..) (EvP.no (by omega) (EvP.ret ?_))
        rw [List.drop_eq_nil_of_le (by omega),sW]
      |succ r ih2=>
        intro j hj
        have hlt:j < l.length:=by omega
        have hm:=vF l _ (List.getElem_mem hlt)
        have hcs:=EM l[j]
        have hd:sW m (l.drop j)=(bxS m l[j] && sW m (l.drop (j + 1))):=by
          rw [List.drop_eq_getElem_cons hlt,sW]
        rw [hd,TI]
        have j1:∀ b:Bool,(vI m l[j]=!b)→EvP (fun k=>bW.j1 k l m (j:Int) b l[j].f0 l[j].f1 l[j].f2 l[j].f3.f0 l[j].f3.f1 l[j].f3.f2 l[j].f4 l[j].f5) (·=(vI m l[j] && (sW m l[j].f4 && sW m l[j].f5) && sW m (l.drop (j + 1)))):=by
          intro b hb
          refine EvP.step (fun k=>bW.j1.eq_2 (k:=k) ..) (EvP.ite (fun h=>EvP.ret ?_) (fun h=>?_))
          · rw [hb,h]
            rfl
          · rw [hb,Bool.eq_false_iff.mpr h,w64 (n:=(j:Int) + 1) (by omega) (by omega)]
            refine EvP.fD (ih _ (by omega) (by omega)) (EvP.ite (fun h4=>EvP.fD (ih _ (by omega) (by omega)) (EvP.ite (fun h5=>?_) (fun h5=>EvP.ret ?_))) (fun h4=>EvP.ret ?_))
            · rw [h4,h5]
              exact ih2 (j + 1) (by omega)
            · rw [Bool.eq_false_iff.mpr h5]
              simp
            · rw [Bool.eq_false_iff.mpr h4]
              simp
        refine EvP.step (fun k=>bW.l0.eq_2 (k:=k) ..) (EvP.yes (by omega) (EvP.yes (by omega) ?_))
        rw [xD l j hlt]
        refine EvP.ite (fun h4=>j1 _ ?_) (fun h4=>EvP.ite (fun h5=>j1 _ ?_) (fun h5=>j1 _ ?_))
        · simp [vI,h4]
        · simp [vI,h5]
        · simp [vI,h4,h5]
    refine EvP.step (fun k=>bW.f.eq_2 (k:=k) ..) ?_
    exact loop l.length 0 (by omega)
theorem IW (m:Int) (h0:0≤m) (h3:m≤3) (s:S35):stS m s=(stS 3 s && vI m s):=by
 rw [Bool.eq_iff_iff,Bool.and_eq_true]
 unfold stS xO lQ vI xU
 by_cases c4:s.f0=4
 ·simp only [c4]
  simp
  constructor
  ·rintro ⟨a,⟨b,c⟩,d⟩
   exact ⟨⟨a,⟨b,by omega⟩,d⟩,by omega⟩
  ·rintro ⟨⟨a,⟨b,c⟩,d⟩,e⟩
   exact ⟨a,⟨b,by omega⟩,d⟩
 ·by_cases c5:s.f0=5
  ·simp only [c5]
   simp
   constructor
   ·rintro ⟨a,⟨b,c⟩,d⟩
    exact ⟨⟨a,⟨b,by omega⟩,d⟩,by omega⟩
   ·rintro ⟨⟨a,⟨b,c⟩,d⟩,e⟩
    exact ⟨a,⟨b,by omega⟩,d⟩
  ·simp [c4,c5]
theorem pI (m:Int) (h0:0≤m) (h3:m≤3):∀ (d:Nat) (s:S35),iL m d s=true ↔ (iL 3 d s=true∧bxS m s=true)
 |0,s=>by
  simp only [iL,Bool.and_eq_true,IW m h0 h3 s,TI]
  constructor
  ·rintro ⟨⟨a,b⟩,c⟩
   have hf:=DX a (fun e=>by rw [(pF s).mpr e] at c;cases c)
   rw [EM] at hf
   have l4:=gF s.f4
   have l5:=gF s.f5
   rw [List.eq_nil_of_length_eq_zero (show s.f4.length=0 by omega),List.eq_nil_of_length_eq_zero (show s.f5.length=0 by omega)]
   exact ⟨⟨a,c⟩,b,by rw [sW],by rw [sW]⟩
  ·rintro ⟨⟨a,c⟩,b,_⟩
   exact ⟨⟨a,b⟩,c⟩
 |d + 1,s=>by
  have ih:∀ l:List S35,l.all (iL m d)=true ↔ (l.all (iL 3 d)=true∧sW m l=true):=by
   intro l
   rw [EL,List.all_eq_true,List.all_eq_true,List.all_eq_true]
   constructor
   ·exact fun h=>⟨fun x hx=>((pI m h0 h3 d x).mp (h x hx)).1,fun x hx=>((pI m h0 h3 d x).mp (h x hx)).2⟩
   ·exact fun h x hx=>(pI m h0 h3 d x).mpr ⟨h.1 x hx,h.2 x hx⟩
  simp only [iL,Bool.and_eq_true,Bool.or_eq_true,IW m h0 h3 s,TI,ih]
  cases hb:oD s with
  |true=>
   simp only [Bool.not_true,Bool.false_eq_true,false_or]
   constructor
   ·rintro ⟨⟨a,b⟩,⟨c1,c2⟩,d1,d2⟩
    exact ⟨⟨a,c1,d1⟩,b,c2,d2⟩
   ·rintro ⟨⟨a,c1,d1⟩,b,c2,d2⟩
    exact ⟨⟨a,b⟩,⟨c1,c2⟩,d1,d2⟩
  |false=>
   simp only [Bool.not_false,true_or,and_true]
   constructor
   ·rintro ⟨a,b⟩
    have hf:=DX a (fun e=>by rw [(pF s).mpr e] at hb;cases hb)
    rw [EM] at hf
    have l4:=gF s.f4
    have l5:=gF s.f5
    rw [List.eq_nil_of_length_eq_zero (show s.f4.length=0 by omega),List.eq_nil_of_length_eq_zero (show s.f5.length=0 by omega)]
    exact ⟨a,b,by rw [sW],by rw [sW]⟩
   ·rintro ⟨a,b,_⟩
    exact ⟨a,b⟩
theorem RQ (m:Int) (h0:0≤m) (h3:m≤3) (l:List S35):okT m l=(okT 3 l && sW m l):=by
 rw [Bool.eq_iff_iff,Bool.and_eq_true,BA,BA,EL]
 unfold okL
 rw [List.all_eq_true,List.all_eq_true,List.all_eq_true]
 constructor
 ·exact fun h=>⟨⟨fun x hx=>((pI m h0 h3 3 x).mp (h.1 x hx)).1,h.2⟩,fun x hx=>((pI m h0 h3 3 x).mp (h.1 x hx)).2⟩
 ·exact fun h=>⟨fun x hx=>(pI m h0 h3 3 x).mpr ⟨h.1.1 x hx,h.2 x hx⟩,h.1.2⟩
def lI (rs:List Int) (ts:List (List S35)):Bool:=sD rs && (decide (1≤ts.length) && decide (ts.length≤3) && ts.all (okT (rs.length:Int)))
theorem RV {rs:List Int} (h:sD rs=true):(0:Int)≤rs.length∧(rs.length:Int)≤3:=by
 unfold sD at h
 rw [Bool.and_eq_true,decide_eq_true_eq] at h
 exact ⟨by omega,h.2⟩
def vD (ts:List (List S35)):Prop:=ts.length≤1000000000∧∀ t ∈ ts,cSs t≤1000000000
theorem nQ (rs:List Int) (ts:List (List S35)) (hr:rs.length≤1000000000) (ht:vD ts):EvP (fun k=>bD.f k rs ts) (·=lI rs ts):=by
  obtain ⟨hl,ht⟩:=ht
  have loop:sD rs=true→∀ (d j:Nat),j + d=ts.length→EvP (fun k=>bD.l0 k ts (ts.length:Int) (j:Int) rs ts) (·=(ts.drop j).all (okT (rs.length:Int))):=by
    intro hro d
    induction d with
    |zero=>
      intro j hj
      refine EvP.step (fun k=>bD.l0.eq_2 (k:=k) ..) (EvP.no (by omega) (EvP.ret ?_))
      rw [List.drop_eq_nil_of_le (by omega)]
      rfl
    |succ d ih=>
      intro j hj
      have hlt:j < ts.length:=by omega
      refine EvP.step (fun k=>bD.l0.eq_2 (k:=k) ..) (EvP.yes (by omega) (EvP.yes (by omega) (EvP.yes (by omega) ?_)))
      rw [tT ts j hlt,w64 (by omega) (by omega),List.drop_eq_getElem_cons hlt,List.all_cons]
      refine EvP.fD (yS _ _ (ht _ (List.getElem_mem hlt))) (EvP.ite (fun h=>?_) (fun h=>EvP.ret ?_))
      · rw [h,Bool.true_and]
        exact ih (j + 1) (by omega)
      · rw [Bool.eq_false_iff.mpr h]
        rfl
  have j0:∀ b:Bool,(b=false→sD rs=true∧1≤ts.length∧ts.length≤3)→(b=true→lI rs ts=false)→EvP (fun k=>bD.j0 k b rs ts) (·=lI rs ts):=by
    intro b h1 h2
    refine EvP.step (fun k=>bD.j0.eq_2 (k:=k) ..) (EvP.ite (fun h=>EvP.ret (h2 h).symm) (fun h=>?_))
    obtain ⟨g1,g2,g3⟩:=h1 (Bool.eq_false_iff.mpr h)
    unfold lI
    rw [g1,decide_eq_true g2,decide_eq_true g3]
    exact loop g1 ts.length 0 (by omega)
  unfold bD.f
  refine EvP.fD (FP rs hr) (EvP.ite (fun h=>EvP.ite (fun h1=>j0 true (fun e=>by cases e) (fun _=>?_)) (fun h1=>j0 _ (fun e=>?_) (fun e=>?_))) (fun h=>j0 true (fun e=>by cases e) (fun _=>?_)))
  · unfold lI
    rw [decide_eq_false (by omega)]
    simp
  · have:=of_decide_eq_false e
    exact ⟨h,by omega,by omega⟩
  · have:=of_decide_eq_true e
    unfold lI
    rw [decide_eq_false (p:=ts.length≤3) (by omega)]
    simp
  · unfold lI
    rw [Bool.eq_false_iff.mpr h]
    rfl
theorem sK (rs:List Int) (ts:List (List S35)) (hr:rs.length≤1000000000) (ht:vD ts):EvP (fun k=>bC.f k rs ts) (·=lI rs ts):=by
  obtain ⟨hl,ht⟩:=ht
  have loop:sD rs=true→∀ (d j:Nat),j + d=ts.length→EvP (fun k=>bC.l0 k (j:Int) rs ts) (·=(ts.drop j).all (okT (rs.length:Int))):=by
    intro hro d
    obtain ⟨r0,r3⟩:=RV hro
    induction d with
    |zero=>
      intro j hj
      refine EvP.step (fun k=>bC.l0.eq_2 (k:=k) ..) (EvP.no (by omega) (EvP.ret ?_))
      rw [List.drop_eq_nil_of_le (by omega)]
      rfl
    |succ d ih=>
      intro j hj
      have hlt:j < ts.length:=by omega
      refine EvP.step (fun k=>bC.l0.eq_2 (k:=k) ..) (EvP.yes (by omega) (EvP.yes (by omega) ?_))
      rw [tT ts j hlt,w64 (by omega) (by omega),List.drop_eq_getElem_cons hlt,List.all_cons,RQ _ r0 r3]
      refine EvP.fD (yV _ (ht _ (List.getElem_mem hlt))) (EvP.ite (fun h=>EvP.fD (CF _ _ _ (ht _ (List.getElem_mem hlt)) (by omega)) (EvP.ite (fun h2=>?_) (fun h2=>EvP.ret ?_))) (fun h=>EvP.ret ?_))
      · rw [h,h2,Bool.true_and,Bool.true_and]
        exact ih (j + 1) (by omega)
      · rw [h,Bool.eq_false_iff.mpr h2]
        rfl
      · rw [Bool.eq_false_iff.mpr h]
        rfl
  have j0:∀ b:Bool,(b=false→sD rs=true∧1≤ts.length∧ts.length≤3)→(b=true→lI rs ts=false)→EvP (fun k=>bC.j0 k b rs ts) (·=lI rs ts):=by
    intro b h1 h2
    refine EvP.step (fun k=>bC.j0.eq_2 (k:=k) ..) (EvP.ite (fun h=>EvP.ret (h2 h).symm) (fun h=>?_))
    obtain ⟨g1,g2,g3⟩:=h1 (Bool.eq_false_iff.mpr h)
    unfold lI
    rw [g1,decide_eq_true g2,decide_eq_true g3]
    exact loop g1 ts.length 0 (by omega)
  unfold bC.f
  refine EvP.fD (GA rs hr) (EvP.ite (fun h=>?_) (fun h=>j0 true (fun e=>by cases e) (fun _=>?_)))
  · rw [sZ]
    refine EvP.gP rfl (j0 _ (fun e=>?_) (fun e=>?_))
    · rw [Bool.not_eq_false',Bool.and_eq_true,decide_eq_true_eq,decide_eq_true_eq] at e
      exact ⟨h,by omega,by omega⟩
    · unfold lI
      have e2:(decide (1≤ts.length) && decide (ts.length≤3))=false:=by
        rw [Bool.eq_false_iff]
        intro q
        rw [Bool.and_eq_true,decide_eq_true_eq,decide_eq_true_eq] at q
        rw [decide_eq_true (by omega),decide_eq_true (by omega)] at e
        cases e
      rw [e2]
      simp
  · unfold lI
    rw [Bool.eq_false_iff.mpr h]
    rfl
theorem yU {rs:List Int} {ts:List (List S35)}:lI rs ts=true ↔ sD rs=true∧1≤ts.length∧ts.length≤3∧∀ t ∈ ts,okT (rs.length:Int) t=true:=by
 unfold lI
 simp only [Bool.and_eq_true,decide_eq_true_eq,List.all_eq_true,and_assoc]
set_option linter.unusedSimpArgs false
def xV (ms:List (List ST)):List (List S35):=ms.map (fun m=>dU (dZ m))
theorem xH (rs:List Int) (ms:List (List ST)) (hl:ms.length≤1000) (ha:∀ m ∈ ms,(∀ t ∈ m,AX t)∧cT m≤16):∀ (r j:Nat) (acc:List (List S35)),j + r=ms.length→acc.length + r≤2000→
    EvP (fun k=>bK.l0 k (ms.map dU) ((ms.map dU).length:Int) (j:Int) rs acc) (·=(rs,acc ++ xV (ms.drop j),true)):=by
  have hlen:(ms.map dU).length=ms.length:=List.length_map _
  intro r
  induction r with
  |zero=>
    intro j acc hj h1
    refine EvP.step (fun k=>bK.l0.eq_2 (k:=k) ..) (EvP.no (by omega) (EvP.ret ?_))
    rw [List.drop_eq_nil_of_le (by omega)]
    simp [xV]
  |succ r ih=>
    intro j acc hj h1
    have hlt:j < ms.length:=by omega
    obtain ⟨hax,hc⟩:=ha _ (List.getElem_mem hlt)
    refine EvP.step (fun k=>bK.l0.eq_2 (k:=k) ..) (EvP.yes (by omega) (EvP.yes (by omega) (EvP.yes (by omega) ?_)))
    rw [tT _ j (by omega),List.getElem_map]
    refine EvP.fD (AZ 16 _ hax hc (by omega)) (EvP.yes (by omega) ?_)
    rw [w64 (by omega) (by omega)]
    refine (ih (j + 1) _ (by omega) (by rw [List.length_append];simp;omega)).mono fun b hb=>?_
    rw [hb,List.drop_eq_getElem_cons hlt]
    unfold xV
    rw [List.map_cons,List.append_assoc]
    rfl
theorem xL (rs qs:List Int) (ms:List (List ST)) (hl:ms.length≤1000) (ha:∀ m ∈ ms,(∀ t ∈ m,AX t)∧cT m≤16):∀ (r j:Nat) (acc:List (List S35)),j + r=ms.length→acc.length + r≤2000→
    EvP (fun k=>bL.l0 k (j:Int) qs (ms.map dU) rs acc) (·=(rs,acc ++ xV (ms.drop j),true)):=by
  have hlen:(ms.map dU).length=ms.length:=List.length_map _
  intro r
  induction r with
  |zero=>
    intro j acc hj h1
    refine EvP.step (fun k=>bL.l0.eq_2 (k:=k) ..) (EvP.no (by omega) (EvP.ret ?_))
    rw [List.drop_eq_nil_of_le (by omega)]
    simp [xV]
  |succ r ih=>
    intro j acc hj h1
    have hlt:j < ms.length:=by omega
    obtain ⟨hax,hc⟩:=ha _ (List.getElem_mem hlt)
    refine EvP.step (fun k=>bL.l0.eq_2 (k:=k) ..) (EvP.yes (by omega) (EvP.yes (by omega) ?_))
    rw [tT _ j (by omega),List.getElem_map]
    refine EvP.fD (yY 16 _ hax hc (by omega)) (EvP.yes (by omega) ?_)
    rw [w64 (by omega) (by omega)]
    refine (ih (j + 1) _ (by omega) (by rw [List.length_append];simp;omega)).mono fun b hb=>?_
    rw [hb,List.drop_eq_getElem_cons hlt]
    unfold xV
    rw [List.map_cons,List.append_assoc]
    rfl
theorem xI {rs:List Int} {ts:List (List S35)} (hr:rs.length≤1000000000) (ht:vD ts) (h:lI rs ts=false):EvP (fun k=>bK.f k rs ts) (·=([],[],false)):=by
  unfold bK.f
  exact EvP.fD (nQ rs ts hr ht) (EvP.no (by rw [h];simp) (EvP.ret rfl))
theorem xM {rs:List Int} {ts:List (List S35)} (hr:rs.length≤1000000000) (ht:vD ts) (h:lI rs ts=false):EvP (fun k=>bL.f k rs ts) (·=([],[],false)):=by
  unfold bL.f
  exact EvP.fD (sK rs ts hr ht) (EvP.no (by rw [h];simp) (EvP.ret rfl))
theorem sG {rs:List Int} {ms:List (List ST)} (hr:rs.length≤1000) (ht:vD (ms.map dU)) (hl:ms.length≤1000) (ha:∀ m ∈ ms,(∀ t ∈ m,AX t)∧cT m≤16) (h:lI rs (ms.map dU)=true):
    EvP (fun k=>bK.f k rs (ms.map dU)) (·=(rs,xV ms,true)):=by
  unfold bK.f
  refine EvP.fD (nQ rs _ (by omega) ht) (EvP.yes h (EvP.gP (TK rs (by omega)) ?_))
  have:=xH rs ms hl ha ms.length 0 [] (by omega) (by simp;omega)
  rw [List.drop_zero,List.nil_append] at this
  exact this
theorem wS {rs:List Int} {ms:List (List ST)} (hr:rs.length≤1000) (ht:vD (ms.map dU)) (hl:ms.length≤1000) (ha:∀ m ∈ ms,(∀ t ∈ m,AX t)∧cT m≤16) (h:lI rs (ms.map dU)=true):
    EvP (fun k=>bL.f k rs (ms.map dU)) (·=(rs,xV ms,true)):=by
  unfold bL.f
  refine EvP.fD (sK rs _ (by omega) ht) (EvP.yes h (EvP.gP rfl (EvP.yes (by simp;omega) ?_)))
  have:=xL ([] ++ rs) rs ms hl ha ms.length 0 [] (by omega) (by simp;omega)
  rw [List.drop_zero,List.nil_append,List.nil_append] at this
  rw [List.nil_append]
  exact this
theorem aBu {rs:List Int} {ts:List (List S35)} (h:lI rs ts=true):∃ ms:List (List ST),ms.map dU=ts∧ms.length≤3∧(∀ m ∈ ms,(∀ t ∈ m,AX t)∧cT m≤16)∧∀ m ∈ ms,okT (rs.length:Int) (dU m)=true:=by
 obtain ⟨_,_,h3,h4⟩:=yU.1 h
 suffices ∀ ts:List (List S35),(∀ t ∈ ts,okT (rs.length:Int) t=true)→∃ ms:List (List ST),ms.map dU=ts∧(∀ m ∈ ms,(∀ t ∈ m,AX t)∧cT m≤16)∧∀ m ∈ ms,okT (rs.length:Int) (dU m)=true by
  obtain ⟨ms,e,ha,ho⟩:=this ts h4
  exact ⟨ms,e,by rw [← List.length_map (f:=dU),e];exact h3,ha,ho⟩
 intro ts
 induction ts with
 |nil=>exact fun _=>⟨[],rfl,by simp,by simp⟩
 |cons t ts ih=>
  intro h
  obtain ⟨ms,e,ha,ho⟩:=ih (fun x hx=>h x (List.mem_cons_of_mem _ hx))
  have ht:=h t List.mem_cons_self
  obtain ⟨m,hm,hx⟩:=WC _ 3 t (BA.1 ht).1
  subst hm
  refine ⟨m :: ms,by rw [List.map_cons,e],fun y hy=>?_,fun y hy=>?_⟩
  ·rcases List.mem_cons.1 hy with rfl|hy
   ·exact ⟨hx,(BA.1 ht).2⟩
   ·exact ha y hy
  ·rcases List.mem_cons.1 hy with rfl|hy
   ·exact ht
   ·exact ho y hy
theorem wQ (rs:List Int) (hr:rs.length≤1000000000) (ms:List (List ST)) (hl:ms.length≤1000) (hc:∀ m ∈ ms,cT m≤1000000):EvP (fun k=>bB.f k rs (ms.map dU) rs (ms.map dU)) (·=true):=by
  have hlen:(ms.map dU).length=ms.length:=List.length_map _
  have loop:∀ (r j:Nat),j + r=ms.length→EvP (fun k=>bB.l0 k (j:Int) rs (ms.map dU) rs (ms.map dU)) (·=true):=by
    intro r
    induction r with
    |zero=>
      intro j hj
      exact EvP.step (fun k=>bB.l0.eq_2 (k:=k) ..) (EvP.no (by omega) (EvP.ret rfl))
    |succ r ih=>
      intro j hj
      have hlt:j < ms.length:=by omega
      have h1:=hc _ (List.getElem_mem hlt)
      refine EvP.step (fun k=>bB.l0.eq_2 (k:=k) ..) (EvP.yes (by omega) (EvP.yes (by omega) (EvP.yes (by omega) ?_)))
      rw [tT _ j (by omega),List.getElem_map]
      refine EvP.fD (KU _ _ h1 (by omega)) (EvP.yes rfl ?_)
      rw [w64 (by omega) (by omega)]
      exact ih (j + 1) (by omega)
  unfold bB.f
  refine EvP.fD (MR rs rs hr) (EvP.yes (by simp) (EvP.step (fun k=>bB.j0.eq_2 (k:=k) ..) (EvP.no (by simp) (loop ms.length 0 (by omega)))))
mutual
def lpS:S35→Bool
 |⟨a,_,_,_,l1,l2⟩=>a == 3 || (xJ l1 || xJ l2)
def xJ:List S35→Bool
 |[]=>false
 |x :: xs=>lpS x || xJ xs
end
theorem aBd (s:S35):lpS s=(s.f0 == 3 || (xJ s.f4 || xJ s.f5)):=by
 cases s
 rw [lpS]
theorem NT:∀ (c:Nat) (l:List S35),cSs l≤c→c≤1000000000→EvP (fun k=>dR.f k l) (·=xJ l):=by
  intro c
  induction c with
  |zero=>
    intro l hl hc
    have:=gF l
    obtain rfl:=List.eq_nil_of_length_eq_zero (show l.length=0 by omega)
    exact EvP.step (fun k=>dR.f.eq_2 (k:=k) ..) (EvP.step (fun k=>dR.l0.eq_2 (k:=k) ..) (EvP.no (by simp) (EvP.ret (by rw [xJ]))))
  |succ c ih=>
    intro l hl hc
    have hlen:=gF l
    have loop:∀ (r j:Nat),j + r=l.length→EvP (fun k=>dR.l0 k l (j:Int)) (·=xJ (l.drop j)):=by
      intro r
      induction r with
      |zero=>
        intro j hj
        refine EvP.step (fun k=>dR.l0.eq_2 (k:=k) ..) (EvP.no (by omega) (EvP.ret ?_))
        rw [List.drop_eq_nil_of_le (by omega),xJ]
      |succ r ih2=>
        intro j hj
        have hlt:j < l.length:=by omega
        have hm:=vF l _ (List.getElem_mem hlt)
        have hcs:=EM l[j]
        have one:EvP (fun k=>dR.one k l[j]) (·=lpS l[j]):=by
          rw [aBd]
          refine EvP.step (fun k=>dR.one.eq_2 (k:=k) ..) (EvP.ite (fun h=>EvP.ret (by rw [beq_iff_eq.mpr h];rfl)) (fun h=>?_))
          rw [beq_eq_false_iff_ne.mpr h,Bool.false_or]
          refine EvP.fD (ih _ (by omega) (by omega)) (EvP.ite (fun h4=>EvP.ret (by rw [h4];rfl)) (fun h4=>?_))
          rw [Bool.eq_false_iff.mpr h4,Bool.false_or]
          exact ih _ (by omega) (by omega)
        refine EvP.step (fun k=>dR.l0.eq_2 (k:=k) ..) (EvP.yes (by omega) (EvP.yes (by omega) ?_))
        rw [xD l j hlt,w64 (n:=(j:Int) + 1) (by omega) (by omega),List.drop_eq_getElem_cons hlt,xJ]
        refine EvP.fD one (EvP.ite (fun h=>EvP.ret (by rw [h];rfl)) (fun h=>?_))
        rw [Bool.eq_false_iff.mpr h,Bool.false_or]
        exact ih2 (j + 1) (by omega)
    exact EvP.step (fun k=>dR.f.eq_2 (k:=k) ..) (loop l.length 0 (by omega))
def FB (rs:List Int) (ts:List (List S35)):Bool:=lI rs ts && !(ts.any xJ)
theorem sH (rs:List Int) (ts:List (List S35)) (hr:rs.length≤1000000000) (ht:vD ts):EvP (fun k=>fQ.f k rs ts) (·=FB rs ts):=by
  have loop:∀ (d j:Nat),j + d=ts.length→EvP (fun k=>iA.l0 k ts (j:Int)) (·=(ts.drop j).any xJ):=by
    obtain ⟨hl,ht⟩:=ht
    intro d
    induction d with
    |zero=>
      intro j hj
      refine EvP.step (fun k=>iA.l0.eq_2 (k:=k) ..) (EvP.no (by omega) (EvP.ret ?_))
      rw [List.drop_eq_nil_of_le (by omega)]
      rfl
    |succ d ih=>
      intro j hj
      have hlt:j < ts.length:=by omega
      refine EvP.step (fun k=>iA.l0.eq_2 (k:=k) ..) (EvP.yes (by omega) (EvP.yes (by omega) ?_))
      rw [tT ts j hlt,w64 (by omega) (by omega),List.drop_eq_getElem_cons hlt,List.any_cons]
      refine EvP.fD (NT _ _ (ht _ (List.getElem_mem hlt)) (by omega)) (EvP.ite (fun h=>EvP.ret (by rw [h];rfl)) (fun h=>?_))
      rw [Bool.eq_false_iff.mpr h,Bool.false_or]
      exact ih (j + 1) (by omega)
  unfold fQ.f FB
  refine EvP.fD (nQ rs ts hr ht) (EvP.ite (fun h=>?_) (fun h=>EvP.ret (by rw [Bool.eq_false_iff.mpr h];rfl)))
  refine EvP.fD (loop ts.length 0 (by omega)) (EvP.ret ?_)
  rw [h,List.drop_zero]
  rfl
open Go.Proofs.YtodhbeeibagiaaaW.PrintLast
theorem MH (b:List Int) (hb:Bytes b):∀ (d:Nat) (l:List Int) (n:Int) (p:Int),(l.length:Int) + d=n→n≤3→0≤p→p + d≤800000000000→
  EvP (fun k=>eB.l0 k l n (l.length:Int) b p) (fun r=>r.2=p + d∧r.1.length=l.length + d):=by
 intro d
 induction d with
 |zero=>
  intro l n p hn h3 h0 h1
  exact EvP.step (fun k=>eB.l0.eq_2 (k:=k) ..) (EvP.no (by omega) (EvP.ret ⟨by simp,rfl⟩))
 |succ d ih=>
  intro l n p hn h3 h0 h1
  refine EvP.step (fun k=>eB.l0.eq_2 (k:=k) ..) (EvP.yes (by omega) (EvP.gP rfl (fU hb h0 (by omega) fun v v0 v1 _=>?_)))
  have:=v1 (by omega)
  dsimp only
  refine EvP.yes (by omega) (EvP.yes (by simp;omega) (EvP.yes (by omega) ?_))
  have e:wrap64 ((l.length:Int) + 1)=((l ++ [rd [1,1,2,3,4] v]).length:Int):=by
   rw [w64 (by omega) (by omega),List.length_append]
   simp
  rw [e]
  refine (ih _ n _ (by rw [List.length_append,List.length_singleton];omega) h3 (by omega) (by omega)).mono fun r hr=>?_
  rw [List.length_append,List.length_singleton] at hr
  omega
theorem MG (b:List Int) (hb:Bytes b) (p:Int) (h0:0≤p) (h1:p≤700000000000):EvP (fun k=>eB.f k b p) (fun r=>p≤r.2∧r.2≤p + 4∧r.1.length≤3):=by
 unfold eB.f
 refine EvP.gP rfl (fU hb h0 (by omega) fun v v0 v1 _=>?_)
 have:=v1 (by omega)
 dsimp only
 refine EvP.yes (by omega) (EvP.yes (by simp;omega) ?_)
 have hm:rd [0,1,1,2,2,3] v ∈ [0,1,1,2,2,3]:=WS _ _ (by omega) (by simp;omega)
 have hr:0≤rd [0,1,1,2,2,3] v∧rd [0,1,1,2,2,3] v≤3:=by
  generalize rd [0,1,1,2,2,3] v=x at hm
  simp at hm
  omega
 refine (MH b hb (rd [0,1,1,2,2,3] v).toNat [] (rd [0,1,1,2,2,3] v) (p + 1) (by simp;omega) (by omega) (by omega) (by omega)).mono fun r hr=>?_
 simp only [List.length_nil] at hr
 omega
def DP (p:Int) (P R T C:Nat) (r:List Int × List (List (S35)) × Int):Prop:=p≤r.2.2∧r.2.2≤p + P∧r.1.length≤R∧r.2.1.length≤T∧∀ t ∈ r.2.1,cSs t≤C
theorem FU (b:List Int) (hb:Bytes b) (rs:List Int):∀ (d:Nat) (ts:List (List (S35))) (n p:Int),(ts.length:Int) + d=n→1≤n→n≤3→0≤p→p + d * 3000000≤100000000000→(∀ t ∈ ts,cSs t≤36)→
  EvP (fun k=>cK.l0 k n (ts.length:Int) b p rs ts) (fun r=>p≤r.2.2∧r.2.2≤p + d * 3000000 + 200000∧r.1=rs∧1≤r.2.1.length∧r.2.1.length≤3∧∀ t ∈ r.2.1,cSs t≤36):=by
 intro d
 induction d with
 |zero=>
  intro ts n p hn h1 h3 h0 hp ht
  refine EvP.step (fun k=>cK.l0.eq_2 (k:=k) ..) (EvP.no (by omega) (fU hb h0 (by omega) fun v v0 v1 _=>?_))
  dsimp only
  refine EvP.ite (fun _=>EvP.bind (FR b hb _ (by omega) (by omega)) fun s hs=>EvP.yes (by omega) (EvP.ret ?_)) (fun _=>EvP.ret ?_)
  ·unfold DS at hs
   refine ⟨by dsimp only;omega,by dsimp only;omega,rfl,by dsimp only;rw [List.length_set];omega,by dsimp only;rw [List.length_set];omega,fun t hm=>?_⟩
   rcases List.mem_or_eq_of_mem_set hm with hm|rfl
   ·exact ht t hm
   ·simp only [cSs,cS]
    omega
  ·exact ⟨by dsimp only;omega,by dsimp only;omega,rfl,by dsimp only;omega,by dsimp only;omega,ht⟩
 |succ d ih=>
  intro ts n p hn h1 h3 h0 hp ht
  refine EvP.step (fun k=>cK.l0.eq_2 (k:=k) ..) (EvP.yes (by omega) (EvP.bind (MI b hb p _ h0 (by omega)) fun s hs=>EvP.yes (by omega) ?_))
  obtain ⟨s0,s1,s2⟩:=hs
  have e:wrap64 ((ts.length:Int) + 1)=((ts ++ [s.1]).length:Int):=by
   rw [w64 (by omega) (by omega),List.length_append]
   simp
  rw [e]
  refine (ih _ n s.2 (by rw [List.length_append,List.length_singleton];omega) h1 h3 (by omega) (by omega) (fun t hm=>?_)).mono fun r hr=>?_
  ·rcases List.mem_append.1 hm with hm|hm
   ·exact ht t hm
   ·rw [List.mem_singleton.1 hm]
    omega
  ·obtain ⟨r0,r1,r2⟩:=hr
   exact ⟨by omega,by omega,r2⟩
theorem FT (b:List Int) (hb:Bytes b) (p:Int) (h0:0≤p) (h1:p≤50000000000):EvP (fun k=>cK.f k b p) (fun r=>DP p 9500000 3 3 36 r∧1≤r.2.1.length):=by
 unfold cK.f
 refine EvP.bind (MG b hb p h0 (by omega)) fun r hr=>fU hb (by omega) (by omega) fun v v0 v1 _=>?_
 have:=v1 (by omega)
 dsimp only
 rw [w64 (by omega) (by omega)]
 refine (FU b hb r.1 (1 + v).toNat [] (1 + v) (r.2 + 1) (by simp;omega) (by omega) (by omega) (by omega) (by omega) (fun t ht=>by cases ht)).mono fun s hs=>?_
 obtain ⟨s0,s1,s2,s3,s4,s5⟩:=hs
 exact ⟨⟨by omega,by omega,by rw [s2];omega,by omega,s5⟩,s3⟩
theorem MP (l:List (List (S35))) (h:0 < l.length):fJ l 0 ∈ l:=by
 rw [show (0:Int)=((0:Nat):Int) from rfl,tT l 0 h]
 exact List.getElem_mem h
theorem MK (b:List Int) (hb:Bytes b) (p:Int) (h0:0≤p) (h1:p≤50000000000):EvP (fun k=>dN.f k b p) (DP p 9600000 4 6 40):=by
 unfold dN.f
 refine EvP.bind (FT b hb p h0 h1) fun r hr=>?_
 obtain ⟨⟨r0,r1,r2,r3,r4⟩,r5⟩:=hr
 refine fU hb (by omega) (by omega) fun v v0 v1 _=>?_
 dsimp only
 have hl:∀ t ∈ r.2.1,cSs t≤40:=fun t ht=>Nat.le_trans (r4 t ht) (by omega)
 refine EvP.ite (fun h=>?_) (fun h=>EvP.ite (fun h=>?_) (fun h=>EvP.ite (fun h=>?_) (fun h=>EvP.ite (fun h=>?_) (fun h=>EvP.ite (fun h=>?_) (fun h=>EvP.ret ?_)))))
 ·refine EvP.gP rfl (fU hb (by omega) (by omega) fun u u0 u1 _=>?_)
  have:=u1 (by omega)
  refine EvP.yes u0 (EvP.yes (by simp;omega) (EvP.yes (by omega) (EvP.ret ⟨by dsimp only;omega,by dsimp only;omega,by dsimp only;rw [List.length_append,List.length_singleton];omega,by dsimp only;omega,hl⟩)))
 ·refine EvP.bind (EW b hb _ (by omega) (by omega)) fun s hs=>EvP.yes (by omega) (EvP.ret ⟨by dsimp only;omega,by dsimp only;omega,by dsimp only;omega,by dsimp only;rw [List.length_append,List.length_singleton];omega,fun t ht=>?_⟩)
  rcases List.mem_append.1 ht with ht|ht
  ·exact hl t ht
  ·rw [List.mem_singleton.1 ht]
   simp only [cSs,cS]
   omega
 ·exact EvP.ret ⟨by dsimp only;omega,by dsimp only;omega,by dsimp only;omega,by simp,fun t ht=>by cases ht⟩
 ·have hm:=MP r.2.1 (by omega)
  refine EvP.yes (by omega) (EvP.gP rfl (EvP.yes (by simp;omega) (EvP.ret ⟨by dsimp only;omega,by dsimp only;omega,by dsimp only;omega,by dsimp only;rw [List.length_append];simp;omega,fun t ht=>?_⟩)))
  rcases List.mem_append.1 ht with ht|ht
  ·exact hl t ht
  ·simp only [List.mem_cons,List.not_mem_nil,or_false,or_self] at ht
   rw [ht]
   exact hl _ hm
 ·have hm:=MP r.2.1 (by omega)
  have hc:=r4 _ hm
  have hlen:=gF (fJ r.2.1 0)
  refine EvP.yes (by omega) (EvP.yes (by omega) (EvP.ret ⟨by dsimp only;omega,by dsimp only;omega,by dsimp only;omega,by dsimp only;rw [List.length_set];omega,fun t ht=>?_⟩))
  rcases List.mem_or_eq_of_mem_set ht with ht|rfl
  ·exact hl t ht
  ·rw [rQ]
   simp only [cSs,cS]
   omega
 ·exact ⟨by dsimp only;omega,by dsimp only;omega,by dsimp only;omega,by dsimp only;omega,hl⟩
theorem RX {ts:List (List (S35))} (h:ts.length≤6∧∀ t ∈ ts,cSs t≤40):vD ts:=⟨by omega,fun t ht=>Nat.le_trans (h.2 t ht) (by omega)⟩
set_option linter.unusedSimpArgs false
theorem IE (ms:List (List ST)):xV ms=(ms.map dZ).map dU:=by
 unfold xV
 rw [List.map_map]
 rfl
theorem CZ {rs:List Int} {ms:List (List ST)} (ha:∀ m ∈ ms,(∀ t ∈ m,AX t)∧cT m≤16) (h:lI rs (ms.map dU)=true):lI rs ((ms.map dZ).map dU)=true:=by
 obtain ⟨h1,h2,h3,h4⟩:=yU.1 h
 refine yU.2 ⟨h1,by simpa using h2,by simpa using h3,fun t ht=>?_⟩
 obtain ⟨m,hm,rfl⟩:=List.mem_map.1 ht
 obtain ⟨m',hm',rfl⟩:=List.mem_map.1 hm
 exact WI _ m' (ha m' hm').1 (h4 _ (List.mem_map.2 ⟨m',hm',rfl⟩))
theorem MU {ms:List (List ST)} (hl:ms.length≤1000) (ha:∀ m ∈ ms,(∀ t ∈ m,AX t)∧cT m≤16):vD ((ms.map dZ).map dU):=by
 refine ⟨by simp;omega,fun t ht=>?_⟩
 obtain ⟨m,hm,rfl⟩:=List.mem_map.1 ht
 obtain ⟨m',hm',rfl⟩:=List.mem_map.1 hm
 have h1:=uX m'
 have h2:=(ha m' hm').2
 unfold cT at h1 h2
 omega
theorem aAn {ms:List (List ST)} (ha:∀ m ∈ ms,(∀ t ∈ m,AX t)∧cT m≤16):∀ m ∈ ms.map dZ,(∀ t ∈ m,AX t)∧cT m≤16:=by
 intro m hm
 obtain ⟨m',hm',rfl⟩:=List.mem_map.1 hm
 exact ⟨RG m' (ha m' hm').1,Nat.le_trans (uX m') (ha m' hm').2⟩
theorem RN (ms:List (List ST)):(ms.map dZ).map dZ=ms.map dZ:=by
 rw [List.map_map]
 exact List.map_congr_left (fun m _=>KO m)
theorem KP (l:List ST) (h:∀ y ∈ l,lpS (nY y)=true ↔ 0 < kT y):xJ (dU l)=true ↔ 0 < kTs l:=by
 induction l with
 |nil=>rw [dU,xJ,kTs];simp
 |cons y ys ih=>
  rw [dU,xJ,kTs,Bool.or_eq_true,h y List.mem_cons_self,ih (fun z hz=>h z (List.mem_cons_of_mem _ hz))]
  omega
theorem aBw (t:ST):lpS (nY t)=true ↔ 0 < kT t:=by
 refine ES (P:=fun t=>lpS (nY t)=true ↔ 0 < kT t) (fun t i1 i2=>?_) t
 rw [rT,aBd,aCn]
 dsimp only
 rw [Bool.or_eq_true,Bool.or_eq_true,KP t.b i1,KP t.e i2,beq_iff_eq]
 split <;> omega
theorem TW (l:List ST):xJ (dU l)=true ↔ 0 < kTs l:=KP l (fun y _=>aBw y)
theorem MO {rs:List Int} {ms:List (List ST)} (ha:∀ m ∈ ms,(∀ t ∈ m,AX t)∧cT m≤16) (h:FB rs (ms.map dU)=true):FB rs ((ms.map dZ).map dU)=true:=by
 unfold FB at h ⊢
 rw [Bool.and_eq_true,Bool.not_eq_true'] at h ⊢
 refine ⟨CZ ha h.1,?_⟩
 rw [List.any_eq_false] at h ⊢
 intro t ht
 obtain ⟨m,hm,rfl⟩:=List.mem_map.1 ht
 obtain ⟨m',hm',rfl⟩:=List.mem_map.1 hm
 have h1:=h.2 _ (List.mem_map.2 ⟨m',hm',rfl⟩)
 rw [TW] at h1 ⊢
 have:=TU m'
 omega
theorem xZ:EvP (fun k=>bB.f k [] [] [] []) (·=true):=wQ [] (by simp) [] (by simp) (by simp)
theorem yD (l:List Int) (hl:l.length≤140737488351232) (hw:∀ x ∈ l,(Lit.int .u8 x).wf=true):EvP (fun k=>bV.f k l) (fun r=>r.1.length≤4∧r.2.length≤6∧∀ t ∈ r.2,cSs t≤40):=by
 obtain ⟨b,hb0,hb⟩:=OC l hl hw
 unfold bV.f
 refine EvP.gP hb0 (EvP.bind (MK b hb _ (by dsimp only;omega) (by dsimp only;omega)) fun r hr=>?_)
 obtain ⟨rs,ts,p⟩:=r
 obtain ⟨r0,r1,r2,r3,r4⟩:=hr
 dsimp only at r0 r1 r2 r3 r4 ⊢
 refine fU hb (by omega) (by omega) fun v v0 v1 _=>?_
 dsimp only
 have no:EvP (fun k=>bV.j0 k false b (p + 1) rs ts) (fun r=>r.1.length≤4∧r.2.length≤6∧∀ t ∈ r.2,cSs t≤40):=EvP.step (fun k=>bV.j0.eq_2 (k:=k) ..) (EvP.no (by simp) (EvP.ret ⟨r2,r3,r4⟩))
 refine EvP.ite (fun h=>?_) (fun h=>no)
 by_cases hn:0 < (ts.length:Int)
 ·rw [decide_eq_true (show (ts.length:Int) > 0 from hn)]
  refine EvP.step (fun k=>bV.j0.eq_2 (k:=k) ..) (EvP.yes rfl (EvP.bind (TV b hb _ _ false (by omega) (by omega)) fun i hi=>?_))
  obtain ⟨i1,i2,i3,i4,i5,i6,i7,i8,p3⟩:=i
  unfold DS at hi
  dsimp only at hi ⊢
  refine EvP.bind (MC b hb _ (by omega) (by omega)) fun q hq=>?_
  obtain ⟨q1,p4⟩:=q
  dsimp only at hq ⊢
  refine fU hb (by omega) (by omega) fun a a0 a1 _=>?_
  dsimp only
  refine EvP.gP rfl (fU hb (by omega) (by omega) fun b' b0 b1 _=>?_)
  refine EvP.gP rfl (EvP.gP rfl (EvP.yes hn (EvP.ret ⟨r2,by dsimp only;rw [List.length_set];exact r3,fun t ht=>?_⟩)))
  rcases List.mem_or_eq_of_mem_set ht with ht|rfl
  ·exact r4 t ht
  ·rw [PV,EM]
   dsimp only
   omega
 ·rw [decide_eq_false (show ¬ (ts.length:Int) > 0 from hn)]
  exact no
end Go.Proofs.Ytodhbeeibagiaaa.PA

namespace Go.Proofs.Ytodhbeeibagiaaa.Pure
open Go.RowKit Go.Proofs.Ytodhbeeibagiaaa.PA Go.Proofs.YtodhbeeibagiaaaW.PrintWords Go.Proofs.YtodhbeeibagiaaaW.PrintLast Go.Proofs.YtodhbeeibagiaaaW.PrintMore Go.Proofs.Ytodhbeeibagiaaa.Core
theorem FnProgramFoldTwice:bJ.Pure:=by
 intro l _ hl hw
 refine EvP.ends (r:=true) ?_
 unfold bJ.f
 refine EvP.ite (fun _=>EvP.ret rfl) (fun _=>?_)
 refine EvP.bind (yD l (by omega) hw) fun r hr=>?_
 obtain ⟨rs,ts⟩:=r
 obtain ⟨h4,h6⟩:=hr
 dsimp only at h4 h6 ⊢
 have hs:=RX h6
 cases hv:lI rs ts with
 |false=>
  refine EvP.fD (xI (by omega) hs hv) (EvP.fD (xM (by omega) hs hv) (EvP.no (by simp) (EvP.fD xZ (EvP.yes rfl ?_))))
  exact EvP.step (fun k=>bJ.j0.eq_2 (k:=k) ..) (EvP.yes rfl (EvP.yes rfl (EvP.fD xZ (EvP.ret rfl))))
 |true=>
  obtain ⟨ms,rfl,hl3,hax,hok⟩:=aBu hv
  have hax':=aAn hax
  have hlm:(ms.map dZ).length=ms.length:=List.length_map _
  have hsf:=MU (ms:=ms) (by omega) hax
  have hpf:=CZ hax hv
  refine EvP.fD (sG (by omega) hs (by omega) hax hv) (EvP.fD (wS (by omega) hs (by omega) hax hv) (EvP.no (by simp) ?_))
  dsimp only
  rw [IE]
  have same:=wQ rs (by omega) (ms.map dZ) (by omega) (fun m hm=>Nat.le_trans (hax' m hm).2 (by omega))
  refine EvP.fD same (EvP.yes rfl (EvP.step (fun k=>bJ.j0.eq_2 (k:=k) ..) (EvP.no (by simp) ?_)))
  refine EvP.fD (sG (by omega) hsf (by omega) hax' hpf) (EvP.yes rfl ?_)
  dsimp only
  rw [IE,RN]
  refine EvP.fD same (EvP.yes rfl (EvP.fD (sH rs _ (by omega) hs) (EvP.ite (fun h=>?_) (fun h=>EvP.ret rfl))))
  exact EvP.fD (sH rs _ (by omega) hsf) (EvP.ret (MO hax h))
end Go.Proofs.Ytodhbeeibagiaaa.Pure

