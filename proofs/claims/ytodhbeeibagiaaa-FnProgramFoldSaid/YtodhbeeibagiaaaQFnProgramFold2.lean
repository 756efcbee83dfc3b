/- Part 3. -/
import Derived.Test.YtodhbeeibagiaaaQFnProgramFold1
set_option maxHeartbeats 8000000
set_option maxRecDepth 100000
namespace Go.Proofs.Ytodhbeeibagiaaa.PA
open Go.RowKit Go.Proofs.YtodhbeeibagiaaaW.PrintWords Go.Proofs.YtodhbeeibagiaaaW.PrintLast Go.Proofs.YtodhbeeibagiaaaW.PrintMore
attribute [local go_sem] max2_int min2_int max_two min_two max_three min_three max_four min_four
set_option linter.unusedVariables false
set_option linter.unusedSimpArgs false
theorem aX.mono_l:∀ k,(∀ y0,LeO (aX.f k y0) (aX.f (k + 1) y0))∧(∀ y0 y1 y2 y3,LeO (aX.l0 k y0 y1 y2 y3) (aX.l0 (k + 1) y0 y1 y2 y3))∧(∀ y0 y1 y2 y3 y4 y5 y6 y7 y8 y9 j3 j4 j5 j6,LeO (aX.j1 k y0 y1 y2 y3 y4 y5 y6 y7 y8 y9 j3 j4 j5 j6) (aX.j1 (k + 1) y0 y1 y2 y3 y4 y5 y6 y7 y8 y9 j3 j4 j5 j6))∧(∀ y0 y1 y2 y3 y4 y5 y6 y7 y8 y9 j3 j4 j5 j6,LeO (aX.j2 k y0 y1 y2 y3 y4 y5 y6 y7 y8 y9 j3 j4 j5 j6) (aX.j2 (k + 1) y0 y1 y2 y3 y4 y5 y6 y7 y8 y9 j3 j4 j5 j6))
 |0=>⟨fun _ r h=>by simp [aX.f] at h,fun _ _ _ _ r h=>by simp [aX.l0] at h,fun _ _ _ _ _ _ _ _ _ _ _ _ _ _ r h=>by simp [aX.j1] at h,fun _ _ _ _ _ _ _ _ _ _ _ _ _ _ r h=>by simp [aX.j2] at h⟩
 |k + 1=>by
  obtain ⟨ih0,ih1,ih2,ih3⟩:=aX.mono_l k
  refine ⟨?_,?_,?_,?_⟩
  ·intro y0
   unfold aX.f
   have m0:=@bZ.mono
   exact mo_
  ·intro y0 y1 y2 y3
   unfold aX.l0
   have m0:=@bZ.mono
   exact mo_
  ·intro y0 y1 y2 y3 y4 y5 y6 y7 y8 y9 j3 j4 j5 j6
   unfold aX.j1
   have m0:=@bZ.mono
   exact mo_
  ·intro y0 y1 y2 y3 y4 y5 y6 y7 y8 y9 j3 j4 j5 j6
   unfold aX.j2
   have m0:=@bZ.mono
   exact mo_
theorem aX.mono:∀ a0 k,LeO (aX.f k a0) (aX.f (k + 1) a0):=by
 intro a0 k
 obtain ⟨ih0,ih1,ih2,ih3⟩:=aX.mono_l k
 exact ih0 a0
def aX.T5:Bool × List (List Nat × List Nat):=(true,[([],[]),([0],[0]),([1],[1]),([],[]),([3],[3]),([4,2],[4]),([],[]),([6],[6]),([7,5],[7]),([0,1,2,3,4,6,7],[]),([9,2,8,0,1,2,3,4,6,7],[2,9]),([0,1,2,3,4,5,6,7,9,10],[]),([11,5,10,0,1,2,3,4,5,6,7,9,10],[5,11]),([0,1,2,3,4,5,6,7,8,9,10,11,12],[]),([13,8,12,0,1,2,3,4,5,6,7,8,9,10,11,12],[8,13])])
def aX.B5:List Nat:=[0,1,3,0,8,31,0,64,255,223,1023,2047,4095,8191,16383]
theorem aX.NW:lC .any (opsOf Try.f46 5)=aX.T5:=by kernel_rfl
theorem aX.EK:iJ aX.T5.2 aX.B5=true:=by kernel_rfl
theorem aX.calls (k:Nat):∀ (A0:Option Addr) (c0:Nat) (l0:List (S35)) (r:List (S35)) (w:World) (hr0:Kd.C k35 w A0 l0.length l0) (hc0:l0.length≤c0) (h:aX.f k l0=some r),
  Calls Try.prog 46 #[.slice A0 l0.length c0] w fun e w'=>∃ v0_:Value,e= .returned (v0_)∧Kd.N k35 35 w' w.heap.size (fun k_=>(w.heap.size≤k_)) v0_ r∧Below w.heap.size w w':=by
 induction k using Nat.strongRecOn with
 | _ k ih=>
 intro A0 c0 l0 r w hr0 hc0 h
 cases k with
 |zero=>exact absurd h (by simp [aX.f])
 |succ k=>
 simp only [aX.f] at h
 have hu35:=Try.underlying35
 have hu32:=Try.underlying32
 have Za:=am hr0
 have Zn:=am hc0
 clear hr0 hc0
 have HB:=am (Below.refl w.heap.size w)
 have H:(aX.l0 k ([]:List (S35)) l0 (l0.length:Int) 0)=some r:=h
 clear h
 have H':=am H
 clear H
 go_enter Try.func46,Try.ntmps46
 go_wp2
 go_loopg [3,9] k (fun kq v3 v9 w'=>∃ (jk:List (S35)) (j4:Int),v9= .int .i64 j4∧Aside0 (aX.l0 kq jk l0 (l0.length:Int) j4=some r)∧Aside0 (kq≤k)∧Aside0 (Kd.N k35 35 w' w.heap.size (fun k_=>(w.heap.size≤k_)) v3 jk)∧Aside0 (Below w.heap.size w w'))
 case atStart=>exact ⟨(([]:List (S35))),(0),sd_,H',⟨Nat.le_refl _⟩,⟨by first|exact Kd.oC _ _ _ _ _|exact Kd.sG _ _ _ _ _|exact Kd.sK _ _ _ _ _|exact Kd.sH _ _ _ _ _|exact Kd.sI _ _ _ _ _⟩,⟨fU⟩⟩
 case round=>
  clear H'
  obtain ⟨jk,j4,rfl,HA,jB,j6,HB⟩:=hrel
  cases gk with
  |zero=>exact absurd HA.out (by simp [aX.l0])
  |succ k1=>
   have H:=HA.out
   clear HA
   simp only [aX.l0] at H
   by_cases c2:j4 < (l0.length:Int)
   ·rw [if_pos c2] at H
    have qg:decide (j4 < (l0.length:Int))=true:=decide_eq_true c2
    clear c2
    by_cases c3:0≤j4
    ·rw [if_pos c3] at H
     have qt:decide (0≤j4)=true:=decide_eq_true c3
     clear c3
     by_cases c4:j4 < (l0.length:Int)
     ·rw [if_pos c4] at H
      have qu:decide (j4 < (l0.length:Int))=true:=decide_eq_true c4
      clear c4
      obtain ⟨jg,A5,H⟩:=bsa H
      (try dsimp only at H)
      obtain ⟨jh,A6,H⟩:=bsa H
      (try dsimp only at H)
      obtain ⟨⟨jj,jl,ji⟩,A7,H⟩:=bsa H
      (try dsimp only at H)
      have QO:=am H
      clear H
      have qv:0≤(j4:Int):=of_decide_eq_true fV
      have qw:j4 < (l0.length:Int):=of_decide_eq_true fV
      obtain ⟨Zb,jm,jn,jo,jp,jq,jr,Zc,js,jt,ju,jv,jw,jx,jy,jz,hl63_5,hi63_5,hl63_6,hi63_6,hl63_7,hi63_7⟩:=uU Za.out j4 qv qw
      cases Zc
      replace js:=(HB.out.cell (World.block_lt_of_cell? w _ js)).trans js
      replace jt:=(HB.out.cell (World.block_lt_of_cell? w _ jt)).trans jt
      replace ju:=(HB.out.cell (World.block_lt_of_cell? w _ ju)).trans ju
      replace jv:=(HB.out.cell (World.block_lt_of_cell? w _ jv)).trans jv
      replace jw:=(HB.out.cell (World.block_lt_of_cell? w _ jw)).trans jw
      replace jx:=(HB.out.cell (World.block_lt_of_cell? w _ jx)).trans jx
      replace jy:=(HB.out.cell (World.block_lt_of_cell? w _ jy)).trans jy
      replace jz:=(HB.out.cell (World.block_lt_of_cell? w _ jz)).trans jz
      have qh:=am hi63_5
      have qi:=am hl63_5
      clear hi63_5 hl63_5
      have qj:=am hi63_6
      have qk:=am hl63_6
      clear hi63_6 hl63_6
      have ql:=am hi63_7
      have qm:=am hl63_7
      clear hi63_7 hl63_7
      replace qv:=eq_true qv
      replace qw:=eq_true qw
      try go_wp2_with (first|((with_reducible refine cZ (N:=5) rfl ?_);refine dO rfl (N:=5) rfl (cs:=#[.int .i64 0, .int .i64 0, .int .i64 0, .int .i64 0, .int .i64 0, .slice none 0 0, .slice none 0 0, .slice none 0 0]) (t:=35) rn_ ?_;intro j3 hg w9 hbox hb;replace j6:=am (Kd.dS (Kd.gU (aN_ j6.out) j3 (Nat.le_of_eq hg.symm)) hb);have j5:=am (hbox);have Zd:=am ((by rw [hg];exact (aJ fU):w.heap.size≤j3));have GE65:=am ((by rw [hg];exact (aJ fU):w.heap.size≤j3));replace HB:=am (aD fU hb);clear hb hbox hg;obtain ⟨jH,jI,jJ,jK,jL,jM,jN,jO,jP,jQ,jR,jS,jT,jU,jV,jW⟩:=eU j5.out))
      have QP:Aside0 (Kd.N k35 35 ((((((((w9.setCell ⟨j3,0,none⟩ (.int .i64 ((aA l0 j4).f0))).setCell ⟨j3,1,none⟩ (.int .i64 ((aA l0 j4).f1))).setCell ⟨j3,2,none⟩ (.int .i64 ((aA l0 j4).f2))).setCell ⟨j3,3,none⟩ (.int .i64 ((aA l0 j4).f3.f0))).setCell ⟨j3,4,none⟩ (.int .i64 ((aA l0 j4).f3.f1))).setCell ⟨j3,5,none⟩ (.slice jm ((aA l0 j4).f3.f2).length jn)).setCell ⟨j3,6,none⟩ (.slice jo ((aA l0 j4).f4).length jp)).setCell ⟨j3,7,none⟩ (.slice jq ((aA l0 j4).f5).length jr)) w.heap.size (fun k_=>(w.heap.size≤k_)∧k_≠j3) u3 jk):=⟨eO (Kd.aG (Kd.aT (p:=⟨j3,7,none⟩) (Kd.aT (p:=⟨j3,6,none⟩) (Kd.aT (p:=⟨j3,5,none⟩) (Kd.aT (p:=⟨j3,4,none⟩) (Kd.aT (p:=⟨j3,3,none⟩) (Kd.aT (p:=⟨j3,2,none⟩) (Kd.aT (p:=⟨j3,1,none⟩) (Kd.aT (p:=⟨j3,0,none⟩) (Kd.aG j6.out (fun k_ hk=>(⟨hk,hk.2⟩:_∧k_≠j3))) (fun _ hk=>hk.2) (.int .i64 ((aA l0 j4).f0))) (fun _ hk=>hk.2) (.int .i64 ((aA l0 j4).f1))) (fun _ hk=>hk.2) (.int .i64 ((aA l0 j4).f2))) (fun _ hk=>hk.2) (.int .i64 ((aA l0 j4).f3.f0))) (fun _ hk=>hk.2) (.int .i64 ((aA l0 j4).f3.f1))) (fun _ hk=>hk.2) (.slice jm ((aA l0 j4).f3.f2).length jn)) (fun _ hk=>hk.2) (.slice jo ((aA l0 j4).f4).length jp)) (fun _ hk=>hk.2) (.slice jq ((aA l0 j4).f5).length jr)) (fun _ hk=>⟨hk.1.1,hk.1.2⟩))⟩
      have QQ:Aside0 (((((((((w9.setCell ⟨j3,0,none⟩ (.int .i64 ((aA l0 j4).f0))).setCell ⟨j3,1,none⟩ (.int .i64 ((aA l0 j4).f1))).setCell ⟨j3,2,none⟩ (.int .i64 ((aA l0 j4).f2))).setCell ⟨j3,3,none⟩ (.int .i64 ((aA l0 j4).f3.f0))).setCell ⟨j3,4,none⟩ (.int .i64 ((aA l0 j4).f3.f1))).setCell ⟨j3,5,none⟩ (.slice jm ((aA l0 j4).f3.f2).length jn)).setCell ⟨j3,6,none⟩ (.slice jo ((aA l0 j4).f4).length jp)).setCell ⟨j3,7,none⟩ (.slice jq ((aA l0 j4).f5).length jr)).heap[j3]?=some (.cells #[.int .i64 ((aA l0 j4).f0), .int .i64 ((aA l0 j4).f1), .int .i64 ((aA l0 j4).f2), .int .i64 ((aA l0 j4).f3.f0), .int .i64 ((aA l0 j4).f3.f1), .slice jm ((aA l0 j4).f3.f2).length jn, .slice jo ((aA l0 j4).f4).length jp, .slice jq ((aA l0 j4).f5).length jr] 35 (0,0))):=⟨(aM (aM (aM (aM (aM (aM (aM (aM j5.out 0 _ rfl) 1 _ rfl) 2 _ rfl) 3 _ rfl) 4 _ rfl) 5 _ rfl) 6 _ rfl) 7 _ rfl)⟩
      have QR:Aside0 (Below w.heap.size w ((((((((w9.setCell ⟨j3,0,none⟩ (.int .i64 ((aA l0 j4).f0))).setCell ⟨j3,1,none⟩ (.int .i64 ((aA l0 j4).f1))).setCell ⟨j3,2,none⟩ (.int .i64 ((aA l0 j4).f2))).setCell ⟨j3,3,none⟩ (.int .i64 ((aA l0 j4).f3.f0))).setCell ⟨j3,4,none⟩ (.int .i64 ((aA l0 j4).f3.f1))).setCell ⟨j3,5,none⟩ (.slice jm ((aA l0 j4).f3.f2).length jn)).setCell ⟨j3,6,none⟩ (.slice jo ((aA l0 j4).f4).length jp)).setCell ⟨j3,7,none⟩ (.slice jq ((aA l0 j4).f5).length jr))):=⟨kR⟩
      (try clear j6)
      (try clear j5)
      (try clear HB)
      generalize ((((((((w9.setCell ⟨j3,0,none⟩ (.int .i64 ((aA l0 j4).f0))).setCell ⟨j3,1,none⟩ (.int .i64 ((aA l0 j4).f1))).setCell ⟨j3,2,none⟩ (.int .i64 ((aA l0 j4).f2))).setCell ⟨j3,3,none⟩ (.int .i64 ((aA l0 j4).f3.f0))).setCell ⟨j3,4,none⟩ (.int .i64 ((aA l0 j4).f3.f1))).setCell ⟨j3,5,none⟩ (.slice jm ((aA l0 j4).f3.f2).length jn)).setCell ⟨j3,6,none⟩ (.slice jo ((aA l0 j4).f4).length jp)).setCell ⟨j3,7,none⟩ (.slice jq ((aA l0 j4).f5).length jr))=Ze at QP QQ QR ⊢
      have j6:=QP
      have j5:=QQ
      have HB:=QR
      clear QP QQ QR
      replace j6:=am (Kd.kV j6.out)
      replace j5:=am (bK j5.out)
      replace HB:=am (bG HB.out)
      refine lK (n:=15) (S:=fun w'=>w'.cell? ⟨j3,0,none⟩=some (.int .i64 ((aA l0 j4).f0))∧w'.cell? ⟨j3,1,none⟩=some (.int .i64 ((aA l0 j4).f1))∧w'.cell? ⟨j3,2,none⟩=some (.int .i64 ((aA l0 j4).f2))∧w'.cell? ⟨j3,3,none⟩=some (.int .i64 ((aA l0 j4).f3.f0))∧w'.cell? ⟨j3,4,none⟩=some (.int .i64 ((aA l0 j4).f3.f1))∧w'.cell? ⟨j3,5,none⟩=some (.slice jm ((aA l0 j4).f3.f2).length jn)∧w'.cell? ⟨j3,6,none⟩=some (.slice jo ((aA l0 j4).f4).length jp)∧w'.cell? ⟨j3,7,none⟩=some (.slice jq ((aA l0 j4).f5).length jr)) (ds:=[10,12,14]) (bz 15 0) (by kernel_rfl) rfl rfl ⟨(aC j5.out 0).trans rfl,(aC j5.out 1).trans rfl,(aC j5.out 2).trans rfl,(aC j5.out 3).trans rfl,(aC j5.out 4).trans rfl,(aC j5.out 5).trans rfl,(aC j5.out 6).trans rfl,(aC j5.out 7).trans rfl⟩ (fun hHeld=>?_);refine iF aX.NW aX.EK (fun HT_ HW_=>?_)
      generalize Ze.drew=Zo at j6 j5 HB hHeld ⊢
      refine pr_ 0 13 (bz 15 1) HT_ ?_
      refine pr_ 3 16 (bz 15 9) HT_ ?_
      refine pr_ 6 19 (bz 15 73) HT_ ?_
      refine WH 1 14 (bz 15 75) HT_ HW_ hHeld ?_
      refine WH 4 17 (bz 15 91) HT_ HW_ hHeld ?_
      refine WH 7 20 (bz 15 219) HT_ HW_ hHeld ?_
      refine kN (i:=2) (N:=some 15) (bz 15 223) rfl rfl (fQ HT_.out (by kernel_rfl)) (by decide) (fun K hK=>?_)
      refine iP Try.func46 (by kernel_rfl) rfl #[.slice jo ((aA l0 j4).f4).length jp] (by rfl) rfl rfl mO ?_
      with_reducible refine (ih k1 (by have:=jB.out;omega) _ _ ((aA l0 j4).f4) jg _ (aC_ (Kd.aV qj.out HB.out)) qk.out A5.out).mono ?_
      rintro e Zp ⟨Z3,rfl,ho0,hb⟩
      refine ⟨_,rfl,?_⟩
      have jA:=am (Kd.dF (Kd.aG (ok':=fun k_=>(w.heap.size≤k_)∧some k_≠(u3:Value).ownBlock∧k_≠j3) ho0 (fun k_ hk_=>⟨(Nat.le_trans (aJ kR) hk_),(Kd.fresh' (Kd.iN (aN_ j6.out)) k_ hk_),(fJ j5.out k_ hk_)⟩)) (aJ kR))
      replace j6:=am (Kd.eY (aN_ j6.out) (by first|exact Kd.dD ho0|exact Kd.dD (Kd.R_N ho0)) hb)
      replace j5:=bbP j5 hb
      replace HB:=am (aD kR hb)
      (try clear hb)
      (try clear hb2)
      (try clear hk)
      (try clear hi)
      (try clear ho0)
      refine hK.out _ _ ⟨(aC j5.out 0).trans rfl,(aC j5.out 1).trans rfl,(aC j5.out 2).trans rfl,(aC j5.out 3).trans rfl,(aC j5.out 4).trans rfl,(aC j5.out 5).trans rfl,(aC j5.out 6).trans rfl,(aC j5.out 7).trans rfl⟩ (fun hHeld=>?_)
      clear hK K
      refine eT (a':=?_) ?_ ?_
      rotate_left
      ·show Act.put _ (some 15) _=_
       simp only [Act.put,List.setIfInBounds_toArray,List.set_cons_zero,List.set_cons_succ,dN,dU]
       rfl
      refine pr_ 9 22 (bz 15 735) HT_ ?_
      refine kN (i:=5) (N:=some 18) (bz 15 767) rfl rfl (fQ HT_.out (by kernel_rfl)) (by decide) (fun K hK=>?_)
      refine iP Try.func46 (by kernel_rfl) rfl #[.slice jq ((aA l0 j4).f5).length jr] (by rfl) rfl rfl mO ?_
      with_reducible refine (ih k1 (by have:=jB.out;omega) _ _ ((aA l0 j4).f5) jh _ (aC_ (Kd.aV ql.out HB.out)) qm.out A6.out).mono ?_
      rintro e Zq ⟨Zf,rfl,ho0,hb⟩
      refine ⟨_,rfl,?_⟩
      have jG:=am (Kd.dF (Kd.aG (ok':=fun k_=>(w.heap.size≤k_)∧some k_≠(u3:Value).ownBlock∧some k_≠(Z3:Value).ownBlock∧k_≠j3) ho0 (fun k_ hk_=>⟨(Nat.le_trans (aJ kR) hk_),(Kd.fresh' (Kd.iN (aN_ j6.out)) k_ hk_),(Kd.fresh' (Kd.iN (aN_ jA.out)) k_ hk_),(fJ j5.out k_ hk_)⟩)) (aJ kR))
      replace j6:=am (Kd.eY (aN_ j6.out) (by first|exact Kd.dD ho0|exact Kd.dD (Kd.R_N ho0)) hb)
      replace jA:=am (Kd.eY (aN_ jA.out) (by first|exact Kd.dD ho0|exact Kd.dD (Kd.R_N ho0)) hb)
      replace j5:=bbP j5 hb
      replace HB:=am (aD kR hb)
      (try clear hb)
      (try clear hb2)
      (try clear hk)
      (try clear hi)
      (try clear ho0)
      refine hK.out _ _ ⟨(aC j5.out 0).trans rfl,(aC j5.out 1).trans rfl,(aC j5.out 2).trans rfl,(aC j5.out 3).trans rfl,(aC j5.out 4).trans rfl,(aC j5.out 5).trans rfl,(aC j5.out 6).trans rfl,(aC j5.out 7).trans rfl⟩ (fun hHeld=>?_)
      clear hK K
      refine eT (a':=?_) ?_ ?_
      rotate_left
      ·show Act.put _ (some 18) _=_
       simp only [Act.put,List.setIfInBounds_toArray,List.set_cons_zero,List.set_cons_succ,dN,dU]
       rfl
      refine kN (i:=8) (N:=some 21) (bz 15 1023) rfl rfl (fQ HT_.out (by kernel_rfl)) (by decide) (fun K hK=>?_)
      refine iP Try.func78 (by kernel_rfl) rfl #[.agg #[.int .i64 ((aA l0 j4).f3.f0), .int .i64 ((aA l0 j4).f3.f1), .slice jm ((aA l0 j4).f3.f2).length jn]] (by rfl) rfl rfl mO ?_
      with_reducible refine (bZ.calls k1 ((aA l0 j4).f3.f0) ((aA l0 j4).f3.f1) _ _ ((aA l0 j4).f3.f2) jj jl ji _ (aC_ (Kd.aV qh.out HB.out)) qi.out A7.out).mono ?_
      rintro e qx ⟨Zr,rfl,ho0,hb⟩
      refine ⟨_,rfl,?_⟩
      have qf:=am (Kd.dF (Kd.aG (ok':=fun k_=>(w.heap.size≤k_)∧some k_≠(u3:Value).ownBlock∧some k_≠(Z3:Value).ownBlock∧some k_≠(Zf:Value).ownBlock∧k_≠j3) ho0 (fun k_ hk_=>⟨(Nat.le_trans (aJ kR) hk_),(Kd.fresh' (Kd.iN (aN_ j6.out)) k_ hk_),(Kd.fresh' (Kd.iN (aN_ jA.out)) k_ hk_),(Kd.fresh' (Kd.iN (aN_ jG.out)) k_ hk_),(fJ j5.out k_ hk_)⟩)) (aJ kR))
      replace j6:=am (Kd.eY (aN_ j6.out) (by first|exact Kd.dD ho0|exact Kd.dD (Kd.R_N ho0)) hb)
      replace jA:=am (Kd.eY (aN_ jA.out) (by first|exact Kd.dD ho0|exact Kd.dD (Kd.R_N ho0)) hb)
      replace jG:=am (Kd.eY (aN_ jG.out) (by first|exact Kd.dD ho0|exact Kd.dD (Kd.R_N ho0)) hb)
      replace j5:=bbP j5 hb
      replace HB:=am (aD kR hb)
      (try clear hb)
      (try clear hb2)
      (try clear hk)
      (try clear hi)
      (try clear ho0)
      obtain ⟨j9,ja,qy⟩:=Kd.dG jA.out
      (first|subst qy|(injection qy with f1_ f2_ f3_;have f4_:=f1_.symm;have f5_:=f3_.symm;clear f1_ f2_ f3_;subst f4_;subst f5_))
      obtain ⟨jb,jc,qz⟩:=Kd.dG jG.out
      (first|subst qz|(injection qz with f1_ f2_ f3_;have f4_:=f1_.symm;have f5_:=f3_.symm;clear f1_ f2_ f3_;subst f4_;subst f5_))
      obtain ⟨j7,j8,qA⟩:=Kd.dG qf.out
      (first|subst qA|(injection qA with f1_ f2_ f3_;have f4_:=f1_.symm;have f5_:=f3_.symm;clear f1_ f2_ f3_;subst f4_;subst f5_))
      refine hK.out _ _ ⟨(aC j5.out 0).trans rfl,(aC j5.out 1).trans rfl,(aC j5.out 2).trans rfl,(aC j5.out 3).trans rfl,(aC j5.out 4).trans rfl,(aC j5.out 5).trans rfl,(aC j5.out 6).trans rfl,(aC j5.out 7).trans rfl⟩ (fun hHeld=>?_)
      clear hK K
      refine eT (a':=?_) ?_ ?_
      rotate_left
      ·show Act.put _ (some 21) _=_
       simp only [Act.put,List.setIfInBounds_toArray,List.set_cons_zero,List.set_cons_succ,dN,dU]
       rfl
      refine wO (i:=10) (N:=none) (bz 15 2047) rfl rfl (fQ HT_.out (by kernel_rfl)) (by decide) (fun K hK=>?_)
      have Zg:qx.cell? ⟨j3,6,none⟩=some (.slice jo ((aA l0 j4).f4).length jp):=(aC j5.out 6).trans rfl
      have hfs17:=aU j5.out 6
      refine rP (w1:=?_) (by rfl) rfl ?_ ?_
      rotate_left
      ·go_simp
       rfl
      refine hK.out _ _ ?_
      clear hK K
      refine pr_ 11 23 (bz 15 4095) HT_ ?_
      refine wO (i:=12) (N:=none) (bz 15 8191) rfl rfl (fQ HT_.out (by kernel_rfl)) (by decide) (fun K hK=>?_)
      have Zh:qx.cell? ⟨j3,7,none⟩=some (.slice jq ((aA l0 j4).f5).length jr):=(aC j5.out 7).trans rfl
      have hfs19:=aU j5.out 7
      refine rP (w1:=?_) (by rfl) rfl ?_ ?_
      rotate_left
      ·go_simp
       rfl
      refine hK.out _ _ ?_
      clear hK K
      refine pr_ 13 24 (bz 15 16383) HT_ ?_
      refine wO (i:=14) (N:=none) (bz 15 32767) rfl rfl (fQ HT_.out (by kernel_rfl)) (by decide) (fun K hK=>?_)
      have Zi:qx.cell? ⟨j3,3,none⟩=some (.int .i64 ((aA l0 j4).f3.f0)):=(aC j5.out 3).trans rfl
      have hfs20:=aU j5.out 3
      have Zj:qx.cell? ⟨j3,4,none⟩=some (.int .i64 ((aA l0 j4).f3.f1)):=(aC j5.out 4).trans rfl
      have hfs21:=aU j5.out 4
      have Zk:qx.cell? ⟨j3,5,none⟩=some (.slice jm ((aA l0 j4).f3.f2).length jn):=(aC j5.out 5).trans rfl
      have hfs23:=aU j5.out 5
      refine rP (w1:=?_) (by rfl) rfl ?_ ?_
      rotate_left
      ·go_simp
       rfl
      refine hK.out _ _ ?_
      clear hK K
      refine nN (kQ HT_.out (by kernel_rfl)) ?_
      obtain ⟨jX,jY,jZ,q0,q1,q2,q3,q4,q5,q6,q7,q8,q9,qa,qb,qc⟩:=eU j5.out
      go_upto_region 8 with (fail)
      go_cut [33] (fun Zl wc=>∃ (kq:Nat) (qd:Bool),Zl= .bool qd∧Aside0 (aX.j1 kq jk (jj == 0) l0 (l0.length:Int) j4 qd ((aA l0 j4).f0) ((aA l0 j4).f1) ((aA l0 j4).f2) jj jl ji jg jh=some r)∧Aside0 (kq≤k1)∧Aside0 (Kd.N k35 35 wc w.heap.size (fun k_=>(w.heap.size≤k_)∧some k_≠((.slice j7 ji.length j8):Value).ownBlock∧some k_≠((.slice j9 jg.length ja):Value).ownBlock∧some k_≠((.slice jb jh.length jc):Value).ownBlock∧k_≠j3) u3 jk)∧Aside0 (Kd.N k32 32 wc w.heap.size (fun k_=>(w.heap.size≤k_)∧some k_≠(u3:Value).ownBlock∧some k_≠((.slice j9 jg.length ja):Value).ownBlock∧some k_≠((.slice jb jh.length jc):Value).ownBlock∧k_≠j3) (.slice j7 ji.length j8) ji)∧Aside0 (Kd.N k35 35 wc w.heap.size (fun k_=>(w.heap.size≤k_)∧some k_≠(u3:Value).ownBlock∧some k_≠((.slice j7 ji.length j8):Value).ownBlock∧some k_≠((.slice jb jh.length jc):Value).ownBlock∧k_≠j3) (.slice j9 jg.length ja) jg)∧Aside0 (Kd.N k35 35 wc w.heap.size (fun k_=>(w.heap.size≤k_)∧some k_≠(u3:Value).ownBlock∧some k_≠((.slice j7 ji.length j8):Value).ownBlock∧some k_≠((.slice j9 jg.length ja):Value).ownBlock∧k_≠j3) (.slice jb jh.length jc) jh)∧Aside0 (wc.heap[j3]?=some (.cells #[.int .i64 ((aA l0 j4).f0), .int .i64 ((aA l0 j4).f1), .int .i64 ((aA l0 j4).f2), .int .i64 jj, .int .i64 jl,(.slice j7 ji.length j8),(.slice j9 jg.length ja),(.slice jb jh.length jc)] 35 (0,0)))∧Aside0 (Below w.heap.size w wc))
      case first=>
       have H:=QO.out
       clear QO
       by_cases qn:((aA l0 j4).f0)=2
       ·rw [if_pos qn] at H
        have jE:(((aA l0 j4).f0) == 2)=true:=beq_iff_eq.mpr qn
        have qB:(((aA l0 j4).f0) != 2)=false:=bne_eq_false_iff_eq.mpr qn
        clear qn
        (first|rw [jE]|(simp only [dN,dU];rw [jE])|skip)
        by_cases qo:jj=0
        ·rw [if_pos qo] at H
         have qC:(jj == 0)=true:=beq_iff_eq.mpr qo
         have qD:(jj != 0)=false:=bne_eq_false_iff_eq.mpr qo
         clear qo
         have H':=am H
         clear H
         obtain ⟨qS,qT,qU,qV,qW,qX,qY,qZ,z0,z1,z2,z3,z4,z5,z6,z7⟩:=eU j5.out
         go_wp2
         go_meet
         case rel=>exact ⟨_,((jl != 0)),sd_,H',⟨by have:=jB.out;first|omega|exact Nat.le_refl _⟩,⟨eO (Kd.aG (Kd.aT (p:=⟨j3,5,none⟩) (Kd.aT (p:=⟨j3,4,none⟩) (Kd.aT (p:=⟨j3,3,none⟩) (Kd.aT (p:=⟨j3,7,none⟩) (Kd.aT (p:=⟨j3,6,none⟩) (Kd.aG j6.out (fun k_ hk=>(⟨hk,hk.1.1.1.2⟩:_∧k_≠j3))) (fun _ hk=>hk.2) (.slice j9 jg.length ja)) (fun _ hk=>hk.2) (.slice jb jh.length jc)) (fun _ hk=>hk.2) (.int .i64 jj)) (fun _ hk=>hk.2) (.int .i64 jl)) (fun _ hk=>hk.2) (.slice j7 ji.length j8)) (fun _ hk=>⟨hk.1.1.1.1.1,⟨hk.1.2,⟨hk.1.1.1.2,⟨hk.1.1.2,hk.1.1.1.1.2⟩⟩⟩⟩))⟩,⟨eO (Kd.aG (Kd.aT (p:=⟨j3,5,none⟩) (Kd.aT (p:=⟨j3,4,none⟩) (Kd.aT (p:=⟨j3,3,none⟩) (Kd.aT (p:=⟨j3,7,none⟩) (Kd.aT (p:=⟨j3,6,none⟩) (Kd.aG qf.out (fun k_ hk=>(⟨hk,hk.2.2.2.2⟩:_∧k_≠j3))) (fun _ hk=>hk.2) (.slice j9 jg.length ja)) (fun _ hk=>hk.2) (.slice jb jh.length jc)) (fun _ hk=>hk.2) (.int .i64 jj)) (fun _ hk=>hk.2) (.int .i64 jl)) (fun _ hk=>hk.2) (.slice j7 ji.length j8)) (fun _ hk=>⟨hk.1.1,⟨hk.1.2.1,⟨hk.1.2.2.1,⟨hk.1.2.2.2.1,hk.1.2.2.2.2⟩⟩⟩⟩))⟩,⟨eO (Kd.aG (Kd.aT (p:=⟨j3,5,none⟩) (Kd.aT (p:=⟨j3,4,none⟩) (Kd.aT (p:=⟨j3,3,none⟩) (Kd.aT (p:=⟨j3,7,none⟩) (Kd.aT (p:=⟨j3,6,none⟩) (Kd.aG jA.out (fun k_ hk=>(⟨hk,hk.1.1.2.2⟩:_∧k_≠j3))) (fun _ hk=>hk.2) (.slice j9 jg.length ja)) (fun _ hk=>hk.2) (.slice jb jh.length jc)) (fun _ hk=>hk.2) (.int .i64 jj)) (fun _ hk=>hk.2) (.int .i64 jl)) (fun _ hk=>hk.2) (.slice j7 ji.length j8)) (fun _ hk=>⟨hk.1.1.1.1,⟨hk.1.1.1.2.1,⟨hk.1.2,⟨hk.1.1.2,hk.1.1.1.2.2⟩⟩⟩⟩))⟩,⟨eO (Kd.aG (Kd.aT (p:=⟨j3,5,none⟩) (Kd.aT (p:=⟨j3,4,none⟩) (Kd.aT (p:=⟨j3,3,none⟩) (Kd.aT (p:=⟨j3,7,none⟩) (Kd.aT (p:=⟨j3,6,none⟩) (Kd.aG jG.out (fun k_ hk=>(⟨hk,hk.1.2.2.2⟩:_∧k_≠j3))) (fun _ hk=>hk.2) (.slice j9 jg.length ja)) (fun _ hk=>hk.2) (.slice jb jh.length jc)) (fun _ hk=>hk.2) (.int .i64 jj)) (fun _ hk=>hk.2) (.int .i64 jl)) (fun _ hk=>hk.2) (.slice j7 ji.length j8)) (fun _ hk=>⟨hk.1.1.1,⟨hk.1.1.2.1,⟨hk.1.2,⟨hk.1.1.2.2.1,hk.1.1.2.2.2⟩⟩⟩⟩))⟩,⟨(aM (aM (aM (aM (aM j5.out 6 _ rfl) 7 _ rfl) 3 _ rfl) 4 _ rfl) 5 _ rfl)⟩,⟨kR⟩⟩
        rw [if_neg qo] at H
        have qC:(jj == 0)=false:=beq_eq_false_iff_ne.mpr qo
        have qD:(jj != 0)=true:=bne_iff_ne.mpr qo
        have H':=am H
        clear H
        obtain ⟨z8,z9,za,zb,zc,zd,ze,zf,zg,zh,zi,zj,zk,zl,zm,zn⟩:=eU j5.out
        go_wp2
        go_meet
        case rel=>exact ⟨_,(false),sd_,H',⟨by have:=jB.out;first|omega|exact Nat.le_refl _⟩,⟨eO (Kd.aG (Kd.aT (p:=⟨j3,5,none⟩) (Kd.aT (p:=⟨j3,4,none⟩) (Kd.aT (p:=⟨j3,3,none⟩) (Kd.aT (p:=⟨j3,7,none⟩) (Kd.aT (p:=⟨j3,6,none⟩) (Kd.aG j6.out (fun k_ hk=>(⟨hk,hk.1.1.1.2⟩:_∧k_≠j3))) (fun _ hk=>hk.2) (.slice j9 jg.length ja)) (fun _ hk=>hk.2) (.slice jb jh.length jc)) (fun _ hk=>hk.2) (.int .i64 jj)) (fun _ hk=>hk.2) (.int .i64 jl)) (fun _ hk=>hk.2) (.slice j7 ji.length j8)) (fun _ hk=>⟨hk.1.1.1.1.1,⟨hk.1.2,⟨hk.1.1.1.2,⟨hk.1.1.2,hk.1.1.1.1.2⟩⟩⟩⟩))⟩,⟨eO (Kd.aG (Kd.aT (p:=⟨j3,5,none⟩) (Kd.aT (p:=⟨j3,4,none⟩) (Kd.aT (p:=⟨j3,3,none⟩) (Kd.aT (p:=⟨j3,7,none⟩) (Kd.aT (p:=⟨j3,6,none⟩) (Kd.aG qf.out (fun k_ hk=>(⟨hk,hk.2.2.2.2⟩:_∧k_≠j3))) (fun _ hk=>hk.2) (.slice j9 jg.length ja)) (fun _ hk=>hk.2) (.slice jb jh.length jc)) (fun _ hk=>hk.2) (.int .i64 jj)) (fun _ hk=>hk.2) (.int .i64 jl)) (fun _ hk=>hk.2) (.slice j7 ji.length j8)) (fun _ hk=>⟨hk.1.1,⟨hk.1.2.1,⟨hk.1.2.2.1,⟨hk.1.2.2.2.1,hk.1.2.2.2.2⟩⟩⟩⟩))⟩,⟨eO (Kd.aG (Kd.aT (p:=⟨j3,5,none⟩) (Kd.aT (p:=⟨j3,4,none⟩) (Kd.aT (p:=⟨j3,3,none⟩) (Kd.aT (p:=⟨j3,7,none⟩) (Kd.aT (p:=⟨j3,6,none⟩) (Kd.aG jA.out (fun k_ hk=>(⟨hk,hk.1.1.2.2⟩:_∧k_≠j3))) (fun _ hk=>hk.2) (.slice j9 jg.length ja)) (fun _ hk=>hk.2) (.slice jb jh.length jc)) (fun _ hk=>hk.2) (.int .i64 jj)) (fun _ hk=>hk.2) (.int .i64 jl)) (fun _ hk=>hk.2) (.slice j7 ji.length j8)) (fun _ hk=>⟨hk.1.1.1.1,⟨hk.1.1.1.2.1,⟨hk.1.2,⟨hk.1.1.2,hk.1.1.1.2.2⟩⟩⟩⟩))⟩,⟨eO (Kd.aG (Kd.aT (p:=⟨j3,5,none⟩) (Kd.aT (p:=⟨j3,4,none⟩) (Kd.aT (p:=⟨j3,3,none⟩) (Kd.aT (p:=⟨j3,7,none⟩) (Kd.aT (p:=⟨j3,6,none⟩) (Kd.aG jG.out (fun k_ hk=>(⟨hk,hk.1.2.2.2⟩:_∧k_≠j3))) (fun _ hk=>hk.2) (.slice j9 jg.length ja)) (fun _ hk=>hk.2) (.slice jb jh.length jc)) (fun _ hk=>hk.2) (.int .i64 jj)) (fun _ hk=>hk.2) (.int .i64 jl)) (fun _ hk=>hk.2) (.slice j7 ji.length j8)) (fun _ hk=>⟨hk.1.1.1,⟨hk.1.1.2.1,⟨hk.1.2,⟨hk.1.1.2.2.1,hk.1.1.2.2.2⟩⟩⟩⟩))⟩,⟨(aM (aM (aM (aM (aM j5.out 6 _ rfl) 7 _ rfl) 3 _ rfl) 4 _ rfl) 5 _ rfl)⟩,⟨kR⟩⟩
       rw [if_neg qn] at H
       have jE:(((aA l0 j4).f0) == 2)=false:=beq_eq_false_iff_ne.mpr qn
       have qB:(((aA l0 j4).f0) != 2)=true:=bne_iff_ne.mpr qn
       (first|rw [jE]|(simp only [dN,dU];rw [jE])|skip)
       have H':=am H
       clear H
       obtain ⟨zo,zp,zq,zr,zs,zt,zu,zv,zw,zx,zy,zz,zA,zB,zC,zD⟩:=eU j5.out
       go_wp2
       go_meet
       case rel=>exact ⟨_,(false),sd_,H',⟨by have:=jB.out;first|omega|exact Nat.le_refl _⟩,⟨eO (Kd.aG (Kd.aT (p:=⟨j3,5,none⟩) (Kd.aT (p:=⟨j3,4,none⟩) (Kd.aT (p:=⟨j3,3,none⟩) (Kd.aT (p:=⟨j3,7,none⟩) (Kd.aT (p:=⟨j3,6,none⟩) (Kd.aG j6.out (fun k_ hk=>(⟨hk,hk.1.1.1.2⟩:_∧k_≠j3))) (fun _ hk=>hk.2) (.slice j9 jg.length ja)) (fun _ hk=>hk.2) (.slice jb jh.length jc)) (fun _ hk=>hk.2) (.int .i64 jj)) (fun _ hk=>hk.2) (.int .i64 jl)) (fun _ hk=>hk.2) (.slice j7 ji.length j8)) (fun _ hk=>⟨hk.1.1.1.1.1,⟨hk.1.2,⟨hk.1.1.1.2,⟨hk.1.1.2,hk.1.1.1.1.2⟩⟩⟩⟩))⟩,⟨eO (Kd.aG (Kd.aT (p:=⟨j3,5,none⟩) (Kd.aT (p:=⟨j3,4,none⟩) (Kd.aT (p:=⟨j3,3,none⟩) (Kd.aT (p:=⟨j3,7,none⟩) (Kd.aT (p:=⟨j3,6,none⟩) (Kd.aG qf.out (fun k_ hk=>(⟨hk,hk.2.2.2.2⟩:_∧k_≠j3))) (fun _ hk=>hk.2) (.slice j9 jg.length ja)) (fun _ hk=>hk.2) (.slice jb jh.length jc)) (fun _ hk=>hk.2) (.int .i64 jj)) (fun _ hk=>hk.2) (.int .i64 jl)) (fun _ hk=>hk.2) (.slice j7 ji.length j8)) (fun _ hk=>⟨hk.1.1,⟨hk.1.2.1,⟨hk.1.2.2.1,⟨hk.1.2.2.2.1,hk.1.2.2.2.2⟩⟩⟩⟩))⟩,⟨eO (Kd.aG (Kd.aT (p:=⟨j3,5,none⟩) (Kd.aT (p:=⟨j3,4,none⟩) (Kd.aT (p:=⟨j3,3,none⟩) (Kd.aT (p:=⟨j3,7,none⟩) (Kd.aT (p:=⟨j3,6,none⟩) (Kd.aG jA.out (fun k_ hk=>(⟨hk,hk.1.1.2.2⟩:_∧k_≠j3))) (fun _ hk=>hk.2) (.slice j9 jg.length ja)) (fun _ hk=>hk.2) (.slice jb jh.length jc)) (fun _ hk=>hk.2) (.int .i64 jj)) (fun _ hk=>hk.2) (.int .i64 jl)) (fun _ hk=>hk.2) (.slice j7 ji.length j8)) (fun _ hk=>⟨hk.1.1.1.1,⟨hk.1.1.1.2.1,⟨hk.1.2,⟨hk.1.1.2,hk.1.1.1.2.2⟩⟩⟩⟩))⟩,⟨eO (Kd.aG (Kd.aT (p:=⟨j3,5,none⟩) (Kd.aT (p:=⟨j3,4,none⟩) (Kd.aT (p:=⟨j3,3,none⟩) (Kd.aT (p:=⟨j3,7,none⟩) (Kd.aT (p:=⟨j3,6,none⟩) (Kd.aG jG.out (fun k_ hk=>(⟨hk,hk.1.2.2.2⟩:_∧k_≠j3))) (fun _ hk=>hk.2) (.slice j9 jg.length ja)) (fun _ hk=>hk.2) (.slice jb jh.length jc)) (fun _ hk=>hk.2) (.int .i64 jj)) (fun _ hk=>hk.2) (.int .i64 jl)) (fun _ hk=>hk.2) (.slice j7 ji.length j8)) (fun _ hk=>⟨hk.1.1.1,⟨hk.1.1.2.1,⟨hk.1.2,⟨hk.1.1.2.2.1,hk.1.1.2.2.2⟩⟩⟩⟩))⟩,⟨(aM (aM (aM (aM (aM j5.out 6 _ rfl) 7 _ rfl) 3 _ rfl) 4 _ rfl) 5 _ rfl)⟩,⟨kR⟩⟩
      case rest=>
       clear QO
       try clear c2
       try clear qg
       try clear c3
       try clear qt
       try clear c4
       try clear qu
       try clear jH
       try clear jI
       try clear jJ
       try clear jK
       try clear jL
       try clear jM
       try clear jN
       try clear jO
       try clear jX
       try clear jY
       try clear jZ
       try clear q0
       try clear q1
       try clear q2
       try clear q3
       try clear q4
       try clear jP
       try clear jQ
       try clear jR
       try clear jS
       try clear jT
       try clear jU
       try clear jV
       try clear jW
       try clear q5
       try clear q6
       try clear q7
       try clear q8
       try clear q9
       try clear qa
       try clear qb
       try clear qc
       try clear js
       try clear jt
       try clear ju
       try clear jv
       try clear jw
       try clear jx
       try clear jy
       try clear jz
       try clear qv
       try clear qw
       obtain ⟨kq,qd,rfl,HA,HJ7,j6,jd,je,jf,j5,HB⟩:=hcut
       cases kq with
       |zero=>exact absurd HA.out (by simp [aX.j1])
       |succ QS=>
        have H:=HA.out
        clear HA
        simp only [aX.j1] at H
        by_cases qE:qd=true
        ·subst qE
         rw [if_pos rfl] at H
         by_cases zE:jk.length + jg.length < 1256584717458
         ·rw [if_pos zE] at H
          have qF:=am zE
          clear zE
          obtain ⟨Z4,hy_⟩:∃ y_:List (S35),y_=(jk ++ jg):=⟨_,rfl⟩
          replace H:(aX.l0 QS Z4 l0 (l0.length:Int) (wrap64 (j4 + 1)))=some r:=rx_
          have QT:=am hy_
          clear hy_
          have H':=am H
          clear H
          obtain ⟨zF,zG,zH,zI,zJ,zK,zL,zM,zN,zO,zP,zQ,zR,zS,zT,zU⟩:=eU j5.out
          go_wp2_with (first|((with_reducible refine lI (b:= .append) (xs:=#[.tmp 46, .tmp 48]) rfl ?_);at_builtin;refine Kd.nZ k35 (w0:=w) w.heap.size rfl (.tmp 46) (.tmp 48) 23 35 (.agg #[(.int .i64 0),(.int .i64 0),(.int .i64 0),(.int .i64 0),(.int .i64 0),(.slice none 0 0),(.slice none 0 0),(.slice none 0 0)]) 112 rfl Try.underlying23 tQ rfl (by decide) (by omega) u3 jk jg _ _ _ (fun k_=>(w.heap.size≤k_)∧some k_≠(.slice j7 ji.length j8:Value).ownBlock∧some k_≠(.slice jb jh.length jc:Value).ownBlock∧k_≠j3) (fun k_=>((fun k_=>(w.heap.size≤k_)∧some k_≠(.slice j7 ji.length j8:Value).ownBlock∧some k_≠(.slice jb jh.length jc:Value).ownBlock∧k_≠j3)) k_∧some k_≠(u3:Value).ownBlock) rfl rfl ?aO ?aR (fun _ hk=>hk) ?aF ?aB ?aS ?aL ?_;(case aR=>exact (by skip;exact Kd.N_F (Kd.aG (ok':=(fun k_=>((fun k_=>(w.heap.size≤k_)∧some k_≠(.slice j7 ji.length j8:Value).ownBlock∧some k_≠(.slice jb jh.length jc:Value).ownBlock∧k_≠j3)) k_∧some k_≠(u3:Value).ownBlock)) (je.out) (fun k_ hk=>⟨⟨hk.1,⟨hk.2.2.1,⟨hk.2.2.2.1,hk.2.2.2.2⟩⟩⟩,hk.2.1⟩))));(case aB=>exact kR);(case aF=>exact (fun k_ hk=>⟨(Nat.le_trans (aJ kR) hk),Kd.fresh' (Kd.iN (aN_ jd.out)) k_ hk,Kd.fresh' (Kd.iN (aN_ jf.out)) k_ hk,fJ j5.out k_ hk⟩));(case aO=>exact (eO (Kd.aG j6.out (fun _ hk=>⟨hk.1,⟨hk.2.1,⟨hk.2.2.2.1,hk.2.2.2.2⟩⟩⟩))));(case aS=>exact (aJ kR));(case aL=>have:=qF.out;omega);intro Zs Zt ho hb hg hat;rw [← QT.out] at ho;replace jd:=am (Kd.pR (ok:=(fun k_=>(w.heap.size≤k_)∧some k_≠(.slice j9 jg.length ja:Value).ownBlock∧some k_≠(.slice jb jh.length jc:Value).ownBlock∧k_≠j3)) (eO (Kd.aG jd.out (fun _ hk=>⟨⟨hk.1,⟨hk.2.2.1,⟨hk.2.2.2.1,hk.2.2.2.2⟩⟩⟩,hk.2.1⟩))) hg hat);replace je:=am (Kd.pR (ok:=(fun k_=>(w.heap.size≤k_)∧some k_≠(.slice j7 ji.length j8:Value).ownBlock∧some k_≠(.slice jb jh.length jc:Value).ownBlock∧k_≠j3)) (eO (Kd.aG je.out (fun _ hk=>⟨⟨hk.1,⟨hk.2.2.1,⟨hk.2.2.2.1,hk.2.2.2.2⟩⟩⟩,hk.2.1⟩))) hg hat);replace jf:=am (Kd.pR (ok:=(fun k_=>(w.heap.size≤k_)∧some k_≠(.slice j7 ji.length j8:Value).ownBlock∧some k_≠(.slice j9 jg.length ja:Value).ownBlock∧k_≠j3)) (eO (Kd.aG jf.out (fun _ hk=>⟨⟨hk.1,⟨hk.2.2.1,⟨hk.2.2.2.1,hk.2.2.2.2⟩⟩⟩,hk.2.1⟩))) hg hat);replace j5:=am (gX (g:=j3) (o:= .cells #[.int .i64 ((aA l0 j4).f0), .int .i64 ((aA l0 j4).f1), .int .i64 ((aA l0 j4).f2), .int .i64 jj, .int .i64 jl, .slice j7 ji.length j8, .slice j9 jg.length ja, .slice jb jh.length jc] 35 (0,0)) (aG_ j5.out) hg (Kd.yC j6.out (fun _ hk=>hk.2.2.2.2)));replace HB:=am (hb);have QU:=am (ho);clear j6 ho hb hg hat))
          go_roundg QS
          case measure=>have:=jB.out;have:=HJ7.out;omega
          case rel=>exact ⟨(Z4),(wrap64 (j4 + 1)),sd_,H',⟨by have:=jB.out;have:=HJ7.out;omega⟩,⟨eO (Kd.aG QU.out (fun _ hk=>hk.1))⟩,⟨kR⟩⟩
         rw [if_neg zE] at H
         exact absurd H (by simp)
        replace qE:=Bool.eq_false_iff.mpr qE
        subst qE
        rw [if_neg (show ¬ (false=true) by decide)] at H
        have qp:=am H
        clear H
        go_upto_region 10 with (fail)
        go_cut [50] (fun Zm wc=>∃ (kq:Nat) (jC:Bool),Zm= .bool jC∧Aside0 (aX.j2 kq jk (jj == 0) l0 (l0.length:Int) j4 jC ((aA l0 j4).f0) ((aA l0 j4).f1) ((aA l0 j4).f2) jj jl ji jg jh=some r)∧Aside0 (kq≤QS)∧Aside0 (Kd.N k35 35 wc w.heap.size (fun k_=>(w.heap.size≤k_)∧some k_≠((.slice j7 ji.length j8):Value).ownBlock∧some k_≠((.slice j9 jg.length ja):Value).ownBlock∧some k_≠((.slice jb jh.length jc):Value).ownBlock∧k_≠j3) u3 jk)∧Aside0 (Kd.N k32 32 wc w.heap.size (fun k_=>(w.heap.size≤k_)∧some k_≠(u3:Value).ownBlock∧some k_≠((.slice j9 jg.length ja):Value).ownBlock∧some k_≠((.slice jb jh.length jc):Value).ownBlock∧k_≠j3) (.slice j7 ji.length j8) ji)∧Aside0 (Kd.N k35 35 wc w.heap.size (fun k_=>(w.heap.size≤k_)∧some k_≠(u3:Value).ownBlock∧some k_≠((.slice j7 ji.length j8):Value).ownBlock∧some k_≠((.slice jb jh.length jc):Value).ownBlock∧k_≠j3) (.slice j9 jg.length ja) jg)∧Aside0 (Kd.N k35 35 wc w.heap.size (fun k_=>(w.heap.size≤k_)∧some k_≠(u3:Value).ownBlock∧some k_≠((.slice j7 ji.length j8):Value).ownBlock∧some k_≠((.slice j9 jg.length ja):Value).ownBlock∧k_≠j3) (.slice jb jh.length jc) jh)∧Aside0 (wc.heap[j3]?=some (.cells #[.int .i64 ((aA l0 j4).f0), .int .i64 ((aA l0 j4).f1), .int .i64 ((aA l0 j4).f2), .int .i64 jj, .int .i64 jl,(.slice j7 ji.length j8),(.slice j9 jg.length ja),(.slice jb jh.length jc)] 35 (0,0)))∧Aside0 (Below w.heap.size w wc))
        case first=>
         have H:=qp.out
         clear qp
         by_cases qq:((aA l0 j4).f0)=2
         ·rw [if_pos qq] at H
          have jF:(((aA l0 j4).f0) == 2)=true:=beq_iff_eq.mpr qq
          have qG:(((aA l0 j4).f0) != 2)=false:=bne_eq_false_iff_eq.mpr qq
          clear qq
          (first|rw [jF]|(simp only [dN,dU];rw [jF])|skip)
          have H':=am H
          clear H
          obtain ⟨zV,zW,zX,zY,zZ,J0,J1,J2,J3,J4,J5,J6,J7,J8,J9,Ja⟩:=eU j5.out
          go_wp2
          go_meet
          case rel=>exact ⟨_,((jj == 0)),sd_,H',⟨by have:=jB.out;have:=HJ7.out;first|omega|exact Nat.le_refl _⟩,⟨eO j6.out⟩,⟨eO jd.out⟩,⟨eO je.out⟩,⟨eO jf.out⟩,⟨by (with_reducible repeat (first|refine dI ?_ _|refine bK ?_|refine bY ?_ _));exact j5.out⟩,⟨kR⟩⟩
         rw [if_neg qq] at H
         have jF:(((aA l0 j4).f0) == 2)=false:=beq_eq_false_iff_ne.mpr qq
         have qG:(((aA l0 j4).f0) != 2)=true:=bne_iff_ne.mpr qq
         (first|rw [jF]|(simp only [dN,dU];rw [jF])|skip)
         have H':=am H
         clear H
         obtain ⟨Jb,Jc,Jd,Je,Jf,Jg,Jh,Ji,Jj,Jk,Jl,Jm,Jn,Jo,Jp,Jq⟩:=eU j5.out
         go_wp2
         go_meet
         case rel=>exact ⟨_,(false),sd_,H',⟨by have:=jB.out;have:=HJ7.out;first|omega|exact Nat.le_refl _⟩,⟨eO j6.out⟩,⟨eO jd.out⟩,⟨eO je.out⟩,⟨eO jf.out⟩,⟨by (with_reducible repeat (first|refine dI ?_ _|refine bK ?_|refine bY ?_ _));exact j5.out⟩,⟨kR⟩⟩
        case rest=>
         clear qp
         try clear c2
         try clear qg
         try clear c3
         try clear qt
         try clear c4
         try clear qu
         try clear qE
         try clear jH
         try clear jI
         try clear jJ
         try clear jK
         try clear jL
         try clear jM
         try clear jN
         try clear jO
         try clear jX
         try clear jY
         try clear jZ
         try clear q0
         try clear q1
         try clear q2
         try clear q3
         try clear q4
         try clear jP
         try clear jQ
         try clear jR
         try clear jS
         try clear jT
         try clear jU
         try clear jV
         try clear jW
         try clear q5
         try clear q6
         try clear q7
         try clear q8
         try clear q9
         try clear qa
         try clear qb
         try clear qc
         try clear js
         try clear jt
         try clear ju
         try clear jv
         try clear jw
         try clear jx
         try clear jy
         try clear jz
         try clear qv
         try clear qw
         obtain ⟨kq,jC,rfl,HA,HJ33,j6,jd,je,jf,j5,HB⟩:=hcut
         cases kq with
         |zero=>exact absurd HA.out (by simp [aX.j2])
         |succ jD=>
          have H:=HA.out
          clear HA
          simp only [aX.j2] at H
          by_cases Jr:jC=true
          ·subst Jr
           rw [if_pos rfl] at H
           by_cases Js:jk.length + jh.length < 1256584717458
           ·rw [if_pos Js] at H
            have qH:=am Js
            clear Js
            obtain ⟨Z5,hy_⟩:∃ y_:List (S35),y_=(jk ++ jh):=⟨_,rfl⟩
            replace H:(aX.l0 jD Z5 l0 (l0.length:Int) (wrap64 (j4 + 1)))=some r:=rx_
            have QV:=am hy_
            clear hy_
            have H':=am H
            clear H
            obtain ⟨Jt,Ju,Jv,Jw,Jx,Jy,Jz,JA,JB,JC,JD,JE,JF,JG,JH,JI⟩:=eU j5.out
            go_wp2_with (first|((with_reducible refine lI (b:= .append) (xs:=#[.tmp 57, .tmp 59]) rfl ?_);at_builtin;refine Kd.nZ k35 (w0:=w) w.heap.size rfl (.tmp 57) (.tmp 59) 23 35 (.agg #[(.int .i64 0),(.int .i64 0),(.int .i64 0),(.int .i64 0),(.int .i64 0),(.slice none 0 0),(.slice none 0 0),(.slice none 0 0)]) 112 rfl Try.underlying23 tQ rfl (by decide) (by omega) u3 jk jh _ _ _ (fun k_=>(w.heap.size≤k_)∧some k_≠(.slice j7 ji.length j8:Value).ownBlock∧some k_≠(.slice j9 jg.length ja:Value).ownBlock∧k_≠j3) (fun k_=>((fun k_=>(w.heap.size≤k_)∧some k_≠(.slice j7 ji.length j8:Value).ownBlock∧some k_≠(.slice j9 jg.length ja:Value).ownBlock∧k_≠j3)) k_∧some k_≠(u3:Value).ownBlock) rfl rfl ?aO ?aR (fun _ hk=>hk) ?aF ?aB ?aS ?aL ?_;(case aR=>exact (by skip;exact Kd.N_F (Kd.aG (ok':=(fun k_=>((fun k_=>(w.heap.size≤k_)∧some k_≠(.slice j7 ji.length j8:Value).ownBlock∧some k_≠(.slice j9 jg.length ja:Value).ownBlock∧k_≠j3)) k_∧some k_≠(u3:Value).ownBlock)) (jf.out) (fun k_ hk=>⟨⟨hk.1,⟨hk.2.2.1,⟨hk.2.2.2.1,hk.2.2.2.2⟩⟩⟩,hk.2.1⟩))));(case aB=>exact kR);(case aF=>exact (fun k_ hk=>⟨(Nat.le_trans (aJ kR) hk),Kd.fresh' (Kd.iN (aN_ jd.out)) k_ hk,Kd.fresh' (Kd.iN (aN_ je.out)) k_ hk,fJ j5.out k_ hk⟩));(case aO=>exact (eO (Kd.aG j6.out (fun _ hk=>⟨hk.1,⟨hk.2.1,⟨hk.2.2.1,hk.2.2.2.2⟩⟩⟩))));(case aS=>exact (aJ kR));(case aL=>have:=qH.out;omega);intro Zu Zv ho hb hg hat;rw [← QV.out] at ho;replace jd:=am (Kd.pR (ok:=(fun k_=>(w.heap.size≤k_)∧some k_≠(.slice j9 jg.length ja:Value).ownBlock∧some k_≠(.slice jb jh.length jc:Value).ownBlock∧k_≠j3)) (eO (Kd.aG jd.out (fun _ hk=>⟨⟨hk.1,⟨hk.2.2.1,⟨hk.2.2.2.1,hk.2.2.2.2⟩⟩⟩,hk.2.1⟩))) hg hat);replace je:=am (Kd.pR (ok:=(fun k_=>(w.heap.size≤k_)∧some k_≠(.slice j7 ji.length j8:Value).ownBlock∧some k_≠(.slice jb jh.length jc:Value).ownBlock∧k_≠j3)) (eO (Kd.aG je.out (fun _ hk=>⟨⟨hk.1,⟨hk.2.2.1,⟨hk.2.2.2.1,hk.2.2.2.2⟩⟩⟩,hk.2.1⟩))) hg hat);replace jf:=am (Kd.pR (ok:=(fun k_=>(w.heap.size≤k_)∧some k_≠(.slice j7 ji.length j8:Value).ownBlock∧some k_≠(.slice j9 jg.length ja:Value).ownBlock∧k_≠j3)) (eO (Kd.aG jf.out (fun _ hk=>⟨⟨hk.1,⟨hk.2.2.1,⟨hk.2.2.2.1,hk.2.2.2.2⟩⟩⟩,hk.2.1⟩))) hg hat);replace j5:=am (gX (g:=j3) (o:= .cells #[.int .i64 ((aA l0 j4).f0), .int .i64 ((aA l0 j4).f1), .int .i64 ((aA l0 j4).f2), .int .i64 jj, .int .i64 jl, .slice j7 ji.length j8, .slice j9 jg.length ja, .slice jb jh.length jc] 35 (0,0)) (aG_ j5.out) hg (Kd.yC j6.out (fun _ hk=>hk.2.2.2.2)));replace HB:=am (hb);have QW:=am (ho);clear j6 ho hb hg hat))
            go_roundg jD
            case measure=>have:=jB.out;have:=HJ7.out;have:=HJ33.out;omega
            case rel=>exact ⟨(Z5),(wrap64 (j4 + 1)),sd_,H',⟨by have:=jB.out;have:=HJ7.out;have:=HJ33.out;omega⟩,⟨eO (Kd.aG QW.out (fun _ hk=>hk.1))⟩,⟨kR⟩⟩
           rw [if_neg Js] at H
           exact absurd H (by simp)
          replace Jr:=Bool.eq_false_iff.mpr Jr
          subst Jr
          rw [if_neg (show ¬ (false=true) by decide)] at H
          by_cases qr:((aA l0 j4).f0)=3
          ·rw [if_pos qr] at H
           have qI:(((aA l0 j4).f0) == 3)=true:=beq_iff_eq.mpr qr
           have qJ:(((aA l0 j4).f0) != 3)=false:=bne_eq_false_iff_eq.mpr qr
           clear qr
           by_cases qe:(jj == 0)=true
           ·rw [if_pos qe] at H
            have qK:(jj == 0)=true:=qe
            (try (have qL:decide (jj=0)=true:=by simpa using qe))
            (try (have qM:(jj == 0)=true:=by simpa using qe))
            clear qe
            by_cases qs:jl=0
            ·rw [if_pos qs] at H
             have qN:(jl == 0)=true:=beq_iff_eq.mpr qs
             have qO:(jl != 0)=false:=bne_eq_false_iff_eq.mpr qs
             clear qs
             have H':=am H
             clear H
             obtain ⟨JJ,JK,JL,JM,JN,JO,JP,JQ,JR,JS,JT,JU,JV,JW,JX,JY⟩:=eU j5.out
             go_wp2
             go_roundg jD
             case measure=>have:=jB.out;have:=HJ7.out;have:=HJ33.out;omega
             case rel=>exact ⟨(jk),(wrap64 (j4 + 1)),sd_,H',⟨by have:=jB.out;have:=HJ7.out;have:=HJ33.out;omega⟩,⟨eO (Kd.aG j6.out (fun _ hk=>hk.1))⟩,⟨kR⟩⟩
            rw [if_neg qs] at H
            have qN:(jl == 0)=false:=beq_eq_false_iff_ne.mpr qs
            have qO:(jl != 0)=true:=bne_iff_ne.mpr qs
            by_cases JZ:jk.length < 1256584717458
            ·rw [if_pos JZ] at H
             have qP:=am JZ
             clear JZ
             obtain ⟨Z6,hy_⟩:∃ y_:List (S35),y_=(jk ++ [(⟨((aA l0 j4).f0),((aA l0 j4).f1),((aA l0 j4).f2),(⟨jj,jl,ji⟩:S32),jg,jh⟩:S35)]):=⟨_,rfl⟩
             replace H:(aX.l0 jD Z6 l0 (l0.length:Int) (wrap64 (j4 + 1)))=some r:=rx_
             have QX:=am hy_
             clear hy_
             have H':=am H
             clear H
             obtain ⟨Q0,Q1,Q2,Q3,Q4,Q5,Q6,Q7,Q8,Q9,Qa,Qb,Qc,Qd,Qe,Qf⟩:=eU j5.out
             go_wp2_with (first|((with_reducible refine lI (b:= .append) (xs:=#[.tmp 29, .tmp 31]) rfl ?_);at_builtin;refine Kd.DZ k35 (w0:=w) w.heap.size rfl (.tmp 29) (.tmp 31) 23 35 (.agg #[(.int .i64 0),(.int .i64 0),(.int .i64 0),(.int .i64 0),(.int .i64 0),(.slice none 0 0),(.slice none 0 0),(.slice none 0 0)]) 112 rfl Try.underlying23 tQ rfl (by decide) (by omega) u3 jk (⟨((aA l0 j4).f0),((aA l0 j4).f1),((aA l0 j4).f2),(⟨jj,jl,ji⟩:S32),jg,jh⟩:S35) [.int .i64 ((aA l0 j4).f0), .int .i64 ((aA l0 j4).f1), .int .i64 ((aA l0 j4).f2), .int .i64 jj, .int .i64 jl, .slice j7 ji.length j8, .slice j9 jg.length ja, .slice jb jh.length jc] (fun k_=>(w.heap.size≤k_)∧k_≠j3) (fun k_=>((fun k_=>(w.heap.size≤k_)∧k_≠j3)) k_∧some k_≠(u3:Value).ownBlock) rfl rfl ?aP (fun _ hk=>hk) ?aF ?aO ?aB ?aS ?aL ?_;(case aP=>exact (kY _ _ (⟨((aA l0 j4).f0),((aA l0 j4).f1),((aA l0 j4).f2),(⟨jj,jl,ji⟩:S32),jg,jh⟩:S35) (Kd.bQ (Kd.aG (ok':=(fun k_=>((fun k_=>(w.heap.size≤k_)∧k_≠j3)) k_∧some k_≠(u3:Value).ownBlock)) (jd.out) (fun k_ hk=>⟨⟨hk.1,hk.2.2.2.2⟩,hk.2.1⟩))).2.1 (Kd.N_F (Kd.aG (ok':=(fun k_=>((fun k_=>(w.heap.size≤k_)∧k_≠j3)) k_∧some k_≠(u3:Value).ownBlock)) (jd.out) (fun k_ hk=>⟨⟨hk.1,hk.2.2.2.2⟩,hk.2.1⟩))) (Kd.bQ (Kd.aG (ok':=(fun k_=>((fun k_=>(w.heap.size≤k_)∧k_≠j3)) k_∧some k_≠(u3:Value).ownBlock)) (je.out) (fun k_ hk=>⟨⟨hk.1,hk.2.2.2.2⟩,hk.2.1⟩))).2.1 (Kd.N_F (Kd.aG (ok':=(fun k_=>((fun k_=>(w.heap.size≤k_)∧k_≠j3)) k_∧some k_≠(u3:Value).ownBlock)) (je.out) (fun k_ hk=>⟨⟨hk.1,hk.2.2.2.2⟩,hk.2.1⟩))) (Kd.bQ (Kd.aG (ok':=(fun k_=>((fun k_=>(w.heap.size≤k_)∧k_≠j3)) k_∧some k_≠(u3:Value).ownBlock)) (jf.out) (fun k_ hk=>⟨⟨hk.1,hk.2.2.2.2⟩,hk.2.1⟩))).2.1 (Kd.N_F (Kd.aG (ok':=(fun k_=>((fun k_=>(w.heap.size≤k_)∧k_≠j3)) k_∧some k_≠(u3:Value).ownBlock)) (jf.out) (fun k_ hk=>⟨⟨hk.1,hk.2.2.2.2⟩,hk.2.1⟩)))));(case aB=>exact kR);(case aF=>exact (fun k_ hk=>⟨(Nat.le_trans (aJ kR) hk),fJ j5.out k_ hk⟩));(case aO=>exact (eO (Kd.aG j6.out (fun _ hk=>⟨hk.1,hk.2.2.2.2⟩))));(case aS=>exact (aJ kR));(case aL=>have:=qP.out;omega);intro Zw Zx ho hb hg hat;rw [← QX.out] at ho;replace j5:=am (gX (g:=j3) (o:= .cells #[.int .i64 ((aA l0 j4).f0), .int .i64 ((aA l0 j4).f1), .int .i64 ((aA l0 j4).f2), .int .i64 jj, .int .i64 jl, .slice j7 ji.length j8, .slice j9 jg.length ja, .slice jb jh.length jc] 35 (0,0)) (aG_ j5.out) hg (Kd.yC j6.out (fun _ hk=>hk.2.2.2.2)));replace HB:=am (hb);have QY:=am (ho);clear j6 jd je jf ho hb hg hat))
             go_roundg jD
             case measure=>have:=jB.out;have:=HJ7.out;have:=HJ33.out;omega
             case rel=>exact ⟨(Z6),(wrap64 (j4 + 1)),sd_,H',⟨by have:=jB.out;have:=HJ7.out;have:=HJ33.out;omega⟩,⟨eO (Kd.aG QY.out (fun _ hk=>hk.1))⟩,⟨kR⟩⟩
            rw [if_neg JZ] at H
            exact absurd H (by simp)
           rw [if_neg qe] at H
           have qK:(jj == 0)=false:=by simpa using qe
           (try (have qL:decide (jj=0)=false:=by simpa using qe))
           (try (have qM:(jj == 0)=false:=by simpa using qe))
           (try (have Z7:¬ (jj=0):=by simpa using qe))
           clear qe
           by_cases Qg:jk.length < 1256584717458
           ·rw [if_pos Qg] at H
            have qQ:=am Qg
            clear Qg
            obtain ⟨Z8,hy_⟩:∃ y_:List (S35),y_=(jk ++ [(⟨((aA l0 j4).f0),((aA l0 j4).f1),((aA l0 j4).f2),(⟨jj,jl,ji⟩:S32),jg,jh⟩:S35)]):=⟨_,rfl⟩
            replace H:(aX.l0 jD Z8 l0 (l0.length:Int) (wrap64 (j4 + 1)))=some r:=rx_
            have QZ:=am hy_
            clear hy_
            have H':=am H
            clear H
            obtain ⟨Qh,Qi,Qj,Qk,Ql,Qm,Qn,Qo,Qp,Qq,Qr,Qs,Qt,Qu,Qv,Qw⟩:=eU j5.out
            go_wp2_with (first|((with_reducible refine lI (b:= .append) (xs:=#[.tmp 29, .tmp 31]) rfl ?_);at_builtin;refine Kd.DZ k35 (w0:=w) w.heap.size rfl (.tmp 29) (.tmp 31) 23 35 (.agg #[(.int .i64 0),(.int .i64 0),(.int .i64 0),(.int .i64 0),(.int .i64 0),(.slice none 0 0),(.slice none 0 0),(.slice none 0 0)]) 112 rfl Try.underlying23 tQ rfl (by decide) (by omega) u3 jk (⟨((aA l0 j4).f0),((aA l0 j4).f1),((aA l0 j4).f2),(⟨jj,jl,ji⟩:S32),jg,jh⟩:S35) [.int .i64 ((aA l0 j4).f0), .int .i64 ((aA l0 j4).f1), .int .i64 ((aA l0 j4).f2), .int .i64 jj, .int .i64 jl, .slice j7 ji.length j8, .slice j9 jg.length ja, .slice jb jh.length jc] (fun k_=>(w.heap.size≤k_)∧k_≠j3) (fun k_=>((fun k_=>(w.heap.size≤k_)∧k_≠j3)) k_∧some k_≠(u3:Value).ownBlock) rfl rfl ?aP (fun _ hk=>hk) ?aF ?aO ?aB ?aS ?aL ?_;(case aP=>exact (kY _ _ (⟨((aA l0 j4).f0),((aA l0 j4).f1),((aA l0 j4).f2),(⟨jj,jl,ji⟩:S32),jg,jh⟩:S35) (Kd.bQ (Kd.aG (ok':=(fun k_=>((fun k_=>(w.heap.size≤k_)∧k_≠j3)) k_∧some k_≠(u3:Value).ownBlock)) (jd.out) (fun k_ hk=>⟨⟨hk.1,hk.2.2.2.2⟩,hk.2.1⟩))).2.1 (Kd.N_F (Kd.aG (ok':=(fun k_=>((fun k_=>(w.heap.size≤k_)∧k_≠j3)) k_∧some k_≠(u3:Value).ownBlock)) (jd.out) (fun k_ hk=>⟨⟨hk.1,hk.2.2.2.2⟩,hk.2.1⟩))) (Kd.bQ (Kd.aG (ok':=(fun k_=>((fun k_=>(w.heap.size≤k_)∧k_≠j3)) k_∧some k_≠(u3:Value).ownBlock)) (je.out) (fun k_ hk=>⟨⟨hk.1,hk.2.2.2.2⟩,hk.2.1⟩))).2.1 (Kd.N_F (Kd.aG (ok':=(fun k_=>((fun k_=>(w.heap.size≤k_)∧k_≠j3)) k_∧some k_≠(u3:Value).ownBlock)) (je.out) (fun k_ hk=>⟨⟨hk.1,hk.2.2.2.2⟩,hk.2.1⟩))) (Kd.bQ (Kd.aG (ok':=(fun k_=>((fun k_=>(w.heap.size≤k_)∧k_≠j3)) k_∧some k_≠(u3:Value).ownBlock)) (jf.out) (fun k_ hk=>⟨⟨hk.1,hk.2.2.2.2⟩,hk.2.1⟩))).2.1 (Kd.N_F (Kd.aG (ok':=(fun k_=>((fun k_=>(w.heap.size≤k_)∧k_≠j3)) k_∧some k_≠(u3:Value).ownBlock)) (jf.out) (fun k_ hk=>⟨⟨hk.1,hk.2.2.2.2⟩,hk.2.1⟩)))));(case aB=>exact kR);(case aF=>exact (fun k_ hk=>⟨(Nat.le_trans (aJ kR) hk),fJ j5.out k_ hk⟩));(case aO=>exact (eO (Kd.aG j6.out (fun _ hk=>⟨hk.1,hk.2.2.2.2⟩))));(case aS=>exact (aJ kR));(case aL=>have:=qQ.out;omega);intro Zy Zz ho hb hg hat;rw [← QZ.out] at ho;replace j5:=am (gX (g:=j3) (o:= .cells #[.int .i64 ((aA l0 j4).f0), .int .i64 ((aA l0 j4).f1), .int .i64 ((aA l0 j4).f2), .int .i64 jj, .int .i64 jl, .slice j7 ji.length j8, .slice j9 jg.length ja, .slice jb jh.length jc] 35 (0,0)) (aG_ j5.out) hg (Kd.yC j6.out (fun _ hk=>hk.2.2.2.2)));replace HB:=am (hb);have Z0:=am (ho);clear j6 jd je jf ho hb hg hat))
            go_roundg jD
            case measure=>have:=jB.out;have:=HJ7.out;have:=HJ33.out;omega
            case rel=>exact ⟨(Z8),(wrap64 (j4 + 1)),sd_,H',⟨by have:=jB.out;have:=HJ7.out;have:=HJ33.out;omega⟩,⟨eO (Kd.aG Z0.out (fun _ hk=>hk.1))⟩,⟨kR⟩⟩
           rw [if_neg Qg] at H
           exact absurd H (by simp)
          rw [if_neg qr] at H
          have qI:(((aA l0 j4).f0) == 3)=false:=beq_eq_false_iff_ne.mpr qr
          have qJ:(((aA l0 j4).f0) != 3)=true:=bne_iff_ne.mpr qr
          by_cases Qx:jk.length < 1256584717458
          ·rw [if_pos Qx] at H
           have qR:=am Qx
           clear Qx
           obtain ⟨Z9,hy_⟩:∃ y_:List (S35),y_=(jk ++ [(⟨((aA l0 j4).f0),((aA l0 j4).f1),((aA l0 j4).f2),(⟨jj,jl,ji⟩:S32),jg,jh⟩:S35)]):=⟨_,rfl⟩
           replace H:(aX.l0 jD Z9 l0 (l0.length:Int) (wrap64 (j4 + 1)))=some r:=rx_
           have Z1:=am hy_
           clear hy_
           have H':=am H
           clear H
           obtain ⟨Qy,Qz,QA,QB,QC,QD,QE,QF,QG,QH,QI,QJ,QK,QL,QM,QN⟩:=eU j5.out
           go_wp2_with (first|((with_reducible refine lI (b:= .append) (xs:=#[.tmp 29, .tmp 31]) rfl ?_);at_builtin;refine Kd.DZ k35 (w0:=w) w.heap.size rfl (.tmp 29) (.tmp 31) 23 35 (.agg #[(.int .i64 0),(.int .i64 0),(.int .i64 0),(.int .i64 0),(.int .i64 0),(.slice none 0 0),(.slice none 0 0),(.slice none 0 0)]) 112 rfl Try.underlying23 tQ rfl (by decide) (by omega) u3 jk (⟨((aA l0 j4).f0),((aA l0 j4).f1),((aA l0 j4).f2),(⟨jj,jl,ji⟩:S32),jg,jh⟩:S35) [.int .i64 ((aA l0 j4).f0), .int .i64 ((aA l0 j4).f1), .int .i64 ((aA l0 j4).f2), .int .i64 jj, .int .i64 jl, .slice j7 ji.length j8, .slice j9 jg.length ja, .slice jb jh.length jc] (fun k_=>(w.heap.size≤k_)∧k_≠j3) (fun k_=>((fun k_=>(w.heap.size≤k_)∧k_≠j3)) k_∧some k_≠(u3:Value).ownBlock) rfl rfl ?aP (fun _ hk=>hk) ?aF ?aO ?aB ?aS ?aL ?_;(case aP=>exact (kY _ _ (⟨((aA l0 j4).f0),((aA l0 j4).f1),((aA l0 j4).f2),(⟨jj,jl,ji⟩:S32),jg,jh⟩:S35) (Kd.bQ (Kd.aG (ok':=(fun k_=>((fun k_=>(w.heap.size≤k_)∧k_≠j3)) k_∧some k_≠(u3:Value).ownBlock)) (jd.out) (fun k_ hk=>⟨⟨hk.1,hk.2.2.2.2⟩,hk.2.1⟩))).2.1 (Kd.N_F (Kd.aG (ok':=(fun k_=>((fun k_=>(w.heap.size≤k_)∧k_≠j3)) k_∧some k_≠(u3:Value).ownBlock)) (jd.out) (fun k_ hk=>⟨⟨hk.1,hk.2.2.2.2⟩,hk.2.1⟩))) (Kd.bQ (Kd.aG (ok':=(fun k_=>((fun k_=>(w.heap.size≤k_)∧k_≠j3)) k_∧some k_≠(u3:Value).ownBlock)) (je.out) (fun k_ hk=>⟨⟨hk.1,hk.2.2.2.2⟩,hk.2.1⟩))).2.1 (Kd.N_F (Kd.aG (ok':=(fun k_=>((fun k_=>(w.heap.size≤k_)∧k_≠j3)) k_∧some k_≠(u3:Value).ownBlock)) (je.out) (fun k_ hk=>⟨⟨hk.1,hk.2.2.2.2⟩,hk.2.1⟩))) (Kd.bQ (Kd.aG (ok':=(fun k_=>((fun k_=>(w.heap.size≤k_)∧k_≠j3)) k_∧some k_≠(u3:Value).ownBlock)) (jf.out) (fun k_ hk=>⟨⟨hk.1,hk.2.2.2.2⟩,hk.2.1⟩))).2.1 (Kd.N_F (Kd.aG (ok':=(fun k_=>((fun k_=>(w.heap.size≤k_)∧k_≠j3)) k_∧some k_≠(u3:Value).ownBlock)) (jf.out) (fun k_ hk=>⟨⟨hk.1,hk.2.2.2.2⟩,hk.2.1⟩)))));(case aB=>exact kR);(case aF=>exact (fun k_ hk=>⟨(Nat.le_trans (aJ kR) hk),fJ j5.out k_ hk⟩));(case aO=>exact (eO (Kd.aG j6.out (fun _ hk=>⟨hk.1,hk.2.2.2.2⟩))));(case aS=>exact (aJ kR));(case aL=>have:=qR.out;omega);intro ZA ZB ho hb hg hat;rw [← Z1.out] at ho;replace j5:=am (gX (g:=j3) (o:= .cells #[.int .i64 ((aA l0 j4).f0), .int .i64 ((aA l0 j4).f1), .int .i64 ((aA l0 j4).f2), .int .i64 jj, .int .i64 jl, .slice j7 ji.length j8, .slice j9 jg.length ja, .slice jb jh.length jc] 35 (0,0)) (aG_ j5.out) hg (Kd.yC j6.out (fun _ hk=>hk.2.2.2.2)));replace HB:=am (hb);have Z2:=am (ho);clear j6 jd je jf ho hb hg hat))
           go_roundg jD
           case measure=>have:=jB.out;have:=HJ7.out;have:=HJ33.out;omega
           case rel=>exact ⟨(Z9),(wrap64 (j4 + 1)),sd_,H',⟨by have:=jB.out;have:=HJ7.out;have:=HJ33.out;omega⟩,⟨eO (Kd.aG Z2.out (fun _ hk=>hk.1))⟩,⟨kR⟩⟩
          rw [if_neg Qx] at H
          exact absurd H (by simp)
     rw [if_neg c4] at H
     exact absurd H (by simp)
    rw [if_neg c3] at H
    exact absurd H (by simp)
   rw [if_neg c2] at H
   have qg:decide (j4 < (l0.length:Int))=false:=decide_eq_false c2
   clear c2
   obtain rfl:=Option.some.inj H
   go_wp2
   go_ret
   exact ⟨_,iI,eO j6.out,fU⟩
theorem eZ.mono:∀ a0 k,LeO (eZ.f k a0) (eZ.f (k + 1) a0):=by
 intro a0 k
 unfold eZ.f
 have m0:=@gJ.mono
 have m1:=@aX.mono
 exact mo_
theorem eZ.calls (k:Nat) (A0:Option Addr) (c0:Nat) (l0:List (S35)) (r1:List (S35)) (r2:Bool) (w:World) (hr0:Kd.C k35 w A0 l0.length l0) (hc0:l0.length≤c0) (h:eZ.f k l0=some (r1,r2)):
  Calls Try.prog 13 #[.slice A0 l0.length c0] w fun e w'=>∃ v0_:Value,e= .returned (.tuple #[v0_, .bool r2])∧Kd.N k35 35 w' w.heap.size (fun k_=>(w.heap.size≤k_)) v0_ r1∧Below w.heap.size w w':=by
 have j3:=am hr0
 have j4:=am hc0
 clear hr0 hc0
 have HB:=am (Below.refl w.heap.size w)
 have H:((gJ.f k l0).bind fun j5=>(if j5=true then ((aX.f k l0).bind fun j6=>(some (j6,true))) else (some (([]:List (S35)),false))))=some (r1,r2):=h
 clear h
 obtain ⟨j5,A2,H⟩:=bsa H
 (try dsimp only at H)
 by_cases c3:j5=true
 ·subst c3
  rw [if_pos rfl] at H
  obtain ⟨j6,A4,H⟩:=bsa H
  (try dsimp only at H)
  simp only [Option.some.injEq,Prod.mk.injEq] at H
  obtain ⟨rfl,rfl⟩:=H
  go_enter Try.func13,Try.ntmps13
  go_wp2_with (first|((with_reducible refine aN (f:=17) rfl ?_);refine gl_ 5 Try.func17 #[.slice A0 l0.length c0] ?_;(with_reducible refine (gJ.calls k _ _ l0 true _ (aC_ j3.out) j4.out A2.out).mono ?_);rintro e w5 ⟨rfl,hb⟩;refine ⟨_,rfl,?_⟩;replace HB:=am (aD fU hb);(try clear hb))|((with_reducible refine aN (f:=46) rfl ?_);refine gl_ 8 Try.func46 #[.slice A0 l0.length c0] ?_;(with_reducible refine (aX.calls k _ _ l0 j6 _ (aC_ (Kd.aV j3.out HB.out)) j4.out A4.out).mono ?_);rintro e w6 ⟨j8,rfl,ho0,hb⟩;refine ⟨_,rfl,?_⟩;have j7:=am (Kd.dF (Kd.aG (ok':=fun k_=>(w.heap.size≤k_)) ho0 (fun k_ hk_=>(Nat.le_trans (aJ fU) hk_))) (aJ fU));replace HB:=am (aD fU hb);(try clear hb);(try clear ho0)))
  go_ret2
  exact ⟨_,iI,eO j7.out,fU⟩
 replace c3:=Bool.eq_false_iff.mpr c3
 subst c3
 rw [if_neg (show ¬ (false=true) by decide)] at H
 simp only [Option.some.injEq,Prod.mk.injEq] at H
 obtain ⟨rfl,rfl⟩:=H
 go_enter Try.func13,Try.ntmps13
 go_wp2_with (first|((with_reducible refine aN (f:=17) rfl ?_);refine gl_ 5 Try.func17 #[.slice A0 l0.length c0] ?_;(with_reducible refine (gJ.calls k _ _ l0 false _ (aC_ j3.out) j4.out A2.out).mono ?_);rintro e w7 ⟨rfl,hb⟩;refine ⟨_,rfl,?_⟩;replace HB:=am (aD fU hb);(try clear hb)))
 go_ret2
 exact ⟨_,iI,by first|exact Kd.oC _ _ _ _ _|exact Kd.sG _ _ _ _ _|exact Kd.sK _ _ _ _ _|exact Kd.sH _ _ _ _ _|exact Kd.sI _ _ _ _ _,fU⟩
theorem bI.mono_l:∀ k,(∀ y0 y1 y2 y3 y4 y5,LeO (bI.f k y0 y1 y2 y3 y4 y5) (bI.f (k + 1) y0 y1 y2 y3 y4 y5))∧(∀ y0 y1 y2 y3 y4 y5 y6,LeO (bI.j0 k y0 y1 y2 y3 y4 y5 y6) (bI.j0 (k + 1) y0 y1 y2 y3 y4 y5 y6))∧(∀ y0 y1 y2 y3 y4 y5 y6,LeO (bI.l0 k y0 y1 y2 y3 y4 y5 y6) (bI.l0 (k + 1) y0 y1 y2 y3 y4 y5 y6))
 |0=>⟨fun _ _ _ _ _ _ r h=>by simp [bI.f] at h,fun _ _ _ _ _ _ _ r h=>by simp [bI.j0] at h,fun _ _ _ _ _ _ _ r h=>by simp [bI.l0] at h⟩
 |k + 1=>by
  obtain ⟨ih0,ih1,ih2⟩:=bI.mono_l k
  refine ⟨?_,?_,?_⟩
  ·intro y0 y1 y2 y3 y4 y5
   unfold bI.f
   exact mo_
  ·intro y0 y1 y2 y3 y4 y5 y6
   unfold bI.j0
   exact mo_
  ·intro y0 y1 y2 y3 y4 y5 y6
   unfold bI.l0
   exact mo_
theorem bI.mono:∀ a0 a1 a2 a3 a4 a5 k,LeO (bI.f k a0 a1 a2 a3 a4 a5) (bI.f (k + 1) a0 a1 a2 a3 a4 a5):=by
 intro a0 a1 a2 a3 a4 a5 k
 obtain ⟨ih0,ih1,ih2⟩:=bI.mono_l k
 exact ih0 a0 a1 a2 a3 a4 a5
def bI.T6:Bool × List (List Nat × List Nat):=(true,[([],[]),([0],[0]),([],[]),([1,2],[1,2]),([3],[3]),([],[]),([5],[5]),([],[]),([6,7],[6,7]),([8],[8]),([4,9],[4,9]),([10],[10])])
def bI.B6:List Nat:=[0,1,0,7,15,0,32,0,224,480,1023,2047]
theorem bI.CF:lC .any (opsOf Try.f49 6)=bI.T6:=by kernel_rfl
theorem bI.uY:iJ bI.T6.2 bI.B6=true:=by kernel_rfl
theorem bI.calls (k:Nat):∀ (je:Int) (jf:Int) (jz:Option Addr) (jq:Nat) (j4:List (S32)) (jg:Int) (jh:Int) (jA:Option Addr) (jr:Nat) (j5:List (S32)) (r:Bool) (w:World) (hr0_2:Kd.C k32 w jz j4.length j4) (hc0_2:j4.length≤jq) (hr1_2:Kd.C k32 w jA j5.length j5) (hc1_2:j5.length≤jr) (h:bI.f k je jf j4 jg jh j5=some r),
  Calls Try.prog 49 #[.agg #[.int .i64 je, .int .i64 jf, .slice jz j4.length jq], .agg #[.int .i64 jg, .int .i64 jh, .slice jA j5.length jr]] w fun e w'=>e= .returned (.bool r)∧Below w.heap.size w w':=by
 induction k using Nat.strongRecOn with
 | _ k ih=>
 intro je jf jz jq j4 jg jh jA jr j5 r w hr0_2 hc0_2 hr1_2 hc1_2 h
 cases k with
 |zero=>exact absurd h (by simp [bI.f])
 |succ k=>
 simp only [bI.f] at h
 have hu32:=Try.underlying32
 have jC:=am hr0_2
 have qN:=am hc0_2
 clear hr0_2 hc0_2
 have jD:=am hr1_2
 have qO:=am hc1_2
 clear hr1_2 hc1_2
 have HB:=am (Below.refl w.heap.size w)
 have H:(if je=jg then (if jf=jh then (bI.j0 k ((j4.length:Int) != (j5.length:Int)) je jf j4 jg jh j5) else (bI.j0 k true je jf j4 jg jh j5)) else (bI.j0 k true je jf j4 jg jh j5))=some r:=h
 clear h
 have qB:=am H
 clear H
 go_enter Try.func49,Try.ntmps49
 go_upto_region 1 with (first|((with_reducible refine cZ (N:=2) rfl ?_);(try (refine kK (by rfl) ?_;dsimp only));refine dO rfl (N:=2) rfl (cs:=#[.int .i64 je, .int .i64 jf, .slice jz j4.length jq]) (t:=32) rn_ ?_;intro jm hg w4 hbox hb;have j6:=am (hbox);have z4:=am ((by rw [hg];exact (aJ fU):w.heap.size≤jm));have GE33:=am ((by rw [hg];exact (aJ fU):w.heap.size≤jm));replace HB:=am (aD fU hb);clear hb hbox hg)|((with_reducible refine cZ (N:=3) rfl ?_);(try (refine kK (by rfl) ?_;dsimp only));refine dO rfl (N:=3) rfl (cs:=#[.int .i64 jg, .int .i64 jh, .slice jA j5.length jr]) (t:=32) rn_ ?_;intro jn hg w5 hbox hb;have j7:=am (hbox);have z5:=am ((by rw [hg];exact (aJ MW):w.heap.size≤jn));have GE46:=am ((by rw [hg];exact (aJ MW):w.heap.size≤jn));replace HB:=am (aD MW hb);have ji:=am ((by rw [hg];exact Nat.ne_of_lt (gN j6.out):jm≠jn));have jj:=am ((by rw [hg];exact Nat.ne_of_gt (gN j6.out):jn≠jm));replace j6:=bbP j6 hb;clear hb hbox hg))
 (try simp only [Act.put,List.setIfInBounds_toArray,List.set_cons_zero,List.set_cons_succ])
 go_cut [26] (fun z6 wc=>∃ (kq:Nat) (jy:Bool),z6= .bool jy∧Aside0 (bI.j0 kq jy je jf j4 jg jh j5=some r)∧Aside0 (kq≤k)∧Aside0 (wc.heap[jm]?=some (.cells #[.int .i64 je, .int .i64 jf,(.slice jz j4.length jq)] 32 (0,0)))∧Aside0 (wc.heap[jn]?=some (.cells #[.int .i64 jg, .int .i64 jh,(.slice jA j5.length jr)] 32 (0,0)))∧Aside0 (Below w.heap.size w wc))
 case first=>
  have H:=qB.out
  clear qB
  by_cases c6:je=jg
  ·rw [if_pos c6] at H
   have jB:(je == jg)=true:=beq_iff_eq.mpr c6
   have qC:(je != jg)=false:=bne_eq_false_iff_eq.mpr c6
   clear c6
   (first|rw [jB]|(simp only [dN,dU];rw [jB])|skip)
   by_cases c7:jf=jh
   ·rw [if_pos c7] at H
    have qD:(jf == jh)=true:=beq_iff_eq.mpr c7
    have qE:(jf != jh)=false:=bne_eq_false_iff_eq.mpr c7
    clear c7
    have H':=am H
    clear H
    have z7:=ji.out
    have z8:=jj.out
    obtain ⟨qF,qG,qH,qI,qJ,qK⟩:=gF j6.out
    obtain ⟨jL,jM,jN,jO,jP,jQ⟩:=gF j7.out
    go_wp2
    go_meet
    case rel=>exact ⟨_,(((j4.length:Int) != (j5.length:Int))),sd_,H',⟨by first|omega|exact Nat.le_refl _⟩,⟨by (with_reducible repeat (first|refine dI ?_ _|refine bK ?_|refine bY ?_ _));exact j6.out⟩,⟨by (with_reducible repeat (first|refine dI ?_ _|refine bK ?_|refine bY ?_ _));exact j7.out⟩,⟨xP⟩⟩
   rw [if_neg c7] at H
   have qD:(jf == jh)=false:=beq_eq_false_iff_ne.mpr c7
   have qE:(jf != jh)=true:=bne_iff_ne.mpr c7
   have H':=am H
   clear H
   have qP:=ji.out
   have qQ:=jj.out
   obtain ⟨jR,jS,jT,jU,jV,jW⟩:=gF j6.out
   obtain ⟨jX,jY,jZ,q0,q1,q2⟩:=gF j7.out
   go_wp2
   go_meet
   case rel=>exact ⟨_,(true),sd_,H',⟨by first|omega|exact Nat.le_refl _⟩,⟨by (with_reducible repeat (first|refine dI ?_ _|refine bK ?_|refine bY ?_ _));exact j6.out⟩,⟨by (with_reducible repeat (first|refine dI ?_ _|refine bK ?_|refine bY ?_ _));exact j7.out⟩,⟨xP⟩⟩
  rw [if_neg c6] at H
  have jB:(je == jg)=false:=beq_eq_false_iff_ne.mpr c6
  have qC:(je != jg)=true:=bne_iff_ne.mpr c6
  (first|rw [jB]|(simp only [dN,dU];rw [jB])|skip)
  have H':=am H
  clear H
  have qR:=ji.out
  have qS:=jj.out
  obtain ⟨q3,q4,q5,q6,q7,q8⟩:=gF j6.out
  obtain ⟨q9,qa,qb,qc,qd,qe⟩:=gF j7.out
  go_wp2
  go_meet
  case rel=>exact ⟨_,(true),sd_,H',⟨by first|omega|exact Nat.le_refl _⟩,⟨by (with_reducible repeat (first|refine dI ?_ _|refine bK ?_|refine bY ?_ _));exact j6.out⟩,⟨by (with_reducible repeat (first|refine dI ?_ _|refine bK ?_|refine bY ?_ _));exact j7.out⟩,⟨xP⟩⟩
 case rest=>
  clear qB
  obtain ⟨kq,jy,rfl,HA,HJ2,j6,j7,HB⟩:=hcut
  cases kq with
  |zero=>exact absurd HA.out (by simp [bI.j0])
  |succ qT=>
   have H:=HA.out
   clear HA
   simp only [bI.j0] at H
   by_cases jJ:jy=true
   ·subst jJ
    rw [if_pos rfl] at H
    obtain rfl:=Option.some.inj H
    go_wp2
    go_ret
    exact ⟨rr_,xP⟩
   replace jJ:=Bool.eq_false_iff.mpr jJ
   subst jJ
   rw [if_neg (show ¬ (false=true) by decide)] at H
   have H':=am H
   clear H
   go_wp2
   go_loopg [5] qT (fun kq v5 w'=>∃ (j3:Int),v5= .int .i64 j3∧Aside0 (bI.l0 kq j3 je jf j4 jg jh j5=some r)∧Aside0 (kq≤qT)∧Aside0 (w'.heap[jm]?=some (.cells #[.int .i64 je, .int .i64 jf,(.slice jz j4.length jq)] 32 (0,0)))∧Aside0 (w'.heap[jn]?=some (.cells #[.int .i64 jg, .int .i64 jh,(.slice jA j5.length jr)] 32 (0,0)))∧Aside0 (Below w.heap.size w w'))
   case atStart=>exact ⟨(0),sd_,H',⟨Nat.le_refl _⟩,⟨by (with_reducible repeat (first|refine dI ?_ _|refine bK ?_|refine bY ?_ _));exact j6.out⟩,⟨by (with_reducible repeat (first|refine dI ?_ _|refine bK ?_|refine bY ?_ _));exact j7.out⟩,⟨xP⟩⟩
   case round=>
    clear H'
    try clear jJ
    obtain ⟨j3,rfl,HA,qf,j6,j7,HB⟩:=hrel
    cases gk with
    |zero=>exact absurd HA.out (by simp [bI.l0])
    |succ k2=>
     have H:=HA.out
     clear HA
     simp only [bI.l0] at H
     by_cases jI:j3 < (j4.length:Int)
     ·rw [if_pos jI] at H
      have jK:decide (j3 < (j4.length:Int))=true:=decide_eq_true jI
      clear jI
      by_cases qg:0≤j3
      ·rw [if_pos qg] at H
       have qU:decide (0≤j3)=true:=decide_eq_true qg
       clear qg
       by_cases qh:j3 < (j5.length:Int)
       ·rw [if_pos qh] at H
        have qV:decide (j3 < (j5.length:Int))=true:=decide_eq_true qh
        clear qh
        obtain ⟨z9,qW,H⟩:=bsm H
        (try dsimp only at H)
        have qX:=am qW
        clear qW
        by_cases qi:z9=true
        ·subst qi
         rw [if_pos rfl] at H
         have H':=am H
         clear H
         have qY:=ji.out
         have qZ:=jj.out
         obtain ⟨qj,qk,ql,qm,qn,qo⟩:=gF j6.out
         try go_wp2
         replace j6:=am (bK j6.out)
         replace j7:=am (bK j7.out)
         replace HB:=am (bG HB.out)
         have jE:0≤(j3:Int):=of_decide_eq_true fV
         have jF:j3 < (j4.length:Int):=of_decide_eq_true fV
         obtain ⟨jk,js,jt,qL,j8,j9,ja,hl50_2,hi50_2⟩:=rC jC.out j3 jE jF
         have hw50_2:=ja
         have hw50_1:=j9
         have hw50_0:=j8
         cases qL
         replace j8:=(HB.out.cell (World.block_lt_of_cell? w _ j8)).trans j8
         replace j9:=(HB.out.cell (World.block_lt_of_cell? w _ j9)).trans j9
         replace ja:=(HB.out.cell (World.block_lt_of_cell? w _ ja)).trans ja
         have jo:=am hi50_2
         have jw:=am hl50_2
         clear hi50_2 hl50_2
         replace jE:=eq_true jE
         replace jF:=eq_true jF
         have jG:0≤(j3:Int):=of_decide_eq_true fV
         have jH:j3 < (j5.length:Int):=of_decide_eq_true fV
         obtain ⟨jl,ju,jv,qM,jb,jc,jd,hl51_2,hi51_2⟩:=rC jD.out j3 jG jH
         have hw51_2:=jd
         have hw51_1:=jc
         have hw51_0:=jb
         cases qM
         replace jb:=(HB.out.cell (World.block_lt_of_cell? w _ jb)).trans jb
         replace jc:=(HB.out.cell (World.block_lt_of_cell? w _ jc)).trans jc
         replace jd:=(HB.out.cell (World.block_lt_of_cell? w _ jd)).trans jd
         have jp:=am hi51_2
         have jx:=am hl51_2
         clear hi51_2 hl51_2
         replace jG:=eq_true jG
         replace jH:=eq_true jH
         refine lK (n:=12) (S:=fun w'=>w'.cell? ⟨jm,0,none⟩=some (.int .i64 je)∧w'.cell? ⟨jm,1,none⟩=some (.int .i64 jf)∧w'.cell? ⟨jm,2,none⟩=some (.slice (some jk) j4.length jq)∧w'.cell? ⟨jn,0,none⟩=some (.int .i64 jg)∧w'.cell? ⟨jn,1,none⟩=some (.int .i64 jh)∧w'.cell? ⟨jn,2,none⟩=some (.slice (some jl) j5.length jr)∧w'.cell? (jk.add ((j3).toNat * 3))=some (.int .i64 ((aY j4 j3).f0))∧w'.cell? ⟨(jk.add ((j3).toNat * 3)).block,(jk.add ((j3).toNat * 3)).off + 1,none⟩=some (.int .i64 ((aY j4 j3).f1))∧w'.cell? ⟨(jk.add ((j3).toNat * 3)).block,(jk.add ((j3).toNat * 3)).off + 2,none⟩=some (.slice js ((aY j4 j3).f2).length jt)∧w'.cell? (jl.add ((j3).toNat * 3))=some (.int .i64 ((aY j5 j3).f0))∧w'.cell? ⟨(jl.add ((j3).toNat * 3)).block,(jl.add ((j3).toNat * 3)).off + 1,none⟩=some (.int .i64 ((aY j5 j3).f1))∧w'.cell? ⟨(jl.add ((j3).toNat * 3)).block,(jl.add ((j3).toNat * 3)).off + 2,none⟩=some (.slice ju ((aY j5 j3).f2).length jv)) (ds:=[]) (bz 12 0) (by kernel_rfl) rfl rfl ⟨(aC j6.out 0).trans rfl,(aC j6.out 1).trans rfl,(aC j6.out 2).trans rfl,(aC j7.out 0).trans rfl,(aC j7.out 1).trans rfl,(aC j7.out 2).trans rfl,((HB.out.cell (World.block_lt_of_cell? w _ hw50_0)).trans hw50_0),((HB.out.cell (World.block_lt_of_cell? w _ hw50_1)).trans hw50_1),((HB.out.cell (World.block_lt_of_cell? w _ hw50_2)).trans hw50_2),((HB.out.cell (World.block_lt_of_cell? w _ hw51_0)).trans hw51_0),((HB.out.cell (World.block_lt_of_cell? w _ hw51_1)).trans hw51_1),((HB.out.cell (World.block_lt_of_cell? w _ hw51_2)).trans hw51_2)⟩ (fun hHeld=>?_);refine iF bI.CF bI.uY (fun HT_ HW_=>?_)
         generalize wr.drew=za at j6 j7 HB jo jp j8 j9 ja jb jc jd hHeld ⊢
         refine pr_ 0 34 (bz 12 1) HT_ ?_
         refine pr_ 2 36 (bz 12 5) HT_ ?_
         refine pr_ 5 39 (bz 12 37) HT_ ?_
         refine pr_ 7 41 (bz 12 165) HT_ ?_
         refine DK 1 35 (bz 12 167) HT_ HW_ hHeld ?_
         refine pr_ 3 37 (bz 12 175) HT_ ?_
         refine DK 4 38 (bz 12 191) HT_ HW_ hHeld ?_
         refine DK 6 40 (bz 12 255) HT_ HW_ hHeld ?_
         refine pr_ 8 42 (bz 12 511) HT_ ?_
         refine DK 9 43 (bz 12 1023) HT_ HW_ hHeld ?_
         refine kN (i:=10) (N:=some 44) (bz 12 2047) rfl rfl (fQ HT_.out (by kernel_rfl)) (by decide) (fun K hK=>?_)
         refine iP Try.func49 (by kernel_rfl) rfl #[.agg #[.int .i64 ((aY j4 j3).f0), .int .i64 ((aY j4 j3).f1), .slice js ((aY j4 j3).f2).length jt], .agg #[.int .i64 ((aY j5 j3).f0), .int .i64 ((aY j5 j3).f1), .slice ju ((aY j5 j3).f2).length jv]] (by rfl) rfl rfl mO ?_
         with_reducible refine (ih k2 (by have:=HJ2.out;have:=qf.out;omega) ((aY j4 j3).f0) ((aY j4 j3).f1) _ _ ((aY j4 j3).f2) ((aY j5 j3).f0) ((aY j5 j3).f1) _ _ ((aY j5 j3).f2) true _ (aC_ (Kd.aV jo.out HB.out)) jw.out (aC_ (Kd.aV jp.out HB.out)) jx.out qX.out).mono ?_
         rintro e zb ⟨rfl,hb⟩
         refine ⟨_,rfl,?_⟩
         replace j6:=bbP j6 hb
         replace j7:=bbP j7 hb
         replace HB:=am (aD xP hb)
         (try clear hb)
         (try clear hb2)
         (try clear hk)
         (try clear hi)
         refine hK.out _ _ ⟨(aC j6.out 0).trans rfl,(aC j6.out 1).trans rfl,(aC j6.out 2).trans rfl,(aC j7.out 0).trans rfl,(aC j7.out 1).trans rfl,(aC j7.out 2).trans rfl,((HB.out.cell (World.block_lt_of_cell? w _ hw50_0)).trans hw50_0),((HB.out.cell (World.block_lt_of_cell? w _ hw50_1)).trans hw50_1),((HB.out.cell (World.block_lt_of_cell? w _ hw50_2)).trans hw50_2),((HB.out.cell (World.block_lt_of_cell? w _ hw51_0)).trans hw51_0),((HB.out.cell (World.block_lt_of_cell? w _ hw51_1)).trans hw51_1),((HB.out.cell (World.block_lt_of_cell? w _ hw51_2)).trans hw51_2)⟩ (fun hHeld=>?_)
         clear hK K
         refine eT (a':=?_) ?_ ?_
         rotate_left
         ·show Act.put _ (some 44) _=_
          simp only [Act.put,List.setIfInBounds_toArray,List.set_cons_zero,List.set_cons_succ,dN,dU]
          rfl
         refine pr_ 11 45 (bz 12 4095) HT_ ?_
         refine nN (kQ HT_.out (by kernel_rfl)) ?_
         try go_wp2
         go_roundg k2
         case measure=>have:=HJ2.out;have:=qf.out;omega
         case rel=>exact ⟨(wrap64 (j3 + 1)),sd_,H',⟨by have:=HJ2.out;have:=qf.out;omega⟩,⟨by (with_reducible repeat (first|refine dI ?_ _|refine bK ?_|refine bY ?_ _));exact j6.out⟩,⟨by (with_reducible repeat (first|refine dI ?_ _|refine bK ?_|refine bY ?_ _));exact j7.out⟩,⟨xP⟩⟩
        replace qi:=Bool.eq_false_iff.mpr qi
        subst qi
        rw [if_neg (show ¬ (false=true) by decide)] at H
        obtain rfl:=Option.some.inj H
        have z0:=ji.out
        have z1:=jj.out
        obtain ⟨qp,qq,qr,qs,qt,qu⟩:=gF j6.out
        try go_wp2
        replace j6:=am (bK j6.out)
        replace j7:=am (bK j7.out)
        replace HB:=am (bG HB.out)
        have jE:0≤(j3:Int):=of_decide_eq_true fV
        have jF:j3 < (j4.length:Int):=of_decide_eq_true fV
        obtain ⟨jk,js,jt,qL,j8,j9,ja,hl50_2,hi50_2⟩:=rC jC.out j3 jE jF
        have hw50_2:=ja
        have hw50_1:=j9
        have hw50_0:=j8
        cases qL
        replace j8:=(HB.out.cell (World.block_lt_of_cell? w _ j8)).trans j8
        replace j9:=(HB.out.cell (World.block_lt_of_cell? w _ j9)).trans j9
        replace ja:=(HB.out.cell (World.block_lt_of_cell? w _ ja)).trans ja
        have jo:=am hi50_2
        have jw:=am hl50_2
        clear hi50_2 hl50_2
        replace jE:=eq_true jE
        replace jF:=eq_true jF
        have jG:0≤(j3:Int):=of_decide_eq_true fV
        have jH:j3 < (j5.length:Int):=of_decide_eq_true fV
        obtain ⟨jl,ju,jv,qM,jb,jc,jd,hl51_2,hi51_2⟩:=rC jD.out j3 jG jH
        have hw51_2:=jd
        have hw51_1:=jc
        have hw51_0:=jb
        cases qM
        replace jb:=(HB.out.cell (World.block_lt_of_cell? w _ jb)).trans jb
        replace jc:=(HB.out.cell (World.block_lt_of_cell? w _ jc)).trans jc
        replace jd:=(HB.out.cell (World.block_lt_of_cell? w _ jd)).trans jd
        have jp:=am hi51_2
        have jx:=am hl51_2
        clear hi51_2 hl51_2
        replace jG:=eq_true jG
        replace jH:=eq_true jH
        refine lK (n:=12) (S:=fun w'=>w'.cell? ⟨jm,0,none⟩=some (.int .i64 je)∧w'.cell? ⟨jm,1,none⟩=some (.int .i64 jf)∧w'.cell? ⟨jm,2,none⟩=some (.slice (some jk) j4.length jq)∧w'.cell? ⟨jn,0,none⟩=some (.int .i64 jg)∧w'.cell? ⟨jn,1,none⟩=some (.int .i64 jh)∧w'.cell? ⟨jn,2,none⟩=some (.slice (some jl) j5.length jr)∧w'.cell? (jk.add ((j3).toNat * 3))=some (.int .i64 ((aY j4 j3).f0))∧w'.cell? ⟨(jk.add ((j3).toNat * 3)).block,(jk.add ((j3).toNat * 3)).off + 1,none⟩=some (.int .i64 ((aY j4 j3).f1))∧w'.cell? ⟨(jk.add ((j3).toNat * 3)).block,(jk.add ((j3).toNat * 3)).off + 2,none⟩=some (.slice js ((aY j4 j3).f2).length jt)∧w'.cell? (jl.add ((j3).toNat * 3))=some (.int .i64 ((aY j5 j3).f0))∧w'.cell? ⟨(jl.add ((j3).toNat * 3)).block,(jl.add ((j3).toNat * 3)).off + 1,none⟩=some (.int .i64 ((aY j5 j3).f1))∧w'.cell? ⟨(jl.add ((j3).toNat * 3)).block,(jl.add ((j3).toNat * 3)).off + 2,none⟩=some (.slice ju ((aY j5 j3).f2).length jv)) (ds:=[]) (bz 12 0) (by kernel_rfl) rfl rfl ⟨(aC j6.out 0).trans rfl,(aC j6.out 1).trans rfl,(aC j6.out 2).trans rfl,(aC j7.out 0).trans rfl,(aC j7.out 1).trans rfl,(aC j7.out 2).trans rfl,((HB.out.cell (World.block_lt_of_cell? w _ hw50_0)).trans hw50_0),((HB.out.cell (World.block_lt_of_cell? w _ hw50_1)).trans hw50_1),((HB.out.cell (World.block_lt_of_cell? w _ hw50_2)).trans hw50_2),((HB.out.cell (World.block_lt_of_cell? w _ hw51_0)).trans hw51_0),((HB.out.cell (World.block_lt_of_cell? w _ hw51_1)).trans hw51_1),((HB.out.cell (World.block_lt_of_cell? w _ hw51_2)).trans hw51_2)⟩ (fun hHeld=>?_);refine iF bI.CF bI.uY (fun HT_ HW_=>?_)
        generalize wr.drew=zc at j6 j7 HB jo jp j8 j9 ja jb jc jd hHeld ⊢
        refine pr_ 0 34 (bz 12 1) HT_ ?_
        refine pr_ 2 36 (bz 12 5) HT_ ?_
        refine pr_ 5 39 (bz 12 37) HT_ ?_
        refine pr_ 7 41 (bz 12 165) HT_ ?_
        refine DK 1 35 (bz 12 167) HT_ HW_ hHeld ?_
        refine pr_ 3 37 (bz 12 175) HT_ ?_
        refine DK 4 38 (bz 12 191) HT_ HW_ hHeld ?_
        refine DK 6 40 (bz 12 255) HT_ HW_ hHeld ?_
        refine pr_ 8 42 (bz 12 511) HT_ ?_
        refine DK 9 43 (bz 12 1023) HT_ HW_ hHeld ?_
        refine kN (i:=10) (N:=some 44) (bz 12 2047) rfl rfl (fQ HT_.out (by kernel_rfl)) (by decide) (fun K hK=>?_)
        refine iP Try.func49 (by kernel_rfl) rfl #[.agg #[.int .i64 ((aY j4 j3).f0), .int .i64 ((aY j4 j3).f1), .slice js ((aY j4 j3).f2).length jt], .agg #[.int .i64 ((aY j5 j3).f0), .int .i64 ((aY j5 j3).f1), .slice ju ((aY j5 j3).f2).length jv]] (by rfl) rfl rfl mO ?_
        with_reducible refine (ih k2 (by have:=HJ2.out;have:=qf.out;omega) ((aY j4 j3).f0) ((aY j4 j3).f1) _ _ ((aY j4 j3).f2) ((aY j5 j3).f0) ((aY j5 j3).f1) _ _ ((aY j5 j3).f2) false _ (aC_ (Kd.aV jo.out HB.out)) jw.out (aC_ (Kd.aV jp.out HB.out)) jx.out qX.out).mono ?_
        rintro e zd ⟨rfl,hb⟩
        refine ⟨_,rfl,?_⟩
        replace j6:=bbP j6 hb
        replace j7:=bbP j7 hb
        replace HB:=am (aD xP hb)
        (try clear hb)
        (try clear hb2)
        (try clear hk)
        (try clear hi)
        refine hK.out _ _ ⟨(aC j6.out 0).trans rfl,(aC j6.out 1).trans rfl,(aC j6.out 2).trans rfl,(aC j7.out 0).trans rfl,(aC j7.out 1).trans rfl,(aC j7.out 2).trans rfl,((HB.out.cell (World.block_lt_of_cell? w _ hw50_0)).trans hw50_0),((HB.out.cell (World.block_lt_of_cell? w _ hw50_1)).trans hw50_1),((HB.out.cell (World.block_lt_of_cell? w _ hw50_2)).trans hw50_2),((HB.out.cell (World.block_lt_of_cell? w _ hw51_0)).trans hw51_0),((HB.out.cell (World.block_lt_of_cell? w _ hw51_1)).trans hw51_1),((HB.out.cell (World.block_lt_of_cell? w _ hw51_2)).trans hw51_2)⟩ (fun hHeld=>?_)
        clear hK K
        refine eT (a':=?_) ?_ ?_
        rotate_left
        ·show Act.put _ (some 44) _=_
         simp only [Act.put,List.setIfInBounds_toArray,List.set_cons_zero,List.set_cons_succ,dN,dU]
         rfl
        refine pr_ 11 45 (bz 12 4095) HT_ ?_
        refine nN (kQ HT_.out (by kernel_rfl)) ?_
        try go_wp2
        go_ret
        exact ⟨rr_,xP⟩
       rw [if_neg qh] at H
       exact absurd H (by simp)
      rw [if_neg qg] at H
      exact absurd H (by simp)
     rw [if_neg jI] at H
     have jK:decide (j3 < (j4.length:Int))=false:=decide_eq_false jI
     clear jI
     obtain rfl:=Option.some.inj H
     have z2:=ji.out
     have z3:=jj.out
     obtain ⟨qv,qw,qx,qy,qz,qA⟩:=gF j6.out
     go_wp2
     go_ret
     exact ⟨rr_,xP⟩
theorem bF.mono_l:∀ k,(∀ y0 y1,LeO (bF.f k y0 y1) (bF.f (k + 1) y0 y1))∧(∀ y0 y1 y2,LeO (bF.l0 k y0 y1 y2) (bF.l0 (k + 1) y0 y1 y2))∧(∀ y0 y1 y2 y3 y4 y5 y6 y7 y8 y9 j3 j4 j5 j6 j7 j8 j9 ja jb jc,LeO (bF.j1 k y0 y1 y2 y3 y4 y5 y6 y7 y8 y9 j3 j4 j5 j6 j7 j8 j9 ja jb jc) (bF.j1 (k + 1) y0 y1 y2 y3 y4 y5 y6 y7 y8 y9 j3 j4 j5 j6 j7 j8 j9 ja jb jc))
 |0=>⟨fun _ _ r h=>by simp [bF.f] at h,fun _ _ _ r h=>by simp [bF.l0] at h,fun _ _ _ _ _ _ _ _ _ _ _ _ _ _ _ _ _ _ _ _ r h=>by simp [bF.j1] at h⟩
 |k + 1=>by
  obtain ⟨ih0,ih1,ih2⟩:=bF.mono_l k
  refine ⟨?_,?_,?_⟩
  ·intro y0 y1
   unfold bF.f
   have m0:=@bI.mono
   exact mo_
  ·intro y0 y1 y2
   unfold bF.l0
   have m0:=@bI.mono
   exact mo_
  ·intro y0 y1 y2 y3 y4 y5 y6 y7 y8 y9 j3 j4 j5 j6 j7 j8 j9 ja jb jc
   unfold bF.j1
   have m0:=@bI.mono
   exact mo_
theorem bF.mono:∀ a0 a1 k,LeO (bF.f k a0 a1) (bF.f (k + 1) a0 a1):=by
 intro a0 a1 k
 obtain ⟨ih0,ih1,ih2⟩:=bF.mono_l k
 exact ih0 a0 a1
theorem bF.calls (k:Nat):∀ (A0:Option Addr) (c0:Nat) (l0:List (S35)) (A1:Option Addr) (c1:Nat) (l1:List (S35)) (r:Bool) (w:World) (hr0:Kd.C k35 w A0 l0.length l0) (hc0:l0.length≤c0) (hr1:Kd.C k35 w A1 l1.length l1) (hc1:l1.length≤c1) (h:bF.f k l0 l1=some r),
  Calls Try.prog 15 #[.slice A0 l0.length c0, .slice A1 l1.length c1] w fun e w'=>e= .returned (.bool r)∧Below w.heap.size w w':=by
 induction k using Nat.strongRecOn with
 | _ k ih=>
 intro A0 c0 l0 A1 c1 l1 r w hr0 hc0 hr1 hc1 h
 cases k with
 |zero=>exact absurd h (by simp [bF.f])
 |succ k=>
 simp only [bF.f] at h
 have hu35:=Try.underlying35
 have hu32:=Try.underlying32
 have YT:=am hr0
 have U2:=am hc0
 clear hr0 hc0
 have YU:=am hr1
 have U3:=am hc1
 clear hr1 hc1
 have HB:=am (Below.refl w.heap.size w)
 have H:(if (l0.length:Int)=(l1.length:Int) then (bF.l0 k l0 l1 0) else (some false))=some r:=h
 clear h
 by_cases c3:(l0.length:Int)=(l1.length:Int)
 ·rw [if_pos c3] at H
  have q6:((l0.length:Int) == (l1.length:Int))=true:=beq_iff_eq.mpr c3
  have q7:((l0.length:Int) != (l1.length:Int))=false:=bne_eq_false_iff_eq.mpr c3
  have q8:(l0.length == l1.length)=true:=by first|simpa using c3|(simp at c3 ⊢;omega)
  clear c3
  have H':=am H
  clear H
  go_enter Try.func15,Try.ntmps15
  go_wp2
  go_loopg [5] k (fun kq v5 w'=>∃ (j3:Int),v5= .int .i64 j3∧Aside0 (bF.l0 kq l0 l1 j3=some r)∧Aside0 (kq≤k)∧Aside0 (Below w.heap.size w w'))
  case atStart=>exact ⟨(0),sd_,H',⟨Nat.le_refl _⟩,⟨fU⟩⟩
  case round=>
   clear H'
   try clear c1
   try clear c3
   try clear q6
   try clear q7
   try clear q8
   obtain ⟨j3,rfl,HA,jH,HB⟩:=hrel
   cases gk with
   |zero=>exact absurd HA.out (by simp [bF.l0])
   |succ k1=>
    have H:=HA.out
    clear HA
    simp only [bF.l0] at H
    by_cases c4:j3 < (l0.length:Int)
    ·rw [if_pos c4] at H
     have qE:decide (j3 < (l0.length:Int))=true:=decide_eq_true c4
     clear c4
     by_cases c5:0≤j3
     ·rw [if_pos c5] at H
      have Yv:decide (0≤j3)=true:=decide_eq_true c5
      clear c5
      by_cases c6:j3 < (l1.length:Int)
      ·rw [if_pos c6] at H
       have Yw:decide (j3 < (l1.length:Int))=true:=decide_eq_true c6
       clear c6
       have Yx:=am H
       clear H
       have qK:0≤(j3:Int):=of_decide_eq_true fV
       have qL:j3 < (l0.length:Int):=of_decide_eq_true fV
       obtain ⟨YV,jk,jl,jb,jc,jm,jn,YW,jo,jp,jq,jr,js,jt,ju,jv,hl54_5,hi54_5,hl54_6,hi54_6,hl54_7,hi54_7⟩:=uU YT.out j3 qK qL
       cases YW
       replace jo:=(HB.out.cell (World.block_lt_of_cell? w _ jo)).trans jo
       replace jp:=(HB.out.cell (World.block_lt_of_cell? w _ jp)).trans jp
       replace jq:=(HB.out.cell (World.block_lt_of_cell? w _ jq)).trans jq
       replace jr:=(HB.out.cell (World.block_lt_of_cell? w _ jr)).trans jr
       replace js:=(HB.out.cell (World.block_lt_of_cell? w _ js)).trans js
       replace jt:=(HB.out.cell (World.block_lt_of_cell? w _ jt)).trans jt
       replace ju:=(HB.out.cell (World.block_lt_of_cell? w _ ju)).trans ju
       replace jv:=(HB.out.cell (World.block_lt_of_cell? w _ jv)).trans jv
       have q9:=am hi54_5
       have qa:=am hl54_5
       clear hi54_5 hl54_5
       have jB:=am hi54_6
       have jC:=am hl54_6
       clear hi54_6 hl54_6
       have jI:=am hi54_7
       have jJ:=am hl54_7
       clear hi54_7 hl54_7
       replace qK:=eq_true qK
       replace qL:=eq_true qL
       go_upto_region 8 with (first|((with_reducible refine cZ (N:=6) rfl ?_);refine dO rfl (N:=6) rfl (cs:=#[.int .i64 0, .int .i64 0, .int .i64 0, .int .i64 0, .int .i64 0, .slice none 0 0, .slice none 0 0, .slice none 0 0]) (t:=35) rn_ ?_;intro j8 hg w8 hbox hb;have j5:=am (hbox);have jw:=am ((by rw [hg];exact (aJ fU):w.heap.size≤j8));have GE55:=am ((by rw [hg];exact (aJ fU):w.heap.size≤j8));replace HB:=am (aD fU hb);clear hb hbox hg;obtain ⟨qb,qc,qd,qe,qf,qg,qh,qi,qj,qk,ql,qm,qn,qo,qp,qq⟩:=eU j5.out;have qM:0≤(j3:Int):=of_decide_eq_true fV;have qN:j3 < (l1.length:Int):=of_decide_eq_true fV;obtain ⟨jx,q2,q3,jy,jz,q4,q5,YX,j6,jd,je,jf,jg,jh,ji,jj,hl56_5,hi56_5,hl56_6,hi56_6,hl56_7,hi56_7⟩:=uU YU.out j3 qM qN;cases YX;have ja:jx.block≠j8:=Nat.ne_of_lt (Nat.lt_of_lt_of_le (by have:=World.block_lt_of_cell? _ _ j6;first|rwa [add_block] at this|exact this) jw.out);have qr:jx.block≠j8:=Nat.ne_of_lt (Nat.lt_of_lt_of_le (by have:=World.block_lt_of_cell? _ _ j6;first|rwa [add_block] at this|exact this) jw.out);have qs:jx.block≠j8:=Nat.ne_of_lt (Nat.lt_of_lt_of_le (by have:=World.block_lt_of_cell? _ _ j6;first|rwa [add_block] at this|exact this) jw.out);have qt:jx.block≠j8:=Nat.ne_of_lt (Nat.lt_of_lt_of_le (by have:=World.block_lt_of_cell? _ _ j6;first|rwa [add_block] at this|exact this) jw.out);have qu:jx.block≠j8:=Nat.ne_of_lt (Nat.lt_of_lt_of_le (by have:=World.block_lt_of_cell? _ _ j6;first|rwa [add_block] at this|exact this) jw.out);have qv:jx.block≠j8:=Nat.ne_of_lt (Nat.lt_of_lt_of_le (by have:=World.block_lt_of_cell? _ _ j6;first|rwa [add_block] at this|exact this) jw.out);have qw:jx.block≠j8:=Nat.ne_of_lt (Nat.lt_of_lt_of_le (by have:=World.block_lt_of_cell? _ _ j6;first|rwa [add_block] at this|exact this) jw.out);have qx:jx.block≠j8:=Nat.ne_of_lt (Nat.lt_of_lt_of_le (by have:=World.block_lt_of_cell? _ _ j6;first|rwa [add_block] at this|exact this) jw.out);replace j6:=(HB.out.cell (World.block_lt_of_cell? w _ j6)).trans j6;replace jd:=(HB.out.cell (World.block_lt_of_cell? w _ jd)).trans jd;replace je:=(HB.out.cell (World.block_lt_of_cell? w _ je)).trans je;replace jf:=(HB.out.cell (World.block_lt_of_cell? w _ jf)).trans jf;replace jg:=(HB.out.cell (World.block_lt_of_cell? w _ jg)).trans jg;replace jh:=(HB.out.cell (World.block_lt_of_cell? w _ jh)).trans jh;replace ji:=(HB.out.cell (World.block_lt_of_cell? w _ ji)).trans ji;replace jj:=(HB.out.cell (World.block_lt_of_cell? w _ jj)).trans jj;have qy:=am hi56_5;have qz:=am hl56_5;clear hi56_5 hl56_5;have jD:=am hi56_6;have jE:=am hl56_6;clear hi56_6 hl56_6;have jK:=am hi56_7;have jL:=am hl56_7;clear hi56_7 hl56_7;have FR_:=fun {W_:World} {a_:Addr} {x_:Value} (b_:a_.block≠j8) (h_:W_.cell? a_=some x_)=>((cell_far (p:=⟨j8,7,none⟩) b_ (.slice jm ((aA l0 j3).f5).length jn)).trans ((cell_far (p:=⟨j8,6,none⟩) b_ (.slice jb ((aA l0 j3).f4).length jc)).trans ((cell_far (p:=⟨j8,5,none⟩) b_ (.slice jk ((aA l0 j3).f3.f2).length jl)).trans ((cell_far (p:=⟨j8,4,none⟩) b_ (.int .i64 ((aA l0 j3).f3.f1))).trans ((cell_far (p:=⟨j8,3,none⟩) b_ (.int .i64 ((aA l0 j3).f3.f0))).trans ((cell_far (p:=⟨j8,2,none⟩) b_ (.int .i64 ((aA l0 j3).f2))).trans ((cell_far (p:=⟨j8,1,none⟩) b_ (.int .i64 ((aA l0 j3).f1))).trans ((cell_far (p:=⟨j8,0,none⟩) b_ (.int .i64 ((aA l0 j3).f0))).trans h_))))))));replace j6:=FR_ (nb_ ja) j6;replace jd:=FR_ (nb_ ja) jd;replace je:=FR_ (nb_ ja) je;replace jf:=FR_ (nb_ ja) jf;replace jg:=FR_ (nb_ ja) jg;replace jh:=FR_ (nb_ ja) jh;replace ji:=FR_ (nb_ ja) ji;replace jj:=FR_ (nb_ ja) jj;clear FR_;clear ja qr qs qt qu qv qw qx;replace qM:=eq_true qM;replace qN:=eq_true qN)|((with_reducible refine cZ (N:=7) rfl ?_);refine dO rfl (N:=7) rfl (cs:=#[.int .i64 0, .int .i64 0, .int .i64 0, .int .i64 0, .int .i64 0, .slice none 0 0, .slice none 0 0, .slice none 0 0]) (t:=35) rn_ ?_;intro jG hg U4 hbox hb;have j7:=am (hbox);have GW57:=am ((by rw [hg];exact (aJ MX):w.heap.size≤jG));have GE57:=am ((by rw [hg];exact (aJ MX):w.heap.size≤jG));replace HB:=am (aD MX hb);have j4:=am ((by rw [hg];exact Nat.ne_of_lt (gT (g:=j8) (o:= .cells #[.int .i64 ((aA l0 j3).f0), .int .i64 ((aA l0 j3).f1), .int .i64 ((aA l0 j3).f2), .int .i64 ((aA l0 j3).f3.f0), .int .i64 ((aA l0 j3).f3.f1), .slice jk ((aA l0 j3).f3.f2).length jl, .slice jb ((aA l0 j3).f4).length jc, .slice jm ((aA l0 j3).f5).length jn] 35 (0,0)) (aM (aM (aM (aM (aM (aM (aM (aM j5.out 0 _ rfl) 1 _ rfl) 2 _ rfl) 3 _ rfl) 4 _ rfl) 5 _ rfl) 6 _ rfl) 7 _ rfl)):j8≠jG));have j9:=am ((by rw [hg];exact Nat.ne_of_gt (gT (g:=j8) (o:= .cells #[.int .i64 ((aA l0 j3).f0), .int .i64 ((aA l0 j3).f1), .int .i64 ((aA l0 j3).f2), .int .i64 ((aA l0 j3).f3.f0), .int .i64 ((aA l0 j3).f3.f1), .slice jk ((aA l0 j3).f3.f2).length jl, .slice jb ((aA l0 j3).f4).length jc, .slice jm ((aA l0 j3).f5).length jn] 35 (0,0)) (aM (aM (aM (aM (aM (aM (aM (aM j5.out 0 _ rfl) 1 _ rfl) 2 _ rfl) 3 _ rfl) 4 _ rfl) 5 _ rfl) 6 _ rfl) 7 _ rfl)):jG≠j8));replace j5:=am (dR (g:=j8) (o:= .cells #[.int .i64 ((aA l0 j3).f0), .int .i64 ((aA l0 j3).f1), .int .i64 ((aA l0 j3).f2), .int .i64 ((aA l0 j3).f3.f0), .int .i64 ((aA l0 j3).f3.f1), .slice jk ((aA l0 j3).f3.f2).length jl, .slice jb ((aA l0 j3).f4).length jc, .slice jm ((aA l0 j3).f5).length jn] 35 (0,0)) (aM (aM (aM (aM (aM (aM (aM (aM j5.out 0 _ rfl) 1 _ rfl) 2 _ rfl) 3 _ rfl) 4 _ rfl) 5 _ rfl) 6 _ rfl) 7 _ rfl) hb);clear hb hbox hg;have Yz:=j9.out;have YA:=j4.out;obtain ⟨jM,jN,jO,jP,jQ,jR,jS,jT,jU,jV,jW,jX,jY,jZ,q0,q1⟩:=eU j7.out))
       (try simp only [Act.put,List.setIfInBounds_toArray,List.set_cons_zero,List.set_cons_succ])
       go_cut [53] (fun YY wc=>∃ (kq:Nat) (jF:Bool),YY= .bool jF∧Aside0 (bF.j1 kq l0 l1 j3 jF ((aA l0 j3).f0) ((aA l0 j3).f1) ((aA l0 j3).f2) ((aA l0 j3).f3.f0) ((aA l0 j3).f3.f1) ((aA l0 j3).f3.f2) ((aA l0 j3).f4) ((aA l0 j3).f5) ((aA l1 j3).f0) ((aA l1 j3).f1) ((aA l1 j3).f2) ((aA l1 j3).f3.f0) ((aA l1 j3).f3.f1) ((aA l1 j3).f3.f2) ((aA l1 j3).f4) ((aA l1 j3).f5)=some r)∧Aside0 (kq≤k1)∧Aside0 (wc.heap[j8]?=some (.cells #[.int .i64 ((aA l0 j3).f0), .int .i64 ((aA l0 j3).f1), .int .i64 ((aA l0 j3).f2), .int .i64 ((aA l0 j3).f3.f0), .int .i64 ((aA l0 j3).f3.f1),(.slice jk ((aA l0 j3).f3.f2).length jl),(.slice jb ((aA l0 j3).f4).length jc),(.slice jm ((aA l0 j3).f5).length jn)] 35 (0,0)))∧Aside0 (wc.heap[jG]?=some (.cells #[.int .i64 ((aA l1 j3).f0), .int .i64 ((aA l1 j3).f1), .int .i64 ((aA l1 j3).f2), .int .i64 ((aA l1 j3).f3.f0), .int .i64 ((aA l1 j3).f3.f1),(.slice q2 ((aA l1 j3).f3.f2).length q3),(.slice jy ((aA l1 j3).f4).length jz),(.slice q4 ((aA l1 j3).f5).length q5)] 35 (0,0)))∧Aside0 (Below w.heap.size w wc))
       case first=>
        have H:=Yx.out
        clear Yx
        by_cases qA:((aA l0 j3).f0)=((aA l1 j3).f0)
        ·rw [if_pos qA] at H
         have jA:(((aA l0 j3).f0) == ((aA l1 j3).f0))=true:=beq_iff_eq.mpr qA
         have qF:(((aA l0 j3).f0) != ((aA l1 j3).f0))=false:=bne_eq_false_iff_eq.mpr qA
         clear qA
         (first|rw [jA]|(simp only [dN,dU];rw [jA])|skip)
         by_cases qB:((aA l0 j3).f1)=((aA l1 j3).f1)
         ·rw [if_pos qB] at H
          have qG:(((aA l0 j3).f1) == ((aA l1 j3).f1))=true:=beq_iff_eq.mpr qB
          have qH:(((aA l0 j3).f1) != ((aA l1 j3).f1))=false:=bne_eq_false_iff_eq.mpr qB
          clear qB
          by_cases qC:((aA l0 j3).f2)=((aA l1 j3).f2)
          ·rw [if_pos qC] at H
           have qI:(((aA l0 j3).f2) == ((aA l1 j3).f2))=true:=beq_iff_eq.mpr qC
           have qJ:(((aA l0 j3).f2) != ((aA l1 j3).f2))=false:=bne_eq_false_iff_eq.mpr qC
           clear qC
           obtain ⟨YB,YZ,H⟩:=bsa H
           (try dsimp only at H)
           have H':=am H
           clear H
           have YC:=j4.out
           have YD:=j9.out
           obtain ⟨qO,qP,qQ,qR,qS,qT,qU,qV,qW,qX,qY,qZ,z0,z1,z2,z3⟩:=eU j5.out
           obtain ⟨z4,z5,z6,z7,z8,z9,za,zb,zc,zd,ze,zf,zg,zh,zi,zj⟩:=eU j7.out
           go_wp2_with (first|(go_at_call 49;(with_reducible refine (bI.calls k1 ((aA l0 j3).f3.f0) ((aA l0 j3).f3.f1) _ _ ((aA l0 j3).f3.f2) ((aA l1 j3).f3.f0) ((aA l1 j3).f3.f1) _ _ ((aA l1 j3).f3.f2) YB _ ?side1 qa.out ?side3 qz.out YZ.out).mono ?_);(case side1=>exact Kd.aV q9.out sV);(case side3=>exact Kd.aV qy.out sV);rintro e U5 ⟨rfl,hb⟩;replace j5:=am (dR (g:=j8) (o:= .cells #[.int .i64 ((aA l0 j3).f0), .int .i64 ((aA l0 j3).f1), .int .i64 ((aA l0 j3).f2), .int .i64 ((aA l0 j3).f3.f0), .int .i64 ((aA l0 j3).f3.f1), .slice jk ((aA l0 j3).f3.f2).length jl, .slice jb ((aA l0 j3).f4).length jc, .slice jm ((aA l0 j3).f5).length jn] 35 (0,0)) (bC (bC (bC (bC (bC (bC (bC (bC j5.out j4.out _) j4.out _) j4.out _) j4.out _) j4.out _) j4.out _) j4.out _) j4.out _) hb);replace j7:=am (dR (g:=jG) (o:= .cells #[.int .i64 ((aA l1 j3).f0), .int .i64 ((aA l1 j3).f1), .int .i64 ((aA l1 j3).f2), .int .i64 ((aA l1 j3).f3.f0), .int .i64 ((aA l1 j3).f3.f1), .slice q2 ((aA l1 j3).f3.f2).length q3, .slice jy ((aA l1 j3).f4).length jz, .slice q4 ((aA l1 j3).f5).length q5] 35 (0,0)) (aM (aM (aM (aM (aM (aM (aM (aM j7.out 0 _ rfl) 1 _ rfl) 2 _ rfl) 3 _ rfl) 4 _ rfl) 5 _ rfl) 6 _ rfl) 7 _ rfl) hb);replace HB:=am (aD sV hb);(try clear hb)))
           go_meet
           case rel=>exact ⟨_,(!YB),sd_,H',⟨by have:=jH.out;first|omega|exact Nat.le_refl _⟩,⟨by (with_reducible repeat (first|refine dI ?_ _|refine bK ?_|refine bY ?_ _));exact j5.out⟩,⟨by (with_reducible repeat (first|refine dI ?_ _|refine bK ?_|refine bY ?_ _));exact j7.out⟩,⟨sV⟩⟩
          rw [if_neg qC] at H
          have qI:(((aA l0 j3).f2) == ((aA l1 j3).f2))=false:=beq_eq_false_iff_ne.mpr qC
          have qJ:(((aA l0 j3).f2) != ((aA l1 j3).f2))=true:=bne_iff_ne.mpr qC
          have H':=am H
          clear H
          have YE:=j4.out
          have YF:=j9.out
          obtain ⟨zk,zl,zm,zn,zo,zp,zq,zr,zs,zt,zu,zv,zw,zx,zy,zz⟩:=eU j5.out
          obtain ⟨zA,zB,zC,zD,zE,zF,zG,zH,zI,zJ,zK,zL,zM,zN,zO,zP⟩:=eU j7.out
          go_wp2
          go_meet
          case rel=>exact ⟨_,(true),sd_,H',⟨by have:=jH.out;first|omega|exact Nat.le_refl _⟩,⟨(bC (bC (bC (bC (bC (bC (bC (bC j5.out j4.out _) j4.out _) j4.out _) j4.out _) j4.out _) j4.out _) j4.out _) j4.out _)⟩,⟨(aM (aM (aM (aM (aM (aM (aM (aM j7.out 0 _ rfl) 1 _ rfl) 2 _ rfl) 3 _ rfl) 4 _ rfl) 5 _ rfl) 6 _ rfl) 7 _ rfl)⟩,⟨sV⟩⟩
         rw [if_neg qB] at H
         have qG:(((aA l0 j3).f1) == ((aA l1 j3).f1))=false:=beq_eq_false_iff_ne.mpr qB
         have qH:(((aA l0 j3).f1) != ((aA l1 j3).f1))=true:=bne_iff_ne.mpr qB
         have H':=am H
         clear H
         have YG:=j4.out
         have YH:=j9.out
         obtain ⟨zQ,zR,zS,zT,zU,zV,zW,zX,zY,zZ,J0,J1,J2,J3,J4,J5⟩:=eU j5.out
         obtain ⟨J6,J7,J8,J9,Ja,Jb,Jc,Jd,Je,Jf,Jg,Jh,Ji,Jj,Jk,Jl⟩:=eU j7.out
         go_wp2
         go_meet
         case rel=>exact ⟨_,(true),sd_,H',⟨by have:=jH.out;first|omega|exact Nat.le_refl _⟩,⟨(bC (bC (bC (bC (bC (bC (bC (bC j5.out j4.out _) j4.out _) j4.out _) j4.out _) j4.out _) j4.out _) j4.out _) j4.out _)⟩,⟨(aM (aM (aM (aM (aM (aM (aM (aM j7.out 0 _ rfl) 1 _ rfl) 2 _ rfl) 3 _ rfl) 4 _ rfl) 5 _ rfl) 6 _ rfl) 7 _ rfl)⟩,⟨sV⟩⟩
        rw [if_neg qA] at H
        have jA:(((aA l0 j3).f0) == ((aA l1 j3).f0))=false:=beq_eq_false_iff_ne.mpr qA
        have qF:(((aA l0 j3).f0) != ((aA l1 j3).f0))=true:=bne_iff_ne.mpr qA
        (first|rw [jA]|(simp only [dN,dU];rw [jA])|skip)
        have H':=am H
        clear H
        have YI:=j4.out
        have YJ:=j9.out
        obtain ⟨Jm,Jn,Jo,Jp,Jq,Jr,Js,Jt,Ju,Jv,Jw,Jx,Jy,Jz,JA,JB⟩:=eU j5.out
        obtain ⟨JC,JD,JE,JF,JG,JH,JI,JJ,JK,JL,JM,JN,JO,JP,JQ,JR⟩:=eU j7.out
        go_wp2
        go_meet
        case rel=>exact ⟨_,(true),sd_,H',⟨by have:=jH.out;first|omega|exact Nat.le_refl _⟩,⟨(bC (bC (bC (bC (bC (bC (bC (bC j5.out j4.out _) j4.out _) j4.out _) j4.out _) j4.out _) j4.out _) j4.out _) j4.out _)⟩,⟨(aM (aM (aM (aM (aM (aM (aM (aM j7.out 0 _ rfl) 1 _ rfl) 2 _ rfl) 3 _ rfl) 4 _ rfl) 5 _ rfl) 6 _ rfl) 7 _ rfl)⟩,⟨sV⟩⟩
       case rest=>
        clear Yx
        try clear c1
        try clear c3
        try clear q6
        try clear q7
        try clear q8
        try clear c4
        try clear qE
        try clear c5
        try clear Yv
        try clear c6
        try clear Yw
        try clear jM
        try clear jN
        try clear jO
        try clear jP
        try clear jQ
        try clear jR
        try clear jS
        try clear jT
        try clear qb
        try clear qc
        try clear qd
        try clear qe
        try clear qf
        try clear qg
        try clear qh
        try clear qi
        try clear jU
        try clear jV
        try clear jW
        try clear jX
        try clear jY
        try clear jZ
        try clear q0
        try clear q1
        try clear qj
        try clear qk
        try clear ql
        try clear qm
        try clear qn
        try clear qo
        try clear qp
        try clear qq
        try clear jo
        try clear jp
        try clear jq
        try clear jr
        try clear js
        try clear jt
        try clear ju
        try clear jv
        try clear j6
        try clear jd
        try clear je
        try clear jf
        try clear jg
        try clear jh
        try clear ji
        try clear jj
        try clear qK
        try clear qM
        try clear qL
        try clear qN
        obtain ⟨kq,jF,rfl,HA,HJ6,j5,j7,HB⟩:=hcut
        cases kq with
        |zero=>exact absurd HA.out (by simp [bF.j1])
        |succ qD=>
         have H:=HA.out
         clear HA
         simp only [bF.j1] at H
         by_cases JS:jF=true
         ·subst JS
          rw [if_pos rfl] at H
          obtain rfl:=Option.some.inj H
          go_wp2
          go_ret
          exact ⟨rr_,sV⟩
         replace JS:=Bool.eq_false_iff.mpr JS
         subst JS
         rw [if_neg (show ¬ (false=true) by decide)] at H
         obtain ⟨U0,YK,H⟩:=bsm H
         (try dsimp only at H)
         have Yy:=am YK
         clear YK
         by_cases JT:U0=true
         ·subst JT
          rw [if_pos rfl] at H
          obtain ⟨U1,YL,H⟩:=bsm H
          (try dsimp only at H)
          have YM:=am YL
          clear YL
          by_cases JU:U1=true
          ·subst JU
           rw [if_pos rfl] at H
           have H':=am H
           clear H
           have YN:=j4.out
           have YO:=j9.out
           obtain ⟨JV,JW,JX,JY,JZ,Q0,Q1,Q2,Q3,Q4,Q5,Q6,Q7,Q8,Q9,Qa⟩:=eU j5.out
           obtain ⟨Qb,Qc,Qd,Qe,Qf,Qg,Qh,Qi,Qj,Qk,Ql,Qm,Qn,Qo,Qp,Qq⟩:=eU j7.out
           go_wp2_with (first|((with_reducible refine aN (f:=15) rfl ?_);refine gl_ 58 Try.func15 #[.slice jb ((aA l0 j3).f4).length jc, .slice jy ((aA l1 j3).f4).length jz] ?_;(with_reducible refine (ih qD (by have:=jH.out;have:=HJ6.out;omega) _ _ ((aA l0 j3).f4) _ _ ((aA l1 j3).f4) true _ (aC_ (Kd.aV jB.out HB.out)) jC.out (aC_ (Kd.aV jD.out HB.out)) jE.out Yy.out).mono ?_);rintro e U6 ⟨rfl,hb⟩;refine ⟨_,rfl,?_⟩;replace j5:=bbP j5 hb;replace j7:=bbP j7 hb;replace HB:=am (aD sV hb);(try clear hb);obtain ⟨Qr,Qs,Qt,Qu,Qv,Qw,Qx,Qy,Qz,QA,QB,QC,QD,QE,QF,QG⟩:=eU j5.out;obtain ⟨QH,QI,QJ,QK,QL,QM,QN,QO,QP,QQ,QR,QS,QT,QU,QV,QW⟩:=eU j7.out)|(go_at_call 15;(with_reducible refine (ih qD (by have:=jH.out;have:=HJ6.out;omega) _ _ ((aA l0 j3).f5) _ _ ((aA l1 j3).f5) true _ (aC_ (Kd.aV jI.out HB.out)) jJ.out (aC_ (Kd.aV jK.out HB.out)) jL.out YM.out).mono ?_);rintro e U7 ⟨rfl,hb⟩;replace j5:=bbP j5 hb;replace j7:=bbP j7 hb;replace HB:=am (aD sV hb);(try clear hb)))
           go_roundg qD
           case measure=>have:=jH.out;have:=HJ6.out;omega
           case rel=>exact ⟨(wrap64 (j3 + 1)),sd_,H',⟨by have:=jH.out;have:=HJ6.out;omega⟩,⟨sV⟩⟩
          replace JU:=Bool.eq_false_iff.mpr JU
          subst JU
          rw [if_neg (show ¬ (false=true) by decide)] at H
          obtain rfl:=Option.some.inj H
          have YP:=j4.out
          have YQ:=j9.out
          obtain ⟨QX,QY,QZ,Z0,Z1,Z2,Z3,Z4,Z5,Z6,Z7,Z8,Z9,Za,Zb,Zc⟩:=eU j5.out
          obtain ⟨Zd,Ze,Zf,Zg,Zh,Zi,Zj,Zk,Zl,Zm,Zn,Zo,Zp,Zq,Zr,Zs⟩:=eU j7.out
          go_wp2_with (first|((with_reducible refine aN (f:=15) rfl ?_);refine gl_ 58 Try.func15 #[.slice jb ((aA l0 j3).f4).length jc, .slice jy ((aA l1 j3).f4).length jz] ?_;(with_reducible refine (ih qD (by have:=jH.out;have:=HJ6.out;omega) _ _ ((aA l0 j3).f4) _ _ ((aA l1 j3).f4) true _ (aC_ (Kd.aV jB.out HB.out)) jC.out (aC_ (Kd.aV jD.out HB.out)) jE.out Yy.out).mono ?_);rintro e U8 ⟨rfl,hb⟩;refine ⟨_,rfl,?_⟩;replace j5:=bbP j5 hb;replace j7:=bbP j7 hb;replace HB:=am (aD sV hb);(try clear hb);obtain ⟨Zt,Zu,Zv,Zw,Zx,Zy,Zz,ZA,ZB,ZC,ZD,ZE,ZF,ZG,ZH,ZI⟩:=eU j5.out;obtain ⟨ZJ,ZK,ZL,ZM,ZN,ZO,ZP,ZQ,ZR,ZS,ZT,ZU,ZV,ZW,ZX,ZY⟩:=eU j7.out)|(go_at_call 15;(with_reducible refine (ih qD (by have:=jH.out;have:=HJ6.out;omega) _ _ ((aA l0 j3).f5) _ _ ((aA l1 j3).f5) false _ (aC_ (Kd.aV jI.out HB.out)) jJ.out (aC_ (Kd.aV jK.out HB.out)) jL.out YM.out).mono ?_);rintro e U9 ⟨rfl,hb⟩;replace j5:=bbP j5 hb;replace j7:=bbP j7 hb;replace HB:=am (aD sV hb);(try clear hb)))
          go_ret
          exact ⟨rr_,sV⟩
         replace JT:=Bool.eq_false_iff.mpr JT
         subst JT
         rw [if_neg (show ¬ (false=true) by decide)] at H
         obtain rfl:=Option.some.inj H
         have YR:=j4.out
         have YS:=j9.out
         obtain ⟨ZZ,Y0,Y1,Y2,Y3,Y4,Y5,Y6,Y7,Y8,Y9,Ya,Yb,Yc,Yd,Ye⟩:=eU j5.out
         obtain ⟨Yf,Yg,Yh,Yi,Yj,Yk,Yl,Ym,Yn,Yo,Yp,Yq,Yr,Ys,Yt,Yu⟩:=eU j7.out
         go_wp2_with (first|((with_reducible refine aN (f:=15) rfl ?_);refine gl_ 58 Try.func15 #[.slice jb ((aA l0 j3).f4).length jc, .slice jy ((aA l1 j3).f4).length jz] ?_;(with_reducible refine (ih qD (by have:=jH.out;have:=HJ6.out;omega) _ _ ((aA l0 j3).f4) _ _ ((aA l1 j3).f4) false _ (aC_ (Kd.aV jB.out HB.out)) jC.out (aC_ (Kd.aV jD.out HB.out)) jE.out Yy.out).mono ?_);rintro e Ua ⟨rfl,hb⟩;refine ⟨_,rfl,?_⟩;replace j5:=bbP j5 hb;replace j7:=bbP j7 hb;replace HB:=am (aD sV hb);(try clear hb)))
         go_ret
         exact ⟨rr_,sV⟩
      rw [if_neg c6] at H
      exact absurd H (by simp)
     rw [if_neg c5] at H
     exact absurd H (by simp)
    rw [if_neg c4] at H
    have qE:decide (j3 < (l0.length:Int))=false:=decide_eq_false c4
    clear c4
    obtain rfl:=Option.some.inj H
    go_wp2
    go_ret
    exact ⟨rr_,fU⟩
 rw [if_neg c3] at H
 have q6:((l0.length:Int) == (l1.length:Int))=false:=beq_eq_false_iff_ne.mpr c3
 have q7:((l0.length:Int) != (l1.length:Int))=true:=bne_iff_ne.mpr c3
 have q8:(l0.length == l1.length)=false:=by first|simpa using c3|(simp at c3 ⊢;omega)
 obtain rfl:=Option.some.inj H
 go_enter Try.func15,Try.ntmps15
 go_wp2
 go_ret
 exact ⟨rr_,fU⟩
def aQ (w0 W:World) (g:Nat) (f0:List Int) (f1:Int):Prop:=∃ A0 c0,W.heap[g]?=some (.cells #[.slice A0 f0.length c0, .int .i64 f1] 91 (0,0))∧w0.heap.size≤g∧Kd.C (Kd.int .u8) w0 A0 f0.length f0
theorem aQ.grown {w0 W:World} {g:Nat} {f0:List Int} {f1:Int} {W1:World} {row:Option Nat} (h:aQ w0 W g f0 f1) (hw:W.grownBy W1 row) (hne:some g≠row):aQ w0 W1 g f0 f1:=by
 obtain ⟨A0,c0,hb,hg,hr0⟩:=h
 exact ⟨A0,c0,gX hb hw hne,hg,hr0⟩
theorem aQ.AY {w0 W:World} {g:Nat} {f0:List Int} {f1:Int} {α:Type} {d:Kd α} {e:Nat} {base:Nat} {ok:Nat→Prop} {v:Value} {xs:List α} (h:aQ w0 W g f0 f1) (ho:Kd.N d e W base ok v xs) (ht:e≠91):some g≠v.ownBlock:=by
 obtain ⟨A0,c0,hb,hg,hr0⟩:=h
 exact Kd.BL ho hb ht
theorem aQ.fresh {w0 W:World} {g:Nat} {f0:List Int} {f1:Int} (h:aQ w0 W g f0 f1):∀ k,W.heap.size≤k→k≠g:=by
 obtain ⟨A0,c0,hb,hg,hr0⟩:=h
 exact Kd.lH hb
theorem aQ.kept {w0 W:World} {g:Nat} {f0:List Int} {f1:Int} {W1:World} {S:Nat→Prop} (h:aQ w0 W g f0 f1) (hk:Kept W W1 S) (hne:¬ S g):aQ w0 W1 g f0 f1:=by
 obtain ⟨A0,c0,hb,hg,hr0⟩:=h
 exact ⟨A0,c0,SK hb hk hne,hg,hr0⟩
theorem aQ.below {w0 W:World} {g:Nat} {f0:List Int} {f1:Int} {W1:World} (h:aQ w0 W g f0 f1) (hw:Below W.heap.size W W1):aQ w0 W1 g f0 f1:=h.grown (wK hw none) (by simp)
theorem aQ.alloc {w0 W:World} {g:Nat} {f0:List Int} {f1:Int} (h:aQ w0 W g f0 f1) (o:Obj):aQ w0 (W.alloc o) g f0 f1:=h.below (bS (Below.refl _ _) o)
theorem aQ.drewN {w0 W:World} {g:Nat} {f0:List Int} {f1:Int} (h:aQ w0 W g f0 f1) (m:Nat):aQ w0 (W.drewN m) g f0 f1:=h
theorem aQ.drew {w0 W:World} {g:Nat} {f0:List Int} {f1:Int} (h:aQ w0 W g f0 f1):aQ w0 W.drew g f0 f1:=h
theorem aQ.at_ {w0 W:World} {g:Nat} {f0:List Int} {f1:Int} {w':World} {m:Nat} (hq:W.drewN m=w') (h:aQ w0 W g f0 f1):aQ w0 w' g f0 f1:=by subst hq;exact aQ.drewN h m
theorem aQ.apart {w0 W:World} {g:Nat} {f0:List Int} {f1:Int} {α:Type} {d:Kd α} {e:Nat} {base:Nat} {ok:Nat→Prop} {v:Value} {xs:List α} (h:aQ w0 W g f0 f1) (ho:d.R e W base ok v xs) (ht:∀ q,q ∈ e :: d.E→q≠91):d.R e W base (fun k=>ok k∧k≠g) v xs:=by
 obtain ⟨A0,c0,hb,hg,hr0⟩:=h
 exact Kd.fK ho hb ht
theorem aQ.own_ne {w0 W:World} {g:Nat} {f0:List Int} {f1:Int} {α:Type} {d:Kd α} {e:Nat} {base:Nat} {ok:Nat→Prop} {v:Value} {xs:List α} (h:aQ w0 W g f0 f1) (ho:d.R e W base ok v xs) (ht:e≠91):some g≠v.ownBlock:=by
 obtain ⟨A0,c0,hb,hg,hr0⟩:=h
 exact Kd.PV ho hb ht
theorem aQ.lt {w0 W:World} {g:Nat} {f0:List Int} {f1:Int} (h:aQ w0 W g f0 f1):g < W.heap.size:=by
 obtain ⟨A0,c0,hb,hg,hr0⟩:=h
 exact gT hb
theorem aQ.ge {w0 W:World} {g:Nat} {f0:List Int} {f1:Int} (h:aQ w0 W g f0 f1):w0.heap.size≤g:=by
 obtain ⟨A0,c0,hb,hg,hr0⟩:=h
 exact hg
theorem aQ.NM {w0 W:World} {g:Nat} {f0:List Int} {f1:Int} {a:Nat} {cs:Array Value} {t:TypeId} {fr:Nat × Nat} (h:aQ w0 W g f0 f1) (hb2:W.heap[a]?=some (.cells cs t fr)) (ht:t≠91):g≠a:=by
 obtain ⟨A0,c0,hb,hg,hr0⟩:=h
 rintro rfl
 rw [hb] at hb2
 injection hb2 with hb2
 injection hb2 with _ ht2
 exact ht ht2.symm
theorem aQ.far {w0 W:World} {g:Nat} {f0:List Int} {f1:Int} {p:Addr} (h:aQ w0 W g f0 f1) (hne:g≠p.block) (u:Value):aQ w0 (W.setCell p u) g f0 f1:=by
 obtain ⟨A0,c0,hb,hg,hr0⟩:=h
 exact ⟨A0,c0,bC hb hne u,hg,hr0⟩
theorem wY {W:World} {g:Nat} {A0:Option Addr} {c0:Nat} {f0:List Int} {f1:Int} (h:W.heap[g]?=some (.cells #[.slice A0 f0.length c0, .int .i64 f1] 91 (0,0))):W.cell? ⟨g,0,none⟩=some (.slice A0 f0.length c0):=(aC h 0).trans rfl
theorem wZ {W:World} {g:Nat} {A0:Option Addr} {c0:Nat} {f0:List Int} {f1:Int} (h:W.heap[g]?=some (.cells #[.slice A0 f0.length c0, .int .i64 f1] 91 (0,0))):W.cell? ⟨g,1,none⟩=some (.int .i64 f1):=(aC h 1).trans rfl
theorem aQ.sN {w0 W:World} {g:Nat} {f0:List Int} {f1:Int} (h:aQ w0 W g f0 f1) (x:Int):aQ w0 (W.setCell ⟨g,1,none⟩ (.int .i64 x)) g f0 x:=by
 obtain ⟨A0,c0,hb,hg,hr0⟩:=h
 exact ⟨A0,c0,by simpa using KI hb 1 (.int .i64 x),hg,hr0⟩
theorem mZ.calls (A0:Option Addr) (c0:Nat) (l0:List Int) (r1:List Int) (r2:Int) (w0 w:World) (hB:Below w0.heap.size w0 w) (hr0:Kd.C (Kd.int .u8) w0 A0 l0.length l0) (hc0:l0.length≤c0) (h:mZ.f l0=some (r1,r2)):
  Calls Try.prog 39 #[.slice A0 l0.length c0] w fun e w'=>∃ g_:Nat,e= .returned (.pointer (some ⟨g_,0,none⟩))∧aQ w0 w' g_ r1 r2∧Below w0.heap.size w0 w'∧Below w.heap.size w w':=by
 have hu91:=Try.underlying91
 have jc:=am hr0
 have jd:=am hc0
 clear hr0 hc0
 have HBW:=am (Below.refl w.heap.size w)
 have HW0:=am hB.size
 have HB:=am hB
 clear hB
 have H:(if (l0.length:Int) > 2000 then (if 2000≤(l0.length:Int) then (some (l0.take 2000,0)) else (none)) else (some (l0,0)))=some (r1,r2):=h
 clear h
 by_cases c2:(l0.length:Int) > 2000
 ·rw [if_pos c2] at H
  have j5:decide (2000 < (l0.length:Int))=true:=decide_eq_true c2
  have j6:decide (2000 < l0.length)=true:=decide_eq_true (by omega)
  clear c2
  by_cases c3:2000≤(l0.length:Int)
  ·rw [if_pos c3] at H
   have je:=eq_true c3
   have jf:decide (2000≤(l0.length:Int))=true:=decide_eq_true c3
   clear c3
   simp only [Option.some.injEq,Prod.mk.injEq] at H
   obtain ⟨rfl,rfl⟩:=H
   obtain ⟨jh,hi04,_,hsz4,_⟩:=info_parts info5
   obtain ⟨hcut4,hA4,hC4⟩:=FT (P:=Try.prog) (Value.int .u8) 0 22 5 .i64 Try.underlying22 hi04 hsz4 A0 c0 l0 2000 (by omega) (of_decide_eq_true fV) jd.out
   have j7:=am (Kd.DY (h1:=fun _=>rfl) (hA4 _ (Kd.EY jc.out)))
   have jg:=am hC4
   clear hA4 hC4 hi04 hsz4
   go_enter Try.func39,Try.ntmps39
   go_wp2_with (first|((with_reducible refine cZ (N:=10) rfl ?_);refine dO rfl (N:=10) rfl (cs:=#[.slice A0 (l0.take 2000).length c0, .int .i64 0]) (t:=91) rn_ ?_;intro j3 hg w5 hbox hb;replace HB:=am (aD fU hb);have j8:=am (hbox);have j9:=am ((by rw [hg];exact (aJ KG):w.heap.size≤j3));have GE21:=am ((Nat.le_trans HW0.out (by rw [hg];exact (aJ KG):w.heap.size≤j3):w0.heap.size≤j3));replace HBW:=am (aD HBW.out hb);clear hb hbox hg))
   go_ret
   exact ⟨_,rfl,(show aQ w0 _ j3 (l0.take 2000) 0 from ⟨_,_,by (with_reducible repeat (first|refine dI ?_ _|refine bK ?_|refine bY ?_ _));exact j8.out,GE21.out,j7.out⟩),wJ,by repeat (first|(with_reducible first|exact HBW.out|apply bS|apply bA|apply bG|refine below_set ?_ j9.out)|exact HBW.out)⟩
  rw [if_neg c3] at H
  exact absurd H (by simp)
 rw [if_neg c2] at H
 have j5:decide (2000 < (l0.length:Int))=false:=decide_eq_false c2
 have j6:decide (2000 < l0.length)=false:=decide_eq_false (by omega)
 clear c2
 simp only [Option.some.injEq,Prod.mk.injEq] at H
 obtain ⟨rfl,rfl⟩:=H
 go_enter Try.func39,Try.ntmps39
 go_wp2_with (first|((with_reducible refine cZ (N:=10) rfl ?_);refine dO rfl (N:=10) rfl (cs:=#[.slice A0 l0.length c0, .int .i64 0]) (t:=91) rn_ ?_;intro j4 hg w6 hbox hb;replace HB:=am (aD fU hb);have ja:=am (hbox);have jb:=am ((by rw [hg];exact (aJ KG):w.heap.size≤j4));have GE23:=am ((Nat.le_trans HW0.out (by rw [hg];exact (aJ KG):w.heap.size≤j4):w0.heap.size≤j4));replace HBW:=am (aD HBW.out hb);clear hb hbox hg))
 go_ret
 exact ⟨_,rfl,(show aQ w0 _ j4 l0 0 from ⟨_,_,by (with_reducible repeat (first|refine dI ?_ _|refine bK ?_|refine bY ?_ _));exact ja.out,GE23.out,jc.out⟩),pE,by repeat (first|(with_reducible first|exact HBW.out|apply bS|apply bA|apply bG|refine below_set ?_ jb.out)|exact HBW.out)⟩
theorem aH.mono_l:∀ k,(∀ y0 y1 y2 y3,LeO (aH.j0 k y0 y1 y2 y3) (aH.j0 (k + 1) y0 y1 y2 y3))
 |0=>fun _ _ _ _ r h=>by simp [aH.j0] at h
 |k + 1=>by
  have ih0:=aH.mono_l k
  ·intro y0 y1 y2 y3
   unfold aH.j0
   exact mo_
theorem aH.mono:∀ a0 a1 a2 k,LeO (aH.f k a0 a1 a2) (aH.f (k + 1) a0 a1 a2):=by
 intro a0 a1 a2 k
 have ih0:=aH.mono_l k
 unfold aH.f
 exact mo_
theorem aH.calls (k:Nat) (g:Nat) (j3:List Int) (j4:Int) (a1:Int) (r1:Int) (r2:Int) (w0 w:World) (hI:aQ w0 w g j3 j4) (hB:Below w0.heap.size w0 w) (h:aH.f k j3 j4 a1=some (r1,r2)):
  Calls Try.prog 41 #[.pointer (some ⟨g,0,none⟩), .int .i64 a1] w fun e w'=>e= .returned (.int .i64 r1)∧aQ w0 w' g j3 r2∧Below w0.heap.size w0 w'∧aI w w' g none:=by
 have HI0:=am hI
 have HK:=am (aI.refl w g none)
 have HL:=am hB.size
 clear hI
 have HW0:=am hB.size
 have HB:=am hB
 clear hB
 have H:(if a1 < 1 then (aH.j0 k a1 true j3 (wrap64 (j4 + 1))) else (aH.j0 k a1 ((j3.length:Int) == 0) j3 (wrap64 (j4 + 1))))=some (r1,r2):=h
 clear h
 have jr:=am H
 clear H
 obtain ⟨ASz4_0,cSz4_0,HGz4,hgz4,HSz4_0⟩:=HI0.out
 have ja:=wY HGz4
 have jb:=wZ HGz4
 have jc:=aU HGz4 1
 clear HGz4 hgz4
 go_enter Try.func41,Try.ntmps41
 go_upto_region 2 with (fail)
 repeat (go_quiet (fail);go_upto_region 2 with (fail))
 go_cut [24] (fun jP wc=>∃ (kq:Nat) (j5:Bool),jP= .bool j5∧Aside0 (aH.j0 kq a1 j5 j3 (wrap64 (j4 + 1))=some (r1,r2))∧Aside0 (kq≤k)∧Aside0 (aQ w0 wc g j3 (wrap64 (j4 + 1)))∧Aside0 (aI w wc g none)∧Aside0 (Below w0.heap.size w0 wc))
 case first=>
  have H:=jr.out
  clear jr
  by_cases c5:a1 < 1
  ·rw [if_pos c5] at H
   have j6:decide (a1 < 1)=true:=decide_eq_true c5
   clear c5
   (first|rw [j6]|(simp only [dN,dU];rw [j6])|skip)
   have H':=am H
   clear H
   go_wp2
   repeat (go_quiet (fail);try go_wp2)
   go_meet
   case rel=>exact ⟨_,(true),sd_,H',⟨by first|omega|exact Nat.le_refl _⟩,⟨gG⟩,⟨fI⟩,⟨iU⟩⟩
  rw [if_neg c5] at H
  have j6:decide (a1 < 1)=false:=decide_eq_false c5
  clear c5
  (first|rw [j6]|(simp only [dN,dU];rw [j6])|skip)
  have H':=am H
  clear H
  obtain ⟨ASz6_0,cSz6_0,HGz6,hgz6,HSz6_0⟩:=HI0.out
  have js:=wY HGz6
  have jt:=wZ HGz6
  have ju:=aU HGz6 1
  clear HGz6 hgz6
  go_wp2
  repeat (go_quiet (fail);try go_wp2)
  go_meet
  case rel=>exact ⟨_,(((j3.length:Int) == 0)),sd_,H',⟨by first|omega|exact Nat.le_refl _⟩,⟨gG⟩,⟨fI⟩,⟨iU⟩⟩
 case rest=>
  clear jr
  try clear ja
  try clear jb
  try clear jc
  obtain ⟨kq,j5,rfl,HA,HJ2,HI0,HK,HB⟩:=hcut
  cases kq with
  |zero=>exact absurd HA.out (by simp [aH.j0])
  |succ jU=>
   have H:=HA.out
   clear HA
   simp only [aH.j0] at H
   by_cases c7:j5=true
   ·subst c7
    rw [if_pos rfl] at H
    simp only [Option.some.injEq,Prod.mk.injEq] at H
    obtain ⟨rfl,rfl⟩:=H
    go_wp2
    repeat (go_quiet (fail);try go_wp2)
    go_ret
    exact ⟨rr_,gG,iU,fI⟩
   replace c7:=Bool.eq_false_iff.mpr c7
   subst c7
   rw [if_neg (show ¬ (false=true) by decide)] at H
   by_cases c8:(wrap64 ((wrap64 (j4 + 1)) - 1)) < (j3.length:Int)
   ·rw [if_pos c8] at H
    have jd:decide ((wrap64 ((wrap64 (j4 + 1)) - 1)) < (j3.length:Int))=true:=decide_eq_true c8
    clear c8
    obtain ⟨ji9,hji9⟩:∃ j_:Int,(wrap64 ((wrap64 (j4 + 1)) - 1))=j_:=⟨_,rfl⟩
    replace H:(if 0≤(ji9) then (if a1=0 then (none) else (some (Int.tmod (wrap64 (rd j3 (ji9))) a1,(wrap64 (j4 + 1))))) else (none))=some (r1,r2):=by first|(rw [hji9] at H;exact H)|(simp only [hji9] at H ⊢;exact H)
    (try rw [hji9] at jd)
    have hji9w:(IntKind.i64.wrap ((wrap64 (j4 + 1)) - 1))=ji9:=(dN _).trans hji9
    by_cases c10:0≤(ji9)
    ·rw [if_pos c10] at H
     have jD:decide (0≤(ji9))=true:=decide_eq_true c10
     clear c10
     by_cases jf:a1=0
     ·rw [if_pos jf] at H
      exact absurd H (by simp)
     rw [if_neg jf] at H
     have jE:(a1 == 0)=false:=beq_eq_false_iff_ne.mpr jf
     have jF:(a1 != 0)=true:=bne_iff_ne.mpr jf
     simp only [Option.some.injEq,Prod.mk.injEq] at H
     obtain ⟨rfl,rfl⟩:=H
     obtain ⟨ASz12_0,cSz12_0,HGz12,hgz12,HSz12_0⟩:=HI0.out
     have jg:=wY HGz12
     have jh:=wZ HGz12
     have ji:=aU HGz12 1
     clear HGz12 hgz12
     have jv:0≤((ji9):Int):=of_decide_eq_true fV
     have jw:(ji9) < (j3.length:Int):=of_decide_eq_true fV
     obtain ⟨jQ,jR,j7⟩:=Kd.nM HSz12_0 (ji9) jv jw
     cases jR
     replace j7:=bV HB.out j7
     replace jv:=eq_true jv
     replace jw:=eq_true jw
     go_wp2
     repeat (go_quiet (fail);try go_wp2)
     go_ret
     exact ⟨by first|rfl|(simp [nI,nJ] <;> rfl)|(simp only [← hji9];first|rfl|(simp [nI,nJ] <;> rfl))|(simp [*,nI,nJ] <;> rfl),gG,iU,fI⟩
    rw [if_neg c10] at H
    exact absurd H (by simp)
   rw [if_neg c8] at H
   have jd:decide ((wrap64 ((wrap64 (j4 + 1)) - 1)) < (j3.length:Int))=false:=decide_eq_false c8
   clear c8
   by_cases je:(j3.length:Int)=0
   ·rw [if_pos je] at H
    exact absurd H (by simp)
   rw [if_neg je] at H
   have jG:((j3.length:Int) == 0)=false:=beq_eq_false_iff_ne.mpr je
   have jH:((j3.length:Int) != 0)=true:=bne_iff_ne.mpr je
   have jI:¬ (j3=[]):=fun h_=>je (by rw [h_];rfl)
   obtain ⟨ji14,hji14⟩:∃ j_:Int,(Int.tmod (wrap64 ((wrap64 (j4 + 1)) - 1)) (j3.length:Int))=j_:=⟨_,rfl⟩
   replace H:(if 0≤(ji14) then (if (ji14) < (j3.length:Int) then (if 0≤(Int.tmod (wrap64 ((wrap64 ((wrap64 ((wrap64 (j4 + 1)) - 1)) * 7)) + 3)) (j3.length:Int)) then (if (Int.tmod (wrap64 ((wrap64 ((wrap64 ((wrap64 (j4 + 1)) - 1)) * 7)) + 3)) (j3.length:Int)) < (j3.length:Int) then (if a1=0 then (none) else (some (Int.tmod (Go.bits .xor .i64 (wrap64 ((wrap64 ((wrap64 ((wrap64 ((wrap64 (rd j3 (ji14))) * 131)) + (wrap64 ((wrap64 (rd j3 (Int.tmod (wrap64 ((wrap64 ((wrap64 ((wrap64 (j4 + 1)) - 1)) * 7)) + 3)) (j3.length:Int)))) * 1117)))) + (wrap64 ((wrap64 ((wrap64 (j4 + 1)) - 1)) * 29)))) + (wrap64 ((wrap64 (Int.tdiv (wrap64 ((wrap64 (j4 + 1)) - 1)) (j3.length:Int))) * 53)))) (wrap64 (Int.tdiv (wrap64 ((wrap64 ((wrap64 ((wrap64 ((wrap64 (rd j3 (ji14))) * 131)) + (wrap64 ((wrap64 (rd j3 (Int.tmod (wrap64 ((wrap64 ((wrap64 ((wrap64 (j4 + 1)) - 1)) * 7)) + 3)) (j3.length:Int)))) * 1117)))) + (wrap64 ((wrap64 ((wrap64 (j4 + 1)) - 1)) * 29)))) + (wrap64 ((wrap64 (Int.tdiv (wrap64 ((wrap64 (j4 + 1)) - 1)) (j3.length:Int))) * 53)))) 64))) a1,(wrap64 (j4 + 1))))) else (none)) else (none)) else (none)) else (none))=some (r1,r2):=by first|(rw [hji14] at H;exact H)|(simp only [hji14] at H ⊢;exact H)
   by_cases jj:0≤(ji14)
   ·rw [if_pos jj] at H
    have jJ:decide (0≤(ji14))=true:=decide_eq_true jj
    clear jj
    by_cases jk:(ji14) < (j3.length:Int)
    ·rw [if_pos jk] at H
     have jK:decide ((ji14) < (j3.length:Int))=true:=decide_eq_true jk
     clear jk
     obtain ⟨ji17,hji17⟩:∃ j_:Int,(Int.tmod (wrap64 ((wrap64 ((wrap64 ((wrap64 (j4 + 1)) - 1)) * 7)) + 3)) (j3.length:Int))=j_:=⟨_,rfl⟩
     replace H:(if 0≤(ji17) then (if (ji17) < (j3.length:Int) then (if a1=0 then (none) else (some (Int.tmod (Go.bits .xor .i64 (wrap64 ((wrap64 ((wrap64 ((wrap64 ((wrap64 (rd j3 (ji14))) * 131)) + (wrap64 ((wrap64 (rd j3 (ji17))) * 1117)))) + (wrap64 ((wrap64 ((wrap64 (j4 + 1)) - 1)) * 29)))) + (wrap64 ((wrap64 (Int.tdiv (wrap64 ((wrap64 (j4 + 1)) - 1)) (j3.length:Int))) * 53)))) (wrap64 (Int.tdiv (wrap64 ((wrap64 ((wrap64 ((wrap64 ((wrap64 (rd j3 (ji14))) * 131)) + (wrap64 ((wrap64 (rd j3 (ji17))) * 1117)))) + (wrap64 ((wrap64 ((wrap64 (j4 + 1)) - 1)) * 29)))) + (wrap64 ((wrap64 (Int.tdiv (wrap64 ((wrap64 (j4 + 1)) - 1)) (j3.length:Int))) * 53)))) 64))) a1,(wrap64 (j4 + 1))))) else (none)) else (none))=some (r1,r2):=by first|(rw [hji17] at H;exact H)|(simp only [hji17] at H ⊢;exact H)
     by_cases jl:0≤(ji17)
     ·rw [if_pos jl] at H
      have jL:decide (0≤(ji17))=true:=decide_eq_true jl
      clear jl
      by_cases jm:(ji17) < (j3.length:Int)
      ·rw [if_pos jm] at H
       have jM:decide ((ji17) < (j3.length:Int))=true:=decide_eq_true jm
       clear jm
       by_cases jn:a1=0
       ·rw [if_pos jn] at H
        exact absurd H (by simp)
       rw [if_neg jn] at H
       have jN:(a1 == 0)=false:=beq_eq_false_iff_ne.mpr jn
       have jO:(a1 != 0)=true:=bne_iff_ne.mpr jn
       simp only [Option.some.injEq,Prod.mk.injEq] at H
       obtain ⟨rfl,rfl⟩:=H
       obtain ⟨ASz21_0,cSz21_0,HGz21,hgz21,HSz21_0⟩:=HI0.out
       have jo:=wY HGz21
       have jp:=wZ HGz21
       have jq:=aU HGz21 1
       clear HGz21 hgz21
       have jx:0≤((ji14):Int):=of_decide_eq_true fV
       have jy:(ji14) < (j3.length:Int):=of_decide_eq_true fV
       obtain ⟨jz,jS,j8⟩:=Kd.nM HSz21_0 (ji14) jx jy
       cases jS
       replace j8:=bV HB.out j8
       replace jx:=eq_true jx
       replace jy:=eq_true jy
       have jA:0≤((ji17):Int):=of_decide_eq_true fV
       have jB:(ji17) < (j3.length:Int):=of_decide_eq_true fV
       obtain ⟨jC,jT,j9⟩:=Kd.nM HSz21_0 (ji17) jA jB
       obtain rfl:jz=jC:=(by injection jT)
       replace j9:=bV HB.out j9
       replace jA:=eq_true jA
       replace jB:=eq_true jB
       go_wp2
       repeat (go_quiet (fail);try go_wp2)
       go_ret
       exact ⟨by first|rfl|(simp [nI,nJ] <;> rfl)|(simp only [← hji14,← hji17];first|rfl|(simp [nI,nJ] <;> rfl))|(simp [*,nI,nJ] <;> rfl),gG,iU,fI⟩
      rw [if_neg jm] at H
      exact absurd H (by simp)
     rw [if_neg jl] at H
     exact absurd H (by simp)
    rw [if_neg jk] at H
    exact absurd H (by simp)
   rw [if_neg jj] at H
   exact absurd H (by simp)
theorem iZ.calls (a0:Int) (j9:Int) (ja:Int) (P1_2_:Nat→Prop) (je:Option Addr) (jf:Nat) (j6:List (S32)) (jb:Int) (jc:Int) (P2_2_:Nat→Prop) (jg:Option Addr) (jh:Nat) (j7:List (S32)) (r1:Int) (r2:Int) (r3:List (S32)) (w:World) (hs1_2:Kd.V k32 32 w w.heap.size (fun k_=>P1_2_ k_) (.slice je j6.length jf) j6) (hs2_2:Kd.V k32 32 w w.heap.size (fun k_=>P2_2_ k_) (.slice jg j7.length jh) j7) (h:iZ.f a0 j9 ja j6 jb jc j7=some (r1,r2,r3)):
  Calls Try.prog 43 #[.int .i64 a0, .agg #[.int .i64 j9, .int .i64 ja, .slice je j6.length jf], .agg #[.int .i64 jb, .int .i64 jc, .slice jg j7.length jh]] w fun e w'=>∃ v2_:Value,e= .returned (.agg #[.int .i64 r1, .int .i64 r2,v2_])∧Kd.N k32 32 w' w.heap.size (fun k_=>((P1_2_ k_∨P2_2_ k_)∨w.heap.size≤k_)) v2_ r3∧Below w.heap.size w w':=by
 have hu32:=Try.underlying32
 have HO1_2:=am (show Kd.V k32 32 w w.heap.size (fun k_=>((P1_2_ k_∨P2_2_ k_)∨w.heap.size≤k_)) (.slice je j6.length jf) j6 from Kd.oP hs1_2 (fun k_ hk=> .inl (.inl hk)))
 have HO2_2:=am (show Kd.V k32 32 w w.heap.size (fun k_=>((P1_2_ k_∨P2_2_ k_)∨w.heap.size≤k_)) (.slice jg j7.length jh) j7 from Kd.oP hs2_2 (fun k_ hk=> .inl (.inr hk)))
 have HB:=am (Below.refl w.heap.size w)
 have H:(some (a0,0,(([(⟨j9,ja,j6⟩:S32),(⟨jb,jc,j7⟩:S32)]:List (S32)))))=some (r1,r2,r3):=h
 clear h
 obtain ⟨jF,hy_⟩:∃ y_:List (S32),y_=(([(⟨j9,ja,j6⟩:S32),(⟨jb,jc,j7⟩:S32)]:List (S32))):=⟨_,rfl⟩
 replace H:(some (a0,0,jF))=some (r1,r2,r3):=rx_
 have jp:=am hy_
 clear hy_
 simp only [Option.some.injEq,Prod.mk.injEq] at H
 obtain ⟨rfl,rfl,rfl⟩:=H
 go_enter Try.func43,Try.ntmps43
 go_wp2_with (first|((with_reducible refine cZ (N:=4) rfl ?_);refine dO rfl (N:=4) rfl (cs:=#[.int .i64 j9, .int .i64 ja, .slice je j6.length jf]) (t:=32) rn_ ?_;intro j4 hg w4 hbox hb;replace HO1_2:=am (Kd.rY (Kd.uX (by (with_reducible repeat (first|apply Kd.kS|apply Kd.kT|apply Kd.mG));exact HO1_2.out) j4 (Nat.le_of_eq hg.symm)) hb);replace HO2_2:=am (Kd.rY (Kd.uX (by (with_reducible repeat (first|apply Kd.kS|apply Kd.kT|apply Kd.mG));exact HO2_2.out) j4 (Nat.le_of_eq hg.symm)) hb);have j8:=am (hbox);have jP:=am ((by rw [hg];exact (aJ fU):w.heap.size≤j4));have GE21:=am ((by rw [hg];exact (aJ fU):w.heap.size≤j4));replace HB:=am (aD fU hb);clear hb hbox hg)|((with_reducible refine cZ (N:=5) rfl ?_);refine dO rfl (N:=5) rfl (cs:=#[.int .i64 jb, .int .i64 jc, .slice jg j7.length jh]) (t:=32) rn_ ?_;intro j5 hg w5 hbox hb;replace HO1_2:=am (Kd.rY (Kd.uX (by (with_reducible repeat (first|apply Kd.kS|apply Kd.kT|apply Kd.mG));exact HO1_2.out) j5 (Nat.le_of_eq hg.symm)) hb);replace HO2_2:=am (Kd.rY (Kd.uX (by (with_reducible repeat (first|apply Kd.kS|apply Kd.kT|apply Kd.mG));exact HO2_2.out) j5 (Nat.le_of_eq hg.symm)) hb);have jd:=am (hbox);have jQ:=am ((by rw [hg];exact (aJ wJ):w.heap.size≤j5));have GE22:=am ((by rw [hg];exact (aJ wJ):w.heap.size≤j5));replace HB:=am (aD wJ hb);have jj:=am ((by rw [hg];exact Nat.ne_of_lt (gN j8.out):j4≠j5));have jk:=am ((by rw [hg];exact Nat.ne_of_gt (gN j8.out):j5≠j4));replace j8:=bbP j8 hb;clear hb hbox hg)|((with_reducible refine cZ (N:=6) rfl ?_);refine dO rfl (N:=6) rfl (cs:=#[.int .i64 0, .int .i64 0, .slice none 0 0]) (t:=32) rn_ ?_;intro j3 hg w6 hbox hb;replace HO1_2:=am (Kd.rY (Kd.uX (by (with_reducible repeat (first|apply Kd.kS|apply Kd.kT|apply Kd.mG));exact HO1_2.out) j3 (Nat.le_of_eq hg.symm)) hb);replace HO2_2:=am (Kd.rY (Kd.uX (by (with_reducible repeat (first|apply Kd.kS|apply Kd.kT|apply Kd.mG));exact HO2_2.out) j3 (Nat.le_of_eq hg.symm)) hb);have ji:=am (hbox);have jR:=am ((by rw [hg];exact (aJ MV):w.heap.size≤j3));have GE23:=am ((by rw [hg];exact (aJ MV):w.heap.size≤j3));replace HB:=am (aD MV hb);have jl:=am ((by rw [hg];exact Nat.ne_of_lt (gN j8.out):j4≠j3));have jm:=am ((by rw [hg];exact Nat.ne_of_gt (gN j8.out):j3≠j4));replace j8:=bbP j8 hb;have jn:=am ((by rw [hg];exact Nat.ne_of_lt (gN jd.out):j5≠j3));have jo:=am ((by rw [hg];exact Nat.ne_of_gt (gN jd.out):j3≠j5));replace jd:=bbP jd hb;clear hb hbox hg;have jS:=jj.out;have jT:=jk.out;have jU:=jl.out;have jV:=jm.out;obtain ⟨jG,jH,jI,jJ,jK,jL⟩:=gF j8.out;have jN:=jn.out;have jO:=jo.out;obtain ⟨jt,ju,jv,jw,jx,jy⟩:=gF jd.out)|((with_reducible refine cZ (N:=10) rfl ?_);refine Kd.oV k32 _ 32 rfl (N':=10) rfl (xs:=([(⟨j9,ja,j6⟩:S32),(⟨jb,jc,j7⟩:S32)]:List (S32))) (inner:=[.int .i64 j9, .int .i64 ja, .slice je j6.length jf, .int .i64 jb, .int .i64 jc, .slice jg j7.length jh]) (ok:=(fun k_=>((P1_2_ k_∨P2_2_ k_)∨w.heap.size≤k_)∧k_≠j4∧k_≠j5∧k_≠j3)) (okp:=(fun k_=>((P1_2_ k_∨P2_2_ k_)∨w.heap.size≤k_)∧k_≠j4∧k_≠j5∧k_≠j3)) rn_ ?hp (fun _ hk=>hk) ((show ∀ k_,w6.heap.size≤k_→(fun k_=>((P1_2_ k_∨P2_2_ k_)∨w.heap.size≤k_)∧k_≠j4∧k_≠j5∧k_≠j3) k_ from fun k_ hk=>⟨(.inr (Nat.le_trans (aJ OX) hk)),fJ j8.out k_ hk,fJ jd.out k_ hk,fJ ji.out k_ hk⟩) _ (Nat.le_refl _)) (Below.refl _ _) (Nat.le_refl _) (by simp) ?_;(case hp=>exact (eX.c3 (show Kd.FK k32 _ _ (⟨j9,ja,j6⟩:S32) [.int .i64 j9, .int .i64 ja, .slice je j6.length jf] from (uI _ _ (⟨j9,ja,j6⟩:S32) (Kd.wF (Kd.oP (ok':=(fun k_=>((P1_2_ k_∨P2_2_ k_)∨w.heap.size≤k_)∧k_≠j4∧k_≠j5∧k_≠j3)) (HO1_2.out) (fun k_ hk=>⟨hk.1.1.1,⟨hk.1.1.2,⟨hk.1.2,hk.2⟩⟩⟩))).2.1 (Kd.V_F (Kd.oP (ok':=(fun k_=>((P1_2_ k_∨P2_2_ k_)∨w.heap.size≤k_)∧k_≠j4∧k_≠j5∧k_≠j3)) (HO1_2.out) (fun k_ hk=>⟨hk.1.1.1,⟨hk.1.1.2,⟨hk.1.2,hk.2⟩⟩⟩))))) (eX.c3 (show Kd.FK k32 _ _ (⟨jb,jc,j7⟩:S32) [.int .i64 jb, .int .i64 jc, .slice jg j7.length jh] from (uI _ _ (⟨jb,jc,j7⟩:S32) (Kd.wF (Kd.oP (ok':=(fun k_=>((P1_2_ k_∨P2_2_ k_)∨w.heap.size≤k_)∧k_≠j4∧k_≠j5∧k_≠j3)) (HO2_2.out) (fun k_ hk=>⟨hk.1.1.1,⟨hk.1.1.2,⟨hk.1.2,hk.2⟩⟩⟩))).2.1 (Kd.V_F (Kd.oP (ok':=(fun k_=>((P1_2_ k_∨P2_2_ k_)∨w.heap.size≤k_)∧k_≠j4∧k_≠j5∧k_≠j3)) (HO2_2.out) (fun k_ hk=>⟨hk.1.1.1,⟨hk.1.1.2,⟨hk.1.2,hk.2⟩⟩⟩))))) (eX.none _ _))));intro jW jX ho13 hb hg_ hnew_;clear hg_ hnew_;(first|rw [← jp.out] at ho13|(simp only [Int.reduceToNat] at ho13;rw [← jp.out] at ho13));replace HO1_2:=am (Kd.sJ (by (with_reducible repeat (first|apply Kd.kS|apply Kd.kT|apply Kd.mG));exact HO1_2.out) (Kd.dD ho13) hb);replace HO2_2:=am (Kd.sJ (by (with_reducible repeat (first|apply Kd.kS|apply Kd.kT|apply Kd.mG));exact HO2_2.out) (Kd.dD ho13) hb);have jq:=am (Kd.dF ho13 (aJ OX));replace j8:=bbP j8 hb;replace jd:=bbP jd hb;replace ji:=bbP ji hb;replace HB:=am (aD OX hb);clear hb ho13;obtain ⟨jr,js,jM⟩:=Kd.dG jq.out;subst jM;obtain ⟨jz,jA,jB,jC,jD,jE⟩:=gF ji.out))
 refine bodyPost_ret (results_cell_row rfl _ _ j3 32 #[.int .i64 a0, .int .i64 0, .slice jr jF.length js] (0,0) _ rfl (aM (aM (aM ji.out 0 _ rfl) 1 _ rfl) 2 _ rfl) Try.underlying32 rfl (by kernel_rfl)) rfl ?_
 exact ⟨_,iI,eO (Kd.aG (Kd.aT (p:=⟨j3,2,none⟩) (Kd.aT (p:=⟨j3,1,none⟩) (Kd.aT (p:=⟨j3,0,none⟩) (Kd.aG jq.out (fun k_ hk=>(⟨hk,hk.2.2.2⟩:_∧k_≠j3))) (fun _ hk=>hk.2) (.int .i64 a0)) (fun _ hk=>hk.2) (.int .i64 0)) (fun _ hk=>hk.2) (.slice jr jF.length js)) (fun _ hk=>hk.1.1)),OX⟩
theorem iT.mono:∀ a0 a1 k,LeO (iT.f k a0 a1) (iT.f (k + 1) a0 a1):=by
 intro a0 a1 k
 unfold iT.f
 have m0:=@aH.mono
 exact mo_
theorem iT.calls (k:Nat) (g:Nat) (j3:List Int) (j4:Int) (r1:Int) (r2:Int) (w0 w:World) (hI:aQ w0 w g j3 j4) (hB:Below w0.heap.size w0 w) (h:iT.f k j3 j4=some (r1,r2)):
  Calls Try.prog 44 #[.pointer (some ⟨g,0,none⟩)] w fun e w'=>e= .returned (.int .i64 r1)∧aQ w0 w' g j3 r2∧Below w0.heap.size w0 w'∧aI w w' g none:=by
 have HI0:=am hI
 have HK:=am (aI.refl w g none)
 have HL:=am hB.size
 clear hI
 have HW0:=am hB.size
 have HB:=am hB
 clear hB
 have H:((aH.f k j3 j4 12).bind fun j5=>(some (wrap64 (1 + j5.1),j5.2)))=some (r1,r2):=h
 clear h
 obtain ⟨⟨j6,j7⟩,A2,H⟩:=bsa H
 (try dsimp only at H)
 simp only [Option.some.injEq,Prod.mk.injEq] at H
 obtain ⟨rfl,rfl⟩:=H
 go_enter Try.func44,Try.ntmps44
 go_wp2_with (first|((with_reducible refine aN (f:=41) rfl ?_);refine gl_ 4 Try.func41 #[.pointer (some ⟨g,0,none⟩), .int .i64 12] ?_;(with_reducible refine (aH.calls k g j3 j4 12 j6 j7 w0 _ ?side1 ?side2 A2.out).mono ?_);(case side1=>exact gG);(case side2=>exact iU);rintro e w3 ⟨rfl,hi,hb,hk⟩;refine ⟨_,rfl,?_⟩;replace HK:=am (aI.trans fI hk (.inl rfl));replace HB:=am (hb);replace HI0:=am (hi);(try clear hb);(try clear hk);(try clear hi)))
 go_ret
 exact ⟨rr_,gG,iU,fI⟩
theorem fG.calls (a0:Int) (a1:Int) (r1:Int) (r2:Int) (r3:List (S32)) (w:World) (h:fG.f a0 a1=some (r1,r2,r3)):
  Calls Try.prog 45 #[.int .i64 a0, .int .i64 a1] w fun e w'=>∃ v2_:Value,e= .returned (.agg #[.int .i64 r1, .int .i64 r2,v2_])∧Kd.R k32 32 w' w.heap.size (fun _=>True) v2_ r3∧Below w.heap.size w w':=by
 have hu32:=Try.underlying32
 have HB:=am (Below.refl w.heap.size w)
 have H:(some (a0,a1,(([]:List (S32)))))=some (r1,r2,r3):=h
 clear h
 obtain ⟨j7,hy_⟩:∃ y_:List (S32),y_=(([]:List (S32))):=⟨_,rfl⟩
 replace H:(some (a0,a1,j7))=some (r1,r2,r3):=rx_
 have j5:=am hy_
 clear hy_
 simp only [Option.some.injEq,Prod.mk.injEq] at H
 obtain ⟨rfl,rfl,rfl⟩:=H
 go_enter Try.func45,Try.ntmps45
 go_wp2_with (first|((with_reducible refine cZ (N:=4) rfl ?_);refine dO rfl (N:=4) rfl (cs:=#[.int .i64 0, .int .i64 0, .slice none 0 0]) (t:=32) rn_ ?_;intro j3 hg w3 hbox hb;have j4:=am (hbox);have jg:=am ((by rw [hg];exact (aJ fU):w.heap.size≤j3));have GE21:=am ((by rw [hg];exact (aJ fU):w.heap.size≤j3));replace HB:=am (aD fU hb);clear hb hbox hg)|((with_reducible refine cZ (N:=7) rfl ?_);refine Kd.CO k32 _ 32 rfl (N:=7) rfl (xs:=([]:List (S32))) (inner:=[]) (ok:=fun _=>True) (okp:=fun _=>True) rn_ ?hp (fun _ hk=>hk) trivial (Below.refl _ _) (Nat.le_refl _) (by simp) ?_;(case hp=>exact (eX.none _ _));intro ji w4 ho5 hb hg_ hnew_;clear hg_ hnew_;(first|rw [← j5.out] at ho5|(simp only [Int.reduceToNat] at ho5;rw [← j5.out] at ho5));have j6:=am (Kd.kP (Kd.IZ ho5 (g:=j3) (o:= .cells #[.int .i64 0, .int .i64 0, .slice none 0 0] 32 (0,0)) (aG_ j4.out)) (aJ wJ));replace j4:=bbP j4 hb;replace HB:=am (aD wJ hb);clear hb ho5;obtain ⟨je,jf,jh⟩:=Kd.lF j6.out;subst jh;obtain ⟨j8,j9,ja,jb,jc,jd⟩:=gF j4.out))
 refine bodyPost_ret (results_cell_row rfl _ _ j3 32 #[.int .i64 a0, .int .i64 a1, .slice je j7.length jf] (0,0) _ rfl (aM (aM (aM j4.out 0 _ rfl) 1 _ rfl) 2 _ rfl) Try.underlying32 rfl (by kernel_rfl)) rfl ?_
 exact ⟨_,iI,iH (Kd.dL (Kd.eH (p:=⟨j3,2,none⟩) (Kd.eH (p:=⟨j3,1,none⟩) (Kd.eH (p:=⟨j3,0,none⟩) (Kd.dL j6.out (fun k_ hk=>(⟨hk,hk.2⟩:_∧k_≠j3))) (fun _ hk=>hk.2) (.int .i64 a0)) (fun _ hk=>hk.2) (.int .i64 a1)) (fun _ hk=>hk.2) (.slice je j7.length jf)) (fun _ hk=>trivial)),wJ⟩
theorem gV.mono:∀ a0 a1 k,LeO (gV.f k a0 a1) (gV.f (k + 1) a0 a1):=by
 intro a0 a1 k
 unfold gV.f
 have m0:=@aH.mono
 exact mo_
theorem gV.calls (k:Nat) (g:Nat) (j5:List Int) (j9:Int) (r1:Int) (r2:Int) (r3:List (S32)) (r4:Int) (w0 w:World) (hI:aQ w0 w g j5 j9) (hB:Below w0.heap.size w0 w) (h:gV.f k j5 j9=some (r1,r2,r3,r4)):
  Calls Try.prog 75 #[.pointer (some ⟨g,0,none⟩)] w fun e w'=>∃ v2_:Value,e= .returned (.agg #[.int .i64 r1, .int .i64 r2,v2_])∧Kd.R k32 32 w' w.heap.size (fun _=>True) v2_ r3∧aQ w0 w' g j5 r4∧Below w0.heap.size w0 w'∧aI w w' g none:=by
 have hu32:=Try.underlying32
 have HI0:=am hI
 have HK:=am (aI.refl w g none)
 have HL:=am hB.size
 clear hI
 have HW0:=am hB.size
 have HB:=am hB
 clear hB
 have H:((aH.f k j5 j9 4).bind fun jb=>(if jb.1=0 then ((aH.f k j5 jb.2 4).bind fun jj=>((fG.f 0 jj.1).bind fun jf=>(some (jf.1,jf.2.1,jf.2.2,jj.2)))) else (if jb.1=1 then ((some (([5,31,32,100,2047,2048,65536,99999]:List Int):List Int)).bind fun jd=>((aH.f k j5 jb.2 8).bind fun j7=>(if 0≤j7.1 then (if j7.1 < (jd.length:Int) then ((fG.f 0 (rd jd j7.1)).bind fun j8=>(some (j8.1,j8.2.1,j8.2.2,j7.2))) else (none)) else (none)))) else ((aH.f k j5 jb.2 4).bind fun jk=>((fG.f 13 jk.1).bind fun jg=>(some (jg.1,jg.2.1,jg.2.2,jk.2)))))))=some (r1,r2,r3,r4):=h
 clear h
 obtain ⟨⟨jc,ji⟩,A2,H⟩:=bsa H
 (try dsimp only at H)
 have HH_:=am H
 clear H
 go_enter Try.func75,Try.ntmps75
 go_upto_region 2 with (first|((with_reducible refine cZ (N:=2) rfl ?_);refine dO rfl (N:=2) rfl (cs:=#[.int .i64 0, .int .i64 0, .slice none 0 0]) (t:=32) rn_ ?_;intro j3 hg w6 hbox hb;replace HB:=am (aD iU hb);have j4:=am (hbox);have GW48:=am ((by rw [hg];exact (aW (w:=w) (g:=g) (row:=none) fI):w.heap.size≤j3));have GE48:=am ((Nat.le_trans HW0.out (by rw [hg];exact (aW (w:=w) (g:=g) (row:=none) fI):w.heap.size≤j3):w0.heap.size≤j3));replace HK:=am (aI.trans fI (aI.of_below hb g none) (.inl rfl));have NB0_48:=am ((by rw [hg];exact Nat.ne_of_lt (aQ.lt (show aQ w0 _ g j5 j9 from gG)):g≠j3));have j6:=am ((by rw [hg];exact Nat.ne_of_gt (aQ.lt (show aQ w0 _ g j5 j9 from gG)):j3≠g));replace HI0:=am (aQ.below gG hb);clear hb hbox hg)|((with_reducible refine aN (f:=41) rfl ?_);refine gl_ 4 Try.func41 #[.pointer (some ⟨g,0,none⟩), .int .i64 4] ?_;(with_reducible refine (aH.calls k g j5 j9 4 jc ji w0 _ ?side1 ?side2 A2.out).mono ?_);(case side1=>exact vS);(case side2=>exact wI);rintro e w7 ⟨rfl,hi,hb,hk⟩;refine ⟨_,rfl,?_⟩;replace j4:=am (aI.blk hk (g':=j3) (o:= .cells #[.int .i64 0, .int .i64 0, .slice none 0 0] 32 (0,0)) (aG_ j4.out) j6.out (by simp));replace HK:=am (aI.trans tN hk (.inl rfl));replace HB:=am (hb);replace HI0:=am (hi);(try clear hb);(try clear hk);(try clear hi)))
 have H:=HH_.out
 clear HH_
 by_cases c3:jc=0
 ·rw [if_pos c3] at H
  have jR:(jc == 0)=true:=beq_iff_eq.mpr c3
  have jS:(jc != 0)=false:=bne_eq_false_iff_eq.mpr c3
  clear c3
  obtain ⟨⟨jT,qn⟩,A4,H⟩:=bsa H
  (try dsimp only at H)
  obtain ⟨⟨jU,jV,jW⟩,A5,H⟩:=bsa H
  (try dsimp only at H)
  simp only [Option.some.injEq,Prod.mk.injEq] at H
  obtain ⟨rfl,rfl,rfl,rfl⟩:=H
  go_wp2_with (first|((with_reducible refine aN (f:=41) rfl ?_);refine gl_ 8 Try.func41 #[.pointer (some ⟨g,0,none⟩), .int .i64 4] ?_;(with_reducible refine (aH.calls k g j5 ji 4 jT qn w0 _ ?side1 ?side2 A4.out).mono ?_);(case side1=>exact vS);(case side2=>exact wI);rintro e w8 ⟨rfl,hi,hb,hk⟩;refine ⟨_,rfl,?_⟩;replace j4:=am (aI.blk hk (g':=j3) (o:= .cells #[.int .i64 0, .int .i64 0, .slice none 0 0] 32 (0,0)) (aG_ j4.out) j6.out (by simp));replace HK:=am (aI.trans tN hk (.inl rfl));replace HB:=am (hb);replace HI0:=am (hi);(try clear hb);(try clear hk);(try clear hi))|((with_reducible refine aN (f:=45) rfl ?_);refine gl_ 9 Try.func45 #[.int .i64 0, .int .i64 jT] ?_;(with_reducible refine (fG.calls 0 jT jU jV jW _ A5.out).mono ?_);rintro e w9 ⟨qy,rfl,ho0,hb⟩;refine ⟨_,rfl,?_⟩;have jl:=am (Kd.kP (Kd.IZ ho0 (g:=j3) (o:= .cells #[.int .i64 0, .int .i64 0, .slice none 0 0] 32 (0,0)) (aG_ j4.out)) (aW (w:=w) (g:=g) (row:=none) tN));replace j4:=bbP j4 hb;replace HK:=am (aI.trans tN (aI.of_below hb g none) (.inl rfl));replace HB:=am (aD wI hb);replace HI0:=am (aQ.below vS hb);(try clear hb);(try clear ho0);have qb:=j6.out;have qc:=NB0_48.out;obtain ⟨jx,jy,jz,jA,jB,jC⟩:=gF j4.out;obtain ⟨jm,jn,jX⟩:=Kd.lF jl.out;subst jX))
  refine bodyPost_ret (results_cell_row rfl _ _ j3 32 #[.int .i64 jU, .int .i64 jV, .slice jm jW.length jn] (0,0) _ rfl (aM (aM (aM j4.out 0 _ rfl) 1 _ rfl) 2 _ rfl) Try.underlying32 rfl (by kernel_rfl)) rfl ?_
  exact ⟨_,iI,iH (Kd.dL (Kd.eH (p:=⟨j3,2,none⟩) (Kd.eH (p:=⟨j3,1,none⟩) (Kd.eH (p:=⟨j3,0,none⟩) (Kd.dL jl.out (fun k_ hk=>(⟨hk,hk.2⟩:_∧k_≠j3))) (fun _ hk=>hk.2) (.int .i64 jU)) (fun _ hk=>hk.2) (.int .i64 jV)) (fun _ hk=>hk.2) (.slice jm jW.length jn)) (fun _ hk=>trivial)),vS,wI,tN⟩
 rw [if_neg c3] at H
 have jR:(jc == 0)=false:=beq_eq_false_iff_ne.mpr c3
 have jS:(jc != 0)=true:=bne_iff_ne.mpr c3
 by_cases jh:jc=1
 ·rw [if_pos jh] at H
  have jo:(jc == 1)=true:=beq_iff_eq.mpr jh
  have jp:(jc != 1)=false:=bne_eq_false_iff_eq.mpr jh
  clear jh
  obtain ⟨jd,hy_⟩:∃ y_:List Int,y_=(([5,31,32,100,2047,2048,65536,99999]:List Int)):=⟨_,rfl⟩
  replace H:((aH.f k j5 ji 8).bind fun j7=>(if 0≤j7.1 then (if j7.1 < (jd.length:Int) then ((fG.f 0 (rd jd j7.1)).bind fun j8=>(some (j8.1,j8.2.1,j8.2.2,j7.2))) else (none)) else (none)))=some (r1,r2,r3,r4):=rx_
  have jq:=am hy_
  clear hy_
  obtain ⟨⟨je,qo⟩,qd,H⟩:=bsm H
  (try dsimp only at H)
  have qp:=am qd
  clear qd
  by_cases jD:0≤je
  ·rw [if_pos jD] at H
   have qe:decide (0≤je)=true:=decide_eq_true jD
   clear jD
   by_cases jE:je < (jd.length:Int)
   ·rw [if_pos jE] at H
    have qf:decide (je < (jd.length:Int))=true:=decide_eq_true jE
    clear jE
    obtain ⟨⟨jY,jZ,q0⟩,qg,H⟩:=bsm H
    (try dsimp only at H)
    have qq:=am qg
    clear qg
    simp only [Option.some.injEq,Prod.mk.injEq] at H
    obtain ⟨rfl,rfl,rfl,rfl⟩:=H
    go_wp2_with (first|((with_reducible refine cZ (N:=12) rfl ?_);refine Kd.CO (Kd.int .i64) _ 3 rfl (N:=12) rfl (xs:=([5,31,32,100,2047,2048,65536,99999]:List Int)) (inner:=[.int .i64 5, .int .i64 31, .int .i64 32, .int .i64 100, .int .i64 2047, .int .i64 2048, .int .i64 65536, .int .i64 99999]) (ok:=fun _=>True) (okp:=fun _=>True) rn_ ?hp (fun _ hk=>hk) trivial (Below.refl _ _) (Nat.le_refl _) (by simp) ?_;(case hp=>exact (eX.one (show Kd.M (Kd.int .i64) _ _ _ 5 [.int .i64 5] from rfl) (eX.one (show Kd.M (Kd.int .i64) _ _ _ 31 [.int .i64 31] from rfl) (eX.one (show Kd.M (Kd.int .i64) _ _ _ 32 [.int .i64 32] from rfl) (eX.one (show Kd.M (Kd.int .i64) _ _ _ 100 [.int .i64 100] from rfl) (eX.one (show Kd.M (Kd.int .i64) _ _ _ 2047 [.int .i64 2047] from rfl) (eX.one (show Kd.M (Kd.int .i64) _ _ _ 2048 [.int .i64 2048] from rfl) (eX.one (show Kd.M (Kd.int .i64) _ _ _ 65536 [.int .i64 65536] from rfl) (eX.one (show Kd.M (Kd.int .i64) _ _ _ 99999 [.int .i64 99999] from rfl) (eX.none _ _))))))))));intro qz qA ho21 hb hg_ hnew_;clear hg_ hnew_;(first|rw [← jq.out] at ho21|(simp only [Int.reduceToNat] at ho21;rw [← jq.out] at ho21));have ja:=am (Kd.kP ho21 (aW (w:=w) (g:=g) (row:=none) tN));replace j4:=bbP j4 hb;replace HK:=am (aI.trans tN (aI.of_below hb g none) (.inl rfl));replace HB:=am (aD wI hb);replace HI0:=am (aQ.below vS hb);clear hb ho21)|((with_reducible refine aN (f:=41) rfl ?_);refine gl_ 14 Try.func41 #[.pointer (some ⟨g,0,none⟩), .int .i64 8] ?_;(with_reducible refine (aH.calls k g j5 ji 8 je qo w0 _ ?side1 ?side2 qp.out).mono ?_);(case side1=>exact vS);(case side2=>exact wI);rintro e qB ⟨rfl,hi,hb,hk⟩;refine ⟨_,rfl,?_⟩;replace j4:=am (aI.blk hk (g':=j3) (o:= .cells #[.int .i64 0, .int .i64 0, .slice none 0 0] 32 (0,0)) (aG_ j4.out) j6.out (by simp));replace ja:=am (Kd.dL (Kd.mF (aQ.apart (show aQ w0 _ g j5 ji from vS) (aR_ ja.out) (by decide)) hk (fun _ h=>h.2)) (fun _ h=>h.1));replace HK:=am (aI.trans tN hk (.inl rfl));replace HB:=am (hb);replace HI0:=am (hi);(try clear hb);(try clear hk);(try clear hi);obtain ⟨qr,qs,q1⟩:=Kd.lF ja.out;subst q1;have q2:0≤(je:Int):=of_decide_eq_true fV;have q3:je < (jd.length:Int):=of_decide_eq_true fV;obtain ⟨qt,qu,q4⟩:=Kd.nM (Kd.fE ja.out).2.2 je q2 q3;cases qu;replace q2:=eq_true q2;replace q3:=eq_true q3)|((with_reducible refine aN (f:=45) rfl ?_);refine gl_ 17 Try.func45 #[.int .i64 0, .int .i64 (rd jd je)] ?_;(with_reducible refine (fG.calls 0 (rd jd je) jY jZ q0 _ qq.out).mono ?_);rintro e qC ⟨qD,rfl,ho0,hb⟩;refine ⟨_,rfl,?_⟩;replace ja:=am (Kd.eG (aR_ ja.out) hb);have jr:=am (Kd.kP (Kd.IZ ho0 (g:=j3) (o:= .cells #[.int .i64 0, .int .i64 0, .slice none 0 0] 32 (0,0)) (aG_ j4.out)) (aW (w:=w) (g:=g) (row:=none) tN));replace j4:=bbP j4 hb;replace HK:=am (aI.trans tN (aI.of_below hb g none) (.inl rfl));replace HB:=am (aD wI hb);replace HI0:=am (aQ.below vS hb);(try clear hb);(try clear ho0);have qh:=j6.out;have qi:=NB0_48.out;obtain ⟨jF,jG,jH,jI,jJ,jK⟩:=gF j4.out;obtain ⟨js,jt,q5⟩:=Kd.lF jr.out;subst q5))
    refine bodyPost_ret (results_cell_row rfl _ _ j3 32 #[.int .i64 jY, .int .i64 jZ, .slice js q0.length jt] (0,0) _ rfl (aM (aM (aM j4.out 0 _ rfl) 1 _ rfl) 2 _ rfl) Try.underlying32 rfl (by kernel_rfl)) rfl ?_
    exact ⟨_,iI,iH (Kd.dL (Kd.eH (p:=⟨j3,2,none⟩) (Kd.eH (p:=⟨j3,1,none⟩) (Kd.eH (p:=⟨j3,0,none⟩) (Kd.dL jr.out (fun k_ hk=>(⟨hk,hk.2⟩:_∧k_≠j3))) (fun _ hk=>hk.2) (.int .i64 jY)) (fun _ hk=>hk.2) (.int .i64 jZ)) (fun _ hk=>hk.2) (.slice js q0.length jt)) (fun _ hk=>trivial)),vS,wI,tN⟩
   rw [if_neg jE] at H
   exact absurd H (by simp)
  rw [if_neg jD] at H
  exact absurd H (by simp)
 rw [if_neg jh] at H
 have jo:(jc == 1)=false:=beq_eq_false_iff_ne.mpr jh
 have jp:(jc != 1)=true:=bne_iff_ne.mpr jh
 obtain ⟨⟨q6,qv⟩,qj,H⟩:=bsm H
 (try dsimp only at H)
 have qw:=am qj
 clear qj
 obtain ⟨⟨q7,q8,q9⟩,qk,H⟩:=bsm H
 (try dsimp only at H)
 have qx:=am qk
 clear qk
 simp only [Option.some.injEq,Prod.mk.injEq] at H
 obtain ⟨rfl,rfl,rfl,rfl⟩:=H
 go_wp2_with (first|((with_reducible refine aN (f:=41) rfl ?_);refine gl_ 19 Try.func41 #[.pointer (some ⟨g,0,none⟩), .int .i64 4] ?_;(with_reducible refine (aH.calls k g j5 ji 4 q6 qv w0 _ ?side1 ?side2 qw.out).mono ?_);(case side1=>exact vS);(case side2=>exact wI);rintro e qE ⟨rfl,hi,hb,hk⟩;refine ⟨_,rfl,?_⟩;replace j4:=am (aI.blk hk (g':=j3) (o:= .cells #[.int .i64 0, .int .i64 0, .slice none 0 0] 32 (0,0)) (aG_ j4.out) j6.out (by simp));replace HK:=am (aI.trans tN hk (.inl rfl));replace HB:=am (hb);replace HI0:=am (hi);(try clear hb);(try clear hk);(try clear hi))|((with_reducible refine aN (f:=45) rfl ?_);refine gl_ 20 Try.func45 #[.int .i64 13, .int .i64 q6] ?_;(with_reducible refine (fG.calls 13 q6 q7 q8 q9 _ qx.out).mono ?_);rintro e qF ⟨qG,rfl,ho0,hb⟩;refine ⟨_,rfl,?_⟩;have ju:=am (Kd.kP (Kd.IZ ho0 (g:=j3) (o:= .cells #[.int .i64 0, .int .i64 0, .slice none 0 0] 32 (0,0)) (aG_ j4.out)) (aW (w:=w) (g:=g) (row:=none) tN));replace j4:=bbP j4 hb;replace HK:=am (aI.trans tN (aI.of_below hb g none) (.inl rfl));replace HB:=am (aD wI hb);replace HI0:=am (aQ.below vS hb);(try clear hb);(try clear ho0);have ql:=j6.out;have qm:=NB0_48.out;obtain ⟨jL,jM,jN,jO,jP,jQ⟩:=gF j4.out;obtain ⟨jv,jw,qa⟩:=Kd.lF ju.out;subst qa))
 refine bodyPost_ret (results_cell_row rfl _ _ j3 32 #[.int .i64 q7, .int .i64 q8, .slice jv q9.length jw] (0,0) _ rfl (aM (aM (aM j4.out 0 _ rfl) 1 _ rfl) 2 _ rfl) Try.underlying32 rfl (by kernel_rfl)) rfl ?_
 exact ⟨_,iI,iH (Kd.dL (Kd.eH (p:=⟨j3,2,none⟩) (Kd.eH (p:=⟨j3,1,none⟩) (Kd.eH (p:=⟨j3,0,none⟩) (Kd.dL ju.out (fun k_ hk=>(⟨hk,hk.2⟩:_∧k_≠j3))) (fun _ hk=>hk.2) (.int .i64 q7)) (fun _ hk=>hk.2) (.int .i64 q8)) (fun _ hk=>hk.2) (.slice jv q9.length jw)) (fun _ hk=>trivial)),vS,wI,tN⟩
theorem bJ.mono_l:∀ k,(∀ y0 y1 y2,LeO (bJ.f k y0 y1 y2) (bJ.f (k + 1) y0 y1 y2))∧(∀ y0 y1 y2 y3,LeO (bJ.j0 k y0 y1 y2 y3) (bJ.j0 (k + 1) y0 y1 y2 y3))
 |0=>⟨fun _ _ _ r h=>by simp [bJ.f] at h,fun _ _ _ _ r h=>by simp [bJ.j0] at h⟩
 |k + 1=>by
  obtain ⟨ih0,ih1⟩:=bJ.mono_l k
  refine ⟨?_,?_⟩
  ·intro y0 y1 y2
   unfold bJ.f
   have m0:=@aH.mono
   have m1:=@gV.mono
   have m2:=@iT.mono
   exact mo_
  ·intro y0 y1 y2 y3
   unfold bJ.j0
   have m0:=@aH.mono
   have m1:=@gV.mono
   have m2:=@iT.mono
   exact mo_
theorem bJ.mono:∀ a0 a1 a2 k,LeO (bJ.f k a0 a1 a2) (bJ.f (k + 1) a0 a1 a2):=by
 intro a0 a1 a2 k
 obtain ⟨ih0,ih1⟩:=bJ.mono_l k
 exact ih0 a0 a1 a2
def bJ.T5:Bool × List (List Nat × List Nat):=(true,[([],[]),([],[]),([],[]),([],[]),([3],[3]),([2,4],[2,4]),([0,1,5,5],[0,1,5]),([6,6,0,1,2,3,4,5,6],[6])])
def bJ.B5:List Nat:=[0,0,0,0,8,28,63,127]
theorem bJ.NW:lC .any (opsOf Try.f76 5)=bJ.T5:=by kernel_rfl
theorem bJ.EK:iJ bJ.T5.2 bJ.B5=true:=by kernel_rfl
theorem bJ.calls (k:Nat):∀ (g:Nat) (j8:List Int) (je:Int) (a1:Int) (r1:Int) (r2:Int) (r3:List (S32)) (r4:Int) (w0 w:World) (hI:aQ w0 w g j8 je) (hB:Below w0.heap.size w0 w) (h:bJ.f k j8 je a1=some (r1,r2,r3,r4)),
  Calls Try.prog 76 #[.pointer (some ⟨g,0,none⟩), .int .i64 a1] w fun e w'=>∃ v2_:Value,e= .returned (.agg #[.int .i64 r1, .int .i64 r2,v2_])∧Kd.N k32 32 w' w.heap.size (fun k_=>(w.heap.size≤k_)) v2_ r3∧aQ w0 w' g j8 r4∧Below w0.heap.size w0 w'∧aI w w' g none:=by
 induction k using Nat.strongRecOn with
 | _ k ih=>
 intro g j8 je a1 r1 r2 r3 r4 w0 w hI hB h
 cases k with
 |zero=>exact absurd h (by simp [bJ.f])
 |succ k=>
 simp only [bJ.f] at h
 have hu32:=Try.underlying32
 have HI0:=am hI
 have HK:=am (aI.refl w g none)
 have HL:=am hB.size
 clear hI
 have HW0:=am hB.size
 have HB:=am hB
 clear hB
 have H:(if a1 < 2 then (bJ.j0 k a1 true j8 je) else ((aH.f k j8 je 3).bind fun jo=>(bJ.j0 k a1 (jo.1 == 0) j8 jo.2)))=some (r1,r2,r3,r4):=h
 clear h
 have jO:=am H
 clear H
 go_enter Try.func76,Try.ntmps76
 go_upto_region 1 with (first|((with_reducible refine cZ (N:=4) rfl ?_);refine dO rfl (N:=4) rfl (cs:=#[.int .i64 0, .int .i64 0, .slice none 0 0]) (t:=32) rn_ ?_;intro j3 hg w4 hbox hb;replace HB:=am (aD iU hb);have j5:=am (hbox);have GW35:=am ((by rw [hg];exact (aW (w:=w) (g:=g) (row:=none) fI):w.heap.size≤j3));have GE35:=am ((Nat.le_trans HW0.out (by rw [hg];exact (aW (w:=w) (g:=g) (row:=none) fI):w.heap.size≤j3):w0.heap.size≤j3));replace HK:=am (aI.trans fI (aI.of_below hb g none) (.inl rfl));have NB0_35:=am ((by rw [hg];exact Nat.ne_of_lt (aQ.lt (show aQ w0 _ g j8 je from gG)):g≠j3));have jd:=am ((by rw [hg];exact Nat.ne_of_gt (aQ.lt (show aQ w0 _ g j8 je from gG)):j3≠g));replace HI0:=am (aQ.below gG hb);clear hb hbox hg))
 (try simp only [Act.put,List.setIfInBounds_toArray,List.set_cons_zero,List.set_cons_succ])
 go_cut [13] (fun qk wc=>∃ (kq:Nat) (jh:Bool) (jg:Int),qk= .bool jh∧Aside0 (bJ.j0 kq a1 jh j8 jg=some (r1,r2,r3,r4))∧Aside0 (kq≤k)∧Aside0 (wc.heap[j3]?=some (.cells #[.int .i64 0, .int .i64 0,(.slice none 0 0)] 32 (0,0)))∧Aside0 (aQ w0 wc g j8 jg)∧Aside0 (aI w wc g none)∧Aside0 (Below w0.heap.size w0 wc))
 case first=>
  have H:=jO.out
  clear jO
  by_cases c5:a1 < 2
  ·rw [if_pos c5] at H
   have jk:decide (a1 < 2)=true:=decide_eq_true c5
   clear c5
   (first|rw [jk]|(simp only [dN,dU];rw [jk])|skip)
   have H':=am H
   clear H
   go_wp2
   go_meet
   case rel=>exact ⟨_,(true),(je),sd_,H',⟨by first|omega|exact Nat.le_refl _⟩,⟨by (with_reducible repeat (first|refine dI ?_ _|refine bK ?_|refine bY ?_ _));exact j5.out⟩,⟨vU⟩,⟨uF⟩,⟨CU⟩⟩
  rw [if_neg c5] at H
  have jk:decide (a1 < 2)=false:=decide_eq_false c5
  clear c5
  (first|rw [jk]|(simp only [dN,dU];rw [jk])|skip)
  obtain ⟨⟨q7,q8⟩,A6,H⟩:=bsa H
  (try dsimp only at H)
  have H':=am H
  clear H
  go_wp2_with (first|(go_at_call 41;(with_reducible refine (aH.calls k g j8 je 3 q7 q8 w0 _ ?side1 ?side2 A6.out).mono ?_);(case side1=>exact vU);(case side2=>exact CU);rintro e w7 ⟨rfl,hi,hb,hk⟩;replace j5:=am (aI.blk hk (g':=j3) (o:= .cells #[.int .i64 0, .int .i64 0, .slice none 0 0] 32 (0,0)) (aG_ j5.out) jd.out (by simp));replace HK:=am (aI.trans uF hk (.inl rfl));replace HB:=am (hb);replace HI0:=am (hi);(try clear hb);(try clear hk);(try clear hi)))
  go_meet
  case rel=>exact ⟨_,((q7 == 0)),(q8),sd_,H',⟨by first|omega|exact Nat.le_refl _⟩,⟨by (with_reducible repeat (first|refine dI ?_ _|refine bK ?_|refine bY ?_ _));exact j5.out⟩,⟨vU⟩,⟨uF⟩,⟨CU⟩⟩
 case rest=>
  clear jO
  obtain ⟨kq,jh,jg,rfl,HA,HJ2,j5,HI0,HK,HB⟩:=hcut
  cases kq with
  |zero=>exact absurd HA.out (by simp [bJ.j0])
  |succ jA=>
   have H:=HA.out
   clear HA
   simp only [bJ.j0] at H
   by_cases c8:jh=true
   ·subst c8
    rw [if_pos rfl] at H
    obtain ⟨⟨jP,jQ,jR,ql⟩,A9,H⟩:=bsa H
    (try dsimp only at H)
    simp only [Option.some.injEq,Prod.mk.injEq] at H
    obtain ⟨rfl,rfl,rfl,rfl⟩:=H
    go_wp2_with (first|((with_reducible refine aN (f:=75) rfl ?_);refine gl_ 15 Try.func75 #[.pointer (some ⟨g,0,none⟩)] ?_;(with_reducible refine (gV.calls jA g j8 jg jP jQ jR ql w0 _ ?side1 ?side2 A9.out).mono ?_);(case side1=>exact vU);(case side2=>exact CU);rintro e qv ⟨qw,rfl,ho0,hi,hb,hk⟩;refine ⟨_,rfl,?_⟩;have jp:=am (Kd.dF (Kd.aG (ok':=fun k_=>(w.heap.size≤k_)∧k_≠j3∧k_≠g) (Kd.R_N (Kd.mP ho0)) (fun k_ hk_=>⟨(Nat.le_trans (aW (w:=w) (g:=g) (row:=none) uF) hk_.2.1),(fJ j5.out k_ hk_.2.1),(aQ.fresh vU k_ hk_.2.1)⟩)) (aW (w:=w) (g:=g) (row:=none) uF));replace j5:=am (aI.blk hk (g':=j3) (o:= .cells #[.int .i64 0, .int .i64 0, .slice none 0 0] 32 (0,0)) (aG_ j5.out) jd.out (by simp));replace HK:=am (aI.trans uF hk (.inl rfl));replace HB:=am (hb);replace HI0:=am (hi);(try clear hb);(try clear hk);(try clear hi);(try clear ho0);have q9:=jd.out;have qa:=NB0_35.out;obtain ⟨jB,jC,jD,jE,jF,jG⟩:=gF j5.out;obtain ⟨jq,jr,jS⟩:=Kd.dG jp.out;subst jS))
    refine bodyPost_ret (results_cell_row rfl _ _ j3 32 #[.int .i64 jP, .int .i64 jQ, .slice jq jR.length jr] (0,0) _ rfl (aM (aM (aM j5.out 0 _ rfl) 1 _ rfl) 2 _ rfl) Try.underlying32 rfl (by kernel_rfl)) rfl ?_
    exact ⟨_,iI,eO (Kd.aG (Kd.aT (p:=⟨j3,2,none⟩) (Kd.aT (p:=⟨j3,1,none⟩) (Kd.aT (p:=⟨j3,0,none⟩) (Kd.aG jp.out (fun k_ hk=>(⟨hk,hk.2.1⟩:_∧k_≠j3))) (fun _ hk=>hk.2) (.int .i64 jP)) (fun _ hk=>hk.2) (.int .i64 jQ)) (fun _ hk=>hk.2) (.slice jq jR.length jr)) (fun _ hk=>hk.1.1)),vU,CU,uF⟩
   replace c8:=Bool.eq_false_iff.mpr c8
   subst c8
   rw [if_neg (show ¬ (false=true) by decide)] at H
   obtain ⟨⟨jT,qb⟩,qc,H⟩:=bsm H
   (try dsimp only at H)
   have qm:=am qc
   clear qc
   obtain ⟨⟨ji,jj,jf,js⟩,qd,H⟩:=bsm H
   (try dsimp only at H)
   have qn:=am qd
   clear qd
   obtain ⟨⟨jU,jV,jH,qo⟩,qe,H⟩:=bsm H
   (try dsimp only at H)
   have qp:=am qe
   clear qe
   obtain ⟨⟨jW,jX,jY⟩,qf,H⟩:=bsm H
   (try dsimp only at H)
   have qq:=am qf
   clear qf
   simp only [Option.some.injEq,Prod.mk.injEq] at H
   obtain ⟨rfl,rfl,rfl,rfl⟩:=H
   try go_wp2_with (first|((with_reducible refine aN (f:=44) rfl ?_);refine gl_ 17 Try.func44 #[.pointer (some ⟨g,0,none⟩)] ?_;(with_reducible refine (iT.calls jA g j8 jg jT qb w0 _ ?side1 ?side2 qm.out).mono ?_);(case side1=>exact vU);(case side2=>exact CU);rintro e qx ⟨rfl,hi,hb,hk⟩;refine ⟨_,rfl,?_⟩;replace j5:=am (aI.blk hk (g':=j3) (o:= .cells #[.int .i64 0, .int .i64 0, .slice none 0 0] 32 (0,0)) (aG_ j5.out) jd.out (by simp));replace HK:=am (aI.trans uF hk (.inl rfl));replace HB:=am (hb);replace HI0:=am (hi);(try clear hb);(try clear hk);(try clear hi))|((with_reducible refine aN (f:=76) rfl ?_);refine gl_ 21 Try.func76 #[.pointer (some ⟨g,0,none⟩), .int .i64 (wrap64 (a1 - 1))] ?_;(with_reducible refine (ih jA (by have:=HJ2.out;omega) g j8 qb (wrap64 (a1 - 1)) ji jj jf js w0 _ ?side1 ?side2 qn.out).mono ?_);(case side1=>exact vU);(case side2=>exact CU);rintro e qy ⟨qz,rfl,ho0,hi,hb,hk⟩;refine ⟨_,rfl,?_⟩;have ja:=am (Kd.dF (Kd.aG (ok':=fun k_=>(w.heap.size≤k_)∧k_≠j3∧k_≠g) ho0 (fun k_ hk_=>⟨(Nat.le_trans (aW (w:=w) (g:=g) (row:=none) uF) hk_),(fJ j5.out k_ hk_),(aQ.fresh vU k_ hk_)⟩)) (aW (w:=w) (g:=g) (row:=none) uF));replace j5:=am (aI.blk hk (g':=j3) (o:= .cells #[.int .i64 0, .int .i64 0, .slice none 0 0] 32 (0,0)) (aG_ j5.out) jd.out (by simp));replace HK:=am (aI.trans uF hk (.inl rfl));replace HB:=am (hb);replace HI0:=am (hi);(try clear hb);(try clear hk);(try clear hi);(try clear ho0))|((with_reducible refine cZ (N:=6) rfl ?_);refine dO rfl (N:=6) rfl (cs:=#[.int .i64 0, .int .i64 0, .slice none 0 0]) (t:=32) rn_ ?_;intro j4 hg jn hbox hb;replace ja:=am (Kd.dS (Kd.gU (aN_ ja.out) j4 (Nat.le_of_eq hg.symm)) hb);replace HB:=am (aD CU hb);have j7:=am (hbox);have GW66:=am ((by rw [hg];exact (aW (w:=w) (g:=g) (row:=none) uF):w.heap.size≤j4));have GE66:=am ((Nat.le_trans HW0.out (by rw [hg];exact (aW (w:=w) (g:=g) (row:=none) uF):w.heap.size≤j4):w0.heap.size≤j4));replace HK:=am (aI.trans uF (aI.of_below hb g none) (.inl rfl));have j9:=am ((by rw [hg];exact Nat.ne_of_lt (gN j5.out):j3≠j4));have j6:=am ((by rw [hg];exact Nat.ne_of_gt (gN j5.out):j4≠j3));replace j5:=bbP j5 hb;have NB0_66:=am ((by rw [hg];exact Nat.ne_of_lt (aQ.lt (show aQ w0 _ g j8 js from vU)):g≠j4));have jl:=am ((by rw [hg];exact Nat.ne_of_gt (aQ.lt (show aQ w0 _ g j8 js from vU)):j4≠g));replace HI0:=am (aQ.below vU hb);clear hb hbox hg;have qg:=j6.out;have qh:=j9.out;have qi:=jl.out;have qj:=NB0_66.out;obtain ⟨jI,jJ,jK,jL,jM,jN⟩:=gF j7.out;obtain ⟨jb,jc,jZ⟩:=Kd.dG ja.out;subst jZ))
   have q0:Aside0 (Kd.N k32 32 (((jn.setCell ⟨j4,0,none⟩ (.int .i64 ji)).setCell ⟨j4,1,none⟩ (.int .i64 jj)).setCell ⟨j4,2,none⟩ (.slice jb jf.length jc)) w.heap.size (fun k_=>(w.heap.size≤k_)∧k_≠j3∧k_≠g∧k_≠j4) (.slice jb jf.length jc) jf):=⟨eO (Kd.aG (Kd.aT (p:=⟨j4,2,none⟩) (Kd.aT (p:=⟨j4,1,none⟩) (Kd.aT (p:=⟨j4,0,none⟩) (Kd.aG ja.out (fun k_ hk=>(⟨hk,hk.2⟩:_∧k_≠j4))) (fun _ hk=>hk.2) (.int .i64 ji)) (fun _ hk=>hk.2) (.int .i64 jj)) (fun _ hk=>hk.2) (.slice jb jf.length jc)) (fun _ hk=>⟨hk.1.1.1,⟨hk.1.1.2.1,⟨hk.1.1.2.2,hk.1.2⟩⟩⟩))⟩
   have q1:Aside0 ((((jn.setCell ⟨j4,0,none⟩ (.int .i64 ji)).setCell ⟨j4,1,none⟩ (.int .i64 jj)).setCell ⟨j4,2,none⟩ (.slice jb jf.length jc)).heap[j3]?=some (.cells #[.int .i64 0, .int .i64 0, .slice none 0 0] 32 (0,0))):=⟨(bC (bC (bC j5.out j9.out _) j9.out _) j9.out _)⟩
   have q2:Aside0 ((((jn.setCell ⟨j4,0,none⟩ (.int .i64 ji)).setCell ⟨j4,1,none⟩ (.int .i64 jj)).setCell ⟨j4,2,none⟩ (.slice jb jf.length jc)).heap[j4]?=some (.cells #[.int .i64 ji, .int .i64 jj, .slice jb jf.length jc] 32 (0,0))):=⟨(aM (aM (aM j7.out 0 _ rfl) 1 _ rfl) 2 _ rfl)⟩
   have q3:Aside0 (aQ w0 (((jn.setCell ⟨j4,0,none⟩ (.int .i64 ji)).setCell ⟨j4,1,none⟩ (.int .i64 jj)).setCell ⟨j4,2,none⟩ (.slice jb jf.length jc)) g j8 js):=⟨GJ⟩
   have q4:Aside0 (aI w (((jn.setCell ⟨j4,0,none⟩ (.int .i64 ji)).setCell ⟨j4,1,none⟩ (.int .i64 jj)).setCell ⟨j4,2,none⟩ (.slice jb jf.length jc)) g none):=⟨CQ⟩
   have q5:Aside0 (Below w0.heap.size w0 (((jn.setCell ⟨j4,0,none⟩ (.int .i64 ji)).setCell ⟨j4,1,none⟩ (.int .i64 jj)).setCell ⟨j4,2,none⟩ (.slice jb jf.length jc))):=⟨OW⟩
   (try clear ja)
   (try clear j5)
   (try clear j7)
   (try clear HI0)
   (try clear HK)
   (try clear HB)
   generalize (((jn.setCell ⟨j4,0,none⟩ (.int .i64 ji)).setCell ⟨j4,1,none⟩ (.int .i64 jj)).setCell ⟨j4,2,none⟩ (.slice jb jf.length jc))=qr at q0 q1 q2 q3 q4 q5 ⊢
   have ja:=q0
   have j5:=q1
   have j7:=q2
   have HI0:=q3
   have HK:=q4
   have HB:=q5
   clear q0 q1 q2 q3 q4 q5
   replace ja:=am (Kd.kV ja.out)
   replace j5:=am (bK j5.out)
   replace j7:=am (bK j7.out)
   replace HI0:=am (aQ.drew HI0.out)
   replace HK:=am (gY HK.out)
   replace HB:=am (bG HB.out)
   refine lK (n:=8) (S:=fun w'=>w'.cell? ⟨j4,0,none⟩=some (.int .i64 ji)∧w'.cell? ⟨j4,1,none⟩=some (.int .i64 jj)∧w'.cell? ⟨j4,2,none⟩=some (.slice jb jf.length jc)) (ds:=[]) (bz 8 0) (by kernel_rfl) rfl rfl ⟨(aC j7.out 0).trans rfl,(aC j7.out 1).trans rfl,(aC j7.out 2).trans rfl⟩ (fun hHeld=>?_);refine iF bJ.NW bJ.EK (fun HT_ HW_=>?_)
   generalize qr.drew=qA at ja j5 j7 HI0 HK HB hHeld ⊢
   refine pr_ 0 22 (bz 8 1) HT_ ?_
   refine pr_ 2 24 (bz 8 5) HT_ ?_
   refine pr_ 3 25 (bz 8 13) HT_ ?_
   refine pr_ 4 26 (bz 8 29) HT_ ?_
   refine aAj 1 23 (bz 8 31) HT_ HW_ hHeld ?_
   refine kN (i:=5) (N:=some 27) (bz 8 63) rfl rfl (fQ HT_.out (by kernel_rfl)) (by decide) (fun K hK=>?_)
   refine iP Try.func76 (by kernel_rfl) rfl #[.pointer (some ⟨g,0,none⟩), .int .i64 (wrap64 (a1 - 1))] (by rfl) rfl rfl mO ?_
   with_reducible refine (ih jA (by have:=HJ2.out;omega) g j8 js (wrap64 (a1 - 1)) jU jV jH qo w0 _ ?side1 ?side2 qp.out).mono ?_
   (case side1=>exact GJ)
   (case side2=>exact OW)
   rintro e qB ⟨qC,rfl,ho0,hi,hb,hk⟩
   refine ⟨_,rfl,?_⟩
   have jm:=am (Kd.dF (Kd.aG (ok':=fun k_=>(w.heap.size≤k_)∧some k_≠(.slice jb jf.length jc:Value).ownBlock∧k_≠j3∧k_≠j4∧k_≠g) ho0 (fun k_ hk_=>⟨(Nat.le_trans (aW (w:=w) (g:=g) (row:=none) CQ) hk_),(Kd.fresh' (Kd.iN (aN_ ja.out)) k_ hk_),(fJ j5.out k_ hk_),(fJ j7.out k_ hk_),(aQ.fresh GJ k_ hk_)⟩)) (aW (w:=w) (g:=g) (row:=none) CQ))
   replace j5:=am (aI.blk hk (g':=j3) (o:= .cells #[.int .i64 0, .int .i64 0, .slice none 0 0] 32 (0,0)) (aG_ j5.out) jd.out (by simp))
   replace ja:=am (Kd.aG (Kd.mQ (Kd.uR (Kd.aG (ok:=fun k_=>(((w.heap.size≤k_))∧(k_≠j3∧(k_≠g∧k_≠j4)))) (aN_ ja.out) (fun k_ hk_=>(⟨hk_,hk_.2.2.1⟩:_∧k_≠g))) hk) (by first|exact Kd.dD ho0|exact Kd.dD (Kd.R_N ho0))) (fun _ h_=>h_.1))
   replace j7:=am (aI.blk hk (g':=j4) (o:= .cells #[.int .i64 ji, .int .i64 jj, .slice jb jf.length jc] 32 (0,0)) (aG_ j7.out) jl.out (by simp))
   replace HK:=am (aI.trans CQ hk (.inl rfl))
   replace HB:=am (hb)
   replace HI0:=am (hi)
   (try clear hb)
   (try clear hb2)
   (try clear hk)
   (try clear hi)
   (try clear ho0)
   obtain ⟨jt,ju,jv⟩:=Kd.dG jm.out
   (first|subst jv|(injection jv with f1_ f2_ f3_;have f4_:=f1_.symm;have f5_:=f3_.symm;clear f1_ f2_ f3_;subst f4_;subst f5_))
   refine hK.out _ _ ⟨(aC j7.out 0).trans rfl,(aC j7.out 1).trans rfl,(aC j7.out 2).trans rfl⟩ (fun hHeld=>?_)
   clear hK K
   refine eT (a':=?_) ?_ ?_
   rotate_left
   ·show Act.put _ (some 27) _=_
    simp only [Act.put,List.setIfInBounds_toArray,List.set_cons_zero,List.set_cons_succ,dN,dU]
    rfl
   refine kN (i:=6) (N:=some 28) (bz 8 127) rfl rfl (fQ HT_.out (by kernel_rfl)) (by decide) (fun K hK=>?_)
   refine iP Try.func43 (by kernel_rfl) rfl #[.int .i64 jT, .agg #[.int .i64 ji, .int .i64 jj, .slice jb jf.length jc], .agg #[.int .i64 jU, .int .i64 jV, .slice jt jH.length ju]] (by rfl) rfl rfl mO ?_
   with_reducible refine (iZ.calls jT ji jj (fun k_=>(((w.heap.size≤k_)∧(k_≠j3∧(k_≠g∧k_≠j4)))∧some k_≠(.slice jt jH.length ju:Value).ownBlock)) _ _ jf jU jV (fun k_=>((w.heap.size≤k_)∧(some k_≠(.slice jb jf.length jc:Value).ownBlock∧(k_≠j3∧(k_≠j4∧k_≠g))))) _ _ jH jW jX jY _ ?side1 ?side2 qq.out).mono ?_
   (case side1=>exact Kd.N_V (ja.out))
   (case side2=>exact Kd.N_V (jm.out))
   rintro e q6 ⟨qD,rfl,ho0,hb⟩
   refine ⟨_,rfl,?_⟩
   replace ja:=am (Kd.eY (aN_ ja.out) (by first|exact Kd.dD ho0|exact Kd.dD (Kd.R_N ho0)) hb)
   replace jm:=am (Kd.eY (aN_ jm.out) (by first|exact Kd.dD ho0|exact Kd.dD (Kd.R_N ho0)) hb)
   have jw:=am (Kd.dF (Kd.aG (ok':=fun k_=>(w.heap.size≤k_)∧k_≠j3∧k_≠j4∧k_≠g) ho0 (fun k_ hk_=>⟨Or.elim hk_ (fun hs_=>Or.elim hs_ (fun hs_=>hs_.1.1) (fun hs_=>hs_.1)) (fun hn_=>(Nat.le_trans (aW (w:=w) (g:=g) (row:=none) CQ) hn_)),Or.elim hk_ (fun hs_=>Or.elim hs_ (fun hs_=>hs_.1.2.1) (fun hs_=>hs_.2.2.1)) (fun hn_=>(fJ j5.out k_ hn_)),Or.elim hk_ (fun hs_=>Or.elim hs_ (fun hs_=>hs_.1.2.2.2) (fun hs_=>hs_.2.2.2.1)) (fun hn_=>(fJ j7.out k_ hn_)),Or.elim hk_ (fun hs_=>Or.elim hs_ (fun hs_=>hs_.1.2.2.1) (fun hs_=>hs_.2.2.2.2)) (fun hn_=>(aQ.fresh GJ k_ hn_))⟩)) (aW (w:=w) (g:=g) (row:=none) CQ))
   replace j5:=bbP j5 hb
   replace j7:=bbP j7 hb
   replace HK:=am (aI.trans CQ (aI.of_below hb g none) (.inl rfl))
   replace HB:=am (aD OW hb)
   replace HI0:=am (aQ.below GJ hb)
   (try clear hb)
   (try clear hb2)
   (try clear hk)
   (try clear hi)
   (try clear ho0)
   obtain ⟨jx,jy,jz⟩:=Kd.dG jw.out
   (first|subst jz|(injection jz with f1_ f2_ f3_;have f4_:=f1_.symm;have f5_:=f3_.symm;clear f1_ f2_ f3_;subst f4_;subst f5_))
   refine hK.out _ _ ⟨(aC j7.out 0).trans rfl,(aC j7.out 1).trans rfl,(aC j7.out 2).trans rfl⟩ (fun hHeld=>?_)
   clear hK K
   refine eT (a':=?_) ?_ ?_
   rotate_left
   ·show Act.put _ (some 28) _=_
    simp only [Act.put,List.setIfInBounds_toArray,List.set_cons_zero,List.set_cons_succ,dN,dU]
    rfl
   refine kN (i:=7) (N:=none) (bz 8 255) rfl rfl (fQ HT_.out (by kernel_rfl)) (by decide) (fun K hK=>?_)
   have qs:q6.cell? ⟨j3,0,none⟩=some (.int .i64 0):=(aC j5.out 0).trans rfl
   have hfs30:=aU j5.out 0
   have hns30_1:=j6.out
   have hms30_1:=j9.out
   have qt:q6.cell? ⟨j3,1,none⟩=some (.int .i64 0):=(aC j5.out 1).trans rfl
   have hfs31:=aU j5.out 1
   have hns31_1:=j6.out
   have hms31_1:=j9.out
   have qu:q6.cell? ⟨j3,2,none⟩=some (.slice none 0 0):=(aC j5.out 2).trans rfl
   have hfs33:=aU j5.out 2
   have hns33_1:=j6.out
   have hms33_1:=j9.out
   refine rP (w1:=?_) (by rfl) rfl ?_ ?_
   rotate_left
   ·go_simp
    rfl
   refine hK.out _ _ ⟨((cell_far (p:=⟨j3,_,none⟩) j6.out _).trans (((cell_far (p:=⟨j3,_,none⟩) j6.out _).trans (((cell_far (p:=⟨j3,_,none⟩) j6.out _).trans (hHeld.1)))))),((cell_far (p:=⟨j3,_,none⟩) j6.out _).trans (((cell_far (p:=⟨j3,_,none⟩) j6.out _).trans (((cell_far (p:=⟨j3,_,none⟩) j6.out _).trans (hHeld.2.1)))))),((cell_far (p:=⟨j3,_,none⟩) j6.out _).trans (((cell_far (p:=⟨j3,_,none⟩) j6.out _).trans (((cell_far (p:=⟨j3,_,none⟩) j6.out _).trans (hHeld.2.2))))))⟩ (fun hHeld=>?_)
   clear hK K
   refine nN (kQ HT_.out (by kernel_rfl)) ?_
   try go_wp2
   refine bodyPost_ret (results_cell_row rfl _ _ j3 32 #[.int .i64 jW, .int .i64 jX, .slice jx jY.length jy] (0,0) _ rfl (aM (aM (aM j5.out 0 _ rfl) 1 _ rfl) 2 _ rfl) Try.underlying32 rfl (by kernel_rfl)) rfl ?_
   exact ⟨_,iI,eO (Kd.aG (Kd.aT (p:=⟨j3,2,none⟩) (Kd.aT (p:=⟨j3,1,none⟩) (Kd.aT (p:=⟨j3,0,none⟩) (Kd.aG jw.out (fun k_ hk=>(⟨hk,hk.2.1⟩:_∧k_≠j3))) (fun _ hk=>hk.2) (.int .i64 jW)) (fun _ hk=>hk.2) (.int .i64 jX)) (fun _ hk=>hk.2) (.slice jx jY.length jy)) (fun _ hk=>hk.1.1)),GJ,OW,CQ⟩
theorem gP.mono:∀ a0 a1 k,LeO (gP.f k a0 a1) (gP.f (k + 1) a0 a1):=by
 intro a0 a1 k
 unfold gP.f
 have m0:=@aH.mono
 have m1:=@bJ.mono
 exact mo_
theorem gP.calls (k:Nat) (g:Nat) (j4:List Int) (j7:Int) (r1:Int) (r2:Int) (r3:Int) (r4:Int) (r5:Int) (r6:List (S32)) (r7:List (S35)) (r8:List (S35)) (r9:Int) (w0 w:World) (hI:aQ w0 w g j4 j7) (hB:Below w0.heap.size w0 w) (h:gP.f k j4 j7=some (r1,r2,r3,r4,r5,r6,r7,r8,r9)):
  Calls Try.prog 103 #[.pointer (some ⟨g,0,none⟩)] w fun e w'=>∃ v5_ v6_ v7_:Value,e= .returned (.agg #[.int .i64 r1, .int .i64 r2, .int .i64 r3, .int .i64 r4, .int .i64 r5,v5_,v6_,v7_])∧Kd.N k32 32 w' w.heap.size (fun k_=>(w.heap.size≤k_)∧some k_≠(v6_:Value).ownBlock∧some k_≠(v7_:Value).ownBlock) v5_ r6∧Kd.N k35 35 w' w.heap.size (fun k_=>(w.heap.size≤k_)∧some k_≠(v5_:Value).ownBlock∧some k_≠(v7_:Value).ownBlock) v6_ r7∧Kd.N k35 35 w' w.heap.size (fun k_=>(w.heap.size≤k_)∧some k_≠(v5_:Value).ownBlock∧some k_≠(v6_:Value).ownBlock) v7_ r8∧aQ w0 w' g j4 r9∧Below w0.heap.size w0 w'∧aI w w' g none:=by
 have hu35:=Try.underlying35
 have HI0:=am hI
 have HK:=am (aI.refl w g none)
 have HL:=am hB.size
 clear hI
 have HW0:=am hB.size
 have HB:=am hB
 clear hB
 have H:((aH.f k j4 j7 3).bind fun j9=>((aH.f k j4 j9.2 3).bind fun ja=>((bJ.f k j4 ja.2 (wrap64 (1 + ja.1))).bind fun j8=>(some (1,j9.1,0,j8.1,j8.2.1,j8.2.2.1,([]:List (S35)),([]:List (S35)),j8.2.2.2)))))=some (r1,r2,r3,r4,r5,r6,r7,r8,r9):=h
 clear h
 obtain ⟨⟨js,jx⟩,A2,H⟩:=bsa H
 (try dsimp only at H)
 obtain ⟨⟨jt,jy⟩,A3,H⟩:=bsa H
 (try dsimp only at H)
 obtain ⟨⟨ju,jv,jw,jD⟩,A4,H⟩:=bsa H
 (try dsimp only at H)
 simp only [Option.some.injEq,Prod.mk.injEq] at H
 obtain ⟨rfl,rfl,rfl,rfl,rfl,rfl,rfl,rfl,rfl⟩:=H
 go_enter Try.func103,Try.ntmps103
 go_wp2_with (first|((with_reducible refine cZ (N:=2) rfl ?_);refine dO rfl (N:=2) rfl (cs:=#[.int .i64 0, .int .i64 0, .int .i64 0, .int .i64 0, .int .i64 0, .slice none 0 0, .slice none 0 0, .slice none 0 0]) (t:=35) rn_ ?_;intro j3 hg w5 hbox hb;replace HB:=am (aD iU hb);have j5:=am (hbox);have GW29:=am ((by rw [hg];exact (aW (w:=w) (g:=g) (row:=none) fI):w.heap.size≤j3));have GE29:=am ((Nat.le_trans HW0.out (by rw [hg];exact (aW (w:=w) (g:=g) (row:=none) fI):w.heap.size≤j3):w0.heap.size≤j3));replace HK:=am (aI.trans fI (aI.of_below hb g none) (.inl rfl));have NB0_29:=am ((by rw [hg];exact Nat.ne_of_lt (aQ.lt (show aQ w0 _ g j4 j7 from gG)):g≠j3));have j6:=am ((by rw [hg];exact Nat.ne_of_gt (aQ.lt (show aQ w0 _ g j4 j7 from gG)):j3≠g));replace HI0:=am (aQ.below gG hb);clear hb hbox hg)|((with_reducible refine aN (f:=41) rfl ?_);refine gl_ 5 Try.func41 #[.pointer (some ⟨g,0,none⟩), .int .i64 3] ?_;(with_reducible refine (aH.calls k g j4 j7 3 js jx w0 _ ?side1 ?side2 A2.out).mono ?_);(case side1=>exact LA);(case side2=>exact OZ);rintro e w6 ⟨rfl,hi,hb,hk⟩;refine ⟨_,rfl,?_⟩;replace j5:=am (aI.blk hk (g':=j3) (o:= .cells #[.int .i64 0, .int .i64 0, .int .i64 0, .int .i64 0, .int .i64 0, .slice none 0 0, .slice none 0 0, .slice none 0 0] 35 (0,0)) (aG_ j5.out) j6.out (by simp));replace HK:=am (aI.trans GU hk (.inl rfl));replace HB:=am (hb);replace HI0:=am (hi);(try clear hb);(try clear hk);(try clear hi))|((with_reducible refine aN (f:=41) rfl ?_);refine gl_ 9 Try.func41 #[.pointer (some ⟨g,0,none⟩), .int .i64 3] ?_;(with_reducible refine (aH.calls k g j4 jx 3 jt jy w0 _ ?side1 ?side2 A3.out).mono ?_);(case side1=>exact LA);(case side2=>exact OZ);rintro e w7 ⟨rfl,hi,hb,hk⟩;refine ⟨_,rfl,?_⟩;replace j5:=am (aI.blk hk (g':=j3) (o:= .cells #[.int .i64 0, .int .i64 0, .int .i64 0, .int .i64 0, .int .i64 0, .slice none 0 0, .slice none 0 0, .slice none 0 0] 35 (0,0)) (aG_ j5.out) j6.out (by simp));replace HK:=am (aI.trans GU hk (.inl rfl));replace HB:=am (hb);replace HI0:=am (hi);(try clear hb);(try clear hk);(try clear hi))|((with_reducible refine aN (f:=76) rfl ?_);refine gl_ 11 Try.func76 #[.pointer (some ⟨g,0,none⟩), .int .i64 (wrap64 (1 + jt))] ?_;(with_reducible refine (bJ.calls k g j4 jy (wrap64 (1 + jt)) ju jv jw jD w0 _ ?side1 ?side2 A4.out).mono ?_);(case side1=>exact LA);(case side2=>exact OZ);rintro e w8 ⟨jF,rfl,ho0,hi,hb,hk⟩;refine ⟨_,rfl,?_⟩;have jb:=am (Kd.dF (Kd.aG (ok':=fun k_=>(w.heap.size≤k_)∧k_≠j3∧k_≠g) ho0 (fun k_ hk_=>⟨(Nat.le_trans (aW (w:=w) (g:=g) (row:=none) GU) hk_),(fJ j5.out k_ hk_),(aQ.fresh LA k_ hk_)⟩)) (aW (w:=w) (g:=g) (row:=none) GU));replace j5:=am (aI.blk hk (g':=j3) (o:= .cells #[.int .i64 0, .int .i64 0, .int .i64 0, .int .i64 0, .int .i64 0, .slice none 0 0, .slice none 0 0, .slice none 0 0] 35 (0,0)) (aG_ j5.out) j6.out (by simp));replace HK:=am (aI.trans GU hk (.inl rfl));replace HB:=am (hb);replace HI0:=am (hi);(try clear hb);(try clear hk);(try clear hi);(try clear ho0);obtain ⟨jz,jA,jE⟩:=Kd.dG jb.out;subst jE;have jB:=j6.out;have jC:=NB0_29.out;obtain ⟨jc,jd,je,jf,jg,jh,ji,jj,jk,jl,jm,jn,jo,jp,jq,jr⟩:=eU j5.out))
 refine bodyPost_ret (results_cell_row rfl _ _ j3 35 #[.int .i64 1, .int .i64 js, .int .i64 0, .int .i64 ju, .int .i64 jv, .slice jz jw.length jA, .slice none 0 0, .slice none 0 0] (0,0) _ rfl (aM (aM (aM (aM (aM (aM (aM (aM j5.out 0 _ rfl) 1 _ rfl) 2 _ rfl) 3 _ rfl) 4 _ rfl) 5 _ rfl) 6 _ rfl) 7 _ rfl) Try.underlying35 rfl (by kernel_rfl)) rfl ?_
 exact ⟨_,_,_,iI,eO (Kd.aG (Kd.aT (p:=⟨j3,7,none⟩) (Kd.aT (p:=⟨j3,6,none⟩) (Kd.aT (p:=⟨j3,5,none⟩) (Kd.aT (p:=⟨j3,4,none⟩) (Kd.aT (p:=⟨j3,3,none⟩) (Kd.aT (p:=⟨j3,2,none⟩) (Kd.aT (p:=⟨j3,1,none⟩) (Kd.aT (p:=⟨j3,0,none⟩) (Kd.aG jb.out (fun k_ hk=>(⟨hk,hk.2.1⟩:_∧k_≠j3))) (fun _ hk=>hk.2) (.int .i64 1)) (fun _ hk=>hk.2) (.int .i64 js)) (fun _ hk=>hk.2) (.int .i64 0)) (fun _ hk=>hk.2) (.int .i64 ju)) (fun _ hk=>hk.2) (.int .i64 jv)) (fun _ hk=>hk.2) (.slice jz jw.length jA)) (fun _ hk=>hk.2) (.slice none 0 0)) (fun _ hk=>hk.2) (.slice none 0 0)) (fun _ hk=>⟨hk.1.1,⟨(by simp [Value.ownBlock]),(by simp [Value.ownBlock])⟩⟩)),by first|exact Kd.oC _ _ _ _ _|exact Kd.sG _ _ _ _ _|exact Kd.sK _ _ _ _ _|exact Kd.sH _ _ _ _ _|exact Kd.sI _ _ _ _ _,by first|exact Kd.oC _ _ _ _ _|exact Kd.sG _ _ _ _ _|exact Kd.sK _ _ _ _ _|exact Kd.sH _ _ _ _ _|exact Kd.sI _ _ _ _ _,LA,OZ,GU⟩
theorem gW.mono:∀ a0 a1 a2 k,LeO (gW.f k a0 a1 a2) (gW.f (k + 1) a0 a1 a2):=by
 intro a0 a1 a2 k
 unfold gW.f
 have m0:=@aH.mono
 have m1:=@bJ.mono
 have m2:=@gP.mono
 exact mo_
theorem gW.calls (k:Nat) (g:Nat) (j6:List Int) (j7:Int) (a1:Int) (r1:Int) (r2:Int) (r3:Int) (r4:Int) (r5:Int) (r6:List (S32)) (r7:List (S35)) (r8:List (S35)) (r9:Int) (w0 w:World) (hI:aQ w0 w g j6 j7) (hB:Below w0.heap.size w0 w) (h:gW.f k j6 j7 a1=some (r1,r2,r3,r4,r5,r6,r7,r8,r9)):
  Calls Try.prog 105 #[.pointer (some ⟨g,0,none⟩), .int .i64 a1] w fun e w'=>∃ v5_ v6_ v7_:Value,e= .returned (.agg #[.int .i64 r1, .int .i64 r2, .int .i64 r3, .int .i64 r4, .int .i64 r5,v5_,v6_,v7_])∧Kd.N k32 32 w' w.heap.size (fun k_=>(w.heap.size≤k_)∧some k_≠(v6_:Value).ownBlock∧some k_≠(v7_:Value).ownBlock) v5_ r6∧Kd.N k35 35 w' w.heap.size (fun k_=>(w.heap.size≤k_)∧some k_≠(v5_:Value).ownBlock∧some k_≠(v7_:Value).ownBlock) v6_ r7∧Kd.N k35 35 w' w.heap.size (fun k_=>(w.heap.size≤k_)∧some k_≠(v5_:Value).ownBlock∧some k_≠(v6_:Value).ownBlock) v7_ r8∧aQ w0 w' g j6 r9∧Below w0.heap.size w0 w'∧aI w w' g none:=by
 have hu35:=Try.underlying35
 have HI0:=am hI
 have HK:=am (aI.refl w g none)
 have HL:=am hB.size
 clear hI
 have HW0:=am hB.size
 have HB:=am hB
 clear hB
 have H:(if a1 < 1 then ((gP.f k j6 j7).bind fun j8=>(some (j8.1,j8.2.1,j8.2.2.1,j8.2.2.2.1,j8.2.2.2.2.1,j8.2.2.2.2.2.1,j8.2.2.2.2.2.2.1,j8.2.2.2.2.2.2.2.1,j8.2.2.2.2.2.2.2.2))) else ((aH.f k j6 j7 a1).bind fun je=>((aH.f k j6 je.2 2).bind fun jf=>(if jf.1=0 then ((aH.f k j6 jf.2 3).bind fun ji=>((bJ.f k j6 ji.2 (wrap64 (1 + ji.1))).bind fun j9=>(some (4,0,je.1,j9.1,j9.2.1,j9.2.2.1,([]:List (S35)),([]:List (S35)),j9.2.2.2)))) else ((aH.f k j6 jf.2 3).bind fun jj=>(some (5,jj.1,je.1,0,0,([]:List (S32)),([]:List (S35)),([]:List (S35)),jj.2)))))))=some (r1,r2,r3,r4,r5,r6,r7,r8,r9):=h
 clear h
 have HH_:=am H
 clear H
 go_enter Try.func105,Try.ntmps105
 go_upto_region 1 with (first|((with_reducible refine cZ (N:=4) rfl ?_);refine dO rfl (N:=4) rfl (cs:=#[.int .i64 0, .int .i64 0, .int .i64 0, .int .i64 0, .int .i64 0, .slice none 0 0, .slice none 0 0, .slice none 0 0]) (t:=35) rn_ ?_;intro j3 hg w5 hbox hb;replace HB:=am (aD iU hb);have j4:=am (hbox);have GW39:=am ((by rw [hg];exact (aW (w:=w) (g:=g) (row:=none) fI):w.heap.size≤j3));have GE39:=am ((Nat.le_trans HW0.out (by rw [hg];exact (aW (w:=w) (g:=g) (row:=none) fI):w.heap.size≤j3):w0.heap.size≤j3));replace HK:=am (aI.trans fI (aI.of_below hb g none) (.inl rfl));have NB0_39:=am ((by rw [hg];exact Nat.ne_of_lt (aQ.lt (show aQ w0 _ g j6 j7 from gG)):g≠j3));have j5:=am ((by rw [hg];exact Nat.ne_of_gt (aQ.lt (show aQ w0 _ g j6 j7 from gG)):j3≠g));replace HI0:=am (aQ.below gG hb);clear hb hbox hg))
 have H:=HH_.out
 clear HH_
 by_cases c3:a1 < 1
 ·rw [if_pos c3] at H
  have qb:decide (a1 < 1)=true:=decide_eq_true c3
  clear c3
  obtain ⟨⟨jk,jl,jm,jn,jo,jp,jq,jr,qO⟩,A4,H⟩:=bsa H
  (try dsimp only at H)
  simp only [Option.some.injEq,Prod.mk.injEq] at H
  obtain ⟨rfl,rfl,rfl,rfl,rfl,rfl,rfl,rfl,rfl⟩:=H
  go_wp2_with (first|((with_reducible refine aN (f:=103) rfl ?_);refine gl_ 9 Try.func103 #[.pointer (some ⟨g,0,none⟩)] ?_;(with_reducible refine (gP.calls k g j6 j7 jk jl jm jn jo jp jq jr qO w0 _ ?side1 ?side2 A4.out).mono ?_);(case side1=>exact tL);(case side2=>exact wH);rintro e w6 ⟨qz,qA,qB,rfl,ho0,ho1,ho2,hi,hb,hk⟩;refine ⟨_,rfl,?_⟩;have js:=am (Kd.dF (Kd.aG (ok':=fun k_=>(w.heap.size≤k_)∧some k_≠(qA:Value).ownBlock∧some k_≠(qB:Value).ownBlock∧k_≠j3∧k_≠g) ho0 (fun k_ hk_=>⟨(Nat.le_trans (aW (w:=w) (g:=g) (row:=none) pY) hk_.1),hk_.2.1,hk_.2.2,(fJ j4.out k_ hk_.1),(aQ.fresh tL k_ hk_.1)⟩)) (aW (w:=w) (g:=g) (row:=none) pY));have jt:=am (Kd.dF (Kd.aG (ok':=fun k_=>(w.heap.size≤k_)∧some k_≠(qz:Value).ownBlock∧some k_≠(qB:Value).ownBlock∧k_≠j3∧k_≠g) ho1 (fun k_ hk_=>⟨(Nat.le_trans (aW (w:=w) (g:=g) (row:=none) pY) hk_.1),hk_.2.1,hk_.2.2,(fJ j4.out k_ hk_.1),(aQ.fresh tL k_ hk_.1)⟩)) (aW (w:=w) (g:=g) (row:=none) pY));have ju:=am (Kd.dF (Kd.aG (ok':=fun k_=>(w.heap.size≤k_)∧some k_≠(qz:Value).ownBlock∧some k_≠(qA:Value).ownBlock∧k_≠j3∧k_≠g) ho2 (fun k_ hk_=>⟨(Nat.le_trans (aW (w:=w) (g:=g) (row:=none) pY) hk_.1),hk_.2.1,hk_.2.2,(fJ j4.out k_ hk_.1),(aQ.fresh tL k_ hk_.1)⟩)) (aW (w:=w) (g:=g) (row:=none) pY));replace j4:=am (aI.blk hk (g':=j3) (o:= .cells #[.int .i64 0, .int .i64 0, .int .i64 0, .int .i64 0, .int .i64 0, .slice none 0 0, .slice none 0 0, .slice none 0 0] 35 (0,0)) (aG_ j4.out) j5.out (by simp));replace HK:=am (aI.trans pY hk (.inl rfl));replace HB:=am (hb);replace HI0:=am (hi);(try clear hb);(try clear hk);(try clear hi);(try clear ho0);(try clear ho1);(try clear ho2);have qP:=j5.out;have qQ:=NB0_39.out;obtain ⟨qc,qd,qe,qf,qg,qh,qi,qj,qk,ql,qm,qn,qo,qp,qq,qr⟩:=eU j4.out;obtain ⟨jB,jC,qR⟩:=Kd.dG js.out;subst qR;obtain ⟨ja,jb,qs⟩:=Kd.dG jt.out;subst qs;obtain ⟨jc,jd,qt⟩:=Kd.dG ju.out;subst qt))
  refine bodyPost_ret (results_cell_row rfl _ _ j3 35 #[.int .i64 jk, .int .i64 jl, .int .i64 jm, .int .i64 jn, .int .i64 jo, .slice jB jp.length jC, .slice ja jq.length jb, .slice jc jr.length jd] (0,0) _ rfl (aM (aM (aM (aM (aM (aM (aM (aM j4.out 0 _ rfl) 1 _ rfl) 2 _ rfl) 3 _ rfl) 4 _ rfl) 5 _ rfl) 6 _ rfl) 7 _ rfl) Try.underlying35 rfl (by kernel_rfl)) rfl ?_
  exact ⟨_,_,_,iI,eO (Kd.aG (Kd.aT (p:=⟨j3,7,none⟩) (Kd.aT (p:=⟨j3,6,none⟩) (Kd.aT (p:=⟨j3,5,none⟩) (Kd.aT (p:=⟨j3,4,none⟩) (Kd.aT (p:=⟨j3,3,none⟩) (Kd.aT (p:=⟨j3,2,none⟩) (Kd.aT (p:=⟨j3,1,none⟩) (Kd.aT (p:=⟨j3,0,none⟩) (Kd.aG js.out (fun k_ hk=>(⟨hk,hk.2.2.2.1⟩:_∧k_≠j3))) (fun _ hk=>hk.2) (.int .i64 jk)) (fun _ hk=>hk.2) (.int .i64 jl)) (fun _ hk=>hk.2) (.int .i64 jm)) (fun _ hk=>hk.2) (.int .i64 jn)) (fun _ hk=>hk.2) (.int .i64 jo)) (fun _ hk=>hk.2) (.slice jB jp.length jC)) (fun _ hk=>hk.2) (.slice ja jq.length jb)) (fun _ hk=>hk.2) (.slice jc jr.length jd)) (fun _ hk=>⟨hk.1.1,⟨hk.1.2.1,hk.1.2.2.1⟩⟩)),eO (Kd.aG (Kd.aT (p:=⟨j3,7,none⟩) (Kd.aT (p:=⟨j3,6,none⟩) (Kd.aT (p:=⟨j3,5,none⟩) (Kd.aT (p:=⟨j3,4,none⟩) (Kd.aT (p:=⟨j3,3,none⟩) (Kd.aT (p:=⟨j3,2,none⟩) (Kd.aT (p:=⟨j3,1,none⟩) (Kd.aT (p:=⟨j3,0,none⟩) (Kd.aG jt.out (fun k_ hk=>(⟨hk,hk.2.2.2.1⟩:_∧k_≠j3))) (fun _ hk=>hk.2) (.int .i64 jk)) (fun _ hk=>hk.2) (.int .i64 jl)) (fun _ hk=>hk.2) (.int .i64 jm)) (fun _ hk=>hk.2) (.int .i64 jn)) (fun _ hk=>hk.2) (.int .i64 jo)) (fun _ hk=>hk.2) (.slice jB jp.length jC)) (fun _ hk=>hk.2) (.slice ja jq.length jb)) (fun _ hk=>hk.2) (.slice jc jr.length jd)) (fun _ hk=>⟨hk.1.1,⟨hk.1.2.1,hk.1.2.2.1⟩⟩)),eO (Kd.aG (Kd.aT (p:=⟨j3,7,none⟩) (Kd.aT (p:=⟨j3,6,none⟩) (Kd.aT (p:=⟨j3,5,none⟩) (Kd.aT (p:=⟨j3,4,none⟩) (Kd.aT (p:=⟨j3,3,none⟩) (Kd.aT (p:=⟨j3,2,none⟩) (Kd.aT (p:=⟨j3,1,none⟩) (Kd.aT (p:=⟨j3,0,none⟩) (Kd.aG ju.out (fun k_ hk=>(⟨hk,hk.2.2.2.1⟩:_∧k_≠j3))) (fun _ hk=>hk.2) (.int .i64 jk)) (fun _ hk=>hk.2) (.int .i64 jl)) (fun _ hk=>hk.2) (.int .i64 jm)) (fun _ hk=>hk.2) (.int .i64 jn)) (fun _ hk=>hk.2) (.int .i64 jo)) (fun _ hk=>hk.2) (.slice jB jp.length jC)) (fun _ hk=>hk.2) (.slice ja jq.length jb)) (fun _ hk=>hk.2) (.slice jc jr.length jd)) (fun _ hk=>⟨hk.1.1,⟨hk.1.2.1,hk.1.2.2.1⟩⟩)),tL,wH,pY⟩
 rw [if_neg c3] at H
 have qb:decide (a1 < 1)=false:=decide_eq_false c3
 clear c3
 obtain ⟨⟨jv,jD⟩,qC,H⟩:=bsm H
 (try dsimp only at H)
 have qD:=am qC
 clear qC
 obtain ⟨⟨jg,jE⟩,qE,H⟩:=bsm H
 (try dsimp only at H)
 have qF:=am qE
 clear qE
 by_cases jh:jg=0
 ·rw [if_pos jh] at H
  have jw:(jg == 0)=true:=beq_iff_eq.mpr jh
  have jx:(jg != 0)=false:=bne_eq_false_iff_eq.mpr jh
  clear jh
  obtain ⟨⟨qu,qG⟩,qH,H⟩:=bsm H
  (try dsimp only at H)
  have qS:=am qH
  clear qH
  obtain ⟨⟨qv,qw,qx,qT⟩,qI,H⟩:=bsm H
  (try dsimp only at H)
  have qU:=am qI
  clear qI
  simp only [Option.some.injEq,Prod.mk.injEq] at H
  obtain ⟨rfl,rfl,rfl,rfl,rfl,rfl,rfl,rfl,rfl⟩:=H
  go_wp2_with (first|((with_reducible refine aN (f:=41) rfl ?_);refine gl_ 12 Try.func41 #[.pointer (some ⟨g,0,none⟩), .int .i64 a1] ?_;(with_reducible refine (aH.calls k g j6 j7 a1 jv jD w0 _ ?side1 ?side2 qD.out).mono ?_);(case side1=>exact tL);(case side2=>exact wH);rintro e qX ⟨rfl,hi,hb,hk⟩;refine ⟨_,rfl,?_⟩;replace j4:=am (aI.blk hk (g':=j3) (o:= .cells #[.int .i64 0, .int .i64 0, .int .i64 0, .int .i64 0, .int .i64 0, .slice none 0 0, .slice none 0 0, .slice none 0 0] 35 (0,0)) (aG_ j4.out) j5.out (by simp));replace HK:=am (aI.trans pY hk (.inl rfl));replace HB:=am (hb);replace HI0:=am (hi);(try clear hb);(try clear hk);(try clear hi))|((with_reducible refine aN (f:=41) rfl ?_);refine gl_ 14 Try.func41 #[.pointer (some ⟨g,0,none⟩), .int .i64 2] ?_;(with_reducible refine (aH.calls k g j6 jD 2 jg jE w0 _ ?side1 ?side2 qF.out).mono ?_);(case side1=>exact tL);(case side2=>exact wH);rintro e qY ⟨rfl,hi,hb,hk⟩;refine ⟨_,rfl,?_⟩;replace j4:=am (aI.blk hk (g':=j3) (o:= .cells #[.int .i64 0, .int .i64 0, .int .i64 0, .int .i64 0, .int .i64 0, .slice none 0 0, .slice none 0 0, .slice none 0 0] 35 (0,0)) (aG_ j4.out) j5.out (by simp));replace HK:=am (aI.trans pY hk (.inl rfl));replace HB:=am (hb);replace HI0:=am (hi);(try clear hb);(try clear hk);(try clear hi))|((with_reducible refine aN (f:=41) rfl ?_);refine gl_ 19 Try.func41 #[.pointer (some ⟨g,0,none⟩), .int .i64 3] ?_;(with_reducible refine (aH.calls k g j6 jE 3 qu qG w0 _ ?side1 ?side2 qS.out).mono ?_);(case side1=>exact tL);(case side2=>exact wH);rintro e qZ ⟨rfl,hi,hb,hk⟩;refine ⟨_,rfl,?_⟩;replace j4:=am (aI.blk hk (g':=j3) (o:= .cells #[.int .i64 0, .int .i64 0, .int .i64 0, .int .i64 0, .int .i64 0, .slice none 0 0, .slice none 0 0, .slice none 0 0] 35 (0,0)) (aG_ j4.out) j5.out (by simp));replace HK:=am (aI.trans pY hk (.inl rfl));replace HB:=am (hb);replace HI0:=am (hi);(try clear hb);(try clear hk);(try clear hi))|((with_reducible refine aN (f:=76) rfl ?_);refine gl_ 21 Try.func76 #[.pointer (some ⟨g,0,none⟩), .int .i64 (wrap64 (1 + qu))] ?_;(with_reducible refine (bJ.calls k g j6 qG (wrap64 (1 + qu)) qv qw qx qT w0 _ ?side1 ?side2 qU.out).mono ?_);(case side1=>exact tL);(case side2=>exact wH);rintro e z0 ⟨z1,rfl,ho0,hi,hb,hk⟩;refine ⟨_,rfl,?_⟩;have jy:=am (Kd.dF (Kd.aG (ok':=fun k_=>(w.heap.size≤k_)∧k_≠j3∧k_≠g) ho0 (fun k_ hk_=>⟨(Nat.le_trans (aW (w:=w) (g:=g) (row:=none) pY) hk_),(fJ j4.out k_ hk_),(aQ.fresh tL k_ hk_)⟩)) (aW (w:=w) (g:=g) (row:=none) pY));replace j4:=am (aI.blk hk (g':=j3) (o:= .cells #[.int .i64 0, .int .i64 0, .int .i64 0, .int .i64 0, .int .i64 0, .slice none 0 0, .slice none 0 0, .slice none 0 0] 35 (0,0)) (aG_ j4.out) j5.out (by simp));replace HK:=am (aI.trans pY hk (.inl rfl));replace HB:=am (hb);replace HI0:=am (hi);(try clear hb);(try clear hk);(try clear hi);(try clear ho0);obtain ⟨jz,jA,qy⟩:=Kd.dG jy.out;subst qy;have qJ:=j5.out;have qK:=NB0_39.out;obtain ⟨jF,jG,jH,jI,jJ,jK,jL,jM,jN,jO,jP,jQ,jR,jS,jT,jU⟩:=eU j4.out))
  refine bodyPost_ret (results_cell_row rfl _ _ j3 35 #[.int .i64 4, .int .i64 0, .int .i64 jv, .int .i64 qv, .int .i64 qw, .slice jz qx.length jA, .slice none 0 0, .slice none 0 0] (0,0) _ rfl (aM (aM (aM (aM (aM (aM (aM (aM j4.out 0 _ rfl) 1 _ rfl) 2 _ rfl) 3 _ rfl) 4 _ rfl) 5 _ rfl) 6 _ rfl) 7 _ rfl) Try.underlying35 rfl (by kernel_rfl)) rfl ?_
  exact ⟨_,_,_,iI,eO (Kd.aG (Kd.aT (p:=⟨j3,7,none⟩) (Kd.aT (p:=⟨j3,6,none⟩) (Kd.aT (p:=⟨j3,5,none⟩) (Kd.aT (p:=⟨j3,4,none⟩) (Kd.aT (p:=⟨j3,3,none⟩) (Kd.aT (p:=⟨j3,2,none⟩) (Kd.aT (p:=⟨j3,1,none⟩) (Kd.aT (p:=⟨j3,0,none⟩) (Kd.aG jy.out (fun k_ hk=>(⟨hk,hk.2.1⟩:_∧k_≠j3))) (fun _ hk=>hk.2) (.int .i64 4)) (fun _ hk=>hk.2) (.int .i64 0)) (fun _ hk=>hk.2) (.int .i64 jv)) (fun _ hk=>hk.2) (.int .i64 qv)) (fun _ hk=>hk.2) (.int .i64 qw)) (fun _ hk=>hk.2) (.slice jz qx.length jA)) (fun _ hk=>hk.2) (.slice none 0 0)) (fun _ hk=>hk.2) (.slice none 0 0)) (fun _ hk=>⟨hk.1.1,⟨(by simp [Value.ownBlock]),(by simp [Value.ownBlock])⟩⟩)),by first|exact Kd.oC _ _ _ _ _|exact Kd.sG _ _ _ _ _|exact Kd.sK _ _ _ _ _|exact Kd.sH _ _ _ _ _|exact Kd.sI _ _ _ _ _,by first|exact Kd.oC _ _ _ _ _|exact Kd.sG _ _ _ _ _|exact Kd.sK _ _ _ _ _|exact Kd.sH _ _ _ _ _|exact Kd.sI _ _ _ _ _,tL,wH,pY⟩
 rw [if_neg jh] at H
 have jw:(jg == 0)=false:=beq_eq_false_iff_ne.mpr jh
 have jx:(jg != 0)=true:=bne_iff_ne.mpr jh
 obtain ⟨⟨qL,qV⟩,qW,H⟩:=bsa H
 (try dsimp only at H)
 simp only [Option.some.injEq,Prod.mk.injEq] at H
 obtain ⟨rfl,rfl,rfl,rfl,rfl,rfl,rfl,rfl,rfl⟩:=H
 go_wp2_with (first|((with_reducible refine aN (f:=41) rfl ?_);refine gl_ 12 Try.func41 #[.pointer (some ⟨g,0,none⟩), .int .i64 a1] ?_;(with_reducible refine (aH.calls k g j6 j7 a1 jv jD w0 _ ?side1 ?side2 qD.out).mono ?_);(case side1=>exact tL);(case side2=>exact wH);rintro e z2 ⟨rfl,hi,hb,hk⟩;refine ⟨_,rfl,?_⟩;replace j4:=am (aI.blk hk (g':=j3) (o:= .cells #[.int .i64 0, .int .i64 0, .int .i64 0, .int .i64 0, .int .i64 0, .slice none 0 0, .slice none 0 0, .slice none 0 0] 35 (0,0)) (aG_ j4.out) j5.out (by simp));replace HK:=am (aI.trans pY hk (.inl rfl));replace HB:=am (hb);replace HI0:=am (hi);(try clear hb);(try clear hk);(try clear hi))|((with_reducible refine aN (f:=41) rfl ?_);refine gl_ 14 Try.func41 #[.pointer (some ⟨g,0,none⟩), .int .i64 2] ?_;(with_reducible refine (aH.calls k g j6 jD 2 jg jE w0 _ ?side1 ?side2 qF.out).mono ?_);(case side1=>exact tL);(case side2=>exact wH);rintro e z3 ⟨rfl,hi,hb,hk⟩;refine ⟨_,rfl,?_⟩;replace j4:=am (aI.blk hk (g':=j3) (o:= .cells #[.int .i64 0, .int .i64 0, .int .i64 0, .int .i64 0, .int .i64 0, .slice none 0 0, .slice none 0 0, .slice none 0 0] 35 (0,0)) (aG_ j4.out) j5.out (by simp));replace HK:=am (aI.trans pY hk (.inl rfl));replace HB:=am (hb);replace HI0:=am (hi);(try clear hb);(try clear hk);(try clear hi))|((with_reducible refine aN (f:=41) rfl ?_);refine gl_ 25 Try.func41 #[.pointer (some ⟨g,0,none⟩), .int .i64 3] ?_;(with_reducible refine (aH.calls k g j6 jE 3 qL qV w0 _ ?side1 ?side2 qW.out).mono ?_);(case side1=>exact tL);(case side2=>exact wH);rintro e z4 ⟨rfl,hi,hb,hk⟩;refine ⟨_,rfl,?_⟩;replace j4:=am (aI.blk hk (g':=j3) (o:= .cells #[.int .i64 0, .int .i64 0, .int .i64 0, .int .i64 0, .int .i64 0, .slice none 0 0, .slice none 0 0, .slice none 0 0] 35 (0,0)) (aG_ j4.out) j5.out (by simp));replace HK:=am (aI.trans pY hk (.inl rfl));replace HB:=am (hb);replace HI0:=am (hi);(try clear hb);(try clear hk);(try clear hi);have qM:=j5.out;have qN:=NB0_39.out;obtain ⟨jV,jW,jX,jY,jZ,q0,q1,q2,q3,q4,q5,q6,q7,q8,q9,qa⟩:=eU j4.out))
 refine bodyPost_ret (results_cell_row rfl _ _ j3 35 #[.int .i64 5, .int .i64 qL, .int .i64 jv, .int .i64 0, .int .i64 0, .slice none 0 0, .slice none 0 0, .slice none 0 0] (0,0) _ rfl (aM (aM (aM (aM (aM (aM (aM (aM j4.out 0 _ rfl) 1 _ rfl) 2 _ rfl) 3 _ rfl) 4 _ rfl) 5 _ rfl) 6 _ rfl) 7 _ rfl) Try.underlying35 rfl (by kernel_rfl)) rfl ?_
 exact ⟨_,_,_,iI,by first|exact Kd.oC _ _ _ _ _|exact Kd.sG _ _ _ _ _|exact Kd.sK _ _ _ _ _|exact Kd.sH _ _ _ _ _|exact Kd.sI _ _ _ _ _,by first|exact Kd.oC _ _ _ _ _|exact Kd.sG _ _ _ _ _|exact Kd.sK _ _ _ _ _|exact Kd.sH _ _ _ _ _|exact Kd.sI _ _ _ _ _,by first|exact Kd.oC _ _ _ _ _|exact Kd.sG _ _ _ _ _|exact Kd.sK _ _ _ _ _|exact Kd.sH _ _ _ _ _|exact Kd.sI _ _ _ _ _,tL,wH,pY⟩
theorem dX.mono_all:∀ k,(∀ y0 y1 y2 y3,LeO (dX.f k y0 y1 y2 y3) (dX.f (k + 1) y0 y1 y2 y3))∧(∀ y0 y1 y2 y3 y4,LeO (bH.f k y0 y1 y2 y3 y4) (bH.f (k + 1) y0 y1 y2 y3 y4))∧(∀ y0 y1 y2 y3 y4 y5 y6,LeO (bH.j0 k y0 y1 y2 y3 y4 y5 y6) (bH.j0 (k + 1) y0 y1 y2 y3 y4 y5 y6))∧(∀ y0 y1 y2 y3 y4,LeO (bH.j1 k y0 y1 y2 y3 y4) (bH.j1 (k + 1) y0 y1 y2 y3 y4))∧(∀ y0 y1 y2 y3 y4,LeO (bH.j2 k y0 y1 y2 y3 y4) (bH.j2 (k + 1) y0 y1 y2 y3 y4))∧(∀ y0 y1 y2 y3 y4 y5,LeO (bU.f k y0 y1 y2 y3 y4 y5) (bU.f (k + 1) y0 y1 y2 y3 y4 y5))∧(∀ y0 y1 y2 y3 y4 y5 y6 y7,LeO (bU.l0 k y0 y1 y2 y3 y4 y5 y6 y7) (bU.l0 (k + 1) y0 y1 y2 y3 y4 y5 y6 y7))∧(∀ y0 y1 y2 y3 y4,LeO (eP.f k y0 y1 y2 y3 y4) (eP.f (k + 1) y0 y1 y2 y3 y4))
 |0=>⟨fun _ _ _ _ r h=>by simp [dX.f] at h,fun _ _ _ _ _ r h=>by simp [bH.f] at h,fun _ _ _ _ _ _ _ r h=>by simp [bH.j0] at h,fun _ _ _ _ _ r h=>by simp [bH.j1] at h,fun _ _ _ _ _ r h=>by simp [bH.j2] at h,fun _ _ _ _ _ _ r h=>by simp [bU.f] at h,fun _ _ _ _ _ _ _ _ r h=>by simp [bU.l0] at h,fun _ _ _ _ _ r h=>by simp [eP.f] at h⟩
 |k + 1=>by
  obtain ⟨ih0,ih1,ih2,ih3,ih4,ih5,ih6,ih7⟩:=dX.mono_all k
  refine ⟨?_,?_,?_,?_,?_,?_,?_,?_⟩
  ·intro y0 y1 y2 y3
   unfold dX.f
   have m0:=@aH.mono
   have m1:=@bJ.mono
   have m2:=@gP.mono
   have m3:=@gW.mono
   exact mo_
  ·intro y0 y1 y2 y3 y4
   unfold bH.f
   have m0:=@aH.mono
   have m1:=@bJ.mono
   have m2:=@gP.mono
   have m3:=@gW.mono
   exact mo_
  ·intro y0 y1 y2 y3 y4 y5 y6
   unfold bH.j0
   have m0:=@aH.mono
   have m1:=@bJ.mono
   have m2:=@gP.mono
   have m3:=@gW.mono
   exact mo_
  ·intro y0 y1 y2 y3 y4
   unfold bH.j1
   have m0:=@aH.mono
   have m1:=@bJ.mono
   have m2:=@gP.mono
   have m3:=@gW.mono
   exact mo_
  ·intro y0 y1 y2 y3 y4
   unfold bH.j2
   have m0:=@aH.mono
   have m1:=@bJ.mono
   have m2:=@gP.mono
   have m3:=@gW.mono
   exact mo_
  ·intro y0 y1 y2 y3 y4 y5
   unfold bU.f
   have m0:=@aH.mono
   have m1:=@bJ.mono
   have m2:=@gP.mono
   have m3:=@gW.mono
   exact mo_
  ·intro y0 y1 y2 y3 y4 y5 y6 y7
   unfold bU.l0
   have m0:=@aH.mono
   have m1:=@bJ.mono
   have m2:=@gP.mono
   have m3:=@gW.mono
   exact mo_
  ·intro y0 y1 y2 y3 y4
   unfold eP.f
   have m0:=@aH.mono
   have m1:=@bJ.mono
   have m2:=@gP.mono
   have m3:=@gW.mono
   exact mo_
theorem dX.mono:∀ a0 a1 a2 a3 k,LeO (dX.f k a0 a1 a2 a3) (dX.f (k + 1) a0 a1 a2 a3):=by
 intro a0 a1 a2 a3 k
 obtain ⟨ih0,ih1,ih2,ih3,ih4,ih5,ih6,ih7⟩:=dX.mono_all k
 exact ih0 a0 a1 a2 a3
theorem bH.mono:∀ a0 a1 a2 a3 a4 k,LeO (bH.f k a0 a1 a2 a3 a4) (bH.f (k + 1) a0 a1 a2 a3 a4):=by
 intro a0 a1 a2 a3 a4 k
 obtain ⟨ih0,ih1,ih2,ih3,ih4,ih5,ih6,ih7⟩:=dX.mono_all k
 exact ih1 a0 a1 a2 a3 a4
theorem bU.mono:∀ a0 a1 a2 a3 a4 a5 k,LeO (bU.f k a0 a1 a2 a3 a4 a5) (bU.f (k + 1) a0 a1 a2 a3 a4 a5):=by
 intro a0 a1 a2 a3 a4 a5 k
 obtain ⟨ih0,ih1,ih2,ih3,ih4,ih5,ih6,ih7⟩:=dX.mono_all k
 exact ih5 a0 a1 a2 a3 a4 a5
theorem eP.mono:∀ a0 a1 a2 a3 a4 k,LeO (eP.f k a0 a1 a2 a3 a4) (eP.f (k + 1) a0 a1 a2 a3 a4):=by
 intro a0 a1 a2 a3 a4 k
 obtain ⟨ih0,ih1,ih2,ih3,ih4,ih5,ih6,ih7⟩:=dX.mono_all k
 exact ih7 a0 a1 a2 a3 a4
abbrev dX.fO (k:Nat):Prop:=∀ (g:Nat) (s0_0:List Int) (s0_1:Int) (a1:Int) (a2:Int) (r1:List (S35)) (r2:Int) (w0 w:World) (hI:aQ w0 w g s0_0 s0_1) (hB:Below w0.heap.size w0 w) (h:dX.f k s0_0 s0_1 a1 a2=some (r1,r2)),
  Calls Try.prog 104 #[.pointer (some ⟨g,0,none⟩), .int .i64 a1, .int .i64 a2] w fun e w'=>∃ v0_:Value,e= .returned (v0_)∧Kd.N k35 35 w' w.heap.size (fun k_=>(w.heap.size≤k_)) v0_ r1∧aQ w0 w' g s0_0 r2∧Below w0.heap.size w0 w'∧aI w w' g none
abbrev bH.fO (k:Nat):Prop:=∀ (g:Nat) (s0_0:List Int) (s0_1:Int) (a1:Int) (a2:Int) (a3:Bool) (r1:List (S35)) (r2:Int) (w0 w:World) (hI:aQ w0 w g s0_0 s0_1) (hB:Below w0.heap.size w0 w) (h:bH.f k s0_0 s0_1 a1 a2 a3=some (r1,r2)),
  Calls Try.prog 93 #[.pointer (some ⟨g,0,none⟩), .int .i64 a1, .int .i64 a2, .bool a3] w fun e w'=>∃ v0_:Value,e= .returned (v0_)∧Kd.N k35 35 w' w.heap.size (fun k_=>(w.heap.size≤k_)) v0_ r1∧aQ w0 w' g s0_0 r2∧Below w0.heap.size w0 w'∧aI w w' g none
abbrev bU.fO (k:Nat):Prop:=∀ (g:Nat) (s0_0:List Int) (s0_1:Int) (a1:Int) (a2:Int) (a3:Int) (a4:Bool) (r1:List (S35)) (r2:Int) (w0 w:World) (hI:aQ w0 w g s0_0 s0_1) (hB:Below w0.heap.size w0 w) (h:bU.f k s0_0 s0_1 a1 a2 a3 a4=some (r1,r2)),
  Calls Try.prog 77 #[.pointer (some ⟨g,0,none⟩), .int .i64 a1, .int .i64 a2, .int .i64 a3, .bool a4] w fun e w'=>∃ v0_:Value,e= .returned (v0_)∧Kd.N k35 35 w' w.heap.size (fun k_=>(w.heap.size≤k_)) v0_ r1∧aQ w0 w' g s0_0 r2∧Below w0.heap.size w0 w'∧aI w w' g none
abbrev eP.fO (k:Nat):Prop:=∀ (g:Nat) (s0_0:List Int) (s0_1:Int) (a1:Int) (a2:Int) (a3:Bool) (r1:Int) (r2:Int) (r3:Int) (r4:Int) (r5:Int) (r6:List (S32)) (r7:List (S35)) (r8:List (S35)) (r9:Int) (w0 w:World) (hI:aQ w0 w g s0_0 s0_1) (hB:Below w0.heap.size w0 w) (h:eP.f k s0_0 s0_1 a1 a2 a3=some (r1,r2,r3,r4,r5,r6,r7,r8,r9)),
  Calls Try.prog 42 #[.pointer (some ⟨g,0,none⟩), .int .i64 a1, .int .i64 a2, .bool a3] w fun e w'=>∃ v5_ v6_ v7_:Value,e= .returned (.agg #[.int .i64 r1, .int .i64 r2, .int .i64 r3, .int .i64 r4, .int .i64 r5,v5_,v6_,v7_])∧Kd.N k32 32 w' w.heap.size (fun k_=>(w.heap.size≤k_)∧some k_≠(v6_:Value).ownBlock∧some k_≠(v7_:Value).ownBlock) v5_ r6∧Kd.N k35 35 w' w.heap.size (fun k_=>(w.heap.size≤k_)∧some k_≠(v5_:Value).ownBlock∧some k_≠(v7_:Value).ownBlock) v6_ r7∧Kd.N k35 35 w' w.heap.size (fun k_=>(w.heap.size≤k_)∧some k_≠(v5_:Value).ownBlock∧some k_≠(v6_:Value).ownBlock) v7_ r8∧aQ w0 w' g s0_0 r9∧Below w0.heap.size w0 w'∧aI w w' g none
theorem KH {P:Program} {ops:Array Oper} {Q:Exit→Act→World→Prop} {n:Nat} {T:Bool × List (List Nat × List Nat)} (hn:ops.size=n) (hT:lC .any ops=T)
  (hac:(List.range n).all (fun i=>match T.2[i]? with|some r=>r.1.all (fun j=>decide (j < i))|none=>false)=true)
  (I:(Nat→Bool)→Act→World→Prop)
  (hstep:∀ (i:Nat) (b:Nat→Bool) (a:Act) (w:World),i < n→b i=false→(∀ r,T.2[i]?=some r→∀ j ∈ r.1,b j=true)→(∀ j r,b j=true→T.2[j]?=some r→∀ q ∈ r.1,b q=true)→I b a w→wpOp P ops Q i (fun a' w'=>I (fun j=>if j=i then true else b j) a' w') a w)
  (hdone:∀ (b:Nat→Bool) (a:Act) (w:World),(∀ j,j < n→b j=true)→I b a w→Q .normal a w)
  (a:Act) (w:World) (h0:I (fun _=>false) a w):wpAny P .any ops Q n (Array.replicate n false) a w:=by
 have key:∀ (fuel:Nat) (l:Array Bool) (a:Act) (w:World),l.size=n→((List.range n).countP (fun j=>!l.getD j false))≤fuel→
   (∀ j r,l.getD j false=true→T.2[j]?=some r→∀ q ∈ r.1,l.getD q false=true)→I (fun j=>l.getD j false) a w→wpAny P .any ops Q fuel l a w:=by
  have all_of:∀ l:Array Bool,l.size=n→Region.ready .any ops l=[]→∀ j,j < n→l.getD j false=true:=by
   intro l hl hr j
   induction j using Nat.strongRecOn with
   | _ j ih=>
   intro hj
   cases hb:l.getD j false with
   |true=>rfl
   |false=>
    have hm:j ∈ Region.ready .any ops l:=by
     rw [ready_eq,hT]
     unfold vL
     have hlen:T.2.length=n:=by rw [← hT,sM,hn]
     rw [List.mem_filter,List.mem_range,hlen]
     refine ⟨hj,?_⟩
     unfold sD
     have e1:l.toList.getD j true=false:=by
      rw [← gd]
      have hlt:j < l.size:=by omega
      simp only [Array.getD_eq_getD_getElem?,Array.getElem?_eq_getElem hlt,Option.getD_some] at hb ⊢
      exact hb
     rw [e1]
     have h1:=List.all_eq_true.1 hac j (List.mem_range.2 hj)
     cases hq:T.2[j]? with
     |none=>rw [hq] at h1;cases h1
     |some r=>
      rw [hq] at h1
      simp only [List.all_eq_true,decide_eq_true_eq] at h1
      simp only [Bool.not_false,Bool.true_and,List.all_eq_true]
      intro q hqm
      rw [← gd]
      exact ih q (h1 q hqm) (by have:=h1 q hqm;omega)
    rw [hr] at hm
    cases hm
  intro fuel
  induction fuel with
  |zero=>
   intro l a w hl hc hcl hI
   have hall:∀ j,j < n→l.getD j false=true:=by
    intro j hj
    have:=List.countP_eq_zero.1 (Nat.le_zero.1 hc) j (List.mem_range.2 hj)
    simpa using this
   refine ⟨?_,hdone _ a w hall hI⟩
   cases hr:Region.ready .any ops l with
   |nil=>rfl
   |cons i rs=>
    have hm:i ∈ Region.ready .any ops l:=by rw [hr];exact List.mem_cons_self
    obtain ⟨h1,o,h2,_⟩:=mem_ready.1 hm
    have hi:i < l.size:=by rw [hl,← hn];exact (Array.getElem?_eq_some_iff.1 h2).1
    have:=hall i (by omega)
    simp only [Array.getD_eq_getD_getElem?,Array.getElem?_eq_getElem hi,Option.getD_some] at h1 this
    rw [h1] at this
    cases this
  |succ fuel ih=>
   intro l a w hl hc hcl hI
   refine ⟨fun hr=>hdone _ a w (all_of l hl hr) hI,fun i hm=>?_⟩
   obtain ⟨h1,o,h2,h3⟩:=mem_ready.1 hm
   have hi:i < n:=by rw [← hn];exact (Array.getElem?_eq_some_iff.1 h2).1
   have hil:i < l.size:=by omega
   have hbi:l.getD i false=false:=by
    simp only [Array.getD_eq_getD_getElem?,Array.getElem?_eq_getElem hil,Option.getD_some] at h1 ⊢
    exact h1
   have hneed:∀ r,T.2[i]?=some r→∀ j ∈ r.1,l.getD j false=true:=by
    intro r hr j hj
    rw [ready_eq,hT] at hm
    unfold vL at hm
    have:=(List.mem_filter.1 hm).2
    unfold sD at this
    rw [hr,Bool.and_eq_true] at this
    have h5:=List.all_eq_true.1 this.2 j hj
    rw [← gd] at h5
    exact h5
   have hf:∀ j,(l.setIfInBounds i true).getD j false=if j=i then true else l.getD j false:=by
    intro j
    by_cases hji:j=i
    ·subst hji
     rw [if_pos rfl]
     simp [Array.getD_eq_getD_getElem?,hil]
    rw [if_neg hji]
    simp [Array.getD_eq_getD_getElem?,Array.getElem?_setIfInBounds,Ne.symm hji]
   refine wpOp_mono (fun a' w' h'=>ih _ a' w' (by rw [Array.size_setIfInBounds];exact hl) ?_ ?_ ?_) (hstep i (fun j=>l.getD j false) a w hi hbi hneed hcl hI)
   ·have hlt:(List.range n).countP (fun j=>!(l.setIfInBounds i true).getD j false) < (List.range n).countP (fun j=>!l.getD j false):=by
     rw [List.countP_eq_length_filter,List.countP_eq_length_filter]
     have hsub:((List.range n).filter (fun j=>!(l.setIfInBounds i true).getD j false))=(((List.range n).filter (fun j=>!l.getD j false)).filter (fun j=>!(j == i))):=by
      rw [List.filter_filter]
      refine List.filter_congr (fun j _=>?_)
      rw [hf j]
      by_cases hji:j=i
      ·subst hji
       simp
      rw [if_neg hji]
      simp [hji]
     rw [hsub]
     have hmem:i ∈ (List.range n).filter (fun j=>!l.getD j false):=List.mem_filter.2 ⟨List.mem_range.2 hi,by rw [hbi];rfl⟩
     exact List.length_filter_lt_length_iff_exists.2 ⟨i,hmem,by simp⟩
    omega
   ·intro j r hj hr q hq
    rw [hf] at hj ⊢
    by_cases hji:j=i
    ·subst hji
     split
     ·rfl
     ·exact hneed r hr q hq
    rw [if_neg hji] at hj
    split
    ·rfl
    ·exact hcl j r hj hr q hq
   ·have:(fun j=>(l.setIfInBounds i true).getD j false)=fun j=>if j=i then true else l.getD j false:=funext hf
    rw [this]
    exact h'
 have hz:∀ j,(Array.replicate n false).getD j false=false:=by
  intro j
  simp only [Array.getD_eq_getD_getElem?,Array.getElem?_replicate]
  split <;> rfl
 refine key n _ a w (by simp) ?_ ?_ ?_
 ·exact Nat.le_trans List.countP_le_length (by rw [List.length_range];exact Nat.le_refl _)
 ·intro j r hj
  rw [hz] at hj
  cases hj
 ·have:(fun j=>(Array.replicate n false).getD j false)=fun _=>false:=funext hz
  rw [this]
  exact h0
theorem zz_ {b:Nat→Bool} {j q:Nat} (h:b j=true→b q=true) (hq:b q=false):b j=false:=by
 cases e:b j with
 |false=>rfl
 |true=>rw [h e] at hq;cases hq
theorem PI {α:Type} (d:Kd α) (e:Nat) (w:World) (base:Nat) (A:Option Addr) (c:Nat):Kd.V d e w base (fun _=>False) (.slice A ([]:List α).length c) []:=
 ⟨A,c,rfl,Nat.zero_le _,fun W' _=>⟨rfl,by simp,fun h=>absurd h (Nat.lt_irrefl 0)⟩⟩
theorem aAc {α:Type} (d:Kd α) (w:World) (ok:Nat→Prop) (A:Option Addr):Kd.F d w ok A ([]:List α).length []:=fun W' _=>⟨rfl,by simp,fun h=>absurd h (Nat.lt_irrefl 0)⟩
theorem wP (a b:Int) (w:World):Calls Try.prog 45 #[.int .i64 a, .int .i64 b] w fun e w'=>∃ A c,e= .returned (.agg #[.int .i64 a, .int .i64 b, .slice A 0 c])∧Below w.heap.size w w':=by
 refine (fG.calls a b a b [] w rfl).mono ?_
 rintro e w' ⟨v,rfl,hr,hb⟩
 obtain ⟨A,c,rfl⟩:=Kd.dG (Kd.R_N hr)
 exact ⟨A,c,rfl,hb⟩
theorem LB (o a1 b1:Int) (A1:Option Addr) (c1:Nat) (a2 b2:Int) (A2:Option Addr) (c2:Nat) (w:World):Calls Try.prog 43 #[.int .i64 o, .agg #[.int .i64 a1, .int .i64 b1, .slice A1 0 c1], .agg #[.int .i64 a2, .int .i64 b2, .slice A2 0 c2]] w fun e w'=>∃ A c,e= .returned (.agg #[.int .i64 o, .int .i64 0, .slice A 2 c])∧Kd.N k32 32 w' w.heap.size (fun k=>w.heap.size≤k) (.slice A 2 c) [⟨a1,b1,[]⟩,⟨a2,b2,[]⟩]∧Below w.heap.size w w':=by
 refine (iZ.calls o a1 b1 (fun _=>False) A1 c1 [] a2 b2 (fun _=>False) A2 c2 [] o 0 [⟨a1,b1,[]⟩,⟨a2,b2,[]⟩] w (PI k32 32 w _ A1 c1) (PI k32 32 w _ A2 c2) rfl).mono ?_
 rintro e w' ⟨v,rfl,hr,hb⟩
 obtain ⟨A,c,rfl⟩:=Kd.dG hr
 exact ⟨A,c,rfl,Kd.aG hr (fun k hk=>hk.elim (fun h=>h.elim False.elim False.elim) id),hb⟩
structure F92 (w0 w W0:World) (g h2:Nat) (s0_0:List Int) (t42 t44 t46:Int) (v8:Value) (t47:List S35) (A30:Option Addr) (c30:Nat) (A33:Option Addr) (c33:Nat) (A34:Option Addr) (c34:Nat) (g10:Nat) (b3 b6 b9 b10 b12 b13:Bool) (W:World):Prop where
 hK:aI W0 W g (cond b10 v8.ownBlock none)
 hI:aQ w0 W g s0_0 (cond b3 t46 t42)
 hB:Below w0.heap.size w0 W
 h30:b6=true→Kd.N k32 32 W W0.heap.size (fun k=>W0.heap.size≤k∧(b12=true→k≠g10)) (.slice A30 2 c30) [⟨13,3,[]⟩,⟨0,wrap64 (1 + t44),[]⟩]
 h33:b9=true→Kd.N k35 35 W h2 (fun k=>h2≤k∧(b12=true→k≠g10)) (.slice A33 1 c33) [(⟨1,3,0,⟨8,0,[⟨13,3,[]⟩,⟨0,1,[]⟩]⟩,[],[]⟩:S35)]
 h34:b10=true→Kd.N k35 35 W w.heap.size (fun k=>w.heap.size≤k∧(b12=true→k≠g10)) (.slice A34 (t47 ++ [(⟨1,3,0,⟨8,0,[⟨13,3,[]⟩,⟨0,1,[]⟩]⟩,[],[]⟩:S35)]).length c34) (t47 ++ [(⟨1,3,0,⟨8,0,[⟨13,3,[]⟩,⟨0,1,[]⟩]⟩,[],[]⟩:S35)])
 h10:b12=true→W0.heap.size≤g10∧W.heap[g10]?=some (.cells (cond b13 #[.int .i64 3, .int .i64 0, .int .i64 0, .int .i64 5, .int .i64 0, .slice A30 2 c30, .slice A34 (t47 ++ [(⟨1,3,0,⟨8,0,[⟨13,3,[]⟩,⟨0,1,[]⟩]⟩,[],[]⟩:S35)]).length c34, .slice none 0 0] #[.int .i64 0, .int .i64 0, .int .i64 0, .int .i64 0, .int .i64 0, .slice none 0 0, .slice none 0 0, .slice none 0 0]) 35 (0,0))
theorem F92.ext {w0 w W0:World} {g h2:Nat} {j3:List Int} {j4 j5 j6:Int} {v8:Value} {j7:List S35} {j8:Option Addr} {j9:Nat} {ja:Option Addr} {jb:Nat} {jc:Option Addr} {jd:Nat} {je:Nat} {b3 b6 b9 b10 b12 b13:Bool} {W W':World}
  (h:F92 w0 w W0 g h2 j3 j4 j5 j6 v8 j7 j8 j9 ja jb jc jd je b3 b6 b9 b10 b12 b13 W) (hb:Below W.heap.size W W'):F92 w0 w W0 g h2 j3 j4 j5 j6 v8 j7 j8 j9 ja jb jc jd je b3 b6 b9 b10 b12 b13 W':=
 ⟨h.hK.trans (aI.of_below hb g _) (.inl rfl),h.hI.below hb,aD h.hB hb,fun e=>Kd.dS (h.h30 e) hb,fun e=>Kd.dS (h.h33 e) hb,fun e=>Kd.dS (h.h34 e) hb,fun e=>⟨(h.h10 e).1,dR (h.h10 e).2 hb⟩⟩
def a92 (g g9:Nat) (a1 a2 t48 t44:Int) (v8:Value) (t47:List S35) (A20:Option Addr) (c20:Nat) (A21:Option Addr) (c21:Nat) (A22:Option Addr) (c22:Nat) (A1:Option Addr) (c1:Nat) (A2:Option Addr) (c2:Nat) (A30:Option Addr) (c30:Nat) (A33:Option Addr) (c33:Nat) (A34:Option Addr) (c34:Nat) (g10:Nat) (b0 b1 b2 b3 b4 b5 b6 b7 b8 b9 b10 b11 b12 b13:Bool):Act:=
 { tmps:=#[(.pointer (some ⟨g,0,none⟩)),(.int .i64 a1),(.int .i64 a2),undef,undef,undef,(.slice none 0 0),(.int .i64 3),v8,(.pointer (some ⟨g9,0,none⟩)),cond b12 (.pointer (some ⟨g10,0,none⟩)) undef,(.pointer (some ⟨g,0,none⟩)),(.int .i64 a1),(.int .i64 a2),(.int .i64 (wrap64 (a2 - 1))),(.pointer (some ⟨g,0,none⟩)),(.int .i64 t48),v8,(.int .i64 3),(.int .i64 3),(.agg #[.int .i64 13, .int .i64 3, .slice A20 0 c20]),(.agg #[.int .i64 0, .int .i64 1, .slice A21 0 c21]),(.agg #[.int .i64 8, .int .i64 0, .slice A22 2 c22]),(.agg #[.int .i64 1, .int .i64 3, .int .i64 0, .int .i64 8, .int .i64 0, .slice A22 2 c22, .slice none 0 0, .slice none 0 0]),cond b0 (.int .i64 3) undef,cond b1 (.agg #[.int .i64 13, .int .i64 3, .slice A1 0 c1]) undef,cond b2 (.pointer (some ⟨g,0,none⟩)) undef,cond b3 (.int .i64 t44) undef,cond b4 (.int .i64 (wrap64 (1 + t44))) undef,cond b5 (.agg #[.int .i64 0, .int .i64 (wrap64 (1 + t44)), .slice A2 0 c2]) undef,cond b6 (.agg #[.int .i64 5, .int .i64 0, .slice A30 2 c30]) undef,cond b7 v8 undef,cond b8 (.agg #[.int .i64 1, .int .i64 3, .int .i64 0, .int .i64 8, .int .i64 0, .slice A22 2 c22, .slice none 0 0, .slice none 0 0]) undef,cond b9 (.slice A33 1 c33) undef,cond b10 (.slice A34 (t47 ++ [(⟨1,3,0,⟨8,0,[⟨13,3,[]⟩,⟨0,1,[]⟩]⟩,[],[]⟩:S35)]).length c34) undef,cond b11 (.agg #[.int .i64 3, .int .i64 0, .int .i64 0, .int .i64 5, .int .i64 0, .slice A30 2 c30, .slice A34 (t47 ++ [(⟨1,3,0,⟨8,0,[⟨13,3,[]⟩,⟨0,1,[]⟩]⟩,[],[]⟩:S35)]).length c34, .slice none 0 0]) undef,undef,undef,undef,undef,undef],defers:=[] }
def L92 (w0 w W0:World) (g g9 h2:Nat) (s0_0:List Int) (a1 a2 t48 t42 t44 t46:Int) (v8:Value) (t47:List S35) (A20:Option Addr) (c20:Nat) (A21:Option Addr) (c21:Nat) (A22:Option Addr) (c22:Nat) (b0 b1 b2 b3 b4 b5 b6 b7 b8 b9 b10 b11 b12 b13:Bool) (a:Act) (W:World):Prop:=
 ∃ (A1:Option Addr) (c1:Nat) (A2:Option Addr) (c2:Nat) (A30:Option Addr) (c30:Nat) (A33:Option Addr) (c33:Nat) (A34:Option Addr) (c34:Nat) (g10:Nat),a=a92 g g9 a1 a2 t48 t44 v8 t47 A20 c20 A21 c21 A22 c22 A1 c1 A2 c2 A30 c30 A33 c33 A34 c34 g10 b0 b1 b2 b3 b4 b5 b6 b7 b8 b9 b10 b11 b12 b13∧F92 w0 w W0 g h2 s0_0 t42 t44 t46 v8 t47 A30 c30 A33 c33 A34 c34 g10 b3 b6 b9 b10 b12 b13 W
def dX.T4:Bool × List (List Nat × List Nat):=(true,[([],[]),([0],[0]),([],[]),([2,1],[2]),([3],[3]),([4,3],[4]),([1,5,5],[1,5]),([],[]),([],[]),([8],[8]),([7,9,6],[7,9]),([6,10],[6,10]),([],[]),([12,11,10,0,1,2,3,4,5,6,7,8,9,10,11,12],[11,12])])
theorem dX.aBz:lC .any (opsOf Try.f104 4)=dX.T4:=by kernel_rfl
theorem dX.step (k:Nat) (ih_spec_l92If:∀ m,m < k→eP.fO m) (ih_spec_l92Loop:∀ m,m < k→dX.fO m) (ih_spec_l92Stmt:∀ m,m < k→bH.fO m) (ih_spec_l92Block:∀ m,m < k→bU.fO m):dX.fO k:=by
 intro g jh jK a1 a2 r1 r2 w0 w hI hB h
 cases k with
 |zero=>exact absurd h (by simp [dX.f])
 |succ k=>
 simp only [dX.f] at h
 replace h:=Option.bind_eq_some_iff.mp h
 obtain ⟨⟨jp,jQ⟩,hp,h⟩:=h
 replace h:=Option.bind_eq_some_iff.mp h
 obtain ⟨⟨jd,jA⟩,hbk,h⟩:=h
 simp only [fG.f,iZ.f,Option.bind_some] at h
 replace h:=Option.bind_eq_some_iff.mp h
 obtain ⟨⟨jk,jB⟩,hp2,h⟩:=h
 dsimp only at h hp2 hbk
 by_cases jC:jd.length + 1 < 1256584717458
 case neg=>
  rw [if_neg (by simpa using jC)] at h
  exact absurd h (by simp)
 rw [if_pos (by simpa using jC)] at h
 have h1:=Option.some.inj h
 injection h1 with h1 h2
 subst h2
 have A4:=am hp
 have A5:=am hbk
 have jS:=am hp2
 have LM:=am jC
 have HR:=am h1
 have HI:=am hI
 have HB:=am hB
 have HK:=am (aI.refl w g none)
 have HGW:=am (aQ.lt hI)
 clear h1 h hp hbk hp2 jC hI hB
 go_enter Try.func104,Try.ntmps104
 go_wp2_with (first|((with_reducible refine aN (f:=41) rfl ?_);refine sS (some 16) rfl rfl Try.func41 (by kernel_rfl) rfl #[.pointer (some ⟨g,0,none⟩), .int .i64 3] rfl (by (try simp only [List.map_toArray,List.map_cons,List.map_nil]);first|done|rfl) ?_;(with_reducible refine (aH.calls k g jh jK 3 jp jQ w0 _ ?side1 ?side2 A4.out).mono ?_);(case side1=>repeat (first|(with_reducible first|exact HI.out|apply aQ.drewN|apply aQ.drew)|exact HI.out));(case side2=>repeat (first|(with_reducible first|exact HB.out|apply bA|apply bG)|exact HB.out));rintro e jT ⟨rfl,hi,hb,hk⟩;refine ⟨_,rfl,?_⟩;have jq:=am (aI.trans SE hk (.inl rfl));clear HK HB HI;have HK:=jq;have HB:=am hb;have HI:=am hi;have HS15:=am HK.out.1;clear jq hb hk hi)|((with_reducible refine aN (f:=77) rfl ?_);refine sS (some 17) rfl rfl Try.func77 (by kernel_rfl) rfl #[.pointer (some ⟨g,0,none⟩), .int .i64 a1, .int .i64 (wrap64 (a2 - 1)), .int .i64 jp, .bool false] rfl (by (try simp only [List.map_toArray,List.map_cons,List.map_nil]);first|done|rfl) ?_;(with_reducible refine (ih_spec_l92Block k (by omega) g jh jQ a1 (wrap64 (a2 - 1)) jp false jd jA w0 _ ?side1 ?side2 A5.out).mono ?_);(case side1=>repeat (first|(with_reducible first|exact HI.out|apply aQ.drewN|apply aQ.drew)|exact HI.out));(case side2=>repeat (first|(with_reducible first|exact HB.out|apply bA|apply bG)|exact HB.out));rintro e ji ⟨v8,rfl,ho0,hi,hb,hk⟩;refine ⟨_,rfl,?_⟩;have jq:=am (aI.trans SE hk (.inl rfl));have jl:=am (Kd.dF ho0 (by repeat (first|exact HK.out.1|apply iY|apply gY)));clear HK HB HI;have HK:=jq;have HB:=am hb;have HI:=am hi;have H8:=jl;clear jq jl hb hk hi ho0)|((with_reducible refine aN (f:=45) rfl ?_);refine sS (some 20) rfl rfl Try.func45 (by kernel_rfl) rfl #[.int .i64 13, .int .i64 3] rfl (by (try simp only [List.map_toArray,List.map_cons,List.map_nil]);first|done|rfl) ?_;(with_reducible refine (wP 13 3 _).mono ?_);rintro e qj ⟨jD,jE,rfl,hb⟩;refine ⟨_,rfl,?_⟩;have jL:=am hb;clear hb)|((with_reducible refine aN (f:=45) rfl ?_);refine sS (some 21) rfl rfl Try.func45 (by kernel_rfl) rfl #[.int .i64 0, .int .i64 1] rfl (by (try simp only [List.map_toArray,List.map_cons,List.map_nil]);first|done|rfl) ?_;(with_reducible refine (wP 0 1 _).mono ?_);rintro e jr ⟨jF,jG,rfl,hb⟩;refine ⟨_,rfl,?_⟩;have jM:=am hb;clear hb)|((with_reducible refine aN (f:=43) rfl ?_);refine sS (some 22) rfl rfl Try.func43 (by kernel_rfl) rfl #[.int .i64 8, .agg #[.int .i64 13, .int .i64 3, .slice jD 0 jE], .agg #[.int .i64 0, .int .i64 1, .slice jF 0 jG]] rfl (by (try simp only [List.map_toArray,List.map_cons,List.map_nil]);first|done|rfl) ?_;(with_reducible refine (LB 8 13 3 jD jE 0 1 jF jG _).mono ?_);rintro e jH ⟨je,jf,rfl,jj,hb⟩;refine ⟨_,rfl,?_⟩;have jN:=am jj;have jO:=am hb;clear hb jj)|((with_reducible refine cZ (N:=9) rfl ?_);refine dO (N:=9) rfl rfl (cs:=#[.int .i64 0, .int .i64 0, .int .i64 0, .int .i64 0, .int .i64 0, .slice none 0 0, .slice none 0 0, .slice none 0 0]) (t:=35) rn_ ?_;intro g9 hg js hbox hb;have jR:=am (Nat.le_of_eq hg.symm);have jI:=am hb;have X9:=am hbox;have z9:=aU hbox 0;have jU:=aU hbox 1;have jV:=aU hbox 2;have jW:=aU hbox 3;have jX:=aU hbox 4;have jY:=aU hbox 5;have jZ:=aU hbox 6;have q8:=aU hbox 7;have q9:=aC hbox 0;have qa:=aC hbox 1;have qb:=aC hbox 2;have qc:=aC hbox 3;have qd:=aC hbox 4;have qe:=aC hbox 5;have qf:=aC hbox 6;have qg:=aC hbox 7;clear hb hg hbox)|fail)
 have jP:Aside0 (Below ji.heap.size ji jH):=⟨aD (aD jL.out jM.out) jO.out⟩
 have jt:=jP.out.size
 have ju:=jI.out.size
 have jv:=jO.out.size
 have jw:=(aD jL.out jM.out).size
 have h9lt:=gT X9.out
 have hg9:=jR.out
 have hw16:=HK.out.1
 have hgw0:=HGW.out
 have b20:Below ji.heap.size ji js:=aD jP.out jI.out
 have HWQ:Aside0 (Below ji.heap.size ji ((((((((js.setCell ⟨g9,0,none⟩ (.int .i64 1)).setCell ⟨g9,1,none⟩ (.int .i64 3)).setCell ⟨g9,2,none⟩ (.int .i64 0)).setCell ⟨g9,3,none⟩ (.int .i64 8)).setCell ⟨g9,4,none⟩ (.int .i64 0)).setCell ⟨g9,5,none⟩ (.slice je 2 jf)).setCell ⟨g9,6,none⟩ (.slice none 0 0)).setCell ⟨g9,7,none⟩ (.slice none 0 0))):=⟨(below_set (j:=7) (v:=(.slice none 0 0)) (below_set (j:=6) (v:=(.slice none 0 0)) (below_set (j:=5) (v:=(.slice je 2 jf)) (below_set (j:=4) (v:=(.int .i64 0)) (below_set (j:=3) (v:=(.int .i64 8)) (below_set (j:=2) (v:=(.int .i64 0)) (below_set (j:=1) (v:=(.int .i64 3)) (below_set (j:=0) (v:=(.int .i64 1)) b20 (by omega)) (by omega)) (by omega)) (by omega)) (by omega)) (by omega)) (by omega)) (by omega))⟩
 have X9':Aside0 (((((((((js.setCell ⟨g9,0,none⟩ (.int .i64 1)).setCell ⟨g9,1,none⟩ (.int .i64 3)).setCell ⟨g9,2,none⟩ (.int .i64 0)).setCell ⟨g9,3,none⟩ (.int .i64 8)).setCell ⟨g9,4,none⟩ (.int .i64 0)).setCell ⟨g9,5,none⟩ (.slice je 2 jf)).setCell ⟨g9,6,none⟩ (.slice none 0 0)).setCell ⟨g9,7,none⟩ (.slice none 0 0)).heap[g9]?=some (.cells #[(.int .i64 1),(.int .i64 3),(.int .i64 0),(.int .i64 8),(.int .i64 0),(.slice je 2 jf),(.slice none 0 0),(.slice none 0 0)] 35 (0,0))):=⟨(aM (cs':=#[(.int .i64 1),(.int .i64 3),(.int .i64 0),(.int .i64 8),(.int .i64 0),(.slice je 2 jf),(.slice none 0 0),(.slice none 0 0)]) (aM (cs':=#[(.int .i64 1),(.int .i64 3),(.int .i64 0),(.int .i64 8),(.int .i64 0),(.slice je 2 jf),(.slice none 0 0),(.slice none 0 0)]) (aM (cs':=#[(.int .i64 1),(.int .i64 3),(.int .i64 0),(.int .i64 8),(.int .i64 0),(.slice je 2 jf),(.slice none 0 0),(.slice none 0 0)]) (aM (cs':=#[(.int .i64 1),(.int .i64 3),(.int .i64 0),(.int .i64 8),(.int .i64 0),(.slice none 0 0),(.slice none 0 0),(.slice none 0 0)]) (aM (cs':=#[(.int .i64 1),(.int .i64 3),(.int .i64 0),(.int .i64 8),(.int .i64 0),(.slice none 0 0),(.slice none 0 0),(.slice none 0 0)]) (aM (cs':=#[(.int .i64 1),(.int .i64 3),(.int .i64 0),(.int .i64 0),(.int .i64 0),(.slice none 0 0),(.slice none 0 0),(.slice none 0 0)]) (aM (cs':=#[(.int .i64 1),(.int .i64 3),(.int .i64 0),(.int .i64 0),(.int .i64 0),(.slice none 0 0),(.slice none 0 0),(.slice none 0 0)]) (aM (cs':=#[(.int .i64 1),(.int .i64 0),(.int .i64 0),(.int .i64 0),(.int .i64 0),(.slice none 0 0),(.slice none 0 0),(.slice none 0 0)]) X9.out 0 (.int .i64 1) rfl) 1 (.int .i64 3) rfl) 2 (.int .i64 0) rfl) 3 (.int .i64 8) rfl) 4 (.int .i64 0) rfl) 5 (.slice je 2 jf) rfl) 6 (.slice none 0 0) rfl) 7 (.slice none 0 0) rfl)⟩
 have N22':Aside0 (Kd.N k32 32 ((((((((js.setCell ⟨g9,0,none⟩ (.int .i64 1)).setCell ⟨g9,1,none⟩ (.int .i64 3)).setCell ⟨g9,2,none⟩ (.int .i64 0)).setCell ⟨g9,3,none⟩ (.int .i64 8)).setCell ⟨g9,4,none⟩ (.int .i64 0)).setCell ⟨g9,5,none⟩ (.slice je 2 jf)).setCell ⟨g9,6,none⟩ (.slice none 0 0)).setCell ⟨g9,7,none⟩ (.slice none 0 0)) jr.heap.size (fun k=>(jr.heap.size≤k∧k < jH.heap.size)∧k≠g9) (.slice je 2 jf) [⟨13,3,[]⟩,⟨0,1,[]⟩]):=⟨(Kd.aT (p:=⟨g9,7,none⟩) (Kd.aT (p:=⟨g9,6,none⟩) (Kd.aT (p:=⟨g9,5,none⟩) (Kd.aT (p:=⟨g9,4,none⟩) (Kd.aT (p:=⟨g9,3,none⟩) (Kd.aT (p:=⟨g9,2,none⟩) (Kd.aT (p:=⟨g9,1,none⟩) (Kd.aT (p:=⟨g9,0,none⟩) (Kd.aG (Kd.dS (Kd.nV jN.out) jI.out) (fun q (hq:jr.heap.size≤q∧q < jH.heap.size)=>(⟨hq,by have:=hq.2;omega⟩:(jr.heap.size≤q∧q < jH.heap.size)∧q≠g9))) (fun q hq=>hq.2) (.int .i64 1)) (fun q hq=>hq.2) (.int .i64 3)) (fun q hq=>hq.2) (.int .i64 0)) (fun q hq=>hq.2) (.int .i64 8)) (fun q hq=>hq.2) (.int .i64 0)) (fun q hq=>hq.2) (.slice je 2 jf)) (fun q hq=>hq.2) (.slice none 0 0)) (fun q hq=>hq.2) (.slice none 0 0))⟩
 clear q9 qa qb qc qd qe qf qg z9 jU jV jW jX jY jZ q8 X9
 generalize ((((((((js.setCell ⟨g9,0,none⟩ (.int .i64 1)).setCell ⟨g9,1,none⟩ (.int .i64 3)).setCell ⟨g9,2,none⟩ (.int .i64 0)).setCell ⟨g9,3,none⟩ (.int .i64 8)).setCell ⟨g9,4,none⟩ (.int .i64 0)).setCell ⟨g9,5,none⟩ (.slice je 2 jf)).setCell ⟨g9,6,none⟩ (.slice none 0 0)).setCell ⟨g9,7,none⟩ (.slice none 0 0))=jJ at HWQ X9' N22' ⊢
 have qh:=HWQ.out.size
 have h27':=gT X9'.out
 refine wp_region_any (by kernel_rfl) ?_
 have B9:=am (bK X9'.out)
 have N22_:=Kd.kV N22'.out
 have H8_:=Kd.kV (Kd.dS (Kd.aG (Kd.nV H8.out) (fun q (hq:jT.heap.size≤q∧q < ji.heap.size)=>(⟨by have:=hq.1;have:=HS15.out;omega,hq.2⟩:w.heap.size≤q∧q < ji.heap.size))) HWQ.out)
 have HI_:=aQ.drew (HI.out.below HWQ.out)
 have HB_:=bG (aD HB.out HWQ.out)
 have HK_:=gY (aI.trans HK.out (aI.of_below HWQ.out g none) (.inl rfl))
 have hsz:jJ.drew.heap.size=jJ.heap.size:=rfl
 show wpAny _ _ _ _ _ _ _ jJ.drew
 generalize jJ.drew=W0 at B9 N22_ H8_ HI_ HB_ HK_ hsz ⊢
 have jN:Aside0 (Kd.N k32 32 W0 jr.heap.size (fun k=>ji.heap.size≤k∧k < W0.heap.size) (.slice je 2 jf) [⟨13,3,[]⟩,⟨0,1,[]⟩]):=⟨Kd.aG N22_ (fun q hq=>⟨by have:=hq.1.1;omega,by have:=hq.1.2;omega⟩)⟩
 have H8':=am H8_
 have HI':=am HI_
 have HB':=am HB_
 have HK':=am HK_
 have H24:Aside0 (ji.heap.size≤W0.heap.size):=⟨by omega⟩
 have HH2:Aside0 (w.heap.size≤ji.heap.size):=⟨hw16⟩
 have NE9:Aside0 (g9≠g):=⟨by omega⟩
 clear N22_ H8_ HI_ HB_ HK_ HI HB HK H8 N22' X9' HWQ b20 jP hsz qh h27' jt ju jv jw h9lt hg9 jL jM jO jI jR HS15 hw16 hgw0
 generalize ji.heap.size=h2 at *
 have H8:=H8'
 clear H8'
 refine KH (n:=14) (T:=dX.T4) rfl (by kernel_rfl) (by decide) (fun b a W=>L92 w0 w W0 g g9 h2 jh a1 a2 jp jA jk jB v8 jd jD jE jF jG je jf (b 0) (b 1) (b 2) (b 3) (b 4) (b 5) (b 6) (b 7) (b 8) (b 9) (b 10) (b 11) (b 12) (b 13) a W) ?hstep ?hdone _ _ ?hstart
 case hstart=>exact ⟨none,0,none,0,none,0,none,0,none,0,0,rfl,⟨aI.refl _ _ _,HI'.out,HB'.out,(fun e=>Bool.noConfusion e),(fun e=>Bool.noConfusion e),(fun e=>Bool.noConfusion e),(fun e=>Bool.noConfusion e)⟩⟩
 case hstep=>
  intro i b a W hi hbi hneed hcl hI
  have hcase:i=0∨i=1∨i=2∨i=3∨i=4∨i=5∨i=6∨i=7∨i=8∨i=9∨i=10∨i=11∨i=12∨i=13:=by omega
  rcases hcase with rfl|rfl|rfl|rfl|rfl|rfl|rfl|rfl|rfl|rfl|rfl|rfl|rfl|rfl
  ·
   have z1:=zz_ (fun h=>hcl 1 _ h rfl 0 (by decide)) hbi
   have z3:=zz_ (fun h=>hcl 3 _ h rfl 1 (by decide)) z1
   have z4:=zz_ (fun h=>hcl 4 _ h rfl 3 (by decide)) z3
   have z5:=zz_ (fun h=>hcl 5 _ h rfl 3 (by decide)) z3
   have z6:=zz_ (fun h=>hcl 6 _ h rfl 1 (by decide)) z1
   have j9:=zz_ (fun h=>hcl 10 _ h rfl 6 (by decide)) z6
   have ja:=zz_ (fun h=>hcl 11 _ h rfl 6 (by decide)) z6
   have j8:=zz_ (fun h=>hcl 13 _ h rfl 0 (by decide)) hbi
   simp only [hbi,z1,z3,z4,z5,z6,j9,ja,j8] at hI
   obtain ⟨A1,c1,A2,c2,j4,j5,jb,jc,j6,j7,j3,rfl,h⟩:=hI
   have hgw:=HGW.out
   have hh2:=HH2.out
   have jg:=H24.out
   refine wpOp_step rfl (fun K' hK'=>?_)
   simp (decide:=true) only [if_true,if_false,reduceIte,z1,z3,z4,z5,z6,j9,ja,j8] at hK'
   refine iO (W:=W) (w1:=W) (v:=?_) (by rfl) ?_ ?_
   rotate_left
   ·(try simp only [a92,cond_true,cond_false])
    go_simp
    first|with_reducible rfl|rfl
   refine hK' _ _ (⟨A1,c1,A2,c2,j4,j5,jb,jc,j6,j7,j3,?_,h⟩)
   show Act.put _ (some 24) _=_
   simp only [a92,Act.put,List.setIfInBounds_toArray,List.set_cons_zero,List.set_cons_succ,dN,dU]
   rfl
  ·
   have hn_:=hneed _ rfl
   have n0:=hn_ 0 (by decide)
   have z3:=zz_ (fun h=>hcl 3 _ h rfl 1 (by decide)) hbi
   have z4:=zz_ (fun h=>hcl 4 _ h rfl 3 (by decide)) z3
   have z5:=zz_ (fun h=>hcl 5 _ h rfl 3 (by decide)) z3
   have z6:=zz_ (fun h=>hcl 6 _ h rfl 1 (by decide)) hbi
   have j9:=zz_ (fun h=>hcl 10 _ h rfl 6 (by decide)) z6
   have ja:=zz_ (fun h=>hcl 11 _ h rfl 6 (by decide)) z6
   have j8:=zz_ (fun h=>hcl 13 _ h rfl 1 (by decide)) hbi
   simp only [hbi,n0,z3,z4,z5,z6,j9,ja,j8] at hI
   obtain ⟨A1,c1,A2,c2,j4,j5,jb,jc,j6,j7,j3,rfl,h⟩:=hI
   have hgw:=HGW.out
   have hh2:=HH2.out
   have jg:=H24.out
   refine wpOp_step rfl (fun K' hK'=>?_)
   simp (decide:=true) only [if_true,if_false,reduceIte,n0,z3,z4,z5,z6,j9,ja,j8] at hK'
   refine iP Try.func45 (by kernel_rfl) rfl #[.int .i64 13, .int .i64 3] (by rfl) rfl rfl (by (try simp only [List.map_toArray,List.map_cons,List.map_nil]);first|done|rfl) ?_
   refine (wP 13 3 _).mono ?_
   rintro e W' ⟨A,c,rfl,hb⟩
   refine ⟨_,rfl,hK' _ _ (⟨A,c,A2,c2,j4,j5,jb,jc,j6,j7,j3,?_,h.ext hb⟩)⟩
   show Act.put _ (some 25) _=_
   simp only [a92,Act.put,List.setIfInBounds_toArray,List.set_cons_zero,List.set_cons_succ]
   rfl
  ·
   have z3:=zz_ (fun h=>hcl 3 _ h rfl 2 (by decide)) hbi
   have z4:=zz_ (fun h=>hcl 4 _ h rfl 3 (by decide)) z3
   have z5:=zz_ (fun h=>hcl 5 _ h rfl 3 (by decide)) z3
   have z6:=zz_ (fun h=>hcl 6 _ h rfl 5 (by decide)) z5
   have j9:=zz_ (fun h=>hcl 10 _ h rfl 6 (by decide)) z6
   have ja:=zz_ (fun h=>hcl 11 _ h rfl 6 (by decide)) z6
   have j8:=zz_ (fun h=>hcl 13 _ h rfl 2 (by decide)) hbi
   simp only [hbi,z3,z4,z5,z6,j9,ja,j8] at hI
   obtain ⟨A1,c1,A2,c2,j4,j5,jb,jc,j6,j7,j3,rfl,h⟩:=hI
   have hgw:=HGW.out
   have hh2:=HH2.out
   have jg:=H24.out
   refine wpOp_step rfl (fun K' hK'=>?_)
   simp (decide:=true) only [if_true,if_false,reduceIte,z3,z4,z5,z6,j9,ja,j8] at hK'
   refine iO (W:=W) (w1:=W) (v:=?_) (by rfl) ?_ ?_
   rotate_left
   ·(try simp only [a92,cond_true,cond_false])
    go_simp
    first|with_reducible rfl|rfl
   refine hK' _ _ (⟨A1,c1,A2,c2,j4,j5,jb,jc,j6,j7,j3,?_,h⟩)
   show Act.put _ (some 26) _=_
   simp only [a92,Act.put,List.setIfInBounds_toArray,List.set_cons_zero,List.set_cons_succ,dN,dU]
   rfl
  ·
   have hn_:=hneed _ rfl
   have n1:=hn_ 1 (by decide)
   have n2:=hn_ 2 (by decide)
   have z4:=zz_ (fun h=>hcl 4 _ h rfl 3 (by decide)) hbi
   have z5:=zz_ (fun h=>hcl 5 _ h rfl 3 (by decide)) hbi
   have z6:=zz_ (fun h=>hcl 6 _ h rfl 5 (by decide)) z5
   have j9:=zz_ (fun h=>hcl 10 _ h rfl 6 (by decide)) z6
   have ja:=zz_ (fun h=>hcl 11 _ h rfl 6 (by decide)) z6
   have j8:=zz_ (fun h=>hcl 13 _ h rfl 3 (by decide)) hbi
   simp only [hbi,n1,n2,z4,z5,z6,j9,ja,j8] at hI
   obtain ⟨A1,c1,A2,c2,j4,j5,jb,jc,j6,j7,j3,rfl,h⟩:=hI
   have hgw:=HGW.out
   have hh2:=HH2.out
   have jg:=H24.out
   refine wpOp_step rfl (fun K' hK'=>?_)
   simp (decide:=true) only [if_true,if_false,reduceIte,n1,n2,z4,z5,z6,j9,ja,j8] at hK'
   refine iP Try.func41 (by kernel_rfl) rfl #[.pointer (some ⟨g,0,none⟩), .int .i64 3] (by rfl) rfl rfl (by (try simp only [List.map_toArray,List.map_cons,List.map_nil]);first|done|rfl) ?_
   refine (aH.calls k g jh jA 3 jk jB w0 _ h.hI h.hB jS.out).mono ?_
   rintro e W' ⟨rfl,hi,hb,hk⟩
   have hlt:=h.hK.1
   refine ⟨_,rfl,hK' _ _ (⟨A1,c1,A2,c2,j4,j5,jb,jc,j6,j7,j3,?_,⟨h.hK.trans hk ?_,hi,hb,fun e=>Kd.kI (h.h30 e) hk (fun q hq=>?_),fun e=>Kd.kI (h.h33 e) hk (fun q hq=>?_),fun e=>Kd.kI (h.h34 e) hk (fun q hq=>?_),fun e=>⟨(h.h10 e).1,hk.blk (h.h10 e).2 ?_ (by simp)⟩⟩⟩)⟩
   ·show Act.put _ (some 27) _=_
    simp only [a92,Act.put,List.setIfInBounds_toArray,List.set_cons_zero,List.set_cons_succ]
    rfl
   ·exact .inl rfl
   ·have:=hq.1;omega
   ·have:=hq.1;omega
   ·have:=hq.1;omega
   ·have:=(h.h10 e).1;omega
  ·
   have hn_:=hneed _ rfl
   have n3:=hn_ 3 (by decide)
   have z5:=zz_ (fun h=>hcl 5 _ h rfl 4 (by decide)) hbi
   have z6:=zz_ (fun h=>hcl 6 _ h rfl 5 (by decide)) z5
   have j9:=zz_ (fun h=>hcl 10 _ h rfl 6 (by decide)) z6
   have ja:=zz_ (fun h=>hcl 11 _ h rfl 6 (by decide)) z6
   have j8:=zz_ (fun h=>hcl 13 _ h rfl 4 (by decide)) hbi
   simp only [hbi,n3,z5,z6,j9,ja,j8] at hI
   obtain ⟨A1,c1,A2,c2,j4,j5,jb,jc,j6,j7,j3,rfl,h⟩:=hI
   have hgw:=HGW.out
   have hh2:=HH2.out
   have jg:=H24.out
   refine wpOp_step rfl (fun K' hK'=>?_)
   simp (decide:=true) only [if_true,if_false,reduceIte,n3,z5,z6,j9,ja,j8] at hK'
   refine iO (W:=W) (w1:=W) (v:=?_) (by rfl) ?_ ?_
   rotate_left
   ·(try simp only [a92,cond_true,cond_false])
    go_simp
    first|with_reducible rfl|rfl
   refine hK' _ _ (⟨A1,c1,A2,c2,j4,j5,jb,jc,j6,j7,j3,?_,h⟩)
   show Act.put _ (some 28) _=_
   simp only [a92,Act.put,List.setIfInBounds_toArray,List.set_cons_zero,List.set_cons_succ,dN,dU]
   rfl
  ·
   have hn_:=hneed _ rfl
   have n3:=hn_ 3 (by decide)
   have n4:=hn_ 4 (by decide)
   have z6:=zz_ (fun h=>hcl 6 _ h rfl 5 (by decide)) hbi
   have j9:=zz_ (fun h=>hcl 10 _ h rfl 6 (by decide)) z6
   have ja:=zz_ (fun h=>hcl 11 _ h rfl 6 (by decide)) z6
   have j8:=zz_ (fun h=>hcl 13 _ h rfl 5 (by decide)) hbi
   simp only [hbi,n3,n4,z6,j9,ja,j8] at hI
   obtain ⟨A1,c1,A2,c2,j4,j5,jb,jc,j6,j7,j3,rfl,h⟩:=hI
   have hgw:=HGW.out
   have hh2:=HH2.out
   have jg:=H24.out
   refine wpOp_step rfl (fun K' hK'=>?_)
   simp (decide:=true) only [if_true,if_false,reduceIte,n3,n4,z6,j9,ja,j8] at hK'
   refine iP Try.func45 (by kernel_rfl) rfl #[.int .i64 0, .int .i64 (wrap64 (1 + jk))] (by rfl) rfl rfl (by (try simp only [List.map_toArray,List.map_cons,List.map_nil]);first|done|rfl) ?_
   refine (wP 0 (wrap64 (1 + jk)) _).mono ?_
   rintro e W' ⟨A,c,rfl,hb⟩
   refine ⟨_,rfl,hK' _ _ (⟨A1,c1,A,c,j4,j5,jb,jc,j6,j7,j3,?_,h.ext hb⟩)⟩
   show Act.put _ (some 29) _=_
   simp only [a92,Act.put,List.setIfInBounds_toArray,List.set_cons_zero,List.set_cons_succ]
   rfl
  ·
   have hn_:=hneed _ rfl
   have n1:=hn_ 1 (by decide)
   have n5:=hn_ 5 (by decide)
   have j9:=zz_ (fun h=>hcl 10 _ h rfl 6 (by decide)) hbi
   have ja:=zz_ (fun h=>hcl 11 _ h rfl 6 (by decide)) hbi
   have j8:=zz_ (fun h=>hcl 13 _ h rfl 6 (by decide)) hbi
   simp only [hbi,n1,n5,j9,ja,j8] at hI
   obtain ⟨A1,c1,A2,c2,j4,j5,jb,jc,j6,j7,j3,rfl,h⟩:=hI
   have hgw:=HGW.out
   have hh2:=HH2.out
   have jg:=H24.out
   refine wpOp_step rfl (fun K' hK'=>?_)
   simp (decide:=true) only [if_true,if_false,reduceIte,n1,n5,j9,ja,j8] at hK'
   refine iP Try.func43 (by kernel_rfl) rfl #[.int .i64 5,(.agg #[.int .i64 13, .int .i64 3, .slice A1 0 c1]),(.agg #[.int .i64 0, .int .i64 (wrap64 (1 + jk)), .slice A2 0 c2])] (by rfl) rfl rfl (by (try simp only [List.map_toArray,List.map_cons,List.map_nil]);first|done|rfl) ?_
   refine (LB 5 13 3 A1 c1 0 (wrap64 (1 + jk)) A2 c2 _).mono ?_
   rintro e W' ⟨A,c,rfl,hn,hb⟩
   have hlt:=h.hK.1
   have h':=h.ext hb
   refine ⟨_,rfl,hK' _ _ (⟨A1,c1,A2,c2,A,c,jb,jc,j6,j7,j3,?_,⟨h'.hK,h'.hI,h'.hB,fun _=>Kd.aG (Kd.dF hn hlt) (fun q hq=>⟨Nat.le_trans hlt hq,fun e=>?_⟩),h'.h33,(fun e=>Bool.noConfusion e),fun e=>⟨(h'.h10 e).1,(h'.h10 e).2⟩⟩⟩)⟩
   ·show Act.put _ (some 30) _=_
    simp only [a92,Act.put,List.setIfInBounds_toArray,List.set_cons_zero,List.set_cons_succ]
    rfl
   ·have:=gT (h.h10 e).2;omega
  ·
   have j9:=zz_ (fun h=>hcl 10 _ h rfl 7 (by decide)) hbi
   have ja:=zz_ (fun h=>hcl 11 _ h rfl 10 (by decide)) j9
   have j8:=zz_ (fun h=>hcl 13 _ h rfl 7 (by decide)) hbi
   simp only [hbi,j9,ja,j8] at hI
   obtain ⟨A1,c1,A2,c2,j4,j5,jb,jc,j6,j7,j3,rfl,h⟩:=hI
   have hgw:=HGW.out
   have hh2:=HH2.out
   have jg:=H24.out
   refine wpOp_step rfl (fun K' hK'=>?_)
   simp (decide:=true) only [if_true,if_false,reduceIte,j9,ja,j8] at hK'
   refine iO (W:=W) (w1:=W) (v:=?_) (by rfl) ?_ ?_
   rotate_left
   ·(try simp only [a92,cond_true,cond_false])
    go_simp
    first|with_reducible rfl|rfl
   refine hK' _ _ (⟨A1,c1,A2,c2,j4,j5,jb,jc,j6,j7,j3,?_,h⟩)
   show Act.put _ (some 31) _=_
   simp only [a92,Act.put,List.setIfInBounds_toArray,List.set_cons_zero,List.set_cons_succ,dN,dU]
   rfl
  ·
   have z9:=zz_ (fun h=>hcl 9 _ h rfl 8 (by decide)) hbi
   have j9:=zz_ (fun h=>hcl 10 _ h rfl 9 (by decide)) z9
   have ja:=zz_ (fun h=>hcl 11 _ h rfl 10 (by decide)) j9
   have j8:=zz_ (fun h=>hcl 13 _ h rfl 8 (by decide)) hbi
   simp only [hbi,z9,j9,ja,j8] at hI
   obtain ⟨A1,c1,A2,c2,j4,j5,jb,jc,j6,j7,j3,rfl,h⟩:=hI
   have hgw:=HGW.out
   have hh2:=HH2.out
   have jg:=H24.out
   refine wpOp_step rfl (fun K' hK'=>?_)
   simp (decide:=true) only [if_true,if_false,reduceIte,z9,j9,ja,j8] at hK'
   have h9:=h.hK.blk B9.out NE9.out (by simp)
   have q0:W.cell? ⟨g9,0,none⟩=some (.int .i64 1):=aC h9 0
   have q1:W.cell? ⟨g9,1,none⟩=some (.int .i64 3):=aC h9 1
   have q2:W.cell? ⟨g9,2,none⟩=some (.int .i64 0):=aC h9 2
   have q3:W.cell? ⟨g9,3,none⟩=some (.int .i64 8):=aC h9 3
   have q4:W.cell? ⟨g9,4,none⟩=some (.int .i64 0):=aC h9 4
   have q5:W.cell? ⟨g9,5,none⟩=some (.slice je 2 jf):=aC h9 5
   have q6:W.cell? ⟨g9,6,none⟩=some (.slice none 0 0):=aC h9 6
   have q7:W.cell? ⟨g9,7,none⟩=some (.slice none 0 0):=aC h9 7
   refine iO (W:=W) (w1:=W) (v:=?_) (by rfl) ?_ ?_
   rotate_left
   ·(try simp only [a92,cond_true,cond_false])
    go_simp
    first|with_reducible rfl|rfl
   refine hK' _ _ (⟨A1,c1,A2,c2,j4,j5,jb,jc,j6,j7,j3,?_,h⟩)
   show Act.put _ (some 32) _=_
   simp only [a92,Act.put,List.setIfInBounds_toArray,List.set_cons_zero,List.set_cons_succ,dN,dU]
   rfl
  ·
   have hn_:=hneed _ rfl
   have n8:=hn_ 8 (by decide)
   have j9:=zz_ (fun h=>hcl 10 _ h rfl 9 (by decide)) hbi
   have ja:=zz_ (fun h=>hcl 11 _ h rfl 10 (by decide)) j9
   have j8:=zz_ (fun h=>hcl 13 _ h rfl 9 (by decide)) hbi
   simp only [hbi,n8,j9,ja,j8] at hI
   obtain ⟨A1,c1,A2,c2,j4,j5,jb,jc,j6,j7,j3,rfl,h⟩:=hI
   have hgw:=HGW.out
   have hh2:=HH2.out
   have jg:=H24.out
   refine wpOp_step rfl (fun K' hK'=>?_)
   simp (decide:=true) only [if_true,if_false,reduceIte,n8,j9,ja,j8] at hK'
   have hlt:=h.hK.1
   have jj:=Kd.kI jN.out (show aI W0 W g none from h.hK) (fun q hq=>by have:=hq.1;omega)
   refine Kd.rQ k35 W.heap.size 35 ?hg (N':=33) ?hd (w0:=W) (xs:=[(⟨1,3,0,⟨8,0,[⟨13,3,[]⟩,⟨0,1,[]⟩]⟩,[],[]⟩:S35)]) (inner:=[.int .i64 1, .int .i64 3, .int .i64 0, .int .i64 8, .int .i64 0, .slice je 2 jf, .slice none 0 0, .slice none 0 0]) (ok:=fun k=>h2≤k∧(b 12=true→k≠j3)) (okp:=fun k=>h2≤k∧k < W0.heap.size) ?hr ?hp ?ho ?hf (Below.refl _ _) (Nat.le_refl _) (by simp) ?_
   case hd=>rfl
   case hg=>rfl
   case hr=>(try simp only [a92,cond_true,cond_false]);first|(go_simp;done)|(go_simp;rfl)
   case hp=>exact eX.c8 (show Kd.FK k35 _ _ ((⟨1,3,0,⟨8,0,[⟨13,3,[]⟩,⟨0,1,[]⟩]⟩,[],[]⟩:S35):S35) [.int .i64 1, .int .i64 3, .int .i64 0, .int .i64 8, .int .i64 0, .slice je 2 jf, .slice none 0 0, .slice none 0 0] from kY _ _ ((⟨1,3,0,⟨8,0,[⟨13,3,[]⟩,⟨0,1,[]⟩]⟩,[],[]⟩:S35):S35) (Kd.bQ jj).2.1 (Kd.N_F jj) (Nat.le_refl _) (Kd.mW _ _ _) (Nat.le_refl _) (Kd.mW _ _ _)) (eX.none _ _)
   case ho=>exact fun q hq=>⟨hq.1,fun e=>by have:=(h.h10 e).1;omega⟩
   case hf=>exact ⟨by have:=H24.out;omega,fun e=>by have:=gT (h.h10 e).2;omega⟩
   intro v1 W' hn hb _ _
   obtain ⟨A,c,rfl⟩:=Kd.dG hn
   have h':=h.ext hb
   refine hK' _ _ (⟨A1,c1,A2,c2,j4,j5,A,c,j6,j7,j3,?_,⟨h'.hK,h'.hI,h'.hB,h'.h30,fun _=>Kd.dF hn (by have:=H24.out;omega),h'.h34,h'.h10⟩⟩)
   show Act.put _ (some 33) _=_
   simp only [a92,Act.put,List.setIfInBounds_toArray,List.set_cons_zero,List.set_cons_succ]
   rfl
  ·
   have hn_:=hneed _ rfl
   have n6:=hn_ 6 (by decide)
   have n7:=hn_ 7 (by decide)
   have n9:=hn_ 9 (by decide)
   have ja:=zz_ (fun h=>hcl 11 _ h rfl 10 (by decide)) hbi
   have j8:=zz_ (fun h=>hcl 13 _ h rfl 10 (by decide)) hbi
   simp only [hbi,n6,n7,n9,ja,j8] at hI
   obtain ⟨A1,c1,A2,c2,j4,j5,jb,jc,j6,j7,j3,rfl,h⟩:=hI
   have hgw:=HGW.out
   have hh2:=HH2.out
   have jg:=H24.out
   refine wpOp_step rfl (fun K' hK'=>?_)
   simp (decide:=true) only [if_true,if_false,reduceIte,n6,n7,n9,ja,j8] at hK'
   have hlt:=h.hK.1
   have hK0:aI W0 W g none:=h.hK
   have h8:=Kd.kI H8.out hK0 (fun q hq=>by have:=hq.1;omega)
   have jx:=h.h33 rfl
   have own8:∀ q,v8.ownBlock=some q→w.heap.size≤q∧q < h2:=fun q hq=>H8.out.1 q hq
   refine Kd.oN k35 (w0:=W) w.heap.size (by rfl) (.tmp 31) (.tmp 33) 23 35 (.agg #[.int .i64 0, .int .i64 0, .int .i64 0, .int .i64 0, .int .i64 0, .slice none 0 0, .slice none 0 0, .slice none 0 0]) 112 rfl Try.underlying23 tQ rfl (by decide) (by omega) v8 jd [(⟨1,3,0,⟨8,0,[⟨13,3,[]⟩,⟨0,1,[]⟩]⟩,[],[]⟩:S35)] jb 1 jc (fun k=>w.heap.size≤k∧(b 12=true→k≠j3)) (fun k=>h2≤k∧(b 12=true→k≠j3)) rfl rfl (Kd.aG h8 ?aO) (Kd.N_F jx) ?aK ?aF ?aB ?aS ?aL ?_
   case aO=>exact fun q hq=>⟨hq.1,fun e=>by have:=(h.h10 e).1;have:=hq.2;have:=H24.out;omega⟩
   case aK=>exact fun q hq=>⟨⟨by have:=HH2.out;have:=hq.1;omega,hq.2⟩,fun e=>by have:=(own8 q e.symm).2;have:=hq.1;omega⟩
   case aF=>exact fun q hq=>⟨by have:=HH2.out;have:=H24.out;omega,fun e=>by have:=gT (h.h10 e).2;omega⟩
   case aB=>exact Below.refl _ _
   case aS=>have:=HH2.out;have:=H24.out;omega
   case aL=>have:=LM.out;omega
   intro v1 W' hn hb hg hat
   obtain ⟨A,c,rfl⟩:=Kd.dG hn
   have ne:∀ q,h2≤q→some q≠v8.ownBlock:=fun q hq e=>by have:=(own8 q e.symm).2;omega
   have neg:some g≠v8.ownBlock:=fun e=>by have:=(own8 g e.symm).1;omega
   refine hK' _ _ (⟨A1,c1,A2,c2,j4,j5,jb,jc,A,c,j3,?_,⟨aI.trans (row:=v8.ownBlock) ⟨hK0.1,fun q hq hq2 _=>hK0.2 q hq hq2 (by simp)⟩ (aI.oG hg g) (.inl rfl),h.hI.grown hg neg,nD h.hB (Nat.le_of_lt (Nat.lt_of_le_of_lt h.hI.ge hgw)) hb,fun e=>Kd.sP (h.h30 e) (fun q hq hl=>hg.block q hl (ne q (by have:=hq.1;omega))),fun _=>Kd.sP jx (fun q hq hl=>hg.block q hl (ne q hq.1)),fun _=>hn,fun e=>⟨(h.h10 e).1,gX (h.h10 e).2 hg (ne _ (by have:=(h.h10 e).1;have:=H24.out;omega))⟩⟩⟩)
   show Act.put _ (some 34) _=_
   simp only [a92,Act.put,List.setIfInBounds_toArray,List.set_cons_zero,List.set_cons_succ]
   rfl
  ·
   have hn_:=hneed _ rfl
   have n6:=hn_ 6 (by decide)
   have n10:=hn_ 10 (by decide)
   have j8:=zz_ (fun h=>hcl 13 _ h rfl 11 (by decide)) hbi
   simp only [hbi,n6,n10,j8] at hI
   obtain ⟨A1,c1,A2,c2,j4,j5,jb,jc,j6,j7,j3,rfl,h⟩:=hI
   have hgw:=HGW.out
   have hh2:=HH2.out
   have jg:=H24.out
   refine wpOp_step rfl (fun K' hK'=>?_)
   simp (decide:=true) only [if_true,if_false,reduceIte,n6,n10,j8] at hK'
   refine iO (W:=W) (w1:=W) (v:= .agg #[.int .i64 3, .int .i64 0, .int .i64 0, .int .i64 5, .int .i64 0, .slice j4 2 j5, .slice j6 (jd ++ [(⟨1,3,0,⟨8,0,[⟨13,3,[]⟩,⟨0,1,[]⟩]⟩,[],[]⟩:S35)]).length j7, .slice none 0 0]) (by rfl) ?_ ?_
   ·(try simp only [a92,cond_true,cond_false])
    go_simp
    (try rfl)
   refine hK' _ _ (⟨A1,c1,A2,c2,j4,j5,jb,jc,j6,j7,j3,?_,h⟩)
   show Act.put _ (some 35) _=_
   simp only [a92,Act.put,List.setIfInBounds_toArray,List.set_cons_zero,List.set_cons_succ,dN,dU]
   rfl
  ·
   have j8:=zz_ (fun h=>hcl 13 _ h rfl 12 (by decide)) hbi
   simp only [hbi,j8] at hI
   obtain ⟨A1,c1,A2,c2,j4,j5,jb,jc,j6,j7,j3,rfl,h⟩:=hI
   have hgw:=HGW.out
   have hh2:=HH2.out
   have jg:=H24.out
   refine wpOp_step rfl (fun K' hK'=>?_)
   simp (decide:=true) only [if_true,if_false,reduceIte,j8] at hK'
   refine lY ?hg (N:=10) ?hd (cs:=#[.int .i64 0, .int .i64 0, .int .i64 0, .int .i64 0, .int .i64 0, .slice none 0 0, .slice none 0 0, .slice none 0 0]) (t:=35) ?hr ?_
   case hd=>rfl
   case hg=>rfl
   case hr=>(try simp only [a92,cond_true,cond_false]);first|(go_simp;done)|(go_simp;rfl)
   intro gb hgb W' hbox hb
   have hlt:=h.hK.1
   have h':=h.ext hb
   refine hK' _ _ (⟨A1,c1,A2,c2,j4,j5,jb,jc,j6,j7,gb,?_,⟨h'.hK,h'.hI,h'.hB,fun e=>Kd.aG (Kd.dS (Kd.nV (h.h30 e)) hb) (fun q hq=>⟨hq.1.1,fun _=>by have:=hq.2;omega⟩),fun e=>Kd.aG (Kd.dS (Kd.nV (h.h33 e)) hb) (fun q hq=>⟨hq.1.1,fun _=>by have:=hq.2;omega⟩),fun e=>Kd.aG (Kd.dS (Kd.nV (h.h34 e)) hb) (fun q hq=>⟨hq.1.1,fun _=>by have:=hq.2;omega⟩),fun _=>⟨by omega,hbox⟩⟩⟩)
   show Act.put _ (some 10) _=_
   simp only [a92,Act.put,List.setIfInBounds_toArray,List.set_cons_zero,List.set_cons_succ]
   rfl
  ·
   have hn_:=hneed _ rfl
   have n0:=hn_ 0 (by decide)
   have n1:=hn_ 1 (by decide)
   have n2:=hn_ 2 (by decide)
   have n3:=hn_ 3 (by decide)
   have n4:=hn_ 4 (by decide)
   have n5:=hn_ 5 (by decide)
   have n6:=hn_ 6 (by decide)
   have n7:=hn_ 7 (by decide)
   have n8:=hn_ 8 (by decide)
   have n9:=hn_ 9 (by decide)
   have n10:=hn_ 10 (by decide)
   have n11:=hn_ 11 (by decide)
   have n12:=hn_ 12 (by decide)
   simp only [hbi,n0,n1,n2,n3,n4,n5,n6,n7,n8,n9,n10,n11,n12] at hI
   obtain ⟨A1,c1,A2,c2,j4,j5,jb,jc,j6,j7,j3,rfl,h⟩:=hI
   have hgw:=HGW.out
   have hh2:=HH2.out
   have jg:=H24.out
   refine wpOp_step rfl (fun K' hK'=>?_)
   simp (decide:=true) only [if_true,if_false,reduceIte,n0,n1,n2,n3,n4,n5,n6,n7,n8,n9,n10,n11,n12] at hK'
   obtain ⟨hg10,hbx⟩:=h.h10 rfl
   replace hbx:W.heap[j3]?=some (.cells #[.int .i64 0, .int .i64 0, .int .i64 0, .int .i64 0, .int .i64 0, .slice none 0 0, .slice none 0 0, .slice none 0 0] 35 (0,0)):=hbx
   have hlt:=h.hK.1
   have q0:W.cell? ⟨j3,0,none⟩=some (.int .i64 0):=aC hbx 0
   have f0:=aU hbx 0
   have q1:W.cell? ⟨j3,1,none⟩=some (.int .i64 0):=aC hbx 1
   have f1:=aU hbx 1
   have q2:W.cell? ⟨j3,2,none⟩=some (.int .i64 0):=aC hbx 2
   have f2:=aU hbx 2
   have q3:W.cell? ⟨j3,3,none⟩=some (.int .i64 0):=aC hbx 3
   have f3:=aU hbx 3
   have q4:W.cell? ⟨j3,4,none⟩=some (.int .i64 0):=aC hbx 4
   have f4:=aU hbx 4
   have q5:W.cell? ⟨j3,5,none⟩=some (.slice none 0 0):=aC hbx 5
   have f5:=aU hbx 5
   have q6:W.cell? ⟨j3,6,none⟩=some (.slice none 0 0):=aC hbx 6
   have f6:=aU hbx 6
   have q7:W.cell? ⟨j3,7,none⟩=some (.slice none 0 0):=aC hbx 7
   have f7:=aU hbx 7
   refine rP (w1:=((((((((W.setCell ⟨j3,0,none⟩ (.int .i64 3)).setCell ⟨j3,1,none⟩ (.int .i64 0)).setCell ⟨j3,2,none⟩ (.int .i64 0)).setCell ⟨j3,3,none⟩ (.int .i64 5)).setCell ⟨j3,4,none⟩ (.int .i64 0)).setCell ⟨j3,5,none⟩ (.slice j4 2 j5)).setCell ⟨j3,6,none⟩ (.slice j6 (jd ++ [(⟨1,3,0,⟨8,0,[⟨13,3,[]⟩,⟨0,1,[]⟩]⟩,[],[]⟩:S35)]).length j7)).setCell ⟨j3,7,none⟩ (.slice none 0 0))) (by rfl) rfl ?_ ?_
   ·(try simp only [a92,cond_true,cond_false])
    go_simp
    (try rfl)
   have ng:g≠j3:=by omega
   have hb0:w0.heap.size≤j3:=Nat.le_trans h.hI.ge (by omega)
   refine hK' _ _ (⟨A1,c1,A2,c2,j4,j5,jb,jc,j6,j7,j3,rfl,⟨(iB (p:=⟨j3,7,none⟩) (iB (p:=⟨j3,6,none⟩) (iB (p:=⟨j3,5,none⟩) (iB (p:=⟨j3,4,none⟩) (iB (p:=⟨j3,3,none⟩) (iB (p:=⟨j3,2,none⟩) (iB (p:=⟨j3,1,none⟩) (iB (p:=⟨j3,0,none⟩) h.hK hg10 (.int .i64 3)) hg10 (.int .i64 0)) hg10 (.int .i64 0)) hg10 (.int .i64 5)) hg10 (.int .i64 0)) hg10 (.slice j4 2 j5)) hg10 (.slice j6 (jd ++ [(⟨1,3,0,⟨8,0,[⟨13,3,[]⟩,⟨0,1,[]⟩]⟩,[],[]⟩:S35)]).length j7)) hg10 (.slice none 0 0)),(aQ.far (p:=⟨j3,7,none⟩) (aQ.far (p:=⟨j3,6,none⟩) (aQ.far (p:=⟨j3,5,none⟩) (aQ.far (p:=⟨j3,4,none⟩) (aQ.far (p:=⟨j3,3,none⟩) (aQ.far (p:=⟨j3,2,none⟩) (aQ.far (p:=⟨j3,1,none⟩) (aQ.far (p:=⟨j3,0,none⟩) h.hI ng (.int .i64 3)) ng (.int .i64 0)) ng (.int .i64 0)) ng (.int .i64 5)) ng (.int .i64 0)) ng (.slice j4 2 j5)) ng (.slice j6 (jd ++ [(⟨1,3,0,⟨8,0,[⟨13,3,[]⟩,⟨0,1,[]⟩]⟩,[],[]⟩:S35)]).length j7)) ng (.slice none 0 0)),(below_set (j:=7) (v:=(.slice none 0 0)) (below_set (j:=6) (v:=(.slice j6 (jd ++ [(⟨1,3,0,⟨8,0,[⟨13,3,[]⟩,⟨0,1,[]⟩]⟩,[],[]⟩:S35)]).length j7)) (below_set (j:=5) (v:=(.slice j4 2 j5)) (below_set (j:=4) (v:=(.int .i64 0)) (below_set (j:=3) (v:=(.int .i64 5)) (below_set (j:=2) (v:=(.int .i64 0)) (below_set (j:=1) (v:=(.int .i64 0)) (below_set (j:=0) (v:=(.int .i64 3)) h.hB hb0) hb0) hb0) hb0) hb0) hb0) hb0) hb0),fun e=>(Kd.aT (p:=⟨j3,7,none⟩) (Kd.aT (p:=⟨j3,6,none⟩) (Kd.aT (p:=⟨j3,5,none⟩) (Kd.aT (p:=⟨j3,4,none⟩) (Kd.aT (p:=⟨j3,3,none⟩) (Kd.aT (p:=⟨j3,2,none⟩) (Kd.aT (p:=⟨j3,1,none⟩) (Kd.aT (p:=⟨j3,0,none⟩) (h.h30 rfl) (fun q hq=>hq.2 rfl) (.int .i64 3)) (fun q hq=>hq.2 rfl) (.int .i64 0)) (fun q hq=>hq.2 rfl) (.int .i64 0)) (fun q hq=>hq.2 rfl) (.int .i64 5)) (fun q hq=>hq.2 rfl) (.int .i64 0)) (fun q hq=>hq.2 rfl) (.slice j4 2 j5)) (fun q hq=>hq.2 rfl) (.slice j6 (jd ++ [(⟨1,3,0,⟨8,0,[⟨13,3,[]⟩,⟨0,1,[]⟩]⟩,[],[]⟩:S35)]).length j7)) (fun q hq=>hq.2 rfl) (.slice none 0 0)),fun e=>(Kd.aT (p:=⟨j3,7,none⟩) (Kd.aT (p:=⟨j3,6,none⟩) (Kd.aT (p:=⟨j3,5,none⟩) (Kd.aT (p:=⟨j3,4,none⟩) (Kd.aT (p:=⟨j3,3,none⟩) (Kd.aT (p:=⟨j3,2,none⟩) (Kd.aT (p:=⟨j3,1,none⟩) (Kd.aT (p:=⟨j3,0,none⟩) (h.h33 rfl) (fun q hq=>hq.2 rfl) (.int .i64 3)) (fun q hq=>hq.2 rfl) (.int .i64 0)) (fun q hq=>hq.2 rfl) (.int .i64 0)) (fun q hq=>hq.2 rfl) (.int .i64 5)) (fun q hq=>hq.2 rfl) (.int .i64 0)) (fun q hq=>hq.2 rfl) (.slice j4 2 j5)) (fun q hq=>hq.2 rfl) (.slice j6 (jd ++ [(⟨1,3,0,⟨8,0,[⟨13,3,[]⟩,⟨0,1,[]⟩]⟩,[],[]⟩:S35)]).length j7)) (fun q hq=>hq.2 rfl) (.slice none 0 0)),fun e=>(Kd.aT (p:=⟨j3,7,none⟩) (Kd.aT (p:=⟨j3,6,none⟩) (Kd.aT (p:=⟨j3,5,none⟩) (Kd.aT (p:=⟨j3,4,none⟩) (Kd.aT (p:=⟨j3,3,none⟩) (Kd.aT (p:=⟨j3,2,none⟩) (Kd.aT (p:=⟨j3,1,none⟩) (Kd.aT (p:=⟨j3,0,none⟩) (h.h34 rfl) (fun q hq=>hq.2 rfl) (.int .i64 3)) (fun q hq=>hq.2 rfl) (.int .i64 0)) (fun q hq=>hq.2 rfl) (.int .i64 0)) (fun q hq=>hq.2 rfl) (.int .i64 5)) (fun q hq=>hq.2 rfl) (.int .i64 0)) (fun q hq=>hq.2 rfl) (.slice j4 2 j5)) (fun q hq=>hq.2 rfl) (.slice j6 (jd ++ [(⟨1,3,0,⟨8,0,[⟨13,3,[]⟩,⟨0,1,[]⟩]⟩,[],[]⟩:S35)]).length j7)) (fun q hq=>hq.2 rfl) (.slice none 0 0)),fun _=>⟨hg10,(aM (cs':=#[(.int .i64 3),(.int .i64 0),(.int .i64 0),(.int .i64 5),(.int .i64 0),(.slice j4 2 j5),(.slice j6 (jd ++ [(⟨1,3,0,⟨8,0,[⟨13,3,[]⟩,⟨0,1,[]⟩]⟩,[],[]⟩:S35)]).length j7),(.slice none 0 0)]) (aM (cs':=#[(.int .i64 3),(.int .i64 0),(.int .i64 0),(.int .i64 5),(.int .i64 0),(.slice j4 2 j5),(.slice j6 (jd ++ [(⟨1,3,0,⟨8,0,[⟨13,3,[]⟩,⟨0,1,[]⟩]⟩,[],[]⟩:S35)]).length j7),(.slice none 0 0)]) (aM (cs':=#[(.int .i64 3),(.int .i64 0),(.int .i64 0),(.int .i64 5),(.int .i64 0),(.slice j4 2 j5),(.slice none 0 0),(.slice none 0 0)]) (aM (cs':=#[(.int .i64 3),(.int .i64 0),(.int .i64 0),(.int .i64 5),(.int .i64 0),(.slice none 0 0),(.slice none 0 0),(.slice none 0 0)]) (aM (cs':=#[(.int .i64 3),(.int .i64 0),(.int .i64 0),(.int .i64 5),(.int .i64 0),(.slice none 0 0),(.slice none 0 0),(.slice none 0 0)]) (aM (cs':=#[(.int .i64 3),(.int .i64 0),(.int .i64 0),(.int .i64 0),(.int .i64 0),(.slice none 0 0),(.slice none 0 0),(.slice none 0 0)]) (aM (cs':=#[(.int .i64 3),(.int .i64 0),(.int .i64 0),(.int .i64 0),(.int .i64 0),(.slice none 0 0),(.slice none 0 0),(.slice none 0 0)]) (aM (cs':=#[(.int .i64 3),(.int .i64 0),(.int .i64 0),(.int .i64 0),(.int .i64 0),(.slice none 0 0),(.slice none 0 0),(.slice none 0 0)]) hbx 0 (.int .i64 3) rfl) 1 (.int .i64 0) rfl) 2 (.int .i64 0) rfl) 3 (.int .i64 5) rfl) 4 (.int .i64 0) rfl) 5 (.slice j4 2 j5) rfl) 6 (.slice j6 (jd ++ [(⟨1,3,0,⟨8,0,[⟨13,3,[]⟩,⟨0,1,[]⟩]⟩,[],[]⟩:S35)]).length j7) rfl) 7 (.slice none 0 0) rfl)⟩⟩⟩)
 case hdone=>
  intro b a W hall hI
  replace hI:L92 w0 w W0 g g9 h2 jh a1 a2 jp jA jk jB v8 jd jD jE jF jG je jf (b 0) (b 1) (b 2) (b 3) (b 4) (b 5) (b 6) (b 7) (b 8) (b 9) (b 10) (b 11) (b 12) (b 13) a W:=hI
  rw [hall 0 (by decide),hall 1 (by decide),hall 2 (by decide),hall 3 (by decide),hall 4 (by decide),hall 5 (by decide),hall 6 (by decide),hall 7 (by decide),hall 8 (by decide),hall 9 (by decide),hall 10 (by decide),hall 11 (by decide),hall 12 (by decide),hall 13 (by decide)] at hI
  obtain ⟨A1,c1,A2,c2,j4,j5,jb,jc,j6,j7,j3,rfl,h⟩:=hI
  simp only [a92,cond_true]
  try go_wp2
  have own8:∀ q,v8.ownBlock=some q→w.heap.size≤q:=fun q hq=>(H8.out.1 q hq).1
  have hh2:=HH2.out
  have jg:=H24.out
  have HKW:Aside0 (aI w W g none):=⟨aI.trans HK'.out h.hK (by cases hv:v8.ownBlock with|none=>exact .inl rfl|some q=>exact .inr ⟨q,rfl,own8 q hv⟩)⟩
  have HN30:=am (Kd.aG (h.h30 rfl) (ok':=fun q=>w.heap.size≤q) (fun q hq=>by have:=hq.1;omega))
  have HN34:=am (Kd.aG (h.h34 rfl) (ok':=fun q=>w.heap.size≤q) (fun q hq=>hq.1))
  have h10':=am (show W.heap[j3]?=some (.cells #[.int .i64 3, .int .i64 0, .int .i64 0, .int .i64 5, .int .i64 0, .slice j4 2 j5, .slice j6 (jd ++ [(⟨1,3,0,⟨8,0,[⟨13,3,[]⟩,⟨0,1,[]⟩]⟩,[],[]⟩:S35)]).length j7, .slice none 0 0] 35 (0,0)) from (h.h10 rfl).2)
  have HIW:=am (show aQ w0 W g jh jB from h.hI)
  have HBW:=am h.hB
  clear h hall own8 hh2 jg HI' HB' HK' H24 HH2 H8
  refine lK (n:=6) (S:=fun w'=>w'.cell? ⟨j3,0,none⟩=some (.int .i64 3)∧w'.cell? ⟨j3,1,none⟩=some (.int .i64 0)∧w'.cell? ⟨j3,2,none⟩=some (.int .i64 0)∧w'.cell? ⟨j3,3,none⟩=some (.int .i64 5)∧w'.cell? ⟨j3,4,none⟩=some (.int .i64 0)∧w'.cell? ⟨j3,5,none⟩=some (.slice j4 2 j5)∧w'.cell? ⟨j3,6,none⟩=some (.slice j6 (jd ++ [(⟨1,3,0,⟨8,0,[⟨13,3,[]⟩,⟨0,1,[]⟩]⟩,[],[]⟩:S35)]).length j7)∧w'.cell? ⟨j3,7,none⟩=some (.slice none 0 0)) (ds:=[]) (bz 6 0) (by kernel_rfl) rfl rfl ⟨(aC h10'.out 0).trans rfl,(aC h10'.out 1).trans rfl,(aC h10'.out 2).trans rfl,(aC h10'.out 3).trans rfl,(aC h10'.out 4).trans rfl,(aC h10'.out 5).trans rfl,(aC h10'.out 6).trans rfl,(aC h10'.out 7).trans rfl⟩ (fun hHeld=>?_)
  have jl:=am (gY HKW.out)
  have jy:=am (Kd.kV HN30.out)
  have jz:=am (Kd.kV HN34.out)
  have jm:=am (bK h10'.out)
  have jn:=am (aQ.drew HIW.out)
  have jo:=am (bG HBW.out)
  clear HKW HN30 HN34 h10' HIW HBW
  have HKW:=jl
  have HN30:=jy
  have HN34:=jz
  have h10':=jm
  have HIW:=jn
  have HBW:=jo
  clear jl jy jz jm jn jo
  generalize W.drew=W1 at HKW HN30 HN34 h10' HIW HBW hHeld ⊢
  refine CZ (i:=0) (N:=some 36) (v:=?_) (a':=?_) (bz 6 1) rfl rfl (by kernel_rfl) (fun _ _ _ h=>h) (Or.inl ⟨by rfl,?_⟩) ?_ ?_
  rotate_left
  ·intro w'
   go_simp
   with_reducible rfl
  rotate_left
  ·simp only [Act.put,List.setIfInBounds_toArray,List.set_cons_zero,List.set_cons_succ,dN,dU]
   rfl
  refine uO (i:=3) (N:=some 39) (v:=?_) (a':=?_) (bz 6 9) rfl rfl (by kernel_rfl) (fun _ _ _ h=>h) (Or.inl ⟨by rfl,?_⟩) hHeld ?_ ?_
  rotate_left
  ·rintro w' ⟨s0,s1,s2,s3,s4,s5,s6,s7⟩
   go_simp
   with_reducible rfl
  rotate_left
  ·simp only [Act.put,List.setIfInBounds_toArray,List.set_cons_zero,List.set_cons_succ,dN,dU]
   rfl
  refine kN (i:=1) (N:=some 37) (bz 6 11) rfl rfl (by kernel_rfl) (by decide) (fun K hK=>?_)
  refine iP Try.func45 (by kernel_rfl) rfl #[.int .i64 0, .int .i64 0] (by rfl) rfl rfl (by (try simp only [List.map_toArray,List.map_cons,List.map_nil]);first|done|rfl) ?_
  refine (wP 0 0 _).mono ?_
  rintro e W2 ⟨AL,cL,rfl,hb⟩
  refine ⟨_,rfl,?_⟩
  have jl:=am (aI.trans HKW.out (aI.of_below hb g none) (.inl rfl))
  have jy:=am (Kd.dS HN30.out hb)
  have jz:=am (Kd.dS HN34.out hb)
  have jm:=am (dR h10'.out hb)
  have jn:=am (HIW.out.below hb)
  have jo:=am (aD HBW.out hb)
  clear HKW HN30 HN34 h10' HIW HBW
  have HKW:=jl
  have HN30:=jy
  have HN34:=jz
  have h10':=jm
  have HIW:=jn
  have HBW:=jo
  clear jl jy jz jm jn jo hb
  refine hK.out _ _ ⟨(aC h10'.out 0).trans rfl,(aC h10'.out 1).trans rfl,(aC h10'.out 2).trans rfl,(aC h10'.out 3).trans rfl,(aC h10'.out 4).trans rfl,(aC h10'.out 5).trans rfl,(aC h10'.out 6).trans rfl,(aC h10'.out 7).trans rfl⟩ (fun hHeld=>?_)
  clear hK K
  refine eT (a':=?_) ?_ ?_
  rotate_left
  ·show Act.put _ (some 37) _=_
   simp only [Act.put,List.setIfInBounds_toArray,List.set_cons_zero,List.set_cons_succ,dN,dU]
   rfl
  refine CZ (i:=2) (N:=some 38) (v:=?_) (a':=?_) (bz 6 15) rfl rfl (by kernel_rfl) (fun _ _ _ h=>h) (Or.inl ⟨by rfl,?_⟩) ?_ ?_
  rotate_left
  ·intro w'
   go_simp
   with_reducible rfl
  rotate_left
  ·simp only [Act.put,List.setIfInBounds_toArray,List.set_cons_zero,List.set_cons_succ,dN,dU]
   rfl
  refine kN (i:=4) (N:=some 40) (bz 6 31) rfl rfl (by kernel_rfl) (by decide) (fun K hK=>?_)
  have hkw:=HKW.out.1
  refine Kd.rQ k35 W2.heap.size 35 ?hg (N':=40) ?hd (w0:=W2) (xs:=[(⟨1,3,0,⟨0,0,[]⟩,[],[]⟩:S35),(⟨3,0,0,⟨5,0,[⟨13,3,[]⟩,⟨0,wrap64 (1 + jk),[]⟩]⟩,jd ++ [⟨1,3,0,⟨8,0,[⟨13,3,[]⟩,⟨0,1,[]⟩]⟩,[],[]⟩],[]⟩:S35)]) (inner:=[.int .i64 1, .int .i64 3, .int .i64 0, .int .i64 0, .int .i64 0, .slice AL 0 cL, .slice none 0 0, .slice none 0 0, .int .i64 3, .int .i64 0, .int .i64 0, .int .i64 5, .int .i64 0, .slice j4 2 j5, .slice j6 (jd ++ [(⟨1,3,0,⟨8,0,[⟨13,3,[]⟩,⟨0,1,[]⟩]⟩,[],[]⟩:S35)]).length j7, .slice none 0 0]) (ok:=fun q=>w.heap.size≤q) (okp:=fun q=>w.heap.size≤q) ?hr ?hp (fun _ hq=>hq) ?hf (Below.refl _ _) (Nat.le_refl _) (by simp) ?_
  case hd=>rfl
  case hg=>rfl
  case hr=>first|(go_simp;done)|(go_simp;rfl)
  case hf=>exact hkw
  case hp=>exact eX.c8 (show Kd.FK k35 _ _ (⟨1,3,0,⟨0,0,[]⟩,[],[]⟩:S35) [.int .i64 1, .int .i64 3, .int .i64 0, .int .i64 0, .int .i64 0, .slice AL 0 cL, .slice none 0 0, .slice none 0 0] from kY _ _ (⟨1,3,0,⟨0,0,[]⟩,[],[]⟩:S35) (Nat.zero_le _) (aAc k32 _ _ AL) (Nat.le_refl _) (Kd.mW _ _ _) (Nat.le_refl _) (Kd.mW _ _ _)) (eX.c8 (show Kd.FK k35 _ _ (⟨3,0,0,⟨5,0,[⟨13,3,[]⟩,⟨0,wrap64 (1 + jk),[]⟩]⟩,jd ++ [⟨1,3,0,⟨8,0,[⟨13,3,[]⟩,⟨0,1,[]⟩]⟩,[],[]⟩],[]⟩:S35) [.int .i64 3, .int .i64 0, .int .i64 0, .int .i64 5, .int .i64 0, .slice j4 2 j5, .slice j6 (jd ++ [(⟨1,3,0,⟨8,0,[⟨13,3,[]⟩,⟨0,1,[]⟩]⟩,[],[]⟩:S35)]).length j7, .slice none 0 0] from kY _ _ (⟨3,0,0,⟨5,0,[⟨13,3,[]⟩,⟨0,wrap64 (1 + jk),[]⟩]⟩,jd ++ [⟨1,3,0,⟨8,0,[⟨13,3,[]⟩,⟨0,1,[]⟩]⟩,[],[]⟩],[]⟩:S35) (Kd.bQ HN30.out).2.1 (Kd.N_F HN30.out) (Kd.bQ HN34.out).2.1 (Kd.N_F HN34.out) (Nat.le_refl _) (Kd.mW _ _ _)) (eX.none _ _))
  intro v1 W3 hn hb _ _
  have jl:=am (aI.trans HKW.out (aI.of_below hb g none) (.inl rfl))
  have jm:=am (dR h10'.out hb)
  have jn:=am (HIW.out.below hb)
  have jo:=am (aD HBW.out hb)
  have qi:=am (Kd.dF hn hkw)
  clear HKW HN30 HN34 h10' HIW HBW hb hn
  have h10':=jm
  refine hK.out _ _ ⟨(aC h10'.out 0).trans rfl,(aC h10'.out 1).trans rfl,(aC h10'.out 2).trans rfl,(aC h10'.out 3).trans rfl,(aC h10'.out 4).trans rfl,(aC h10'.out 5).trans rfl,(aC h10'.out 6).trans rfl,(aC h10'.out 7).trans rfl⟩ (fun hHeld=>?_)
  clear hK K
  refine eT (a':=?_) ?_ ?_
  rotate_left
  ·show Act.put _ (some 40) _=_
   simp only [Act.put,List.setIfInBounds_toArray,List.set_cons_zero,List.set_cons_succ,dN,dU]
   rfl
  refine CZ (i:=5) (N:=some 6) (v:=?_) (a':=?_) (bz 6 63) rfl rfl (by kernel_rfl) (fun _ _ _ h=>h) (Or.inl ⟨by rfl,?_⟩) ?_ ?_
  rotate_left
  ·intro w'
   go_simp
   with_reducible rfl
  rotate_left
  ·simp only [Act.put,List.setIfInBounds_toArray,List.set_cons_zero,List.set_cons_succ,dN,dU]
   rfl
  refine nN (by kernel_rfl) ?_
  try go_wp2
  go_ret
  exact ⟨_,rfl,HR.out ▸ qi.out,jn.out,jo.out,jl.out⟩
theorem bH.step (k:Nat) (ih_spec_l92Loop:∀ m,m < k→dX.fO m) (ih_spec_l92Stmt:∀ m,m < k→bH.fO m) (ih_spec_l92Block:∀ m,m < k→bU.fO m) (ih_spec_l92If:∀ m,m < k→eP.fO m):bH.fO k:=by
 intro g j3 qk a1 a2 a3 r1 r2 w0 w hI hB h
 cases k with
 |zero=>exact absurd h (by simp [bH.f])
 |succ k=>
 simp only [bH.f] at h
 have hu35:=Try.underlying35
 have HI0:=am hI
 have HK:=am (aI.refl w g none)
 have HL:=am hB.size
 clear hI
 have HW0:=am hB.size
 have HB:=am hB
 clear hB
 have H:((aH.f k j3 qk 10).bind fun j9=>(if j9.1=0 then (bH.j0 k a1 a2 a3 j9.1 (j9.1 == 0) j3 j9.2) else (bH.j0 k a1 a2 a3 j9.1 (j9.1 == 1) j3 j9.2)))=some (r1,r2):=h
 clear h
 obtain ⟨⟨j4,ja⟩,A5,H⟩:=bsa H
 (try dsimp only at H)
 have zk:=am H
 clear H
 go_enter Try.func93,Try.ntmps93
 go_upto_if 11 with (first|((with_reducible refine aN (f:=41) rfl ?_);refine gl_ 10 Try.func41 #[.pointer (some ⟨g,0,none⟩), .int .i64 10] ?_;(with_reducible refine (aH.calls k g j3 qk 10 j4 ja w0 _ ?side1 ?side2 A5.out).mono ?_);(case side1=>exact gG);(case side2=>exact iU);rintro e w7 ⟨rfl,hi,hb,hk⟩;refine ⟨_,rfl,?_⟩;replace HK:=am (aI.trans fI hk (.inl rfl));replace HB:=am (hb);replace HI0:=am (hi);(try clear hb);(try clear hk);(try clear hi)))
 (try simp only [Act.put,List.setIfInBounds_toArray,List.set_cons_zero,List.set_cons_succ])
 go_cut [11] (fun zN wc=>∃ (kq:Nat) (jt:Bool),zN= .bool jt∧Aside0 (bH.j0 kq a1 a2 a3 j4 jt j3 ja=some (r1,r2))∧Aside0 (kq≤k)∧Aside0 (aQ w0 wc g j3 ja)∧Aside0 (aI w wc g none)∧Aside0 (Below w0.heap.size w0 wc))
 case first=>
  have H:=zk.out
  clear zk
  by_cases c8:j4=0
  ·rw [if_pos c8] at H
   have jD:(j4 == 0)=true:=beq_iff_eq.mpr c8
   have zl:(j4 != 0)=false:=bne_eq_false_iff_eq.mpr c8
   clear c8
   (first|rw [jD]|(simp only [dN,dU];rw [jD])|skip)
   have H':=am H
   clear H
   go_wp2
   go_meet
   case rel=>exact ⟨_,((j4 == 0)),sd_,H',⟨by first|omega|exact Nat.le_refl _⟩,⟨gG⟩,⟨fI⟩,⟨iU⟩⟩
  rw [if_neg c8] at H
  have jD:(j4 == 0)=false:=beq_eq_false_iff_ne.mpr c8
  have zl:(j4 != 0)=true:=bne_iff_ne.mpr c8
  (first|rw [jD]|(simp only [dN,dU];rw [jD])|skip)
  have H':=am H
  clear H
  go_wp2
  go_meet
  case rel=>exact ⟨_,((j4 == 1)),sd_,H',⟨by first|omega|exact Nat.le_refl _⟩,⟨gG⟩,⟨fI⟩,⟨iU⟩⟩
 case rest=>
  clear zk
  obtain ⟨kq,jt,rfl,HA,HJ5,HI0,HK,HB⟩:=hcut
  cases kq with
  |zero=>exact absurd HA.out (by simp [bH.j0])
  |succ qh=>
   have H:=HA.out
   clear HA
   simp only [bH.j0] at H
   by_cases c9:jt=true
   ·subst c9
    rw [if_pos rfl] at H
    obtain ⟨⟨jT,jU,jV,jW,jX,jY,jZ,q0,zI⟩,zJ,H⟩:=bsm H
    (try dsimp only at H)
    have zO:=am zJ
    clear zJ
    obtain ⟨zP,hy_⟩:∃ y_:List (S35),y_=(([(⟨jT,jU,jV,(⟨jW,jX,jY⟩:S32),jZ,q0⟩:S35)]:List (S35))):=⟨_,rfl⟩
    replace H:(some (zP,zI))=some (r1,r2):=rx_
    have ql:=am hy_
    clear hy_
    simp only [Option.some.injEq,Prod.mk.injEq] at H
    obtain ⟨rfl,rfl⟩:=H
    go_wp2_with (first|((with_reducible refine aN (f:=103) rfl ?_);refine gl_ 15 Try.func103 #[.pointer (some ⟨g,0,none⟩)] ?_;(with_reducible refine (gP.calls qh g j3 ja jT jU jV jW jX jY jZ q0 zI w0 _ ?side1 ?side2 zO.out).mono ?_);(case side1=>exact gG);(case side2=>exact iU);rintro e zQ ⟨zK,zL,zM,rfl,ho0,ho1,ho2,hi,hb,hk⟩;refine ⟨_,rfl,?_⟩;have jI:=am (Kd.dF (Kd.aG (ok':=fun k_=>(w.heap.size≤k_)∧some k_≠(zL:Value).ownBlock∧some k_≠(zM:Value).ownBlock∧k_≠g) ho0 (fun k_ hk_=>⟨(Nat.le_trans (aW (w:=w) (g:=g) (row:=none) fI) hk_.1),hk_.2.1,hk_.2.2,(aQ.fresh gG k_ hk_.1)⟩)) (aW (w:=w) (g:=g) (row:=none) fI));have jJ:=am (Kd.dF (Kd.aG (ok':=fun k_=>(w.heap.size≤k_)∧some k_≠(zK:Value).ownBlock∧some k_≠(zM:Value).ownBlock∧k_≠g) ho1 (fun k_ hk_=>⟨(Nat.le_trans (aW (w:=w) (g:=g) (row:=none) fI) hk_.1),hk_.2.1,hk_.2.2,(aQ.fresh gG k_ hk_.1)⟩)) (aW (w:=w) (g:=g) (row:=none) fI));have jK:=am (Kd.dF (Kd.aG (ok':=fun k_=>(w.heap.size≤k_)∧some k_≠(zK:Value).ownBlock∧some k_≠(zL:Value).ownBlock∧k_≠g) ho2 (fun k_ hk_=>⟨(Nat.le_trans (aW (w:=w) (g:=g) (row:=none) fI) hk_.1),hk_.2.1,hk_.2.2,(aQ.fresh gG k_ hk_.1)⟩)) (aW (w:=w) (g:=g) (row:=none) fI));replace HK:=am (aI.trans fI hk (.inl rfl));replace HB:=am (hb);replace HI0:=am (hi);(try clear hb);(try clear hk);(try clear hi);(try clear ho0);(try clear ho1);(try clear ho2);obtain ⟨qm,qn,zm⟩:=Kd.dG jI.out;subst zm;obtain ⟨qo,qp,zn⟩:=Kd.dG jJ.out;subst zn;obtain ⟨qq,qr,zo⟩:=Kd.dG jK.out;subst zo)|((with_reducible refine cZ (N:=16) rfl ?_);refine Kd.oV k35 _ 35 rfl (N':=16) rfl (xs:=([(⟨jT,jU,jV,(⟨jW,jX,jY⟩:S32),jZ,q0⟩:S35)]:List (S35))) (inner:=[.int .i64 jT, .int .i64 jU, .int .i64 jV, .int .i64 jW, .int .i64 jX, .slice qm jY.length qn, .slice qo jZ.length qp, .slice qq q0.length qr]) (ok:=(fun k_=>(w.heap.size≤k_)∧k_≠g)) (okp:=(fun k_=>(w.heap.size≤k_)∧k_≠g)) rn_ ?hp (fun _ hk=>hk) ((show ∀ k_,zQ.heap.size≤k_→(fun k_=>(w.heap.size≤k_)∧k_≠g) k_ from fun k_ hk=>⟨(Nat.le_trans (aW (w:=w) (g:=g) (row:=none) fI) hk),aQ.fresh gG k_ hk⟩) _ (Nat.le_refl _)) (Below.refl _ _) (Nat.le_refl _) (by simp) ?_;(case hp=>exact (eX.c8 (show Kd.FK k35 _ _ (⟨jT,jU,jV,(⟨jW,jX,jY⟩:S32),jZ,q0⟩:S35) [.int .i64 jT, .int .i64 jU, .int .i64 jV, .int .i64 jW, .int .i64 jX, .slice qm jY.length qn, .slice qo jZ.length qp, .slice qq q0.length qr] from (kY _ _ (⟨jT,jU,jV,(⟨jW,jX,jY⟩:S32),jZ,q0⟩:S35) (Kd.bQ (Kd.aG (ok':=(fun k_=>(w.heap.size≤k_)∧k_≠g)) (jI.out) (fun k_ hk=>⟨hk.1,hk.2.2.2⟩))).2.1 (Kd.N_F (Kd.aG (ok':=(fun k_=>(w.heap.size≤k_)∧k_≠g)) (jI.out) (fun k_ hk=>⟨hk.1,hk.2.2.2⟩))) (Kd.bQ (Kd.aG (ok':=(fun k_=>(w.heap.size≤k_)∧k_≠g)) (jJ.out) (fun k_ hk=>⟨hk.1,hk.2.2.2⟩))).2.1 (Kd.N_F (Kd.aG (ok':=(fun k_=>(w.heap.size≤k_)∧k_≠g)) (jJ.out) (fun k_ hk=>⟨hk.1,hk.2.2.2⟩))) (Kd.bQ (Kd.aG (ok':=(fun k_=>(w.heap.size≤k_)∧k_≠g)) (jK.out) (fun k_ hk=>⟨hk.1,hk.2.2.2⟩))).2.1 (Kd.N_F (Kd.aG (ok':=(fun k_=>(w.heap.size≤k_)∧k_≠g)) (jK.out) (fun k_ hk=>⟨hk.1,hk.2.2.2⟩))))) (eX.none _ _)));intro Jh Ji ho16 hb hg_ hnew_;clear hg_ hnew_;(first|rw [← ql.out] at ho16|(simp only [Int.reduceToNat] at ho16;rw [← ql.out] at ho16));have zp:=am (Kd.dF ho16 (aW (w:=w) (g:=g) (row:=none) fI));replace HK:=am (aI.trans fI (aI.of_below hb g none) (.inl rfl));replace HB:=am (aD iU hb);replace HI0:=am (aQ.below gG hb);clear jI jJ jK hb ho16))
    go_ret
    exact ⟨_,iI,eO (Kd.aG zp.out (fun _ hk=>hk.1)),gG,iU,fI⟩
   replace c9:=Bool.eq_false_iff.mpr c9
   subst c9
   rw [if_neg (show ¬ (false=true) by decide)] at H
   by_cases jL:j4=2
   ·rw [if_pos jL] at H
    have jE:(j4 == 2)=true:=beq_iff_eq.mpr jL
    have jF:(j4 != 2)=false:=bne_eq_false_iff_eq.mpr jL
    clear jL
    by_cases qi:a2 > 0
    ·rw [if_pos qi] at H
     have qs:decide (0 < a2)=true:=decide_eq_true qi
     clear qi
     obtain ⟨⟨q1,q2,q3,q4,q5,q6,jb,jc,qt⟩,qu,H⟩:=bsm H
     (try dsimp only at H)
     have zR:=am qu
     clear qu
     obtain ⟨zq,hy_⟩:∃ y_:List (S35),y_=(([(⟨q1,q2,q3,(⟨q4,q5,q6⟩:S32),jb,jc⟩:S35)]:List (S35))):=⟨_,rfl⟩
     replace H:(some (zq,qt))=some (r1,r2):=rx_
     have jN:=am hy_
     clear hy_
     simp only [Option.some.injEq,Prod.mk.injEq] at H
     obtain ⟨rfl,rfl⟩:=H
     go_wp2_with (first|((with_reducible refine aN (f:=42) rfl ?_);refine gl_ 25 Try.func42 #[.pointer (some ⟨g,0,none⟩), .int .i64 a1, .int .i64 a2, .bool a3] ?_;(with_reducible refine (ih_spec_l92If qh (by have:=HJ5.out;omega) g j3 ja a1 a2 a3 q1 q2 q3 q4 q5 q6 jb jc qt w0 _ ?side1 ?side2 zR.out).mono ?_);(case side1=>exact gG);(case side2=>exact iU);rintro e zS ⟨qv,qw,qx,rfl,ho0,ho1,ho2,hi,hb,hk⟩;refine ⟨_,rfl,?_⟩;have ju:=am (Kd.dF (Kd.aG (ok':=fun k_=>(w.heap.size≤k_)∧some k_≠(qw:Value).ownBlock∧some k_≠(qx:Value).ownBlock∧k_≠g) ho0 (fun k_ hk_=>⟨(Nat.le_trans (aW (w:=w) (g:=g) (row:=none) fI) hk_.1),hk_.2.1,hk_.2.2,(aQ.fresh gG k_ hk_.1)⟩)) (aW (w:=w) (g:=g) (row:=none) fI));have jv:=am (Kd.dF (Kd.aG (ok':=fun k_=>(w.heap.size≤k_)∧some k_≠(qv:Value).ownBlock∧some k_≠(qx:Value).ownBlock∧k_≠g) ho1 (fun k_ hk_=>⟨(Nat.le_trans (aW (w:=w) (g:=g) (row:=none) fI) hk_.1),hk_.2.1,hk_.2.2,(aQ.fresh gG k_ hk_.1)⟩)) (aW (w:=w) (g:=g) (row:=none) fI));have jw:=am (Kd.dF (Kd.aG (ok':=fun k_=>(w.heap.size≤k_)∧some k_≠(qv:Value).ownBlock∧some k_≠(qw:Value).ownBlock∧k_≠g) ho2 (fun k_ hk_=>⟨(Nat.le_trans (aW (w:=w) (g:=g) (row:=none) fI) hk_.1),hk_.2.1,hk_.2.2,(aQ.fresh gG k_ hk_.1)⟩)) (aW (w:=w) (g:=g) (row:=none) fI));replace HK:=am (aI.trans fI hk (.inl rfl));replace HB:=am (hb);replace HI0:=am (hi);(try clear hb);(try clear hk);(try clear hi);(try clear ho0);(try clear ho1);(try clear ho2);obtain ⟨qy,qz,zr⟩:=Kd.dG ju.out;subst zr;obtain ⟨qA,qB,zs⟩:=Kd.dG jv.out;subst zs;obtain ⟨qC,qD,zt⟩:=Kd.dG jw.out;subst zt)|((with_reducible refine cZ (N:=26) rfl ?_);refine Kd.oV k35 _ 35 rfl (N':=26) rfl (xs:=([(⟨q1,q2,q3,(⟨q4,q5,q6⟩:S32),jb,jc⟩:S35)]:List (S35))) (inner:=[.int .i64 q1, .int .i64 q2, .int .i64 q3, .int .i64 q4, .int .i64 q5, .slice qy q6.length qz, .slice qA jb.length qB, .slice qC jc.length qD]) (ok:=(fun k_=>(w.heap.size≤k_)∧k_≠g)) (okp:=(fun k_=>(w.heap.size≤k_)∧k_≠g)) rn_ ?hp (fun _ hk=>hk) ((show ∀ k_,zS.heap.size≤k_→(fun k_=>(w.heap.size≤k_)∧k_≠g) k_ from fun k_ hk=>⟨(Nat.le_trans (aW (w:=w) (g:=g) (row:=none) fI) hk),aQ.fresh gG k_ hk⟩) _ (Nat.le_refl _)) (Below.refl _ _) (Nat.le_refl _) (by simp) ?_;(case hp=>exact (eX.c8 (show Kd.FK k35 _ _ (⟨q1,q2,q3,(⟨q4,q5,q6⟩:S32),jb,jc⟩:S35) [.int .i64 q1, .int .i64 q2, .int .i64 q3, .int .i64 q4, .int .i64 q5, .slice qy q6.length qz, .slice qA jb.length qB, .slice qC jc.length qD] from (kY _ _ (⟨q1,q2,q3,(⟨q4,q5,q6⟩:S32),jb,jc⟩:S35) (Kd.bQ (Kd.aG (ok':=(fun k_=>(w.heap.size≤k_)∧k_≠g)) (ju.out) (fun k_ hk=>⟨hk.1,hk.2.2.2⟩))).2.1 (Kd.N_F (Kd.aG (ok':=(fun k_=>(w.heap.size≤k_)∧k_≠g)) (ju.out) (fun k_ hk=>⟨hk.1,hk.2.2.2⟩))) (Kd.bQ (Kd.aG (ok':=(fun k_=>(w.heap.size≤k_)∧k_≠g)) (jv.out) (fun k_ hk=>⟨hk.1,hk.2.2.2⟩))).2.1 (Kd.N_F (Kd.aG (ok':=(fun k_=>(w.heap.size≤k_)∧k_≠g)) (jv.out) (fun k_ hk=>⟨hk.1,hk.2.2.2⟩))) (Kd.bQ (Kd.aG (ok':=(fun k_=>(w.heap.size≤k_)∧k_≠g)) (jw.out) (fun k_ hk=>⟨hk.1,hk.2.2.2⟩))).2.1 (Kd.N_F (Kd.aG (ok':=(fun k_=>(w.heap.size≤k_)∧k_≠g)) (jw.out) (fun k_ hk=>⟨hk.1,hk.2.2.2⟩))))) (eX.none _ _)));intro zT Jj ho25 hb hg_ hnew_;clear hg_ hnew_;(first|rw [← jN.out] at ho25|(simp only [Int.reduceToNat] at ho25;rw [← jN.out] at ho25));have qE:=am (Kd.dF ho25 (aW (w:=w) (g:=g) (row:=none) fI));replace HK:=am (aI.trans fI (aI.of_below hb g none) (.inl rfl));replace HB:=am (aD iU hb);replace HI0:=am (aQ.below gG hb);clear ju jv jw hb ho25))
     go_ret
     exact ⟨_,iI,eO (Kd.aG qE.out (fun _ hk=>hk.1)),gG,iU,fI⟩
    rw [if_neg qi] at H
    have qs:decide (0 < a2)=false:=decide_eq_false qi
    clear qi
    obtain ⟨⟨zu,qF⟩,qG,H⟩:=bsm H
    (try dsimp only at H)
    have zU:=am qG
    clear qG
    obtain ⟨⟨q7,jd,je,qH⟩,qI,H⟩:=bsm H
    (try dsimp only at H)
    have zV:=am qI
    clear qI
    obtain ⟨zv,hy_⟩:∃ y_:List (S35),y_=(([(⟨7,0,0,(⟨q7,jd,je⟩:S32),([]:List (S35)),([]:List (S35))⟩:S35)]:List (S35))):=⟨_,rfl⟩
    replace H:(some (zv,qH))=some (r1,r2):=rx_
    have jO:=am hy_
    clear hy_
    simp only [Option.some.injEq,Prod.mk.injEq] at H
    obtain ⟨rfl,rfl⟩:=H
    go_wp2_with (first|((with_reducible refine aN (f:=41) rfl ?_);refine gl_ 52 Try.func41 #[.pointer (some ⟨g,0,none⟩), .int .i64 3] ?_;(with_reducible refine (aH.calls qh g j3 ja 3 zu qF w0 _ ?side1 ?side2 zU.out).mono ?_);(case side1=>exact gG);(case side2=>exact iU);rintro e Jk ⟨rfl,hi,hb,hk⟩;refine ⟨_,rfl,?_⟩;replace HK:=am (aI.trans fI hk (.inl rfl));replace HB:=am (hb);replace HI0:=am (hi);(try clear hb);(try clear hk);(try clear hi))|((with_reducible refine aN (f:=76) rfl ?_);refine gl_ 54 Try.func76 #[.pointer (some ⟨g,0,none⟩), .int .i64 (wrap64 (1 + zu))] ?_;(with_reducible refine (bJ.calls qh g j3 qF (wrap64 (1 + zu)) q7 jd je qH w0 _ ?side1 ?side2 zV.out).mono ?_);(case side1=>exact gG);(case side2=>exact iU);rintro e zW ⟨zX,rfl,ho0,hi,hb,hk⟩;refine ⟨_,rfl,?_⟩;have jx:=am (Kd.dF (Kd.aG (ok':=fun k_=>(w.heap.size≤k_)∧k_≠g) ho0 (fun k_ hk_=>⟨(Nat.le_trans (aW (w:=w) (g:=g) (row:=none) fI) hk_),(aQ.fresh gG k_ hk_)⟩)) (aW (w:=w) (g:=g) (row:=none) fI));replace HK:=am (aI.trans fI hk (.inl rfl));replace HB:=am (hb);replace HI0:=am (hi);(try clear hb);(try clear hk);(try clear hi);(try clear ho0);obtain ⟨qJ,qK,zw⟩:=Kd.dG jx.out;subst zw)|((with_reducible refine cZ (N:=56) rfl ?_);refine Kd.oV k35 _ 35 rfl (N':=56) rfl (xs:=([(⟨7,0,0,(⟨q7,jd,je⟩:S32),([]:List (S35)),([]:List (S35))⟩:S35)]:List (S35))) (inner:=[.int .i64 7, .int .i64 0, .int .i64 0, .int .i64 q7, .int .i64 jd, .slice qJ je.length qK, .slice none 0 0, .slice none 0 0]) (ok:=(fun k_=>(w.heap.size≤k_)∧k_≠g)) (okp:=(fun k_=>(w.heap.size≤k_)∧k_≠g)) rn_ ?hp (fun _ hk=>hk) ((show ∀ k_,zW.heap.size≤k_→(fun k_=>(w.heap.size≤k_)∧k_≠g) k_ from fun k_ hk=>⟨(Nat.le_trans (aW (w:=w) (g:=g) (row:=none) fI) hk),aQ.fresh gG k_ hk⟩) _ (Nat.le_refl _)) (Below.refl _ _) (Nat.le_refl _) (by simp) ?_;(case hp=>exact (eX.c8 (show Kd.FK k35 _ _ (⟨7,0,0,(⟨q7,jd,je⟩:S32),([]:List (S35)),([]:List (S35))⟩:S35) [.int .i64 7, .int .i64 0, .int .i64 0, .int .i64 q7, .int .i64 jd, .slice qJ je.length qK, .slice none 0 0, .slice none 0 0] from (kY _ _ (⟨7,0,0,(⟨q7,jd,je⟩:S32),([]:List (S35)),([]:List (S35))⟩:S35) (Kd.bQ (Kd.aG (ok':=(fun k_=>(w.heap.size≤k_)∧k_≠g)) (jx.out) (fun k_ hk=>⟨hk.1,hk.2⟩))).2.1 (Kd.N_F (Kd.aG (ok':=(fun k_=>(w.heap.size≤k_)∧k_≠g)) (jx.out) (fun k_ hk=>⟨hk.1,hk.2⟩))) (Nat.le_refl _) (Kd.mW _ _ _) (Nat.le_refl _) (Kd.mW _ _ _))) (eX.none _ _)));intro zY Jl ho32 hb hg_ hnew_;clear hg_ hnew_;(first|rw [← jO.out] at ho32|(simp only [Int.reduceToNat] at ho32;rw [← jO.out] at ho32));have qL:=am (Kd.dF ho32 (aW (w:=w) (g:=g) (row:=none) fI));replace HK:=am (aI.trans fI (aI.of_below hb g none) (.inl rfl));replace HB:=am (aD iU hb);replace HI0:=am (aQ.below gG hb);clear jx hb ho32))
    go_ret
    exact ⟨_,iI,eO (Kd.aG qL.out (fun _ hk=>hk.1)),gG,iU,fI⟩
   rw [if_neg jL] at H
   have jE:(j4 == 2)=false:=beq_eq_false_iff_ne.mpr jL
   have jF:(j4 != 2)=true:=bne_iff_ne.mpr jL
   by_cases jM:j4=3
   ·rw [if_pos jM] at H
    have jG:(j4 == 3)=true:=beq_iff_eq.mpr jM
    have jH:(j4 != 3)=false:=bne_eq_false_iff_eq.mpr jM
    clear jM
    have q8:=am H
    clear H
    go_upto_region 9 with (fail)
    go_cut [33] (fun zZ wc=>∃ (kq:Nat) (j5:Bool),zZ= .bool j5∧Aside0 (bH.j1 kq a1 a2 j5 j3 ja=some (r1,r2))∧Aside0 (kq≤qh)∧Aside0 (aQ w0 wc g j3 ja)∧Aside0 (aI w wc g none)∧Aside0 (Below w0.heap.size w0 wc))
    case first=>
     have H:=q8.out
     clear q8
     by_cases qj:a2 > 0
     ·rw [if_pos qj] at H
      have j7:decide (0 < a2)=true:=decide_eq_true qj
      clear qj
      (first|rw [j7]|(simp only [dN,dU];rw [j7])|skip)
      have H':=am H
      clear H
      go_wp2
      go_meet
      case rel=>exact ⟨_,(a3),sd_,H',⟨by have:=HJ5.out;first|omega|exact Nat.le_refl _⟩,⟨gG⟩,⟨fI⟩,⟨iU⟩⟩
     rw [if_neg qj] at H
     have j7:decide (0 < a2)=false:=decide_eq_false qj
     clear qj
     (first|rw [j7]|(simp only [dN,dU];rw [j7])|skip)
     have H':=am H
     clear H
     go_wp2
     go_meet
     case rel=>exact ⟨_,(false),sd_,H',⟨by have:=HJ5.out;first|omega|exact Nat.le_refl _⟩,⟨gG⟩,⟨fI⟩,⟨iU⟩⟩
    case rest=>
     clear q8
     try clear c9
     try clear jL
     try clear jE
     try clear jF
     try clear jM
     try clear jG
     try clear jH
     obtain ⟨kq,j5,rfl,HA,HJ33,HI0,HK,HB⟩:=hcut
     cases kq with
     |zero=>exact absurd HA.out (by simp [bH.j1])
     |succ q9=>
      have H:=HA.out
      clear HA
      simp only [bH.j1] at H
      by_cases zi:j5=true
      ·subst zi
       rw [if_pos rfl] at H
       obtain ⟨⟨zx,zy⟩,J0,H⟩:=bsa H
       (try dsimp only at H)
       simp only [Option.some.injEq,Prod.mk.injEq] at H
       obtain ⟨rfl,rfl⟩:=H
       go_wp2_with (first|((with_reducible refine aN (f:=104) rfl ?_);refine gl_ 37 Try.func104 #[.pointer (some ⟨g,0,none⟩), .int .i64 a1, .int .i64 a2] ?_;(with_reducible refine (ih_spec_l92Loop q9 (by have:=HJ5.out;have:=HJ33.out;omega) g j3 ja a1 a2 zx zy w0 _ ?side1 ?side2 J0.out).mono ?_);(case side1=>exact gG);(case side2=>exact iU);rintro e Jm ⟨J1,rfl,ho0,hi,hb,hk⟩;refine ⟨_,rfl,?_⟩;have qM:=am (Kd.dF (Kd.aG (ok':=fun k_=>(w.heap.size≤k_)∧k_≠g) ho0 (fun k_ hk_=>⟨(Nat.le_trans (aW (w:=w) (g:=g) (row:=none) fI) hk_),(aQ.fresh gG k_ hk_)⟩)) (aW (w:=w) (g:=g) (row:=none) fI));replace HK:=am (aI.trans fI hk (.inl rfl));replace HB:=am (hb);replace HI0:=am (hi);(try clear hb);(try clear hk);(try clear hi);(try clear ho0)))
       go_ret
       exact ⟨_,iI,eO (Kd.aG qM.out (fun _ hk=>hk.1)),gG,iU,fI⟩
      replace zi:=Bool.eq_false_iff.mpr zi
      subst zi
      rw [if_neg (show ¬ (false=true) by decide)] at H
      obtain ⟨⟨qa,qN⟩,qO,H⟩:=bsm H
      (try dsimp only at H)
      have J2:=am qO
      clear qO
      obtain ⟨⟨jf,jg,jh,qP⟩,J3,H⟩:=bsa H
      (try dsimp only at H)
      obtain ⟨zz,hy_⟩:∃ y_:List (S35),y_=(([(⟨7,0,0,(⟨jf,jg,jh⟩:S32),([]:List (S35)),([]:List (S35))⟩:S35)]:List (S35))):=⟨_,rfl⟩
      replace H:(some (zz,qP))=some (r1,r2):=rx_
      have jP:=am hy_
      clear hy_
      simp only [Option.some.injEq,Prod.mk.injEq] at H
      obtain ⟨rfl,rfl⟩:=H
      go_wp2_with (first|((with_reducible refine aN (f:=41) rfl ?_);refine gl_ 52 Try.func41 #[.pointer (some ⟨g,0,none⟩), .int .i64 3] ?_;(with_reducible refine (aH.calls q9 g j3 ja 3 qa qN w0 _ ?side1 ?side2 J2.out).mono ?_);(case side1=>exact gG);(case side2=>exact iU);rintro e Jn ⟨rfl,hi,hb,hk⟩;refine ⟨_,rfl,?_⟩;replace HK:=am (aI.trans fI hk (.inl rfl));replace HB:=am (hb);replace HI0:=am (hi);(try clear hb);(try clear hk);(try clear hi))|((with_reducible refine aN (f:=76) rfl ?_);refine gl_ 54 Try.func76 #[.pointer (some ⟨g,0,none⟩), .int .i64 (wrap64 (1 + qa))] ?_;(with_reducible refine (bJ.calls q9 g j3 qN (wrap64 (1 + qa)) jf jg jh qP w0 _ ?side1 ?side2 J3.out).mono ?_);(case side1=>exact gG);(case side2=>exact iU);rintro e J4 ⟨J5,rfl,ho0,hi,hb,hk⟩;refine ⟨_,rfl,?_⟩;have jy:=am (Kd.dF (Kd.aG (ok':=fun k_=>(w.heap.size≤k_)∧k_≠g) ho0 (fun k_ hk_=>⟨(Nat.le_trans (aW (w:=w) (g:=g) (row:=none) fI) hk_),(aQ.fresh gG k_ hk_)⟩)) (aW (w:=w) (g:=g) (row:=none) fI));replace HK:=am (aI.trans fI hk (.inl rfl));replace HB:=am (hb);replace HI0:=am (hi);(try clear hb);(try clear hk);(try clear hi);(try clear ho0);obtain ⟨qQ,qR,zA⟩:=Kd.dG jy.out;subst zA)|((with_reducible refine cZ (N:=56) rfl ?_);refine Kd.oV k35 _ 35 rfl (N':=56) rfl (xs:=([(⟨7,0,0,(⟨jf,jg,jh⟩:S32),([]:List (S35)),([]:List (S35))⟩:S35)]:List (S35))) (inner:=[.int .i64 7, .int .i64 0, .int .i64 0, .int .i64 jf, .int .i64 jg, .slice qQ jh.length qR, .slice none 0 0, .slice none 0 0]) (ok:=(fun k_=>(w.heap.size≤k_)∧k_≠g)) (okp:=(fun k_=>(w.heap.size≤k_)∧k_≠g)) rn_ ?hp (fun _ hk=>hk) ((show ∀ k_,J4.heap.size≤k_→(fun k_=>(w.heap.size≤k_)∧k_≠g) k_ from fun k_ hk=>⟨(Nat.le_trans (aW (w:=w) (g:=g) (row:=none) fI) hk),aQ.fresh gG k_ hk⟩) _ (Nat.le_refl _)) (Below.refl _ _) (Nat.le_refl _) (by simp) ?_;(case hp=>exact (eX.c8 (show Kd.FK k35 _ _ (⟨7,0,0,(⟨jf,jg,jh⟩:S32),([]:List (S35)),([]:List (S35))⟩:S35) [.int .i64 7, .int .i64 0, .int .i64 0, .int .i64 jf, .int .i64 jg, .slice qQ jh.length qR, .slice none 0 0, .slice none 0 0] from (kY _ _ (⟨7,0,0,(⟨jf,jg,jh⟩:S32),([]:List (S35)),([]:List (S35))⟩:S35) (Kd.bQ (Kd.aG (ok':=(fun k_=>(w.heap.size≤k_)∧k_≠g)) (jy.out) (fun k_ hk=>⟨hk.1,hk.2⟩))).2.1 (Kd.N_F (Kd.aG (ok':=(fun k_=>(w.heap.size≤k_)∧k_≠g)) (jy.out) (fun k_ hk=>⟨hk.1,hk.2⟩))) (Nat.le_refl _) (Kd.mW _ _ _) (Nat.le_refl _) (Kd.mW _ _ _))) (eX.none _ _)));intro J6 Jo ho45 hb hg_ hnew_;clear hg_ hnew_;(first|rw [← jP.out] at ho45|(simp only [Int.reduceToNat] at ho45;rw [← jP.out] at ho45));have qS:=am (Kd.dF ho45 (aW (w:=w) (g:=g) (row:=none) fI));replace HK:=am (aI.trans fI (aI.of_below hb g none) (.inl rfl));replace HB:=am (aD iU hb);replace HI0:=am (aQ.below gG hb);clear jy hb ho45))
      go_ret
      exact ⟨_,iI,eO (Kd.aG qS.out (fun _ hk=>hk.1)),gG,iU,fI⟩
   rw [if_neg jM] at H
   have jG:(j4 == 3)=false:=beq_eq_false_iff_ne.mpr jM
   have jH:(j4 != 3)=true:=bne_iff_ne.mpr jM
   have qb:=am H
   clear H
   go_upto_if 38 with (fail)
   go_cut [38] (fun J7 wc=>∃ (kq:Nat) (j6:Bool),J7= .bool j6∧Aside0 (bH.j2 kq a1 j4 j6 j3 ja=some (r1,r2))∧Aside0 (kq≤qh)∧Aside0 (aQ w0 wc g j3 ja)∧Aside0 (aI w wc g none)∧Aside0 (Below w0.heap.size w0 wc))
   case first=>
    have H:=qb.out
    clear qb
    by_cases qc:j4=4
    ·rw [if_pos qc] at H
     have j8:(j4 == 4)=true:=beq_iff_eq.mpr qc
     have qT:(j4 != 4)=false:=bne_eq_false_iff_eq.mpr qc
     clear qc
     (first|rw [j8]|(simp only [dN,dU];rw [j8])|skip)
     have H':=am H
     clear H
     go_wp2
     go_meet
     case rel=>exact ⟨_,((j4 == 4)),sd_,H',⟨by have:=HJ5.out;first|omega|exact Nat.le_refl _⟩,⟨gG⟩,⟨fI⟩,⟨iU⟩⟩
    rw [if_neg qc] at H
    have j8:(j4 == 4)=false:=beq_eq_false_iff_ne.mpr qc
    have qT:(j4 != 4)=true:=bne_iff_ne.mpr qc
    (first|rw [j8]|(simp only [dN,dU];rw [j8])|skip)
    by_cases qd:j4=5
    ·rw [if_pos qd] at H
     have qU:(j4 == 5)=true:=beq_iff_eq.mpr qd
     have qV:(j4 != 5)=false:=bne_eq_false_iff_eq.mpr qd
     clear qd
     have H':=am H
     clear H
     go_wp2
     go_meet
     case rel=>exact ⟨_,((j4 == 5)),sd_,H',⟨by have:=HJ5.out;first|omega|exact Nat.le_refl _⟩,⟨gG⟩,⟨fI⟩,⟨iU⟩⟩
    rw [if_neg qd] at H
    have qU:(j4 == 5)=false:=beq_eq_false_iff_ne.mpr qd
    have qV:(j4 != 5)=true:=bne_iff_ne.mpr qd
    have H':=am H
    clear H
    go_wp2
    go_meet
    case rel=>exact ⟨_,((j4 == 6)),sd_,H',⟨by have:=HJ5.out;first|omega|exact Nat.le_refl _⟩,⟨gG⟩,⟨fI⟩,⟨iU⟩⟩
   case rest=>
    clear qb
    try clear c9
    try clear jL
    try clear jE
    try clear jF
    try clear jM
    try clear jG
    try clear jH
    obtain ⟨kq,j6,rfl,HA,HJ45,HI0,HK,HB⟩:=hcut
    cases kq with
    |zero=>exact absurd HA.out (by simp [bH.j2])
    |succ qe=>
     have H:=HA.out
     clear HA
     simp only [bH.j2] at H
     by_cases zj:j6=true
     ·subst zj
      rw [if_pos rfl] at H
      obtain ⟨⟨ji,jj,jk,jl,jm,jn,jo,jp,qW⟩,qX,H⟩:=bsm H
      (try dsimp only at H)
      have J8:=am qX
      clear qX
      obtain ⟨zB,hy_⟩:∃ y_:List (S35),y_=(([(⟨ji,jj,jk,(⟨jl,jm,jn⟩:S32),jo,jp⟩:S35)]:List (S35))):=⟨_,rfl⟩
      replace H:(some (zB,qW))=some (r1,r2):=rx_
      have jQ:=am hy_
      clear hy_
      simp only [Option.some.injEq,Prod.mk.injEq] at H
      obtain ⟨rfl,rfl⟩:=H
      go_wp2_with (first|((with_reducible refine aN (f:=105) rfl ?_);refine gl_ 44 Try.func105 #[.pointer (some ⟨g,0,none⟩), .int .i64 a1] ?_;(with_reducible refine (gW.calls qe g j3 ja a1 ji jj jk jl jm jn jo jp qW w0 _ ?side1 ?side2 J8.out).mono ?_);(case side1=>exact gG);(case side2=>exact iU);rintro e J9 ⟨qY,qZ,z0,rfl,ho0,ho1,ho2,hi,hb,hk⟩;refine ⟨_,rfl,?_⟩;have jz:=am (Kd.dF (Kd.aG (ok':=fun k_=>(w.heap.size≤k_)∧some k_≠(qZ:Value).ownBlock∧some k_≠(z0:Value).ownBlock∧k_≠g) ho0 (fun k_ hk_=>⟨(Nat.le_trans (aW (w:=w) (g:=g) (row:=none) fI) hk_.1),hk_.2.1,hk_.2.2,(aQ.fresh gG k_ hk_.1)⟩)) (aW (w:=w) (g:=g) (row:=none) fI));have jA:=am (Kd.dF (Kd.aG (ok':=fun k_=>(w.heap.size≤k_)∧some k_≠(qY:Value).ownBlock∧some k_≠(z0:Value).ownBlock∧k_≠g) ho1 (fun k_ hk_=>⟨(Nat.le_trans (aW (w:=w) (g:=g) (row:=none) fI) hk_.1),hk_.2.1,hk_.2.2,(aQ.fresh gG k_ hk_.1)⟩)) (aW (w:=w) (g:=g) (row:=none) fI));have jB:=am (Kd.dF (Kd.aG (ok':=fun k_=>(w.heap.size≤k_)∧some k_≠(qY:Value).ownBlock∧some k_≠(qZ:Value).ownBlock∧k_≠g) ho2 (fun k_ hk_=>⟨(Nat.le_trans (aW (w:=w) (g:=g) (row:=none) fI) hk_.1),hk_.2.1,hk_.2.2,(aQ.fresh gG k_ hk_.1)⟩)) (aW (w:=w) (g:=g) (row:=none) fI));replace HK:=am (aI.trans fI hk (.inl rfl));replace HB:=am (hb);replace HI0:=am (hi);(try clear hb);(try clear hk);(try clear hi);(try clear ho0);(try clear ho1);(try clear ho2);obtain ⟨z1,z2,zC⟩:=Kd.dG jz.out;subst zC;obtain ⟨z3,z4,zD⟩:=Kd.dG jA.out;subst zD;obtain ⟨z5,z6,zE⟩:=Kd.dG jB.out;subst zE)|((with_reducible refine cZ (N:=45) rfl ?_);refine Kd.oV k35 _ 35 rfl (N':=45) rfl (xs:=([(⟨ji,jj,jk,(⟨jl,jm,jn⟩:S32),jo,jp⟩:S35)]:List (S35))) (inner:=[.int .i64 ji, .int .i64 jj, .int .i64 jk, .int .i64 jl, .int .i64 jm, .slice z1 jn.length z2, .slice z3 jo.length z4, .slice z5 jp.length z6]) (ok:=(fun k_=>(w.heap.size≤k_)∧k_≠g)) (okp:=(fun k_=>(w.heap.size≤k_)∧k_≠g)) rn_ ?hp (fun _ hk=>hk) ((show ∀ k_,J9.heap.size≤k_→(fun k_=>(w.heap.size≤k_)∧k_≠g) k_ from fun k_ hk=>⟨(Nat.le_trans (aW (w:=w) (g:=g) (row:=none) fI) hk),aQ.fresh gG k_ hk⟩) _ (Nat.le_refl _)) (Below.refl _ _) (Nat.le_refl _) (by simp) ?_;(case hp=>exact (eX.c8 (show Kd.FK k35 _ _ (⟨ji,jj,jk,(⟨jl,jm,jn⟩:S32),jo,jp⟩:S35) [.int .i64 ji, .int .i64 jj, .int .i64 jk, .int .i64 jl, .int .i64 jm, .slice z1 jn.length z2, .slice z3 jo.length z4, .slice z5 jp.length z6] from (kY _ _ (⟨ji,jj,jk,(⟨jl,jm,jn⟩:S32),jo,jp⟩:S35) (Kd.bQ (Kd.aG (ok':=(fun k_=>(w.heap.size≤k_)∧k_≠g)) (jz.out) (fun k_ hk=>⟨hk.1,hk.2.2.2⟩))).2.1 (Kd.N_F (Kd.aG (ok':=(fun k_=>(w.heap.size≤k_)∧k_≠g)) (jz.out) (fun k_ hk=>⟨hk.1,hk.2.2.2⟩))) (Kd.bQ (Kd.aG (ok':=(fun k_=>(w.heap.size≤k_)∧k_≠g)) (jA.out) (fun k_ hk=>⟨hk.1,hk.2.2.2⟩))).2.1 (Kd.N_F (Kd.aG (ok':=(fun k_=>(w.heap.size≤k_)∧k_≠g)) (jA.out) (fun k_ hk=>⟨hk.1,hk.2.2.2⟩))) (Kd.bQ (Kd.aG (ok':=(fun k_=>(w.heap.size≤k_)∧k_≠g)) (jB.out) (fun k_ hk=>⟨hk.1,hk.2.2.2⟩))).2.1 (Kd.N_F (Kd.aG (ok':=(fun k_=>(w.heap.size≤k_)∧k_≠g)) (jB.out) (fun k_ hk=>⟨hk.1,hk.2.2.2⟩))))) (eX.none _ _)));intro Ja Jp ho56 hb hg_ hnew_;clear hg_ hnew_;(first|rw [← jQ.out] at ho56|(simp only [Int.reduceToNat] at ho56;rw [← jQ.out] at ho56));have z7:=am (Kd.dF ho56 (aW (w:=w) (g:=g) (row:=none) fI));replace HK:=am (aI.trans fI (aI.of_below hb g none) (.inl rfl));replace HB:=am (aD iU hb);replace HI0:=am (aQ.below gG hb);clear jz jA jB hb ho56))
      go_ret
      exact ⟨_,iI,eO (Kd.aG z7.out (fun _ hk=>hk.1)),gG,iU,fI⟩
     replace zj:=Bool.eq_false_iff.mpr zj
     subst zj
     rw [if_neg (show ¬ (false=true) by decide)] at H
     by_cases qf:j4=7
     ·rw [if_pos qf] at H
      have z8:(j4 == 7)=true:=beq_iff_eq.mpr qf
      have z9:(j4 != 7)=false:=bne_eq_false_iff_eq.mpr qf
      clear qf
      obtain ⟨zF,hy_⟩:∃ y_:List (S35),y_=(([(⟨6,0,0,(⟨0,0,([]:List (S32))⟩:S32),([]:List (S35)),([]:List (S35))⟩:S35)]:List (S35))):=⟨_,rfl⟩
      replace H:(some (zF,ja))=some (r1,r2):=rx_
      have jR:=am hy_
      clear hy_
      simp only [Option.some.injEq,Prod.mk.injEq] at H
      obtain ⟨rfl,rfl⟩:=H
      go_wp2_with (first|((with_reducible refine cZ (N:=49) rfl ?_);refine Kd.oV k35 _ 35 rfl (N':=49) rfl (xs:=([(⟨6,0,0,(⟨0,0,([]:List (S32))⟩:S32),([]:List (S35)),([]:List (S35))⟩:S35)]:List (S35))) (inner:=[.int .i64 6, .int .i64 0, .int .i64 0, .int .i64 0, .int .i64 0, .slice none 0 0, .slice none 0 0, .slice none 0 0]) (ok:=(fun k_=>(w.heap.size≤k_)∧k_≠g)) (okp:=(fun k_=>(w.heap.size≤k_)∧k_≠g)) rn_ ?hp (fun _ hk=>hk) ((show ∀ k_,wc.heap.size≤k_→(fun k_=>(w.heap.size≤k_)∧k_≠g) k_ from fun k_ hk=>⟨(Nat.le_trans (aW (w:=w) (g:=g) (row:=none) fI) hk),aQ.fresh gG k_ hk⟩) _ (Nat.le_refl _)) (Below.refl _ _) (Nat.le_refl _) (by simp) ?_;(case hp=>exact (eX.c8 (show Kd.FK k35 _ _ (⟨6,0,0,(⟨0,0,([]:List (S32))⟩:S32),([]:List (S35)),([]:List (S35))⟩:S35) [.int .i64 6, .int .i64 0, .int .i64 0, .int .i64 0, .int .i64 0, .slice none 0 0, .slice none 0 0, .slice none 0 0] from (kY _ _ (⟨6,0,0,(⟨0,0,([]:List (S32))⟩:S32),([]:List (S35)),([]:List (S35))⟩:S35) (Nat.le_refl _) (Kd.mW _ _ _) (Nat.le_refl _) (Kd.mW _ _ _) (Nat.le_refl _) (Kd.mW _ _ _))) (eX.none _ _)));intro Jb Jq ho59 hb hg_ hnew_;clear hg_ hnew_;(first|rw [← jR.out] at ho59|(simp only [Int.reduceToNat] at ho59;rw [← jR.out] at ho59));have za:=am (Kd.dF ho59 (aW (w:=w) (g:=g) (row:=none) fI));replace HK:=am (aI.trans fI (aI.of_below hb g none) (.inl rfl));replace HB:=am (aD iU hb);replace HI0:=am (aQ.below gG hb);clear hb ho59))
      go_ret
      exact ⟨_,iI,eO (Kd.aG za.out (fun _ hk=>hk.1)),gG,iU,fI⟩
     rw [if_neg qf] at H
     have z8:(j4 == 7)=false:=beq_eq_false_iff_ne.mpr qf
     have z9:(j4 != 7)=true:=bne_iff_ne.mpr qf
     obtain ⟨⟨qg,zb⟩,zc,H⟩:=bsm H
     (try dsimp only at H)
     have Jc:=am zc
     clear zc
     obtain ⟨⟨jq,jr,js,zd⟩,ze,H⟩:=bsm H
     (try dsimp only at H)
     have Jd:=am ze
     clear ze
     obtain ⟨zG,hy_⟩:∃ y_:List (S35),y_=(([(⟨7,0,0,(⟨jq,jr,js⟩:S32),([]:List (S35)),([]:List (S35))⟩:S35)]:List (S35))):=⟨_,rfl⟩
     replace H:(some (zG,zd))=some (r1,r2):=rx_
     have jS:=am hy_
     clear hy_
     simp only [Option.some.injEq,Prod.mk.injEq] at H
     obtain ⟨rfl,rfl⟩:=H
     go_wp2_with (first|((with_reducible refine aN (f:=41) rfl ?_);refine gl_ 52 Try.func41 #[.pointer (some ⟨g,0,none⟩), .int .i64 3] ?_;(with_reducible refine (aH.calls qe g j3 ja 3 qg zb w0 _ ?side1 ?side2 Jc.out).mono ?_);(case side1=>exact gG);(case side2=>exact iU);rintro e Jr ⟨rfl,hi,hb,hk⟩;refine ⟨_,rfl,?_⟩;replace HK:=am (aI.trans fI hk (.inl rfl));replace HB:=am (hb);replace HI0:=am (hi);(try clear hb);(try clear hk);(try clear hi))|((with_reducible refine aN (f:=76) rfl ?_);refine gl_ 54 Try.func76 #[.pointer (some ⟨g,0,none⟩), .int .i64 (wrap64 (1 + qg))] ?_;(with_reducible refine (bJ.calls qe g j3 zb (wrap64 (1 + qg)) jq jr js zd w0 _ ?side1 ?side2 Jd.out).mono ?_);(case side1=>exact gG);(case side2=>exact iU);rintro e Je ⟨Jf,rfl,ho0,hi,hb,hk⟩;refine ⟨_,rfl,?_⟩;have jC:=am (Kd.dF (Kd.aG (ok':=fun k_=>(w.heap.size≤k_)∧k_≠g) ho0 (fun k_ hk_=>⟨(Nat.le_trans (aW (w:=w) (g:=g) (row:=none) fI) hk_),(aQ.fresh gG k_ hk_)⟩)) (aW (w:=w) (g:=g) (row:=none) fI));replace HK:=am (aI.trans fI hk (.inl rfl));replace HB:=am (hb);replace HI0:=am (hi);(try clear hb);(try clear hk);(try clear hi);(try clear ho0);obtain ⟨zf,zg,zH⟩:=Kd.dG jC.out;subst zH)|((with_reducible refine cZ (N:=56) rfl ?_);refine Kd.oV k35 _ 35 rfl (N':=56) rfl (xs:=([(⟨7,0,0,(⟨jq,jr,js⟩:S32),([]:List (S35)),([]:List (S35))⟩:S35)]:List (S35))) (inner:=[.int .i64 7, .int .i64 0, .int .i64 0, .int .i64 jq, .int .i64 jr, .slice zf js.length zg, .slice none 0 0, .slice none 0 0]) (ok:=(fun k_=>(w.heap.size≤k_)∧k_≠g)) (okp:=(fun k_=>(w.heap.size≤k_)∧k_≠g)) rn_ ?hp (fun _ hk=>hk) ((show ∀ k_,Je.heap.size≤k_→(fun k_=>(w.heap.size≤k_)∧k_≠g) k_ from fun k_ hk=>⟨(Nat.le_trans (aW (w:=w) (g:=g) (row:=none) fI) hk),aQ.fresh gG k_ hk⟩) _ (Nat.le_refl _)) (Below.refl _ _) (Nat.le_refl _) (by simp) ?_;(case hp=>exact (eX.c8 (show Kd.FK k35 _ _ (⟨7,0,0,(⟨jq,jr,js⟩:S32),([]:List (S35)),([]:List (S35))⟩:S35) [.int .i64 7, .int .i64 0, .int .i64 0, .int .i64 jq, .int .i64 jr, .slice zf js.length zg, .slice none 0 0, .slice none 0 0] from (kY _ _ (⟨7,0,0,(⟨jq,jr,js⟩:S32),([]:List (S35)),([]:List (S35))⟩:S35) (Kd.bQ (Kd.aG (ok':=(fun k_=>(w.heap.size≤k_)∧k_≠g)) (jC.out) (fun k_ hk=>⟨hk.1,hk.2⟩))).2.1 (Kd.N_F (Kd.aG (ok':=(fun k_=>(w.heap.size≤k_)∧k_≠g)) (jC.out) (fun k_ hk=>⟨hk.1,hk.2⟩))) (Nat.le_refl _) (Kd.mW _ _ _) (Nat.le_refl _) (Kd.mW _ _ _))) (eX.none _ _)));intro Jg Js ho66 hb hg_ hnew_;clear hg_ hnew_;(first|rw [← jS.out] at ho66|(simp only [Int.reduceToNat] at ho66;rw [← jS.out] at ho66));have zh:=am (Kd.dF ho66 (aW (w:=w) (g:=g) (row:=none) fI));replace HK:=am (aI.trans fI (aI.of_below hb g none) (.inl rfl));replace HB:=am (aD iU hb);replace HI0:=am (aQ.below gG hb);clear jC hb ho66))
     go_ret
     exact ⟨_,iI,eO (Kd.aG zh.out (fun _ hk=>hk.1)),gG,iU,fI⟩
theorem bU.step (k:Nat) (ih_spec_l92Loop:∀ m,m < k→dX.fO m) (ih_spec_l92Stmt:∀ m,m < k→bH.fO m) (ih_spec_l92Block:∀ m,m < k→bU.fO m) (ih_spec_l92If:∀ m,m < k→eP.fO m):bU.fO k:=by
 intro g j7 j9 a1 a2 a3 a4 r1 r2 w0 w hI hB h
 cases k with
 |zero=>exact absurd h (by simp [bU.f])
 |succ k=>
 simp only [bU.f] at h
 have HI0:=am hI
 have HK:=am (aI.refl w g none)
 have HL:=am hB.size
 clear hI
 have HW0:=am hB.size
 have HB:=am hB
 clear hB
 have H:(bU.l0 k a1 a2 a3 a4 (([]:List (S35))) 0 j7 j9)=some (r1,r2):=h
 clear h
 obtain ⟨jk,hy_⟩:∃ y_:List (S35),y_=(([]:List (S35))):=⟨_,rfl⟩
 replace H:(bU.l0 k a1 a2 a3 a4 jk 0 j7 j9)=some (r1,r2):=rx_
 have ja:=am hy_
 clear hy_
 have H':=am H
 clear H
 go_enter Try.func77,Try.ntmps77
 go_wp2_with (first|((with_reducible refine cZ (N:=13) rfl ?_);refine Kd.oV k35 _ 35 rfl (N':=13) rfl (xs:=([]:List (S35))) (inner:=[]) (ok:=(fun k_=>(w.heap.size≤k_)∧k_≠g)) (okp:=(fun k_=>(w.heap.size≤k_)∧k_≠g)) rn_ ?hp (fun _ hk=>hk) ((show ∀ k_,w.heap.size≤k_→(fun k_=>(w.heap.size≤k_)∧k_≠g) k_ from fun k_ hk=>⟨(Nat.le_trans (aW (w:=w) (g:=g) (row:=none) fI) hk),aQ.fresh gG k_ hk⟩) _ (Nat.le_refl _)) (Below.refl _ _) (Nat.le_refl _) (by simp) ?_;(case hp=>exact (eX.none _ _));intro jq w6 ho7 hb hg_ hnew_;clear hg_ hnew_;(first|rw [← ja.out] at ho7|(simp only [Int.reduceToNat] at ho7;rw [← ja.out] at ho7));have jd:=am (Kd.dF ho7 (aW (w:=w) (g:=g) (row:=none) fI));replace HK:=am (aI.trans fI (aI.of_below hb g none) (.inl rfl));replace HB:=am (aD iU hb);replace HI0:=am (aQ.below gG hb);clear hb ho7))
 go_loopg [11,12] k (fun kq jm jn w'=>∃ (j5:List (S35)) (j3:Int) (j6:Int),jn= .int .i64 j3∧Aside0 (bU.l0 kq a1 a2 a3 a4 j5 j3 j7 j6=some (r1,r2))∧Aside0 (kq≤k)∧Aside0 (Kd.N k35 35 w' w.heap.size (fun k_=>(w.heap.size≤k_)∧k_≠g) jm j5)∧Aside0 (aQ w0 w' g j7 j6)∧Aside0 (aI w w' g none)∧Aside0 (Below w0.heap.size w0 w'))
 case atStart=>exact ⟨(jk),(0),(j9),sd_,H',⟨Nat.le_refl _⟩,⟨eO jd.out⟩,⟨gG⟩,⟨fI⟩,⟨iU⟩⟩
 case round=>
  clear H'
  obtain ⟨j5,j3,j6,rfl,HA,je,j4,HI0,HK,HB⟩:=hrel
  cases gk with
  |zero=>exact absurd HA.out (by simp [bU.l0])
  |succ k1=>
   have H:=HA.out
   clear HA
   simp only [bU.l0] at H
   by_cases c8:j3 < a3
   ·rw [if_pos c8] at H
    have jf:decide (j3 < a3)=true:=decide_eq_true c8
    clear c8
    obtain ⟨⟨jc,jg⟩,A9,H⟩:=bsa H
    (try dsimp only at H)
    by_cases c10:j5.length + jc.length < 1256584717458
    ·rw [if_pos c10] at H
     have jb:=am c10
     clear c10
     obtain ⟨jl,hy_⟩:∃ y_:List (S35),y_=(j5 ++ jc):=⟨_,rfl⟩
     replace H:(bU.l0 k1 a1 a2 a3 a4 jl (wrap64 (j3 + 1)) j7 jg)=some (r1,r2):=rx_
     have jh:=am hy_
     clear hy_
     have H':=am H
     clear H
     go_wp2_with (first|((with_reducible refine aN (f:=93) rfl ?_);refine gl_ 24 Try.func93 #[.pointer (some ⟨g,0,none⟩), .int .i64 a1, .int .i64 a2, .bool a4] ?_;(with_reducible refine (ih_spec_l92Stmt k1 (by have:=je.out;omega) g j7 j6 a1 a2 a4 jc jg w0 _ ?side1 ?side2 A9.out).mono ?_);(case side1=>exact gG);(case side2=>exact iU);rintro e jr ⟨js,rfl,ho0,hi,hb,hk⟩;refine ⟨_,rfl,?_⟩;have j8:=am (Kd.dF (Kd.aG (ok':=fun k_=>(w.heap.size≤k_)∧some k_≠(u11:Value).ownBlock∧k_≠g) ho0 (fun k_ hk_=>⟨(Nat.le_trans (aW (w:=w) (g:=g) (row:=none) fI) hk_),(Kd.fresh' (Kd.iN (aN_ j4.out)) k_ hk_),(aQ.fresh gG k_ hk_)⟩)) (aW (w:=w) (g:=g) (row:=none) fI));replace j4:=am (Kd.aG (Kd.mQ (Kd.uR (Kd.aG (ok:=fun k_=>(((w.heap.size≤k_))∧k_≠g)) (aN_ j4.out) (fun k_ hk_=>(⟨hk_,hk_.2⟩:_∧k_≠g))) hk) (by first|exact Kd.dD ho0|exact Kd.dD (Kd.R_N ho0))) (fun _ h_=>h_.1));replace HK:=am (aI.trans fI hk (.inl rfl));replace HB:=am (hb);replace HI0:=am (hi);(try clear hb);(try clear hk);(try clear hi);(try clear ho0);obtain ⟨jo,jp,ji⟩:=Kd.dG j8.out;subst ji)|((with_reducible refine lI (b:= .append) (xs:=#[.tmp 19, .tmp 24]) rfl ?_);at_builtin;refine Kd.nZ k35 w.heap.size rfl (.tmp 19) (.tmp 24) 23 35 (.agg #[(.int .i64 0),(.int .i64 0),(.int .i64 0),(.int .i64 0),(.int .i64 0),(.slice none 0 0),(.slice none 0 0),(.slice none 0 0)]) 112 rfl Try.underlying23 tQ rfl (by decide) (by omega) u11 j5 jc _ _ _ (fun k_=>(w.heap.size≤k_)∧k_≠g) (fun k_=>((fun k_=>(w.heap.size≤k_)∧k_≠g)) k_∧some k_≠(u11:Value).ownBlock) rfl rfl ?aO ?aR (fun _ hk=>hk) ?aF (Below.refl _ _) ?aS ?aL ?_;(case aR=>exact (by skip;exact Kd.N_F (Kd.aG (ok':=(fun k_=>((fun k_=>(w.heap.size≤k_)∧k_≠g)) k_∧some k_≠(u11:Value).ownBlock)) (j8.out) (fun k_ hk=>⟨⟨hk.1,hk.2.2⟩,hk.2.1⟩))));(case aF=>exact (fun k_ hk=>⟨(Nat.le_trans (aW (w:=w) (g:=g) (row:=none) fI) hk),aQ.fresh gG k_ hk⟩));(case aO=>exact (eO (Kd.aG j4.out (fun _ hk=>⟨hk.1.1,hk.1.2⟩))));(case aS=>exact (aW (w:=w) (g:=g) (row:=none) fI));(case aL=>have:=jb.out;omega);intro jt ju ho hb hg hat;rw [← jh.out] at ho;replace j8:=am (Kd.pR (ok:=(fun k_=>(w.heap.size≤k_)∧k_≠g)) (eO (Kd.aG j8.out (fun _ hk=>⟨⟨hk.1,hk.2.2⟩,hk.2.1⟩))) hg hat);replace HB:=am (nD iU HL.out hb);replace HI0:=am (aQ.grown gG hg (aQ.AY HI0.out j4.out (by decide)));replace HK:=am (aI.trans fI (aI.oG hg g) (Kd.DT j4.out));have jj:=am (ho);clear j4 ho hb hg hat))
     go_roundg k1
     case measure=>have:=je.out;omega
     case rel=>exact ⟨(jl),(wrap64 (j3 + 1)),(jg),sd_,H',⟨by have:=je.out;omega⟩,⟨eO jj.out⟩,⟨gG⟩,⟨fI⟩,⟨iU⟩⟩
    rw [if_neg c10] at H
    exact absurd H (by simp)
   rw [if_neg c8] at H
   have jf:decide (j3 < a3)=false:=decide_eq_false c8
   clear c8
   simp only [Option.some.injEq,Prod.mk.injEq] at H
   obtain ⟨rfl,rfl⟩:=H
   go_wp2
   go_ret
   exact ⟨_,iI,eO (Kd.aG j4.out (fun _ hk=>hk.1)),gG,iU,fI⟩
end Go.Proofs.Ytodhbeeibagiaaa.PA

