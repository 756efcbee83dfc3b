/- Part 5. -/
import Derived.Test.YtodhbeeibagiaaaQFnProgramFold3
set_option maxHeartbeats 8000000
set_option maxRecDepth 100000
namespace Go.Proofs.Ytodhbeeibagiaaa.PA
open Go.RowKit Go.Proofs.YtodhbeeibagiaaaW.PrintWords Go.Proofs.YtodhbeeibagiaaaW.PrintLast Go.Proofs.YtodhbeeibagiaaaW.PrintMore
attribute [local go_sem] max2_int min2_int max_two min_two max_three min_three max_four min_four
set_option linter.unusedVariables false
set_option linter.unusedSimpArgs false
theorem iQ.calls (A0:Option Addr) (c0:Nat) (l0:List Int) (r:List Int) (w:World) (hr0:Kd.C (Kd.int .i64) w A0 l0.length l0) (hc0:l0.length≤c0) (h:iQ.f l0=some r):
  Calls Try.prog 58 #[.slice A0 l0.length c0] w fun e w'=>∃ v0_:Value,e= .returned (v0_)∧Kd.R (Kd.int .i64) 3 w' w.heap.size (fun _=>True) v0_ r∧Below w.heap.size w w':=by
 have j9:=am hr0
 have jc:=am hc0
 clear hr0 hc0
 have HB:=am (Below.refl w.heap.size w)
 have H:((some (([]:List Int):List Int)).bind fun j3=>(if j3.length + l0.length < 17592186044416 then (some (j3 ++ l0)) else (none)))=some r:=h
 clear h
 obtain ⟨j3,hy_⟩:∃ y_:List Int,y_=(([]:List Int)):=⟨_,rfl⟩
 replace H:(if j3.length + l0.length < 17592186044416 then (some (j3 ++ l0)) else (none))=some r:=rx_
 have j4:=am hy_
 clear hy_
 by_cases c2:j3.length + l0.length < 17592186044416
 ·rw [if_pos c2] at H
  have j7:=am c2
  clear c2
  obtain ⟨ja,hy_⟩:∃ y_:List Int,y_=(j3 ++ l0):=⟨_,rfl⟩
  replace H:(some ja)=some r:=rx_
  have j5:=am hy_
  clear hy_
  obtain rfl:=Option.some.inj H
  cases A0 with
  |none=>
   have hl:l0=[]:=by
    have hr:=j9.out
    rcases Nat.eq_zero_or_pos l0.length with h0|h0
    ·exact List.eq_nil_of_length_eq_zero h0
    ·obtain ⟨ad,e,_⟩:=hr.2.2 h0
     cases e
   have hy:ja=[]:=by rw [j5.out,j4.out,hl];rfl
   rw [hy]
   have hnl:=fun (w:World) (n c n' c':Nat)=>Lib.run_eql_slice_nil (P:=Try.prog) w 43 3 none n c n' c' Try.underlying43
   go_enter Try.func58,Try.ntmps58
   go_wp2
   go_ret
   exact ⟨_,rfl,Kd.oC _ _ _ _ _,HB.out⟩
  |some ad=>
   have hnl:=fun (w:World) (n c n' c':Nat)=>Lib.run_eql_slice_nil (P:=Try.prog) w 43 3 (some ad) n c n' c' Try.underlying43
   go_enter Try.func58,Try.ntmps58
   go_wp2_with (first|((with_reducible refine cZ (N:=5) rfl ?_);refine Kd.CO (Kd.int .i64) _ 3 rfl (N:=5) rfl (xs:=([]:List Int)) (inner:=[]) (ok:=fun _=>True) (okp:=fun _=>True) rn_ ?hp (fun _ hk=>hk) trivial (Below.refl _ _) (Nat.le_refl _) (by simp) ?_;(case hp=>exact (eX.none _ _));intro jb w3 ho4 hb hg_ hnew_;clear hg_ hnew_;(first|rw [← j4.out] at ho4|(simp only [Int.reduceToNat] at ho4;rw [← j4.out] at ho4));have j6:=am (Kd.kP ho4 (aJ fU));replace HB:=am (aD fU hb);clear hb ho4)|((with_reducible refine lI (b:= .append) (xs:=#[.tmp 5, .tmp 6]) rfl ?_);at_builtin;refine Kd.uS (Kd.int .i64) (w0:=w) w.heap.size rfl (.tmp 5) (.tmp 6) 43 3 (.int .i64 0) 8 rfl Try.underlying43 info3 rfl (by decide) (by omega) jb j3 l0 _ _ _ (fun _=>True) (fun _=>False) rfl rfl ?aO ?aR (fun _ _ h=>h) (fun _ h=>h.elim) ?aF ?aB ?aS ?aL ?_;(case aR=>repeat (first|exact (Kd.aV j9.out HB.out)|(with_reducible refine Kd.nU ?_ _)|(with_reducible refine Kd.nA ?_ _)|(with_reducible refine Kd.oL ?_)));(case aB=>exact fU);(case aF=>exact (fun _ _=>trivial));(case aO=>exact (aR_ j6.out));(case aS=>exact (aJ fU));(case aL=>have:=j7.out;omega);intro jd w5 ho hb hg hat;rw [← j5.out] at ho;replace HB:=am (hb);have j8:=am (ho);clear j6 ho hb hg hat))
   go_ret
   exact ⟨_,iI,iH j8.out,fU⟩
 rw [if_neg c2] at H
 exact absurd H (by simp)
theorem bN.mono_l:∀ k,(∀ y0 y1 y2 y3 y4,LeO (bN.l0 k y0 y1 y2 y3 y4) (bN.l0 (k + 1) y0 y1 y2 y3 y4))
 |0=>fun _ _ _ _ _ r h=>by simp [bN.l0] at h
 |k + 1=>by
  have ih0:=bN.mono_l k
  ·intro y0 y1 y2 y3 y4
   unfold bN.l0
   have m0:=@bB.mono
   have m1:=@aX.mono
   exact mo_
theorem bN.mono:∀ a0 a1 k,LeO (bN.f k a0 a1) (bN.f (k + 1) a0 a1):=by
 intro a0 a1 k
 have ih0:=bN.mono_l k
 unfold bN.f
 have m0:=@bB.mono
 have m1:=@aX.mono
 exact mo_
def bN.T7:Bool × List (List Nat × List Nat):=(true,[([],[]),([0],[0]),([],[]),([2],[2]),([3],[3]),([1,4,3],[1,4]),([0,1,2,3,4,5],[]),([6,5,5,0,1,2,3,4,5],[5,6])])
def bN.B7:List Nat:=[0,1,0,4,12,31,63,127]
theorem bN.aBm:lC .any (opsOf Try.f27 7)=bN.T7:=by kernel_rfl
theorem bN.SI:iJ bN.T7.2 bN.B7=true:=by kernel_rfl
theorem bN.calls (k:Nat) (jm:Option Addr) (jn:Nat) (je:List Int) (js:Option Addr) (jo:Nat) (j5:List (List (S35))) (r1:List Int) (r2:List (List (S35))) (r3:Bool) (w:World) (hr0_0:Kd.C (Kd.int .i64) w jm je.length je) (hc0_0:je.length≤jn) (hr0_1:Kd.C (Kd.slice 35 k35) w js j5.length j5) (hc0_1:j5.length≤jo) (h:bN.f k je j5=some (r1,r2,r3)):
  Calls Try.prog 27 #[.agg #[.slice jm je.length jn, .slice js j5.length jo]] w fun e w'=>∃ v0_ v1_:Value,e= .returned (.tuple #[.agg #[v0_,v1_], .bool r3])∧Kd.R (Kd.int .i64) 3 w' w.heap.size (fun k_=>(w.heap.size≤k_)) v0_ r1∧Kd.N (Kd.slice 35 k35) 23 w' w.heap.size (fun k_=>(w.heap.size≤k_)∧some k_≠(v0_:Value).ownBlock) v1_ r2∧Below w.heap.size w w':=by
 have hu46:=Try.underlying46
 have jt:=am hr0_0
 have ju:=am hc0_0
 clear hr0_0 hc0_0
 have jv:=am hr0_1
 have jK:=am hc0_1
 clear hr0_1 hc0_1
 have HB:=am (Below.refl w.heap.size w)
 have H:((bB.f k je j5).bind fun qk=>(if qk=true then ((iQ.f je).bind fun jj=>(bN.l0 k j5 (j5.length:Int) 0 jj ([]:List (List (S35))))) else (some (([]:List Int),([]:List (List (S35))),false))))=some (r1,r2,r3):=h
 clear h
 obtain ⟨qk,A2,H⟩:=bsa H
 (try dsimp only at H)
 have HH_:=am H
 clear H
 go_enter Try.func27,Try.ntmps27
 go_upto_region 1 with (first|((with_reducible refine cZ (N:=1) rfl ?_);refine dO rfl (N:=1) rfl (cs:=#[.slice jm je.length jn, .slice js j5.length jo]) (t:=46) rn_ ?_;intro jf hg w5 hbox hb;have j3:=am (hbox);have qG:=am ((by rw [hg];exact (aJ fU):w.heap.size≤jf));have GE38:=am ((by rw [hg];exact (aJ fU):w.heap.size≤jf));replace HB:=am (aD fU hb);clear hb hbox hg)|((with_reducible refine cZ (N:=2) rfl ?_);refine dO rfl (N:=2) rfl (cs:=#[.slice none 0 0, .slice none 0 0]) (t:=46) rn_ ?_;intro ja hg w6 hbox hb;have j4:=am (hbox);have qH:=am ((by rw [hg];exact (aJ MZ):w.heap.size≤ja));have GE41:=am ((by rw [hg];exact (aJ MZ):w.heap.size≤ja));replace HB:=am (aD MZ hb);have jq:=am ((by rw [hg];exact Nat.ne_of_lt (gN j3.out):jf≠ja));have jr:=am ((by rw [hg];exact Nat.ne_of_gt (gN j3.out):ja≠jf));replace j3:=bbP j3 hb;clear hb hbox hg;have qI:=jq.out;have qJ:=jr.out;obtain ⟨jL,jM,jN,jO⟩:=gD j3.out))
 have H:=HH_.out
 clear HH_
 by_cases c3:qk=true
 ·subst c3
  rw [if_pos rfl] at H
  obtain ⟨jj,A4,H⟩:=bsa H
  (try dsimp only at H)
  have H':=am H
  clear H
  go_wp2_with (first|((with_reducible refine aN (f:=31) rfl ?_);refine gl_ 8 Try.func31 #[.agg #[.slice jm je.length jn, .slice js j5.length jo]] ?_;(with_reducible refine (bB.calls k _ _ je _ _ j5 true _ (aC_ (Kd.aV jt.out HB.out)) ju.out (aC_ (Kd.aV jv.out HB.out)) jK.out A2.out).mono ?_);rintro e w9 ⟨rfl,hb⟩;refine ⟨_,rfl,?_⟩;replace j3:=bbP j3 hb;replace j4:=bbP j4 hb;replace HB:=am (aD AB hb);(try clear hb);obtain ⟨jw,jx,jy,jz⟩:=gD j3.out)|((with_reducible refine aN (f:=58) rfl ?_);refine gl_ 13 Try.func58 #[.slice jm je.length jn] ?_;(with_reducible refine (iQ.calls _ _ je jj _ (aC_ (Kd.aV jt.out HB.out)) ju.out A4.out).mono ?_);rintro e qQ ⟨qR,rfl,ho0,hb⟩;refine ⟨_,rfl,?_⟩;have jA:=am (Kd.kP (Kd.yH (M:=fun k_=>(w.heap.size≤k_)) ho0 (aJ AB) (fun k_ h_=>h_)) (aJ AB));replace j3:=bbP j3 hb;replace j4:=bbP j4 hb;replace HB:=am (aD AB hb);(try clear hb);(try clear ho0);obtain ⟨jg,jh,ql⟩:=Kd.lF jA.out;subst ql)|((with_reducible refine cZ (N:=4) rfl ?_);refine dO rfl (N:=4) rfl (cs:=#[.slice none 0 0, .slice none 0 0]) (t:=46) rn_ ?_;intro j8 hg qS hbox hb;replace jA:=am (Kd.eG (aR_ jA.out) hb);have j6:=am (hbox);have qK:=am ((by rw [hg];exact (aJ AB):w.heap.size≤j8));have GE45:=am ((by rw [hg];exact (aJ AB):w.heap.size≤j8));replace HB:=am (aD AB hb);have jc:=am ((by rw [hg];exact Nat.ne_of_lt (gN j3.out):jf≠j8));have jk:=am ((by rw [hg];exact Nat.ne_of_gt (gN j3.out):j8≠jf));replace j3:=bbP j3 hb;have jd:=am ((by rw [hg];exact Nat.ne_of_lt (gN j4.out):ja≠j8));have jl:=am ((by rw [hg];exact Nat.ne_of_gt (gN j4.out):j8≠ja));replace j4:=bbP j4 hb;clear hb hbox hg;have qt:=jk.out;have qu:=jc.out;have qv:=jl.out;have qw:=jd.out;obtain ⟨jB,jC,jD,jE⟩:=gD j6.out;obtain ⟨jF,jG,jH,jI⟩:=gD j3.out))
  go_loopg [18] k (fun kq qL w'=>∃ (j7:Int) (ji:List (List (S35))) (u47:Value),qL= .int .i64 j7∧Aside0 (bN.l0 kq j5 (j5.length:Int) j7 jj ji=some (r1,r2,r3))∧Aside0 (kq≤k)∧Aside0 (Kd.R (Kd.int .i64) 3 w' w.heap.size (fun k_=>(w.heap.size≤k_)) (.slice jg jj.length jh) jj)∧Aside0 (Kd.N (Kd.slice 35 k35) 23 w' w.heap.size (fun k_=>(w.heap.size≤k_)∧some k_≠((.slice jg jj.length jh):Value).ownBlock∧k_≠jf∧k_≠ja∧k_≠j8) u47 ji)∧Aside0 (w'.heap[jf]?=some (.cells #[(.slice jm je.length jn),(.slice js j5.length jo)] 46 (0,0)))∧Aside0 (w'.heap[ja]?=some (.cells #[(.slice none 0 0),(.slice none 0 0)] 46 (0,0)))∧Aside0 (w'.heap[j8]?=some (.cells #[(.slice jg jj.length jh),u47] 46 (0,0)))∧Aside0 (Below w.heap.size w w'))
  case atStart=>exact ⟨(0),(([]:List (List (S35)))),(.slice none 0 0),sd_,H',⟨Nat.le_refl _⟩,⟨iH (Kd.dL (Kd.eH (p:=⟨j8,1,none⟩) (Kd.eH (p:=⟨j8,0,none⟩) (Kd.fK jA.out j6.out (by decide)) (fun _ hk=>hk.2) (.slice jg jj.length jh)) (fun _ hk=>hk.2) (.slice none 0 0)) (fun _ hk=>hk.1.1))⟩,⟨by first|exact Kd.oC _ _ _ _ _|exact Kd.sG _ _ _ _ _|exact Kd.sK _ _ _ _ _|exact Kd.sH _ _ _ _ _|exact Kd.sI _ _ _ _ _⟩,⟨(bC (bC j3.out jc.out _) jc.out _)⟩,⟨(bC (bC j4.out jd.out _) jd.out _)⟩,⟨(aM (aM j6.out 0 _ rfl) 1 _ rfl)⟩,⟨yY⟩⟩
  case round=>
   clear H'
   try clear c3
   try clear jw
   try clear jx
   try clear jB
   try clear jC
   try clear jF
   try clear jG
   try clear jL
   try clear jM
   try clear jy
   try clear jz
   try clear jD
   try clear jE
   try clear jH
   try clear jI
   try clear jN
   try clear jO
   obtain ⟨j7,ji,u47,rfl,HA,qx,jb,j9,j3,j4,j6,HB⟩:=hrel
   cases gk with
   |zero=>exact absurd HA.out (by simp [bN.l0])
   |succ k1=>
    have H:=HA.out
    clear HA
    simp only [bN.l0] at H
    by_cases jV:j7 < (j5.length:Int)
    ·rw [if_pos jV] at H
     have jW:decide (j7 < (j5.length:Int))=true:=decide_eq_true jV
     clear jV
     by_cases q4:0≤j7
     ·rw [if_pos q4] at H
      have qy:decide (0≤j7)=true:=decide_eq_true q4
      clear q4
      by_cases q5:j7 < (j5.length:Int)
      ·rw [if_pos q5] at H
       have qz:decide (j7 < (j5.length:Int))=true:=decide_eq_true q5
       clear q5
       obtain ⟨q6,qM,H⟩:=bsa H
       (try dsimp only at H)
       by_cases q7:ji.length < 5864062014805
       ·rw [if_pos q7] at H
        have jX:=am q7
        clear q7
        obtain ⟨jY,hy_⟩:∃ y_:List (List (S35)),y_=(ji ++ [q6]):=⟨_,rfl⟩
        replace H:(bN.l0 k1 j5 (j5.length:Int) (wrap64 (j7 + 1)) jj jY)=some (r1,r2,r3):=rx_
        have qm:=am hy_
        clear hy_
        have H':=am H
        clear H
        have qn:0≤(j7:Int):=of_decide_eq_true fV
        have qo:j7 < (j5.length:Int):=of_decide_eq_true fV
        obtain ⟨qp,jZ,q0,qN,jp,hl52_0,hi52_0⟩:=nY jv.out j7 qn qo
        cases qN
        replace jp:=(HB.out.cell (World.block_lt_of_cell? w _ jp)).trans jp
        have jP:=am hi52_0
        have jQ:=am hl52_0
        clear hi52_0 hl52_0
        replace qn:=eq_true qn
        replace qo:=eq_true qo
        try go_wp2
        replace jb:=am (Kd.nK jb.out)
        replace j9:=am (Kd.kV j9.out)
        replace j3:=am (bK j3.out)
        replace j4:=am (bK j4.out)
        replace j6:=am (bK j6.out)
        replace HB:=am (bG HB.out)
        refine lK (n:=8) (S:=fun w'=>w'.cell? ⟨j8,0,none⟩=some (.slice jg jj.length jh)∧w'.cell? ⟨j8,1,none⟩=some (u47)) (ds:=[7]) (bz 8 0) (by kernel_rfl) rfl rfl ⟨(aC j6.out 0).trans rfl,(aC j6.out 1).trans rfl⟩ (fun hHeld=>?_);refine iF bN.aBm bN.SI (fun HT_ HW_=>?_)
        generalize wr.drew=qT at jb j9 j3 j4 j6 HB hHeld ⊢
        refine pr_ 0 22 (bz 8 1) HT_ ?_
        refine pr_ 2 24 (bz 8 5) HT_ ?_
        refine NY 1 23 (bz 8 7) HT_ HW_ hHeld ?_
        refine kN (i:=3) (N:=some 25) (bz 8 15) rfl rfl (fQ HT_.out (by kernel_rfl)) (by decide) (fun K hK=>?_)
        refine iP Try.func46 (by kernel_rfl) rfl #[.slice jZ (fB j5 j7).length q0] (by rfl) rfl rfl mO ?_
        with_reducible refine (aX.calls k1 _ _ (fB j5 j7) q6 _ (aC_ (Kd.aV jP.out HB.out)) jQ.out qM.out).mono ?_
        rintro e qU ⟨qV,rfl,ho0,hb⟩
        refine ⟨_,rfl,?_⟩
        have jJ:=am (Kd.dF (Kd.aG (ok':=fun k_=>(w.heap.size≤k_)∧some k_≠(.slice jg jj.length jh:Value).ownBlock∧some k_≠(u47:Value).ownBlock∧k_≠jf∧k_≠ja∧k_≠j8) ho0 (fun k_ hk_=>⟨(Nat.le_trans (aJ yY) hk_),(Kd.fresh' (Kd.kW (aR_ jb.out)) k_ hk_),(Kd.fresh' (Kd.iN (aN_ j9.out)) k_ hk_),(fJ j3.out k_ hk_),(fJ j4.out k_ hk_),(fJ j6.out k_ hk_)⟩)) (aJ yY))
        replace jb:=am (Kd.eG (aR_ jb.out) hb)
        replace j9:=am (Kd.eY (aN_ j9.out) (by first|exact Kd.dD ho0|exact Kd.dD (Kd.R_N ho0)) hb)
        replace j3:=bbP j3 hb
        replace j4:=bbP j4 hb
        replace j6:=bbP j6 hb
        replace HB:=am (aD yY hb)
        (try clear hb)
        (try clear hb2)
        (try clear hk)
        (try clear hi)
        (try clear ho0)
        obtain ⟨qq,qr,q1⟩:=Kd.dG jJ.out
        (first|subst q1|(injection q1 with f1_ f2_ f3_;have f4_:=f1_.symm;have f5_:=f3_.symm;clear f1_ f2_ f3_;subst f4_;subst f5_))
        refine hK.out _ _ ⟨(aC j6.out 0).trans rfl,(aC j6.out 1).trans rfl⟩ (fun hHeld=>?_)
        clear hK K
        refine eT (a':=?_) ?_ ?_
        rotate_left
        ·show Act.put _ (some 25) _=_
         simp only [Act.put,List.setIfInBounds_toArray,List.set_cons_zero,List.set_cons_succ,dN,dU]
         rfl
        refine kN (i:=4) (N:=some 26) (bz 8 31) rfl rfl (fQ HT_.out (by kernel_rfl)) (by decide) (fun K hK=>?_)
        refine CJ (w1:=?_) (v:=?_) (by rfl) rfl ?_ ?_
        rotate_left 2
        ·go_simp
         constructor
         ·rfl
         ·rfl
        refine hK.out _ _ ⟨(aC (bY j6.out _) 0).trans rfl,(aC (bY j6.out _) 1).trans rfl⟩ (fun hHeld=>?_)
        clear hK K
        refine eT (a':=?_) ?_ ?_
        rotate_left
        ·show Act.put _ (some 26) _=_
         simp only [Act.put,List.setIfInBounds_toArray,List.set_cons_zero,List.set_cons_succ,dN,dU]
         rfl
        refine kN (i:=5) (N:=some 27) (bz 8 63) rfl rfl (fQ HT_.out (by kernel_rfl)) (by decide) (fun K hK=>?_)
        refine Kd.uQ (Kd.slice 35 k35) (w0:=w) w.heap.size (by rfl) (.tmp 23) (.tmp 26) 44 23 (.slice none 0 0) 24 rfl Try.underlying44 ES rfl (by decide) (by omega) u47 ji q6 [.slice qq q6.length qr] (fun k_=>(w.heap.size≤k_)∧some k_≠(.slice jg jj.length jh:Value).ownBlock∧k_≠jf∧k_≠ja∧k_≠j8) (fun k_=>((fun k_=>(w.heap.size≤k_)∧some k_≠(.slice jg jj.length jh:Value).ownBlock∧k_≠jf∧k_≠ja∧k_≠j8)) k_∧some k_≠(u47:Value).ownBlock) rfl rfl ?aP (fun _ hk=>hk) ?aF ?aO ?aB ?aS ?aL ?_
        (case aP=>exact (Kd.kU (Kd.bQ (Kd.aG (ok':=(fun k_=>((fun k_=>(w.heap.size≤k_)∧some k_≠(.slice jg jj.length jh:Value).ownBlock∧k_≠jf∧k_≠ja∧k_≠j8)) k_∧some k_≠(u47:Value).ownBlock)) (jJ.out) (fun k_ hk=>⟨⟨hk.1,⟨hk.2.1,⟨hk.2.2.2.1,⟨hk.2.2.2.2.1,hk.2.2.2.2.2⟩⟩⟩⟩,hk.2.2.1⟩))).2.1 (Kd.N_F (Kd.aG (ok':=(fun k_=>((fun k_=>(w.heap.size≤k_)∧some k_≠(.slice jg jj.length jh:Value).ownBlock∧k_≠jf∧k_≠ja∧k_≠j8)) k_∧some k_≠(u47:Value).ownBlock)) (jJ.out) (fun k_ hk=>⟨⟨hk.1,⟨hk.2.1,⟨hk.2.2.2.1,⟨hk.2.2.2.2.1,hk.2.2.2.2.2⟩⟩⟩⟩,hk.2.2.1⟩)))))
        (case aB=>exact yY)
        (case aF=>exact (fun k_ hk=>⟨(Nat.le_trans (aJ yY) hk),Kd.fresh' (Kd.kW (aR_ jb.out)) k_ hk,fJ j3.out k_ hk,fJ j4.out k_ hk,fJ j6.out k_ hk⟩))
        (case aO=>exact (eO (Kd.aG j9.out (fun _ hk=>⟨hk.1.1,⟨hk.1.2.1,⟨hk.1.2.2.1,⟨hk.1.2.2.2.1,hk.1.2.2.2.2⟩⟩⟩⟩))))
        (case aS=>exact (aJ yY))
        (case aL=>have:=jX.out;omega)
        intro qW qO ho hb hg hat
        rw [← qm.out] at ho
        replace jb:=am (Kd.wW (aR_ jb.out) (Kd.vD (aN_ j9.out)) (by decide) hg)
        replace j3:=am (gX (g:=jf) (o:= .cells #[.slice jm je.length jn, .slice (some qp) j5.length jo] 46 (0,0)) (aG_ j3.out) hg (Kd.BL j9.out j3.out (by decide)))
        replace j4:=am (gX (g:=ja) (o:= .cells #[.slice none 0 0, .slice none 0 0] 46 (0,0)) (aG_ j4.out) hg (Kd.BL j9.out j4.out (by decide)))
        replace j6:=am (gX (g:=j8) (o:= .cells #[.slice jg jj.length jh,u47] 46 (0,0)) (aG_ j6.out) hg (Kd.BL j9.out j6.out (by decide)))
        replace HB:=am (hb)
        have q2:=am (ho)
        clear j9 jJ
        clear ho hb hg hat
        obtain ⟨jR,jS,q3⟩:=Kd.dG q2.out
        (first|subst q3|(injection q3 with f1_ f2_ f3_;have f4_:=f1_.symm;have f5_:=f3_.symm;clear f1_ f2_ f3_;subst f4_;subst f5_))
        refine hK.out _ _ ⟨(aC j6.out 0).trans rfl,(aC j6.out 1).trans rfl⟩ (fun hHeld=>?_)
        clear hK K
        refine eT (a':=?_) ?_ ?_
        rotate_left
        ·show Act.put _ (some 27) _=_
         simp only [Act.put,List.setIfInBounds_toArray,List.set_cons_zero,List.set_cons_succ,dN,dU]
         rfl
        refine pr_ 6 28 (bz 8 127) HT_ ?_
        refine wO (i:=7) (N:=none) (bz 8 255) rfl rfl (fQ HT_.out (by kernel_rfl)) (by decide) (fun K hK=>?_)
        have qP:qO.cell? ⟨j8,1,none⟩=some (u47):=(aC j6.out 1).trans rfl
        have hfs28:=aU j6.out 1
        have hns28_0:=jc.out
        have hns28_1:=jd.out
        have hms28_0:=jk.out
        have hms28_1:=jl.out
        refine rP (w1:=?_) (by rfl) rfl ?_ ?_
        rotate_left
        ·go_simp
         rfl
        refine hK.out _ _ ?_
        clear hK K
        refine nN (kQ HT_.out (by kernel_rfl)) ?_
        try go_wp2
        go_roundg k1
        case measure=>have:=qx.out;omega
        case rel=>exact ⟨(wrap64 (j7 + 1)),(jY),(.slice jR jY.length jS),sd_,H',⟨by have:=qx.out;omega⟩,⟨iH (Kd.dL (Kd.eH (p:=⟨j8,1,none⟩) (Kd.fK jb.out j6.out (by decide)) (fun _ hk=>hk.2) (.slice jR jY.length jS)) (fun _ hk=>hk.1))⟩,⟨eO (Kd.aG (Kd.aT (p:=⟨j8,1,none⟩) (Kd.aG q2.out (fun k_ hk=>(⟨hk,hk.2.2.2.2⟩:_∧k_≠j8))) (fun _ hk=>hk.2) (.slice jR jY.length jS)) (fun _ hk=>⟨hk.1.1,⟨hk.1.2.1,⟨hk.1.2.2.1,⟨hk.1.2.2.2.1,hk.1.2.2.2.2⟩⟩⟩⟩))⟩,⟨(bC j3.out jc.out _)⟩,⟨(bC j4.out jd.out _)⟩,⟨(aM j6.out 1 _ rfl)⟩,⟨yY⟩⟩
       rw [if_neg q7] at H
       exact absurd H (by simp)
      rw [if_neg q5] at H
      exact absurd H (by simp)
     rw [if_neg q4] at H
     exact absurd H (by simp)
    rw [if_neg jV] at H
    have jW:decide (j7 < (j5.length:Int))=false:=decide_eq_false jV
    clear jV
    simp only [Option.some.injEq,Prod.mk.injEq] at H
    obtain ⟨rfl,rfl,rfl⟩:=H
    have qA:=jk.out
    have qB:=jc.out
    have qC:=jl.out
    have qD:=jd.out
    obtain ⟨q8,q9,qa,qb⟩:=gD j6.out
    have qE:=jr.out
    have qF:=jq.out
    obtain ⟨qc,qd,qe,qf⟩:=gD j4.out
    obtain ⟨jT,jU,qs⟩:=Kd.dG j9.out
    subst qs
    go_wp2
    refine bodyPost_ret (vM rfl _ _ ja 46 #[.slice jg jj.length jh, .slice jT ji.length jU] (0,0) _ rfl (aM (aM j4.out 0 _ rfl) 1 _ rfl) Try.underlying46 rfl (by kernel_rfl)) rfl ?_
    exact ⟨_,_,iI,iH (Kd.dL (Kd.eH (p:=⟨ja,1,none⟩) (Kd.eH (p:=⟨ja,0,none⟩) (Kd.fK jb.out j4.out (by decide)) (fun _ hk=>hk.2) (.slice jg jj.length jh)) (fun _ hk=>hk.2) (.slice jT ji.length jU)) (fun _ hk=>hk.1)),eO (Kd.aG (Kd.aT (p:=⟨ja,1,none⟩) (Kd.aT (p:=⟨ja,0,none⟩) (Kd.aG j9.out (fun k_ hk=>(⟨hk,hk.2.2.2.1⟩:_∧k_≠ja))) (fun _ hk=>hk.2) (.slice jg jj.length jh)) (fun _ hk=>hk.2) (.slice jT ji.length jU)) (fun _ hk=>⟨hk.1.1,hk.1.2.1⟩)),yY⟩
 replace c3:=Bool.eq_false_iff.mpr c3
 subst c3
 rw [if_neg (show ¬ (false=true) by decide)] at H
 simp only [Option.some.injEq,Prod.mk.injEq] at H
 obtain ⟨rfl,rfl,rfl⟩:=H
 go_wp2_with (first|((with_reducible refine aN (f:=31) rfl ?_);refine gl_ 8 Try.func31 #[.agg #[.slice jm je.length jn, .slice js j5.length jo]] ?_;(with_reducible refine (bB.calls k _ _ je _ _ j5 false _ (aC_ (Kd.aV jt.out HB.out)) ju.out (aC_ (Kd.aV jv.out HB.out)) jK.out A2.out).mono ?_);rintro e qX ⟨rfl,hb⟩;refine ⟨_,rfl,?_⟩;replace j3:=bbP j3 hb;replace j4:=bbP j4 hb;replace HB:=am (aD AB hb);(try clear hb);obtain ⟨qg,qh,qi,qj⟩:=gD j4.out))
 refine bodyPost_ret (vM rfl _ _ ja 46 #[.slice none 0 0, .slice none 0 0] (0,0) _ rfl (aM (aM j4.out 0 _ rfl) 1 _ rfl) Try.underlying46 rfl (by kernel_rfl)) rfl ?_
 exact ⟨_,_,iI,by first|exact Kd.oC _ _ _ _ _|exact Kd.sG _ _ _ _ _|exact Kd.sK _ _ _ _ _|exact Kd.sH _ _ _ _ _|exact Kd.sI _ _ _ _ _,by first|exact Kd.oC _ _ _ _ _|exact Kd.sG _ _ _ _ _|exact Kd.sK _ _ _ _ _|exact Kd.sH _ _ _ _ _|exact Kd.sI _ _ _ _ _,AB⟩
theorem gB.calls (a0:Int) (a1:Int) (a2:Int) (r:Bool) (w:World) (h:gB.f a0 a1 a2=some r):
  Calls Try.prog 88 #[.int .i64 a0, .int .i64 a1, .int .i64 a2] w fun e w'=>e= .returned (.bool r)∧iX w w':=by
 have H:(if a0≥a1 then (some (decide (a0≤a2))) else (some false))=some r:=h
 clear h
 by_cases c4:a0≥a1
 ·rw [if_pos c4] at H
  have j3:decide (a1≤a0)=true:=decide_eq_true c4
  clear c4
  obtain rfl:=Option.some.inj H
  go_enter Try.func88,Try.ntmps88
  go_wp2
  go_ret
  exact ⟨sd_,gM⟩
 rw [if_neg c4] at H
 have j3:decide (a1≤a0)=false:=decide_eq_false c4
 clear c4
 obtain rfl:=Option.some.inj H
 go_enter Try.func88,Try.ntmps88
 go_wp2
 go_ret
 exact ⟨sd_,gM⟩
theorem iC.calls (a0:Int) (r:Bool) (w:World) (h:iC.f a0=some r):
  Calls Try.prog 117 #[.int .i64 a0] w fun e w'=>e= .returned (.bool r)∧iX w w':=by
 have H:((gB.f a0 1 12).bind fun j3=>(some j3))=some r:=h
 clear h
 obtain ⟨j3,A2,H⟩:=bsa H
 (try dsimp only at H)
 obtain rfl:=Option.some.inj H
 go_enter Try.func117,Try.ntmps117
 go_wp2_with (first|((with_reducible refine aN (f:=88) rfl ?_);refine gl_ 4 Try.func88 #[.int .i64 a0, .int .i64 1, .int .i64 12] ?_;(with_reducible refine (gB.calls a0 1 12 j3 _ A2.out).mono ?_);rintro e w' ⟨rfl,⟨nd,rfl⟩⟩;refine ⟨_,rfl,?_⟩))
 go_ret
 exact ⟨sd_,gM⟩
theorem iR.calls (a0:Int) (r:Bool) (w:World) (h:iR.f a0=some r):
  Calls Try.prog 118 #[.int .i64 a0] w fun e w'=>e= .returned (.bool r)∧iX w w':=by
 have H:((gB.f a0 (-2147483648) 2147483647).bind fun j3=>(some j3))=some r:=h
 clear h
 obtain ⟨j3,A2,H⟩:=bsa H
 (try dsimp only at H)
 obtain rfl:=Option.some.inj H
 go_enter Try.func118,Try.ntmps118
 go_wp2_with (first|((with_reducible refine aN (f:=88) rfl ?_);refine gl_ 4 Try.func88 #[.int .i64 a0, .int .i64 (-2147483648), .int .i64 2147483647] ?_;(with_reducible refine (gB.calls a0 (-2147483648) 2147483647 j3 _ A2.out).mono ?_);rintro e w' ⟨rfl,⟨nd,rfl⟩⟩;refine ⟨_,rfl,?_⟩))
 go_ret
 exact ⟨sd_,gM⟩
theorem mY.calls (a0:Bool) (r:Int) (w:World) (h:mY.f a0=some r):
  Calls Try.prog 119 #[.bool a0] w fun e w'=>e= .returned (.int .i64 r)∧iX w w':=by
 have H:(if a0=true then (some 1) else (some 0))=some r:=h
 clear h
 by_cases c2:a0=true
 ·subst c2
  rw [if_pos rfl] at H
  obtain rfl:=Option.some.inj H
  go_enter Try.func119,Try.ntmps119
  go_wp2
  go_ret
  exact ⟨sd_,gM⟩
 replace c2:=Bool.eq_false_iff.mpr c2
 subst c2
 rw [if_neg (show ¬ (false=true) by decide)] at H
 obtain rfl:=Option.some.inj H
 go_enter Try.func119,Try.ntmps119
 go_wp2
 go_ret
 exact ⟨sd_,gM⟩
theorem kH.calls (a0:Int) (r:Int) (w:World) (h:kH.f a0=some r):
  Calls Try.prog 121 #[.int .i64 a0] w fun e w'=>e= .returned (.int .i64 r)∧iX w w':=by
 have H:(if (Int.tmod a0 4294967296) > 2147483647 then (some (wrap64 ((Int.tmod a0 4294967296) - 4294967296))) else (if (Int.tmod a0 4294967296) < (-2147483648) then (some (wrap64 ((Int.tmod a0 4294967296) + 4294967296))) else (some (Int.tmod a0 4294967296))))=some r:=h
 clear h
 by_cases c2:(Int.tmod a0 4294967296) > 2147483647
 ·rw [if_pos c2] at H
  have j3:decide (2147483647 < (Int.tmod a0 4294967296))=true:=decide_eq_true c2
  clear c2
  obtain rfl:=Option.some.inj H
  go_enter Try.func121,Try.ntmps121
  go_wp2
  go_ret
  exact ⟨sd_,gM⟩
 rw [if_neg c2] at H
 have j3:decide (2147483647 < (Int.tmod a0 4294967296))=false:=decide_eq_false c2
 clear c2
 by_cases c3:(Int.tmod a0 4294967296) < (-2147483648)
 ·rw [if_pos c3] at H
  have j4:decide ((Int.tmod a0 4294967296) < (-2147483648))=true:=decide_eq_true c3
  clear c3
  obtain rfl:=Option.some.inj H
  go_enter Try.func121,Try.ntmps121
  go_wp2
  go_ret
  exact ⟨sd_,gM⟩
 rw [if_neg c3] at H
 have j4:decide ((Int.tmod a0 4294967296) < (-2147483648))=false:=decide_eq_false c3
 clear c3
 obtain rfl:=Option.some.inj H
 go_enter Try.func121,Try.ntmps121
 go_wp2
 go_ret
 exact ⟨sd_,gM⟩
theorem mE.calls (a0:Int) (a1:Int) (a2:Bool) (r:Int) (w:World) (h:mE.f a0 a1 a2=some r):
  Calls Try.prog 120 #[.int .i64 a0, .int .i64 a1, .bool a2] w fun e w'=>e= .returned (.int .i64 r)∧iX w w':=by
 have H:(if a2=true then (if 0≤(Go.bits .and .i64 a1 31) then (some (shr .i64 a0 (Go.bits .and .i64 a1 31))) else (none)) else (if 0≤(Go.bits .and .i64 a1 31) then ((kH.f (shl .i64 a0 (Go.bits .and .i64 a1 31))).bind fun j3=>(some j3)) else (none)))=some r:=h
 clear h
 by_cases c4:a2=true
 ·subst c4
  rw [if_pos rfl] at H
  by_cases c5:0≤(Go.bits .and .i64 a1 31)
  ·rw [if_pos c5] at H
   have j4:=eq_true c5
   have j5:decide (0≤(Go.bits .and .i64 a1 31))=true:=decide_eq_true c5
   clear c5
   obtain ⟨ji6,hji6⟩:∃ j_:Int,(shr .i64 a0 (Go.bits .and .i64 a1 31))=j_:=⟨_,rfl⟩
   replace H:(some ji6)=some r:=by first|(rw [hji6] at H;exact H)|(simp only [hji6] at H ⊢;exact H)
   have hji6_:(a0 / 2 ^ min (Go.bits .and .i64 a1 31).toNat 64)=ji6:=hji6
   have hji6z:(Go.bits .and .i64 a1 31)≤64→(a0 / 2 ^ (Go.bits .and .i64 a1 31).toNat)=ji6:=IK hji6
   obtain rfl:=Option.some.inj H
   go_enter Try.func120,Try.ntmps120
   go_wp2
   go_ret
   exact ⟨by first|rfl|(simp;done)|(simp only [← hji6] <;> (first|rfl|simp))|(simp [*];done),gM⟩
  rw [if_neg c5] at H
  exact absurd H (by simp)
 replace c4:=Bool.eq_false_iff.mpr c4
 subst c4
 rw [if_neg (show ¬ (false=true) by decide)] at H
 by_cases c7:0≤(Go.bits .and .i64 a1 31)
 ·rw [if_pos c7] at H
  have j6:=eq_true c7
  have j7:decide (0≤(Go.bits .and .i64 a1 31))=true:=decide_eq_true c7
  clear c7
  obtain ⟨ji8,hji8⟩:∃ j_:Int,(shl .i64 a0 (Go.bits .and .i64 a1 31))=j_:=⟨_,rfl⟩
  replace H:((kH.f (ji8)).bind fun j3=>(some j3))=some r:=by first|(rw [hji8] at H;exact H)|(simp only [hji8] at H ⊢;exact H)
  have hji8_:(IntKind.i64.wrap (a0 * 2 ^ min (Go.bits .and .i64 a1 31).toNat 64))=ji8:=hji8
  have hji8z:(Go.bits .and .i64 a1 31)≤64→(IntKind.i64.wrap (a0 * 2 ^ (Go.bits .and .i64 a1 31).toNat))=ji8:=IJ hji8
  have hji8y:(wrap64 (a0 * 2 ^ min (Go.bits .and .i64 a1 31).toNat 64))=ji8:=(dN _).symm.trans hji8_
  have hji8x:(Go.bits .and .i64 a1 31)≤64→(wrap64 (a0 * 2 ^ (Go.bits .and .i64 a1 31).toNat))=ji8:=fun h_=>(dN _).symm.trans (hji8z h_)
  obtain ⟨j3,A9,H⟩:=bsa H
  (try dsimp only at H)
  obtain rfl:=Option.some.inj H
  go_enter Try.func120,Try.ntmps120
  go_wp2_with (first|((with_reducible refine aN (f:=121) rfl ?_);refine sS (some 16) rfl rfl Try.func121 (by kernel_rfl) rfl #[.int .i64 ji8] rfl (by (try simp only [List.map_toArray,List.map_cons,List.map_nil]);first|done|(simp only [hji8];rfl)|rfl|(simp only [List.length_drop,List.length_take];rfl)) ?_;(with_reducible refine (kH.calls ji8 j3 _ A9.out).mono ?_);rintro e w' ⟨rfl,⟨nd,rfl⟩⟩;refine ⟨_,rfl,?_⟩))
  go_ret
  exact ⟨by first|rfl|(simp;done)|(simp only [← hji8] <;> (first|rfl|simp))|(simp [*];done),gM⟩
 rw [if_neg c7] at H
 exact absurd H (by simp)
theorem oH.calls (a0:Int) (a1:Int) (r:Int) (w:World) (h:oH.f a0 a1=some r):
  Calls Try.prog 122 #[.int .i64 a0, .int .i64 a1] w fun e w'=>e= .returned (.int .i64 r)∧iX w w':=by
 have H:(if a1=0 then (some (-1)) else ((kH.f (wrap64 (Int.tdiv a0 a1))).bind fun j3=>(some j3)))=some r:=h
 clear h
 by_cases c3:a1=0
 ·rw [if_pos c3] at H
  have j4:(a1 == 0)=true:=beq_iff_eq.mpr c3
  have j5:(a1 != 0)=false:=bne_eq_false_iff_eq.mpr c3
  clear c3
  obtain rfl:=Option.some.inj H
  go_enter Try.func122,Try.ntmps122
  go_wp2
  go_ret
  exact ⟨sd_,gM⟩
 rw [if_neg c3] at H
 have j4:(a1 == 0)=false:=beq_eq_false_iff_ne.mpr c3
 have j5:(a1 != 0)=true:=bne_iff_ne.mpr c3
 obtain ⟨j3,A4,H⟩:=bsa H
 (try dsimp only at H)
 obtain rfl:=Option.some.inj H
 go_enter Try.func122,Try.ntmps122
 go_wp2_with (first|((with_reducible refine aN (f:=121) rfl ?_);refine gl_ 10 Try.func121 #[.int .i64 (wrap64 (Int.tdiv a0 a1))] ?_;(with_reducible refine (kH.calls (wrap64 (Int.tdiv a0 a1)) j3 _ A4.out).mono ?_);rintro e w' ⟨rfl,⟨nd,rfl⟩⟩;refine ⟨_,rfl,?_⟩))
 go_ret
 exact ⟨sd_,gM⟩
theorem oI.calls (a0:Int) (a1:Int) (r:Int) (w:World) (h:oI.f a0 a1=some r):
  Calls Try.prog 123 #[.int .i64 a0, .int .i64 a1] w fun e w'=>e= .returned (.int .i64 r)∧iX w w':=by
 have H:(if a1=0 then (some a0) else (some (Int.tmod a0 a1)))=some r:=h
 clear h
 by_cases c3:a1=0
 ·rw [if_pos c3] at H
  have j3:(a1 == 0)=true:=beq_iff_eq.mpr c3
  have j4:(a1 != 0)=false:=bne_eq_false_iff_eq.mpr c3
  clear c3
  obtain rfl:=Option.some.inj H
  go_enter Try.func123,Try.ntmps123
  go_wp2
  go_ret
  exact ⟨sd_,gM⟩
 rw [if_neg c3] at H
 have j3:(a1 == 0)=false:=beq_eq_false_iff_ne.mpr c3
 have j4:(a1 != 0)=true:=bne_iff_ne.mpr c3
 obtain rfl:=Option.some.inj H
 go_enter Try.func123,Try.ntmps123
 go_wp2
 go_ret
 exact ⟨sd_,gM⟩
theorem fT.mono_l:∀ k,(∀ y0 y1 y2 y3,LeO (fT.j0 k y0 y1 y2 y3) (fT.j0 (k + 1) y0 y1 y2 y3))
 |0=>fun _ _ _ _ r h=>by simp [fT.j0] at h
 |k + 1=>by
  have ih0:=fT.mono_l k
  ·intro y0 y1 y2 y3
   unfold fT.j0
   exact mo_
theorem fT.mono:∀ a0 a1 a2 k,LeO (fT.f k a0 a1 a2) (fT.f (k + 1) a0 a1 a2):=by
 intro a0 a1 a2 k
 have ih0:=fT.mono_l k
 unfold fT.f
 exact mo_
theorem fT.calls (k:Nat) (a0:Int) (a1:Int) (a2:Int) (r1:Int) (r2:Bool) (w:World) (h:fT.f k a0 a1 a2=some (r1,r2)):
  Calls Try.prog 112 #[.int .i64 a0, .int .i64 a1, .int .i64 a2] w fun e w'=>e= .returned (.tuple #[.int .i64 r1, .bool r2])∧iX w w':=by
 have H:((iC.f a0).bind fun jC=>(if jC=true then ((iR.f a1).bind fun jD=>(if jD=true then ((iR.f a2).bind fun jB=>(fT.j0 k a0 a1 a2 (!jB))) else (fT.j0 k a0 a1 a2 true))) else (fT.j0 k a0 a1 a2 true)))=some (r1,r2):=h
 clear h
 have jE:=am H
 clear H
 go_enter Try.func112,Try.ntmps112
 go_upto_region 1 with (fail)
 go_cut [20] (fun jO wc=>∃ (kq:Nat) (j3:Bool),jO= .bool j3∧Aside0 (fT.j0 kq a0 a1 a2 j3=some (r1,r2))∧Aside0 (kq≤k)∧iX w wc)
 case first=>
  have H:=jE.out
  clear jE
  obtain ⟨jC,A5,H⟩:=bsa H
  (try dsimp only at H)
  by_cases c6:jC=true
  ·subst c6
   rw [if_pos rfl] at H
   obtain ⟨jD,A7,H⟩:=bsa H
   (try dsimp only at H)
   by_cases c8:jD=true
   ·subst c8
    rw [if_pos rfl] at H
    obtain ⟨jB,A9,H⟩:=bsa H
    (try dsimp only at H)
    have H':=am H
    clear H
    go_wp2_with (first|((with_reducible refine aN (f:=117) rfl ?_);refine gl_ 9 Try.func117 #[.int .i64 a0] ?_;(with_reducible refine (iC.calls a0 true _ A5.out).mono ?_);rintro e w' ⟨rfl,⟨nd,rfl⟩⟩;refine ⟨_,rfl,?_⟩)|(go_at_call 118;(with_reducible refine (iR.calls a1 true _ A7.out).mono ?_);rintro e w' ⟨rfl,⟨nd,rfl⟩⟩)|(go_at_call 118;(with_reducible refine (iR.calls a2 jB _ A9.out).mono ?_);rintro e w' ⟨rfl,⟨nd,rfl⟩⟩))
    go_meet
    case rel=>exact ⟨_,(!jB),sd_,H',⟨by first|omega|exact Nat.le_refl _⟩,gM⟩
   replace c8:=Bool.eq_false_iff.mpr c8
   subst c8
   rw [if_neg (show ¬ (false=true) by decide)] at H
   have H':=am H
   clear H
   go_wp2_with (first|((with_reducible refine aN (f:=117) rfl ?_);refine gl_ 9 Try.func117 #[.int .i64 a0] ?_;(with_reducible refine (iC.calls a0 true _ A5.out).mono ?_);rintro e w' ⟨rfl,⟨nd,rfl⟩⟩;refine ⟨_,rfl,?_⟩)|(go_at_call 118;(with_reducible refine (iR.calls a1 false _ A7.out).mono ?_);rintro e w' ⟨rfl,⟨nd,rfl⟩⟩))
   go_meet
   case rel=>exact ⟨_,(true),sd_,H',⟨by first|omega|exact Nat.le_refl _⟩,gM⟩
  replace c6:=Bool.eq_false_iff.mpr c6
  subst c6
  rw [if_neg (show ¬ (false=true) by decide)] at H
  have H':=am H
  clear H
  go_wp2_with (first|((with_reducible refine aN (f:=117) rfl ?_);refine gl_ 9 Try.func117 #[.int .i64 a0] ?_;(with_reducible refine (iC.calls a0 false _ A5.out).mono ?_);rintro e w' ⟨rfl,⟨nd,rfl⟩⟩;refine ⟨_,rfl,?_⟩))
  go_meet
  case rel=>exact ⟨_,(true),sd_,H',⟨by first|omega|exact Nat.le_refl _⟩,gM⟩
 case rest=>
  clear jE
  obtain ⟨kq,j3,rfl,HA,HJ3,⟨mc3,rfl⟩⟩:=hcut
  cases kq with
  |zero=>exact absurd HA.out (by simp [fT.j0])
  |succ q7=>
   have H:=HA.out
   clear HA
   simp only [fT.j0] at H
   by_cases c10:j3=true
   ·subst c10
    rw [if_pos rfl] at H
    simp only [Option.some.injEq,Prod.mk.injEq] at H
    obtain ⟨rfl,rfl⟩:=H
    go_wp2
    go_ret2
    exact ⟨sd_,gM⟩
   replace c10:=Bool.eq_false_iff.mpr c10
   subst c10
   rw [if_neg (show ¬ (false=true) by decide)] at H
   by_cases j4:a0=1
   ·rw [if_pos j4] at H
    have jf:(a0 == 1)=true:=beq_iff_eq.mpr j4
    have jg:(a0 != 1)=false:=bne_eq_false_iff_eq.mpr j4
    clear j4
    simp only [Option.some.injEq,Prod.mk.injEq] at H
    obtain ⟨rfl,rfl⟩:=H
    go_wp2
    go_ret2
    exact ⟨sd_,gM⟩
   rw [if_neg j4] at H
   have jf:(a0 == 1)=false:=beq_eq_false_iff_ne.mpr j4
   have jg:(a0 != 1)=true:=bne_iff_ne.mpr j4
   by_cases j5:a0=2
   ·rw [if_pos j5] at H
    have jh:(a0 == 2)=true:=beq_iff_eq.mpr j5
    have ji:(a0 != 2)=false:=bne_eq_false_iff_eq.mpr j5
    clear j5
    simp only [Option.some.injEq,Prod.mk.injEq] at H
    obtain ⟨rfl,rfl⟩:=H
    go_wp2
    go_ret2
    exact ⟨sd_,gM⟩
   rw [if_neg j5] at H
   have jh:(a0 == 2)=false:=beq_eq_false_iff_ne.mpr j5
   have ji:(a0 != 2)=true:=bne_iff_ne.mpr j5
   by_cases j6:a0=3
   ·rw [if_pos j6] at H
    have jj:(a0 == 3)=true:=beq_iff_eq.mpr j6
    have jk:(a0 != 3)=false:=bne_eq_false_iff_eq.mpr j6
    clear j6
    simp only [Option.some.injEq,Prod.mk.injEq] at H
    obtain ⟨rfl,rfl⟩:=H
    go_wp2
    go_ret2
    exact ⟨sd_,gM⟩
   rw [if_neg j6] at H
   have jj:(a0 == 3)=false:=beq_eq_false_iff_ne.mpr j6
   have jk:(a0 != 3)=true:=bne_iff_ne.mpr j6
   by_cases j7:a0=4
   ·rw [if_pos j7] at H
    have jl:(a0 == 4)=true:=beq_iff_eq.mpr j7
    have jm:(a0 != 4)=false:=bne_eq_false_iff_eq.mpr j7
    clear j7
    obtain ⟨jP,jF,H⟩:=bsm H
    (try dsimp only at H)
    have jQ:=am jF
    clear jF
    simp only [Option.some.injEq,Prod.mk.injEq] at H
    obtain ⟨rfl,rfl⟩:=H
    go_wp2_with (first|((with_reducible refine aN (f:=119) rfl ?_);refine gl_ 42 Try.func119 #[.bool (a1 == a2)] ?_;(with_reducible refine (mY.calls (a1 == a2) jP _ jQ.out).mono ?_);rintro e w' ⟨rfl,⟨nd,rfl⟩⟩;refine ⟨_,rfl,?_⟩))
    go_ret2
    exact ⟨sd_,gM⟩
   rw [if_neg j7] at H
   have jl:(a0 == 4)=false:=beq_eq_false_iff_ne.mpr j7
   have jm:(a0 != 4)=true:=bne_iff_ne.mpr j7
   by_cases j8:a0=5
   ·rw [if_pos j8] at H
    have jn:(a0 == 5)=true:=beq_iff_eq.mpr j8
    have jo:(a0 != 5)=false:=bne_eq_false_iff_eq.mpr j8
    clear j8
    obtain ⟨jR,jG,H⟩:=bsm H
    (try dsimp only at H)
    have jS:=am jG
    clear jG
    simp only [Option.some.injEq,Prod.mk.injEq] at H
    obtain ⟨rfl,rfl⟩:=H
    go_wp2_with (first|((with_reducible refine aN (f:=119) rfl ?_);refine gl_ 48 Try.func119 #[.bool (decide (a1 < a2))] ?_;(with_reducible refine (mY.calls (decide (a1 < a2)) jR _ jS.out).mono ?_);rintro e w' ⟨rfl,⟨nd,rfl⟩⟩;refine ⟨_,rfl,?_⟩))
    go_ret2
    exact ⟨sd_,gM⟩
   rw [if_neg j8] at H
   have jn:(a0 == 5)=false:=beq_eq_false_iff_ne.mpr j8
   have jo:(a0 != 5)=true:=bne_iff_ne.mpr j8
   by_cases j9:a0=6
   ·rw [if_pos j9] at H
    have jp:(a0 == 6)=true:=beq_iff_eq.mpr j9
    have jq:(a0 != 6)=false:=bne_eq_false_iff_eq.mpr j9
    clear j9
    obtain ⟨jT,jH,H⟩:=bsm H
    (try dsimp only at H)
    have jU:=am jH
    clear jH
    simp only [Option.some.injEq,Prod.mk.injEq] at H
    obtain ⟨rfl,rfl⟩:=H
    go_wp2_with (first|((with_reducible refine aN (f:=120) rfl ?_);refine gl_ 53 Try.func120 #[.int .i64 a1, .int .i64 a2, .bool false] ?_;(with_reducible refine (mE.calls a1 a2 false jT _ jU.out).mono ?_);rintro e w' ⟨rfl,⟨nd,rfl⟩⟩;refine ⟨_,rfl,?_⟩))
    go_ret2
    exact ⟨sd_,gM⟩
   rw [if_neg j9] at H
   have jp:(a0 == 6)=false:=beq_eq_false_iff_ne.mpr j9
   have jq:(a0 != 6)=true:=bne_iff_ne.mpr j9
   by_cases ja:a0=7
   ·rw [if_pos ja] at H
    have jr:(a0 == 7)=true:=beq_iff_eq.mpr ja
    have js:(a0 != 7)=false:=bne_eq_false_iff_eq.mpr ja
    clear ja
    obtain ⟨jV,jI,H⟩:=bsm H
    (try dsimp only at H)
    have jW:=am jI
    clear jI
    simp only [Option.some.injEq,Prod.mk.injEq] at H
    obtain ⟨rfl,rfl⟩:=H
    go_wp2_with (first|((with_reducible refine aN (f:=120) rfl ?_);refine gl_ 58 Try.func120 #[.int .i64 a1, .int .i64 a2, .bool true] ?_;(with_reducible refine (mE.calls a1 a2 true jV _ jW.out).mono ?_);rintro e w' ⟨rfl,⟨nd,rfl⟩⟩;refine ⟨_,rfl,?_⟩))
    go_ret2
    exact ⟨sd_,gM⟩
   rw [if_neg ja] at H
   have jr:(a0 == 7)=false:=beq_eq_false_iff_ne.mpr ja
   have js:(a0 != 7)=true:=bne_iff_ne.mpr ja
   by_cases jb:a0=8
   ·rw [if_pos jb] at H
    have jt:(a0 == 8)=true:=beq_iff_eq.mpr jb
    have ju:(a0 != 8)=false:=bne_eq_false_iff_eq.mpr jb
    clear jb
    obtain ⟨jX,jJ,H⟩:=bsm H
    (try dsimp only at H)
    have jY:=am jJ
    clear jJ
    simp only [Option.some.injEq,Prod.mk.injEq] at H
    obtain ⟨rfl,rfl⟩:=H
    go_wp2_with (first|((with_reducible refine aN (f:=121) rfl ?_);refine gl_ 64 Try.func121 #[.int .i64 (wrap64 (a1 + a2))] ?_;(with_reducible refine (kH.calls (wrap64 (a1 + a2)) jX _ jY.out).mono ?_);rintro e w' ⟨rfl,⟨nd,rfl⟩⟩;refine ⟨_,rfl,?_⟩))
    go_ret2
    exact ⟨sd_,gM⟩
   rw [if_neg jb] at H
   have jt:(a0 == 8)=false:=beq_eq_false_iff_ne.mpr jb
   have ju:(a0 != 8)=true:=bne_iff_ne.mpr jb
   by_cases jc:a0=9
   ·rw [if_pos jc] at H
    have jv:(a0 == 9)=true:=beq_iff_eq.mpr jc
    have jw:(a0 != 9)=false:=bne_eq_false_iff_eq.mpr jc
    clear jc
    obtain ⟨jZ,jK,H⟩:=bsm H
    (try dsimp only at H)
    have q0:=am jK
    clear jK
    simp only [Option.some.injEq,Prod.mk.injEq] at H
    obtain ⟨rfl,rfl⟩:=H
    go_wp2_with (first|((with_reducible refine aN (f:=121) rfl ?_);refine gl_ 70 Try.func121 #[.int .i64 (wrap64 (a1 - a2))] ?_;(with_reducible refine (kH.calls (wrap64 (a1 - a2)) jZ _ q0.out).mono ?_);rintro e w' ⟨rfl,⟨nd,rfl⟩⟩;refine ⟨_,rfl,?_⟩))
    go_ret2
    exact ⟨sd_,gM⟩
   rw [if_neg jc] at H
   have jv:(a0 == 9)=false:=beq_eq_false_iff_ne.mpr jc
   have jw:(a0 != 9)=true:=bne_iff_ne.mpr jc
   by_cases jd:a0=10
   ·rw [if_pos jd] at H
    have jx:(a0 == 10)=true:=beq_iff_eq.mpr jd
    have jy:(a0 != 10)=false:=bne_eq_false_iff_eq.mpr jd
    clear jd
    obtain ⟨q1,jL,H⟩:=bsm H
    (try dsimp only at H)
    have q2:=am jL
    clear jL
    simp only [Option.some.injEq,Prod.mk.injEq] at H
    obtain ⟨rfl,rfl⟩:=H
    go_wp2_with (first|((with_reducible refine aN (f:=121) rfl ?_);refine gl_ 76 Try.func121 #[.int .i64 (wrap64 (a1 * a2))] ?_;(with_reducible refine (kH.calls (wrap64 (a1 * a2)) q1 _ q2.out).mono ?_);rintro e w' ⟨rfl,⟨nd,rfl⟩⟩;refine ⟨_,rfl,?_⟩))
    go_ret2
    exact ⟨sd_,gM⟩
   rw [if_neg jd] at H
   have jx:(a0 == 10)=false:=beq_eq_false_iff_ne.mpr jd
   have jy:(a0 != 10)=true:=bne_iff_ne.mpr jd
   by_cases je:a0=11
   ·rw [if_pos je] at H
    have jz:(a0 == 11)=true:=beq_iff_eq.mpr je
    have jA:(a0 != 11)=false:=bne_eq_false_iff_eq.mpr je
    clear je
    obtain ⟨q3,jM,H⟩:=bsm H
    (try dsimp only at H)
    have q4:=am jM
    clear jM
    simp only [Option.some.injEq,Prod.mk.injEq] at H
    obtain ⟨rfl,rfl⟩:=H
    go_wp2_with (first|((with_reducible refine aN (f:=122) rfl ?_);refine gl_ 81 Try.func122 #[.int .i64 a1, .int .i64 a2] ?_;(with_reducible refine (oH.calls a1 a2 q3 _ q4.out).mono ?_);rintro e w' ⟨rfl,⟨nd,rfl⟩⟩;refine ⟨_,rfl,?_⟩))
    go_ret2
    exact ⟨sd_,gM⟩
   rw [if_neg je] at H
   have jz:(a0 == 11)=false:=beq_eq_false_iff_ne.mpr je
   have jA:(a0 != 11)=true:=bne_iff_ne.mpr je
   obtain ⟨q5,jN,H⟩:=bsm H
   (try dsimp only at H)
   have q6:=am jN
   clear jN
   simp only [Option.some.injEq,Prod.mk.injEq] at H
   obtain ⟨rfl,rfl⟩:=H
   go_wp2_with (first|((with_reducible refine aN (f:=123) rfl ?_);refine gl_ 84 Try.func123 #[.int .i64 a1, .int .i64 a2] ?_;(with_reducible refine (oI.calls a1 a2 q5 _ q6.out).mono ?_);rintro e w' ⟨rfl,⟨nd,rfl⟩⟩;refine ⟨_,rfl,?_⟩))
   go_ret2
   exact ⟨sd_,gM⟩
theorem eF.mono_l:∀ k,(∀ y0 y1 y2,LeO (eF.f k y0 y1 y2) (eF.f (k + 1) y0 y1 y2))∧(∀ y0 y1 y2 y3 y4 y5 y6 y7 y8 y9,LeO (eF.j0 k y0 y1 y2 y3 y4 y5 y6 y7 y8 y9) (eF.j0 (k + 1) y0 y1 y2 y3 y4 y5 y6 y7 y8 y9))
 |0=>⟨fun _ _ _ r h=>by simp [eF.f] at h,fun _ _ _ _ _ _ _ _ _ _ r h=>by simp [eF.j0] at h⟩
 |k + 1=>by
  obtain ⟨ih0,ih1⟩:=eF.mono_l k
  refine ⟨?_,?_⟩
  ·intro y0 y1 y2
   unfold eF.f
   have m0:=@fT.mono
   exact mo_
  ·intro y0 y1 y2 y3 y4 y5 y6 y7 y8 y9
   unfold eF.j0
   have m0:=@fT.mono
   exact mo_
theorem eF.mono:∀ a0 a1 a2 k,LeO (eF.f k a0 a1 a2) (eF.f (k + 1) a0 a1 a2):=by
 intro a0 a1 a2 k
 obtain ⟨ih0,ih1⟩:=eF.mono_l k
 exact ih0 a0 a1 a2
theorem eF.calls (k:Nat):∀ (jc:Int) (jf:Int) (jK:Option Addr) (jk:Nat) (j6:List (S32)) (r1:Int) (r2:Int) (r3:List (S32)) (w:World) (hr0_2:Kd.C k32 w jK j6.length j6) (hc0_2:j6.length≤jk) (h:eF.f k jc jf j6=some (r1,r2,r3)),
  Calls Try.prog 96 #[.agg #[.int .i64 jc, .int .i64 jf, .slice jK j6.length jk]] w fun e w'=>∃ v2_:Value,e= .returned (.agg #[.int .i64 r1, .int .i64 r2,v2_])∧Kd.N k32 32 w' w.heap.size (fun k_=>(w.heap.size≤k_)) v2_ r3∧Below w.heap.size w w':=by
 induction k using Nat.strongRecOn with
 | _ k ih=>
 intro jc jf jK jk j6 r1 r2 r3 w hr0_2 hc0_2 h
 cases k with
 |zero=>exact absurd h (by simp [eF.f])
 |succ k=>
 simp only [eF.f] at h
 have hu32:=Try.underlying32
 have qs:=am hr0_2
 have ZH:=am hc0_2
 clear hr0_2 hc0_2
 have HB:=am (Below.refl w.heap.size w)
 have H:(if (j6.length:Int)=0 then ((fG.f jc jf).bind fun qw=>(some (qw.1,qw.2.1,qw.2.2))) else (if 0 < (j6.length:Int) then ((eF.f k ((aY j6 0).f0) ((aY j6 0).f1) ((aY j6 0).f2)).bind fun jR=>(if 1 < (j6.length:Int) then ((eF.f k ((aY j6 1).f0) ((aY j6 1).f1) ((aY j6 1).f2)).bind fun jS=>(if jR.1=0 then (eF.j0 k (jS.1 == 0) jc jf j6 jR.1 jR.2.1 jR.2.2 jS.1 jS.2.1 jS.2.2) else (eF.j0 k false jc jf j6 jR.1 jR.2.1 jR.2.2 jS.1 jS.2.1 jS.2.2))) else (none))) else (none)))=some (r1,r2,r3):=h
 clear h
 by_cases c2:(j6.length:Int)=0
 ·rw [if_pos c2] at H
  have qM:((j6.length:Int) == 0)=true:=beq_iff_eq.mpr c2
  have qN:((j6.length:Int) != 0)=false:=bne_eq_false_iff_eq.mpr c2
  clear c2
  obtain ⟨⟨Zg,Zh,Zi⟩,A3,H⟩:=bsa H
  (try dsimp only at H)
  simp only [Option.some.injEq,Prod.mk.injEq] at H
  obtain ⟨rfl,rfl,rfl⟩:=H
  go_enter Try.func96,Try.ntmps96
  go_wp2_with (first|((with_reducible refine cZ (N:=1) rfl ?_);refine dO rfl (N:=1) rfl (cs:=#[.int .i64 jc, .int .i64 jf, .slice jK j6.length jk]) (t:=32) rn_ ?_;intro j9 hg w4 hbox hb;have j8:=am (hbox);have Zj:=am ((by rw [hg];exact (aJ fU):w.heap.size≤j9));have GE94:=am ((by rw [hg];exact (aJ fU):w.heap.size≤j9));replace HB:=am (aD fU hb);clear hb hbox hg)|((with_reducible refine cZ (N:=2) rfl ?_);refine dO rfl (N:=2) rfl (cs:=#[.int .i64 0, .int .i64 0, .slice none 0 0]) (t:=32) rn_ ?_;intro j5 hg w5 hbox hb;have jb:=am (hbox);have Zk:=am ((by rw [hg];exact (aJ GX):w.heap.size≤j5));have GE95:=am ((by rw [hg];exact (aJ GX):w.heap.size≤j5));replace HB:=am (aD GX hb);have jF:=am ((by rw [hg];exact Nat.ne_of_lt (gT (g:=j9) (o:= .cells #[.int .i64 jc, .int .i64 jf, .slice jK j6.length jk] 32 (0,0)) (aG_ j8.out)):j9≠j5));have jG:=am ((by rw [hg];exact Nat.ne_of_gt (gT (g:=j9) (o:= .cells #[.int .i64 jc, .int .i64 jf, .slice jK j6.length jk] 32 (0,0)) (aG_ j8.out)):j5≠j9));replace j8:=am (dR (g:=j9) (o:= .cells #[.int .i64 jc, .int .i64 jf, .slice jK j6.length jk] 32 (0,0)) (aG_ j8.out) hb);clear hb hbox hg;have YP:=jF.out;have YQ:=jG.out;obtain ⟨Zl,Zm,Zn,Zo,Zp,Zq⟩:=gF j8.out)|((with_reducible refine aN (f:=45) rfl ?_);refine gl_ 15 Try.func45 #[.int .i64 jc, .int .i64 jf] ?_;(with_reducible refine (fG.calls jc jf Zg Zh Zi _ A3.out).mono ?_);rintro e w8 ⟨U2,rfl,ho0,hb⟩;refine ⟨_,rfl,?_⟩;have qO:=am (Kd.dF (Kd.aG (ok':=fun k_=>(w.heap.size≤k_)∧k_≠j9∧k_≠j5) (Kd.R_N (Kd.mP ho0)) (fun k_ hk_=>⟨(Nat.le_trans (aJ xO) hk_.2.1),(Kd.lH (g:=j9) (o:= .cells #[.int .i64 jc, .int .i64 jf, .slice jK j6.length jk] 32 (0,0)) (aG_ j8.out) k_ hk_.2.1),(Kd.lH (g:=j5) (o:= .cells #[.int .i64 0, .int .i64 0, .slice none 0 0] 32 (0,0)) (aG_ jb.out) k_ hk_.2.1)⟩)) (aJ xO));replace j8:=am (dR (g:=j9) (o:= .cells #[.int .i64 jc, .int .i64 jf, .slice jK j6.length jk] 32 (0,0)) (aG_ j8.out) hb);replace jb:=am (dR (g:=j5) (o:= .cells #[.int .i64 0, .int .i64 0, .slice none 0 0] 32 (0,0)) (aG_ jb.out) hb);replace HB:=am (aD xO hb);(try clear hb);(try clear ho0);obtain ⟨Zr,Zs,Zt,Zu,Zv,Zw⟩:=gF jb.out;obtain ⟨qP,qQ,Zx⟩:=Kd.dG qO.out;subst Zx))
  refine bodyPost_ret (results_cell_row rfl _ _ j5 32 #[.int .i64 Zg, .int .i64 Zh, .slice qP Zi.length qQ] (0,0) _ rfl (aM (aM (aM jb.out 0 _ rfl) 1 _ rfl) 2 _ rfl) Try.underlying32 rfl (by kernel_rfl)) rfl ?_
  exact ⟨_,iI,eO (Kd.aG (Kd.aT (p:=⟨j5,2,none⟩) (Kd.aT (p:=⟨j5,1,none⟩) (Kd.aT (p:=⟨j5,0,none⟩) (Kd.aG qO.out (fun k_ hk=>(⟨hk,hk.2.2⟩:_∧k_≠j5))) (fun _ hk=>hk.2) (.int .i64 Zg)) (fun _ hk=>hk.2) (.int .i64 Zh)) (fun _ hk=>hk.2) (.slice qP Zi.length qQ)) (fun _ hk=>hk.1.1)),xO⟩
 rw [if_neg c2] at H
 have qM:((j6.length:Int) == 0)=false:=beq_eq_false_iff_ne.mpr c2
 have qN:((j6.length:Int) != 0)=true:=bne_iff_ne.mpr c2
 have Zy:¬ (j6=[]):=fun h_=>c2 (by rw [h_];rfl)
 by_cases qR:0 < (j6.length:Int)
 ·rw [if_pos qR] at H
  have qS:decide (0 < (j6.length:Int))=true:=decide_eq_true qR
  have qT:decide (0 < j6.length)=true:=decide_eq_true (by omega)
  clear qR
  obtain ⟨⟨jJ,jH,jd⟩,qU,H⟩:=bsm H
  (try dsimp only at H)
  have YR:=am qU
  clear qU
  by_cases qV:1 < (j6.length:Int)
  ·rw [if_pos qV] at H
   have qW:decide (1 < (j6.length:Int))=true:=decide_eq_true qV
   have qX:decide (1 < j6.length)=true:=decide_eq_true (by omega)
   clear qV
   obtain ⟨⟨jM,ju,jh⟩,qY,H⟩:=bsm H
   (try dsimp only at H)
   have YS:=am qY
   clear qY
   have qx:=am H
   clear H
   go_enter Try.func96,Try.ntmps96
   go_upto_region 5 with (first|((with_reducible refine cZ (N:=1) rfl ?_);refine dO rfl (N:=1) rfl (cs:=#[.int .i64 jc, .int .i64 jf, .slice jK j6.length jk]) (t:=32) rn_ ?_;intro j9 hg U3 hbox hb;have j8:=am (hbox);have Zj:=am ((by rw [hg];exact (aJ fU):w.heap.size≤j9));have GE94:=am ((by rw [hg];exact (aJ fU):w.heap.size≤j9));replace HB:=am (aD fU hb);clear hb hbox hg)|((with_reducible refine cZ (N:=2) rfl ?_);refine dO rfl (N:=2) rfl (cs:=#[.int .i64 0, .int .i64 0, .slice none 0 0]) (t:=32) rn_ ?_;intro j5 hg U4 hbox hb;have jb:=am (hbox);have Zk:=am ((by rw [hg];exact (aJ GX):w.heap.size≤j5));have GE95:=am ((by rw [hg];exact (aJ GX):w.heap.size≤j5));replace HB:=am (aD GX hb);have jF:=am ((by rw [hg];exact Nat.ne_of_lt (gT (g:=j9) (o:= .cells #[.int .i64 jc, .int .i64 jf, .slice jK j6.length jk] 32 (0,0)) (aG_ j8.out)):j9≠j5));have jG:=am ((by rw [hg];exact Nat.ne_of_gt (gT (g:=j9) (o:= .cells #[.int .i64 jc, .int .i64 jf, .slice jK j6.length jk] 32 (0,0)) (aG_ j8.out)):j5≠j9));replace j8:=am (dR (g:=j9) (o:= .cells #[.int .i64 jc, .int .i64 jf, .slice jK j6.length jk] 32 (0,0)) (aG_ j8.out) hb);clear hb hbox hg;have ZI:=jF.out;have ZJ:=jG.out;obtain ⟨jU,jV,jW,jX,jY,jZ⟩:=gF j8.out;have q0:0≤(0:Int):=(by omega);have q1:0 < (j6.length:Int):=of_decide_eq_true fV;obtain ⟨jg,qy,qz,Zz,jA,jB,jC,hl105_2,hi105_2⟩:=rC qs.out 0 q0 q1;cases Zz;have ZK:(0 < j6.length)=True:=eq_true (by omega);(try rw [show ((0:Int)).toNat=0 from rfl] at jA);(try rw [show 0 * 3=0 from rfl] at jA);(try rw [Addr.add_zero'] at jA);(try rw [show ((0:Int)).toNat=0 from rfl] at jB);(try rw [show 0 * 3=0 from rfl] at jB);(try rw [Addr.add_zero'] at jB);(try rw [show ((0:Int)).toNat=0 from rfl] at jC);(try rw [show 0 * 3=0 from rfl] at jC);(try rw [Addr.add_zero'] at jC);replace jA:=(HB.out.cell (World.block_lt_of_cell? w _ jA)).trans jA;replace jB:=(HB.out.cell (World.block_lt_of_cell? w _ jB)).trans jB;replace jC:=(HB.out.cell (World.block_lt_of_cell? w _ jC)).trans jC;have q2:=am hi105_2;have q3:=am hl105_2;clear hi105_2 hl105_2;replace q0:=eq_true q0;replace q1:=eq_true q1)|((with_reducible refine aN (f:=96) rfl ?_);refine gl_ 20 Try.func96 #[.agg #[.int .i64 ((aY j6 0).f0), .int .i64 ((aY j6 0).f1), .slice qy ((aY j6 0).f2).length qz]] ?_;(with_reducible refine (ih k (by omega) ((aY j6 0).f0) ((aY j6 0).f1) _ _ ((aY j6 0).f2) jJ jH jd _ (aC_ (Kd.aV q2.out HB.out)) q3.out YR.out).mono ?_);rintro e U5 ⟨YT,rfl,ho0,hb⟩;refine ⟨_,rfl,?_⟩;have jI:=am (Kd.dF (Kd.aG (ok':=fun k_=>(w.heap.size≤k_)∧k_≠j9∧k_≠j5) ho0 (fun k_ hk_=>⟨(Nat.le_trans (aJ xO) hk_),(Kd.lH (g:=j9) (o:= .cells #[.int .i64 jc, .int .i64 jf, .slice (some jg) j6.length jk] 32 (0,0)) (aG_ j8.out) k_ hk_),(Kd.lH (g:=j5) (o:= .cells #[.int .i64 0, .int .i64 0, .slice none 0 0] 32 (0,0)) (aG_ jb.out) k_ hk_)⟩)) (aJ xO));replace j8:=am (dR (g:=j9) (o:= .cells #[.int .i64 jc, .int .i64 jf, .slice (some jg) j6.length jk] 32 (0,0)) (aG_ j8.out) hb);replace jb:=am (dR (g:=j5) (o:= .cells #[.int .i64 0, .int .i64 0, .slice none 0 0] 32 (0,0)) (aG_ jb.out) hb);replace HB:=am (aD xO hb);(try clear hb);(try clear ho0))|((with_reducible refine cZ (N:=3) rfl ?_);refine dO rfl (N:=3) rfl (cs:=#[.int .i64 0, .int .i64 0, .slice none 0 0]) (t:=32) rn_ ?_;intro j3 hg U6 hbox hb;replace jI:=am (Kd.dS (Kd.gU (aN_ jI.out) j3 (Nat.le_of_eq hg.symm)) hb);have j7:=am (hbox);have jT:=am ((by rw [hg];exact (aJ xO):w.heap.size≤j3));have GE108:=am ((by rw [hg];exact (aJ xO):w.heap.size≤j3));replace HB:=am (aD xO hb);have jl:=am ((by rw [hg];exact Nat.ne_of_lt (gT (g:=j9) (o:= .cells #[.int .i64 jc, .int .i64 jf, .slice (some jg) j6.length jk] 32 (0,0)) (aG_ j8.out)):j9≠j3));have jy:=am ((by rw [hg];exact Nat.ne_of_gt (gT (g:=j9) (o:= .cells #[.int .i64 jc, .int .i64 jf, .slice (some jg) j6.length jk] 32 (0,0)) (aG_ j8.out)):j3≠j9));replace j8:=am (dR (g:=j9) (o:= .cells #[.int .i64 jc, .int .i64 jf, .slice (some jg) j6.length jk] 32 (0,0)) (aG_ j8.out) hb);have jm:=am ((by rw [hg];exact Nat.ne_of_lt (gT (g:=j5) (o:= .cells #[.int .i64 0, .int .i64 0, .slice none 0 0] 32 (0,0)) (aG_ jb.out)):j5≠j3));have jz:=am ((by rw [hg];exact Nat.ne_of_gt (gT (g:=j5) (o:= .cells #[.int .i64 0, .int .i64 0, .slice none 0 0] 32 (0,0)) (aG_ jb.out)):j3≠j5));replace jb:=am (dR (g:=j5) (o:= .cells #[.int .i64 0, .int .i64 0, .slice none 0 0] 32 (0,0)) (aG_ jb.out) hb);clear hb hbox hg;have ZL:=jy.out;have ZM:=jl.out;have ZN:=jz.out;have ZO:=jm.out;obtain ⟨q4,q5,q6,q7,q8,q9⟩:=gF j7.out;obtain ⟨ji,jj,ZA⟩:=Kd.dG jI.out;subst ZA;obtain ⟨qa,qb,qc,qd,qe,qf⟩:=gF j8.out;have qg:0≤(1:Int):=(by omega);have qh:1 < (j6.length:Int):=of_decide_eq_true fV;obtain ⟨qZ,qA,qB,ZB,jt,jv,jw,hl109_2,hi109_2⟩:=rC qs.out 1 qg qh;obtain rfl:jg=qZ:=(by injection ZB);(try simp only [show (1:Int).toNat=1 from rfl,Nat.reduceMul,Nat.reduceEqDiff,Go.Addr.add,↓reduceIte] at jt);(try simp only [show (1:Int).toNat=1 from rfl,Nat.reduceMul,Nat.reduceEqDiff,Go.Addr.add,↓reduceIte] at jv);(try simp only [show (1:Int).toNat=1 from rfl,Nat.reduceMul,Nat.reduceEqDiff,Go.Addr.add,↓reduceIte] at jw);have ZP:(1 < j6.length)=True:=eq_true (by omega);(try rw [show ((1:Int)).toNat=1 from rfl] at jt);(try rw [show 1 * 3=3 from rfl] at jt);(try rw [show ((1:Int)).toNat=1 from rfl] at jv);(try rw [show 1 * 3=3 from rfl] at jv);(try rw [show ((1:Int)).toNat=1 from rfl] at jw);(try rw [show 1 * 3=3 from rfl] at jw);have jL:jg.block≠j3:=Nat.ne_of_lt (Nat.lt_of_lt_of_le (by have:=World.block_lt_of_cell? _ _ jt;first|rwa [add_block] at this|exact this) jT.out);have qi:jg.block≠j3:=Nat.ne_of_lt (Nat.lt_of_lt_of_le (by have:=World.block_lt_of_cell? _ _ jt;first|rwa [add_block] at this|exact this) jT.out);have qj:jg.block≠j3:=Nat.ne_of_lt (Nat.lt_of_lt_of_le (by have:=World.block_lt_of_cell? _ _ jt;first|rwa [add_block] at this|exact this) jT.out);replace jt:=(HB.out.cell (World.block_lt_of_cell? w _ jt)).trans jt;replace jv:=(HB.out.cell (World.block_lt_of_cell? w _ jv)).trans jv;replace jw:=(HB.out.cell (World.block_lt_of_cell? w _ jw)).trans jw;have qk:=am hi109_2;have ql:=am hl109_2;clear hi109_2 hl109_2;have FR_:=fun {W_:World} {a_:Addr} {x_:Value} (b_:a_.block≠j3) (h_:W_.cell? a_=some x_)=>((cell_far (p:=⟨j3,2,none⟩) b_ (.slice ji jd.length jj)).trans ((cell_far (p:=⟨j3,1,none⟩) b_ (.int .i64 jH)).trans ((cell_far (p:=⟨j3,0,none⟩) b_ (.int .i64 jJ)).trans h_)));replace jt:=FR_ (nb_ jL) jt;replace jv:=FR_ (nb_ jL) jv;replace jw:=FR_ (nb_ jL) jw;clear FR_;clear jL qi qj;replace qg:=eq_true qg;replace qh:=eq_true qh)|((with_reducible refine aN (f:=96) rfl ?_);refine gl_ 25 Try.func96 #[.agg #[.int .i64 ((aY j6 1).f0), .int .i64 ((aY j6 1).f1), .slice qA ((aY j6 1).f2).length qB]] ?_;(with_reducible refine (ih k (by omega) ((aY j6 1).f0) ((aY j6 1).f1) _ _ ((aY j6 1).f2) jM ju jh _ ?side1 ql.out YS.out).mono ?_);(case side1=>exact Kd.aV qk.out EH);rintro e U7 ⟨YU,rfl,ho0,hb⟩;refine ⟨_,rfl,?_⟩;have jO:=am (Kd.dF (Kd.aG (ok':=fun k_=>(w.heap.size≤k_)∧some k_≠(.slice ji jd.length jj:Value).ownBlock∧k_≠j9∧k_≠j5∧k_≠j3) ho0 (fun k_ hk_=>⟨(Nat.le_trans (aJ EH) hk_),(Kd.fresh' (Kd.iN (eO ((Kd.aG (Kd.aT (p:=⟨j3,2,none⟩) (Kd.aT (p:=⟨j3,1,none⟩) (Kd.aT (p:=⟨j3,0,none⟩) (Kd.aG jI.out (fun k_ hk=>(⟨hk,hk.2⟩:_∧k_≠j3))) (fun _ hk=>hk.2) (.int .i64 jJ)) (fun _ hk=>hk.2) (.int .i64 jH)) (fun _ hk=>hk.2) (.slice ji jd.length jj)) (fun _ h_=>h_.1))))) k_ hk_),(Kd.lH (g:=j9) (o:= .cells #[.int .i64 jc, .int .i64 jf, .slice (some jg) j6.length jk] 32 (0,0)) (bC (bC (bC j8.out jl.out _) jl.out _) jl.out _) k_ hk_),(Kd.lH (g:=j5) (o:= .cells #[.int .i64 0, .int .i64 0, .slice none 0 0] 32 (0,0)) (bC (bC (bC jb.out jm.out _) jm.out _) jm.out _) k_ hk_),(Kd.lH (g:=j3) (o:= .cells #[.int .i64 jJ, .int .i64 jH, .slice ji jd.length jj] 32 (0,0)) (aM (aM (aM j7.out 0 _ rfl) 1 _ rfl) 2 _ rfl) k_ hk_)⟩)) (aJ EH));replace jI:=am (Kd.eY (eO ((Kd.aG (Kd.aT (p:=⟨j3,2,none⟩) (Kd.aT (p:=⟨j3,1,none⟩) (Kd.aT (p:=⟨j3,0,none⟩) (Kd.aG jI.out (fun k_ hk=>(⟨hk,hk.2⟩:_∧k_≠j3))) (fun _ hk=>hk.2) (.int .i64 jJ)) (fun _ hk=>hk.2) (.int .i64 jH)) (fun _ hk=>hk.2) (.slice ji jd.length jj)) (fun _ h_=>h_.1)))) (by first|exact Kd.dD ho0|exact Kd.dD (Kd.R_N ho0)) hb);replace j8:=am (dR (g:=j9) (o:= .cells #[.int .i64 jc, .int .i64 jf, .slice (some jg) j6.length jk] 32 (0,0)) (bC (bC (bC j8.out jl.out _) jl.out _) jl.out _) hb);replace jb:=am (dR (g:=j5) (o:= .cells #[.int .i64 0, .int .i64 0, .slice none 0 0] 32 (0,0)) (bC (bC (bC jb.out jm.out _) jm.out _) jm.out _) hb);replace j7:=am (dR (g:=j3) (o:= .cells #[.int .i64 jJ, .int .i64 jH, .slice ji jd.length jj] 32 (0,0)) (aM (aM (aM j7.out 0 _ rfl) 1 _ rfl) 2 _ rfl) hb);replace HB:=am (aD EH hb);(try clear hb);(try clear ho0))|((with_reducible refine cZ (N:=4) rfl ?_);refine dO rfl (N:=4) rfl (cs:=#[.int .i64 0, .int .i64 0, .slice none 0 0]) (t:=32) rn_ ?_;intro j4 hg U8 hbox hb;replace jI:=am (Kd.dS (Kd.gU (aN_ jI.out) j4 (Nat.le_of_eq hg.symm)) hb);replace jO:=am (Kd.dS (Kd.gU (aN_ jO.out) j4 (Nat.le_of_eq hg.symm)) hb);have ja:=am (hbox);have ZQ:=am ((by rw [hg];exact (aJ EH):w.heap.size≤j4));have GE113:=am ((by rw [hg];exact (aJ EH):w.heap.size≤j4));replace HB:=am (aD EH hb);have jn:=am ((by rw [hg];exact Nat.ne_of_lt (gT (g:=j9) (o:= .cells #[.int .i64 jc, .int .i64 jf, .slice (some jg) j6.length jk] 32 (0,0)) (aG_ j8.out)):j9≠j4));have jD:=am ((by rw [hg];exact Nat.ne_of_gt (gT (g:=j9) (o:= .cells #[.int .i64 jc, .int .i64 jf, .slice (some jg) j6.length jk] 32 (0,0)) (aG_ j8.out)):j4≠j9));replace j8:=am (dR (g:=j9) (o:= .cells #[.int .i64 jc, .int .i64 jf, .slice (some jg) j6.length jk] 32 (0,0)) (aG_ j8.out) hb);have jo:=am ((by rw [hg];exact Nat.ne_of_lt (gT (g:=j5) (o:= .cells #[.int .i64 0, .int .i64 0, .slice none 0 0] 32 (0,0)) (aG_ jb.out)):j5≠j4));have jE:=am ((by rw [hg];exact Nat.ne_of_gt (gT (g:=j5) (o:= .cells #[.int .i64 0, .int .i64 0, .slice none 0 0] 32 (0,0)) (aG_ jb.out)):j4≠j5));replace jb:=am (dR (g:=j5) (o:= .cells #[.int .i64 0, .int .i64 0, .slice none 0 0] 32 (0,0)) (aG_ jb.out) hb);have je:=am ((by rw [hg];exact Nat.ne_of_lt (gT (g:=j3) (o:= .cells #[.int .i64 jJ, .int .i64 jH, .slice ji jd.length jj] 32 (0,0)) (aG_ j7.out)):j3≠j4));have jx:=am ((by rw [hg];exact Nat.ne_of_gt (gT (g:=j3) (o:= .cells #[.int .i64 jJ, .int .i64 jH, .slice ji jd.length jj] 32 (0,0)) (aG_ j7.out)):j4≠j3));replace j7:=am (dR (g:=j3) (o:= .cells #[.int .i64 jJ, .int .i64 jH, .slice ji jd.length jj] 32 (0,0)) (aG_ j7.out) hb);clear hb hbox hg;have ZR:=jD.out;have ZS:=jn.out;have ZT:=jE.out;have ZU:=jo.out;have ZV:=jx.out;have ZW:=je.out;obtain ⟨qm,qn,qo,qp,qq,qr⟩:=gF ja.out;obtain ⟨jr,js,ZC⟩:=Kd.dG jO.out;subst ZC))
   (try simp only [Act.put,List.setIfInBounds_toArray,List.set_cons_zero,List.set_cons_succ])
   go_cut [33] (fun YV wc=>∃ (kq:Nat) (jN:Bool),YV= .bool jN∧Aside0 (eF.j0 kq jN jc jf j6 jJ jH jd jM ju jh=some (r1,r2,r3))∧Aside0 (kq≤k)∧Aside0 (Kd.N k32 32 wc w.heap.size (fun k_=>(w.heap.size≤k_)∧some k_≠((.slice jr jh.length js):Value).ownBlock∧k_≠j9∧k_≠j5∧k_≠j3∧k_≠j4) (.slice ji jd.length jj) jd)∧Aside0 (Kd.N k32 32 wc w.heap.size (fun k_=>(w.heap.size≤k_)∧some k_≠((.slice ji jd.length jj):Value).ownBlock∧k_≠j9∧k_≠j5∧k_≠j3∧k_≠j4) (.slice jr jh.length js) jh)∧Aside0 (wc.heap[j9]?=some (.cells #[.int .i64 jc, .int .i64 jf,(.slice (some jg) j6.length jk)] 32 (0,0)))∧Aside0 (wc.heap[j5]?=some (.cells #[.int .i64 0, .int .i64 0,(.slice none 0 0)] 32 (0,0)))∧Aside0 (wc.heap[j3]?=some (.cells #[.int .i64 jJ, .int .i64 jH,(.slice ji jd.length jj)] 32 (0,0)))∧Aside0 (wc.heap[j4]?=some (.cells #[.int .i64 jM, .int .i64 ju,(.slice jr jh.length js)] 32 (0,0)))∧Aside0 (Below w.heap.size w wc))
   case first=>
    have H:=qx.out
    clear qx
    by_cases qC:jJ=0
    ·rw [if_pos qC] at H
     have jP:(jJ == 0)=true:=beq_iff_eq.mpr qC
     have z0:(jJ != 0)=false:=bne_eq_false_iff_eq.mpr qC
     clear qC
     (first|rw [jP]|(simp only [dN,dU];rw [jP])|skip)
     have H':=am H
     clear H
     have ZX:=jy.out
     have ZY:=jl.out
     have ZZ:=jz.out
     have Y0:=jm.out
     have Y1:=je.out
     have Y2:=jx.out
     obtain ⟨JM,JN,JO,JP,JQ,JR⟩:=gF j7.out
     have Y3:=jD.out
     have Y4:=jn.out
     have Y5:=jE.out
     have Y6:=jo.out
     obtain ⟨JS,JT,JU,JV,JW,JX⟩:=gF ja.out
     go_wp2
     go_meet
     case rel=>exact ⟨_,((jM == 0)),sd_,H',⟨by first|omega|exact Nat.le_refl _⟩,⟨eO (Kd.aG (Kd.aT (p:=⟨j4,2,none⟩) (Kd.aT (p:=⟨j4,1,none⟩) (Kd.aT (p:=⟨j4,0,none⟩) (Kd.aG jI.out (fun k_ hk=>(⟨hk,hk.2⟩:_∧k_≠j4))) (fun _ hk=>hk.2) (.int .i64 jM)) (fun _ hk=>hk.2) (.int .i64 ju)) (fun _ hk=>hk.2) (.slice jr jh.length js)) (fun _ hk=>⟨hk.1.1.1.1.1,⟨hk.1.1.2,⟨hk.1.1.1.1.2.1,⟨hk.1.1.1.1.2.2,⟨hk.1.1.1.2,hk.1.2⟩⟩⟩⟩⟩))⟩,⟨eO (Kd.aG (Kd.aT (p:=⟨j4,2,none⟩) (Kd.aT (p:=⟨j4,1,none⟩) (Kd.aT (p:=⟨j4,0,none⟩) (Kd.aG jO.out (fun k_ hk=>(⟨hk,hk.2⟩:_∧k_≠j4))) (fun _ hk=>hk.2) (.int .i64 jM)) (fun _ hk=>hk.2) (.int .i64 ju)) (fun _ hk=>hk.2) (.slice jr jh.length js)) (fun _ hk=>⟨hk.1.1.1,⟨hk.1.1.2.1,⟨hk.1.1.2.2.1,⟨hk.1.1.2.2.2.1,⟨hk.1.1.2.2.2.2,hk.1.2⟩⟩⟩⟩⟩))⟩,⟨(bC (bC (bC j8.out jn.out _) jn.out _) jn.out _)⟩,⟨(bC (bC (bC jb.out jo.out _) jo.out _) jo.out _)⟩,⟨(bC (bC (bC j7.out je.out _) je.out _) je.out _)⟩,⟨(aM (aM (aM ja.out 0 _ rfl) 1 _ rfl) 2 _ rfl)⟩,⟨rO⟩⟩
    rw [if_neg qC] at H
    have jP:(jJ == 0)=false:=beq_eq_false_iff_ne.mpr qC
    have z0:(jJ != 0)=true:=bne_iff_ne.mpr qC
    (first|rw [jP]|(simp only [dN,dU];rw [jP])|skip)
    have H':=am H
    clear H
    have Y7:=jy.out
    have Y8:=jl.out
    have Y9:=jz.out
    have Ya:=jm.out
    have Yb:=je.out
    have Yc:=jx.out
    obtain ⟨JY,JZ,Q0,Q1,Q2,Q3⟩:=gF j7.out
    go_wp2
    go_meet
    case rel=>exact ⟨_,(false),sd_,H',⟨by first|omega|exact Nat.le_refl _⟩,⟨eO (Kd.aG (Kd.aT (p:=⟨j4,2,none⟩) (Kd.aT (p:=⟨j4,1,none⟩) (Kd.aT (p:=⟨j4,0,none⟩) (Kd.aG jI.out (fun k_ hk=>(⟨hk,hk.2⟩:_∧k_≠j4))) (fun _ hk=>hk.2) (.int .i64 jM)) (fun _ hk=>hk.2) (.int .i64 ju)) (fun _ hk=>hk.2) (.slice jr jh.length js)) (fun _ hk=>⟨hk.1.1.1.1.1,⟨hk.1.1.2,⟨hk.1.1.1.1.2.1,⟨hk.1.1.1.1.2.2,⟨hk.1.1.1.2,hk.1.2⟩⟩⟩⟩⟩))⟩,⟨eO (Kd.aG (Kd.aT (p:=⟨j4,2,none⟩) (Kd.aT (p:=⟨j4,1,none⟩) (Kd.aT (p:=⟨j4,0,none⟩) (Kd.aG jO.out (fun k_ hk=>(⟨hk,hk.2⟩:_∧k_≠j4))) (fun _ hk=>hk.2) (.int .i64 jM)) (fun _ hk=>hk.2) (.int .i64 ju)) (fun _ hk=>hk.2) (.slice jr jh.length js)) (fun _ hk=>⟨hk.1.1.1,⟨hk.1.1.2.1,⟨hk.1.1.2.2.1,⟨hk.1.1.2.2.2.1,⟨hk.1.1.2.2.2.2,hk.1.2⟩⟩⟩⟩⟩))⟩,⟨(bC (bC (bC j8.out jn.out _) jn.out _) jn.out _)⟩,⟨(bC (bC (bC jb.out jo.out _) jo.out _) jo.out _)⟩,⟨(bC (bC (bC j7.out je.out _) je.out _) je.out _)⟩,⟨(aM (aM (aM ja.out 0 _ rfl) 1 _ rfl) 2 _ rfl)⟩,⟨rO⟩⟩
   case rest=>
    clear qx
    try clear c2
    try clear qM
    try clear qN
    try clear Zy
    try clear qR
    try clear qS
    try clear qT
    try clear qV
    try clear qW
    try clear qX
    try clear jU
    try clear jV
    try clear jW
    try clear q4
    try clear q5
    try clear q6
    try clear qa
    try clear qb
    try clear qc
    try clear qm
    try clear qn
    try clear qo
    try clear jX
    try clear jY
    try clear jZ
    try clear q7
    try clear q8
    try clear q9
    try clear qd
    try clear qe
    try clear qf
    try clear qp
    try clear qq
    try clear qr
    try clear jA
    try clear jB
    try clear jC
    try clear jt
    try clear jv
    try clear jw
    try clear q0
    try clear qg
    try clear q1
    try clear qh
    obtain ⟨kq,jN,rfl,HA,HJ14,jp,jq,j8,jb,j7,ja,HB⟩:=hcut
    cases kq with
    |zero=>exact absurd HA.out (by simp [eF.j0])
    |succ z1=>
     have H:=HA.out
     clear HA
     simp only [eF.j0] at H
     by_cases Q4:jN=true
     ·subst Q4
      rw [if_pos rfl] at H
      obtain ⟨⟨jQ,z2⟩,z3,H⟩:=bsm H
      (try dsimp only at H)
      have Yd:=am z3
      clear z3
      obtain ⟨ZD,z4,H⟩:=bsm H
      (try dsimp only at H)
      have Ye:=am z4
      clear z4
      by_cases Q5:ZD=true
      ·subst Q5
       rw [if_pos rfl] at H
       obtain ⟨⟨qD,qE,qF⟩,z5,H⟩:=bsm H
       (try dsimp only at H)
       have YW:=am z5
       clear z5
       simp only [Option.some.injEq,Prod.mk.injEq] at H
       obtain ⟨rfl,rfl,rfl⟩:=H
       have Yf:=jF.out
       have Yg:=jG.out
       have Yh:=jl.out
       have Yi:=jy.out
       have Yj:=jn.out
       have Yk:=jD.out
       obtain ⟨Q6,Q7,Q8,Q9,Qa,Qb⟩:=gF j8.out
       have Yl:=jz.out
       have Ym:=jm.out
       have Yn:=je.out
       have Yo:=jx.out
       obtain ⟨Qc,Qd,Qe,Qf,Qg,Qh⟩:=gF j7.out
       have Yp:=jE.out
       have Yq:=jo.out
       obtain ⟨Qi,Qj,Qk,Ql,Qm,Qn⟩:=gF ja.out
       go_wp2_with (first|((with_reducible refine aN (f:=112) rfl ?_);refine gl_ 41 Try.func112 #[.int .i64 jc, .int .i64 jH, .int .i64 ju] ?_;(with_reducible refine (fT.calls z1 jc jH ju jQ z2 _ Yd.out).mono ?_);rintro e w' ⟨rfl,⟨nd,rfl⟩⟩;refine ⟨_,rfl,?_⟩;(try (rw [oU wc];generalize hq_:World.drewN wc _=wc;replace jp:Aside0 (Kd.N k32 32 wc w.heap.size (fun k_=>(w.heap.size≤k_)∧some k_≠(.slice jr jh.length js:Value).ownBlock∧k_≠j9∧k_≠j5∧k_≠j3∧k_≠j4) (.slice ji jd.length jj) jd):=⟨by rw [← hq_];exact (aN_ jp.out)⟩;replace jq:Aside0 (Kd.N k32 32 wc w.heap.size (fun k_=>(w.heap.size≤k_)∧some k_≠(.slice ji jd.length jj:Value).ownBlock∧k_≠j9∧k_≠j5∧k_≠j3∧k_≠j4) (.slice jr jh.length js) jh):=⟨by rw [← hq_];exact (aN_ jq.out)⟩;replace j8:Aside0 (wc.heap[j9]?=some (.cells #[.int .i64 jc, .int .i64 jf, .slice (some jg) j6.length jk] 32 (0,0))):=⟨by rw [← hq_];exact (aG_ j8.out)⟩;replace jb:Aside0 (wc.heap[j5]?=some (.cells #[.int .i64 0, .int .i64 0, .slice none 0 0] 32 (0,0))):=⟨by rw [← hq_];exact (aG_ jb.out)⟩;replace j7:Aside0 (wc.heap[j3]?=some (.cells #[.int .i64 jJ, .int .i64 jH, .slice ji jd.length jj] 32 (0,0))):=⟨by rw [← hq_];exact (aG_ j7.out)⟩;replace ja:Aside0 (wc.heap[j4]?=some (.cells #[.int .i64 jM, .int .i64 ju, .slice jr jh.length js] 32 (0,0))):=⟨by rw [← hq_];exact (aG_ ja.out)⟩;replace HB:Aside0 (Below w.heap.size w wc):=⟨by rw [← hq_];exact rO⟩;clear hq_;obtain ⟨z6,z7⟩:=mM j8.out;have z8:wc.cell? ⟨j9,1,none⟩=some (.int .i64 jf):=(aC j8.out 1).trans rfl;have z9:=aU j8.out 1;have za:wc.cell? ⟨j9,2,none⟩=some (.slice (some jg) j6.length jk):=(aC j8.out 2).trans rfl;have zb:=aU j8.out 2;obtain ⟨zc,zd⟩:=mM jb.out;have ze:wc.cell? ⟨j5,1,none⟩=some (.int .i64 0):=(aC jb.out 1).trans rfl;have zf:=aU jb.out 1;have zg:wc.cell? ⟨j5,2,none⟩=some (.slice none 0 0):=(aC jb.out 2).trans rfl;have zh:=aU jb.out 2;obtain ⟨zi,zj⟩:=mM j7.out;have zk:wc.cell? ⟨j3,1,none⟩=some (.int .i64 jH):=(aC j7.out 1).trans rfl;have zl:=aU j7.out 1;have zm:wc.cell? ⟨j3,2,none⟩=some (.slice ji jd.length jj):=(aC j7.out 2).trans rfl;have zn:=aU j7.out 2;obtain ⟨zo,zp⟩:=mM ja.out;have zq:wc.cell? ⟨j4,1,none⟩=some (.int .i64 ju):=(aC ja.out 1).trans rfl;have zr:=aU ja.out 1;have zs:wc.cell? ⟨j4,2,none⟩=some (.slice jr jh.length js):=(aC ja.out 2).trans rfl;have zt:=aU ja.out 2)))|((with_reducible refine aN (f:=88) rfl ?_);refine gl_ 45 Try.func88 #[.int .i64 jQ, .int .i64 0, .int .i64 99999] ?_;(with_reducible refine (gB.calls jQ 0 99999 true _ Ye.out).mono ?_);rintro e w' ⟨rfl,⟨nd,rfl⟩⟩;refine ⟨_,rfl,?_⟩;(try (rw [oU wc];generalize hq_:World.drewN wc _=wc;replace jp:Aside0 (Kd.N k32 32 wc w.heap.size (fun k_=>(w.heap.size≤k_)∧some k_≠(.slice jr jh.length js:Value).ownBlock∧k_≠j9∧k_≠j5∧k_≠j3∧k_≠j4) (.slice ji jd.length jj) jd):=⟨by rw [← hq_];exact (aN_ jp.out)⟩;replace jq:Aside0 (Kd.N k32 32 wc w.heap.size (fun k_=>(w.heap.size≤k_)∧some k_≠(.slice ji jd.length jj:Value).ownBlock∧k_≠j9∧k_≠j5∧k_≠j3∧k_≠j4) (.slice jr jh.length js) jh):=⟨by rw [← hq_];exact (aN_ jq.out)⟩;replace j8:Aside0 (wc.heap[j9]?=some (.cells #[.int .i64 jc, .int .i64 jf, .slice (some jg) j6.length jk] 32 (0,0))):=⟨by rw [← hq_];exact (aG_ j8.out)⟩;replace jb:Aside0 (wc.heap[j5]?=some (.cells #[.int .i64 0, .int .i64 0, .slice none 0 0] 32 (0,0))):=⟨by rw [← hq_];exact (aG_ jb.out)⟩;replace j7:Aside0 (wc.heap[j3]?=some (.cells #[.int .i64 jJ, .int .i64 jH, .slice ji jd.length jj] 32 (0,0))):=⟨by rw [← hq_];exact (aG_ j7.out)⟩;replace ja:Aside0 (wc.heap[j4]?=some (.cells #[.int .i64 jM, .int .i64 ju, .slice jr jh.length js] 32 (0,0))):=⟨by rw [← hq_];exact (aG_ ja.out)⟩;replace HB:Aside0 (Below w.heap.size w wc):=⟨by rw [← hq_];exact rO⟩;clear hq_;obtain ⟨zu,zv⟩:=mM j8.out;have zw:wc.cell? ⟨j9,1,none⟩=some (.int .i64 jf):=(aC j8.out 1).trans rfl;have zx:=aU j8.out 1;have zy:wc.cell? ⟨j9,2,none⟩=some (.slice (some jg) j6.length jk):=(aC j8.out 2).trans rfl;have zz:=aU j8.out 2;obtain ⟨zA,zB⟩:=mM jb.out;have zC:wc.cell? ⟨j5,1,none⟩=some (.int .i64 0):=(aC jb.out 1).trans rfl;have zD:=aU jb.out 1;have zE:wc.cell? ⟨j5,2,none⟩=some (.slice none 0 0):=(aC jb.out 2).trans rfl;have zF:=aU jb.out 2;obtain ⟨zG,zH⟩:=mM j7.out;have zI:wc.cell? ⟨j3,1,none⟩=some (.int .i64 jH):=(aC j7.out 1).trans rfl;have zJ:=aU j7.out 1;have zK:wc.cell? ⟨j3,2,none⟩=some (.slice ji jd.length jj):=(aC j7.out 2).trans rfl;have zL:=aU j7.out 2;obtain ⟨zM,zN⟩:=mM ja.out;have zO:wc.cell? ⟨j4,1,none⟩=some (.int .i64 ju):=(aC ja.out 1).trans rfl;have zP:=aU ja.out 1;have zQ:wc.cell? ⟨j4,2,none⟩=some (.slice jr jh.length js):=(aC ja.out 2).trans rfl;have zR:=aU ja.out 2)))|((with_reducible refine aN (f:=45) rfl ?_);refine gl_ 47 Try.func45 #[.int .i64 0, .int .i64 jQ] ?_;(with_reducible refine (fG.calls 0 jQ qD qE qF _ YW.out).mono ?_);rintro e U9 ⟨YX,rfl,ho0,hb⟩;refine ⟨_,rfl,?_⟩;have qt:=am (Kd.dF (Kd.aG (ok':=fun k_=>(w.heap.size≤k_)∧some k_≠(.slice ji jd.length jj:Value).ownBlock∧some k_≠(.slice jr jh.length js:Value).ownBlock∧k_≠j9∧k_≠j5∧k_≠j3∧k_≠j4) (Kd.R_N (Kd.mP ho0)) (fun k_ hk_=>⟨(Nat.le_trans (aJ rO) hk_.2.1),(Kd.fresh' (Kd.iN (aN_ jp.out)) k_ hk_.2.1),(Kd.fresh' (Kd.iN (aN_ jq.out)) k_ hk_.2.1),(Kd.lH (g:=j9) (o:= .cells #[.int .i64 jc, .int .i64 jf, .slice (some jg) j6.length jk] 32 (0,0)) (aG_ j8.out) k_ hk_.2.1),(Kd.lH (g:=j5) (o:= .cells #[.int .i64 0, .int .i64 0, .slice none 0 0] 32 (0,0)) (aG_ jb.out) k_ hk_.2.1),(Kd.lH (g:=j3) (o:= .cells #[.int .i64 jJ, .int .i64 jH, .slice ji jd.length jj] 32 (0,0)) (aG_ j7.out) k_ hk_.2.1),(Kd.lH (g:=j4) (o:= .cells #[.int .i64 jM, .int .i64 ju, .slice jr jh.length js] 32 (0,0)) (aG_ ja.out) k_ hk_.2.1)⟩)) (aJ rO));replace jp:=am (Kd.eY (aN_ jp.out) (by first|exact Kd.dD ho0|exact Kd.dD (Kd.R_N ho0)) hb);replace jq:=am (Kd.eY (aN_ jq.out) (by first|exact Kd.dD ho0|exact Kd.dD (Kd.R_N ho0)) hb);replace j8:=am (dR (g:=j9) (o:= .cells #[.int .i64 jc, .int .i64 jf, .slice (some jg) j6.length jk] 32 (0,0)) (aG_ j8.out) hb);replace jb:=am (dR (g:=j5) (o:= .cells #[.int .i64 0, .int .i64 0, .slice none 0 0] 32 (0,0)) (aG_ jb.out) hb);replace j7:=am (dR (g:=j3) (o:= .cells #[.int .i64 jJ, .int .i64 jH, .slice ji jd.length jj] 32 (0,0)) (aG_ j7.out) hb);replace ja:=am (dR (g:=j4) (o:= .cells #[.int .i64 jM, .int .i64 ju, .slice jr jh.length js] 32 (0,0)) (aG_ ja.out) hb);replace HB:=am (aD rO hb);(try clear hb);(try clear ho0);obtain ⟨Qo,Qp,Qq,Qr,Qs,Qt⟩:=gF jb.out;obtain ⟨zS,zT,ZE⟩:=Kd.dG qt.out;subst ZE))
       refine bodyPost_ret (results_cell_row rfl _ _ j5 32 #[.int .i64 qD, .int .i64 qE, .slice zS qF.length zT] (0,0) _ rfl (aM (aM (aM jb.out 0 _ rfl) 1 _ rfl) 2 _ rfl) Try.underlying32 rfl (by kernel_rfl)) rfl ?_
       exact ⟨_,iI,eO (Kd.aG (Kd.aT (p:=⟨j5,2,none⟩) (Kd.aT (p:=⟨j5,1,none⟩) (Kd.aT (p:=⟨j5,0,none⟩) (Kd.aG qt.out (fun k_ hk=>(⟨hk,hk.2.2.2.2.1⟩:_∧k_≠j5))) (fun _ hk=>hk.2) (.int .i64 qD)) (fun _ hk=>hk.2) (.int .i64 qE)) (fun _ hk=>hk.2) (.slice zS qF.length zT)) (fun _ hk=>hk.1.1)),rO⟩
      replace Q5:=Bool.eq_false_iff.mpr Q5
      subst Q5
      rw [if_neg (show ¬ (false=true) by decide)] at H
      obtain ⟨⟨qG,qH,qI⟩,zU,H⟩:=bsm H
      (try dsimp only at H)
      have YY:=am zU
      clear zU
      simp only [Option.some.injEq,Prod.mk.injEq] at H
      obtain ⟨rfl,rfl,rfl⟩:=H
      have Yr:=jF.out
      have Ys:=jG.out
      have Yt:=jl.out
      have Yu:=jy.out
      have Yv:=jn.out
      have Yw:=jD.out
      obtain ⟨Qu,Qv,Qw,Qx,Qy,Qz⟩:=gF j8.out
      have Yx:=jz.out
      have Yy:=jm.out
      have Yz:=je.out
      have YA:=jx.out
      obtain ⟨QA,QB,QC,QD,QE,QF⟩:=gF j7.out
      have YB:=jE.out
      have YC:=jo.out
      obtain ⟨QG,QH,QI,QJ,QK,QL⟩:=gF ja.out
      go_wp2_with (first|((with_reducible refine aN (f:=112) rfl ?_);refine gl_ 41 Try.func112 #[.int .i64 jc, .int .i64 jH, .int .i64 ju] ?_;(with_reducible refine (fT.calls z1 jc jH ju jQ z2 _ Yd.out).mono ?_);rintro e w' ⟨rfl,⟨nd,rfl⟩⟩;refine ⟨_,rfl,?_⟩;(try (rw [oU wc];generalize hq_:World.drewN wc _=wc;replace jp:Aside0 (Kd.N k32 32 wc w.heap.size (fun k_=>(w.heap.size≤k_)∧some k_≠(.slice jr jh.length js:Value).ownBlock∧k_≠j9∧k_≠j5∧k_≠j3∧k_≠j4) (.slice ji jd.length jj) jd):=⟨by rw [← hq_];exact (aN_ jp.out)⟩;replace jq:Aside0 (Kd.N k32 32 wc w.heap.size (fun k_=>(w.heap.size≤k_)∧some k_≠(.slice ji jd.length jj:Value).ownBlock∧k_≠j9∧k_≠j5∧k_≠j3∧k_≠j4) (.slice jr jh.length js) jh):=⟨by rw [← hq_];exact (aN_ jq.out)⟩;replace j8:Aside0 (wc.heap[j9]?=some (.cells #[.int .i64 jc, .int .i64 jf, .slice (some jg) j6.length jk] 32 (0,0))):=⟨by rw [← hq_];exact (aG_ j8.out)⟩;replace jb:Aside0 (wc.heap[j5]?=some (.cells #[.int .i64 0, .int .i64 0, .slice none 0 0] 32 (0,0))):=⟨by rw [← hq_];exact (aG_ jb.out)⟩;replace j7:Aside0 (wc.heap[j3]?=some (.cells #[.int .i64 jJ, .int .i64 jH, .slice ji jd.length jj] 32 (0,0))):=⟨by rw [← hq_];exact (aG_ j7.out)⟩;replace ja:Aside0 (wc.heap[j4]?=some (.cells #[.int .i64 jM, .int .i64 ju, .slice jr jh.length js] 32 (0,0))):=⟨by rw [← hq_];exact (aG_ ja.out)⟩;replace HB:Aside0 (Below w.heap.size w wc):=⟨by rw [← hq_];exact rO⟩;clear hq_;obtain ⟨zV,zW⟩:=mM j8.out;have zX:wc.cell? ⟨j9,1,none⟩=some (.int .i64 jf):=(aC j8.out 1).trans rfl;have zY:=aU j8.out 1;have zZ:wc.cell? ⟨j9,2,none⟩=some (.slice (some jg) j6.length jk):=(aC j8.out 2).trans rfl;have J0:=aU j8.out 2;obtain ⟨J1,J2⟩:=mM jb.out;have J3:wc.cell? ⟨j5,1,none⟩=some (.int .i64 0):=(aC jb.out 1).trans rfl;have J4:=aU jb.out 1;have J5:wc.cell? ⟨j5,2,none⟩=some (.slice none 0 0):=(aC jb.out 2).trans rfl;have J6:=aU jb.out 2;obtain ⟨J7,J8⟩:=mM j7.out;have J9:wc.cell? ⟨j3,1,none⟩=some (.int .i64 jH):=(aC j7.out 1).trans rfl;have Ja:=aU j7.out 1;have Jb:wc.cell? ⟨j3,2,none⟩=some (.slice ji jd.length jj):=(aC j7.out 2).trans rfl;have Jc:=aU j7.out 2;obtain ⟨Jd,Je⟩:=mM ja.out;have Jf:wc.cell? ⟨j4,1,none⟩=some (.int .i64 ju):=(aC ja.out 1).trans rfl;have Jg:=aU ja.out 1;have Jh:wc.cell? ⟨j4,2,none⟩=some (.slice jr jh.length js):=(aC ja.out 2).trans rfl;have Ji:=aU ja.out 2)))|((with_reducible refine aN (f:=88) rfl ?_);refine gl_ 45 Try.func88 #[.int .i64 jQ, .int .i64 0, .int .i64 99999] ?_;(with_reducible refine (gB.calls jQ 0 99999 false _ Ye.out).mono ?_);rintro e w' ⟨rfl,⟨nd,rfl⟩⟩;refine ⟨_,rfl,?_⟩;(try (rw [oU wc];generalize hq_:World.drewN wc _=wc;replace jp:Aside0 (Kd.N k32 32 wc w.heap.size (fun k_=>(w.heap.size≤k_)∧some k_≠(.slice jr jh.length js:Value).ownBlock∧k_≠j9∧k_≠j5∧k_≠j3∧k_≠j4) (.slice ji jd.length jj) jd):=⟨by rw [← hq_];exact (aN_ jp.out)⟩;replace jq:Aside0 (Kd.N k32 32 wc w.heap.size (fun k_=>(w.heap.size≤k_)∧some k_≠(.slice ji jd.length jj:Value).ownBlock∧k_≠j9∧k_≠j5∧k_≠j3∧k_≠j4) (.slice jr jh.length js) jh):=⟨by rw [← hq_];exact (aN_ jq.out)⟩;replace j8:Aside0 (wc.heap[j9]?=some (.cells #[.int .i64 jc, .int .i64 jf, .slice (some jg) j6.length jk] 32 (0,0))):=⟨by rw [← hq_];exact (aG_ j8.out)⟩;replace jb:Aside0 (wc.heap[j5]?=some (.cells #[.int .i64 0, .int .i64 0, .slice none 0 0] 32 (0,0))):=⟨by rw [← hq_];exact (aG_ jb.out)⟩;replace j7:Aside0 (wc.heap[j3]?=some (.cells #[.int .i64 jJ, .int .i64 jH, .slice ji jd.length jj] 32 (0,0))):=⟨by rw [← hq_];exact (aG_ j7.out)⟩;replace ja:Aside0 (wc.heap[j4]?=some (.cells #[.int .i64 jM, .int .i64 ju, .slice jr jh.length js] 32 (0,0))):=⟨by rw [← hq_];exact (aG_ ja.out)⟩;replace HB:Aside0 (Below w.heap.size w wc):=⟨by rw [← hq_];exact rO⟩;clear hq_;obtain ⟨Jj,Jk⟩:=mM j8.out;have Jl:wc.cell? ⟨j9,1,none⟩=some (.int .i64 jf):=(aC j8.out 1).trans rfl;have Jm:=aU j8.out 1;have Jn:wc.cell? ⟨j9,2,none⟩=some (.slice (some jg) j6.length jk):=(aC j8.out 2).trans rfl;have Jo:=aU j8.out 2;obtain ⟨Jp,Jq⟩:=mM jb.out;have Jr:wc.cell? ⟨j5,1,none⟩=some (.int .i64 0):=(aC jb.out 1).trans rfl;have Js:=aU jb.out 1;have Jt:wc.cell? ⟨j5,2,none⟩=some (.slice none 0 0):=(aC jb.out 2).trans rfl;have Ju:=aU jb.out 2;obtain ⟨Jv,Jw⟩:=mM j7.out;have Jx:wc.cell? ⟨j3,1,none⟩=some (.int .i64 jH):=(aC j7.out 1).trans rfl;have Jy:=aU j7.out 1;have Jz:wc.cell? ⟨j3,2,none⟩=some (.slice ji jd.length jj):=(aC j7.out 2).trans rfl;have JA:=aU j7.out 2;obtain ⟨JB,JC⟩:=mM ja.out;have JD:wc.cell? ⟨j4,1,none⟩=some (.int .i64 ju):=(aC ja.out 1).trans rfl;have JE:=aU ja.out 1;have JF:wc.cell? ⟨j4,2,none⟩=some (.slice jr jh.length js):=(aC ja.out 2).trans rfl;have JG:=aU ja.out 2)))|((with_reducible refine aN (f:=43) rfl ?_);refine gl_ 52 Try.func43 #[.int .i64 jc, .agg #[.int .i64 jJ, .int .i64 jH, .slice ji jd.length jj], .agg #[.int .i64 jM, .int .i64 ju, .slice jr jh.length js]] ?_;(with_reducible refine (iZ.calls jc jJ jH (fun k_=>((w.heap.size≤k_)∧(some k_≠(.slice jr jh.length js:Value).ownBlock∧(k_≠j9∧(k_≠j5∧(k_≠j3∧k_≠j4)))))) _ _ jd jM ju (fun k_=>((w.heap.size≤k_)∧(some k_≠(.slice ji jd.length jj:Value).ownBlock∧(k_≠j9∧(k_≠j5∧(k_≠j3∧k_≠j4)))))) _ _ jh qG qH qI _ ?side1 ?side2 YY.out).mono ?_);(case side1=>exact Kd.N_V (jp.out));(case side2=>exact Kd.N_V (jq.out));rintro e Ua ⟨YZ,rfl,ho0,hb⟩;refine ⟨_,rfl,?_⟩;replace jp:=am (Kd.eY (aN_ jp.out) (by first|exact Kd.dD ho0|exact Kd.dD (Kd.R_N ho0)) hb);replace jq:=am (Kd.eY (aN_ jq.out) (by first|exact Kd.dD ho0|exact Kd.dD (Kd.R_N ho0)) hb);have qu:=am (Kd.dF (Kd.aG (ok':=fun k_=>(w.heap.size≤k_)∧k_≠j9∧k_≠j5∧k_≠j3∧k_≠j4) ho0 (fun k_ hk_=>⟨Or.elim hk_ (fun hs_=>Or.elim hs_ (fun hs_=>hs_.1) (fun hs_=>hs_.1)) (fun hn_=>(Nat.le_trans (aJ rO) hn_)),Or.elim hk_ (fun hs_=>Or.elim hs_ (fun hs_=>hs_.2.2.1) (fun hs_=>hs_.2.2.1)) (fun hn_=>(Kd.lH (g:=j9) (o:= .cells #[.int .i64 jc, .int .i64 jf, .slice (some jg) j6.length jk] 32 (0,0)) (aG_ j8.out) k_ hn_)),Or.elim hk_ (fun hs_=>Or.elim hs_ (fun hs_=>hs_.2.2.2.1) (fun hs_=>hs_.2.2.2.1)) (fun hn_=>(Kd.lH (g:=j5) (o:= .cells #[.int .i64 0, .int .i64 0, .slice none 0 0] 32 (0,0)) (aG_ jb.out) k_ hn_)),Or.elim hk_ (fun hs_=>Or.elim hs_ (fun hs_=>hs_.2.2.2.2.1) (fun hs_=>hs_.2.2.2.2.1)) (fun hn_=>(Kd.lH (g:=j3) (o:= .cells #[.int .i64 jJ, .int .i64 jH, .slice ji jd.length jj] 32 (0,0)) (aG_ j7.out) k_ hn_)),Or.elim hk_ (fun hs_=>Or.elim hs_ (fun hs_=>hs_.2.2.2.2.2) (fun hs_=>hs_.2.2.2.2.2)) (fun hn_=>(Kd.lH (g:=j4) (o:= .cells #[.int .i64 jM, .int .i64 ju, .slice jr jh.length js] 32 (0,0)) (aG_ ja.out) k_ hn_))⟩)) (aJ rO));replace j8:=am (dR (g:=j9) (o:= .cells #[.int .i64 jc, .int .i64 jf, .slice (some jg) j6.length jk] 32 (0,0)) (aG_ j8.out) hb);replace jb:=am (dR (g:=j5) (o:= .cells #[.int .i64 0, .int .i64 0, .slice none 0 0] 32 (0,0)) (aG_ jb.out) hb);replace j7:=am (dR (g:=j3) (o:= .cells #[.int .i64 jJ, .int .i64 jH, .slice ji jd.length jj] 32 (0,0)) (aG_ j7.out) hb);replace ja:=am (dR (g:=j4) (o:= .cells #[.int .i64 jM, .int .i64 ju, .slice jr jh.length js] 32 (0,0)) (aG_ ja.out) hb);replace HB:=am (aD rO hb);(try clear hb);(try clear ho0);obtain ⟨QM,QN,QO,QP,QQ,QR⟩:=gF jb.out;obtain ⟨JH,JI,ZF⟩:=Kd.dG qu.out;subst ZF))
      refine bodyPost_ret (results_cell_row rfl _ _ j5 32 #[.int .i64 qG, .int .i64 qH, .slice JH qI.length JI] (0,0) _ rfl (aM (aM (aM jb.out 0 _ rfl) 1 _ rfl) 2 _ rfl) Try.underlying32 rfl (by kernel_rfl)) rfl ?_
      exact ⟨_,iI,eO (Kd.aG (Kd.aT (p:=⟨j5,2,none⟩) (Kd.aT (p:=⟨j5,1,none⟩) (Kd.aT (p:=⟨j5,0,none⟩) (Kd.aG qu.out (fun k_ hk=>(⟨hk,hk.2.2.1⟩:_∧k_≠j5))) (fun _ hk=>hk.2) (.int .i64 qG)) (fun _ hk=>hk.2) (.int .i64 qH)) (fun _ hk=>hk.2) (.slice JH qI.length JI)) (fun _ hk=>hk.1.1)),rO⟩
     replace Q4:=Bool.eq_false_iff.mpr Q4
     subst Q4
     rw [if_neg (show ¬ (false=true) by decide)] at H
     obtain ⟨⟨qJ,qK,qL⟩,JJ,H⟩:=bsm H
     (try dsimp only at H)
     have U0:=am JJ
     clear JJ
     simp only [Option.some.injEq,Prod.mk.injEq] at H
     obtain ⟨rfl,rfl,rfl⟩:=H
     have YD:=jF.out
     have YE:=jG.out
     have YF:=jl.out
     have YG:=jy.out
     have YH:=jn.out
     have YI:=jD.out
     obtain ⟨QS,QT,QU,QV,QW,QX⟩:=gF j8.out
     have YJ:=jz.out
     have YK:=jm.out
     have YL:=je.out
     have YM:=jx.out
     obtain ⟨QY,QZ,Z0,Z1,Z2,Z3⟩:=gF j7.out
     have YN:=jE.out
     have YO:=jo.out
     obtain ⟨Z4,Z5,Z6,Z7,Z8,Z9⟩:=gF ja.out
     go_wp2_with (first|((with_reducible refine aN (f:=43) rfl ?_);refine gl_ 52 Try.func43 #[.int .i64 jc, .agg #[.int .i64 jJ, .int .i64 jH, .slice ji jd.length jj], .agg #[.int .i64 jM, .int .i64 ju, .slice jr jh.length js]] ?_;(with_reducible refine (iZ.calls jc jJ jH (fun k_=>((w.heap.size≤k_)∧(some k_≠(.slice jr jh.length js:Value).ownBlock∧(k_≠j9∧(k_≠j5∧(k_≠j3∧k_≠j4)))))) _ _ jd jM ju (fun k_=>((w.heap.size≤k_)∧(some k_≠(.slice ji jd.length jj:Value).ownBlock∧(k_≠j9∧(k_≠j5∧(k_≠j3∧k_≠j4)))))) _ _ jh qJ qK qL _ ?side1 ?side2 U0.out).mono ?_);(case side1=>exact Kd.N_V (jp.out));(case side2=>exact Kd.N_V (jq.out));rintro e Ub ⟨U1,rfl,ho0,hb⟩;refine ⟨_,rfl,?_⟩;replace jp:=am (Kd.eY (aN_ jp.out) (by first|exact Kd.dD ho0|exact Kd.dD (Kd.R_N ho0)) hb);replace jq:=am (Kd.eY (aN_ jq.out) (by first|exact Kd.dD ho0|exact Kd.dD (Kd.R_N ho0)) hb);have qv:=am (Kd.dF (Kd.aG (ok':=fun k_=>(w.heap.size≤k_)∧k_≠j9∧k_≠j5∧k_≠j3∧k_≠j4) ho0 (fun k_ hk_=>⟨Or.elim hk_ (fun hs_=>Or.elim hs_ (fun hs_=>hs_.1) (fun hs_=>hs_.1)) (fun hn_=>(Nat.le_trans (aJ rO) hn_)),Or.elim hk_ (fun hs_=>Or.elim hs_ (fun hs_=>hs_.2.2.1) (fun hs_=>hs_.2.2.1)) (fun hn_=>(Kd.lH (g:=j9) (o:= .cells #[.int .i64 jc, .int .i64 jf, .slice (some jg) j6.length jk] 32 (0,0)) (aG_ j8.out) k_ hn_)),Or.elim hk_ (fun hs_=>Or.elim hs_ (fun hs_=>hs_.2.2.2.1) (fun hs_=>hs_.2.2.2.1)) (fun hn_=>(Kd.lH (g:=j5) (o:= .cells #[.int .i64 0, .int .i64 0, .slice none 0 0] 32 (0,0)) (aG_ jb.out) k_ hn_)),Or.elim hk_ (fun hs_=>Or.elim hs_ (fun hs_=>hs_.2.2.2.2.1) (fun hs_=>hs_.2.2.2.2.1)) (fun hn_=>(Kd.lH (g:=j3) (o:= .cells #[.int .i64 jJ, .int .i64 jH, .slice ji jd.length jj] 32 (0,0)) (aG_ j7.out) k_ hn_)),Or.elim hk_ (fun hs_=>Or.elim hs_ (fun hs_=>hs_.2.2.2.2.2) (fun hs_=>hs_.2.2.2.2.2)) (fun hn_=>(Kd.lH (g:=j4) (o:= .cells #[.int .i64 jM, .int .i64 ju, .slice jr jh.length js] 32 (0,0)) (aG_ ja.out) k_ hn_))⟩)) (aJ rO));replace j8:=am (dR (g:=j9) (o:= .cells #[.int .i64 jc, .int .i64 jf, .slice (some jg) j6.length jk] 32 (0,0)) (aG_ j8.out) hb);replace jb:=am (dR (g:=j5) (o:= .cells #[.int .i64 0, .int .i64 0, .slice none 0 0] 32 (0,0)) (aG_ jb.out) hb);replace j7:=am (dR (g:=j3) (o:= .cells #[.int .i64 jJ, .int .i64 jH, .slice ji jd.length jj] 32 (0,0)) (aG_ j7.out) hb);replace ja:=am (dR (g:=j4) (o:= .cells #[.int .i64 jM, .int .i64 ju, .slice jr jh.length js] 32 (0,0)) (aG_ ja.out) hb);replace HB:=am (aD rO hb);(try clear hb);(try clear ho0);obtain ⟨Za,Zb,Zc,Zd,Ze,Zf⟩:=gF jb.out;obtain ⟨JK,JL,ZG⟩:=Kd.dG qv.out;subst ZG))
     refine bodyPost_ret (results_cell_row rfl _ _ j5 32 #[.int .i64 qJ, .int .i64 qK, .slice JK qL.length JL] (0,0) _ rfl (aM (aM (aM jb.out 0 _ rfl) 1 _ rfl) 2 _ rfl) Try.underlying32 rfl (by kernel_rfl)) rfl ?_
     exact ⟨_,iI,eO (Kd.aG (Kd.aT (p:=⟨j5,2,none⟩) (Kd.aT (p:=⟨j5,1,none⟩) (Kd.aT (p:=⟨j5,0,none⟩) (Kd.aG qv.out (fun k_ hk=>(⟨hk,hk.2.2.1⟩:_∧k_≠j5))) (fun _ hk=>hk.2) (.int .i64 qJ)) (fun _ hk=>hk.2) (.int .i64 qK)) (fun _ hk=>hk.2) (.slice JK qL.length JL)) (fun _ hk=>hk.1.1)),rO⟩
  rw [if_neg qV] at H
  exact absurd H (by simp)
 rw [if_neg qR] at H
 exact absurd H (by simp)
theorem bM.mono_all:∀ k,(∀ a b c,LeO (bM.l0 k a b c) (bM.l0 (k + 1) a b c))∧(∀ a,LeO (bM.f k a) (bM.f (k + 1) a))∧(∀ s,LeO (gL.f k s) (gL.f (k + 1) s))
 |0=>⟨fun _ _ _ r h=>by simp [bM.l0] at h,fun _ r h=>by simp [bM.f] at h,fun _ r h=>by simp [gL.f] at h⟩
 |k + 1=>by
  obtain ⟨i0,i1,i2⟩:=bM.mono_all k
  refine ⟨fun a b c=>?_,fun a=>?_,fun s=>?_⟩
  ·unfold bM.l0
   refine LeO.ite (LeO.ite (LeO.bind (i2 _) (fun _=>LeO.ite (i0 _ _ _) (LeO.none _))) (LeO.none _)) (LeO.refl _)
  ·unfold bM.f
   exact i0 _ _ _
  ·unfold gL.f
   exact LeO.bind (eF.mono _ _ _ _) (fun _=>LeO.bind (i1 _) (fun _=>LeO.bind (i1 _) (fun _=>LeO.refl _)))
theorem bM.mono:∀ a k,LeO (bM.f k a) (bM.f (k + 1) a):=fun a k=>(bM.mono_all k).2.1 a
abbrev bM.fO (k:Nat):Prop:=∀ (A0:Option Addr) (c0:Nat) (l0:List S35) (r:List S35) (w:World) (hr0:Kd.C k35 w A0 l0.length l0) (hc0:l0.length≤c0) (h:bM.f k l0=some r),
  Calls Try.prog 48 #[.slice A0 l0.length c0] w fun e w'=>∃ v0_:Value,e= .returned v0_∧Kd.N k35 35 w' w.heap.size (fun k_=>(w.heap.size≤k_)) v0_ r∧Below w.heap.size w w'
abbrev gL.fO (k:Nat):Prop:=∀ (x:S35) (A5:Option Addr) (c5:Nat) (A6:Option Addr) (c6:Nat) (A7:Option Addr) (c7:Nat) (r:List S35) (w:World) (h5:Kd.C k32 w A5 x.f3.f2.length x.f3.f2) (l5:x.f3.f2.length≤c5) (h6:Kd.C k35 w A6 x.f4.length x.f4) (l6:x.f4.length≤c6) (h7:Kd.C k35 w A7 x.f5.length x.f5) (l7:x.f5.length≤c7) (h:gL.f k x=some r),
  Calls Try.prog 81 #[.agg #[.int .i64 x.f0, .int .i64 x.f1, .int .i64 x.f2, .int .i64 x.f3.f0, .int .i64 x.f3.f1, .slice A5 x.f3.f2.length c5, .slice A6 x.f4.length c6, .slice A7 x.f5.length c7]] w fun e w'=>∃ v0_:Value,e= .returned v0_∧Kd.N k35 35 w' w.heap.size (fun k_=>(w.heap.size≤k_)) v0_ r∧Below w.heap.size w w'
theorem gL.step (k:Nat) (ihA:∀ m,m < k→bM.fO m):gL.fO k:=by
  intro x A5 c5 A6 c6 A7 c7 r w h5 q5 h6 q6 h7 q7 h
  cases k with
  |zero=>exact absurd h (by simp [gL.f])
  |succ k=>
  simp only [gL.f] at h
  replace h:=Option.bind_eq_some_iff.mp h
  obtain ⟨⟨op,n,la⟩,he,h⟩:=h
  replace h:=Option.bind_eq_some_iff.mp h
  obtain ⟨lb,hb6,h⟩:=h
  replace h:=Option.bind_eq_some_iff.mp h
  obtain ⟨le,hb7,h⟩:=h
  obtain rfl:=Option.some.inj h
  have H5:=am h5
  have H6:=am h6
  have H7:=am h7
  have L5:=am q5
  have L6:=am q6
  have L7:=am q7
  have HE:=am he
  have j3:=am hb6
  have j4:=am hb7
  clear h h5 h6 h7 q5 q6 q7 he hb6 hb7
  go_enter Try.func81,Try.ntmps81
  go_upto_region 1 with (first|((with_reducible refine cZ (N:=1) rfl ?_);refine dO (N:=1) rfl rfl (cs:=#[(.int .i64 x.f0),(.int .i64 x.f1),(.int .i64 x.f2),(.int .i64 x.f3.f0),(.int .i64 x.f3.f1),(.slice A5 x.f3.f2.length c5),(.slice A6 x.f4.length c6),(.slice A7 x.f5.length c7)]) (t:=35) rn_ ?_;intro gb hg w1 hbox hb;have GE:=am (hg:_=_);have X:=am hbox;have BW:=am hb;clear hbox hb hg)|fail)
  have GW:Aside0 (w.heap.size≤gb):=⟨Nat.le_of_eq GE.out.symm⟩
  have GL:=am (gT X.out)
  have p3:w1.cell? ⟨gb,3,none⟩=some (.int .i64 x.f3.f0):=aC X.out 3
  have p4:w1.cell? ⟨gb,4,none⟩=some (.int .i64 x.f3.f1):=aC X.out 4
  have p5:w1.cell? ⟨gb,5,none⟩=some (.slice A5 x.f3.f2.length c5):=aC X.out 5
  go_upto_region 2 with (first|((with_reducible refine aN (f:=96) rfl ?_);refine sS (some 6) rfl rfl Try.func96 (by kernel_rfl) rfl #[.agg #[(.int .i64 x.f3.f0),(.int .i64 x.f3.f1),(.slice A5 x.f3.f2.length c5)]] rfl (by (try simp only [List.map_toArray,List.map_cons,List.map_nil]);first|done|rfl) ?_;(with_reducible refine (eF.calls k _ _ A5 c5 _ op n la _ (Kd.aV H5.out BW.out) L5.out HE.out).mono ?_);rintro e w2 ⟨v5,rfl,hn,hb⟩;refine ⟨_,rfl,?_⟩;obtain ⟨B5,d5,rfl⟩:=Kd.dG hn;have N5:=am (Kd.aG (ok':=fun q=>w.heap.size≤q∧q≠gb) (Kd.dF hn BW.out.size) (fun q hq=>⟨Nat.le_trans BW.out.size hq,fun e=>by have:=GL.out;omega⟩));have X2:=am (dR X.out hb);have B2:=am (aD BW.out hb);clear hn hb p3 p4 p5 X BW;have p3:w2.cell? ⟨gb,3,none⟩=some (.int .i64 x.f3.f0):=aC X2.out 3;have p4:w2.cell? ⟨gb,4,none⟩=some (.int .i64 x.f3.f1):=aC X2.out 4;have p5:w2.cell? ⟨gb,5,none⟩=some (.slice A5 x.f3.f2.length c5):=aC X2.out 5;have f3:=aU X2.out 3;have f4:=aU X2.out 4;have f5:=aU X2.out 5)|fail)
  have X:=am (aM (cs':=#[(.int .i64 x.f0),(.int .i64 x.f1),(.int .i64 x.f2),(.int .i64 op),(.int .i64 n),(.slice B5 la.length d5),(.slice A6 x.f4.length c6),(.slice A7 x.f5.length c7)]) (aM (cs':=#[(.int .i64 x.f0),(.int .i64 x.f1),(.int .i64 x.f2),(.int .i64 op),(.int .i64 n),(.slice A5 x.f3.f2.length c5),(.slice A6 x.f4.length c6),(.slice A7 x.f5.length c7)]) (aM (cs':=#[(.int .i64 x.f0),(.int .i64 x.f1),(.int .i64 x.f2),(.int .i64 op),(.int .i64 x.f3.f1),(.slice A5 x.f3.f2.length c5),(.slice A6 x.f4.length c6),(.slice A7 x.f5.length c7)]) X2.out 3 (.int .i64 op) rfl) 4 (.int .i64 n) rfl) 5 (.slice B5 la.length d5) rfl)
  have BW:=am (below_set (j:=5) (v:=(.slice B5 la.length d5)) (below_set (j:=4) (v:=(.int .i64 n)) (below_set (j:=3) (v:=(.int .i64 op)) B2.out GW.out) GW.out) GW.out)
  have N5_:=am (Kd.aT (p:=⟨gb,5,none⟩) (Kd.aT (p:=⟨gb,4,none⟩) (Kd.aT (p:=⟨gb,3,none⟩) N5.out (fun _ hq=>hq.2) (.int .i64 op)) (fun _ hq=>hq.2) (.int .i64 n)) (fun _ hq=>hq.2) (.slice B5 la.length d5))
  clear p3 p4 p5 f3 f4 f5 X2 B2 N5
  generalize (((w2.setCell ⟨gb,3,none⟩ (.int .i64 op)).setCell ⟨gb,4,none⟩ (.int .i64 n)).setCell ⟨gb,5,none⟩ (.slice B5 la.length d5))=w3 at X BW N5_ ⊢
  have N5:=N5_
  clear N5_
  have p6:w3.cell? ⟨gb,6,none⟩=some (.slice A6 x.f4.length c6):=aC X.out 6
  go_upto_region 3 with (first|((with_reducible refine aN (f:=48) rfl ?_);refine sS (some 10) rfl rfl Try.func48 (by kernel_rfl) rfl #[.slice A6 x.f4.length c6] rfl (by (try simp only [List.map_toArray,List.map_cons,List.map_nil]);first|done|rfl) ?_;(with_reducible refine (ihA k (Nat.lt_succ_self k) A6 c6 x.f4 lb _ (Kd.aV H6.out BW.out) L6.out j3.out).mono ?_);rintro e w4 ⟨v5,rfl,hn,hb⟩;refine ⟨_,rfl,?_⟩;obtain ⟨B6,d6,rfl⟩:=Kd.dG hn;have GL2:=gT X.out;have hle:=BW.out.size;have N6:=am (Kd.aG (ok':=fun q=>w.heap.size≤q∧q≠gb) (Kd.dF hn hle) (fun q hq=>⟨Nat.le_trans hle hq,fun e=>by omega⟩));have tN5:=am (Kd.dS N5.out hb);have X2:=am (dR X.out hb);have B2:=am (aD BW.out hb);clear hn hb hle GL2 p6 X BW N5;have N5:=tN5;clear tN5;have p6:w4.cell? ⟨gb,6,none⟩=some (.slice A6 x.f4.length c6):=aC X2.out 6;have f6:=aU X2.out 6)|fail)
  have X:=am (aM (cs':=#[(.int .i64 x.f0),(.int .i64 x.f1),(.int .i64 x.f2),(.int .i64 op),(.int .i64 n),(.slice B5 la.length d5),(.slice B6 lb.length d6),(.slice A7 x.f5.length c7)]) X2.out 6 (.slice B6 lb.length d6) rfl)
  have BW:=am (below_set (j:=6) (v:=(.slice B6 lb.length d6)) B2.out GW.out)
  have tN5:=am (Kd.aT (p:=⟨gb,6,none⟩) N5.out (fun _ hq=>hq.2) (.slice B6 lb.length d6))
  have tN6:=am (Kd.aT (p:=⟨gb,6,none⟩) N6.out (fun _ hq=>hq.2) (.slice B6 lb.length d6))
  clear p6 f6 X2 B2 N5 N6
  generalize (w4.setCell ⟨gb,6,none⟩ (.slice B6 lb.length d6))=w5 at X BW tN5 tN6 ⊢
  have N5:=tN5
  have N6:=tN6
  clear tN5 tN6
  have p7:w5.cell? ⟨gb,7,none⟩=some (.slice A7 x.f5.length c7):=aC X.out 7
  go_upto_region 4 with (first|((with_reducible refine aN (f:=48) rfl ?_);refine sS (some 14) rfl rfl Try.func48 (by kernel_rfl) rfl #[.slice A7 x.f5.length c7] rfl (by (try simp only [List.map_toArray,List.map_cons,List.map_nil]);first|done|rfl) ?_;(with_reducible refine (ihA k (Nat.lt_succ_self k) A7 c7 x.f5 le _ (Kd.aV H7.out BW.out) L7.out j4.out).mono ?_);rintro e w6 ⟨v5,rfl,hn,hb⟩;refine ⟨_,rfl,?_⟩;obtain ⟨B7,d7,rfl⟩:=Kd.dG hn;have GL2:=gT X.out;have hle:=BW.out.size;have N7:=am (Kd.aG (ok':=fun q=>w.heap.size≤q∧q≠gb) (Kd.dF hn hle) (fun q hq=>⟨Nat.le_trans hle hq,fun e=>by omega⟩));have tN5:=am (Kd.dS N5.out hb);have tN6:=am (Kd.dS N6.out hb);have X2:=am (dR X.out hb);have B2:=am (aD BW.out hb);clear hn hb hle GL2 p7 X BW N5 N6;have N5:=tN5;clear tN5;have N6:=tN6;clear tN6;have p7:w6.cell? ⟨gb,7,none⟩=some (.slice A7 x.f5.length c7):=aC X2.out 7;have f7:=aU X2.out 7)|fail)
  have X:=am (aM (cs':=#[(.int .i64 x.f0),(.int .i64 x.f1),(.int .i64 x.f2),(.int .i64 op),(.int .i64 n),(.slice B5 la.length d5),(.slice B6 lb.length d6),(.slice B7 le.length d7)]) X2.out 7 (.slice B7 le.length d7) rfl)
  have BW:=am (below_set (j:=7) (v:=(.slice B7 le.length d7)) B2.out GW.out)
  have tN5:=am (Kd.aT (p:=⟨gb,7,none⟩) N5.out (fun _ hq=>hq.2) (.slice B7 le.length d7))
  have tN6:=am (Kd.aT (p:=⟨gb,7,none⟩) N6.out (fun _ hq=>hq.2) (.slice B7 le.length d7))
  have tN7:=am (Kd.aT (p:=⟨gb,7,none⟩) N7.out (fun _ hq=>hq.2) (.slice B7 le.length d7))
  clear p7 f7 X2 B2 N5 N6 N7
  generalize (w6.setCell ⟨gb,7,none⟩ (.slice B7 le.length d7))=w7 at X BW tN5 tN6 tN7 ⊢
  have N5:=tN5
  have N6:=tN6
  have N7:=tN7
  clear tN5 tN6 tN7
  have p0:w7.cell? ⟨gb,0,none⟩=some (.int .i64 x.f0):=aC X.out 0
  have p1:w7.cell? ⟨gb,1,none⟩=some (.int .i64 x.f1):=aC X.out 1
  have p2:w7.cell? ⟨gb,2,none⟩=some (.int .i64 x.f2):=aC X.out 2
  have p3:w7.cell? ⟨gb,3,none⟩=some (.int .i64 op):=aC X.out 3
  have p4:w7.cell? ⟨gb,4,none⟩=some (.int .i64 n):=aC X.out 4
  have p5:w7.cell? ⟨gb,5,none⟩=some (.slice B5 la.length d5):=aC X.out 5
  have p6:w7.cell? ⟨gb,6,none⟩=some (.slice B6 lb.length d6):=aC X.out 6
  have p7:w7.cell? ⟨gb,7,none⟩=some (.slice B7 le.length d7):=aC X.out 7
  have HX:=X
  clear X GE GL GW HE j3 j4 H5 H6 H7 L5 L6 L7 ihA
  by_cases k2:x.f0=2 <;> by_cases k3:x.f0=3 <;> by_cases k0:op=0 <;> by_cases kn:n=0
  all_goals first
    |(exact absurd (k2.symm.trans k3) (by decide))
    | ((first|have e2:(x.f0 == 2)=true:=beq_iff_eq.mpr k2|have e2:(x.f0 == 2)=false:=beq_eq_false_iff_ne.mpr k2)
       (first|have e3:(x.f0 == 3)=true:=beq_iff_eq.mpr k3|have e3:(x.f0 == 3)=false:=beq_eq_false_iff_ne.mpr k3)
       (first|have e0:(op == 0)=true:=beq_iff_eq.mpr k0|have e0:(op == 0)=false:=beq_eq_false_iff_ne.mpr k0)
       (first|have en:(n == 0)=true:=beq_iff_eq.mpr kn|have en:(n == 0)=false:=beq_eq_false_iff_ne.mpr kn)
       (first|have em:(n != 0)=true:=bne_iff_ne.mpr kn|have em:(n != 0)=false:=bne_eq_false_iff_eq.mpr kn)
       clear k2 k3 k0 kn
       go_wp2_with (first|((with_reducible refine cZ (N:=54) rfl ?_);refine Kd.oV k35 w7.heap.size 35 rfl (N':=54) rfl (w0:=w7) (xs:=([]:List S35)) (inner:=[]) (ok:=fun q=>w7.heap.size≤q) (okp:=fun _=>False) ?hr (eX.none _ _) (fun _ hq=>hq.elim) (Nat.le_refl _) (Below.refl _ _) (Nat.le_refl _) (by simp) ?_;(case hr=>first|(go_simp;done)|(go_simp;rfl));intro v9 w8 hn hb _ _;obtain ⟨B9,d9,rfl⟩:=Kd.dG hn;have N9:=am hn;have B9_:=am hb;clear hn hb)|((with_reducible refine cZ (N:=56) rfl ?_);refine Kd.oV k35 w7.heap.size 35 rfl (N':=56) rfl (w0:=w7) (xs:=[(⟨x.f0,x.f1,x.f2,⟨op,n,la⟩,lb,le⟩:S35)]) (inner:=[(.int .i64 x.f0),(.int .i64 x.f1),(.int .i64 x.f2),(.int .i64 op),(.int .i64 n),(.slice B5 la.length d5),(.slice B6 lb.length d6),(.slice B7 le.length d7)]) (ok:=fun q=>w.heap.size≤q) (okp:=fun q=>w.heap.size≤q∧q≠gb) ?hr (eX.c8 (show Kd.FK k35 _ _ (⟨x.f0,x.f1,x.f2,⟨op,n,la⟩,lb,le⟩:S35) [(.int .i64 x.f0),(.int .i64 x.f1),(.int .i64 x.f2),(.int .i64 op),(.int .i64 n),(.slice B5 la.length d5),(.slice B6 lb.length d6),(.slice B7 le.length d7)] from kY _ _ (⟨x.f0,x.f1,x.f2,⟨op,n,la⟩,lb,le⟩:S35) (Kd.bQ N5.out).2.1 (Kd.N_F N5.out) (Kd.bQ N6.out).2.1 (Kd.N_F N6.out) (Kd.bQ N7.out).2.1 (Kd.N_F N7.out)) (eX.none _ _)) (fun _ hq=>hq.1) BW.out.size (Below.refl _ _) (Nat.le_refl _) (by simp) ?_;(case hr=>first|(go_simp;done)|(go_simp;rfl));intro v9 w8 hn hb _ _;obtain ⟨B9,d9,rfl⟩:=Kd.dG hn;have N9:=am hn;have B9_:=am hb;clear hn hb)|fail)
       go_ret
       first
       |exact ⟨_,rfl,by (simp only [IC,e2,e3,e0,en,em,Bool.true_and,Bool.and_true,Bool.false_and,Bool.and_false,if_true,if_false,Bool.false_eq_true]);exact (Kd.aG N6.out (fun _ hq=>hq.1)),BW.out⟩
       |exact ⟨_,rfl,by (simp only [IC,e2,e3,e0,en,em,Bool.true_and,Bool.and_true,Bool.false_and,Bool.and_false,if_true,if_false,Bool.false_eq_true]);exact (Kd.aG N7.out (fun _ hq=>hq.1)),BW.out⟩
       |exact ⟨_,rfl,by (simp only [IC,e2,e3,e0,en,em,Bool.true_and,Bool.and_true,Bool.false_and,Bool.and_false,if_true,if_false,Bool.false_eq_true]);exact (Kd.aG (Kd.dF N9.out BW.out.size) (fun _ hq=>Nat.le_trans BW.out.size hq)),(aD BW.out B9_.out)⟩
       | exact ⟨_,rfl,by (simp only [IC,e2,e3,e0,en,em,Bool.true_and,Bool.and_true,Bool.false_and,Bool.and_false,if_true,if_false,Bool.false_eq_true]);exact (Kd.dF N9.out BW.out.size),(aD BW.out B9_.out)⟩)
theorem bM.step (k:Nat) (ihT:∀ m,m < k→gL.fO m):bM.fO k:=by
 intro A0 c0 l0 r w hr0 hc0 h
 cases k with
 |zero=>exact absurd h (by simp [bM.f])
 |succ k=>
 simp only [bM.f] at h
 have j6:=am hr0
 have ja:=am hc0
 have H':=am h
 clear hr0 hc0 h
 go_enter Try.func48,Try.ntmps48
 go_wp2_with (first|((with_reducible refine cZ (N:=5) rfl ?_);refine Kd.oV k35 w.heap.size 35 rfl (N':=5) rfl (w0:=w) (xs:=([]:List S35)) (inner:=[]) (ok:=fun q=>w.heap.size≤q) (okp:=fun _=>False) ?hr (eX.none _ _) (fun _ hq=>hq.elim) (Nat.le_refl _) (Below.refl _ _) (Nat.le_refl _) (by simp) ?_;(case hr=>first|(go_simp;done)|(go_simp;rfl));intro v3 w4 hn hb hg_ hnew_;clear hg_ hnew_;have HO:=am hn;have HB:=am hb;clear hn hb)|fail)
 go_loopg [3,4] k (fun kq v3 v4 w'=>∃ (x3:List S35) (x4:Int),v4= .int .i64 x4∧Aside0 (bM.l0 kq l0 x3 x4=some r)∧Aside0 (kq≤k)∧Aside0 (Kd.N k35 35 w' w.heap.size (fun q=>w.heap.size≤q) v3 x3)∧Aside0 (Below w.heap.size w w'))
 case atStart=>exact ⟨_,0,rfl,H',⟨Nat.le_refl _⟩,HO,HB⟩
 case round=>
  clear H'
  (try clear HO HB)
  obtain ⟨x3,x4,rfl,HA,j4,HO,HB⟩:=hrel
  obtain ⟨B3,d3,rfl⟩:=Kd.dG HO.out
  cases gk with
  |zero=>exact absurd HA.out (by simp [bM.l0])
  |succ k1=>
   have H:=HA.out
   clear HA
   simp only [bM.l0] at H
   by_cases c6:x4 < (l0.length:Int)
   ·rw [if_pos c6] at H
    by_cases c7:0≤x4
    ·rw [if_pos c7] at H
     obtain ⟨y,hs,H⟩:=bsm H
     by_cases c9:x3.length + y.length < 1256584717458
     ·rw [if_pos c9] at H
      have HS:=am hs
      have H':=am H
      clear hs H
      obtain ⟨ad,A5,c5,A6,d6,A7,d7,e0,x0,x1,x2,y3,y4,y5,y6,y7,l5,g5,l6,g6,l7,g7⟩:=uU j6.out x4 c7 c6
      cases e0
      replace x0:=(HB.out.cell (World.block_lt_of_cell? w _ x0)).trans x0
      replace x1:=(HB.out.cell (World.block_lt_of_cell? w _ x1)).trans x1
      replace x2:=(HB.out.cell (World.block_lt_of_cell? w _ x2)).trans x2
      replace y3:=(HB.out.cell (World.block_lt_of_cell? w _ y3)).trans y3
      replace y4:=(HB.out.cell (World.block_lt_of_cell? w _ y4)).trans y4
      replace y5:=(HB.out.cell (World.block_lt_of_cell? w _ y5)).trans y5
      replace y6:=(HB.out.cell (World.block_lt_of_cell? w _ y6)).trans y6
      replace y7:=(HB.out.cell (World.block_lt_of_cell? w _ y7)).trans y7
      have G5:=am (Kd.aV g5 HB.out)
      have G6:=am (Kd.aV g6 HB.out)
      have G7:=am (Kd.aV g7 HB.out)
      have L5:=am l5
      have L6:=am l6
      have L7:=am l7
      have C9:=am c9
      have j7:decide (x4 < (l0.length:Int))=true:=decide_eq_true c6
      have q0:=eq_true c7
      have q1:=eq_true c6
      clear g5 g6 g7 l5 l6 l7 c6 c7 c9
      go_wp2_with (first|((with_reducible refine aN (f:=81) rfl ?_);refine sS (some 17) rfl rfl Try.func81 (by kernel_rfl) rfl #[.agg #[(.int .i64 (aA l0 x4).f0),(.int .i64 (aA l0 x4).f1),(.int .i64 (aA l0 x4).f2),(.int .i64 (aA l0 x4).f3.f0),(.int .i64 (aA l0 x4).f3.f1),(.slice A5 (aA l0 x4).f3.f2.length c5),(.slice A6 (aA l0 x4).f4.length d6),(.slice A7 (aA l0 x4).f5.length d7)]] rfl (by (try simp only [List.map_toArray,List.map_cons,List.map_nil]);first|done|rfl) ?_;(with_reducible refine (ihT k1 (by have:=j4.out;omega) (aA l0 x4) A5 c5 A6 d6 A7 d7 y _ G5.out L5.out G6.out L6.out G7.out L7.out HS.out).mono ?_);rintro e jb ⟨jc,rfl,hn,hb⟩;refine ⟨_,rfl,?_⟩;obtain ⟨j8,j9,rfl⟩:=Kd.dG hn;have j5:=am hn;have OL:=am (Kd.iN HO.out);have OE:=am (Kd.dS HO.out hb);have j3:=am (aD HB.out hb);have SZ:=am HB.out.size;clear hn hb HO HB)|((with_reducible refine cZ (N:=18) rfl ?_);refine Kd.nZ k35 (w0:=w) w.heap.size rfl (.tmp 12) (.tmp 17) 23 35 (.agg #[(.int .i64 0),(.int .i64 0),(.int .i64 0),(.int .i64 0),(.int .i64 0),(.slice none 0 0),(.slice none 0 0),(.slice none 0 0)]) 112 rfl Try.underlying23 tQ rfl (by decide) (by omega) (.slice B3 x3.length d3) x3 y j8 y.length j9 (fun q=>w.heap.size≤q) _ rfl rfl OE.out (Kd.N_F j5.out) ?aK ?aF j3.out j3.out.size ?aL ?_;(case aK=>exact fun q hq=>⟨Nat.le_trans SZ.out hq,fun e=>by have:=OL.out q e.symm;omega⟩);(case aF=>exact fun q hq=>Nat.le_trans j3.out.size hq);(case aL=>(have:=C9.out;omega));intro jd je hn hb hg_ hat_;clear hg_ hat_;have HO:=am hn;have HB:=am hb;clear hn hb OE OL j3 j5 SZ)|fail)
      go_roundg k1
      case measure=>have:=j4.out;omega
      case rel=>exact ⟨_,wrap64 (x4 + 1),sd_,H',⟨by have:=j4.out;omega⟩,HO,HB⟩
     rw [if_neg c9] at H
     exact absurd H (by simp)
    rw [if_neg c7] at H
    exact absurd H (by simp)
   rw [if_neg c6] at H
   have j7:decide (x4 < (l0.length:Int))=false:=decide_eq_false c6
   clear c6
   obtain rfl:=Option.some.inj H
   go_wp2
   go_ret
   exact ⟨_,rfl,HO.out,HB.out⟩
theorem bM.calls_all (k:Nat):bM.fO k∧gL.fO k:=by
 induction k using Nat.strongRecOn with
 | _ k ih=>exact ⟨bM.step k (fun m hm=>(ih m hm).2),gL.step k (fun m hm=>(ih m hm).1)⟩
theorem bM.calls (k:Nat):bM.fO k:=(bM.calls_all k).1
theorem gZ.mono_l:∀ k,(∀ y0 y1 y2 y3,LeO (gZ.f k y0 y1 y2 y3) (gZ.f (k + 1) y0 y1 y2 y3))
 |0=>fun _ _ _ _ r h=>by simp [gZ.f] at h
 |k + 1=>by
  have ih0:=gZ.mono_l k
  ·intro y0 y1 y2 y3
   unfold gZ.f
   exact mo_
theorem gZ.mono:∀ a0 a1 a2 a3 k,LeO (gZ.f k a0 a1 a2 a3) (gZ.f (k + 1) a0 a1 a2 a3):=by
 intro a0 a1 a2 a3 k
 have ih0:=gZ.mono_l k
 exact ih0 a0 a1 a2 a3
theorem gZ.calls (k:Nat):∀ (j4:Int) (j8:Int) (jg:Option Addr) (jh:Nat) (j3:List (S32)) (a1:Int) (r:Bool) (w:World) (hr0_2:Kd.C k32 w jg j3.length j3) (hc0_2:j3.length≤jh) (h:gZ.f k j4 j8 j3 a1=some r),
  Calls Try.prog 116 #[.agg #[.int .i64 j4, .int .i64 j8, .slice jg j3.length jh], .int .i64 a1] w fun e w'=>e= .returned (.bool r)∧Below w.heap.size w w':=by
 induction k using Nat.strongRecOn with
 | _ k ih=>
 intro j4 j8 jg jh j3 a1 r w hr0_2 hc0_2 h
 cases k with
 |zero=>exact absurd h (by simp [gZ.f])
 |succ k=>
 simp only [gZ.f] at h
 have hu32:=Try.underlying32
 have jf:=am hr0_2
 have qQ:=am hc0_2
 clear hr0_2 hc0_2
 have HB:=am (Below.refl w.heap.size w)
 have H:(if a1 < 1 then (some false) else (if j4=0 then ((gB.f j8 0 99999).bind fun qx=>(if qx=true then (some ((j3.length:Int) == 0)) else (some false))) else (if j4=13 then ((gB.f j8 0 3).bind fun qy=>(if qy=true then (some ((j3.length:Int) == 0)) else (some false))) else ((iC.f j4).bind fun qz=>(if qz=true then (if j8=0 then (if (j3.length:Int)=2 then (if 0 < (j3.length:Int) then ((gZ.f k ((aY j3 0).f0) ((aY j3 0).f1) ((aY j3 0).f2) (wrap64 (a1 - 1))).bind fun qA=>(if qA=true then (if 1 < (j3.length:Int) then ((gZ.f k ((aY j3 1).f0) ((aY j3 1).f1) ((aY j3 1).f2) (wrap64 (a1 - 1))).bind fun qB=>(some qB)) else (none)) else (some false))) else (none)) else (some false)) else (some false)) else (some false))))))=some r:=h
 clear h
 have HH_:=am H
 clear H
 go_enter Try.func116,Try.ntmps116
 go_upto_region 1 with (first|((with_reducible refine cZ (N:=2) rfl ?_);(try (refine kK (by rfl) ?_;dsimp only));refine dO rfl (N:=2) rfl (cs:=#[.int .i64 j4, .int .i64 j8, .slice jg j3.length jh]) (t:=32) rn_ ?_;intro jp hg w4 hbox hb;have j9:=am (hbox);have z3:=am ((by rw [hg];exact (aJ fU):w.heap.size≤jp));have GE43:=am ((by rw [hg];exact (aJ fU):w.heap.size≤jp));replace HB:=am (aD fU hb);clear hb hbox hg))
 have H:=HH_.out
 clear HH_
 by_cases c3:a1 < 1
 ·rw [if_pos c3] at H
  have qC:decide (a1 < 1)=true:=decide_eq_true c3
  clear c3
  obtain rfl:=Option.some.inj H
  go_wp2
  go_ret
  exact ⟨rr_,mJ⟩
 rw [if_neg c3] at H
 have qC:decide (a1 < 1)=false:=decide_eq_false c3
 clear c3
 by_cases c5:j4=0
 ·rw [if_pos c5] at H
  have qD:(j4 == 0)=true:=beq_iff_eq.mpr c5
  have qE:(j4 != 0)=false:=bne_eq_false_iff_eq.mpr c5
  clear c5
  obtain ⟨qx,A6,H⟩:=bsa H
  (try dsimp only at H)
  by_cases c7:qx=true
  ·subst c7
   rw [if_pos rfl] at H
   obtain rfl:=Option.some.inj H
   obtain ⟨qF,qG,qH,qI,qJ,qK⟩:=gF j9.out
   go_wp2_with (first|((with_reducible refine aN (f:=88) rfl ?_);refine gl_ 12 Try.func88 #[.int .i64 j8, .int .i64 0, .int .i64 99999] ?_;(with_reducible refine (gB.calls j8 0 99999 true _ A6.out).mono ?_);rintro e w' ⟨rfl,⟨nd,rfl⟩⟩;refine ⟨_,rfl,?_⟩))
   go_ret
   exact ⟨rr_,mJ⟩
  replace c7:=Bool.eq_false_iff.mpr c7
  subst c7
  rw [if_neg (show ¬ (false=true) by decide)] at H
  obtain rfl:=Option.some.inj H
  obtain ⟨jA,jB,jC,jD,jE,jF⟩:=gF j9.out
  go_wp2_with (first|((with_reducible refine aN (f:=88) rfl ?_);refine gl_ 12 Try.func88 #[.int .i64 j8, .int .i64 0, .int .i64 99999] ?_;(with_reducible refine (gB.calls j8 0 99999 false _ A6.out).mono ?_);rintro e w' ⟨rfl,⟨nd,rfl⟩⟩;refine ⟨_,rfl,?_⟩))
  go_ret
  exact ⟨rr_,mJ⟩
 rw [if_neg c5] at H
 have qD:(j4 == 0)=false:=beq_eq_false_iff_ne.mpr c5
 have qE:(j4 != 0)=true:=bne_iff_ne.mpr c5
 by_cases ji:j4=13
 ·rw [if_pos ji] at H
  have jq:(j4 == 13)=true:=beq_iff_eq.mpr ji
  have jr:(j4 != 13)=false:=bne_eq_false_iff_eq.mpr ji
  clear ji
  obtain ⟨qy,qR,H⟩:=bsm H
  (try dsimp only at H)
  have qS:=am qR
  clear qR
  by_cases jG:qy=true
  ·subst jG
   rw [if_pos rfl] at H
   obtain rfl:=Option.some.inj H
   obtain ⟨jH,jI,jJ,jK,jL,jM⟩:=gF j9.out
   go_wp2_with (first|((with_reducible refine aN (f:=88) rfl ?_);refine gl_ 24 Try.func88 #[.int .i64 j8, .int .i64 0, .int .i64 3] ?_;(with_reducible refine (gB.calls j8 0 3 true _ qS.out).mono ?_);rintro e w' ⟨rfl,⟨nd,rfl⟩⟩;refine ⟨_,rfl,?_⟩))
   go_ret
   exact ⟨rr_,mJ⟩
  replace jG:=Bool.eq_false_iff.mpr jG
  subst jG
  rw [if_neg (show ¬ (false=true) by decide)] at H
  obtain rfl:=Option.some.inj H
  obtain ⟨jN,jO,jP,jQ,jR,jS⟩:=gF j9.out
  go_wp2_with (first|((with_reducible refine aN (f:=88) rfl ?_);refine gl_ 24 Try.func88 #[.int .i64 j8, .int .i64 0, .int .i64 3] ?_;(with_reducible refine (gB.calls j8 0 3 false _ qS.out).mono ?_);rintro e w' ⟨rfl,⟨nd,rfl⟩⟩;refine ⟨_,rfl,?_⟩))
  go_ret
  exact ⟨rr_,mJ⟩
 rw [if_neg ji] at H
 have jq:(j4 == 13)=false:=beq_eq_false_iff_ne.mpr ji
 have jr:(j4 != 13)=true:=bne_iff_ne.mpr ji
 obtain ⟨qz,qT,H⟩:=bsm H
 (try dsimp only at H)
 have js:=am qT
 clear qT
 by_cases jT:qz=true
 ·subst jT
  rw [if_pos rfl] at H
  by_cases jj:j8=0
  ·rw [if_pos jj] at H
   have jt:(j8 == 0)=true:=beq_iff_eq.mpr jj
   have ju:(j8 != 0)=false:=bne_eq_false_iff_eq.mpr jj
   clear jj
   by_cases jk:(j3.length:Int)=2
   ·rw [if_pos jk] at H
    have jv:((j3.length:Int) == 2)=true:=beq_iff_eq.mpr jk
    have jw:((j3.length:Int) != 2)=false:=bne_eq_false_iff_eq.mpr jk
    clear jk
    by_cases jU:0 < (j3.length:Int)
    ·rw [if_pos jU] at H
     have qU:decide (0 < (j3.length:Int))=true:=decide_eq_true jU
     have qV:decide (0 < j3.length)=true:=decide_eq_true (by omega)
     clear jU
     obtain ⟨qA,qW,H⟩:=bsm H
     (try dsimp only at H)
     have qX:=am qW
     clear qW
     by_cases jV:qA=true
     ·subst jV
      rw [if_pos rfl] at H
      by_cases jW:1 < (j3.length:Int)
      ·rw [if_pos jW] at H
       have qY:decide (1 < (j3.length:Int))=true:=decide_eq_true jW
       have qZ:decide (1 < j3.length)=true:=decide_eq_true (by omega)
       clear jW
       obtain ⟨qB,z0,H⟩:=bsm H
       (try dsimp only at H)
       have z4:=am z0
       clear z0
       obtain rfl:=Option.some.inj H
       obtain ⟨jX,jY,jZ,q0,q1,q2⟩:=gF j9.out
       go_wp2_with (first|((with_reducible refine aN (f:=117) rfl ?_);refine gl_ 33 Try.func117 #[.int .i64 j4] ?_;(with_reducible refine (iC.calls j4 true _ js.out).mono ?_);rintro e w' ⟨rfl,⟨nd,rfl⟩⟩;refine ⟨_,rfl,?_⟩;have jl:0≤(0:Int):=(by omega);have jm:0 < (j3.length:Int):=of_decide_eq_true fV;obtain ⟨jx,jy,jz,qL,j5,j6,j7,hl48_2,hi48_2⟩:=rC jf.out 0 jl jm;cases qL;have qM:(0 < j3.length)=True:=eq_true (by omega);(try rw [show ((0:Int)).toNat=0 from rfl] at j5);(try rw [show 0 * 3=0 from rfl] at j5);(try rw [Addr.add_zero'] at j5);(try rw [show ((0:Int)).toNat=0 from rfl] at j6);(try rw [show 0 * 3=0 from rfl] at j6);(try rw [Addr.add_zero'] at j6);(try rw [show ((0:Int)).toNat=0 from rfl] at j7);(try rw [show 0 * 3=0 from rfl] at j7);(try rw [Addr.add_zero'] at j7);replace j5:=(HB.out.cell (World.block_lt_of_cell? w _ j5)).trans j5;replace j6:=(HB.out.cell (World.block_lt_of_cell? w _ j6)).trans j6;replace j7:=(HB.out.cell (World.block_lt_of_cell? w _ j7)).trans j7;have jd:=am hi48_2;have je:=am hl48_2;clear hi48_2 hl48_2;replace jl:=eq_true jl;replace jm:=eq_true jm)|(go_at_call 116;(with_reducible refine (ih k (by omega) ((aY j3 0).f0) ((aY j3 0).f1) _ _ ((aY j3 0).f2) (wrap64 (a1 - 1)) true _ (aC_ (Kd.aV jd.out mJ)) je.out qX.out).mono ?_);rintro e z7 ⟨rfl,hb⟩;replace j9:=bbP j9 hb;replace HB:=am (aD mJ hb);(try clear hb);obtain ⟨q3,q4,q5,q6,q7,q8⟩:=gF j9.out;have qN:0≤(1:Int):=(by omega);have qO:1 < (j3.length:Int):=of_decide_eq_true fV;obtain ⟨qP,z1,z2,z5,ja,jb,jc,hl49_2,hi49_2⟩:=rC jf.out 1 qN qO;obtain rfl:jx=qP:=(by injection z5);(try simp only [show (1:Int).toNat=1 from rfl,Nat.reduceMul,Nat.reduceEqDiff,Go.Addr.add,↓reduceIte] at ja);(try simp only [show (1:Int).toNat=1 from rfl,Nat.reduceMul,Nat.reduceEqDiff,Go.Addr.add,↓reduceIte] at jb);(try simp only [show (1:Int).toNat=1 from rfl,Nat.reduceMul,Nat.reduceEqDiff,Go.Addr.add,↓reduceIte] at jc);have z6:(1 < j3.length)=True:=eq_true (by omega);(try rw [show ((1:Int)).toNat=1 from rfl] at ja);(try rw [show 1 * 3=3 from rfl] at ja);(try rw [show ((1:Int)).toNat=1 from rfl] at jb);(try rw [show 1 * 3=3 from rfl] at jb);(try rw [show ((1:Int)).toNat=1 from rfl] at jc);(try rw [show 1 * 3=3 from rfl] at jc);replace ja:=(HB.out.cell (World.block_lt_of_cell? w _ ja)).trans ja;replace jb:=(HB.out.cell (World.block_lt_of_cell? w _ jb)).trans jb;replace jc:=(HB.out.cell (World.block_lt_of_cell? w _ jc)).trans jc;have jn:=am hi49_2;have jo:=am hl49_2;clear hi49_2 hl49_2;replace qN:=eq_true qN;replace qO:=eq_true qO)|(go_at_call 116;(with_reducible refine (ih k (by omega) ((aY j3 1).f0) ((aY j3 1).f1) _ _ ((aY j3 1).f2) (wrap64 (a1 - 1)) qB _ (aC_ (Kd.aV jn.out HB.out)) jo.out z4.out).mono ?_);rintro e z8 ⟨rfl,hb⟩;replace j9:=bbP j9 hb;replace HB:=am (aD mJ hb);(try clear hb)))
       go_ret
       exact ⟨rr_,mJ⟩
      rw [if_neg jW] at H
      exact absurd H (by simp)
     replace jV:=Bool.eq_false_iff.mpr jV
     subst jV
     rw [if_neg (show ¬ (false=true) by decide)] at H
     obtain rfl:=Option.some.inj H
     obtain ⟨q9,qa,qb,qc,qd,qe⟩:=gF j9.out
     go_wp2_with (first|((with_reducible refine aN (f:=117) rfl ?_);refine gl_ 33 Try.func117 #[.int .i64 j4] ?_;(with_reducible refine (iC.calls j4 true _ js.out).mono ?_);rintro e w' ⟨rfl,⟨nd,rfl⟩⟩;refine ⟨_,rfl,?_⟩;have jl:0≤(0:Int):=(by omega);have jm:0 < (j3.length:Int):=of_decide_eq_true fV;obtain ⟨jx,jy,jz,qL,j5,j6,j7,hl48_2,hi48_2⟩:=rC jf.out 0 jl jm;cases qL;have qM:(0 < j3.length)=True:=eq_true (by omega);(try rw [show ((0:Int)).toNat=0 from rfl] at j5);(try rw [show 0 * 3=0 from rfl] at j5);(try rw [Addr.add_zero'] at j5);(try rw [show ((0:Int)).toNat=0 from rfl] at j6);(try rw [show 0 * 3=0 from rfl] at j6);(try rw [Addr.add_zero'] at j6);(try rw [show ((0:Int)).toNat=0 from rfl] at j7);(try rw [show 0 * 3=0 from rfl] at j7);(try rw [Addr.add_zero'] at j7);replace j5:=(HB.out.cell (World.block_lt_of_cell? w _ j5)).trans j5;replace j6:=(HB.out.cell (World.block_lt_of_cell? w _ j6)).trans j6;replace j7:=(HB.out.cell (World.block_lt_of_cell? w _ j7)).trans j7;have jd:=am hi48_2;have je:=am hl48_2;clear hi48_2 hl48_2;replace jl:=eq_true jl;replace jm:=eq_true jm)|(go_at_call 116;(with_reducible refine (ih k (by omega) ((aY j3 0).f0) ((aY j3 0).f1) _ _ ((aY j3 0).f2) (wrap64 (a1 - 1)) false _ (aC_ (Kd.aV jd.out mJ)) je.out qX.out).mono ?_);rintro e z9 ⟨rfl,hb⟩;replace j9:=bbP j9 hb;replace HB:=am (aD mJ hb);(try clear hb)))
     go_ret
     exact ⟨rr_,mJ⟩
    rw [if_neg jU] at H
    exact absurd H (by simp)
   rw [if_neg jk] at H
   have jv:((j3.length:Int) == 2)=false:=beq_eq_false_iff_ne.mpr jk
   have jw:((j3.length:Int) != 2)=true:=bne_iff_ne.mpr jk
   obtain rfl:=Option.some.inj H
   obtain ⟨qf,qg,qh,qi,qj,qk⟩:=gF j9.out
   go_wp2_with (first|((with_reducible refine aN (f:=117) rfl ?_);refine gl_ 33 Try.func117 #[.int .i64 j4] ?_;(with_reducible refine (iC.calls j4 true _ js.out).mono ?_);rintro e w' ⟨rfl,⟨nd,rfl⟩⟩;refine ⟨_,rfl,?_⟩))
   go_ret
   exact ⟨rr_,mJ⟩
  rw [if_neg jj] at H
  have jt:(j8 == 0)=false:=beq_eq_false_iff_ne.mpr jj
  have ju:(j8 != 0)=true:=bne_iff_ne.mpr jj
  obtain rfl:=Option.some.inj H
  obtain ⟨ql,qm,qn,qo,qp,qq⟩:=gF j9.out
  go_wp2_with (first|((with_reducible refine aN (f:=117) rfl ?_);refine gl_ 33 Try.func117 #[.int .i64 j4] ?_;(with_reducible refine (iC.calls j4 true _ js.out).mono ?_);rintro e w' ⟨rfl,⟨nd,rfl⟩⟩;refine ⟨_,rfl,?_⟩))
  go_ret
  exact ⟨rr_,mJ⟩
 replace jT:=Bool.eq_false_iff.mpr jT
 subst jT
 rw [if_neg (show ¬ (false=true) by decide)] at H
 obtain rfl:=Option.some.inj H
 obtain ⟨qr,qs,qt,qu,qv,qw⟩:=gF j9.out
 go_wp2_with (first|((with_reducible refine aN (f:=117) rfl ?_);refine gl_ 33 Try.func117 #[.int .i64 j4] ?_;(with_reducible refine (iC.calls j4 false _ js.out).mono ?_);rintro e w' ⟨rfl,⟨nd,rfl⟩⟩;refine ⟨_,rfl,?_⟩))
 go_ret
 exact ⟨rr_,mJ⟩
theorem fC.mono:∀ a0 a1 a2 k,LeO (fC.f k a0 a1 a2) (fC.f (k + 1) a0 a1 a2):=by
 intro a0 a1 a2 k
 unfold fC.f
 have m0:=@gZ.mono
 exact mo_
theorem fC.calls (k:Nat) (j4:Int) (j5:Int) (j6:Option Addr) (j7:Nat) (j3:List (S32)) (r:Bool) (w:World) (hr0_2:Kd.C k32 w j6 j3.length j3) (hc0_2:j3.length≤j7) (h:fC.f k j4 j5 j3=some r):
  Calls Try.prog 111 #[.agg #[.int .i64 j4, .int .i64 j5, .slice j6 j3.length j7]] w fun e w'=>e= .returned (.bool r)∧Below w.heap.size w w':=by
 have hu32:=Try.underlying32
 have j9:=am hr0_2
 have ja:=am hc0_2
 clear hr0_2 hc0_2
 have HB:=am (Below.refl w.heap.size w)
 have H:((gZ.f k j4 j5 j3 5).bind fun jc=>(some jc))=some r:=h
 clear h
 obtain ⟨jc,A2,H⟩:=bsa H
 (try dsimp only at H)
 obtain rfl:=Option.some.inj H
 go_enter Try.func111,Try.ntmps111
 go_wp2_with (first|((with_reducible refine cZ (N:=1) rfl ?_);refine dO rfl (N:=1) rfl (cs:=#[.int .i64 j4, .int .i64 j5, .slice j6 j3.length j7]) (t:=32) rn_ ?_;intro jb hg w3 hbox hb;have j8:=am (hbox);have jj:=am ((by rw [hg];exact (aJ fU):w.heap.size≤jb));have GE22:=am ((by rw [hg];exact (aJ fU):w.heap.size≤jb));replace HB:=am (aD fU hb);clear hb hbox hg;obtain ⟨jd,je,jf,jg,jh,ji⟩:=gF j8.out)|((with_reducible refine aN (f:=116) rfl ?_);refine gl_ 4 Try.func116 #[.agg #[.int .i64 j4, .int .i64 j5, .slice j6 j3.length j7], .int .i64 5] ?_;(with_reducible refine (gZ.calls k j4 j5 _ _ j3 5 jc _ (aC_ (Kd.aV j9.out HB.out)) ja.out A2.out).mono ?_);rintro e w5 ⟨rfl,hb⟩;refine ⟨_,rfl,?_⟩;replace j8:=bbP j8 hb;replace HB:=am (aD oD hb);(try clear hb)))
 go_ret
 exact ⟨rr_,oD⟩
theorem fH.calls (j7:Int) (j3:Int) (j8:Int) (j9:Int) (ja:Int) (jb:Option Addr) (jc:Nat) (j4:List (S32)) (jd:Option Addr) (je:Nat) (j5:List (S35)) (jf:Option Addr) (jg:Nat) (j6:List (S35)) (a1:Bool) (r:Bool) (w:World) (hr0_5:Kd.C k32 w jb j4.length j4) (hc0_5:j4.length≤jc) (hr0_6:Kd.C k35 w jd j5.length j5) (hc0_6:j5.length≤je) (hr0_7:Kd.C k35 w jf j6.length j6) (hc0_7:j6.length≤jg) (h:fH.f j7 j3 j8 j9 ja j4 j5 j6 a1=some r):
  Calls Try.prog 109 #[.agg #[.int .i64 j7, .int .i64 j3, .int .i64 j8, .int .i64 j9, .int .i64 ja, .slice jb j4.length jc, .slice jd j5.length je, .slice jf j6.length jg], .bool a1] w fun e w'=>e= .returned (.bool r)∧Below w.heap.size w w':=by
 have hu35:=Try.underlying35
 have jA:=am hr0_5
 have jB:=am hc0_5
 clear hr0_5 hc0_5
 have jC:=am hr0_6
 have jD:=am hc0_6
 clear hr0_6 hc0_6
 have jE:=am hr0_7
 have jF:=am hc0_7
 clear hr0_7 hc0_7
 have HB:=am (Below.refl w.heap.size w)
 have H:(if a1=true then ((gB.f j3 0 3).bind fun ji=>(some ji)) else (some (j3 == 0)))=some r:=h
 clear h
 have HH_:=am H
 clear H
 go_enter Try.func109,Try.ntmps109
 go_upto_region 1 with (first|((with_reducible refine cZ (N:=2) rfl ?_);refine dO rfl (N:=2) rfl (cs:=#[.int .i64 j7, .int .i64 j3, .int .i64 j8, .int .i64 j9, .int .i64 ja, .slice jb j4.length jc, .slice jd j5.length je, .slice jf j6.length jg]) (t:=35) rn_ ?_;intro jh hg w5 hbox hb;have jj:=am (hbox);have jG:=am ((by rw [hg];exact (aJ fU):w.heap.size≤jh));have GE21:=am ((by rw [hg];exact (aJ fU):w.heap.size≤jh));replace HB:=am (aD fU hb);clear hb hbox hg;obtain ⟨jk,jl,jm,jn,jo,jp,jq,jr,js,jt,ju,jv,jw,jx,jy,jz⟩:=eU jj.out))
 have H:=HH_.out
 clear HH_
 by_cases c3:a1=true
 ·subst c3
  rw [if_pos rfl] at H
  obtain ⟨ji,A4,H⟩:=bsa H
  (try dsimp only at H)
  obtain rfl:=Option.some.inj H
  go_wp2_with (first|((with_reducible refine aN (f:=88) rfl ?_);refine gl_ 8 Try.func88 #[.int .i64 j3, .int .i64 0, .int .i64 3] ?_;(with_reducible refine (gB.calls j3 0 3 ji _ A4.out).mono ?_);rintro e w' ⟨rfl,⟨nd,rfl⟩⟩;refine ⟨_,rfl,?_⟩))
  go_ret
  exact ⟨rr_,wJ⟩
 replace c3:=Bool.eq_false_iff.mpr c3
 subst c3
 rw [if_neg (show ¬ (false=true) by decide)] at H
 obtain rfl:=Option.some.inj H
 go_wp2
 go_ret
 exact ⟨rr_,wJ⟩
theorem gH.calls (j7:Int) (j8:Int) (j3:Int) (j9:Int) (ja:Int) (jb:Option Addr) (jc:Nat) (j4:List (S32)) (jd:Option Addr) (je:Nat) (j5:List (S35)) (jf:Option Addr) (jg:Nat) (j6:List (S35)) (a1:Bool) (r:Bool) (w:World) (hr0_5:Kd.C k32 w jb j4.length j4) (hc0_5:j4.length≤jc) (hr0_6:Kd.C k35 w jd j5.length j5) (hc0_6:j5.length≤je) (hr0_7:Kd.C k35 w jf j6.length j6) (hc0_7:j6.length≤jg) (h:gH.f j7 j8 j3 j9 ja j4 j5 j6 a1=some r):
  Calls Try.prog 110 #[.agg #[.int .i64 j7, .int .i64 j8, .int .i64 j3, .int .i64 j9, .int .i64 ja, .slice jb j4.length jc, .slice jd j5.length je, .slice jf j6.length jg], .bool a1] w fun e w'=>e= .returned (.bool r)∧Below w.heap.size w w':=by
 have hu35:=Try.underlying35
 have jA:=am hr0_5
 have jB:=am hc0_5
 clear hr0_5 hc0_5
 have jC:=am hr0_6
 have jD:=am hc0_6
 clear hr0_6 hc0_6
 have jE:=am hr0_7
 have jF:=am hc0_7
 clear hr0_7 hc0_7
 have HB:=am (Below.refl w.heap.size w)
 have H:(if a1=true then ((gB.f j3 0 2).bind fun ji=>(some ji)) else (some (j3 == 0)))=some r:=h
 clear h
 have HH_:=am H
 clear H
 go_enter Try.func110,Try.ntmps110
 go_upto_region 1 with (first|((with_reducible refine cZ (N:=2) rfl ?_);refine dO rfl (N:=2) rfl (cs:=#[.int .i64 j7, .int .i64 j8, .int .i64 j3, .int .i64 j9, .int .i64 ja, .slice jb j4.length jc, .slice jd j5.length je, .slice jf j6.length jg]) (t:=35) rn_ ?_;intro jh hg w5 hbox hb;have jj:=am (hbox);have jG:=am ((by rw [hg];exact (aJ fU):w.heap.size≤jh));have GE21:=am ((by rw [hg];exact (aJ fU):w.heap.size≤jh));replace HB:=am (aD fU hb);clear hb hbox hg;obtain ⟨jk,jl,jm,jn,jo,jp,jq,jr,js,jt,ju,jv,jw,jx,jy,jz⟩:=eU jj.out))
 have H:=HH_.out
 clear HH_
 by_cases c3:a1=true
 ·subst c3
  rw [if_pos rfl] at H
  obtain ⟨ji,A4,H⟩:=bsa H
  (try dsimp only at H)
  obtain rfl:=Option.some.inj H
  go_wp2_with (first|((with_reducible refine aN (f:=88) rfl ?_);refine gl_ 8 Try.func88 #[.int .i64 j3, .int .i64 0, .int .i64 2] ?_;(with_reducible refine (gB.calls j3 0 2 ji _ A4.out).mono ?_);rintro e w' ⟨rfl,⟨nd,rfl⟩⟩;refine ⟨_,rfl,?_⟩))
  go_ret
  exact ⟨rr_,wJ⟩
 replace c3:=Bool.eq_false_iff.mpr c3
 subst c3
 rw [if_neg (show ¬ (false=true) by decide)] at H
 obtain rfl:=Option.some.inj H
 go_wp2
 go_ret
 exact ⟨rr_,wJ⟩
theorem lN.calls (j3:Int) (j4:Int) (j6:Option Addr) (j7:Nat) (j5:List (S32)) (r:Bool) (w:World) (hr0_2:Kd.C k32 w j6 j5.length j5) (hc0_2:j5.length≤j7) (h:lN.f j3 j4 j5=some r):
  Calls Try.prog 115 #[.agg #[.int .i64 j3, .int .i64 j4, .slice j6 j5.length j7]] w fun e w'=>e= .returned (.bool r)∧Below w.heap.size w w':=by
 have hu32:=Try.underlying32
 have jk:=am hr0_2
 have jl:=am hc0_2
 clear hr0_2 hc0_2
 have HB:=am (Below.refl w.heap.size w)
 have H:(if j3=0 then (if j4=0 then (some ((j5.length:Int) == 0)) else (some false)) else (some false))=some r:=h
 clear h
 have HH_:=am H
 clear H
 go_enter Try.func115,Try.ntmps115
 go_upto_region 1 with (first|((with_reducible refine cZ (N:=1) rfl ?_);(try (refine kK (by rfl) ?_;dsimp only));refine dO rfl (N:=1) rfl (cs:=#[.int .i64 j3, .int .i64 j4, .slice j6 j5.length j7]) (t:=32) rn_ ?_;intro j8 hg w4 hbox hb;have j9:=am (hbox);have jm:=am ((by rw [hg];exact (aJ fU):w.heap.size≤j8));have GE20:=am ((by rw [hg];exact (aJ fU):w.heap.size≤j8));replace HB:=am (aD fU hb);clear hb hbox hg;obtain ⟨ja,jb,jc,jd,je,jf⟩:=gF j9.out))
 have H:=HH_.out
 clear HH_
 by_cases c2:j3=0
 ·rw [if_pos c2] at H
  have jg:(j3 == 0)=true:=beq_iff_eq.mpr c2
  have jh:(j3 != 0)=false:=bne_eq_false_iff_eq.mpr c2
  clear c2
  by_cases c3:j4=0
  ·rw [if_pos c3] at H
   have ji:(j4 == 0)=true:=beq_iff_eq.mpr c3
   have jj:(j4 != 0)=false:=bne_eq_false_iff_eq.mpr c3
   clear c3
   obtain rfl:=Option.some.inj H
   go_wp2
   go_ret
   exact ⟨rr_,MR⟩
  rw [if_neg c3] at H
  have ji:(j4 == 0)=false:=beq_eq_false_iff_ne.mpr c3
  have jj:(j4 != 0)=true:=bne_iff_ne.mpr c3
  obtain rfl:=Option.some.inj H
  go_wp2
  go_ret
  exact ⟨rr_,MR⟩
 rw [if_neg c2] at H
 have jg:(j3 == 0)=false:=beq_eq_false_iff_ne.mpr c2
 have jh:(j3 != 0)=true:=bne_iff_ne.mpr c2
 obtain rfl:=Option.some.inj H
 go_wp2
 go_ret
 exact ⟨rr_,MR⟩
theorem dY.mono_l:∀ k,(∀ y0 y1 y2 y3 y4 y5 y6 y7 y8,LeO (dY.j0 k y0 y1 y2 y3 y4 y5 y6 y7 y8) (dY.j0 (k + 1) y0 y1 y2 y3 y4 y5 y6 y7 y8))
 |0=>fun _ _ _ _ _ _ _ _ _ r h=>by simp [dY.j0] at h
 |k + 1=>by
  have ih0:=dY.mono_l k
  ·intro y0 y1 y2 y3 y4 y5 y6 y7 y8
   unfold dY.j0
   have m0:=@fC.mono
   exact mo_
theorem dY.mono:∀ a0 a1 a2 a3 a4 a5 a6 a7 k,LeO (dY.f k a0 a1 a2 a3 a4 a5 a6 a7) (dY.f (k + 1) a0 a1 a2 a3 a4 a5 a6 a7):=by
 intro a0 a1 a2 a3 a4 a5 a6 a7 k
 have ih0:=dY.mono_l k
 unfold dY.f
 have m0:=@fC.mono
 exact mo_
theorem dY.calls (k:Nat) (j4:Int) (ja:Int) (jb:Int) (j7:Int) (j8:Int) (ji:Option Addr) (jj:Nat) (j6:List (S32)) (jk:Option Addr) (jl:Nat) (j5:List (S35)) (jm:Option Addr) (jn:Nat) (j9:List (S35)) (r:Bool) (w:World) (hr0_5:Kd.C k32 w ji j6.length j6) (hc0_5:j6.length≤jj) (hr0_6:Kd.C k35 w jk j5.length j5) (hc0_6:j5.length≤jl) (hr0_7:Kd.C k35 w jm j9.length j9) (hc0_7:j9.length≤jn) (h:dY.f k j4 ja jb j7 j8 j6 j5 j9=some r):
  Calls Try.prog 108 #[.agg #[.int .i64 j4, .int .i64 ja, .int .i64 jb, .int .i64 j7, .int .i64 j8, .slice ji j6.length jj, .slice jk j5.length jl, .slice jm j9.length jn]] w fun e w'=>e= .returned (.bool r)∧Below w.heap.size w w':=by
 have hu35:=Try.underlying35
 have hu32:=Try.underlying32
 have jc:=am hr0_5
 have jd:=am hc0_5
 clear hr0_5 hc0_5
 have je:=am hr0_6
 have jf:=am hc0_6
 clear hr0_6 hc0_6
 have jg:=am hr0_7
 have jh:=am hc0_7
 clear hr0_7 hc0_7
 have HB:=am (Below.refl w.heap.size w)
 have H:(if (j5.length:Int) > 0 then (dY.j0 k true j4 ja jb j7 j8 j6 j5 j9) else (dY.j0 k (decide ((j9.length:Int) > 0)) j4 ja jb j7 j8 j6 j5 j9))=some r:=h
 clear h
 have VZ:=am H
 clear H
 go_enter Try.func108,Try.ntmps108
 go_upto_region 1 with (first|((with_reducible refine cZ (N:=1) rfl ?_);(try (refine kK (by rfl) ?_;dsimp only));refine dO rfl (N:=1) rfl (cs:=#[.int .i64 j4, .int .i64 ja, .int .i64 jb, .int .i64 j7, .int .i64 j8, .slice ji j6.length jj, .slice jk j5.length jl, .slice jm j9.length jn]) (t:=35) rn_ ?_;intro jq hg w3 hbox hb;have j3:=am (hbox);have XY:=am ((by rw [hg];exact (aJ fU):w.heap.size≤jq));have GE99:=am ((by rw [hg];exact (aJ fU):w.heap.size≤jq));replace HB:=am (aD fU hb);clear hb hbox hg))
 (try simp only [Act.put,List.setIfInBounds_toArray,List.set_cons_zero,List.set_cons_succ])
 go_cut [12] (fun XZ wc=>∃ (kq:Nat) (jo:Bool),XZ= .bool jo∧Aside0 (dY.j0 kq jo j4 ja jb j7 j8 j6 j5 j9=some r)∧Aside0 (kq≤k)∧Aside0 (wc.heap[jq]?=some (.cells #[.int .i64 j4, .int .i64 ja, .int .i64 jb, .int .i64 j7, .int .i64 j8,(.slice ji j6.length jj),(.slice jk j5.length jl),(.slice jm j9.length jn)] 35 (0,0)))∧Aside0 (Below w.heap.size w wc))
 case first=>
  have H:=VZ.out
  clear VZ
  by_cases c4:(j5.length:Int) > 0
  ·rw [if_pos c4] at H
   have jp:decide (0 < (j5.length:Int))=true:=decide_eq_true c4
   have X0:decide (0 < j5.length)=true:=decide_eq_true (by omega)
   clear c4
   (first|rw [jp]|(simp only [dN,dU];rw [jp])|skip)
   have H':=am H
   clear H
   obtain ⟨X1,X2,X3,X4,X5,X6,X7,X8,X9,Xa,Xb,Xc,Xd,Xe,Xf,Xg⟩:=eU j3.out
   go_wp2
   go_meet
   case rel=>exact ⟨_,(true),sd_,H',⟨by first|omega|exact Nat.le_refl _⟩,⟨by (with_reducible repeat (first|refine dI ?_ _|refine bK ?_|refine bY ?_ _));exact j3.out⟩,⟨kX⟩⟩
  rw [if_neg c4] at H
  have jp:decide (0 < (j5.length:Int))=false:=decide_eq_false c4
  have X0:decide (0 < j5.length)=false:=decide_eq_false (by omega)
  clear c4
  (first|rw [jp]|(simp only [dN,dU];rw [jp])|skip)
  have H':=am H
  clear H
  obtain ⟨Xh,Xi,Xj,Xk,Xl,Xm,Xn,Xo,Xp,Xq,Xr,Xs,Xt,Xu,Xv,Xw⟩:=eU j3.out
  go_wp2
  go_meet
  case rel=>exact ⟨_,(decide ((j9.length:Int) > 0)),sd_,H',⟨by first|omega|exact Nat.le_refl _⟩,⟨by (with_reducible repeat (first|refine dI ?_ _|refine bK ?_|refine bY ?_ _));exact j3.out⟩,⟨kX⟩⟩
 case rest=>
  clear VZ
  obtain ⟨kq,jo,rfl,HA,HJ1,j3,HB⟩:=hcut
  cases kq with
  |zero=>exact absurd HA.out (by simp [dY.j0])
  |succ Xx=>
   have H:=HA.out
   clear HA
   simp only [dY.j0] at H
   by_cases c7:jo=true
   ·subst c7
    rw [if_pos rfl] at H
    obtain rfl:=Option.some.inj H
    go_wp2
    go_ret
    exact ⟨rr_,kX⟩
   replace c7:=Bool.eq_false_iff.mpr c7
   subst c7
   rw [if_neg (show ¬ (false=true) by decide)] at H
   by_cases c8:j4=1
   ·rw [if_pos c8] at H
    have Xy:(j4 == 1)=true:=beq_iff_eq.mpr c8
    have Xz:(j4 != 1)=false:=bne_eq_false_iff_eq.mpr c8
    clear c8
    obtain ⟨XA,A9,H⟩:=bsa H
    (try dsimp only at H)
    by_cases c10:XA=true
    ·subst c10
     rw [if_pos rfl] at H
     obtain ⟨XB,XT,H⟩:=bsa H
     (try dsimp only at H)
     by_cases jQ:XB=true
     ·subst jQ
      rw [if_pos rfl] at H
      obtain ⟨XC,jv,H⟩:=bsm H
      (try dsimp only at H)
      have P0:=am jv
      clear jv
      obtain rfl:=Option.some.inj H
      obtain ⟨jR,jS,jT,jU,jV,jW,jX,jY,jZ,q0,q1,q2,q3,q4,q5,q6⟩:=eU j3.out
      go_wp2_with (first|((with_reducible refine aN (f:=109) rfl ?_);refine gl_ 18 Try.func109 #[.agg #[.int .i64 j4, .int .i64 ja, .int .i64 jb, .int .i64 j7, .int .i64 j8, .slice ji j6.length jj, .slice jk j5.length jl, .slice jm j9.length jn], .bool true] ?_;(with_reducible refine (fH.calls j4 ja jb j7 j8 _ _ j6 _ _ j5 _ _ j9 true true _ (aC_ (Kd.aV jc.out HB.out)) jd.out (aC_ (Kd.aV je.out HB.out)) jf.out (aC_ (Kd.aV jg.out HB.out)) jh.out A9.out).mono ?_);rintro e P5 ⟨rfl,hb⟩;refine ⟨_,rfl,?_⟩;replace j3:=bbP j3 hb;replace HB:=am (aD kX hb);(try clear hb);obtain ⟨q7,q8,q9,qa,qb,qc,qd,qe,qf,qg,qh,qi,qj,qk,ql,qm⟩:=eU j3.out)|(go_at_call 110;(with_reducible refine (gH.calls j4 ja jb j7 j8 _ _ j6 _ _ j5 _ _ j9 false true _ (aC_ (Kd.aV jc.out HB.out)) jd.out (aC_ (Kd.aV je.out HB.out)) jf.out (aC_ (Kd.aV jg.out HB.out)) jh.out XT.out).mono ?_);rintro e P6 ⟨rfl,hb⟩;replace j3:=bbP j3 hb;replace HB:=am (aD kX hb);(try clear hb);obtain ⟨qn,qo,qp,qq,qr,qs,qt,qu,qv,qw,qx,qy,qz,qA,qB,qC⟩:=eU j3.out)|(go_at_call 111;(with_reducible refine (fC.calls Xx j7 j8 _ _ j6 XC _ (aC_ (Kd.aV jc.out HB.out)) jd.out P0.out).mono ?_);rintro e P7 ⟨rfl,hb⟩;replace j3:=bbP j3 hb;replace HB:=am (aD kX hb);(try clear hb)))
      go_ret
      exact ⟨rr_,kX⟩
     replace jQ:=Bool.eq_false_iff.mpr jQ
     subst jQ
     rw [if_neg (show ¬ (false=true) by decide)] at H
     obtain rfl:=Option.some.inj H
     obtain ⟨qD,qE,qF,qG,qH,qI,qJ,qK,qL,qM,qN,qO,qP,qQ,qR,qS⟩:=eU j3.out
     go_wp2_with (first|((with_reducible refine aN (f:=109) rfl ?_);refine gl_ 18 Try.func109 #[.agg #[.int .i64 j4, .int .i64 ja, .int .i64 jb, .int .i64 j7, .int .i64 j8, .slice ji j6.length jj, .slice jk j5.length jl, .slice jm j9.length jn], .bool true] ?_;(with_reducible refine (fH.calls j4 ja jb j7 j8 _ _ j6 _ _ j5 _ _ j9 true true _ (aC_ (Kd.aV jc.out HB.out)) jd.out (aC_ (Kd.aV je.out HB.out)) jf.out (aC_ (Kd.aV jg.out HB.out)) jh.out A9.out).mono ?_);rintro e P8 ⟨rfl,hb⟩;refine ⟨_,rfl,?_⟩;replace j3:=bbP j3 hb;replace HB:=am (aD kX hb);(try clear hb);obtain ⟨qT,qU,qV,qW,qX,qY,qZ,z0,z1,z2,z3,z4,z5,z6,z7,z8⟩:=eU j3.out)|(go_at_call 110;(with_reducible refine (gH.calls j4 ja jb j7 j8 _ _ j6 _ _ j5 _ _ j9 false false _ (aC_ (Kd.aV jc.out HB.out)) jd.out (aC_ (Kd.aV je.out HB.out)) jf.out (aC_ (Kd.aV jg.out HB.out)) jh.out XT.out).mono ?_);rintro e P9 ⟨rfl,hb⟩;replace j3:=bbP j3 hb;replace HB:=am (aD kX hb);(try clear hb)))
     go_ret
     exact ⟨rr_,kX⟩
    replace c10:=Bool.eq_false_iff.mpr c10
    subst c10
    rw [if_neg (show ¬ (false=true) by decide)] at H
    obtain rfl:=Option.some.inj H
    obtain ⟨z9,za,zb,zc,zd,ze,zf,zg,zh,zi,zj,zk,zl,zm,zn,zo⟩:=eU j3.out
    go_wp2_with (first|((with_reducible refine aN (f:=109) rfl ?_);refine gl_ 18 Try.func109 #[.agg #[.int .i64 j4, .int .i64 ja, .int .i64 jb, .int .i64 j7, .int .i64 j8, .slice ji j6.length jj, .slice jk j5.length jl, .slice jm j9.length jn], .bool true] ?_;(with_reducible refine (fH.calls j4 ja jb j7 j8 _ _ j6 _ _ j5 _ _ j9 true false _ (aC_ (Kd.aV jc.out HB.out)) jd.out (aC_ (Kd.aV je.out HB.out)) jf.out (aC_ (Kd.aV jg.out HB.out)) jh.out A9.out).mono ?_);rintro e Pa ⟨rfl,hb⟩;refine ⟨_,rfl,?_⟩;replace j3:=bbP j3 hb;replace HB:=am (aD kX hb);(try clear hb)))
    go_ret
    exact ⟨rr_,kX⟩
   rw [if_neg c8] at H
   have Xy:(j4 == 1)=false:=beq_eq_false_iff_ne.mpr c8
   have Xz:(j4 != 1)=true:=bne_iff_ne.mpr c8
   by_cases jr:j4=4
   ·rw [if_pos jr] at H
    have jw:(j4 == 4)=true:=beq_iff_eq.mpr jr
    have jx:(j4 != 4)=false:=bne_eq_false_iff_eq.mpr jr
    clear jr
    obtain ⟨XD,jy,H⟩:=bsm H
    (try dsimp only at H)
    have XE:=am jy
    clear jy
    by_cases zp:XD=true
    ·subst zp
     rw [if_pos rfl] at H
     obtain ⟨XF,jz,H⟩:=bsm H
     (try dsimp only at H)
     have XU:=am jz
     clear jz
     by_cases zq:XF=true
     ·subst zq
      rw [if_pos rfl] at H
      obtain ⟨XG,jA,H⟩:=bsm H
      (try dsimp only at H)
      have P1:=am jA
      clear jA
      obtain rfl:=Option.some.inj H
      obtain ⟨zr,zs,zt,zu,zv,zw,zx,zy,zz,zA,zB,zC,zD,zE,zF,zG⟩:=eU j3.out
      go_wp2_with (first|((with_reducible refine aN (f:=109) rfl ?_);refine gl_ 31 Try.func109 #[.agg #[.int .i64 j4, .int .i64 ja, .int .i64 jb, .int .i64 j7, .int .i64 j8, .slice ji j6.length jj, .slice jk j5.length jl, .slice jm j9.length jn], .bool false] ?_;(with_reducible refine (fH.calls j4 ja jb j7 j8 _ _ j6 _ _ j5 _ _ j9 false true _ (aC_ (Kd.aV jc.out HB.out)) jd.out (aC_ (Kd.aV je.out HB.out)) jf.out (aC_ (Kd.aV jg.out HB.out)) jh.out XE.out).mono ?_);rintro e Pb ⟨rfl,hb⟩;refine ⟨_,rfl,?_⟩;replace j3:=bbP j3 hb;replace HB:=am (aD kX hb);(try clear hb);obtain ⟨zH,zI,zJ,zK,zL,zM,zN,zO,zP,zQ,zR,zS,zT,zU,zV,zW⟩:=eU j3.out)|(go_at_call 110;(with_reducible refine (gH.calls j4 ja jb j7 j8 _ _ j6 _ _ j5 _ _ j9 true true _ (aC_ (Kd.aV jc.out HB.out)) jd.out (aC_ (Kd.aV je.out HB.out)) jf.out (aC_ (Kd.aV jg.out HB.out)) jh.out XU.out).mono ?_);rintro e Pc ⟨rfl,hb⟩;replace j3:=bbP j3 hb;replace HB:=am (aD kX hb);(try clear hb);obtain ⟨zX,zY,zZ,J0,J1,J2,J3,J4,J5,J6,J7,J8,J9,Ja,Jb,Jc⟩:=eU j3.out)|(go_at_call 111;(with_reducible refine (fC.calls Xx j7 j8 _ _ j6 XG _ (aC_ (Kd.aV jc.out HB.out)) jd.out P1.out).mono ?_);rintro e Pd ⟨rfl,hb⟩;replace j3:=bbP j3 hb;replace HB:=am (aD kX hb);(try clear hb)))
      go_ret
      exact ⟨rr_,kX⟩
     replace zq:=Bool.eq_false_iff.mpr zq
     subst zq
     rw [if_neg (show ¬ (false=true) by decide)] at H
     obtain rfl:=Option.some.inj H
     obtain ⟨Jd,Je,Jf,Jg,Jh,Ji,Jj,Jk,Jl,Jm,Jn,Jo,Jp,Jq,Jr,Js⟩:=eU j3.out
     go_wp2_with (first|((with_reducible refine aN (f:=109) rfl ?_);refine gl_ 31 Try.func109 #[.agg #[.int .i64 j4, .int .i64 ja, .int .i64 jb, .int .i64 j7, .int .i64 j8, .slice ji j6.length jj, .slice jk j5.length jl, .slice jm j9.length jn], .bool false] ?_;(with_reducible refine (fH.calls j4 ja jb j7 j8 _ _ j6 _ _ j5 _ _ j9 false true _ (aC_ (Kd.aV jc.out HB.out)) jd.out (aC_ (Kd.aV je.out HB.out)) jf.out (aC_ (Kd.aV jg.out HB.out)) jh.out XE.out).mono ?_);rintro e Pe ⟨rfl,hb⟩;refine ⟨_,rfl,?_⟩;replace j3:=bbP j3 hb;replace HB:=am (aD kX hb);(try clear hb);obtain ⟨Jt,Ju,Jv,Jw,Jx,Jy,Jz,JA,JB,JC,JD,JE,JF,JG,JH,JI⟩:=eU j3.out)|(go_at_call 110;(with_reducible refine (gH.calls j4 ja jb j7 j8 _ _ j6 _ _ j5 _ _ j9 true false _ (aC_ (Kd.aV jc.out HB.out)) jd.out (aC_ (Kd.aV je.out HB.out)) jf.out (aC_ (Kd.aV jg.out HB.out)) jh.out XU.out).mono ?_);rintro e Pf ⟨rfl,hb⟩;replace j3:=bbP j3 hb;replace HB:=am (aD kX hb);(try clear hb)))
     go_ret
     exact ⟨rr_,kX⟩
    replace zp:=Bool.eq_false_iff.mpr zp
    subst zp
    rw [if_neg (show ¬ (false=true) by decide)] at H
    obtain rfl:=Option.some.inj H
    obtain ⟨JJ,JK,JL,JM,JN,JO,JP,JQ,JR,JS,JT,JU,JV,JW,JX,JY⟩:=eU j3.out
    go_wp2_with (first|((with_reducible refine aN (f:=109) rfl ?_);refine gl_ 31 Try.func109 #[.agg #[.int .i64 j4, .int .i64 ja, .int .i64 jb, .int .i64 j7, .int .i64 j8, .slice ji j6.length jj, .slice jk j5.length jl, .slice jm j9.length jn], .bool false] ?_;(with_reducible refine (fH.calls j4 ja jb j7 j8 _ _ j6 _ _ j5 _ _ j9 false false _ (aC_ (Kd.aV jc.out HB.out)) jd.out (aC_ (Kd.aV je.out HB.out)) jf.out (aC_ (Kd.aV jg.out HB.out)) jh.out XE.out).mono ?_);rintro e Pg ⟨rfl,hb⟩;refine ⟨_,rfl,?_⟩;replace j3:=bbP j3 hb;replace HB:=am (aD kX hb);(try clear hb)))
    go_ret
    exact ⟨rr_,kX⟩
   rw [if_neg jr] at H
   have jw:(j4 == 4)=false:=beq_eq_false_iff_ne.mpr jr
   have jx:(j4 != 4)=true:=bne_iff_ne.mpr jr
   by_cases js:j4=5
   ·rw [if_pos js] at H
    have jB:(j4 == 5)=true:=beq_iff_eq.mpr js
    have jC:(j4 != 5)=false:=bne_eq_false_iff_eq.mpr js
    clear js
    obtain ⟨XH,jD,H⟩:=bsm H
    (try dsimp only at H)
    have XI:=am jD
    clear jD
    by_cases JZ:XH=true
    ·subst JZ
     rw [if_pos rfl] at H
     obtain ⟨XJ,jE,H⟩:=bsm H
     (try dsimp only at H)
     have XV:=am jE
     clear jE
     by_cases Q0:XJ=true
     ·subst Q0
      rw [if_pos rfl] at H
      obtain ⟨XK,jF,H⟩:=bsm H
      (try dsimp only at H)
      have P2:=am jF
      clear jF
      obtain rfl:=Option.some.inj H
      obtain ⟨Q1,Q2,Q3,Q4,Q5,Q6,Q7,Q8,Q9,Qa,Qb,Qc,Qd,Qe,Qf,Qg⟩:=eU j3.out
      go_wp2_with (first|((with_reducible refine aN (f:=109) rfl ?_);refine gl_ 44 Try.func109 #[.agg #[.int .i64 j4, .int .i64 ja, .int .i64 jb, .int .i64 j7, .int .i64 j8, .slice ji j6.length jj, .slice jk j5.length jl, .slice jm j9.length jn], .bool true] ?_;(with_reducible refine (fH.calls j4 ja jb j7 j8 _ _ j6 _ _ j5 _ _ j9 true true _ (aC_ (Kd.aV jc.out HB.out)) jd.out (aC_ (Kd.aV je.out HB.out)) jf.out (aC_ (Kd.aV jg.out HB.out)) jh.out XI.out).mono ?_);rintro e Ph ⟨rfl,hb⟩;refine ⟨_,rfl,?_⟩;replace j3:=bbP j3 hb;replace HB:=am (aD kX hb);(try clear hb);obtain ⟨Qh,Qi,Qj,Qk,Ql,Qm,Qn,Qo,Qp,Qq,Qr,Qs,Qt,Qu,Qv,Qw⟩:=eU j3.out)|(go_at_call 110;(with_reducible refine (gH.calls j4 ja jb j7 j8 _ _ j6 _ _ j5 _ _ j9 true true _ (aC_ (Kd.aV jc.out HB.out)) jd.out (aC_ (Kd.aV je.out HB.out)) jf.out (aC_ (Kd.aV jg.out HB.out)) jh.out XV.out).mono ?_);rintro e Pi ⟨rfl,hb⟩;replace j3:=bbP j3 hb;replace HB:=am (aD kX hb);(try clear hb);obtain ⟨Qx,Qy,Qz,QA,QB,QC,QD,QE,QF,QG,QH,QI,QJ,QK,QL,QM⟩:=eU j3.out)|(go_at_call 115;(with_reducible refine (lN.calls j7 j8 _ _ j6 XK _ (aC_ (Kd.aV jc.out HB.out)) jd.out P2.out).mono ?_);rintro e Pj ⟨rfl,hb⟩;replace j3:=bbP j3 hb;replace HB:=am (aD kX hb);(try clear hb)))
      go_ret
      exact ⟨rr_,kX⟩
     replace Q0:=Bool.eq_false_iff.mpr Q0
     subst Q0
     rw [if_neg (show ¬ (false=true) by decide)] at H
     obtain rfl:=Option.some.inj H
     obtain ⟨QN,QO,QP,QQ,QR,QS,QT,QU,QV,QW,QX,QY,QZ,Z0,Z1,Z2⟩:=eU j3.out
     go_wp2_with (first|((with_reducible refine aN (f:=109) rfl ?_);refine gl_ 44 Try.func109 #[.agg #[.int .i64 j4, .int .i64 ja, .int .i64 jb, .int .i64 j7, .int .i64 j8, .slice ji j6.length jj, .slice jk j5.length jl, .slice jm j9.length jn], .bool true] ?_;(with_reducible refine (fH.calls j4 ja jb j7 j8 _ _ j6 _ _ j5 _ _ j9 true true _ (aC_ (Kd.aV jc.out HB.out)) jd.out (aC_ (Kd.aV je.out HB.out)) jf.out (aC_ (Kd.aV jg.out HB.out)) jh.out XI.out).mono ?_);rintro e Pk ⟨rfl,hb⟩;refine ⟨_,rfl,?_⟩;replace j3:=bbP j3 hb;replace HB:=am (aD kX hb);(try clear hb);obtain ⟨Z3,Z4,Z5,Z6,Z7,Z8,Z9,Za,Zb,Zc,Zd,Ze,Zf,Zg,Zh,Zi⟩:=eU j3.out)|(go_at_call 110;(with_reducible refine (gH.calls j4 ja jb j7 j8 _ _ j6 _ _ j5 _ _ j9 true false _ (aC_ (Kd.aV jc.out HB.out)) jd.out (aC_ (Kd.aV je.out HB.out)) jf.out (aC_ (Kd.aV jg.out HB.out)) jh.out XV.out).mono ?_);rintro e Pl ⟨rfl,hb⟩;replace j3:=bbP j3 hb;replace HB:=am (aD kX hb);(try clear hb)))
     go_ret
     exact ⟨rr_,kX⟩
    replace JZ:=Bool.eq_false_iff.mpr JZ
    subst JZ
    rw [if_neg (show ¬ (false=true) by decide)] at H
    obtain rfl:=Option.some.inj H
    obtain ⟨Zj,Zk,Zl,Zm,Zn,Zo,Zp,Zq,Zr,Zs,Zt,Zu,Zv,Zw,Zx,Zy⟩:=eU j3.out
    go_wp2_with (first|((with_reducible refine aN (f:=109) rfl ?_);refine gl_ 44 Try.func109 #[.agg #[.int .i64 j4, .int .i64 ja, .int .i64 jb, .int .i64 j7, .int .i64 j8, .slice ji j6.length jj, .slice jk j5.length jl, .slice jm j9.length jn], .bool true] ?_;(with_reducible refine (fH.calls j4 ja jb j7 j8 _ _ j6 _ _ j5 _ _ j9 true false _ (aC_ (Kd.aV jc.out HB.out)) jd.out (aC_ (Kd.aV je.out HB.out)) jf.out (aC_ (Kd.aV jg.out HB.out)) jh.out XI.out).mono ?_);rintro e Pm ⟨rfl,hb⟩;refine ⟨_,rfl,?_⟩;replace j3:=bbP j3 hb;replace HB:=am (aD kX hb);(try clear hb)))
    go_ret
    exact ⟨rr_,kX⟩
   rw [if_neg js] at H
   have jB:(j4 == 5)=false:=beq_eq_false_iff_ne.mpr js
   have jC:(j4 != 5)=true:=bne_iff_ne.mpr js
   by_cases jt:j4=6
   ·rw [if_pos jt] at H
    have jG:(j4 == 6)=true:=beq_iff_eq.mpr jt
    have jH:(j4 != 6)=false:=bne_eq_false_iff_eq.mpr jt
    clear jt
    obtain ⟨XL,jI,H⟩:=bsm H
    (try dsimp only at H)
    have XM:=am jI
    clear jI
    by_cases Zz:XL=true
    ·subst Zz
     rw [if_pos rfl] at H
     obtain ⟨XN,jJ,H⟩:=bsm H
     (try dsimp only at H)
     have XW:=am jJ
     clear jJ
     by_cases ZA:XN=true
     ·subst ZA
      rw [if_pos rfl] at H
      obtain ⟨XO,jK,H⟩:=bsm H
      (try dsimp only at H)
      have P3:=am jK
      clear jK
      obtain rfl:=Option.some.inj H
      obtain ⟨ZB,ZC,ZD,ZE,ZF,ZG,ZH,ZI,ZJ,ZK,ZL,ZM,ZN,ZO,ZP,ZQ⟩:=eU j3.out
      go_wp2_with (first|((with_reducible refine aN (f:=109) rfl ?_);refine gl_ 57 Try.func109 #[.agg #[.int .i64 j4, .int .i64 ja, .int .i64 jb, .int .i64 j7, .int .i64 j8, .slice ji j6.length jj, .slice jk j5.length jl, .slice jm j9.length jn], .bool false] ?_;(with_reducible refine (fH.calls j4 ja jb j7 j8 _ _ j6 _ _ j5 _ _ j9 false true _ (aC_ (Kd.aV jc.out HB.out)) jd.out (aC_ (Kd.aV je.out HB.out)) jf.out (aC_ (Kd.aV jg.out HB.out)) jh.out XM.out).mono ?_);rintro e Pn ⟨rfl,hb⟩;refine ⟨_,rfl,?_⟩;replace j3:=bbP j3 hb;replace HB:=am (aD kX hb);(try clear hb);obtain ⟨ZR,ZS,ZT,ZU,ZV,ZW,ZX,ZY,ZZ,Y0,Y1,Y2,Y3,Y4,Y5,Y6⟩:=eU j3.out)|(go_at_call 110;(with_reducible refine (gH.calls j4 ja jb j7 j8 _ _ j6 _ _ j5 _ _ j9 false true _ (aC_ (Kd.aV jc.out HB.out)) jd.out (aC_ (Kd.aV je.out HB.out)) jf.out (aC_ (Kd.aV jg.out HB.out)) jh.out XW.out).mono ?_);rintro e Po ⟨rfl,hb⟩;replace j3:=bbP j3 hb;replace HB:=am (aD kX hb);(try clear hb);obtain ⟨Y7,Y8,Y9,Ya,Yb,Yc,Yd,Ye,Yf,Yg,Yh,Yi,Yj,Yk,Yl,Ym⟩:=eU j3.out)|(go_at_call 115;(with_reducible refine (lN.calls j7 j8 _ _ j6 XO _ (aC_ (Kd.aV jc.out HB.out)) jd.out P3.out).mono ?_);rintro e Pp ⟨rfl,hb⟩;replace j3:=bbP j3 hb;replace HB:=am (aD kX hb);(try clear hb)))
      go_ret
      exact ⟨rr_,kX⟩
     replace ZA:=Bool.eq_false_iff.mpr ZA
     subst ZA
     rw [if_neg (show ¬ (false=true) by decide)] at H
     obtain rfl:=Option.some.inj H
     obtain ⟨Yn,Yo,Yp,Yq,Yr,Ys,Yt,Yu,Yv,Yw,Yx,Yy,Yz,YA,YB,YC⟩:=eU j3.out
     go_wp2_with (first|((with_reducible refine aN (f:=109) rfl ?_);refine gl_ 57 Try.func109 #[.agg #[.int .i64 j4, .int .i64 ja, .int .i64 jb, .int .i64 j7, .int .i64 j8, .slice ji j6.length jj, .slice jk j5.length jl, .slice jm j9.length jn], .bool false] ?_;(with_reducible refine (fH.calls j4 ja jb j7 j8 _ _ j6 _ _ j5 _ _ j9 false true _ (aC_ (Kd.aV jc.out HB.out)) jd.out (aC_ (Kd.aV je.out HB.out)) jf.out (aC_ (Kd.aV jg.out HB.out)) jh.out XM.out).mono ?_);rintro e Pq ⟨rfl,hb⟩;refine ⟨_,rfl,?_⟩;replace j3:=bbP j3 hb;replace HB:=am (aD kX hb);(try clear hb);obtain ⟨YD,YE,YF,YG,YH,YI,YJ,YK,YL,YM,YN,YO,YP,YQ,YR,YS⟩:=eU j3.out)|(go_at_call 110;(with_reducible refine (gH.calls j4 ja jb j7 j8 _ _ j6 _ _ j5 _ _ j9 false false _ (aC_ (Kd.aV jc.out HB.out)) jd.out (aC_ (Kd.aV je.out HB.out)) jf.out (aC_ (Kd.aV jg.out HB.out)) jh.out XW.out).mono ?_);rintro e Pr ⟨rfl,hb⟩;replace j3:=bbP j3 hb;replace HB:=am (aD kX hb);(try clear hb)))
     go_ret
     exact ⟨rr_,kX⟩
    replace Zz:=Bool.eq_false_iff.mpr Zz
    subst Zz
    rw [if_neg (show ¬ (false=true) by decide)] at H
    obtain rfl:=Option.some.inj H
    obtain ⟨YT,YU,YV,YW,YX,YY,YZ,U0,U1,U2,U3,U4,U5,U6,U7,U8⟩:=eU j3.out
    go_wp2_with (first|((with_reducible refine aN (f:=109) rfl ?_);refine gl_ 57 Try.func109 #[.agg #[.int .i64 j4, .int .i64 ja, .int .i64 jb, .int .i64 j7, .int .i64 j8, .slice ji j6.length jj, .slice jk j5.length jl, .slice jm j9.length jn], .bool false] ?_;(with_reducible refine (fH.calls j4 ja jb j7 j8 _ _ j6 _ _ j5 _ _ j9 false false _ (aC_ (Kd.aV jc.out HB.out)) jd.out (aC_ (Kd.aV je.out HB.out)) jf.out (aC_ (Kd.aV jg.out HB.out)) jh.out XM.out).mono ?_);rintro e Ps ⟨rfl,hb⟩;refine ⟨_,rfl,?_⟩;replace j3:=bbP j3 hb;replace HB:=am (aD kX hb);(try clear hb)))
    go_ret
    exact ⟨rr_,kX⟩
   rw [if_neg jt] at H
   have jG:(j4 == 6)=false:=beq_eq_false_iff_ne.mpr jt
   have jH:(j4 != 6)=true:=bne_iff_ne.mpr jt
   by_cases ju:j4=7
   ·rw [if_pos ju] at H
    have jL:(j4 == 7)=true:=beq_iff_eq.mpr ju
    have jM:(j4 != 7)=false:=bne_eq_false_iff_eq.mpr ju
    clear ju
    obtain ⟨XP,jN,H⟩:=bsm H
    (try dsimp only at H)
    have XQ:=am jN
    clear jN
    by_cases U9:XP=true
    ·subst U9
     rw [if_pos rfl] at H
     obtain ⟨XR,jO,H⟩:=bsm H
     (try dsimp only at H)
     have XX:=am jO
     clear jO
     by_cases Ua:XR=true
     ·subst Ua
      rw [if_pos rfl] at H
      obtain ⟨XS,jP,H⟩:=bsm H
      (try dsimp only at H)
      have P4:=am jP
      clear jP
      obtain rfl:=Option.some.inj H
      obtain ⟨Ub,Uc,Ud,Ue,Uf,Ug,Uh,Ui,Uj,Uk,Ul,Um,Un,Uo,Up,Uq⟩:=eU j3.out
      go_wp2_with (first|((with_reducible refine aN (f:=109) rfl ?_);refine gl_ 70 Try.func109 #[.agg #[.int .i64 j4, .int .i64 ja, .int .i64 jb, .int .i64 j7, .int .i64 j8, .slice ji j6.length jj, .slice jk j5.length jl, .slice jm j9.length jn], .bool false] ?_;(with_reducible refine (fH.calls j4 ja jb j7 j8 _ _ j6 _ _ j5 _ _ j9 false true _ (aC_ (Kd.aV jc.out HB.out)) jd.out (aC_ (Kd.aV je.out HB.out)) jf.out (aC_ (Kd.aV jg.out HB.out)) jh.out XQ.out).mono ?_);rintro e Pt ⟨rfl,hb⟩;refine ⟨_,rfl,?_⟩;replace j3:=bbP j3 hb;replace HB:=am (aD kX hb);(try clear hb);obtain ⟨Ur,Us,Ut,Uu,Uv,Uw,Ux,Uy,Uz,UA,UB,UC,UD,UE,UF,UG⟩:=eU j3.out)|(go_at_call 110;(with_reducible refine (gH.calls j4 ja jb j7 j8 _ _ j6 _ _ j5 _ _ j9 false true _ (aC_ (Kd.aV jc.out HB.out)) jd.out (aC_ (Kd.aV je.out HB.out)) jf.out (aC_ (Kd.aV jg.out HB.out)) jh.out XX.out).mono ?_);rintro e Pu ⟨rfl,hb⟩;replace j3:=bbP j3 hb;replace HB:=am (aD kX hb);(try clear hb);obtain ⟨UH,UI,UJ,UK,UL,UM,UN,UO,UP,UQ,UR,US,UT,UU,UV,UW⟩:=eU j3.out)|(go_at_call 111;(with_reducible refine (fC.calls Xx j7 j8 _ _ j6 XS _ (aC_ (Kd.aV jc.out HB.out)) jd.out P4.out).mono ?_);rintro e Pv ⟨rfl,hb⟩;replace j3:=bbP j3 hb;replace HB:=am (aD kX hb);(try clear hb)))
      go_ret
      exact ⟨rr_,kX⟩
     replace Ua:=Bool.eq_false_iff.mpr Ua
     subst Ua
     rw [if_neg (show ¬ (false=true) by decide)] at H
     obtain rfl:=Option.some.inj H
     obtain ⟨UX,UY,UZ,V0,V1,V2,V3,V4,V5,V6,V7,V8,V9,Va,Vb,Vc⟩:=eU j3.out
     go_wp2_with (first|((with_reducible refine aN (f:=109) rfl ?_);refine gl_ 70 Try.func109 #[.agg #[.int .i64 j4, .int .i64 ja, .int .i64 jb, .int .i64 j7, .int .i64 j8, .slice ji j6.length jj, .slice jk j5.length jl, .slice jm j9.length jn], .bool false] ?_;(with_reducible refine (fH.calls j4 ja jb j7 j8 _ _ j6 _ _ j5 _ _ j9 false true _ (aC_ (Kd.aV jc.out HB.out)) jd.out (aC_ (Kd.aV je.out HB.out)) jf.out (aC_ (Kd.aV jg.out HB.out)) jh.out XQ.out).mono ?_);rintro e Pw ⟨rfl,hb⟩;refine ⟨_,rfl,?_⟩;replace j3:=bbP j3 hb;replace HB:=am (aD kX hb);(try clear hb);obtain ⟨Vd,Ve,Vf,Vg,Vh,Vi,Vj,Vk,Vl,Vm,Vn,Vo,Vp,Vq,Vr,Vs⟩:=eU j3.out)|(go_at_call 110;(with_reducible refine (gH.calls j4 ja jb j7 j8 _ _ j6 _ _ j5 _ _ j9 false false _ (aC_ (Kd.aV jc.out HB.out)) jd.out (aC_ (Kd.aV je.out HB.out)) jf.out (aC_ (Kd.aV jg.out HB.out)) jh.out XX.out).mono ?_);rintro e Px ⟨rfl,hb⟩;replace j3:=bbP j3 hb;replace HB:=am (aD kX hb);(try clear hb)))
     go_ret
     exact ⟨rr_,kX⟩
    replace U9:=Bool.eq_false_iff.mpr U9
    subst U9
    rw [if_neg (show ¬ (false=true) by decide)] at H
    obtain rfl:=Option.some.inj H
    obtain ⟨Vt,Vu,Vv,Vw,Vx,Vy,Vz,VA,VB,VC,VD,VE,VF,VG,VH,VI⟩:=eU j3.out
    go_wp2_with (first|((with_reducible refine aN (f:=109) rfl ?_);refine gl_ 70 Try.func109 #[.agg #[.int .i64 j4, .int .i64 ja, .int .i64 jb, .int .i64 j7, .int .i64 j8, .slice ji j6.length jj, .slice jk j5.length jl, .slice jm j9.length jn], .bool false] ?_;(with_reducible refine (fH.calls j4 ja jb j7 j8 _ _ j6 _ _ j5 _ _ j9 false false _ (aC_ (Kd.aV jc.out HB.out)) jd.out (aC_ (Kd.aV je.out HB.out)) jf.out (aC_ (Kd.aV jg.out HB.out)) jh.out XQ.out).mono ?_);rintro e Py ⟨rfl,hb⟩;refine ⟨_,rfl,?_⟩;replace j3:=bbP j3 hb;replace HB:=am (aD kX hb);(try clear hb)))
    go_ret
    exact ⟨rr_,kX⟩
   rw [if_neg ju] at H
   have jL:(j4 == 7)=false:=beq_eq_false_iff_ne.mpr ju
   have jM:(j4 != 7)=true:=bne_iff_ne.mpr ju
   obtain rfl:=Option.some.inj H
   obtain ⟨VJ,VK,VL,VM,VN,VO,VP,VQ,VR,VS,VT,VU,VV,VW,VX,VY⟩:=eU j3.out
   go_wp2
   go_ret
   exact ⟨rr_,kX⟩
theorem dH.mono_all:∀ k,(∀ y0 y1 y2 y3 y4 y5 y6 y7 y8,LeO (dH.f k y0 y1 y2 y3 y4 y5 y6 y7 y8) (dH.f (k + 1) y0 y1 y2 y3 y4 y5 y6 y7 y8))∧(∀ y0 y1 y2 y3 y4 y5 y6 y7 y8 y9,LeO (dH.j0 k y0 y1 y2 y3 y4 y5 y6 y7 y8 y9) (dH.j0 (k + 1) y0 y1 y2 y3 y4 y5 y6 y7 y8 y9))∧(∀ y0 y1 y2 y3 y4 y5 y6 y7 y8 y9,LeO (dH.j1 k y0 y1 y2 y3 y4 y5 y6 y7 y8 y9) (dH.j1 (k + 1) y0 y1 y2 y3 y4 y5 y6 y7 y8 y9))∧(∀ y0 y1,LeO (dB.f k y0 y1) (dB.f (k + 1) y0 y1))∧(∀ y0 y1 y2,LeO (dB.l0 k y0 y1 y2) (dB.l0 (k + 1) y0 y1 y2))
 |0=>⟨fun _ _ _ _ _ _ _ _ _ r h=>by simp [dH.f] at h,fun _ _ _ _ _ _ _ _ _ _ r h=>by simp [dH.j0] at h,fun _ _ _ _ _ _ _ _ _ _ r h=>by simp [dH.j1] at h,fun _ _ r h=>by simp [dB.f] at h,fun _ _ _ r h=>by simp [dB.l0] at h⟩
 |k + 1=>by
  obtain ⟨ih0,ih1,ih2,ih3,ih4⟩:=dH.mono_all k
  refine ⟨?_,?_,?_,?_,?_⟩
  ·intro y0 y1 y2 y3 y4 y5 y6 y7 y8
   unfold dH.f
   have m0:=@fC.mono
   have m1:=@dY.mono
   exact mo_
  ·intro y0 y1 y2 y3 y4 y5 y6 y7 y8 y9
   unfold dH.j0
   have m0:=@fC.mono
   have m1:=@dY.mono
   exact mo_
  ·intro y0 y1 y2 y3 y4 y5 y6 y7 y8 y9
   unfold dH.j1
   have m0:=@fC.mono
   have m1:=@dY.mono
   exact mo_
  ·intro y0 y1
   unfold dB.f
   have m0:=@fC.mono
   have m1:=@dY.mono
   exact mo_
  ·intro y0 y1 y2
   unfold dB.l0
   have m0:=@fC.mono
   have m1:=@dY.mono
   exact mo_
theorem dH.mono:∀ a0 a1 a2 a3 a4 a5 a6 a7 a8 k,LeO (dH.f k a0 a1 a2 a3 a4 a5 a6 a7 a8) (dH.f (k + 1) a0 a1 a2 a3 a4 a5 a6 a7 a8):=by
 intro a0 a1 a2 a3 a4 a5 a6 a7 a8 k
 obtain ⟨ih0,ih1,ih2,ih3,ih4⟩:=dH.mono_all k
 exact ih0 a0 a1 a2 a3 a4 a5 a6 a7 a8
theorem dB.mono:∀ a0 a1 k,LeO (dB.f k a0 a1) (dB.f (k + 1) a0 a1):=by
 intro a0 a1 k
 obtain ⟨ih0,ih1,ih2,ih3,ih4⟩:=dH.mono_all k
 exact ih3 a0 a1
abbrev dH.fO (k:Nat):Prop:=∀ (a0_0:Int) (a0_1:Int) (a0_2:Int) (a0_3:Int) (a0_4:Int) (A0_5:Option Addr) (c0_5:Nat) (l0_5:List (S32)) (A0_6:Option Addr) (c0_6:Nat) (l0_6:List (S35)) (A0_7:Option Addr) (c0_7:Nat) (l0_7:List (S35)) (a1:Int) (r:Bool) (w:World) (hr0_5:Kd.C k32 w A0_5 l0_5.length l0_5) (hc0_5:l0_5.length≤c0_5) (hr0_6:Kd.C k35 w A0_6 l0_6.length l0_6) (hc0_6:l0_6.length≤c0_6) (hr0_7:Kd.C k35 w A0_7 l0_7.length l0_7) (hc0_7:l0_7.length≤c0_7) (h:dH.f k a0_0 a0_1 a0_2 a0_3 a0_4 l0_5 l0_6 l0_7 a1=some r),
  Calls Try.prog 95 #[.agg #[.int .i64 a0_0, .int .i64 a0_1, .int .i64 a0_2, .int .i64 a0_3, .int .i64 a0_4, .slice A0_5 l0_5.length c0_5, .slice A0_6 l0_6.length c0_6, .slice A0_7 l0_7.length c0_7], .int .i64 a1] w fun e w'=>e= .returned (.bool r)∧Below w.heap.size w w'
abbrev dB.fO (k:Nat):Prop:=∀ (A0:Option Addr) (c0:Nat) (l0:List (S35)) (a1:Int) (r:Bool) (w:World) (hr0:Kd.C k35 w A0 l0.length l0) (hc0:l0.length≤c0) (h:dB.f k l0 a1=some r),
  Calls Try.prog 79 #[.slice A0 l0.length c0, .int .i64 a1] w fun e w'=>e= .returned (.bool r)∧Below w.heap.size w w'
theorem dH.step (k:Nat) (ih_spec_l11Ok:∀ m,m < k→dH.fO m) (ih_spec_l11Blocks:∀ m,m < k→dB.fO m):dH.fO k:=by
 intro j4 ja jb j5 j6 ji jj j7 jk jl j8 jm jn j9 a1 r w hr0_5 hc0_5 hr0_6 hc0_6 hr0_7 hc0_7 h
 cases k with
 |zero=>exact absurd h (by simp [dH.f])
 |succ k=>
 simp only [dH.f] at h
 have hu35:=Try.underlying35
 have hu32:=Try.underlying32
 have jc:=am hr0_5
 have jd:=am hc0_5
 clear hr0_5 hc0_5
 have je:=am hr0_6
 have jf:=am hc0_6
 clear hr0_6 hc0_6
 have jg:=am hr0_7
 have jh:=am hc0_7
 clear hr0_7 hc0_7
 have HB:=am (Below.refl w.heap.size w)
 have H:(if j4=2 then (dH.j0 k a1 false j4 ja jb j5 j6 j7 j8 j9) else (dH.j0 k a1 (j4 != 3) j4 ja jb j5 j6 j7 j8 j9))=some r:=h
 clear h
 have Zk:=am H
 clear H
 go_enter Try.func95,Try.ntmps95
 go_upto_region 1 with (first|((with_reducible refine cZ (N:=2) rfl ?_);(try (refine kK (by rfl) ?_;dsimp only));refine dO rfl (N:=2) rfl (cs:=#[.int .i64 j4, .int .i64 ja, .int .i64 jb, .int .i64 j5, .int .i64 j6, .slice ji j7.length jj, .slice jk j8.length jl, .slice jm j9.length jn]) (t:=35) rn_ ?_;intro jt hg w4 hbox hb;have j3:=am (hbox);have GW57:=am ((by rw [hg];exact (aJ fU):w.heap.size≤jt));have GE57:=am ((by rw [hg];exact (aJ fU):w.heap.size≤jt));replace HB:=am (aD fU hb);clear hb hbox hg))
 (try simp only [Act.put,List.setIfInBounds_toArray,List.set_cons_zero,List.set_cons_succ])
 go_cut [12] (fun Y0 wc=>∃ (kq:Nat) (jq:Bool),Y0= .bool jq∧Aside0 (dH.j0 kq a1 jq j4 ja jb j5 j6 j7 j8 j9=some r)∧Aside0 (kq≤k)∧Aside0 (wc.heap[jt]?=some (.cells #[.int .i64 j4, .int .i64 ja, .int .i64 jb, .int .i64 j5, .int .i64 j6,(.slice ji j7.length jj),(.slice jk j8.length jl),(.slice jm j9.length jn)] 35 (0,0)))∧Aside0 (Below w.heap.size w wc))
 case first=>
  have H:=Zk.out
  clear Zk
  by_cases c5:j4=2
  ·rw [if_pos c5] at H
   have js:(j4 == 2)=true:=beq_iff_eq.mpr c5
   have Zl:(j4 != 2)=false:=bne_eq_false_iff_eq.mpr c5
   clear c5
   (first|rw [js]|(simp only [dN,dU];rw [js])|skip)
   have H':=am H
   clear H
   obtain ⟨Zm,Zn,Zo,Zp,Zq,Zr,Zs,Zt,Zu,Zv,Zw,Zx,Zy,Zz,ZA,ZB⟩:=eU j3.out
   go_wp2
   go_meet
   case rel=>exact ⟨_,(false),sd_,H',⟨by first|omega|exact Nat.le_refl _⟩,⟨by (with_reducible repeat (first|refine dI ?_ _|refine bK ?_|refine bY ?_ _));exact j3.out⟩,⟨mK⟩⟩
  rw [if_neg c5] at H
  have js:(j4 == 2)=false:=beq_eq_false_iff_ne.mpr c5
  have Zl:(j4 != 2)=true:=bne_iff_ne.mpr c5
  (first|rw [js]|(simp only [dN,dU];rw [js])|skip)
  have H':=am H
  clear H
  obtain ⟨ZC,ZD,ZE,ZF,ZG,ZH,ZI,ZJ,ZK,ZL,ZM,ZN,ZO,ZP,ZQ,ZR⟩:=eU j3.out
  go_wp2
  go_meet
  case rel=>exact ⟨_,((j4 != 3)),sd_,H',⟨by first|omega|exact Nat.le_refl _⟩,⟨by (with_reducible repeat (first|refine dI ?_ _|refine bK ?_|refine bY ?_ _));exact j3.out⟩,⟨mK⟩⟩
 case rest=>
  clear Zk
  obtain ⟨kq,jq,rfl,HA,HJ2,j3,HB⟩:=hcut
  cases kq with
  |zero=>exact absurd HA.out (by simp [dH.j0])
  |succ ZT=>
   have H:=HA.out
   clear HA
   simp only [dH.j0] at H
   by_cases c8:jq=true
   ·subst c8
    rw [if_pos rfl] at H
    obtain ⟨Y1,A9,H⟩:=bsa H
    (try dsimp only at H)
    obtain rfl:=Option.some.inj H
    obtain ⟨jA,jB,jC,jD,jE,jF,jG,jH,jI,jJ,jK,jL,jM,jN,jO,jP⟩:=eU j3.out
    go_wp2_with (first|((with_reducible refine aN (f:=108) rfl ?_);refine gl_ 14 Try.func108 #[.agg #[.int .i64 j4, .int .i64 ja, .int .i64 jb, .int .i64 j5, .int .i64 j6, .slice ji j7.length jj, .slice jk j8.length jl, .slice jm j9.length jn]] ?_;(with_reducible refine (dY.calls ZT j4 ja jb j5 j6 _ _ j7 _ _ j8 _ _ j9 Y1 _ (aC_ (Kd.aV jc.out HB.out)) jd.out (aC_ (Kd.aV je.out HB.out)) jf.out (aC_ (Kd.aV jg.out HB.out)) jh.out A9.out).mono ?_);rintro e Y9 ⟨rfl,hb⟩;refine ⟨_,rfl,?_⟩;replace j3:=bbP j3 hb;replace HB:=am (aD mK hb);(try clear hb)))
    go_ret
    exact ⟨rr_,mK⟩
   replace c8:=Bool.eq_false_iff.mpr c8
   subst c8
   rw [if_neg (show ¬ (false=true) by decide)] at H
   have ju:=am H
   clear H
   go_upto_region 3 with (fail)
   go_cut [27] (fun Y2 wc=>∃ (kq:Nat) (jo:Bool),Y2= .bool jo∧Aside0 (dH.j1 kq a1 jo j4 ja jb j5 j6 j7 j8 j9=some r)∧Aside0 (kq≤ZT)∧Aside0 (wc.heap[jt]?=some (.cells #[.int .i64 j4, .int .i64 ja, .int .i64 jb, .int .i64 j5, .int .i64 j6,(.slice ji j7.length jj),(.slice jk j8.length jl),(.slice jm j9.length jn)] 35 (0,0)))∧Aside0 (Below w.heap.size w wc))
   case first=>
    have H:=ju.out
    clear ju
    by_cases jw:a1 < 1
    ·rw [if_pos jw] at H
     have jp:decide (a1 < 1)=true:=decide_eq_true jw
     clear jw
     (first|rw [jp]|(simp only [dN,dU];rw [jp])|skip)
     have H':=am H
     clear H
     go_wp2
     go_meet
     case rel=>exact ⟨_,(true),sd_,H',⟨by have:=HJ2.out;first|omega|exact Nat.le_refl _⟩,⟨by (with_reducible repeat (first|refine dI ?_ _|refine bK ?_|refine bY ?_ _));exact j3.out⟩,⟨mK⟩⟩
    rw [if_neg jw] at H
    have jp:decide (a1 < 1)=false:=decide_eq_false jw
    clear jw
    (first|rw [jp]|(simp only [dN,dU];rw [jp])|skip)
    by_cases jv:j4=3
    ·rw [if_pos jv] at H
     have jx:(j4 == 3)=true:=beq_iff_eq.mpr jv
     have jy:(j4 != 3)=false:=bne_eq_false_iff_eq.mpr jv
     clear jv
     have H':=am H
     clear H
     obtain ⟨jQ,jR,jS,jT,jU,jV,jW,jX,jY,jZ,q0,q1,q2,q3,q4,q5⟩:=eU j3.out
     go_wp2
     go_meet
     case rel=>exact ⟨_,(decide ((j9.length:Int) > 0)),sd_,H',⟨by have:=HJ2.out;first|omega|exact Nat.le_refl _⟩,⟨by (with_reducible repeat (first|refine dI ?_ _|refine bK ?_|refine bY ?_ _));exact j3.out⟩,⟨mK⟩⟩
    rw [if_neg jv] at H
    have jx:(j4 == 3)=false:=beq_eq_false_iff_ne.mpr jv
    have jy:(j4 != 3)=true:=bne_iff_ne.mpr jv
    have H':=am H
    clear H
    obtain ⟨q6,q7,q8,q9,qa,qb,qc,qd,qe,qf,qg,qh,qi,qj,qk,ql⟩:=eU j3.out
    go_wp2
    go_meet
    case rel=>exact ⟨_,(false),sd_,H',⟨by have:=HJ2.out;first|omega|exact Nat.le_refl _⟩,⟨by (with_reducible repeat (first|refine dI ?_ _|refine bK ?_|refine bY ?_ _));exact j3.out⟩,⟨mK⟩⟩
   case rest=>
    clear ju
    try clear c8
    obtain ⟨kq,jo,rfl,HA,HJ11,j3,HB⟩:=hcut
    cases kq with
    |zero=>exact absurd HA.out (by simp [dH.j1])
    |succ jr=>
     have H:=HA.out
     clear HA
     simp only [dH.j1] at H
     by_cases qm:jo=true
     ·subst qm
      rw [if_pos rfl] at H
      obtain rfl:=Option.some.inj H
      go_wp2
      go_ret
      exact ⟨rr_,mK⟩
     replace qm:=Bool.eq_false_iff.mpr qm
     subst qm
     rw [if_neg (show ¬ (false=true) by decide)] at H
     obtain ⟨Y3,ZU,H⟩:=bsm H
     (try dsimp only at H)
     have jz:=am ZU
     clear ZU
     by_cases qn:Y3=true
     ·subst qn
      rw [if_pos rfl] at H
      obtain ⟨Y4,ZV,H⟩:=bsm H
      (try dsimp only at H)
      have qo:=am ZV
      clear ZV
      by_cases qp:Y4=true
      ·subst qp
       rw [if_pos rfl] at H
       obtain ⟨Y5,ZW,H⟩:=bsm H
       (try dsimp only at H)
       have ZS:=am ZW
       clear ZW
       by_cases qq:Y5=true
       ·subst qq
        rw [if_pos rfl] at H
        obtain ⟨Y6,ZX,H⟩:=bsm H
        (try dsimp only at H)
        have ZY:=am ZX
        clear ZX
        by_cases qr:Y6=true
        ·subst qr
         rw [if_pos rfl] at H
         obtain ⟨Y7,ZZ,H⟩:=bsm H
         (try dsimp only at H)
         have Y8:=am ZZ
         clear ZZ
         obtain rfl:=Option.some.inj H
         obtain ⟨qs,qt,qu,qv,qw,qx,qy,qz,qA,qB,qC,qD,qE,qF,qG,qH⟩:=eU j3.out
         go_wp2_with (first|((with_reducible refine aN (f:=109) rfl ?_);refine gl_ 29 Try.func109 #[.agg #[.int .i64 j4, .int .i64 ja, .int .i64 jb, .int .i64 j5, .int .i64 j6, .slice ji j7.length jj, .slice jk j8.length jl, .slice jm j9.length jn], .bool false] ?_;(with_reducible refine (fH.calls j4 ja jb j5 j6 _ _ j7 _ _ j8 _ _ j9 false true _ (aC_ (Kd.aV jc.out HB.out)) jd.out (aC_ (Kd.aV je.out HB.out)) jf.out (aC_ (Kd.aV jg.out HB.out)) jh.out jz.out).mono ?_);rintro e Ya ⟨rfl,hb⟩;refine ⟨_,rfl,?_⟩;replace j3:=bbP j3 hb;replace HB:=am (aD mK hb);(try clear hb);obtain ⟨qI,qJ,qK,qL,qM,qN,qO,qP,qQ,qR,qS,qT,qU,qV,qW,qX⟩:=eU j3.out)|(go_at_call 110;(with_reducible refine (gH.calls j4 ja jb j5 j6 _ _ j7 _ _ j8 _ _ j9 false true _ (aC_ (Kd.aV jc.out HB.out)) jd.out (aC_ (Kd.aV je.out HB.out)) jf.out (aC_ (Kd.aV jg.out HB.out)) jh.out qo.out).mono ?_);rintro e Yb ⟨rfl,hb⟩;replace j3:=bbP j3 hb;replace HB:=am (aD mK hb);(try clear hb);obtain ⟨qY,qZ,z0,z1,z2,z3,z4,z5,z6,z7,z8,z9,za,zb,zc,zd⟩:=eU j3.out)|(go_at_call 111;(with_reducible refine (fC.calls jr j5 j6 _ _ j7 true _ (aC_ (Kd.aV jc.out HB.out)) jd.out ZS.out).mono ?_);rintro e Yc ⟨rfl,hb⟩;replace j3:=bbP j3 hb;replace HB:=am (aD mK hb);(try clear hb);obtain ⟨ze,zf,zg,zh,zi,zj,zk,zl,zm,zn,zo,zp,zq,zr,zs,zt⟩:=eU j3.out)|(go_at_call 79;(with_reducible refine (ih_spec_l11Blocks jr (by have:=HJ2.out;have:=HJ11.out;omega) _ _ j8 (wrap64 (a1 - 1)) true _ (aC_ (Kd.aV je.out HB.out)) jf.out ZY.out).mono ?_);rintro e Yd ⟨rfl,hb⟩;replace j3:=bbP j3 hb;replace HB:=am (aD mK hb);(try clear hb);obtain ⟨zu,zv,zw,zx,zy,zz,zA,zB,zC,zD,zE,zF,zG,zH,zI,zJ⟩:=eU j3.out)|(go_at_call 79;(with_reducible refine (ih_spec_l11Blocks jr (by have:=HJ2.out;have:=HJ11.out;omega) _ _ j9 (wrap64 (a1 - 1)) Y7 _ (aC_ (Kd.aV jg.out HB.out)) jh.out Y8.out).mono ?_);rintro e Ye ⟨rfl,hb⟩;replace j3:=bbP j3 hb;replace HB:=am (aD mK hb);(try clear hb)))
         go_ret
         exact ⟨rr_,mK⟩
        replace qr:=Bool.eq_false_iff.mpr qr
        subst qr
        rw [if_neg (show ¬ (false=true) by decide)] at H
        obtain rfl:=Option.some.inj H
        obtain ⟨zK,zL,zM,zN,zO,zP,zQ,zR,zS,zT,zU,zV,zW,zX,zY,zZ⟩:=eU j3.out
        go_wp2_with (first|((with_reducible refine aN (f:=109) rfl ?_);refine gl_ 29 Try.func109 #[.agg #[.int .i64 j4, .int .i64 ja, .int .i64 jb, .int .i64 j5, .int .i64 j6, .slice ji j7.length jj, .slice jk j8.length jl, .slice jm j9.length jn], .bool false] ?_;(with_reducible refine (fH.calls j4 ja jb j5 j6 _ _ j7 _ _ j8 _ _ j9 false true _ (aC_ (Kd.aV jc.out HB.out)) jd.out (aC_ (Kd.aV je.out HB.out)) jf.out (aC_ (Kd.aV jg.out HB.out)) jh.out jz.out).mono ?_);rintro e Yf ⟨rfl,hb⟩;refine ⟨_,rfl,?_⟩;replace j3:=bbP j3 hb;replace HB:=am (aD mK hb);(try clear hb);obtain ⟨J0,J1,J2,J3,J4,J5,J6,J7,J8,J9,Ja,Jb,Jc,Jd,Je,Jf⟩:=eU j3.out)|(go_at_call 110;(with_reducible refine (gH.calls j4 ja jb j5 j6 _ _ j7 _ _ j8 _ _ j9 false true _ (aC_ (Kd.aV jc.out HB.out)) jd.out (aC_ (Kd.aV je.out HB.out)) jf.out (aC_ (Kd.aV jg.out HB.out)) jh.out qo.out).mono ?_);rintro e Yg ⟨rfl,hb⟩;replace j3:=bbP j3 hb;replace HB:=am (aD mK hb);(try clear hb);obtain ⟨Jg,Jh,Ji,Jj,Jk,Jl,Jm,Jn,Jo,Jp,Jq,Jr,Js,Jt,Ju,Jv⟩:=eU j3.out)|(go_at_call 111;(with_reducible refine (fC.calls jr j5 j6 _ _ j7 true _ (aC_ (Kd.aV jc.out HB.out)) jd.out ZS.out).mono ?_);rintro e Yh ⟨rfl,hb⟩;replace j3:=bbP j3 hb;replace HB:=am (aD mK hb);(try clear hb);obtain ⟨Jw,Jx,Jy,Jz,JA,JB,JC,JD,JE,JF,JG,JH,JI,JJ,JK,JL⟩:=eU j3.out)|(go_at_call 79;(with_reducible refine (ih_spec_l11Blocks jr (by have:=HJ2.out;have:=HJ11.out;omega) _ _ j8 (wrap64 (a1 - 1)) false _ (aC_ (Kd.aV je.out HB.out)) jf.out ZY.out).mono ?_);rintro e Yi ⟨rfl,hb⟩;replace j3:=bbP j3 hb;replace HB:=am (aD mK hb);(try clear hb)))
        go_ret
        exact ⟨rr_,mK⟩
       replace qq:=Bool.eq_false_iff.mpr qq
       subst qq
       rw [if_neg (show ¬ (false=true) by decide)] at H
       obtain rfl:=Option.some.inj H
       obtain ⟨JM,JN,JO,JP,JQ,JR,JS,JT,JU,JV,JW,JX,JY,JZ,Q0,Q1⟩:=eU j3.out
       go_wp2_with (first|((with_reducible refine aN (f:=109) rfl ?_);refine gl_ 29 Try.func109 #[.agg #[.int .i64 j4, .int .i64 ja, .int .i64 jb, .int .i64 j5, .int .i64 j6, .slice ji j7.length jj, .slice jk j8.length jl, .slice jm j9.length jn], .bool false] ?_;(with_reducible refine (fH.calls j4 ja jb j5 j6 _ _ j7 _ _ j8 _ _ j9 false true _ (aC_ (Kd.aV jc.out HB.out)) jd.out (aC_ (Kd.aV je.out HB.out)) jf.out (aC_ (Kd.aV jg.out HB.out)) jh.out jz.out).mono ?_);rintro e Yj ⟨rfl,hb⟩;refine ⟨_,rfl,?_⟩;replace j3:=bbP j3 hb;replace HB:=am (aD mK hb);(try clear hb);obtain ⟨Q2,Q3,Q4,Q5,Q6,Q7,Q8,Q9,Qa,Qb,Qc,Qd,Qe,Qf,Qg,Qh⟩:=eU j3.out)|(go_at_call 110;(with_reducible refine (gH.calls j4 ja jb j5 j6 _ _ j7 _ _ j8 _ _ j9 false true _ (aC_ (Kd.aV jc.out HB.out)) jd.out (aC_ (Kd.aV je.out HB.out)) jf.out (aC_ (Kd.aV jg.out HB.out)) jh.out qo.out).mono ?_);rintro e Yk ⟨rfl,hb⟩;replace j3:=bbP j3 hb;replace HB:=am (aD mK hb);(try clear hb);obtain ⟨Qi,Qj,Qk,Ql,Qm,Qn,Qo,Qp,Qq,Qr,Qs,Qt,Qu,Qv,Qw,Qx⟩:=eU j3.out)|(go_at_call 111;(with_reducible refine (fC.calls jr j5 j6 _ _ j7 false _ (aC_ (Kd.aV jc.out HB.out)) jd.out ZS.out).mono ?_);rintro e Yl ⟨rfl,hb⟩;replace j3:=bbP j3 hb;replace HB:=am (aD mK hb);(try clear hb)))
       go_ret
       exact ⟨rr_,mK⟩
      replace qp:=Bool.eq_false_iff.mpr qp
      subst qp
      rw [if_neg (show ¬ (false=true) by decide)] at H
      obtain rfl:=Option.some.inj H
      obtain ⟨Qy,Qz,QA,QB,QC,QD,QE,QF,QG,QH,QI,QJ,QK,QL,QM,QN⟩:=eU j3.out
      go_wp2_with (first|((with_reducible refine aN (f:=109) rfl ?_);refine gl_ 29 Try.func109 #[.agg #[.int .i64 j4, .int .i64 ja, .int .i64 jb, .int .i64 j5, .int .i64 j6, .slice ji j7.length jj, .slice jk j8.length jl, .slice jm j9.length jn], .bool false] ?_;(with_reducible refine (fH.calls j4 ja jb j5 j6 _ _ j7 _ _ j8 _ _ j9 false true _ (aC_ (Kd.aV jc.out HB.out)) jd.out (aC_ (Kd.aV je.out HB.out)) jf.out (aC_ (Kd.aV jg.out HB.out)) jh.out jz.out).mono ?_);rintro e Ym ⟨rfl,hb⟩;refine ⟨_,rfl,?_⟩;replace j3:=bbP j3 hb;replace HB:=am (aD mK hb);(try clear hb);obtain ⟨QO,QP,QQ,QR,QS,QT,QU,QV,QW,QX,QY,QZ,Z0,Z1,Z2,Z3⟩:=eU j3.out)|(go_at_call 110;(with_reducible refine (gH.calls j4 ja jb j5 j6 _ _ j7 _ _ j8 _ _ j9 false false _ (aC_ (Kd.aV jc.out HB.out)) jd.out (aC_ (Kd.aV je.out HB.out)) jf.out (aC_ (Kd.aV jg.out HB.out)) jh.out qo.out).mono ?_);rintro e Yn ⟨rfl,hb⟩;replace j3:=bbP j3 hb;replace HB:=am (aD mK hb);(try clear hb)))
      go_ret
      exact ⟨rr_,mK⟩
     replace qn:=Bool.eq_false_iff.mpr qn
     subst qn
     rw [if_neg (show ¬ (false=true) by decide)] at H
     obtain rfl:=Option.some.inj H
     obtain ⟨Z4,Z5,Z6,Z7,Z8,Z9,Za,Zb,Zc,Zd,Ze,Zf,Zg,Zh,Zi,Zj⟩:=eU j3.out
     go_wp2_with (first|((with_reducible refine aN (f:=109) rfl ?_);refine gl_ 29 Try.func109 #[.agg #[.int .i64 j4, .int .i64 ja, .int .i64 jb, .int .i64 j5, .int .i64 j6, .slice ji j7.length jj, .slice jk j8.length jl, .slice jm j9.length jn], .bool false] ?_;(with_reducible refine (fH.calls j4 ja jb j5 j6 _ _ j7 _ _ j8 _ _ j9 false false _ (aC_ (Kd.aV jc.out HB.out)) jd.out (aC_ (Kd.aV je.out HB.out)) jf.out (aC_ (Kd.aV jg.out HB.out)) jh.out jz.out).mono ?_);rintro e Yo ⟨rfl,hb⟩;refine ⟨_,rfl,?_⟩;replace j3:=bbP j3 hb;replace HB:=am (aD mK hb);(try clear hb)))
     go_ret
     exact ⟨rr_,mK⟩
theorem dB.step (k:Nat) (ih_spec_l11Ok:∀ m,m < k→dH.fO m) (ih_spec_l11Blocks:∀ m,m < k→dB.fO m):dB.fO k:=by
 intro A0 c0 l0 a1 r w hr0 hc0 h
 cases k with
 |zero=>exact absurd h (by simp [dB.f])
 |succ k=>
 simp only [dB.f] at h
 have hu35:=Try.underlying35
 have ju:=am hr0
 have jx:=am hc0
 clear hr0 hc0
 have HB:=am (Below.refl w.heap.size w)
 have H:(dB.l0 k l0 a1 0)=some r:=h
 clear h
 have H':=am H
 clear H
 go_enter Try.func79,Try.ntmps79
 go_wp2
 go_loopg [5] k (fun kq v5 w'=>∃ (j3:Int),v5= .int .i64 j3∧Aside0 (dB.l0 kq l0 a1 j3=some r)∧Aside0 (kq≤k)∧Aside0 (Below w.heap.size w w'))
 case atStart=>exact ⟨(0),sd_,H',⟨Nat.le_refl _⟩,⟨fU⟩⟩
 case round=>
  clear H'
  obtain ⟨j3,rfl,HA,jq,HB⟩:=hrel
  cases gk with
  |zero=>exact absurd HA.out (by simp [dB.l0])
  |succ k1=>
   have H:=HA.out
   clear HA
   simp only [dB.l0] at H
   by_cases c3:j3 < (l0.length:Int)
   ·rw [if_pos c3] at H
    have jr:decide (j3 < (l0.length:Int))=true:=decide_eq_true c3
    clear c3
    by_cases c4:0≤j3
    ·rw [if_pos c4] at H
     have jv:decide (0≤j3)=true:=decide_eq_true c4
     clear c4
     obtain ⟨jw,A5,H⟩:=bsa H
     (try dsimp only at H)
     by_cases c6:jw=true
     ·subst c6
      rw [if_pos rfl] at H
      have H':=am H
      clear H
      have jo:0≤(j3:Int):=of_decide_eq_true fV
      have jp:j3 < (l0.length:Int):=of_decide_eq_true fV
      obtain ⟨js,ji,jj,jk,jl,jm,jn,jt,j4,j5,j6,j7,j8,j9,ja,jb,hl21_5,hi21_5,hl21_6,hi21_6,hl21_7,hi21_7⟩:=uU ju.out j3 jo jp
      cases jt
      replace j4:=(HB.out.cell (World.block_lt_of_cell? w _ j4)).trans j4
      replace j5:=(HB.out.cell (World.block_lt_of_cell? w _ j5)).trans j5
      replace j6:=(HB.out.cell (World.block_lt_of_cell? w _ j6)).trans j6
      replace j7:=(HB.out.cell (World.block_lt_of_cell? w _ j7)).trans j7
      replace j8:=(HB.out.cell (World.block_lt_of_cell? w _ j8)).trans j8
      replace j9:=(HB.out.cell (World.block_lt_of_cell? w _ j9)).trans j9
      replace ja:=(HB.out.cell (World.block_lt_of_cell? w _ ja)).trans ja
      replace jb:=(HB.out.cell (World.block_lt_of_cell? w _ jb)).trans jb
      have jc:=am hi21_5
      have jd:=am hl21_5
      clear hi21_5 hl21_5
      have je:=am hi21_6
      have jf:=am hl21_6
      clear hi21_6 hl21_6
      have jg:=am hi21_7
      have jh:=am hl21_7
      clear hi21_7 hl21_7
      replace jo:=eq_true jo
      replace jp:=eq_true jp
      go_wp2_with (first|((with_reducible refine aN (f:=95) rfl ?_);refine gl_ 17 Try.func95 #[.agg #[.int .i64 ((aA l0 j3).f0), .int .i64 ((aA l0 j3).f1), .int .i64 ((aA l0 j3).f2), .int .i64 ((aA l0 j3).f3.f0), .int .i64 ((aA l0 j3).f3.f1), .slice ji ((aA l0 j3).f3.f2).length jj, .slice jk ((aA l0 j3).f4).length jl, .slice jm ((aA l0 j3).f5).length jn], .int .i64 a1] ?_;(with_reducible refine (ih_spec_l11Ok k1 (by have:=jq.out;omega) ((aA l0 j3).f0) ((aA l0 j3).f1) ((aA l0 j3).f2) ((aA l0 j3).f3.f0) ((aA l0 j3).f3.f1) _ _ ((aA l0 j3).f3.f2) _ _ ((aA l0 j3).f4) _ _ ((aA l0 j3).f5) a1 true _ (aC_ (Kd.aV jc.out HB.out)) jd.out (aC_ (Kd.aV je.out HB.out)) jf.out (aC_ (Kd.aV jg.out HB.out)) jh.out A5.out).mono ?_);rintro e w7 ⟨rfl,hb⟩;refine ⟨_,rfl,?_⟩;replace HB:=am (aD fU hb);(try clear hb)))
      go_roundg k1
      case measure=>have:=jq.out;omega
      case rel=>exact ⟨(wrap64 (j3 + 1)),sd_,H',⟨by have:=jq.out;omega⟩,⟨fU⟩⟩
     replace c6:=Bool.eq_false_iff.mpr c6
     subst c6
     rw [if_neg (show ¬ (false=true) by decide)] at H
     obtain rfl:=Option.some.inj H
     have jo:0≤(j3:Int):=of_decide_eq_true fV
     have jp:j3 < (l0.length:Int):=of_decide_eq_true fV
     obtain ⟨js,ji,jj,jk,jl,jm,jn,jt,j4,j5,j6,j7,j8,j9,ja,jb,hl21_5,hi21_5,hl21_6,hi21_6,hl21_7,hi21_7⟩:=uU ju.out j3 jo jp
     cases jt
     replace j4:=(HB.out.cell (World.block_lt_of_cell? w _ j4)).trans j4
     replace j5:=(HB.out.cell (World.block_lt_of_cell? w _ j5)).trans j5
     replace j6:=(HB.out.cell (World.block_lt_of_cell? w _ j6)).trans j6
     replace j7:=(HB.out.cell (World.block_lt_of_cell? w _ j7)).trans j7
     replace j8:=(HB.out.cell (World.block_lt_of_cell? w _ j8)).trans j8
     replace j9:=(HB.out.cell (World.block_lt_of_cell? w _ j9)).trans j9
     replace ja:=(HB.out.cell (World.block_lt_of_cell? w _ ja)).trans ja
     replace jb:=(HB.out.cell (World.block_lt_of_cell? w _ jb)).trans jb
     have jc:=am hi21_5
     have jd:=am hl21_5
     clear hi21_5 hl21_5
     have je:=am hi21_6
     have jf:=am hl21_6
     clear hi21_6 hl21_6
     have jg:=am hi21_7
     have jh:=am hl21_7
     clear hi21_7 hl21_7
     replace jo:=eq_true jo
     replace jp:=eq_true jp
     go_wp2_with (first|((with_reducible refine aN (f:=95) rfl ?_);refine gl_ 17 Try.func95 #[.agg #[.int .i64 ((aA l0 j3).f0), .int .i64 ((aA l0 j3).f1), .int .i64 ((aA l0 j3).f2), .int .i64 ((aA l0 j3).f3.f0), .int .i64 ((aA l0 j3).f3.f1), .slice ji ((aA l0 j3).f3.f2).length jj, .slice jk ((aA l0 j3).f4).length jl, .slice jm ((aA l0 j3).f5).length jn], .int .i64 a1] ?_;(with_reducible refine (ih_spec_l11Ok k1 (by have:=jq.out;omega) ((aA l0 j3).f0) ((aA l0 j3).f1) ((aA l0 j3).f2) ((aA l0 j3).f3.f0) ((aA l0 j3).f3.f1) _ _ ((aA l0 j3).f3.f2) _ _ ((aA l0 j3).f4) _ _ ((aA l0 j3).f5) a1 false _ (aC_ (Kd.aV jc.out HB.out)) jd.out (aC_ (Kd.aV je.out HB.out)) jf.out (aC_ (Kd.aV jg.out HB.out)) jh.out A5.out).mono ?_);rintro e w8 ⟨rfl,hb⟩;refine ⟨_,rfl,?_⟩;replace HB:=am (aD fU hb);(try clear hb)))
     go_ret
     exact ⟨rr_,fU⟩
    rw [if_neg c4] at H
    exact absurd H (by simp)
   rw [if_neg c3] at H
   have jr:decide (j3 < (l0.length:Int))=false:=decide_eq_false c3
   clear c3
   obtain rfl:=Option.some.inj H
   go_wp2
   go_ret
   exact ⟨rr_,fU⟩
theorem dH.calls_all (k:Nat):dH.fO k∧dB.fO k:=by
 induction k using Nat.strongRecOn with
 | _ k ih=>exact ⟨dH.step k (ih_spec_l11Ok:=fun m hm=>(ih m hm).1) (ih_spec_l11Blocks:=fun m hm=>(ih m hm).2),dB.step k (ih_spec_l11Ok:=fun m hm=>(ih m hm).1) (ih_spec_l11Blocks:=fun m hm=>(ih m hm).2)⟩
theorem dH.calls (k:Nat):dH.fO k:=(dH.calls_all k).1
theorem dB.calls (k:Nat):dB.fO k:=(dH.calls_all k).2
theorem gK.mono:∀ a0 k,LeO (gK.f k a0) (gK.f (k + 1) a0):=by
 intro a0 k
 unfold gK.f
 have m0:=@dB.mono
 have m1:=@bX.mono
 exact mo_
theorem gK.calls (k:Nat) (A0:Option Addr) (c0:Nat) (l0:List (S35)) (r:Bool) (w:World) (hr0:Kd.C k35 w A0 l0.length l0) (hc0:l0.length≤c0) (h:gK.f k l0=some r):
  Calls Try.prog 47 #[.slice A0 l0.length c0] w fun e w'=>e= .returned (.bool r)∧Below w.heap.size w w':=by
 have j3:=am hr0
 have j4:=am hc0
 clear hr0 hc0
 have HB:=am (Below.refl w.heap.size w)
 have H:((dB.f k l0 3).bind fun j5=>(if j5=true then ((bX.f k l0).bind fun j6=>(some (decide (j6≤16)))) else (some false)))=some r:=h
 clear h
 obtain ⟨j5,A2,H⟩:=bsa H
 (try dsimp only at H)
 by_cases c3:j5=true
 ·subst c3
  rw [if_pos rfl] at H
  obtain ⟨j6,A4,H⟩:=bsa H
  (try dsimp only at H)
  obtain rfl:=Option.some.inj H
  go_enter Try.func47,Try.ntmps47
  go_wp2_with (first|((with_reducible refine aN (f:=79) rfl ?_);refine gl_ 4 Try.func79 #[.slice A0 l0.length c0, .int .i64 3] ?_;(with_reducible refine (dB.calls k _ _ l0 3 true _ (aC_ j3.out) j4.out A2.out).mono ?_);rintro e w5 ⟨rfl,hb⟩;refine ⟨_,rfl,?_⟩;replace HB:=am (aD fU hb);(try clear hb))|(go_at_call 80;(with_reducible refine (bX.calls k _ _ l0 j6 _ (aC_ (Kd.aV j3.out HB.out)) j4.out A4.out).mono ?_);rintro e w6 ⟨rfl,hb⟩;replace HB:=am (aD fU hb);(try clear hb)))
  go_ret
  exact ⟨rr_,fU⟩
 replace c3:=Bool.eq_false_iff.mpr c3
 subst c3
 rw [if_neg (show ¬ (false=true) by decide)] at H
 obtain rfl:=Option.some.inj H
 go_enter Try.func47,Try.ntmps47
 go_wp2_with (first|((with_reducible refine aN (f:=79) rfl ?_);refine gl_ 4 Try.func79 #[.slice A0 l0.length c0, .int .i64 3] ?_;(with_reducible refine (dB.calls k _ _ l0 3 false _ (aC_ j3.out) j4.out A2.out).mono ?_);rintro e w7 ⟨rfl,hb⟩;refine ⟨_,rfl,?_⟩;replace HB:=am (aD fU hb);(try clear hb)))
 go_ret
 exact ⟨rr_,fU⟩
theorem eB.mono_l:∀ k,(∀ y0 y1,LeO (eB.l0 k y0 y1) (eB.l0 (k + 1) y0 y1))
 |0=>fun _ _ r h=>by simp [eB.l0] at h
 |k + 1=>by
  have ih0:=eB.mono_l k
  ·intro y0 y1
   unfold eB.l0
   exact mo_
theorem eB.mono:∀ a0 k,LeO (eB.f k a0) (eB.f (k + 1) a0):=by
 intro a0 k
 have ih0:=eB.mono_l k
 unfold eB.f
 exact mo_
theorem eB.calls (k:Nat) (A0:Option Addr) (c0:Nat) (l0:List Int) (r:Bool) (w:World) (hr0:Kd.C (Kd.int .i64) w A0 l0.length l0) (hc0:l0.length≤c0) (h:eB.f k l0=some r):
  Calls Try.prog 87 #[.slice A0 l0.length c0] w fun e w'=>e= .returned (.bool r)∧iX w w':=by
 have ja:=am hr0
 have je:=am hc0
 clear hr0 hc0
 have H:(eB.l0 k l0 0)=some r:=h
 clear h
 have H':=am H
 clear H
 go_enter Try.func87,Try.ntmps87
 go_wp2
 go_loopg [3] k (fun kq v3 w'=>∃ (j3:Int),v3= .int .i64 j3∧Aside0 (eB.l0 kq l0 j3=some r)∧Aside0 (kq≤k)∧iX w w')
 case atStart=>exact ⟨(0),sd_,H',⟨Nat.le_refl _⟩,gM⟩
 case round=>
  clear H'
  obtain ⟨j3,rfl,HA,jb,⟨m1,rfl⟩⟩:=hrel
  cases gk with
  |zero=>exact absurd HA.out (by simp [eB.l0])
  |succ k1=>
   have H:=HA.out
   clear HA
   simp only [eB.l0] at H
   by_cases c2:j3 < (l0.length:Int)
   ·rw [if_pos c2] at H
    have j7:decide (j3 < (l0.length:Int))=true:=decide_eq_true c2
    clear c2
    by_cases c3:0≤j3
    ·rw [if_pos c3] at H
     have jc:decide (0≤j3)=true:=decide_eq_true c3
     clear c3
     obtain ⟨jd,A4,H⟩:=bsa H
     (try dsimp only at H)
     by_cases c5:jd=true
     ·subst c5
      rw [if_pos rfl] at H
      have H':=am H
      clear H
      have j4:0≤(j3:Int):=of_decide_eq_true fV
      have j5:j3 < (l0.length:Int):=of_decide_eq_true fV
      obtain ⟨j8,j9,j6⟩:=Kd.nM ja.out j3 j4 j5
      cases j9
      replace j4:=eq_true j4
      replace j5:=eq_true j5
      go_wp2_with (first|((with_reducible refine aN (f:=88) rfl ?_);refine gl_ 14 Try.func88 #[.int .i64 (rd l0 j3), .int .i64 1, .int .i64 4] ?_;(with_reducible refine (gB.calls (rd l0 j3) 1 4 true _ A4.out).mono ?_);rintro e w' ⟨rfl,⟨nd,rfl⟩⟩;refine ⟨_,rfl,?_⟩))
      go_roundg k1
      case measure=>have:=jb.out;omega
      case rel=>exact ⟨(wrap64 (j3 + 1)),sd_,H',⟨by have:=jb.out;omega⟩,gM⟩
     replace c5:=Bool.eq_false_iff.mpr c5
     subst c5
     rw [if_neg (show ¬ (false=true) by decide)] at H
     obtain rfl:=Option.some.inj H
     have j4:0≤(j3:Int):=of_decide_eq_true fV
     have j5:j3 < (l0.length:Int):=of_decide_eq_true fV
     obtain ⟨j8,j9,j6⟩:=Kd.nM ja.out j3 j4 j5
     cases j9
     replace j4:=eq_true j4
     replace j5:=eq_true j5
     go_wp2_with (first|((with_reducible refine aN (f:=88) rfl ?_);refine gl_ 14 Try.func88 #[.int .i64 (rd l0 j3), .int .i64 1, .int .i64 4] ?_;(with_reducible refine (gB.calls (rd l0 j3) 1 4 false _ A4.out).mono ?_);rintro e w' ⟨rfl,⟨nd,rfl⟩⟩;refine ⟨_,rfl,?_⟩))
     go_ret
     exact ⟨sd_,gM⟩
    rw [if_neg c3] at H
    exact absurd H (by simp)
   rw [if_neg c2] at H
   have j7:decide (j3 < (l0.length:Int))=false:=decide_eq_false c2
   clear c2
   obtain rfl:=Option.some.inj H
   go_wp2
   go_ret
   exact ⟨sd_,gM⟩
theorem bW.mono_l:∀ k,(∀ y0 y1,LeO (bW.f k y0 y1) (bW.f (k + 1) y0 y1))∧(∀ y0 y1 y2,LeO (bW.l0 k y0 y1 y2) (bW.l0 (k + 1) y0 y1 y2))∧(∀ y0 y1 y2 y3 y4 y5 y6 y7 y8 y9 j3 j4,LeO (bW.j1 k y0 y1 y2 y3 y4 y5 y6 y7 y8 y9 j3 j4) (bW.j1 (k + 1) y0 y1 y2 y3 y4 y5 y6 y7 y8 y9 j3 j4))
 |0=>⟨fun _ _ r h=>by simp [bW.f] at h,fun _ _ _ r h=>by simp [bW.l0] at h,fun _ _ _ _ _ _ _ _ _ _ _ _ r h=>by simp [bW.j1] at h⟩
 |k + 1=>by
  obtain ⟨ih0,ih1,ih2⟩:=bW.mono_l k
  refine ⟨?_,?_,?_⟩
  ·intro y0 y1
   unfold bW.f
   exact mo_
  ·intro y0 y1 y2
   unfold bW.l0
   exact mo_
  ·intro y0 y1 y2 y3 y4 y5 y6 y7 y8 y9 j3 j4
   unfold bW.j1
   exact mo_
theorem bW.mono:∀ a0 a1 k,LeO (bW.f k a0 a1) (bW.f (k + 1) a0 a1):=by
 intro a0 a1 k
 obtain ⟨ih0,ih1,ih2⟩:=bW.mono_l k
 exact ih0 a0 a1
theorem bW.calls (k:Nat):∀ (A0:Option Addr) (c0:Nat) (l0:List (S35)) (a1:Int) (r:Bool) (w:World) (hr0:Kd.C k35 w A0 l0.length l0) (hc0:l0.length≤c0) (h:bW.f k l0 a1=some r),
  Calls Try.prog 89 #[.slice A0 l0.length c0, .int .i64 a1] w fun e w'=>e= .returned (.bool r)∧Below w.heap.size w w':=by
 induction k using Nat.strongRecOn with
 | _ k ih=>
 intro A0 c0 l0 a1 r w hr0 hc0 h
 cases k with
 |zero=>exact absurd h (by simp [bW.f])
 |succ k=>
 simp only [bW.f] at h
 have hu35:=Try.underlying35
 have J3:=am hr0
 have J9:=am hc0
 clear hr0 hc0
 have HB:=am (Below.refl w.heap.size w)
 have H:(bW.l0 k l0 a1 0)=some r:=h
 clear h
 have H':=am H
 clear H
 go_enter Try.func89,Try.ntmps89
 go_wp2
 go_loopg [5] k (fun kq v5 w'=>∃ (j3:Int),v5= .int .i64 j3∧Aside0 (bW.l0 kq l0 a1 j3=some r)∧Aside0 (kq≤k)∧Aside0 (Below w.heap.size w w'))
 case atStart=>exact ⟨(0),sd_,H',⟨Nat.le_refl _⟩,⟨fU⟩⟩
 case round=>
  clear H'
  obtain ⟨j3,rfl,HA,jl,HB⟩:=hrel
  cases gk with
  |zero=>exact absurd HA.out (by simp [bW.l0])
  |succ k1=>
   have H:=HA.out
   clear HA
   simp only [bW.l0] at H
   by_cases c3:j3 < (l0.length:Int)
   ·rw [if_pos c3] at H
    have jE:decide (j3 < (l0.length:Int))=true:=decide_eq_true c3
    clear c3
    by_cases c4:0≤j3
    ·rw [if_pos c4] at H
     have zE:decide (0≤j3)=true:=decide_eq_true c4
     clear c4
     have zF:=am H
     clear H
     have jL:0≤(j3:Int):=of_decide_eq_true fV
     have jM:j3 < (l0.length:Int):=of_decide_eq_true fV
     obtain ⟨J4,jF,jG,jf,jg,jH,jI,J5,j5,j6,j7,j8,j9,ja,jb,jc,hl28_5,hi28_5,hl28_6,hi28_6,hl28_7,hi28_7⟩:=uU J3.out j3 jL jM
     cases J5
     replace j5:=(HB.out.cell (World.block_lt_of_cell? w _ j5)).trans j5
     replace j6:=(HB.out.cell (World.block_lt_of_cell? w _ j6)).trans j6
     replace j7:=(HB.out.cell (World.block_lt_of_cell? w _ j7)).trans j7
     replace j8:=(HB.out.cell (World.block_lt_of_cell? w _ j8)).trans j8
     replace j9:=(HB.out.cell (World.block_lt_of_cell? w _ j9)).trans j9
     replace ja:=(HB.out.cell (World.block_lt_of_cell? w _ ja)).trans ja
     replace jb:=(HB.out.cell (World.block_lt_of_cell? w _ jb)).trans jb
     replace jc:=(HB.out.cell (World.block_lt_of_cell? w _ jc)).trans jc
     have zG:=am hi28_5
     have zH:=am hl28_5
     clear hi28_5 hl28_5
     have jd:=am hi28_6
     have je:=am hl28_6
     clear hi28_6 hl28_6
     have ji:=am hi28_7
     have jj:=am hl28_7
     clear hi28_7 hl28_7
     replace jL:=eq_true jL
     replace jM:=eq_true jM
     go_upto_region 5 with (first|((with_reducible refine cZ (N:=6) rfl ?_);refine dO rfl (N:=6) rfl (cs:=#[.int .i64 0, .int .i64 0, .int .i64 0, .int .i64 0, .int .i64 0, .slice none 0 0, .slice none 0 0, .slice none 0 0]) (t:=35) rn_ ?_;intro jm hg w6 hbox hb;have j4:=am (hbox);have GW29:=am ((by rw [hg];exact (aJ fU):w.heap.size≤jm));have GE29:=am ((by rw [hg];exact (aJ fU):w.heap.size≤jm));replace HB:=am (aD fU hb);clear hb hbox hg;obtain ⟨jn,jo,jp,jq,jr,js,jt,ju,jv,jw,jx,jy,jz,jA,jB,jC⟩:=eU j4.out))
     (try simp only [Act.put,List.setIfInBounds_toArray,List.set_cons_zero,List.set_cons_succ])
     go_cut [30] (fun J6 wc=>∃ (kq:Nat) (jh:Bool),J6= .bool jh∧Aside0 (bW.j1 kq l0 a1 j3 jh ((aA l0 j3).f0) ((aA l0 j3).f1) ((aA l0 j3).f2) ((aA l0 j3).f3.f0) ((aA l0 j3).f3.f1) ((aA l0 j3).f3.f2) ((aA l0 j3).f4) ((aA l0 j3).f5)=some r)∧Aside0 (kq≤k1)∧Aside0 (wc.heap[jm]?=some (.cells #[.int .i64 ((aA l0 j3).f0), .int .i64 ((aA l0 j3).f1), .int .i64 ((aA l0 j3).f2), .int .i64 ((aA l0 j3).f3.f0), .int .i64 ((aA l0 j3).f3.f1),(.slice jF ((aA l0 j3).f3.f2).length jG),(.slice jf ((aA l0 j3).f4).length jg),(.slice jH ((aA l0 j3).f5).length jI)] 35 (0,0)))∧Aside0 (Below w.heap.size w wc))
     case first=>
      have H:=zF.out
      clear zF
      by_cases c8:((aA l0 j3).f0)=4
      ·rw [if_pos c8] at H
       have jk:(((aA l0 j3).f0) == 4)=true:=beq_iff_eq.mpr c8
       have zI:(((aA l0 j3).f0) != 4)=false:=bne_eq_false_iff_eq.mpr c8
       clear c8
       (first|rw [jk]|(simp only [dN,dU];rw [jk])|skip)
       have H':=am H
       clear H
       obtain ⟨zJ,zK,zL,zM,zN,zO,zP,zQ,zR,zS,zT,zU,zV,zW,zX,zY⟩:=eU j4.out
       go_wp2
       go_meet
       case rel=>exact ⟨_,(decide (((aA l0 j3).f2)≥a1)),sd_,H',⟨by have:=jl.out;first|omega|exact Nat.le_refl _⟩,⟨(aM (aM (aM (aM (aM (aM (aM (aM j4.out 0 _ rfl) 1 _ rfl) 2 _ rfl) 3 _ rfl) 4 _ rfl) 5 _ rfl) 6 _ rfl) 7 _ rfl)⟩,⟨vV⟩⟩
      rw [if_neg c8] at H
      have jk:(((aA l0 j3).f0) == 4)=false:=beq_eq_false_iff_ne.mpr c8
      have zI:(((aA l0 j3).f0) != 4)=true:=bne_iff_ne.mpr c8
      (first|rw [jk]|(simp only [dN,dU];rw [jk])|skip)
      by_cases c10:((aA l0 j3).f0)=5
      ·rw [if_pos c10] at H
       have jJ:(((aA l0 j3).f0) == 5)=true:=beq_iff_eq.mpr c10
       have jK:(((aA l0 j3).f0) != 5)=false:=bne_eq_false_iff_eq.mpr c10
       clear c10
       have H':=am H
       clear H
       obtain ⟨jN,jO,jP,jQ,jR,jS,jT,jU,jV,jW,jX,jY,jZ,q0,q1,q2⟩:=eU j4.out
       go_wp2
       go_meet
       case rel=>exact ⟨_,(decide (((aA l0 j3).f2)≥a1)),sd_,H',⟨by have:=jl.out;first|omega|exact Nat.le_refl _⟩,⟨(aM (aM (aM (aM (aM (aM (aM (aM j4.out 0 _ rfl) 1 _ rfl) 2 _ rfl) 3 _ rfl) 4 _ rfl) 5 _ rfl) 6 _ rfl) 7 _ rfl)⟩,⟨vV⟩⟩
      rw [if_neg c10] at H
      have jJ:(((aA l0 j3).f0) == 5)=false:=beq_eq_false_iff_ne.mpr c10
      have jK:(((aA l0 j3).f0) != 5)=true:=bne_iff_ne.mpr c10
      have H':=am H
      clear H
      obtain ⟨q3,q4,q5,q6,q7,q8,q9,qa,qb,qc,qd,qe,qf,qg,qh,qi⟩:=eU j4.out
      go_wp2
      go_meet
      case rel=>exact ⟨_,(false),sd_,H',⟨by have:=jl.out;first|omega|exact Nat.le_refl _⟩,⟨(aM (aM (aM (aM (aM (aM (aM (aM j4.out 0 _ rfl) 1 _ rfl) 2 _ rfl) 3 _ rfl) 4 _ rfl) 5 _ rfl) 6 _ rfl) 7 _ rfl)⟩,⟨vV⟩⟩
     case rest=>
      clear zF
      try clear c3
      try clear jE
      try clear c4
      try clear zE
      try clear jn
      try clear jo
      try clear jp
      try clear jq
      try clear jr
      try clear js
      try clear jt
      try clear ju
      try clear jv
      try clear jw
      try clear jx
      try clear jy
      try clear jz
      try clear jA
      try clear jB
      try clear jC
      try clear j5
      try clear j6
      try clear j7
      try clear j8
      try clear j9
      try clear ja
      try clear jb
      try clear jc
      try clear jL
      try clear jM
      obtain ⟨kq,jh,rfl,HA,HJ4,j4,HB⟩:=hcut
      cases kq with
      |zero=>exact absurd HA.out (by simp [bW.j1])
      |succ jD=>
       have H:=HA.out
       clear HA
       simp only [bW.j1] at H
       by_cases qj:jh=true
       ·subst qj
        rw [if_pos rfl] at H
        obtain rfl:=Option.some.inj H
        go_wp2
        go_ret
        exact ⟨rr_,vV⟩
       replace qj:=Bool.eq_false_iff.mpr qj
       subst qj
       rw [if_neg (show ¬ (false=true) by decide)] at H
       obtain ⟨J7,J0,H⟩:=bsm H
       (try dsimp only at H)
       have zZ:=am J0
       clear J0
       by_cases qk:J7=true
       ·subst qk
        rw [if_pos rfl] at H
        obtain ⟨J8,J1,H⟩:=bsm H
        (try dsimp only at H)
        have J2:=am J1
        clear J1
        by_cases ql:J8=true
        ·subst ql
         rw [if_pos rfl] at H
         have H':=am H
         clear H
         obtain ⟨qm,qn,qo,qp,qq,qr,qs,qt,qu,qv,qw,qx,qy,qz,qA,qB⟩:=eU j4.out
         go_wp2_with (first|((with_reducible refine aN (f:=89) rfl ?_);refine gl_ 34 Try.func89 #[.slice jf ((aA l0 j3).f4).length jg, .int .i64 a1] ?_;(with_reducible refine (ih jD (by have:=jl.out;have:=HJ4.out;omega) _ _ ((aA l0 j3).f4) a1 true _ (aC_ (Kd.aV jd.out HB.out)) je.out zZ.out).mono ?_);rintro e Ja ⟨rfl,hb⟩;refine ⟨_,rfl,?_⟩;replace j4:=bbP j4 hb;replace HB:=am (aD vV hb);(try clear hb);obtain ⟨qC,qD,qE,qF,qG,qH,qI,qJ,qK,qL,qM,qN,qO,qP,qQ,qR⟩:=eU j4.out)|(go_at_call 89;(with_reducible refine (ih jD (by have:=jl.out;have:=HJ4.out;omega) _ _ ((aA l0 j3).f5) a1 true _ (aC_ (Kd.aV ji.out HB.out)) jj.out J2.out).mono ?_);rintro e Jb ⟨rfl,hb⟩;replace j4:=bbP j4 hb;replace HB:=am (aD vV hb);(try clear hb)))
         go_roundg jD
         case measure=>have:=jl.out;have:=HJ4.out;omega
         case rel=>exact ⟨(wrap64 (j3 + 1)),sd_,H',⟨by have:=jl.out;have:=HJ4.out;omega⟩,⟨vV⟩⟩
        replace ql:=Bool.eq_false_iff.mpr ql
        subst ql
        rw [if_neg (show ¬ (false=true) by decide)] at H
        obtain rfl:=Option.some.inj H
        obtain ⟨qS,qT,qU,qV,qW,qX,qY,qZ,z0,z1,z2,z3,z4,z5,z6,z7⟩:=eU j4.out
        go_wp2_with (first|((with_reducible refine aN (f:=89) rfl ?_);refine gl_ 34 Try.func89 #[.slice jf ((aA l0 j3).f4).length jg, .int .i64 a1] ?_;(with_reducible refine (ih jD (by have:=jl.out;have:=HJ4.out;omega) _ _ ((aA l0 j3).f4) a1 true _ (aC_ (Kd.aV jd.out HB.out)) je.out zZ.out).mono ?_);rintro e Jc ⟨rfl,hb⟩;refine ⟨_,rfl,?_⟩;replace j4:=bbP j4 hb;replace HB:=am (aD vV hb);(try clear hb);obtain ⟨z8,z9,za,zb,zc,zd,ze,zf,zg,zh,zi,zj,zk,zl,zm,zn⟩:=eU j4.out)|(go_at_call 89;(with_reducible refine (ih jD (by have:=jl.out;have:=HJ4.out;omega) _ _ ((aA l0 j3).f5) a1 false _ (aC_ (Kd.aV ji.out HB.out)) jj.out J2.out).mono ?_);rintro e Jd ⟨rfl,hb⟩;replace j4:=bbP j4 hb;replace HB:=am (aD vV hb);(try clear hb)))
        go_ret
        exact ⟨rr_,vV⟩
       replace qk:=Bool.eq_false_iff.mpr qk
       subst qk
       rw [if_neg (show ¬ (false=true) by decide)] at H
       obtain rfl:=Option.some.inj H
       obtain ⟨zo,zp,zq,zr,zs,zt,zu,zv,zw,zx,zy,zz,zA,zB,zC,zD⟩:=eU j4.out
       go_wp2_with (first|((with_reducible refine aN (f:=89) rfl ?_);refine gl_ 34 Try.func89 #[.slice jf ((aA l0 j3).f4).length jg, .int .i64 a1] ?_;(with_reducible refine (ih jD (by have:=jl.out;have:=HJ4.out;omega) _ _ ((aA l0 j3).f4) a1 false _ (aC_ (Kd.aV jd.out HB.out)) je.out zZ.out).mono ?_);rintro e Je ⟨rfl,hb⟩;refine ⟨_,rfl,?_⟩;replace j4:=bbP j4 hb;replace HB:=am (aD vV hb);(try clear hb)))
       go_ret
       exact ⟨rr_,vV⟩
    rw [if_neg c4] at H
    exact absurd H (by simp)
   rw [if_neg c3] at H
   have jE:decide (j3 < (l0.length:Int))=false:=decide_eq_false c3
   clear c3
   obtain rfl:=Option.some.inj H
   go_wp2
   go_ret
   exact ⟨rr_,fU⟩
theorem bD.mono_l:∀ k,(∀ y0 y1 y2,LeO (bD.j0 k y0 y1 y2) (bD.j0 (k + 1) y0 y1 y2))∧(∀ y0 y1 y2,LeO (bD.l0 k y0 y1 y2) (bD.l0 (k + 1) y0 y1 y2))
 |0=>⟨fun _ _ _ r h=>by simp [bD.j0] at h,fun _ _ _ r h=>by simp [bD.l0] at h⟩
 |k + 1=>by
  obtain ⟨ih0,ih1⟩:=bD.mono_l k
  refine ⟨?_,?_⟩
  ·intro y0 y1 y2
   unfold bD.j0
   have m0:=@gK.mono
   have m1:=@bW.mono
   have m2:=@eB.mono
   exact mo_
  ·intro y0 y1 y2
   unfold bD.l0
   have m0:=@gK.mono
   have m1:=@bW.mono
   have m2:=@eB.mono
   exact mo_
theorem bD.mono:∀ a0 a1 k,LeO (bD.f k a0 a1) (bD.f (k + 1) a0 a1):=by
 intro a0 a1 k
 obtain ⟨ih0,ih1⟩:=bD.mono_l k
 unfold bD.f
 have m0:=@gK.mono
 have m1:=@bW.mono
 have m2:=@eB.mono
 exact mo_
def bD.T6:Bool × List (List Nat × List Nat):=(true,[([],[]),([0],[0]),([],[]),([1,2],[1,2]),([3],[3]),([4],[4]),([5],[5]),([6,5],[6]),([7],[7]),([8,7],[7,8]),([7],[7]),([9,10,7],[7,9,10]),([11,7],[7,11]),([7],[7]),([13,7],[7,13]),([14,7],[7,14]),([12,15,7,7],[7,12,15]),([16,7],[7,16]),([7,17],[7,17])])
def bD.B6:List Nat:=[0,1,0,7,15,31,63,127,255,511,255,2047,4095,255,8447,24831,65535,131071,262143]
theorem bD.CF:lC .any (opsOf Try.f59 6)=bD.T6:=by kernel_rfl
theorem bD.uY:iJ bD.T6.2 bD.B6=true:=by kernel_rfl
theorem bD.calls (k:Nat) (je:Option Addr) (jf:Nat) (j7:List Int) (jl:Option Addr) (jh:Nat) (j5:List (List (S35))) (r:Bool) (w:World) (hr0_0:Kd.C (Kd.int .i64) w je j7.length j7) (hc0_0:j7.length≤jf) (hr0_1:Kd.C (Kd.slice 35 k35) w jl j5.length j5) (hc0_1:j5.length≤jh) (h:bD.f k j7 j5=some r):
  Calls Try.prog 59 #[.agg #[.slice je j7.length jf, .slice jl j5.length jh]] w fun e w'=>e= .returned (.bool r)∧Below w.heap.size w w':=by
 have hu46:=Try.underlying46
 have jq:=am hr0_0
 have jr:=am hc0_0
 clear hr0_0 hc0_0
 have ji:=am hr0_1
 have q4:=am hc0_1
 clear hr0_1 hc0_1
 have HB:=am (Below.refl w.heap.size w)
 have H:((eB.f k j7).bind fun jS=>(if jS=true then ((gB.f (j5.length:Int) 1 3).bind fun jy=>(bD.j0 k (!jy) j7 j5)) else (bD.j0 k true j7 j5)))=some r:=h
 clear h
 have jT:=am H
 clear H
 go_enter Try.func59,Try.ntmps59
 go_upto_region 1 with (first|((with_reducible refine cZ (N:=1) rfl ?_);(try (refine kK (by rfl) ?_;dsimp only));refine dO rfl (N:=1) rfl (cs:=#[.slice je j7.length jf, .slice jl j5.length jh]) (t:=46) rn_ ?_;intro jg hg w3 hbox hb;have j3:=am (hbox);have qb:=am ((by rw [hg];exact (aJ fU):w.heap.size≤jg));have GE43:=am ((by rw [hg];exact (aJ fU):w.heap.size≤jg));replace HB:=am (aD fU hb);clear hb hbox hg))
 (try simp only [Act.put,List.setIfInBounds_toArray,List.set_cons_zero,List.set_cons_succ])
 go_cut [14] (fun qc wc=>∃ (kq:Nat) (jk:Bool),qc= .bool jk∧Aside0 (bD.j0 kq jk j7 j5=some r)∧Aside0 (kq≤k)∧Aside0 (wc.heap[jg]?=some (.cells #[(.slice je j7.length jf),(.slice jl j5.length jh)] 46 (0,0)))∧Aside0 (Below w.heap.size w wc))
 case first=>
  have H:=jT.out
  clear jT
  obtain ⟨jS,A4,H⟩:=bsa H
  (try dsimp only at H)
  by_cases c5:jS=true
  ·subst c5
   rw [if_pos rfl] at H
   obtain ⟨jy,A6,H⟩:=bsa H
   (try dsimp only at H)
   have H':=am H
   clear H
   obtain ⟨jU,jV,jW,jX⟩:=gD j3.out
   go_wp2_with (first|((with_reducible refine aN (f:=87) rfl ?_);refine gl_ 6 Try.func87 #[.slice je j7.length jf] ?_;(with_reducible refine (eB.calls k _ _ j7 true _ (aC_ (Kd.aV jq.out HB.out)) jr.out A4.out).mono ?_);rintro e w' ⟨rfl,⟨nd,rfl⟩⟩;refine ⟨_,rfl,?_⟩)|(go_at_call 88;(with_reducible refine (gB.calls (j5.length:Int) 1 3 jy _ A6.out).mono ?_);rintro e w' ⟨rfl,⟨nd,rfl⟩⟩))
   go_meet
   case rel=>exact ⟨_,(!jy),sd_,H',⟨by first|omega|exact Nat.le_refl _⟩,⟨by (with_reducible repeat (first|refine dI ?_ _|refine bK ?_|refine bY ?_ _));exact j3.out⟩,⟨mJ⟩⟩
  replace c5:=Bool.eq_false_iff.mpr c5
  subst c5
  rw [if_neg (show ¬ (false=true) by decide)] at H
  have H':=am H
  clear H
  obtain ⟨jY,jZ,q0,q1⟩:=gD j3.out
  go_wp2_with (first|((with_reducible refine aN (f:=87) rfl ?_);refine gl_ 6 Try.func87 #[.slice je j7.length jf] ?_;(with_reducible refine (eB.calls k _ _ j7 false _ (aC_ (Kd.aV jq.out HB.out)) jr.out A4.out).mono ?_);rintro e w' ⟨rfl,⟨nd,rfl⟩⟩;refine ⟨_,rfl,?_⟩))
  go_meet
  case rel=>exact ⟨_,(true),sd_,H',⟨by first|omega|exact Nat.le_refl _⟩,⟨by (with_reducible repeat (first|refine dI ?_ _|refine bK ?_|refine bY ?_ _));exact j3.out⟩,⟨mJ⟩⟩
 case rest=>
  clear jT
  obtain ⟨kq,jk,rfl,HA,HJ1,j3,HB⟩:=hcut
  cases kq with
  |zero=>exact absurd HA.out (by simp [bD.j0])
  |succ q5=>
   have H:=HA.out
   clear HA
   simp only [bD.j0] at H
   by_cases c9:jk=true
   ·subst c9
    rw [if_pos rfl] at H
    obtain rfl:=Option.some.inj H
    go_wp2
    go_ret
    exact ⟨rr_,mJ⟩
   replace c9:=Bool.eq_false_iff.mpr c9
   subst c9
   rw [if_neg (show ¬ (false=true) by decide)] at H
   have H':=am H
   clear H
   go_wp2
   go_loopg [3] q5 (fun kq v3 w'=>∃ (j4:Int),v3= .int .i64 j4∧Aside0 (bD.l0 kq j4 j7 j5=some r)∧Aside0 (kq≤q5)∧Aside0 (w'.heap[jg]?=some (.cells #[(.slice je j7.length jf),(.slice jl j5.length jh)] 46 (0,0)))∧Aside0 (Below w.heap.size w w'))
   case atStart=>exact ⟨(0),sd_,H',⟨Nat.le_refl _⟩,⟨by (with_reducible repeat (first|refine dI ?_ _|refine bK ?_|refine bY ?_ _));exact j3.out⟩,⟨mJ⟩⟩
   case round=>
    clear H'
    try clear c9
    obtain ⟨j4,rfl,HA,q6,j3,HB⟩:=hrel
    cases gk with
    |zero=>exact absurd HA.out (by simp [bD.l0])
    |succ k2=>
     have H:=HA.out
     clear HA
     simp only [bD.l0] at H
     by_cases c10:j4 < (j5.length:Int)
     ·rw [if_pos c10] at H
      have jw:decide (j4 < (j5.length:Int))=true:=decide_eq_true c10
      clear c10
      by_cases jz:0≤j4
      ·rw [if_pos jz] at H
       have q7:decide (0≤j4)=true:=decide_eq_true jz
       clear jz
       obtain ⟨qd,q8,H⟩:=bsm H
       (try dsimp only at H)
       have q2:=am q8
       clear q8
       by_cases jA:qd=true
       ·subst jA
        rw [if_pos rfl] at H
        obtain ⟨qe,q9,H⟩:=bsm H
        (try dsimp only at H)
        have qa:=am q9
        clear q9
        by_cases jB:qe=true
        ·subst jB
         rw [if_pos rfl] at H
         have H':=am H
         clear H
         obtain ⟨jC,jD,jE,jF⟩:=gD j3.out
         try go_wp2
         replace j3:=am (bK j3.out)
         replace HB:=am (bG HB.out)
         have jm:0≤(j4:Int):=of_decide_eq_true fV
         have jn:j4 < (j5.length:Int):=of_decide_eq_true fV
         obtain ⟨jd,ja,jb,jx,j6,hl50_0,hi50_0⟩:=nY ji.out j4 jm jn
         have hw50_0:=j6
         cases jx
         replace j6:=(HB.out.cell (World.block_lt_of_cell? w _ j6)).trans j6
         have j9:=am hi50_0
         have jc:=am hl50_0
         clear hi50_0 hl50_0
         replace jm:=eq_true jm
         replace jn:=eq_true jn
         have js:0≤(j4:Int):=of_decide_eq_true fV
         have jt:j4 < (j5.length:Int):=of_decide_eq_true fV
         obtain ⟨ju,jo,jp,q3,j8,hl51_0,hi51_0⟩:=nY ji.out j4 js jt
         have hw51_0:=j8
         obtain rfl:jd=ju:=(by injection q3)
         replace j8:=(HB.out.cell (World.block_lt_of_cell? w _ j8)).trans j8
         have jj:=am hi51_0
         have jv:=am hl51_0
         clear hi51_0 hl51_0
         replace js:=eq_true js
         replace jt:=eq_true jt
         refine lK (n:=19) (S:=fun w'=>w'.cell? ⟨jg,0,none⟩=some (.slice je j7.length jf)∧w'.cell? ⟨jg,1,none⟩=some (.slice (some jd) j5.length jh)∧w'.cell? (jd.add (j4).toNat)=some (.slice ja (fB j5 j4).length jb)∧w'.cell? (jd.add (j4).toNat)=some (.slice jo (fB j5 j4).length jp)) (ds:=[]) (bz 19 0) (by kernel_rfl) rfl rfl ⟨(aC j3.out 0).trans rfl,(aC j3.out 1).trans rfl,((HB.out.cell (World.block_lt_of_cell? w _ hw50_0)).trans hw50_0),((HB.out.cell (World.block_lt_of_cell? w _ hw51_0)).trans hw51_0)⟩ (fun hHeld=>?_);refine iF bD.CF bD.uY (fun HT_ HW_=>?_)
         generalize wr.drew=qf at j3 HB j9 jj j6 j8 hHeld ⊢
         refine pr_ 0 22 (bz 19 1) HT_ ?_
         refine pr_ 2 24 (bz 19 5) HT_ ?_
         refine wB 1 23 (bz 19 7) HT_ HW_ hHeld ?_
         refine pr_ 3 25 (bz 19 15) HT_ ?_
         refine wB 4 26 (bz 19 31) HT_ HW_ hHeld ?_
         refine kN (i:=5) (N:=some 27) (bz 19 63) rfl rfl (fQ HT_.out (by kernel_rfl)) (by decide) (fun K hK=>?_)
         refine iP Try.func47 (by kernel_rfl) rfl #[.slice ja (fB j5 j4).length jb] (by rfl) rfl rfl mO ?_
         with_reducible refine (gK.calls k2 _ _ (fB j5 j4) true _ (aC_ (Kd.aV j9.out HB.out)) jc.out q2.out).mono ?_
         rintro e qg ⟨rfl,hb⟩
         refine ⟨_,rfl,?_⟩
         replace j3:=bbP j3 hb
         replace HB:=am (aD mJ hb)
         (try clear hb)
         (try clear hb2)
         (try clear hk)
         (try clear hi)
         refine hK.out _ _ ⟨(aC j3.out 0).trans rfl,(aC j3.out 1).trans rfl,((HB.out.cell (World.block_lt_of_cell? w _ hw50_0)).trans hw50_0),((HB.out.cell (World.block_lt_of_cell? w _ hw51_0)).trans hw51_0)⟩ (fun hHeld=>?_)
         clear hK K
         refine eT (a':=?_) ?_ ?_
         rotate_left
         ·show Act.put _ (some 27) _=_
          simp only [Act.put,List.setIfInBounds_toArray,List.set_cons_zero,List.set_cons_succ,dN,dU]
          rfl
         refine pr_ 6 28 (bz 19 127) HT_ ?_
         refine pr_ 7 29 (bz 19 255) HT_ ?_
         refine pr_ 8 30 (bz 19 511) HT_ ?_
         refine pr_ 10 32 (bz 19 1535) HT_ ?_
         refine pr_ 13 35 (bz 19 9727) HT_ ?_
         refine wB 9 31 (bz 19 10239) HT_ HW_ hHeld ?_
         refine pr_ 11 33 (bz 19 12287) HT_ ?_
         refine wB 12 34 (bz 19 16383) HT_ HW_ hHeld ?_
         refine wB 14 36 (bz 19 32767) HT_ HW_ hHeld ?_
         refine pr_ 15 37 (bz 19 65535) HT_ ?_
         refine kN (i:=16) (N:=some 38) (bz 19 131071) rfl rfl (fQ HT_.out (by kernel_rfl)) (by decide) (fun K hK=>?_)
         refine iP Try.func89 (by kernel_rfl) rfl #[.slice ja (fB j5 j4).length jb, .int .i64 (j7.length:Int)] (by rfl) rfl rfl mO ?_
         with_reducible refine (bW.calls k2 _ _ (fB j5 j4) (j7.length:Int) true _ (aC_ (Kd.aV j9.out HB.out)) jc.out qa.out).mono ?_
         rintro e qh ⟨rfl,hb⟩
         refine ⟨_,rfl,?_⟩
         replace j3:=bbP j3 hb
         replace HB:=am (aD mJ hb)
         (try clear hb)
         (try clear hb2)
         (try clear hk)
         (try clear hi)
         refine hK.out _ _ ⟨(aC j3.out 0).trans rfl,(aC j3.out 1).trans rfl,((HB.out.cell (World.block_lt_of_cell? w _ hw50_0)).trans hw50_0),((HB.out.cell (World.block_lt_of_cell? w _ hw51_0)).trans hw51_0)⟩ (fun hHeld=>?_)
         clear hK K
         refine eT (a':=?_) ?_ ?_
         rotate_left
         ·show Act.put _ (some 38) _=_
          simp only [Act.put,List.setIfInBounds_toArray,List.set_cons_zero,List.set_cons_succ,dN,dU]
          rfl
         refine pr_ 17 39 (bz 19 262143) HT_ ?_
         refine pr_ 18 40 (bz 19 524287) HT_ ?_
         refine nN (kQ HT_.out (by kernel_rfl)) ?_
         try go_wp2
         go_roundg k2
         case measure=>have:=HJ1.out;have:=q6.out;omega
         case rel=>exact ⟨(wrap64 (j4 + 1)),sd_,H',⟨by have:=HJ1.out;have:=q6.out;omega⟩,⟨by (with_reducible repeat (first|refine dI ?_ _|refine bK ?_|refine bY ?_ _));exact j3.out⟩,⟨mJ⟩⟩
        replace jB:=Bool.eq_false_iff.mpr jB
        subst jB
        rw [if_neg (show ¬ (false=true) by decide)] at H
        obtain rfl:=Option.some.inj H
        obtain ⟨jG,jH,jI,jJ⟩:=gD j3.out
        try go_wp2
        replace j3:=am (bK j3.out)
        replace HB:=am (bG HB.out)
        have jm:0≤(j4:Int):=of_decide_eq_true fV
        have jn:j4 < (j5.length:Int):=of_decide_eq_true fV
        obtain ⟨jd,ja,jb,jx,j6,hl50_0,hi50_0⟩:=nY ji.out j4 jm jn
        have hw50_0:=j6
        cases jx
        replace j6:=(HB.out.cell (World.block_lt_of_cell? w _ j6)).trans j6
        have j9:=am hi50_0
        have jc:=am hl50_0
        clear hi50_0 hl50_0
        replace jm:=eq_true jm
        replace jn:=eq_true jn
        have js:0≤(j4:Int):=of_decide_eq_true fV
        have jt:j4 < (j5.length:Int):=of_decide_eq_true fV
        obtain ⟨ju,jo,jp,q3,j8,hl51_0,hi51_0⟩:=nY ji.out j4 js jt
        have hw51_0:=j8
        obtain rfl:jd=ju:=(by injection q3)
        replace j8:=(HB.out.cell (World.block_lt_of_cell? w _ j8)).trans j8
        have jj:=am hi51_0
        have jv:=am hl51_0
        clear hi51_0 hl51_0
        replace js:=eq_true js
        replace jt:=eq_true jt
        refine lK (n:=19) (S:=fun w'=>w'.cell? ⟨jg,0,none⟩=some (.slice je j7.length jf)∧w'.cell? ⟨jg,1,none⟩=some (.slice (some jd) j5.length jh)∧w'.cell? (jd.add (j4).toNat)=some (.slice ja (fB j5 j4).length jb)∧w'.cell? (jd.add (j4).toNat)=some (.slice jo (fB j5 j4).length jp)) (ds:=[]) (bz 19 0) (by kernel_rfl) rfl rfl ⟨(aC j3.out 0).trans rfl,(aC j3.out 1).trans rfl,((HB.out.cell (World.block_lt_of_cell? w _ hw50_0)).trans hw50_0),((HB.out.cell (World.block_lt_of_cell? w _ hw51_0)).trans hw51_0)⟩ (fun hHeld=>?_);refine iF bD.CF bD.uY (fun HT_ HW_=>?_)
        generalize wr.drew=qi at j3 HB j9 jj j6 j8 hHeld ⊢
        refine pr_ 0 22 (bz 19 1) HT_ ?_
        refine pr_ 2 24 (bz 19 5) HT_ ?_
        refine wB 1 23 (bz 19 7) HT_ HW_ hHeld ?_
        refine pr_ 3 25 (bz 19 15) HT_ ?_
        refine wB 4 26 (bz 19 31) HT_ HW_ hHeld ?_
        refine kN (i:=5) (N:=some 27) (bz 19 63) rfl rfl (fQ HT_.out (by kernel_rfl)) (by decide) (fun K hK=>?_)
        refine iP Try.func47 (by kernel_rfl) rfl #[.slice ja (fB j5 j4).length jb] (by rfl) rfl rfl mO ?_
        with_reducible refine (gK.calls k2 _ _ (fB j5 j4) true _ (aC_ (Kd.aV j9.out HB.out)) jc.out q2.out).mono ?_
        rintro e qj ⟨rfl,hb⟩
        refine ⟨_,rfl,?_⟩
        replace j3:=bbP j3 hb
        replace HB:=am (aD mJ hb)
        (try clear hb)
        (try clear hb2)
        (try clear hk)
        (try clear hi)
        refine hK.out _ _ ⟨(aC j3.out 0).trans rfl,(aC j3.out 1).trans rfl,((HB.out.cell (World.block_lt_of_cell? w _ hw50_0)).trans hw50_0),((HB.out.cell (World.block_lt_of_cell? w _ hw51_0)).trans hw51_0)⟩ (fun hHeld=>?_)
        clear hK K
        refine eT (a':=?_) ?_ ?_
        rotate_left
        ·show Act.put _ (some 27) _=_
         simp only [Act.put,List.setIfInBounds_toArray,List.set_cons_zero,List.set_cons_succ,dN,dU]
         rfl
        refine pr_ 6 28 (bz 19 127) HT_ ?_
        refine pr_ 7 29 (bz 19 255) HT_ ?_
        refine pr_ 8 30 (bz 19 511) HT_ ?_
        refine pr_ 10 32 (bz 19 1535) HT_ ?_
        refine pr_ 13 35 (bz 19 9727) HT_ ?_
        refine wB 9 31 (bz 19 10239) HT_ HW_ hHeld ?_
        refine pr_ 11 33 (bz 19 12287) HT_ ?_
        refine wB 12 34 (bz 19 16383) HT_ HW_ hHeld ?_
        refine wB 14 36 (bz 19 32767) HT_ HW_ hHeld ?_
        refine pr_ 15 37 (bz 19 65535) HT_ ?_
        refine kN (i:=16) (N:=some 38) (bz 19 131071) rfl rfl (fQ HT_.out (by kernel_rfl)) (by decide) (fun K hK=>?_)
        refine iP Try.func89 (by kernel_rfl) rfl #[.slice ja (fB j5 j4).length jb, .int .i64 (j7.length:Int)] (by rfl) rfl rfl mO ?_
        with_reducible refine (bW.calls k2 _ _ (fB j5 j4) (j7.length:Int) false _ (aC_ (Kd.aV j9.out HB.out)) jc.out qa.out).mono ?_
        rintro e qk ⟨rfl,hb⟩
        refine ⟨_,rfl,?_⟩
        replace j3:=bbP j3 hb
        replace HB:=am (aD mJ hb)
        (try clear hb)
        (try clear hb2)
        (try clear hk)
        (try clear hi)
        refine hK.out _ _ ⟨(aC j3.out 0).trans rfl,(aC j3.out 1).trans rfl,((HB.out.cell (World.block_lt_of_cell? w _ hw50_0)).trans hw50_0),((HB.out.cell (World.block_lt_of_cell? w _ hw51_0)).trans hw51_0)⟩ (fun hHeld=>?_)
        clear hK K
        refine eT (a':=?_) ?_ ?_
        rotate_left
        ·show Act.put _ (some 38) _=_
         simp only [Act.put,List.setIfInBounds_toArray,List.set_cons_zero,List.set_cons_succ,dN,dU]
         rfl
        refine pr_ 17 39 (bz 19 262143) HT_ ?_
        refine pr_ 18 40 (bz 19 524287) HT_ ?_
        refine nN (kQ HT_.out (by kernel_rfl)) ?_
        try go_wp2
        go_ret
        exact ⟨rr_,mJ⟩
       replace jA:=Bool.eq_false_iff.mpr jA
       subst jA
       rw [if_neg (show ¬ (false=true) by decide)] at H
       obtain rfl:=Option.some.inj H
       obtain ⟨jK,jL,jM,jN⟩:=gD j3.out
       try go_wp2
       replace j3:=am (bK j3.out)
       replace HB:=am (bG HB.out)
       have jm:0≤(j4:Int):=of_decide_eq_true fV
       have jn:j4 < (j5.length:Int):=of_decide_eq_true fV
       obtain ⟨jd,ja,jb,jx,j6,hl50_0,hi50_0⟩:=nY ji.out j4 jm jn
       have hw50_0:=j6
       cases jx
       replace j6:=(HB.out.cell (World.block_lt_of_cell? w _ j6)).trans j6
       have j9:=am hi50_0
       have jc:=am hl50_0
       clear hi50_0 hl50_0
       replace jm:=eq_true jm
       replace jn:=eq_true jn
       refine lK (n:=19) (S:=fun w'=>w'.cell? ⟨jg,0,none⟩=some (.slice je j7.length jf)∧w'.cell? ⟨jg,1,none⟩=some (.slice (some jd) j5.length jh)∧w'.cell? (jd.add (j4).toNat)=some (.slice ja (fB j5 j4).length jb)) (ds:=[]) (bz 19 0) (by kernel_rfl) rfl rfl ⟨(aC j3.out 0).trans rfl,(aC j3.out 1).trans rfl,((HB.out.cell (World.block_lt_of_cell? w _ hw50_0)).trans hw50_0)⟩ (fun hHeld=>?_);refine iF bD.CF bD.uY (fun HT_ HW_=>?_)
       generalize wr.drew=ql at j3 HB j9 j6 hHeld ⊢
       refine pr_ 0 22 (bz 19 1) HT_ ?_
       refine pr_ 2 24 (bz 19 5) HT_ ?_
       refine aAj 1 23 (bz 19 7) HT_ HW_ hHeld ?_
       refine pr_ 3 25 (bz 19 15) HT_ ?_
       refine aAj 4 26 (bz 19 31) HT_ HW_ hHeld ?_
       refine kN (i:=5) (N:=some 27) (bz 19 63) rfl rfl (fQ HT_.out (by kernel_rfl)) (by decide) (fun K hK=>?_)
       refine iP Try.func47 (by kernel_rfl) rfl #[.slice ja (fB j5 j4).length jb] (by rfl) rfl rfl mO ?_
       with_reducible refine (gK.calls k2 _ _ (fB j5 j4) false _ (aC_ (Kd.aV j9.out HB.out)) jc.out q2.out).mono ?_
       rintro e qm ⟨rfl,hb⟩
       refine ⟨_,rfl,?_⟩
       replace j3:=bbP j3 hb
       replace HB:=am (aD mJ hb)
       (try clear hb)
       (try clear hb2)
       (try clear hk)
       (try clear hi)
       refine hK.out _ _ ⟨(aC j3.out 0).trans rfl,(aC j3.out 1).trans rfl,((HB.out.cell (World.block_lt_of_cell? w _ hw50_0)).trans hw50_0)⟩ (fun hHeld=>?_)
       clear hK K
       refine eT (a':=?_) ?_ ?_
       rotate_left
       ·show Act.put _ (some 27) _=_
        simp only [Act.put,List.setIfInBounds_toArray,List.set_cons_zero,List.set_cons_succ,dN,dU]
        rfl
       refine pr_ 6 28 (bz 19 127) HT_ ?_
       refine pr_ 7 29 (bz 19 255) HT_ ?_
       refine pu_ 8 30 (bz 19 511) HT_ ?_
       refine pu_ 9 31 (bz 19 1023) HT_ ?_
       refine pu_ 10 32 (bz 19 2047) HT_ ?_
       refine pu_ 11 33 (bz 19 4095) HT_ ?_
       refine pu_ 12 34 (bz 19 8191) HT_ ?_
       refine pu_ 13 35 (bz 19 16383) HT_ ?_
       refine pu_ 14 36 (bz 19 32767) HT_ ?_
       refine pu_ 15 37 (bz 19 65535) HT_ ?_
       refine pu_ 16 38 (bz 19 131071) HT_ ?_
       refine pu_ 17 39 (bz 19 262143) HT_ ?_
       refine pr_ 18 40 (bz 19 524287) HT_ ?_
       refine nN (kQ HT_.out (by kernel_rfl)) ?_
       try go_wp2
       go_ret
       exact ⟨rr_,mJ⟩
      rw [if_neg jz] at H
      exact absurd H (by simp)
     rw [if_neg c10] at H
     have jw:decide (j4 < (j5.length:Int))=false:=decide_eq_false c10
     clear c10
     obtain rfl:=Option.some.inj H
     obtain ⟨jO,jP,jQ,jR⟩:=gD j3.out
     go_wp2
     go_ret
     exact ⟨rr_,mJ⟩
theorem bL.mono_l:∀ k,(∀ y0 y1 y2 y3 y4,LeO (bL.l0 k y0 y1 y2 y3 y4) (bL.l0 (k + 1) y0 y1 y2 y3 y4))
 |0=>fun _ _ _ _ _ r h=>by simp [bL.l0] at h
 |k + 1=>by
  have ih0:=bL.mono_l k
  ·intro y0 y1 y2 y3 y4
   unfold bL.l0
   have m0:=@bD.mono
   have m1:=@bM.mono
   exact mo_
theorem bL.mono:∀ a0 a1 k,LeO (bL.f k a0 a1) (bL.f (k + 1) a0 a1):=by
 intro a0 a1 k
 have ih0:=bL.mono_l k
 unfold bL.f
 have m0:=@bD.mono
 have m1:=@bM.mono
 exact mo_
def bL.T7:Bool × List (List Nat × List Nat):=(true,[([],[]),([0],[0]),([],[]),([2],[2]),([],[]),([3,4],[3,4]),([5],[5]),([6],[6]),([7],[7]),([1,8,7],[1,8]),([0,1,2,3,4,5,6,7,8,9],[]),([10,9,9,0,1,2,3,4,5,6,7,8,9],[9,10])])
def bL.B7:List Nat:=[0,1,0,4,0,28,60,124,252,511,1023,2047]
theorem bL.aBm:lC .any (opsOf Try.f28 7)=bL.T7:=by kernel_rfl
theorem bL.SI:iJ bL.T7.2 bL.B7=true:=by kernel_rfl
theorem bL.calls (k:Nat) (jm:Option Addr) (jn:Nat) (j5:List Int) (js:Option Addr) (jo:Nat) (j6:List (List (S35))) (r1:List Int) (r2:List (List (S35))) (r3:Bool) (w:World) (hr0_0:Kd.C (Kd.int .i64) w jm j5.length j5) (hc0_0:j5.length≤jn) (hr0_1:Kd.C (Kd.slice 35 k35) w js j6.length j6) (hc0_1:j6.length≤jo) (h:bL.f k j5 j6=some (r1,r2,r3)):
  Calls Try.prog 28 #[.agg #[.slice jm j5.length jn, .slice js j6.length jo]] w fun e w'=>∃ v0_ v1_:Value,e= .returned (.tuple #[.agg #[v0_,v1_], .bool r3])∧Kd.R (Kd.int .i64) 3 w' w.heap.size (fun k_=>(w.heap.size≤k_)) v0_ r1∧Kd.N (Kd.slice 35 k35) 23 w' w.heap.size (fun k_=>(w.heap.size≤k_)∧some k_≠(v0_:Value).ownBlock) v1_ r2∧Below w.heap.size w w':=by
 have hu46:=Try.underlying46
 have ju:=am hr0_0
 have jI:=am hc0_0
 clear hr0_0 hc0_0
 have jv:=am hr0_1
 have jJ:=am hc0_1
 clear hr0_1 hc0_1
 have HB:=am (Below.refl w.heap.size w)
 have H:((bD.f k j5 j6).bind fun qw=>(if qw=true then ((some (([]:List Int):List Int)).bind fun jK=>(if jK.length + j5.length < 17592186044416 then (bL.l0 k 0 j5 j6 (jK ++ j5) (([]:List (List (S35))))) else (none))) else (some (([]:List Int),([]:List (List (S35))),false))))=some (r1,r2,r3):=h
 clear h
 obtain ⟨qw,A2,H⟩:=bsa H
 (try dsimp only at H)
 have HH_:=am H
 clear H
 go_enter Try.func28,Try.ntmps28
 go_upto_region 1 with (first|((with_reducible refine cZ (N:=1) rfl ?_);refine dO rfl (N:=1) rfl (cs:=#[.slice jm j5.length jn, .slice js j6.length jo]) (t:=46) rn_ ?_;intro jb hg w5 hbox hb;have j3:=am (hbox);have qZ:=am ((by rw [hg];exact (aJ fU):w.heap.size≤jb));have GE49:=am ((by rw [hg];exact (aJ fU):w.heap.size≤jb));replace HB:=am (aD fU hb);clear hb hbox hg)|((with_reducible refine cZ (N:=2) rfl ?_);refine dO rfl (N:=2) rfl (cs:=#[.slice none 0 0, .slice none 0 0]) (t:=46) rn_ ?_;intro j9 hg w6 hbox hb;have j4:=am (hbox);have z0:=am ((by rw [hg];exact (aJ NA):w.heap.size≤j9));have GE50:=am ((by rw [hg];exact (aJ NA):w.heap.size≤j9));replace HB:=am (aD NA hb);have jp:=am ((by rw [hg];exact Nat.ne_of_lt (gN j3.out):jb≠j9));have jq:=am ((by rw [hg];exact Nat.ne_of_gt (gN j3.out):j9≠jb));replace j3:=bbP j3 hb;clear hb hbox hg;have z1:=jp.out;have z2:=jq.out;obtain ⟨jN,jO,jP,jQ⟩:=gD j3.out))
 have H:=HH_.out
 clear HH_
 by_cases c3:qw=true
 ·subst c3
  rw [if_pos rfl] at H
  obtain ⟨jK,hy_⟩:∃ y_:List Int,y_=(([]:List Int)):=⟨_,rfl⟩
  replace H:(if jK.length + j5.length < 17592186044416 then (bL.l0 k 0 j5 j6 (jK ++ j5) (([]:List (List (S35))))) else (none))=some (r1,r2,r3):=rx_
  have q0:=am hy_
  clear hy_
  by_cases c4:jK.length + j5.length < 17592186044416
  ·rw [if_pos c4] at H
   have qx:=am c4
   clear c4
   obtain ⟨jl,hy_⟩:∃ y_:List Int,y_=(jK ++ j5):=⟨_,rfl⟩
   replace H:(bL.l0 k 0 j5 j6 jl (([]:List (List (S35)))))=some (r1,r2,r3):=rx_
   have qy:=am hy_
   clear hy_
   obtain ⟨q1,hy_⟩:∃ y_:List (List (S35)),y_=(([]:List (List (S35)))):=⟨_,rfl⟩
   replace H:(bL.l0 k 0 j5 j6 jl q1)=some (r1,r2,r3):=rx_
   have q2:=am hy_
   clear hy_
   have H':=am H
   clear H
   go_wp2_with (first|((with_reducible refine aN (f:=59) rfl ?_);refine gl_ 7 Try.func59 #[.agg #[.slice jm j5.length jn, .slice js j6.length jo]] ?_;(with_reducible refine (bD.calls k _ _ j5 _ _ j6 true _ (aC_ (Kd.aV ju.out HB.out)) jI.out (aC_ (Kd.aV jv.out HB.out)) jJ.out A2.out).mono ?_);rintro e w9 ⟨rfl,hb⟩;refine ⟨_,rfl,?_⟩;replace j3:=bbP j3 hb;replace j4:=bbP j4 hb;replace HB:=am (aD tK hb);(try clear hb))|((with_reducible refine cZ (N:=10) rfl ?_);refine Kd.CO (Kd.int .i64) _ 3 rfl (N:=10) rfl (xs:=([]:List Int)) (inner:=[]) (ok:=fun _=>True) (okp:=fun _=>True) rn_ ?hp (fun _ hk=>hk) trivial (Below.refl _ _) (Nat.le_refl _) (by simp) ?_;(case hp=>exact (eX.none _ _));intro z3 za ho11 hb hg_ hnew_;clear hg_ hnew_;(first|rw [← q0.out] at ho11|(simp only [Int.reduceToNat] at ho11;rw [← q0.out] at ho11));have jx:=am (Kd.kP (Kd.yH (M:=fun k_=>(w.heap.size≤k_)) ho11 (aJ tK) (fun k_ h_=>h_)) (aJ tK));replace j3:=bbP j3 hb;replace j4:=bbP j4 hb;replace HB:=am (aD tK hb);clear hb ho11;obtain ⟨jy,jz,jA,jB⟩:=gD j3.out)|((with_reducible refine lI (b:= .append) (xs:=#[.tmp 10, .tmp 12]) rfl ?_);at_builtin;refine Kd.uS (Kd.int .i64) (w0:=w) w.heap.size rfl (.tmp 10) (.tmp 12) 43 3 (.int .i64 0) 8 rfl Try.underlying43 info3 rfl (by decide) (by omega) z3 jK j5 _ _ _ (fun k_=>(w.heap.size≤k_)) (fun _=>False) rfl rfl ?aO ?aR (fun _ _ h=>h) (fun _ h=>h.elim) ?aF ?aB ?aS ?aL ?_;(case aR=>repeat (first|exact (Kd.aV ju.out HB.out)|(with_reducible refine Kd.nU ?_ _)|(with_reducible refine Kd.nA ?_ _)|(with_reducible refine Kd.oL ?_)));(case aB=>exact tK);(case aF=>exact (fun k_ hk=>(Nat.le_trans (aJ tK) hk)));(case aO=>exact (iH (Kd.dL jx.out (fun _ hk=>hk.1))));(case aS=>exact (aJ tK));(case aL=>have:=qx.out;omega);intro qz z4 ho hb hg hat;rw [← qy.out] at ho;replace j3:=am (gX (g:=jb) (o:= .cells #[.slice jm j5.length jn, .slice js j6.length jo] 46 (0,0)) (aG_ j3.out) hg (Kd.PV jx.out j3.out (by decide)));replace j4:=am (gX (g:=j9) (o:= .cells #[.slice none 0 0, .slice none 0 0] 46 (0,0)) (aG_ j4.out) hg (Kd.PV jx.out j4.out (by decide)));replace HB:=am (hb);have jt:=am (ho);clear jx ho hb hg hat)|((with_reducible refine cZ (N:=14) rfl ?_);refine Kd.oV (Kd.slice 35 k35) _ 23 rfl (N':=14) rfl (xs:=([]:List (List (S35)))) (inner:=[]) (ok:=(fun k_=>(w.heap.size≤k_)∧some k_≠(qz:Value).ownBlock∧k_≠jb∧k_≠j9)) (okp:=(fun k_=>(w.heap.size≤k_)∧some k_≠(qz:Value).ownBlock∧k_≠jb∧k_≠j9)) rn_ ?hp (fun _ hk=>hk) ((show ∀ k_,z4.heap.size≤k_→(fun k_=>(w.heap.size≤k_)∧some k_≠(qz:Value).ownBlock∧k_≠jb∧k_≠j9) k_ from fun k_ hk=>⟨(Nat.le_trans (aJ tK) hk),Kd.fresh' (Kd.kW (aR_ jt.out)) k_ hk,fJ j3.out k_ hk,fJ j4.out k_ hk⟩) _ (Nat.le_refl _)) (Below.refl _ _) (Nat.le_refl _) (by simp) ?_;(case hp=>exact (eX.none _ _));intro zb zc ho15 hb hg_ hnew_;clear hg_ hnew_;(first|rw [← q2.out] at ho15|(simp only [Int.reduceToNat] at ho15;rw [← q2.out] at ho15));replace jt:=am (Kd.eG (aR_ jt.out) hb);have jC:=am (Kd.dF ho15 (aJ tK));replace j3:=bbP j3 hb;replace j4:=bbP j4 hb;replace HB:=am (aD tK hb);clear hb ho15;obtain ⟨jR,jS,qA⟩:=Kd.dG jC.out;subst qA;obtain ⟨jg,jh,qB⟩:=Kd.lF jt.out;subst qB)|((with_reducible refine cZ (N:=4) rfl ?_);refine dO rfl (N:=4) rfl (cs:=#[.slice none 0 0, .slice none 0 0]) (t:=46) rn_ ?_;intro j8 hg zd hbox hb;replace jt:=am (Kd.eG (aR_ jt.out) hb);replace jC:=am (Kd.dS (Kd.gU (aN_ jC.out) j8 (Nat.le_of_eq hg.symm)) hb);have j7:=am (hbox);have z5:=am ((by rw [hg];exact (aJ tK):w.heap.size≤j8));have GE61:=am ((by rw [hg];exact (aJ tK):w.heap.size≤j8));replace HB:=am (aD tK hb);have jc:=am ((by rw [hg];exact Nat.ne_of_lt (gN j3.out):jb≠j8));have jj:=am ((by rw [hg];exact Nat.ne_of_gt (gN j3.out):j8≠jb));replace j3:=bbP j3 hb;have jf:=am ((by rw [hg];exact Nat.ne_of_lt (gN j4.out):j9≠j8));have jr:=am ((by rw [hg];exact Nat.ne_of_gt (gN j4.out):j8≠j9));replace j4:=bbP j4 hb;clear hb hbox hg;have qI:=jj.out;have qJ:=jc.out;have qK:=jr.out;have qL:=jf.out;obtain ⟨jD,jE,jF,jG⟩:=gD j7.out))
   go_loopg [5] k (fun kq v5 w'=>∃ (jd:Int) (ji:List (List (S35))) (u62:Value),v5= .int .i64 jd∧Aside0 (bL.l0 kq jd j5 j6 jl ji=some (r1,r2,r3))∧Aside0 (kq≤k)∧Aside0 (Kd.R (Kd.int .i64) 3 w' w.heap.size (fun k_=>(w.heap.size≤k_)) (.slice jg jl.length jh) jl)∧Aside0 (Kd.N (Kd.slice 35 k35) 23 w' w.heap.size (fun k_=>(w.heap.size≤k_)∧some k_≠((.slice jg jl.length jh):Value).ownBlock∧k_≠jb∧k_≠j9∧k_≠j8) u62 ji)∧Aside0 (w'.heap[jb]?=some (.cells #[(.slice jm j5.length jn),(.slice js j6.length jo)] 46 (0,0)))∧Aside0 (w'.heap[j9]?=some (.cells #[(.slice none 0 0),(.slice none 0 0)] 46 (0,0)))∧Aside0 (w'.heap[j8]?=some (.cells #[(.slice jg jl.length jh),u62] 46 (0,0)))∧Aside0 (Below w.heap.size w w'))
   case atStart=>exact ⟨(0),(q1),(.slice jR q1.length jS),sd_,H',⟨Nat.le_refl _⟩,⟨iH (Kd.dL (Kd.eH (p:=⟨j8,1,none⟩) (Kd.eH (p:=⟨j8,0,none⟩) (Kd.fK jt.out j7.out (by decide)) (fun _ hk=>hk.2) (.slice jg jl.length jh)) (fun _ hk=>hk.2) (.slice jR q1.length jS)) (fun _ hk=>hk.1))⟩,⟨eO (Kd.aG (Kd.aT (p:=⟨j8,1,none⟩) (Kd.aT (p:=⟨j8,0,none⟩) (Kd.aG jC.out (fun k_ hk=>(⟨hk,hk.2⟩:_∧k_≠j8))) (fun _ hk=>hk.2) (.slice jg jl.length jh)) (fun _ hk=>hk.2) (.slice jR q1.length jS)) (fun _ hk=>⟨hk.1.1.1,⟨hk.1.1.2.1,⟨hk.1.1.2.2.1,⟨hk.1.1.2.2.2,hk.1.2⟩⟩⟩⟩))⟩,⟨(bC (bC j3.out jc.out _) jc.out _)⟩,⟨(bC (bC j4.out jf.out _) jf.out _)⟩,⟨(aM (aM j7.out 0 _ rfl) 1 _ rfl)⟩,⟨yZ⟩⟩
   case round=>
    clear H'
    try clear c3
    try clear c4
    try clear jy
    try clear jz
    try clear jD
    try clear jE
    try clear jN
    try clear jO
    try clear jA
    try clear jB
    try clear jF
    try clear jG
    try clear jP
    try clear jQ
    obtain ⟨jd,ji,u62,rfl,HA,qM,je,ja,j3,j4,j7,HB⟩:=hrel
    cases gk with
    |zero=>exact absurd HA.out (by simp [bL.l0])
    |succ k1=>
     have H:=HA.out
     clear HA
     simp only [bL.l0] at H
     by_cases jZ:jd < (j6.length:Int)
     ·rw [if_pos jZ] at H
      have q3:decide (jd < (j6.length:Int))=true:=decide_eq_true jZ
      clear jZ
      by_cases q9:0≤jd
      ·rw [if_pos q9] at H
       have qN:decide (0≤jd)=true:=decide_eq_true q9
       clear q9
       obtain ⟨qa,qO,H⟩:=bsm H
       (try dsimp only at H)
       have z6:=am qO
       clear qO
       by_cases qb:ji.length < 5864062014805
       ·rw [if_pos qb] at H
        have q4:=am qb
        clear qb
        obtain ⟨q5,hy_⟩:∃ y_:List (List (S35)),y_=(ji ++ [qa]):=⟨_,rfl⟩
        replace H:(bL.l0 k1 (wrap64 (jd + 1)) j5 j6 jl q5)=some (r1,r2,r3):=rx_
        have qC:=am hy_
        clear hy_
        have H':=am H
        clear H
        have qP:=jp.out
        have qQ:=jq.out
        have qR:=jc.out
        have qS:=jj.out
        obtain ⟨qc,qd,qe,qf⟩:=gD j3.out
        try go_wp2
        replace je:=am (Kd.nK je.out)
        replace ja:=am (Kd.kV ja.out)
        replace j3:=am (bK j3.out)
        replace j4:=am (bK j4.out)
        replace j7:=am (bK j7.out)
        replace HB:=am (bG HB.out)
        have qD:0≤(jd:Int):=of_decide_eq_true fV
        have qE:jd < (j6.length:Int):=of_decide_eq_true fV
        obtain ⟨jT,jL,jM,z7,jk,hl68_0,hi68_0⟩:=nY jv.out jd qD qE
        have hw68_0:=jk
        cases z7
        replace jk:=(HB.out.cell (World.block_lt_of_cell? w _ jk)).trans jk
        have jw:=am hi68_0
        have jU:=am hl68_0
        clear hi68_0 hl68_0
        replace qD:=eq_true qD
        replace qE:=eq_true qE
        refine lK (n:=12) (S:=fun w'=>w'.cell? ⟨j8,0,none⟩=some (.slice jg jl.length jh)∧w'.cell? ⟨j8,1,none⟩=some (u62)∧w'.cell? ⟨jb,0,none⟩=some (.slice jm j5.length jn)∧w'.cell? ⟨jb,1,none⟩=some (.slice (some jT) j6.length jo)∧w'.cell? (jT.add (jd).toNat)=some (.slice jL (fB j6 jd).length jM)) (ds:=[11]) (bz 12 0) (by kernel_rfl) rfl rfl ⟨(aC j7.out 0).trans rfl,(aC j7.out 1).trans rfl,(aC j3.out 0).trans rfl,(aC j3.out 1).trans rfl,((HB.out.cell (World.block_lt_of_cell? w _ hw68_0)).trans hw68_0)⟩ (fun hHeld=>?_);refine iF bL.aBm bL.SI (fun HT_ HW_=>?_)
        generalize wr.drew=ze at je ja j3 j4 j7 HB jw jk hHeld ⊢
        refine pr_ 0 23 (bz 12 1) HT_ ?_
        refine pr_ 2 25 (bz 12 5) HT_ ?_
        refine pr_ 4 27 (bz 12 21) HT_ ?_
        refine FZ 1 24 (bz 12 23) HT_ HW_ hHeld ?_
        refine FZ 3 26 (bz 12 31) HT_ HW_ hHeld ?_
        refine pr_ 5 28 (bz 12 63) HT_ ?_
        refine FZ 6 29 (bz 12 127) HT_ HW_ hHeld ?_
        refine kN (i:=7) (N:=some 30) (bz 12 255) rfl rfl (fQ HT_.out (by kernel_rfl)) (by decide) (fun K hK=>?_)
        refine iP Try.func48 (by kernel_rfl) rfl #[.slice jL (fB j6 jd).length jM] (by rfl) rfl rfl mO ?_
        with_reducible refine (bM.calls k1 _ _ (fB j6 jd) qa _ (aC_ (Kd.aV jw.out HB.out)) jU.out z6.out).mono ?_
        rintro e zf ⟨zg,rfl,ho0,hb⟩
        refine ⟨_,rfl,?_⟩
        have jH:=am (Kd.dF (Kd.aG (ok':=fun k_=>(w.heap.size≤k_)∧some k_≠(.slice jg jl.length jh:Value).ownBlock∧some k_≠(u62:Value).ownBlock∧k_≠jb∧k_≠j9∧k_≠j8) ho0 (fun k_ hk_=>⟨(Nat.le_trans (aJ yZ) hk_),(Kd.fresh' (Kd.kW (aR_ je.out)) k_ hk_),(Kd.fresh' (Kd.iN (aN_ ja.out)) k_ hk_),(fJ j3.out k_ hk_),(fJ j4.out k_ hk_),(fJ j7.out k_ hk_)⟩)) (aJ yZ))
        replace je:=am (Kd.eG (aR_ je.out) hb)
        replace ja:=am (Kd.eY (aN_ ja.out) (by first|exact Kd.dD ho0|exact Kd.dD (Kd.R_N ho0)) hb)
        replace j3:=bbP j3 hb
        replace j4:=bbP j4 hb
        replace j7:=bbP j7 hb
        replace HB:=am (aD yZ hb)
        (try clear hb)
        (try clear hb2)
        (try clear hk)
        (try clear hi)
        (try clear ho0)
        obtain ⟨qF,qG,q6⟩:=Kd.dG jH.out
        (first|subst q6|(injection q6 with f1_ f2_ f3_;have f4_:=f1_.symm;have f5_:=f3_.symm;clear f1_ f2_ f3_;subst f4_;subst f5_))
        refine hK.out _ _ ⟨(aC j7.out 0).trans rfl,(aC j7.out 1).trans rfl,(aC j3.out 0).trans rfl,(aC j3.out 1).trans rfl,((HB.out.cell (World.block_lt_of_cell? w _ hw68_0)).trans hw68_0)⟩ (fun hHeld=>?_)
        clear hK K
        refine eT (a':=?_) ?_ ?_
        rotate_left
        ·show Act.put _ (some 30) _=_
         simp only [Act.put,List.setIfInBounds_toArray,List.set_cons_zero,List.set_cons_succ,dN,dU]
         rfl
        refine kN (i:=8) (N:=some 31) (bz 12 511) rfl rfl (fQ HT_.out (by kernel_rfl)) (by decide) (fun K hK=>?_)
        refine CJ (w1:=?_) (v:=?_) (by rfl) rfl ?_ ?_
        rotate_left 2
        ·go_simp
         constructor
         ·rfl
         ·rfl
        refine hK.out _ _ ⟨(aC (bY j7.out _) 0).trans rfl,(aC (bY j7.out _) 1).trans rfl,(aC (bY j3.out _) 0).trans rfl,(aC (bY j3.out _) 1).trans rfl,(World.cell?_alloc_lt _ _ _ (World.block_lt_of_cell? _ _ (((HB.out.cell (World.block_lt_of_cell? w _ hw68_0)).trans hw68_0)))).trans (((HB.out.cell (World.block_lt_of_cell? w _ hw68_0)).trans hw68_0))⟩ (fun hHeld=>?_)
        clear hK K
        refine eT (a':=?_) ?_ ?_
        rotate_left
        ·show Act.put _ (some 31) _=_
         simp only [Act.put,List.setIfInBounds_toArray,List.set_cons_zero,List.set_cons_succ,dN,dU]
         rfl
        refine kN (i:=9) (N:=some 32) (bz 12 1023) rfl rfl (fQ HT_.out (by kernel_rfl)) (by decide) (fun K hK=>?_)
        refine Kd.uQ (Kd.slice 35 k35) (w0:=w) w.heap.size (by rfl) (.tmp 24) (.tmp 31) 44 23 (.slice none 0 0) 24 rfl Try.underlying44 ES rfl (by decide) (by omega) u62 ji qa [.slice qF qa.length qG] (fun k_=>(w.heap.size≤k_)∧some k_≠(.slice jg jl.length jh:Value).ownBlock∧k_≠jb∧k_≠j9∧k_≠j8) (fun k_=>((fun k_=>(w.heap.size≤k_)∧some k_≠(.slice jg jl.length jh:Value).ownBlock∧k_≠jb∧k_≠j9∧k_≠j8)) k_∧some k_≠(u62:Value).ownBlock) rfl rfl ?aP (fun _ hk=>hk) ?aF ?aO ?aB ?aS ?aL ?_
        (case aP=>exact (Kd.kU (Kd.bQ (Kd.aG (ok':=(fun k_=>((fun k_=>(w.heap.size≤k_)∧some k_≠(.slice jg jl.length jh:Value).ownBlock∧k_≠jb∧k_≠j9∧k_≠j8)) k_∧some k_≠(u62:Value).ownBlock)) (jH.out) (fun k_ hk=>⟨⟨hk.1,⟨hk.2.1,⟨hk.2.2.2.1,⟨hk.2.2.2.2.1,hk.2.2.2.2.2⟩⟩⟩⟩,hk.2.2.1⟩))).2.1 (Kd.N_F (Kd.aG (ok':=(fun k_=>((fun k_=>(w.heap.size≤k_)∧some k_≠(.slice jg jl.length jh:Value).ownBlock∧k_≠jb∧k_≠j9∧k_≠j8)) k_∧some k_≠(u62:Value).ownBlock)) (jH.out) (fun k_ hk=>⟨⟨hk.1,⟨hk.2.1,⟨hk.2.2.2.1,⟨hk.2.2.2.2.1,hk.2.2.2.2.2⟩⟩⟩⟩,hk.2.2.1⟩)))))
        (case aB=>exact yZ)
        (case aF=>exact (fun k_ hk=>⟨(Nat.le_trans (aJ yZ) hk),Kd.fresh' (Kd.kW (aR_ je.out)) k_ hk,fJ j3.out k_ hk,fJ j4.out k_ hk,fJ j7.out k_ hk⟩))
        (case aO=>exact (eO (Kd.aG ja.out (fun _ hk=>⟨hk.1.1,⟨hk.1.2.1,⟨hk.1.2.2.1,⟨hk.1.2.2.2.1,hk.1.2.2.2.2⟩⟩⟩⟩))))
        (case aS=>exact (aJ yZ))
        (case aL=>have:=q4.out;omega)
        intro zh z8 ho hb hg hat
        rw [← qC.out] at ho
        replace je:=am (Kd.wW (aR_ je.out) (Kd.vD (aN_ ja.out)) (by decide) hg)
        replace j3:=am (gX (g:=jb) (o:= .cells #[.slice jm j5.length jn, .slice (some jT) j6.length jo] 46 (0,0)) (aG_ j3.out) hg (Kd.BL ja.out j3.out (by decide)))
        replace j4:=am (gX (g:=j9) (o:= .cells #[.slice none 0 0, .slice none 0 0] 46 (0,0)) (aG_ j4.out) hg (Kd.BL ja.out j4.out (by decide)))
        replace j7:=am (gX (g:=j8) (o:= .cells #[.slice jg jl.length jh,u62] 46 (0,0)) (aG_ j7.out) hg (Kd.BL ja.out j7.out (by decide)))
        replace HB:=am (hb)
        have q7:=am (ho)
        clear ja jH
        clear ho hb hg hat
        obtain ⟨jV,jW,q8⟩:=Kd.dG q7.out
        (first|subst q8|(injection q8 with f1_ f2_ f3_;have f4_:=f1_.symm;have f5_:=f3_.symm;clear f1_ f2_ f3_;subst f4_;subst f5_))
        refine hK.out _ _ ⟨(aC j7.out 0).trans rfl,(aC j7.out 1).trans rfl,(aC j3.out 0).trans rfl,(aC j3.out 1).trans rfl,((HB.out.cell (World.block_lt_of_cell? w _ hw68_0)).trans hw68_0)⟩ (fun hHeld=>?_)
        clear hK K
        refine eT (a':=?_) ?_ ?_
        rotate_left
        ·show Act.put _ (some 32) _=_
         simp only [Act.put,List.setIfInBounds_toArray,List.set_cons_zero,List.set_cons_succ,dN,dU]
         rfl
        refine pr_ 10 33 (bz 12 2047) HT_ ?_
        refine wO (i:=11) (N:=none) (bz 12 4095) rfl rfl (fQ HT_.out (by kernel_rfl)) (by decide) (fun K hK=>?_)
        have z9:z8.cell? ⟨j8,1,none⟩=some (u62):=(aC j7.out 1).trans rfl
        have hfs34:=aU j7.out 1
        have hns34_0:=jc.out
        have hns34_1:=jf.out
        have hms34_0:=jj.out
        have hms34_1:=jr.out
        refine rP (w1:=?_) (by rfl) rfl ?_ ?_
        rotate_left
        ·go_simp
         rfl
        refine hK.out _ _ ?_
        clear hK K
        refine nN (kQ HT_.out (by kernel_rfl)) ?_
        try go_wp2
        go_roundg k1
        case measure=>have:=qM.out;omega
        case rel=>exact ⟨(wrap64 (jd + 1)),(q5),(.slice jV q5.length jW),sd_,H',⟨by have:=qM.out;omega⟩,⟨iH (Kd.dL (Kd.eH (p:=⟨j8,1,none⟩) (Kd.fK je.out j7.out (by decide)) (fun _ hk=>hk.2) (.slice jV q5.length jW)) (fun _ hk=>hk.1))⟩,⟨eO (Kd.aG (Kd.aT (p:=⟨j8,1,none⟩) (Kd.aG q7.out (fun k_ hk=>(⟨hk,hk.2.2.2.2⟩:_∧k_≠j8))) (fun _ hk=>hk.2) (.slice jV q5.length jW)) (fun _ hk=>⟨hk.1.1,⟨hk.1.2.1,⟨hk.1.2.2.1,⟨hk.1.2.2.2.1,hk.1.2.2.2.2⟩⟩⟩⟩))⟩,⟨(bC j3.out jc.out _)⟩,⟨(bC j4.out jf.out _)⟩,⟨(aM j7.out 1 _ rfl)⟩,⟨yZ⟩⟩
       rw [if_neg qb] at H
       exact absurd H (by simp)
      rw [if_neg q9] at H
      exact absurd H (by simp)
     rw [if_neg jZ] at H
     have q3:decide (jd < (j6.length:Int))=false:=decide_eq_false jZ
     clear jZ
     simp only [Option.some.injEq,Prod.mk.injEq] at H
     obtain ⟨rfl,rfl,rfl⟩:=H
     have qT:=jp.out
     have qU:=jq.out
     have qV:=jc.out
     have qW:=jj.out
     obtain ⟨qg,qh,qi,qj⟩:=gD j3.out
     have qX:=jr.out
     have qY:=jf.out
     obtain ⟨qk,ql,qm,qn⟩:=gD j7.out
     obtain ⟨qo,qp,qq,qr⟩:=gD j4.out
     obtain ⟨jX,jY,qH⟩:=Kd.dG ja.out
     subst qH
     go_wp2
     refine bodyPost_ret (vM rfl _ _ j9 46 #[.slice jg jl.length jh, .slice jX ji.length jY] (0,0) _ rfl (aM (aM j4.out 0 _ rfl) 1 _ rfl) Try.underlying46 rfl (by kernel_rfl)) rfl ?_
     exact ⟨_,_,iI,iH (Kd.dL (Kd.eH (p:=⟨j9,1,none⟩) (Kd.eH (p:=⟨j9,0,none⟩) (Kd.fK je.out j4.out (by decide)) (fun _ hk=>hk.2) (.slice jg jl.length jh)) (fun _ hk=>hk.2) (.slice jX ji.length jY)) (fun _ hk=>hk.1)),eO (Kd.aG (Kd.aT (p:=⟨j9,1,none⟩) (Kd.aT (p:=⟨j9,0,none⟩) (Kd.aG ja.out (fun k_ hk=>(⟨hk,hk.2.2.2.1⟩:_∧k_≠j9))) (fun _ hk=>hk.2) (.slice jg jl.length jh)) (fun _ hk=>hk.2) (.slice jX ji.length jY)) (fun _ hk=>⟨hk.1.1,hk.1.2.1⟩)),yZ⟩
  rw [if_neg c4] at H
  exact absurd H (by simp)
 replace c3:=Bool.eq_false_iff.mpr c3
 subst c3
 rw [if_neg (show ¬ (false=true) by decide)] at H
 simp only [Option.some.injEq,Prod.mk.injEq] at H
 obtain ⟨rfl,rfl,rfl⟩:=H
 go_wp2_with (first|((with_reducible refine aN (f:=59) rfl ?_);refine gl_ 7 Try.func59 #[.agg #[.slice jm j5.length jn, .slice js j6.length jo]] ?_;(with_reducible refine (bD.calls k _ _ j5 _ _ j6 false _ (aC_ (Kd.aV ju.out HB.out)) jI.out (aC_ (Kd.aV jv.out HB.out)) jJ.out A2.out).mono ?_);rintro e zi ⟨rfl,hb⟩;refine ⟨_,rfl,?_⟩;replace j3:=bbP j3 hb;replace j4:=bbP j4 hb;replace HB:=am (aD tK hb);(try clear hb);obtain ⟨qs,qt,qu,qv⟩:=gD j4.out))
 refine bodyPost_ret (vM rfl _ _ j9 46 #[.slice none 0 0, .slice none 0 0] (0,0) _ rfl (aM (aM j4.out 0 _ rfl) 1 _ rfl) Try.underlying46 rfl (by kernel_rfl)) rfl ?_
 exact ⟨_,_,iI,by first|exact Kd.oC _ _ _ _ _|exact Kd.sG _ _ _ _ _|exact Kd.sK _ _ _ _ _|exact Kd.sH _ _ _ _ _|exact Kd.sI _ _ _ _ _,by first|exact Kd.oC _ _ _ _ _|exact Kd.sG _ _ _ _ _|exact Kd.sK _ _ _ _ _|exact Kd.sH _ _ _ _ _|exact Kd.sI _ _ _ _ _,tK⟩
theorem dV.mono_l:∀ k,(∀ y0 y1 y2,LeO (dV.l0 k y0 y1 y2) (dV.l0 (k + 1) y0 y1 y2))
 |0=>fun _ _ _ r h=>by simp [dV.l0] at h
 |k + 1=>by
  have ih0:=dV.mono_l k
  ·intro y0 y1 y2
   unfold dV.l0
   exact mo_
theorem dV.mono:∀ a0 a1 k,LeO (dV.f k a0 a1) (dV.f (k + 1) a0 a1):=by
 intro a0 a1 k
 have ih0:=dV.mono_l k
 unfold dV.f
 exact mo_
theorem dV.calls (k:Nat) (A0:Option Addr) (c0:Nat) (l0:List Int) (A1:Option Addr) (c1:Nat) (l1:List Int) (r:Bool) (w:World) (hr0:Kd.C (Kd.int .i64) w A0 l0.length l0) (hc0:l0.length≤c0) (hr1:Kd.C (Kd.int .i64) w A1 l1.length l1) (hc1:l1.length≤c1) (h:dV.f k l0 l1=some r):
  Calls Try.prog 32 #[.slice A0 l0.length c0, .slice A1 l1.length c1] w fun e w'=>e= .returned (.bool r)∧iX w w':=by
 have jk:=am hr0
 have jp:=am hc0
 clear hr0 hc0
 have jl:=am hr1
 have jq:=am hc1
 clear hr1 hc1
 have H:(if (l0.length:Int)=(l1.length:Int) then (dV.l0 k l0 l1 0) else (some false))=some r:=h
 clear h
 by_cases c3:(l0.length:Int)=(l1.length:Int)
 ·rw [if_pos c3] at H
  have ja:((l0.length:Int) == (l1.length:Int))=true:=beq_iff_eq.mpr c3
  have jb:((l0.length:Int) != (l1.length:Int))=false:=bne_eq_false_iff_eq.mpr c3
  have jc:(l0.length == l1.length)=true:=by first|simpa using c3|(simp at c3 ⊢;omega)
  clear c3
  have H':=am H
  clear H
  go_enter Try.func32,Try.ntmps32
  go_wp2
  repeat (go_quiet (fail);try go_wp2)
  go_loopg [5] k (fun kq v5 w'=>∃ (j3:Int),v5= .int .i64 j3∧Aside0 (dV.l0 kq l0 l1 j3=some r)∧Aside0 (kq≤k)∧iX w w')
  case atStart=>exact ⟨(0),sd_,H',⟨Nat.le_refl _⟩,gM⟩
  case round=>
   clear H'
   try clear c1
   try clear c3
   try clear ja
   try clear jb
   try clear jc
   obtain ⟨j3,rfl,HA,jm,⟨m1,rfl⟩⟩:=hrel
   cases gk with
   |zero=>exact absurd HA.out (by simp [dV.l0])
   |succ k1=>
    have H:=HA.out
    clear HA
    simp only [dV.l0] at H
    by_cases c4:j3 < (l0.length:Int)
    ·rw [if_pos c4] at H
     have jd:decide (j3 < (l0.length:Int))=true:=decide_eq_true c4
     clear c4
     by_cases c5:0≤j3
     ·rw [if_pos c5] at H
      have jn:decide (0≤j3)=true:=decide_eq_true c5
      clear c5
      by_cases c6:j3 < (l1.length:Int)
      ·rw [if_pos c6] at H
       have jo:decide (j3 < (l1.length:Int))=true:=decide_eq_true c6
       clear c6
       by_cases c7:(rd l0 j3)=(rd l1 j3)
       ·rw [if_pos c7] at H
        have je:((rd l0 j3) == (rd l1 j3))=true:=beq_iff_eq.mpr c7
        have jf:((rd l0 j3) != (rd l1 j3))=false:=bne_eq_false_iff_eq.mpr c7
        clear c7
        have H':=am H
        clear H
        have j4:0≤(j3:Int):=of_decide_eq_true fV
        have j5:j3 < (l0.length:Int):=of_decide_eq_true fV
        obtain ⟨jg,jh,j6⟩:=Kd.nM jk.out j3 j4 j5
        cases jh
        replace j4:=eq_true j4
        replace j5:=eq_true j5
        have j7:0≤(j3:Int):=of_decide_eq_true fV
        have j8:j3 < (l1.length:Int):=of_decide_eq_true fV
        obtain ⟨ji,jj,j9⟩:=Kd.nM jl.out j3 j7 j8
        cases jj
        replace j7:=eq_true j7
        replace j8:=eq_true j8
        go_wp2
        repeat (go_quiet (fail);try go_wp2)
        go_roundg k1
        case measure=>have:=jm.out;omega
        case rel=>exact ⟨(wrap64 (j3 + 1)),sd_,H',⟨by have:=jm.out;omega⟩,gM⟩
       rw [if_neg c7] at H
       have je:((rd l0 j3) == (rd l1 j3))=false:=beq_eq_false_iff_ne.mpr c7
       have jf:((rd l0 j3) != (rd l1 j3))=true:=bne_iff_ne.mpr c7
       obtain rfl:=Option.some.inj H
       have j4:0≤(j3:Int):=of_decide_eq_true fV
       have j5:j3 < (l0.length:Int):=of_decide_eq_true fV
       obtain ⟨jg,jh,j6⟩:=Kd.nM jk.out j3 j4 j5
       cases jh
       replace j4:=eq_true j4
       replace j5:=eq_true j5
       have j7:0≤(j3:Int):=of_decide_eq_true fV
       have j8:j3 < (l1.length:Int):=of_decide_eq_true fV
       obtain ⟨ji,jj,j9⟩:=Kd.nM jl.out j3 j7 j8
       cases jj
       replace j7:=eq_true j7
       replace j8:=eq_true j8
       go_wp2
       repeat (go_quiet (fail);try go_wp2)
       go_ret
       exact ⟨sd_,gM⟩
      rw [if_neg c6] at H
      exact absurd H (by simp)
     rw [if_neg c5] at H
     exact absurd H (by simp)
    rw [if_neg c4] at H
    have jd:decide (j3 < (l0.length:Int))=false:=decide_eq_false c4
    clear c4
    obtain rfl:=Option.some.inj H
    go_wp2
    repeat (go_quiet (fail);try go_wp2)
    go_ret
    exact ⟨sd_,gM⟩
 rw [if_neg c3] at H
 have ja:((l0.length:Int) == (l1.length:Int))=false:=beq_eq_false_iff_ne.mpr c3
 have jb:((l0.length:Int) != (l1.length:Int))=true:=bne_iff_ne.mpr c3
 have jc:(l0.length == l1.length)=false:=by first|simpa using c3|(simp at c3 ⊢;omega)
 obtain rfl:=Option.some.inj H
 go_enter Try.func32,Try.ntmps32
 go_wp2
 repeat (go_quiet (fail);try go_wp2)
 go_ret
 exact ⟨sd_,gM⟩
theorem bE.mono_l:∀ k,(∀ y0 y1 y2 y3 y4,LeO (bE.j0 k y0 y1 y2 y3 y4) (bE.j0 (k + 1) y0 y1 y2 y3 y4))∧(∀ y0 y1 y2 y3 y4,LeO (bE.l0 k y0 y1 y2 y3 y4) (bE.l0 (k + 1) y0 y1 y2 y3 y4))
 |0=>⟨fun _ _ _ _ _ r h=>by simp [bE.j0] at h,fun _ _ _ _ _ r h=>by simp [bE.l0] at h⟩
 |k + 1=>by
  obtain ⟨ih0,ih1⟩:=bE.mono_l k
  refine ⟨?_,?_⟩
  ·intro y0 y1 y2 y3 y4
   unfold bE.j0
   have m0:=@dV.mono
   have m1:=@bF.mono
   exact mo_
  ·intro y0 y1 y2 y3 y4
   unfold bE.l0
   have m0:=@dV.mono
   have m1:=@bF.mono
   exact mo_
theorem bE.mono:∀ a0 a1 a2 a3 k,LeO (bE.f k a0 a1 a2 a3) (bE.f (k + 1) a0 a1 a2 a3):=by
 intro a0 a1 a2 a3 k
 obtain ⟨ih0,ih1⟩:=bE.mono_l k
 unfold bE.f
 have m0:=@dV.mono
 have m1:=@bF.mono
 exact mo_
def bE.T6:Bool × List (List Nat × List Nat):=(true,[([],[]),([0],[0]),([],[]),([1,2],[1,2]),([3],[3]),([],[]),([5],[5]),([],[]),([6,7],[6,7]),([8],[8]),([4,9],[4,9]),([10],[10])])
def bE.B6:List Nat:=[0,1,0,7,15,0,32,0,224,480,1023,2047]
theorem bE.CF:lC .any (opsOf Try.f29 6)=bE.T6:=by kernel_rfl
theorem bE.uY:iJ bE.T6.2 bE.B6=true:=by kernel_rfl
theorem bE.calls (k:Nat) (ji:Option Addr) (jj:Nat) (ja:List Int) (jv:Option Addr) (jq:Nat) (j5:List (List (S35))) (jk:Option Addr) (jl:Nat) (jb:List Int) (jw:Option Addr) (jr:Nat) (j6:List (List (S35))) (r:Bool) (w:World) (hr0_0:Kd.C (Kd.int .i64) w ji ja.length ja) (hc0_0:ja.length≤jj) (hr0_1:Kd.C (Kd.slice 35 k35) w jv j5.length j5) (hc0_1:j5.length≤jq) (hr1_0:Kd.C (Kd.int .i64) w jk jb.length jb) (hc1_0:jb.length≤jl) (hr1_1:Kd.C (Kd.slice 35 k35) w jw j6.length j6) (hc1_1:j6.length≤jr) (h:bE.f k ja j5 jb j6=some r):
  Calls Try.prog 29 #[.agg #[.slice ji ja.length jj, .slice jv j5.length jq], .agg #[.slice jk jb.length jl, .slice jw j6.length jr]] w fun e w'=>e= .returned (.bool r)∧Below w.heap.size w w':=by
 have hu46:=Try.underlying46
 have jz:=am hr0_0
 have jA:=am hc0_0
 clear hr0_0 hc0_0
 have jB:=am hr0_1
 have ql:=am hc0_1
 clear hr0_1 hc0_1
 have jC:=am hr1_0
 have jD:=am hc1_0
 clear hr1_0 hc1_0
 have jE:=am hr1_1
 have qm:=am hc1_1
 clear hr1_1 hc1_1
 have HB:=am (Below.refl w.heap.size w)
 have H:((dV.f k ja jb).bind fun qd=>(if qd=true then (bE.j0 k ((j5.length:Int) != (j6.length:Int)) ja j5 jb j6) else (bE.j0 k true ja j5 jb j6)))=some r:=h
 clear h
 have qe:=am H
 clear H
 go_enter Try.func29,Try.ntmps29
 go_upto_region 1 with (first|((with_reducible refine cZ (N:=2) rfl ?_);(try (refine kK (by rfl) ?_;dsimp only));refine dO rfl (N:=2) rfl (cs:=#[.slice ji ja.length jj, .slice jv j5.length jq]) (t:=46) rn_ ?_;intro jg hg w4 hbox hb;have j4:=am (hbox);have qB:=am ((by rw [hg];exact (aJ fU):w.heap.size≤jg));have GE41:=am ((by rw [hg];exact (aJ fU):w.heap.size≤jg));replace HB:=am (aD fU hb);clear hb hbox hg)|((with_reducible refine cZ (N:=3) rfl ?_);(try (refine kK (by rfl) ?_;dsimp only));refine dO rfl (N:=3) rfl (cs:=#[.slice jk jb.length jl, .slice jw j6.length jr]) (t:=46) rn_ ?_;intro jh hg w5 hbox hb;have j7:=am (hbox);have qC:=am ((by rw [hg];exact (aJ NC):w.heap.size≤jh));have GE42:=am ((by rw [hg];exact (aJ NC):w.heap.size≤jh));replace HB:=am (aD NC hb);have jc:=am ((by rw [hg];exact Nat.ne_of_lt (gN j4.out):jg≠jh));have jd:=am ((by rw [hg];exact Nat.ne_of_gt (gN j4.out):jh≠jg));replace j4:=bbP j4 hb;clear hb hbox hg))
 (try simp only [Act.put,List.setIfInBounds_toArray,List.set_cons_zero,List.set_cons_succ])
 go_cut [20] (fun qD wc=>∃ (kq:Nat) (ju:Bool),qD= .bool ju∧Aside0 (bE.j0 kq ju ja j5 jb j6=some r)∧Aside0 (kq≤k)∧Aside0 (wc.heap[jg]?=some (.cells #[(.slice ji ja.length jj),(.slice jv j5.length jq)] 46 (0,0)))∧Aside0 (wc.heap[jh]?=some (.cells #[(.slice jk jb.length jl),(.slice jw j6.length jr)] 46 (0,0)))∧Aside0 (Below w.heap.size w wc))
 case first=>
  have H:=qe.out
  clear qe
  obtain ⟨qd,A6,H⟩:=bsa H
  (try dsimp only at H)
  by_cases c7:qd=true
  ·subst c7
   rw [if_pos rfl] at H
   have H':=am H
   clear H
   have qE:=jc.out
   have qF:=jd.out
   obtain ⟨qf,qg,qh,qi⟩:=gD j4.out
   obtain ⟨jM,jN,jO,jP⟩:=gD j7.out
   go_wp2_with (first|((with_reducible refine aN (f:=32) rfl ?_);refine gl_ 10 Try.func32 #[.slice ji ja.length jj, .slice jk jb.length jl] ?_;(with_reducible refine (dV.calls k _ _ ja _ _ jb true _ (aC_ (Kd.aV jz.out HB.out)) jA.out (aC_ (Kd.aV jC.out HB.out)) jD.out A6.out).mono ?_);rintro e w' ⟨rfl,⟨nd,rfl⟩⟩;refine ⟨_,rfl,?_⟩))
   go_meet
   case rel=>exact ⟨_,(((j5.length:Int) != (j6.length:Int))),sd_,H',⟨by first|omega|exact Nat.le_refl _⟩,⟨by (with_reducible repeat (first|refine dI ?_ _|refine bK ?_|refine bY ?_ _));exact j4.out⟩,⟨by (with_reducible repeat (first|refine dI ?_ _|refine bK ?_|refine bY ?_ _));exact j7.out⟩,⟨AJ⟩⟩
  replace c7:=Bool.eq_false_iff.mpr c7
  subst c7
  rw [if_neg (show ¬ (false=true) by decide)] at H
  have H':=am H
  clear H
  have qn:=jc.out
  have qo:=jd.out
  obtain ⟨jQ,jR,jS,jT⟩:=gD j4.out
  obtain ⟨jU,jV,jW,jX⟩:=gD j7.out
  go_wp2_with (first|((with_reducible refine aN (f:=32) rfl ?_);refine gl_ 10 Try.func32 #[.slice ji ja.length jj, .slice jk jb.length jl] ?_;(with_reducible refine (dV.calls k _ _ ja _ _ jb false _ (aC_ (Kd.aV jz.out HB.out)) jA.out (aC_ (Kd.aV jC.out HB.out)) jD.out A6.out).mono ?_);rintro e w' ⟨rfl,⟨nd,rfl⟩⟩;refine ⟨_,rfl,?_⟩))
  go_meet
  case rel=>exact ⟨_,(true),sd_,H',⟨by first|omega|exact Nat.le_refl _⟩,⟨by (with_reducible repeat (first|refine dI ?_ _|refine bK ?_|refine bY ?_ _));exact j4.out⟩,⟨by (with_reducible repeat (first|refine dI ?_ _|refine bK ?_|refine bY ?_ _));exact j7.out⟩,⟨AJ⟩⟩
 case rest=>
  clear qe
  obtain ⟨kq,ju,rfl,HA,HJ2,j4,j7,HB⟩:=hcut
  cases kq with
  |zero=>exact absurd HA.out (by simp [bE.j0])
  |succ qp=>
   have H:=HA.out
   clear HA
   simp only [bE.j0] at H
   by_cases jK:ju=true
   ·subst jK
    rw [if_pos rfl] at H
    obtain rfl:=Option.some.inj H
    go_wp2
    go_ret
    exact ⟨rr_,AJ⟩
   replace jK:=Bool.eq_false_iff.mpr jK
   subst jK
   rw [if_neg (show ¬ (false=true) by decide)] at H
   have H':=am H
   clear H
   go_wp2
   go_loopg [5] qp (fun kq v5 w'=>∃ (j3:Int),v5= .int .i64 j3∧Aside0 (bE.l0 kq j3 ja j5 jb j6=some r)∧Aside0 (kq≤qp)∧Aside0 (w'.heap[jg]?=some (.cells #[(.slice ji ja.length jj),(.slice jv j5.length jq)] 46 (0,0)))∧Aside0 (w'.heap[jh]?=some (.cells #[(.slice jk jb.length jl),(.slice jw j6.length jr)] 46 (0,0)))∧Aside0 (Below w.heap.size w w'))
   case atStart=>exact ⟨(0),sd_,H',⟨Nat.le_refl _⟩,⟨by (with_reducible repeat (first|refine dI ?_ _|refine bK ?_|refine bY ?_ _));exact j4.out⟩,⟨by (with_reducible repeat (first|refine dI ?_ _|refine bK ?_|refine bY ?_ _));exact j7.out⟩,⟨AJ⟩⟩
   case round=>
    clear H'
    try clear jK
    obtain ⟨j3,rfl,HA,qq,j4,j7,HB⟩:=hrel
    cases gk with
    |zero=>exact absurd HA.out (by simp [bE.l0])
    |succ k2=>
     have H:=HA.out
     clear HA
     simp only [bE.l0] at H
     by_cases jJ:j3 < (j5.length:Int)
     ·rw [if_pos jJ] at H
      have jL:decide (j3 < (j5.length:Int))=true:=decide_eq_true jJ
      clear jJ
      by_cases jY:0≤j3
      ·rw [if_pos jY] at H
       have qr:decide (0≤j3)=true:=decide_eq_true jY
       clear jY
       by_cases jZ:j3 < (j6.length:Int)
       ·rw [if_pos jZ] at H
        have qs:decide (j3 < (j6.length:Int))=true:=decide_eq_true jZ
        clear jZ
        obtain ⟨qG,qt,H⟩:=bsm H
        (try dsimp only at H)
        have qu:=am qt
        clear qt
        by_cases q0:qG=true
        ·subst q0
         rw [if_pos rfl] at H
         have H':=am H
         clear H
         have qv:=jc.out
         have qw:=jd.out
         obtain ⟨q1,q2,q3,q4⟩:=gD j4.out
         try go_wp2
         replace j4:=am (bK j4.out)
         replace j7:=am (bK j7.out)
         replace HB:=am (bG HB.out)
         have jF:0≤(j3:Int):=of_decide_eq_true fV
         have jG:j3 < (j5.length:Int):=of_decide_eq_true fV
         obtain ⟨jx,jm,jn,qj,j8,hl45_0,hi45_0⟩:=nY jB.out j3 jF jG
         have hw45_0:=j8
         cases qj
         replace j8:=(HB.out.cell (World.block_lt_of_cell? w _ j8)).trans j8
         have je:=am hi45_0
         have js:=am hl45_0
         clear hi45_0 hl45_0
         replace jF:=eq_true jF
         replace jG:=eq_true jG
         have jH:0≤(j3:Int):=of_decide_eq_true fV
         have jI:j3 < (j6.length:Int):=of_decide_eq_true fV
         obtain ⟨jy,jo,jp,qk,j9,hl47_0,hi47_0⟩:=nY jE.out j3 jH jI
         have hw47_0:=j9
         cases qk
         replace j9:=(HB.out.cell (World.block_lt_of_cell? w _ j9)).trans j9
         have jf:=am hi47_0
         have jt:=am hl47_0
         clear hi47_0 hl47_0
         replace jH:=eq_true jH
         replace jI:=eq_true jI
         refine lK (n:=12) (S:=fun w'=>w'.cell? ⟨jg,0,none⟩=some (.slice ji ja.length jj)∧w'.cell? ⟨jg,1,none⟩=some (.slice (some jx) j5.length jq)∧w'.cell? ⟨jh,0,none⟩=some (.slice jk jb.length jl)∧w'.cell? ⟨jh,1,none⟩=some (.slice (some jy) j6.length jr)∧w'.cell? (jx.add (j3).toNat)=some (.slice jm (fB j5 j3).length jn)∧w'.cell? (jy.add (j3).toNat)=some (.slice jo (fB j6 j3).length jp)) (ds:=[]) (bz 12 0) (by kernel_rfl) rfl rfl ⟨(aC j4.out 0).trans rfl,(aC j4.out 1).trans rfl,(aC j7.out 0).trans rfl,(aC j7.out 1).trans rfl,((HB.out.cell (World.block_lt_of_cell? w _ hw45_0)).trans hw45_0),((HB.out.cell (World.block_lt_of_cell? w _ hw47_0)).trans hw47_0)⟩ (fun hHeld=>?_);refine iF bE.CF bE.uY (fun HT_ HW_=>?_)
         generalize wr.drew=qH at j4 j7 HB je jf j8 j9 hHeld ⊢
         refine pr_ 0 28 (bz 12 1) HT_ ?_
         refine pr_ 2 30 (bz 12 5) HT_ ?_
         refine pr_ 5 33 (bz 12 37) HT_ ?_
         refine pr_ 7 35 (bz 12 165) HT_ ?_
         refine MN 1 29 (bz 12 167) HT_ HW_ hHeld ?_
         refine pr_ 3 31 (bz 12 175) HT_ ?_
         refine MN 4 32 (bz 12 191) HT_ HW_ hHeld ?_
         refine MN 6 34 (bz 12 255) HT_ HW_ hHeld ?_
         refine pr_ 8 36 (bz 12 511) HT_ ?_
         refine MN 9 37 (bz 12 1023) HT_ HW_ hHeld ?_
         refine kN (i:=10) (N:=some 38) (bz 12 2047) rfl rfl (fQ HT_.out (by kernel_rfl)) (by decide) (fun K hK=>?_)
         refine iP Try.func15 (by kernel_rfl) rfl #[.slice jm (fB j5 j3).length jn, .slice jo (fB j6 j3).length jp] (by rfl) rfl rfl mO ?_
         with_reducible refine (bF.calls k2 _ _ (fB j5 j3) _ _ (fB j6 j3) true _ (aC_ (Kd.aV je.out HB.out)) js.out (aC_ (Kd.aV jf.out HB.out)) jt.out qu.out).mono ?_
         rintro e qI ⟨rfl,hb⟩
         refine ⟨_,rfl,?_⟩
         replace j4:=bbP j4 hb
         replace j7:=bbP j7 hb
         replace HB:=am (aD AJ hb)
         (try clear hb)
         (try clear hb2)
         (try clear hk)
         (try clear hi)
         refine hK.out _ _ ⟨(aC j4.out 0).trans rfl,(aC j4.out 1).trans rfl,(aC j7.out 0).trans rfl,(aC j7.out 1).trans rfl,((HB.out.cell (World.block_lt_of_cell? w _ hw45_0)).trans hw45_0),((HB.out.cell (World.block_lt_of_cell? w _ hw47_0)).trans hw47_0)⟩ (fun hHeld=>?_)
         clear hK K
         refine eT (a':=?_) ?_ ?_
         rotate_left
         ·show Act.put _ (some 38) _=_
          simp only [Act.put,List.setIfInBounds_toArray,List.set_cons_zero,List.set_cons_succ,dN,dU]
          rfl
         refine pr_ 11 39 (bz 12 4095) HT_ ?_
         refine nN (kQ HT_.out (by kernel_rfl)) ?_
         try go_wp2
         go_roundg k2
         case measure=>have:=HJ2.out;have:=qq.out;omega
         case rel=>exact ⟨(wrap64 (j3 + 1)),sd_,H',⟨by have:=HJ2.out;have:=qq.out;omega⟩,⟨by (with_reducible repeat (first|refine dI ?_ _|refine bK ?_|refine bY ?_ _));exact j4.out⟩,⟨by (with_reducible repeat (first|refine dI ?_ _|refine bK ?_|refine bY ?_ _));exact j7.out⟩,⟨AJ⟩⟩
        replace q0:=Bool.eq_false_iff.mpr q0
        subst q0
        rw [if_neg (show ¬ (false=true) by decide)] at H
        obtain rfl:=Option.some.inj H
        have qx:=jc.out
        have qy:=jd.out
        obtain ⟨q5,q6,q7,q8⟩:=gD j4.out
        try go_wp2
        replace j4:=am (bK j4.out)
        replace j7:=am (bK j7.out)
        replace HB:=am (bG HB.out)
        have jF:0≤(j3:Int):=of_decide_eq_true fV
        have jG:j3 < (j5.length:Int):=of_decide_eq_true fV
        obtain ⟨jx,jm,jn,qj,j8,hl45_0,hi45_0⟩:=nY jB.out j3 jF jG
        have hw45_0:=j8
        cases qj
        replace j8:=(HB.out.cell (World.block_lt_of_cell? w _ j8)).trans j8
        have je:=am hi45_0
        have js:=am hl45_0
        clear hi45_0 hl45_0
        replace jF:=eq_true jF
        replace jG:=eq_true jG
        have jH:0≤(j3:Int):=of_decide_eq_true fV
        have jI:j3 < (j6.length:Int):=of_decide_eq_true fV
        obtain ⟨jy,jo,jp,qk,j9,hl47_0,hi47_0⟩:=nY jE.out j3 jH jI
        have hw47_0:=j9
        cases qk
        replace j9:=(HB.out.cell (World.block_lt_of_cell? w _ j9)).trans j9
        have jf:=am hi47_0
        have jt:=am hl47_0
        clear hi47_0 hl47_0
        replace jH:=eq_true jH
        replace jI:=eq_true jI
        refine lK (n:=12) (S:=fun w'=>w'.cell? ⟨jg,0,none⟩=some (.slice ji ja.length jj)∧w'.cell? ⟨jg,1,none⟩=some (.slice (some jx) j5.length jq)∧w'.cell? ⟨jh,0,none⟩=some (.slice jk jb.length jl)∧w'.cell? ⟨jh,1,none⟩=some (.slice (some jy) j6.length jr)∧w'.cell? (jx.add (j3).toNat)=some (.slice jm (fB j5 j3).length jn)∧w'.cell? (jy.add (j3).toNat)=some (.slice jo (fB j6 j3).length jp)) (ds:=[]) (bz 12 0) (by kernel_rfl) rfl rfl ⟨(aC j4.out 0).trans rfl,(aC j4.out 1).trans rfl,(aC j7.out 0).trans rfl,(aC j7.out 1).trans rfl,((HB.out.cell (World.block_lt_of_cell? w _ hw45_0)).trans hw45_0),((HB.out.cell (World.block_lt_of_cell? w _ hw47_0)).trans hw47_0)⟩ (fun hHeld=>?_);refine iF bE.CF bE.uY (fun HT_ HW_=>?_)
        generalize wr.drew=qJ at j4 j7 HB je jf j8 j9 hHeld ⊢
        refine pr_ 0 28 (bz 12 1) HT_ ?_
        refine pr_ 2 30 (bz 12 5) HT_ ?_
        refine pr_ 5 33 (bz 12 37) HT_ ?_
        refine pr_ 7 35 (bz 12 165) HT_ ?_
        refine MN 1 29 (bz 12 167) HT_ HW_ hHeld ?_
        refine pr_ 3 31 (bz 12 175) HT_ ?_
        refine MN 4 32 (bz 12 191) HT_ HW_ hHeld ?_
        refine MN 6 34 (bz 12 255) HT_ HW_ hHeld ?_
        refine pr_ 8 36 (bz 12 511) HT_ ?_
        refine MN 9 37 (bz 12 1023) HT_ HW_ hHeld ?_
        refine kN (i:=10) (N:=some 38) (bz 12 2047) rfl rfl (fQ HT_.out (by kernel_rfl)) (by decide) (fun K hK=>?_)
        refine iP Try.func15 (by kernel_rfl) rfl #[.slice jm (fB j5 j3).length jn, .slice jo (fB j6 j3).length jp] (by rfl) rfl rfl mO ?_
        with_reducible refine (bF.calls k2 _ _ (fB j5 j3) _ _ (fB j6 j3) false _ (aC_ (Kd.aV je.out HB.out)) js.out (aC_ (Kd.aV jf.out HB.out)) jt.out qu.out).mono ?_
        rintro e qK ⟨rfl,hb⟩
        refine ⟨_,rfl,?_⟩
        replace j4:=bbP j4 hb
        replace j7:=bbP j7 hb
        replace HB:=am (aD AJ hb)
        (try clear hb)
        (try clear hb2)
        (try clear hk)
        (try clear hi)
        refine hK.out _ _ ⟨(aC j4.out 0).trans rfl,(aC j4.out 1).trans rfl,(aC j7.out 0).trans rfl,(aC j7.out 1).trans rfl,((HB.out.cell (World.block_lt_of_cell? w _ hw45_0)).trans hw45_0),((HB.out.cell (World.block_lt_of_cell? w _ hw47_0)).trans hw47_0)⟩ (fun hHeld=>?_)
        clear hK K
        refine eT (a':=?_) ?_ ?_
        rotate_left
        ·show Act.put _ (some 38) _=_
         simp only [Act.put,List.setIfInBounds_toArray,List.set_cons_zero,List.set_cons_succ,dN,dU]
         rfl
        refine pr_ 11 39 (bz 12 4095) HT_ ?_
        refine nN (kQ HT_.out (by kernel_rfl)) ?_
        try go_wp2
        go_ret
        exact ⟨rr_,AJ⟩
       rw [if_neg jZ] at H
       exact absurd H (by simp)
      rw [if_neg jY] at H
      exact absurd H (by simp)
     rw [if_neg jJ] at H
     have jL:decide (j3 < (j5.length:Int))=false:=decide_eq_false jJ
     clear jJ
     obtain rfl:=Option.some.inj H
     have qz:=jc.out
     have qA:=jd.out
     obtain ⟨q9,qa,qb,qc⟩:=gD j4.out
     go_wp2
     go_ret
     exact ⟨rr_,AJ⟩
theorem bO.mono_l:∀ k,(∀ y0,LeO (bO.f k y0) (bO.f (k + 1) y0))∧(∀ y0 y1 y2 y3,LeO (bO.l0 k y0 y1 y2 y3) (bO.l0 (k + 1) y0 y1 y2 y3))
 |0=>⟨fun _ r h=>by simp [bO.f] at h,fun _ _ _ _ r h=>by simp [bO.l0] at h⟩
 |k + 1=>by
  obtain ⟨ih0,ih1⟩:=bO.mono_l k
  refine ⟨?_,?_⟩
  ·intro y0
   unfold bO.f
   exact mo_
  ·intro y0 y1 y2 y3
   unfold bO.l0
   exact mo_
theorem bO.mono:∀ a0 k,LeO (bO.f k a0) (bO.f (k + 1) a0):=by
 intro a0 k
 obtain ⟨ih0,ih1⟩:=bO.mono_l k
 exact ih0 a0
def bO.T5:Bool × List (List Nat × List Nat):=(true,[([],[]),([],[]),([1],[1]),([2],[2]),([],[]),([4],[4]),([5,3],[5]),([3,6],[3,6]),([0,7],[0,7]),([8,6,0,1,2,3,4,5,6,7,8],[0,8])])
def bO.B5:List Nat:=[0,0,2,6,0,16,62,126,255,511]
theorem bO.NW:lC .any (opsOf Try.f51 5)=bO.T5:=by kernel_rfl
theorem bO.EK:iJ bO.T5.2 bO.B5=true:=by kernel_rfl
theorem bO.calls (k:Nat):∀ (A0:Option Addr) (c0:Nat) (l0:List (S35)) (r:Int) (w:World) (hr0:Kd.C k35 w A0 l0.length l0) (hc0:l0.length≤c0) (h:bO.f k l0=some r),
  Calls Try.prog 51 #[.slice A0 l0.length c0] w fun e w'=>e= .returned (.int .i64 r)∧Below w.heap.size w w':=by
 induction k using Nat.strongRecOn with
 | _ k ih=>
 intro A0 c0 l0 r w hr0 hc0 h
 cases k with
 |zero=>exact absurd h (by simp [bO.f])
 |succ k=>
 simp only [bO.f] at h
 have hu35:=Try.underlying35
 have jP:=am hr0
 have jW:=am hc0
 clear hr0 hc0
 have HB:=am (Below.refl w.heap.size w)
 have H:(bO.l0 k (l0.length:Int) l0 (l0.length:Int) 0)=some r:=h
 clear h
 have H':=am H
 clear H
 go_enter Try.func51,Try.ntmps51
 go_wp2
 go_loopg [3,10] k (fun kq v3 jQ w'=>∃ (jk:Int) (j3:Int),v3= .int .i64 jk∧jQ= .int .i64 j3∧Aside0 (bO.l0 kq jk l0 (l0.length:Int) j3=some r)∧Aside0 (kq≤k)∧Aside0 (Below w.heap.size w w'))
 case atStart=>exact ⟨((l0.length:Int)),(0),sd_,sd_,H',⟨Nat.le_refl _⟩,⟨fU⟩⟩
 case round=>
  clear H'
  obtain ⟨jk,j3,rfl,rfl,HA,jp,HB⟩:=hrel
  cases gk with
  |zero=>exact absurd HA.out (by simp [bO.l0])
  |succ k1=>
   have H:=HA.out
   clear HA
   simp only [bO.l0] at H
   by_cases c2:j3 < (l0.length:Int)
   ·rw [if_pos c2] at H
    have jq:decide (j3 < (l0.length:Int))=true:=decide_eq_true c2
    clear c2
    by_cases c3:0≤j3
    ·rw [if_pos c3] at H
     have jR:decide (0≤j3)=true:=decide_eq_true c3
     clear c3
     by_cases c4:j3 < (l0.length:Int)
     ·rw [if_pos c4] at H
      have jS:decide (j3 < (l0.length:Int))=true:=decide_eq_true c4
      clear c4
      obtain ⟨jN,A5,H⟩:=bsa H
      (try dsimp only at H)
      obtain ⟨jO,A6,H⟩:=bsa H
      (try dsimp only at H)
      have H':=am H
      clear H
      have jr:0≤(j3:Int):=of_decide_eq_true fV
      have js:j3 < (l0.length:Int):=of_decide_eq_true fV
      obtain ⟨jT,ja,jb,j6,j7,j8,j9,jU,jc,jd,je,jf,jg,jh,ji,jj,hl25_5,hi25_5,hl25_6,hi25_6,hl25_7,hi25_7⟩:=uU jP.out j3 jr js
      cases jU
      replace jc:=(HB.out.cell (World.block_lt_of_cell? w _ jc)).trans jc
      replace jd:=(HB.out.cell (World.block_lt_of_cell? w _ jd)).trans jd
      replace je:=(HB.out.cell (World.block_lt_of_cell? w _ je)).trans je
      replace jf:=(HB.out.cell (World.block_lt_of_cell? w _ jf)).trans jf
      replace jg:=(HB.out.cell (World.block_lt_of_cell? w _ jg)).trans jg
      replace jh:=(HB.out.cell (World.block_lt_of_cell? w _ jh)).trans jh
      replace ji:=(HB.out.cell (World.block_lt_of_cell? w _ ji)).trans ji
      replace jj:=(HB.out.cell (World.block_lt_of_cell? w _ jj)).trans jj
      have jt:=am hi25_5
      have ju:=am hl25_5
      clear hi25_5 hl25_5
      have jl:=am hi25_6
      have jm:=am hl25_6
      clear hi25_6 hl25_6
      have jn:=am hi25_7
      have jo:=am hl25_7
      clear hi25_7 hl25_7
      replace jr:=eq_true jr
      replace js:=eq_true js
      try go_wp2_with (first|((with_reducible refine cZ (N:=5) rfl ?_);refine dO rfl (N:=5) rfl (cs:=#[.int .i64 0, .int .i64 0, .int .i64 0, .int .i64 0, .int .i64 0, .slice none 0 0, .slice none 0 0, .slice none 0 0]) (t:=35) rn_ ?_;intro j4 hg w7 hbox hb;have j5:=am (hbox);have jV:=am ((by rw [hg];exact (aJ fU):w.heap.size≤j4));have GE26:=am ((by rw [hg];exact (aJ fU):w.heap.size≤j4));replace HB:=am (aD fU hb);clear hb hbox hg;obtain ⟨jv,jw,jx,jy,jz,jA,jB,jC,jD,jE,jF,jG,jH,jI,jJ,jK⟩:=eU j5.out))
      have jL:Aside0 (((((((((w7.setCell ⟨j4,0,none⟩ (.int .i64 ((aA l0 j3).f0))).setCell ⟨j4,1,none⟩ (.int .i64 ((aA l0 j3).f1))).setCell ⟨j4,2,none⟩ (.int .i64 ((aA l0 j3).f2))).setCell ⟨j4,3,none⟩ (.int .i64 ((aA l0 j3).f3.f0))).setCell ⟨j4,4,none⟩ (.int .i64 ((aA l0 j3).f3.f1))).setCell ⟨j4,5,none⟩ (.slice ja ((aA l0 j3).f3.f2).length jb)).setCell ⟨j4,6,none⟩ (.slice j6 ((aA l0 j3).f4).length j7)).setCell ⟨j4,7,none⟩ (.slice j8 ((aA l0 j3).f5).length j9)).heap[j4]?=some (.cells #[.int .i64 ((aA l0 j3).f0), .int .i64 ((aA l0 j3).f1), .int .i64 ((aA l0 j3).f2), .int .i64 ((aA l0 j3).f3.f0), .int .i64 ((aA l0 j3).f3.f1), .slice ja ((aA l0 j3).f3.f2).length jb, .slice j6 ((aA l0 j3).f4).length j7, .slice j8 ((aA l0 j3).f5).length j9] 35 (0,0))):=⟨(aM (aM (aM (aM (aM (aM (aM (aM j5.out 0 _ rfl) 1 _ rfl) 2 _ rfl) 3 _ rfl) 4 _ rfl) 5 _ rfl) 6 _ rfl) 7 _ rfl)⟩
      have jM:Aside0 (Below w.heap.size w ((((((((w7.setCell ⟨j4,0,none⟩ (.int .i64 ((aA l0 j3).f0))).setCell ⟨j4,1,none⟩ (.int .i64 ((aA l0 j3).f1))).setCell ⟨j4,2,none⟩ (.int .i64 ((aA l0 j3).f2))).setCell ⟨j4,3,none⟩ (.int .i64 ((aA l0 j3).f3.f0))).setCell ⟨j4,4,none⟩ (.int .i64 ((aA l0 j3).f3.f1))).setCell ⟨j4,5,none⟩ (.slice ja ((aA l0 j3).f3.f2).length jb)).setCell ⟨j4,6,none⟩ (.slice j6 ((aA l0 j3).f4).length j7)).setCell ⟨j4,7,none⟩ (.slice j8 ((aA l0 j3).f5).length j9))):=⟨KF⟩
      (try clear j5)
      (try clear HB)
      generalize ((((((((w7.setCell ⟨j4,0,none⟩ (.int .i64 ((aA l0 j3).f0))).setCell ⟨j4,1,none⟩ (.int .i64 ((aA l0 j3).f1))).setCell ⟨j4,2,none⟩ (.int .i64 ((aA l0 j3).f2))).setCell ⟨j4,3,none⟩ (.int .i64 ((aA l0 j3).f3.f0))).setCell ⟨j4,4,none⟩ (.int .i64 ((aA l0 j3).f3.f1))).setCell ⟨j4,5,none⟩ (.slice ja ((aA l0 j3).f3.f2).length jb)).setCell ⟨j4,6,none⟩ (.slice j6 ((aA l0 j3).f4).length j7)).setCell ⟨j4,7,none⟩ (.slice j8 ((aA l0 j3).f5).length j9))=w9 at jL jM ⊢
      have j5:=jL
      have HB:=jM
      clear jL jM
      replace j5:=am (bK j5.out)
      replace HB:=am (bG HB.out)
      refine lK (n:=10) (S:=fun w'=>w'.cell? ⟨j4,0,none⟩=some (.int .i64 ((aA l0 j3).f0))∧w'.cell? ⟨j4,1,none⟩=some (.int .i64 ((aA l0 j3).f1))∧w'.cell? ⟨j4,2,none⟩=some (.int .i64 ((aA l0 j3).f2))∧w'.cell? ⟨j4,3,none⟩=some (.int .i64 ((aA l0 j3).f3.f0))∧w'.cell? ⟨j4,4,none⟩=some (.int .i64 ((aA l0 j3).f3.f1))∧w'.cell? ⟨j4,5,none⟩=some (.slice ja ((aA l0 j3).f3.f2).length jb)∧w'.cell? ⟨j4,6,none⟩=some (.slice j6 ((aA l0 j3).f4).length j7)∧w'.cell? ⟨j4,7,none⟩=some (.slice j8 ((aA l0 j3).f5).length j9)) (ds:=[]) (bz 10 0) (by kernel_rfl) rfl rfl ⟨(aC j5.out 0).trans rfl,(aC j5.out 1).trans rfl,(aC j5.out 2).trans rfl,(aC j5.out 3).trans rfl,(aC j5.out 4).trans rfl,(aC j5.out 5).trans rfl,(aC j5.out 6).trans rfl,(aC j5.out 7).trans rfl⟩ (fun hHeld=>?_);refine iF bO.NW bO.EK (fun HT_ HW_=>?_)
      generalize w9.drew=jX at j5 HB hHeld ⊢
      refine pr_ 0 14 (bz 10 1) HT_ ?_
      refine pr_ 1 15 (bz 10 3) HT_ ?_
      refine pr_ 4 18 (bz 10 19) HT_ ?_
      refine WH 2 16 (bz 10 23) HT_ HW_ hHeld ?_
      refine WH 5 19 (bz 10 55) HT_ HW_ hHeld ?_
      refine kN (i:=3) (N:=some 17) (bz 10 63) rfl rfl (fQ HT_.out (by kernel_rfl)) (by decide) (fun K hK=>?_)
      refine iP Try.func51 (by kernel_rfl) rfl #[.slice j6 ((aA l0 j3).f4).length j7] (by rfl) rfl rfl mO ?_
      with_reducible refine (ih k1 (by have:=jp.out;omega) _ _ ((aA l0 j3).f4) jN _ (aC_ (Kd.aV jl.out HB.out)) jm.out A5.out).mono ?_
      rintro e jY ⟨rfl,hb⟩
      refine ⟨_,rfl,?_⟩
      replace j5:=bbP j5 hb
      replace HB:=am (aD KF hb)
      (try clear hb)
      (try clear hb2)
      (try clear hk)
      (try clear hi)
      refine hK.out _ _ ⟨(aC j5.out 0).trans rfl,(aC j5.out 1).trans rfl,(aC j5.out 2).trans rfl,(aC j5.out 3).trans rfl,(aC j5.out 4).trans rfl,(aC j5.out 5).trans rfl,(aC j5.out 6).trans rfl,(aC j5.out 7).trans rfl⟩ (fun hHeld=>?_)
      clear hK K
      refine eT (a':=?_) ?_ ?_
      rotate_left
      ·show Act.put _ (some 17) _=_
       simp only [Act.put,List.setIfInBounds_toArray,List.set_cons_zero,List.set_cons_succ,dN,dU]
       rfl
      refine kN (i:=6) (N:=some 20) (bz 10 127) rfl rfl (fQ HT_.out (by kernel_rfl)) (by decide) (fun K hK=>?_)
      refine iP Try.func51 (by kernel_rfl) rfl #[.slice j8 ((aA l0 j3).f5).length j9] (by rfl) rfl rfl mO ?_
      with_reducible refine (ih k1 (by have:=jp.out;omega) _ _ ((aA l0 j3).f5) jO _ (aC_ (Kd.aV jn.out HB.out)) jo.out A6.out).mono ?_
      rintro e jZ ⟨rfl,hb⟩
      refine ⟨_,rfl,?_⟩
      replace j5:=bbP j5 hb
      replace HB:=am (aD KF hb)
      (try clear hb)
      (try clear hb2)
      (try clear hk)
      (try clear hi)
      refine hK.out _ _ ⟨(aC j5.out 0).trans rfl,(aC j5.out 1).trans rfl,(aC j5.out 2).trans rfl,(aC j5.out 3).trans rfl,(aC j5.out 4).trans rfl,(aC j5.out 5).trans rfl,(aC j5.out 6).trans rfl,(aC j5.out 7).trans rfl⟩ (fun hHeld=>?_)
      clear hK K
      refine eT (a':=?_) ?_ ?_
      rotate_left
      ·show Act.put _ (some 20) _=_
       simp only [Act.put,List.setIfInBounds_toArray,List.set_cons_zero,List.set_cons_succ,dN,dU]
       rfl
      refine pr_ 7 21 (bz 10 255) HT_ ?_
      refine pr_ 8 22 (bz 10 511) HT_ ?_
      refine pr_ 9 3 (bz 10 1023) HT_ ?_
      refine nN (kQ HT_.out (by kernel_rfl)) ?_
      try go_wp2
      go_roundg k1
      case measure=>have:=jp.out;omega
      case rel=>exact ⟨(wrap64 (jk + (wrap64 (jN + jO)))),(wrap64 (j3 + 1)),sd_,sd_,H',⟨by have:=jp.out;omega⟩,⟨KF⟩⟩
     rw [if_neg c4] at H
     exact absurd H (by simp)
    rw [if_neg c3] at H
    exact absurd H (by simp)
   rw [if_neg c2] at H
   have jq:decide (j3 < (l0.length:Int))=false:=decide_eq_false c2
   clear c2
   obtain rfl:=Option.some.inj H
   go_wp2
   go_ret
   exact ⟨rr_,fU⟩
theorem dK.mono_l:∀ k,(∀ y0 y1 y2 y3,LeO (dK.l0 k y0 y1 y2 y3) (dK.l0 (k + 1) y0 y1 y2 y3))
 |0=>fun _ _ _ _ r h=>by simp [dK.l0] at h
 |k + 1=>by
  have ih0:=dK.mono_l k
  ·intro y0 y1 y2 y3
   unfold dK.l0
   have m0:=@bB.mono
   have m1:=@bO.mono
   exact mo_
theorem dK.mono:∀ a0 a1 k,LeO (dK.f k a0 a1) (dK.f (k + 1) a0 a1):=by
 intro a0 a1 k
 have ih0:=dK.mono_l k
 unfold dK.f
 have m0:=@bB.mono
 have m1:=@bO.mono
 exact mo_
theorem dK.calls (k:Nat) (j8:Option Addr) (j9:Nat) (j5:List Int) (ja:Option Addr) (jb:Nat) (j4:List (List (S35))) (r:Int) (w:World) (hr0_0:Kd.C (Kd.int .i64) w j8 j5.length j5) (hc0_0:j5.length≤j9) (hr0_1:Kd.C (Kd.slice 35 k35) w ja j4.length j4) (hc0_1:j4.length≤jb) (h:dK.f k j5 j4=some r):
  Calls Try.prog 33 #[.agg #[.slice j8 j5.length j9, .slice ja j4.length jb]] w fun e w'=>e= .returned (.int .i64 r)∧Below w.heap.size w w':=by
 have hu46:=Try.underlying46
 have je:=am hr0_0
 have jf:=am hc0_0
 clear hr0_0 hc0_0
 have jc:=am hr0_1
 have jg:=am hc0_1
 clear hr0_1 hc0_1
 have HB:=am (Below.refl w.heap.size w)
 have H:((bB.f k j5 j4).bind fun ju=>(if ju=true then (dK.l0 k 0 j4 (j4.length:Int) 0) else (some (-1))))=some r:=h
 clear h
 obtain ⟨ju,A2,H⟩:=bsa H
 (try dsimp only at H)
 have HH_:=am H
 clear H
 go_enter Try.func33,Try.ntmps33
 go_upto_region 1 with (first|((with_reducible refine cZ (N:=1) rfl ?_);refine dO rfl (N:=1) rfl (cs:=#[.slice j8 j5.length j9, .slice ja j4.length jb]) (t:=46) rn_ ?_;intro jh hg w4 hbox hb;have j6:=am (hbox);have jC:=am ((by rw [hg];exact (aJ fU):w.heap.size≤jh));have GE22:=am ((by rw [hg];exact (aJ fU):w.heap.size≤jh));replace HB:=am (aD fU hb);clear hb hbox hg;obtain ⟨ji,jj,jk,jl⟩:=gD j6.out))
 have H:=HH_.out
 clear HH_
 by_cases c3:ju=true
 ·subst c3
  rw [if_pos rfl] at H
  have H':=am H
  clear H
  go_wp2_with (first|((with_reducible refine aN (f:=31) rfl ?_);refine gl_ 7 Try.func31 #[.agg #[.slice j8 j5.length j9, .slice ja j4.length jb]] ?_;(with_reducible refine (bB.calls k _ _ j5 _ _ j4 true _ (aC_ (Kd.aV je.out HB.out)) jf.out (aC_ (Kd.aV jc.out HB.out)) jg.out A2.out).mono ?_);rintro e w6 ⟨rfl,hb⟩;refine ⟨_,rfl,?_⟩;replace j6:=bbP j6 hb;replace HB:=am (aD oD hb);(try clear hb);obtain ⟨jm,jn,jo,jp⟩:=gD j6.out))
  go_loopg [3,12] k (fun kq v3 jD w'=>∃ (jd:Int) (j3:Int),v3= .int .i64 jd∧jD= .int .i64 j3∧Aside0 (dK.l0 kq jd j4 (j4.length:Int) j3=some r)∧Aside0 (kq≤k)∧Aside0 (w'.heap[jh]?=some (.cells #[(.slice j8 j5.length j9),(.slice ja j4.length jb)] 46 (0,0)))∧Aside0 (Below w.heap.size w w'))
  case atStart=>exact ⟨(0),(0),sd_,sd_,H',⟨Nat.le_refl _⟩,⟨by (with_reducible repeat (first|refine dI ?_ _|refine bK ?_|refine bY ?_ _));exact j6.out⟩,⟨oD⟩⟩
  case round=>
   clear H'
   try clear c3
   try clear ji
   try clear jj
   try clear jm
   try clear jn
   try clear jk
   try clear jl
   try clear jo
   try clear jp
   obtain ⟨jd,j3,rfl,rfl,HA,jy,j6,HB⟩:=hrel
   cases gk with
   |zero=>exact absurd HA.out (by simp [dK.l0])
   |succ k1=>
    have H:=HA.out
    clear HA
    simp only [dK.l0] at H
    by_cases c8:j3 < (j4.length:Int)
    ·rw [if_pos c8] at H
     have jv:decide (j3 < (j4.length:Int))=true:=decide_eq_true c8
     clear c8
     by_cases c9:0≤j3
     ·rw [if_pos c9] at H
      have jE:decide (0≤j3)=true:=decide_eq_true c9
      clear c9
      by_cases c10:j3 < (j4.length:Int)
      ·rw [if_pos c10] at H
       have jz:decide (j3 < (j4.length:Int))=true:=decide_eq_true c10
       clear c10
       obtain ⟨jA,jB,H⟩:=bsm H
       (try dsimp only at H)
       have jF:=am jB
       clear jB
       have H':=am H
       clear H
       have jw:0≤(j3:Int):=of_decide_eq_true fV
       have jx:j3 < (j4.length:Int):=of_decide_eq_true fV
       obtain ⟨jG,js,jt,jH,j7,hl25_0,hi25_0⟩:=nY jc.out j3 jw jx
       cases jH
       replace j7:=(HB.out.cell (World.block_lt_of_cell? w _ j7)).trans j7
       have jq:=am hi25_0
       have jr:=am hl25_0
       clear hi25_0 hl25_0
       replace jw:=eq_true jw
       replace jx:=eq_true jx
       go_wp2_with (first|((with_reducible refine aN (f:=51) rfl ?_);refine gl_ 18 Try.func51 #[.slice js (fB j4 j3).length jt] ?_;(with_reducible refine (bO.calls k1 _ _ (fB j4 j3) jA _ (aC_ (Kd.aV jq.out HB.out)) jr.out jF.out).mono ?_);rintro e jI ⟨rfl,hb⟩;refine ⟨_,rfl,?_⟩;replace j6:=bbP j6 hb;replace HB:=am (aD oD hb);(try clear hb)))
       go_roundg k1
       case measure=>have:=jy.out;omega
       case rel=>exact ⟨(wrap64 (jd + jA)),(wrap64 (j3 + 1)),sd_,sd_,H',⟨by have:=jy.out;omega⟩,⟨by (with_reducible repeat (first|refine dI ?_ _|refine bK ?_|refine bY ?_ _));exact j6.out⟩,⟨oD⟩⟩
      rw [if_neg c10] at H
      exact absurd H (by simp)
     rw [if_neg c9] at H
     exact absurd H (by simp)
    rw [if_neg c8] at H
    have jv:decide (j3 < (j4.length:Int))=false:=decide_eq_false c8
    clear c8
    obtain rfl:=Option.some.inj H
    go_wp2
    go_ret
    exact ⟨rr_,oD⟩
 replace c3:=Bool.eq_false_iff.mpr c3
 subst c3
 rw [if_neg (show ¬ (false=true) by decide)] at H
 obtain rfl:=Option.some.inj H
 go_wp2_with (first|((with_reducible refine aN (f:=31) rfl ?_);refine gl_ 7 Try.func31 #[.agg #[.slice j8 j5.length j9, .slice ja j4.length jb]] ?_;(with_reducible refine (bB.calls k _ _ j5 _ _ j4 false _ (aC_ (Kd.aV je.out HB.out)) jf.out (aC_ (Kd.aV jc.out HB.out)) jg.out A2.out).mono ?_);rintro e jJ ⟨rfl,hb⟩;refine ⟨_,rfl,?_⟩;replace j6:=bbP j6 hb;replace HB:=am (aD oD hb);(try clear hb)))
 go_ret
 exact ⟨rr_,oD⟩
end Go.Proofs.Ytodhbeeibagiaaa.PA

