/- Part 3. -/
import Derived.Test.YtodhbeeibagiaaaQFnProgramFoldTwice1
set_option maxHeartbeats 8000000
set_option maxRecDepth 100000
namespace Go.Proofs.Ytodhbeeibagiaaa.PA
open Go.RowKit Go.Proofs.YtodhbeeibagiaaaW.PrintWords Go.Proofs.YtodhbeeibagiaaaW.PrintLast Go.Proofs.YtodhbeeibagiaaaW.PrintMore
attribute [local go_sem] max2_int min2_int max_two min_two max_three min_three max_four min_four
set_option linter.unusedVariables false
set_option linter.unusedSimpArgs false
theorem bS.step (k:Nat) (ih_spec_l92Loop:∀ m,m < k→dX.fK m) (ih_spec_l92Stmt:∀ m,m < k→bF.fK m) (ih_spec_l92Block:∀ m,m < k→bS.fK m) (ih_spec_l92If:∀ m,m < k→eU.fK m):bS.fK k:=by
 intro g j7 j9 a1 a2 a3 a4 r1 r2 w0 w hI hB h
 cases k with
 |zero=>exact absurd h (by simp [bS.f])
 |succ k=>
 simp only [bS.f] at h
 have HI0:=am hI
 have HK:=am (aI.refl w g none)
 have HL:=am hB.size
 clear hI
 have HW0:=am hB.size
 have HB:=am hB
 clear hB
 have H:(bS.l0 k a1 a2 a3 a4 (([]:List (S35))) 0 j7 j9)=some (r1,r2):=h
 clear h
 obtain ⟨jk,hy_⟩:∃ y_:List (S35),y_=(([]:List (S35))):=⟨_,rfl⟩
 replace H:(bS.l0 k a1 a2 a3 a4 jk 0 j7 j9)=some (r1,r2):=rx_
 have ja:=am hy_
 clear hy_
 have H':=am H
 clear H
 go_enter Try.func77,Try.ntmps77
 go_wp2_with (first|((with_reducible refine bQ (N:=13) rfl ?_);refine Kd.oQ k35 _ 35 rfl (N':=13) rfl (xs:=([]:List (S35))) (inner:=[]) (ok:=(fun k_=>(w.heap.size≤k_)∧k_≠g)) (okp:=(fun k_=>(w.heap.size≤k_)∧k_≠g)) rn_ ?hp (fun _ hk=>hk) ((show ∀ k_,w.heap.size≤k_→(fun k_=>(w.heap.size≤k_)∧k_≠g) k_ from fun k_ hk=>⟨(Nat.le_trans (aW (w:=w) (g:=g) (row:=none) fI) hk),aQ.fresh gB k_ hk⟩) _ (Nat.le_refl _)) (Below.refl _ _) (Nat.le_refl _) (by simp) ?_;(case hp=>exact (eY.none _ _));intro jq w6 ho7 hb hg_ hnew_;clear hg_ hnew_;(first|rw [← ja.out] at ho7|(simp only [Int.reduceToNat] at ho7;rw [← ja.out] at ho7));have jd:=am (Kd.dH ho7 (aW (w:=w) (g:=g) (row:=none) fI));replace HK:=am (aI.trans fI (aI.of_below hb g none) (.inl rfl));replace HB:=am (aG iT hb);replace HI0:=am (aQ.below gB hb);clear hb ho7))
 go_loopg [11,12] k (fun kq jm jn w'=>∃ (j5:List (S35)) (j3:Int) (j6:Int),jn= .int .i64 j3∧Aside0 (bS.l0 kq a1 a2 a3 a4 j5 j3 j7 j6=some (r1,r2))∧Aside0 (kq≤k)∧Aside0 (Kd.N k35 35 w' w.heap.size (fun k_=>(w.heap.size≤k_)∧k_≠g) jm j5)∧Aside0 (aQ w0 w' g j7 j6)∧Aside0 (aI w w' g none)∧Aside0 (Below w0.heap.size w0 w'))
 case atStart=>exact ⟨(jk),(0),(j9),sd_,H',⟨Nat.le_refl _⟩,⟨eO jd.out⟩,⟨gB⟩,⟨fI⟩,⟨iT⟩⟩
 case round=>
  clear H'
  obtain ⟨j5,j3,j6,rfl,HA,je,j4,HI0,HK,HB⟩:=hrel
  cases gk with
  |zero=>exact absurd HA.out (by simp [bS.l0])
  |succ k1=>
   have H:=HA.out
   clear HA
   simp only [bS.l0] at H
   by_cases c8:j3 < a3
   ·rw [if_pos c8] at H
    have jf:decide (j3 < a3)=true:=decide_eq_true c8
    clear c8
    obtain ⟨⟨jc,jg⟩,A9,H⟩:=bsa H
    (try dsimp only at H)
    by_cases c10:j5.length + jc.length < 1256584717458
    ·rw [if_pos c10] at H
     have jb:=am c10
     clear c10
     obtain ⟨jl,hy_⟩:∃ y_:List (S35),y_=(j5 ++ jc):=⟨_,rfl⟩
     replace H:(bS.l0 k1 a1 a2 a3 a4 jl (wrap64 (j3 + 1)) j7 jg)=some (r1,r2):=rx_
     have jh:=am hy_
     clear hy_
     have H':=am H
     clear H
     go_wp2_with (first|((with_reducible refine aN (f:=93) rfl ?_);refine gl_ 24 Try.func93 #[.pointer (some ⟨g,0,none⟩), .int .i64 a1, .int .i64 a2, .bool a4] ?_;(with_reducible refine (ih_spec_l92Stmt k1 (by have:=je.out;omega) g j7 j6 a1 a2 a4 jc jg w0 _ ?side1 ?side2 A9.out).mono ?_);(case side1=>exact gB);(case side2=>exact iT);rintro e jr ⟨js,rfl,ho0,hi,hb,hk⟩;refine ⟨_,rfl,?_⟩;have j8:=am (Kd.dH (Kd.aD (ok':=fun k_=>(w.heap.size≤k_)∧some k_≠(u11:Value).ownBlock∧k_≠g) ho0 (fun k_ hk_=>⟨(Nat.le_trans (aW (w:=w) (g:=g) (row:=none) fI) hk_),(Kd.fresh' (Kd.iH (aN_ j4.out)) k_ hk_),(aQ.fresh gB k_ hk_)⟩)) (aW (w:=w) (g:=g) (row:=none) fI));replace j4:=am (Kd.aD (Kd.gZ (Kd.uP (Kd.aD (ok:=fun k_=>(((w.heap.size≤k_))∧k_≠g)) (aN_ j4.out) (fun k_ hk_=>(⟨hk_,hk_.2⟩:_∧k_≠g))) hk) (by first|exact Kd.dL ho0|exact Kd.dL (Kd.R_N ho0))) (fun _ h_=>h_.1));replace HK:=am (aI.trans fI hk (.inl rfl));replace HB:=am (hb);replace HI0:=am (hi);(try clear hb);(try clear hk);(try clear hi);(try clear ho0);obtain ⟨jo,jp,ji⟩:=Kd.dD j8.out;subst ji)|((with_reducible refine lG (b:= .append) (xs:=#[.tmp 19, .tmp 24]) rfl ?_);at_builtin;refine Kd.oC k35 w.heap.size rfl (.tmp 19) (.tmp 24) 23 35 (.agg #[(.int .i64 0),(.int .i64 0),(.int .i64 0),(.int .i64 0),(.int .i64 0),(.slice none 0 0),(.slice none 0 0),(.slice none 0 0)]) 112 rfl Try.underlying23 tN rfl (by decide) (by omega) u11 j5 jc _ _ _ (fun k_=>(w.heap.size≤k_)∧k_≠g) (fun k_=>((fun k_=>(w.heap.size≤k_)∧k_≠g)) k_∧some k_≠(u11:Value).ownBlock) rfl rfl ?aO ?aR (fun _ hk=>hk) ?aF (Below.refl _ _) ?aS ?aL ?_;(case aR=>exact (by skip;exact Kd.N_F (Kd.aD (ok':=(fun k_=>((fun k_=>(w.heap.size≤k_)∧k_≠g)) k_∧some k_≠(u11:Value).ownBlock)) (j8.out) (fun k_ hk=>⟨⟨hk.1,hk.2.2⟩,hk.2.1⟩))));(case aF=>exact (fun k_ hk=>⟨(Nat.le_trans (aW (w:=w) (g:=g) (row:=none) fI) hk),aQ.fresh gB k_ hk⟩));(case aO=>exact (eO (Kd.aD j4.out (fun _ hk=>⟨hk.1.1,hk.1.2⟩))));(case aS=>exact (aW (w:=w) (g:=g) (row:=none) fI));(case aL=>have:=jb.out;omega);intro jt ju ho hb hg hat;rw [← jh.out] at ho;replace j8:=am (Kd.pQ (ok:=(fun k_=>(w.heap.size≤k_)∧k_≠g)) (eO (Kd.aD j8.out (fun _ hk=>⟨⟨hk.1,hk.2.2⟩,hk.2.1⟩))) hg hat);replace HB:=am (nA iT HL.out hb);replace HI0:=am (aQ.grown gB hg (aQ.BD HI0.out j4.out (by decide)));replace HK:=am (aI.trans fI (aI.oF hg g) (Kd.DT j4.out));have jj:=am (ho);clear j4 ho hb hg hat))
     go_roundg k1
     case measure=>have:=je.out;omega
     case rel=>exact ⟨(jl),(wrap64 (j3 + 1)),(jg),sd_,H',⟨by have:=je.out;omega⟩,⟨eO jj.out⟩,⟨gB⟩,⟨fI⟩,⟨iT⟩⟩
    rw [if_neg c10] at H
    exact absurd H (by simp)
   rw [if_neg c8] at H
   have jf:decide (j3 < a3)=false:=decide_eq_false c8
   clear c8
   simp only [Option.some.injEq,Prod.mk.injEq] at H
   obtain ⟨rfl,rfl⟩:=H
   go_wp2
   go_ret
   exact ⟨_,iM,eO (Kd.aD j4.out (fun _ hk=>hk.1)),gB,iT,fI⟩
def eU.T3:Bool × List (List Nat × List Nat):=(true,[([],[]),([],[]),([],[]),([],[]),([],[]),([4],[4]),([],[]),([6],[6]),([],[]),([2,3,5,7,8,7],[2,3,5,7,8]),([0,1,9],[0,1,9]),([10,9,0,1,2,3,4,5,6,7,8,9,10],[10])])
def eU.B3:List Nat:=[0,0,0,0,0,16,0,64,0,508,1023,2047]
theorem eU.aCc:lJ .any (opsOf Try.f42 3)=eU.T3:=by kernel_rfl
theorem eU.TA:iW eU.T3.2 eU.B3=true:=by kernel_rfl
theorem eU.step (k:Nat) (ih_spec_l92Loop:∀ m,m < k→dX.fK m) (ih_spec_l92Stmt:∀ m,m < k→bF.fK m) (ih_spec_l92Block:∀ m,m < k→bS.fK m) (ih_spec_l92If:∀ m,m < k→eU.fK m):eU.fK k:=by
 intro g ja jj a1 a2 a3 r1 r2 r3 r4 r5 r6 r7 r8 r9 w0 w hI hB h
 cases k with
 |zero=>exact absurd h (by simp [eU.f])
 |succ k=>
 simp only [eU.f] at h
 have hu35:=Try.underlying35
 have hu32:=Try.underlying32
 have HI0:=am hI
 have HK:=am (aI.refl w g none)
 have HL:=am hB.size
 clear hI
 have HW0:=am hB.size
 have HB:=am hB
 clear hB
 have H:((aH.f k ja jj 2).bind fun jq=>((bI.f k ja jq.2 (wrap64 (1 + jq.1))).bind fun jk=>((aH.f k ja jk.2.2.2 3).bind fun jr=>((bS.f k ja jr.2 a1 (wrap64 (a2 - 1)) jr.1 a3).bind fun js=>((aH.f k ja js.2 3).bind fun jt=>((bS.f k ja jt.2 a1 (wrap64 (a2 - 1)) jt.1 a3).bind fun ju=>(some (2,0,0,jk.1,jk.2.1,jk.2.2.1,js.1,ju.1,ju.2))))))))=some (r1,r2,r3,r4,r5,r6,r7,r8,r9):=h
 clear h
 obtain ⟨⟨jH,jM⟩,A5,H⟩:=bsa H
 (try dsimp only at H)
 obtain ⟨⟨jh,ji,jg,jA⟩,A6,H⟩:=bsa H
 (try dsimp only at H)
 obtain ⟨⟨jI,jN⟩,A7,H⟩:=bsa H
 (try dsimp only at H)
 obtain ⟨⟨jv,jO⟩,A8,H⟩:=bsa H
 (try dsimp only at H)
 obtain ⟨⟨jJ,jP⟩,A9,H⟩:=bsa H
 (try dsimp only at H)
 obtain ⟨⟨jw,jV⟩,jQ,H⟩:=bsm H
 (try dsimp only at H)
 have jW:=am jQ
 clear jQ
 simp only [Option.some.injEq,Prod.mk.injEq] at H
 obtain ⟨rfl,rfl,rfl,rfl,rfl,rfl,rfl,rfl,rfl⟩:=H
 go_enter Try.func42,Try.ntmps42
 try go_wp2_with (first|((with_reducible refine bQ (N:=8) rfl ?_);refine dJ rfl (N:=8) rfl (cs:=#[.int .i64 0, .int .i64 0, .int .i64 0, .int .i64 0, .int .i64 0, .slice none 0 0, .slice none 0 0, .slice none 0 0]) (t:=35) rn_ ?_;intro j4 hg q6 hbox hb;replace HB:=am (aG iT hb);have j5:=am (hbox);have GW54:=am ((by rw [hg];exact (aW (w:=w) (g:=g) (row:=none) fI):w.heap.size≤j4));have GE54:=am ((Nat.le_trans HW0.out (by rw [hg];exact (aW (w:=w) (g:=g) (row:=none) fI):w.heap.size≤j4):w0.heap.size≤j4));replace HK:=am (aI.trans fI (aI.of_below hb g none) (.inl rfl));have NB0_54:=am ((by rw [hg];exact Nat.ne_of_lt (aQ.lt (show aQ w0 _ g ja jj from gB)):g≠j4));have jd:=am ((by rw [hg];exact Nat.ne_of_gt (aQ.lt (show aQ w0 _ g ja jj from gB)):j4≠g));replace HI0:=am (aQ.below gB hb);clear hb hbox hg)|((with_reducible refine aN (f:=41) rfl ?_);refine gl_ 13 Try.func41 #[.pointer (some ⟨g,0,none⟩), .int .i64 2] ?_;(with_reducible refine (aH.calls k g ja jj 2 jH jM w0 _ ?side1 ?side2 A5.out).mono ?_);(case side1=>exact GX);(case side2=>exact NH);rintro e q7 ⟨rfl,hi,hb,hk⟩;refine ⟨_,rfl,?_⟩;replace j5:=am (aI.blk hk (g':=j4) (o:= .cells #[.int .i64 0, .int .i64 0, .int .i64 0, .int .i64 0, .int .i64 0, .slice none 0 0, .slice none 0 0, .slice none 0 0] 35 (0,0)) (aG_ j5.out) jd.out (by simp));replace HK:=am (aI.trans EJ hk (.inl rfl));replace HB:=am (hb);replace HI0:=am (hi);(try clear hb);(try clear hk);(try clear hi))|((with_reducible refine aN (f:=76) rfl ?_);refine gl_ 15 Try.func76 #[.pointer (some ⟨g,0,none⟩), .int .i64 (wrap64 (1 + jH))] ?_;(with_reducible refine (bI.calls k g ja jM (wrap64 (1 + jH)) jh ji jg jA w0 _ ?side1 ?side2 A6.out).mono ?_);(case side1=>exact GX);(case side2=>exact NH);rintro e q8 ⟨q9,rfl,ho0,hi,hb,hk⟩;refine ⟨_,rfl,?_⟩;have j9:=am (Kd.dH (Kd.aD (ok':=fun k_=>(w.heap.size≤k_)∧k_≠j4∧k_≠g) ho0 (fun k_ hk_=>⟨(Nat.le_trans (aW (w:=w) (g:=g) (row:=none) EJ) hk_),(fG j5.out k_ hk_),(aQ.fresh GX k_ hk_)⟩)) (aW (w:=w) (g:=g) (row:=none) EJ));replace j5:=am (aI.blk hk (g':=j4) (o:= .cells #[.int .i64 0, .int .i64 0, .int .i64 0, .int .i64 0, .int .i64 0, .slice none 0 0, .slice none 0 0, .slice none 0 0] 35 (0,0)) (aG_ j5.out) jd.out (by simp));replace HK:=am (aI.trans EJ hk (.inl rfl));replace HB:=am (hb);replace HI0:=am (hi);(try clear hb);(try clear hk);(try clear hi);(try clear ho0))|((with_reducible refine bQ (N:=9) rfl ?_);refine dJ rfl (N:=9) rfl (cs:=#[.int .i64 0, .int .i64 0, .slice none 0 0]) (t:=32) rn_ ?_;intro j7 hg qa hbox hb;replace j9:=am (Kd.dG (Kd.fC (aN_ j9.out) j7 (Nat.le_of_eq hg.symm)) hb);replace HB:=am (aG NH hb);have j8:=am (hbox);have GW57:=am ((by rw [hg];exact (aW (w:=w) (g:=g) (row:=none) EJ):w.heap.size≤j7));have GE57:=am ((Nat.le_trans HW0.out (by rw [hg];exact (aW (w:=w) (g:=g) (row:=none) EJ):w.heap.size≤j7):w0.heap.size≤j7));replace HK:=am (aI.trans EJ (aI.of_below hb g none) (.inl rfl));have j6:=am ((by rw [hg];exact Nat.ne_of_lt (fO j5.out):j4≠j7));have j3:=am ((by rw [hg];exact Nat.ne_of_gt (fO j5.out):j7≠j4));replace j5:=bbP j5 hb;have NB0_57:=am ((by rw [hg];exact Nat.ne_of_lt (aQ.lt (show aQ w0 _ g ja jA from GX)):g≠j7));have je:=am ((by rw [hg];exact Nat.ne_of_gt (aQ.lt (show aQ w0 _ g ja jA from GX)):j7≠g));replace HI0:=am (aQ.below GX hb);clear hb hbox hg;have jR:=j3.out;have jS:=j6.out;have jT:=je.out;have jU:=NB0_57.out;obtain ⟨jB,jC,jD,jE,jF,jG⟩:=fZ j8.out;obtain ⟨jb,jc,jK⟩:=Kd.dD j9.out;subst jK)|((with_reducible refine aN (f:=41) rfl ?_);refine gl_ 21 Try.func41 #[.pointer (some ⟨g,0,none⟩), .int .i64 3] ?_;(with_reducible refine (aH.calls k g ja jA 3 jI jN w0 _ ?side1 ?side2 A7.out).mono ?_);(case side1=>exact EI);(case side2=>exact LA);rintro e qb ⟨rfl,hi,hb,hk⟩;refine ⟨_,rfl,?_⟩;replace j5:=am (aI.blk hk (g':=j4) (o:= .cells #[.int .i64 0, .int .i64 0, .int .i64 0, .int .i64 0, .int .i64 0, .slice none 0 0, .slice none 0 0, .slice none 0 0] 35 (0,0)) (aZ (aZ (aZ j5.out j6.out _) j6.out _) j6.out _) jd.out (by simp));replace j9:=am (Kd.aD (Kd.kM (Kd.aD (ok:=fun k_=>((((w.heap.size≤k_))∧(k_≠j4∧k_≠g))∧k_≠j7)) (eO ((Kd.aD (Kd.aT (p:=⟨j7,2,none⟩) (Kd.aT (p:=⟨j7,1,none⟩) (Kd.aT (p:=⟨j7,0,none⟩) (Kd.aD j9.out (fun k_ hk=>(⟨hk,hk.2⟩:_∧k_≠j7))) (fun _ hk=>hk.2) (.int .i64 jh)) (fun _ hk=>hk.2) (.int .i64 ji)) (fun _ hk=>hk.2) (.slice jb jg.length jc)) (fun _ h_=>h_.1)))) (fun k_ hk_=>(⟨hk_,hk_.1.2.2⟩:_∧k_≠g))) hk (fun _ h=>h.2)) (fun _ h=>h.1));replace j8:=am (aI.blk hk (g':=j7) (o:= .cells #[.int .i64 jh, .int .i64 ji, .slice jb jg.length jc] 32 (0,0)) (aM (aM (aM j8.out 0 _ rfl) 1 _ rfl) 2 _ rfl) je.out (by simp));replace HK:=am (aI.trans AJ hk (.inl rfl));replace HB:=am (hb);replace HI0:=am (hi);(try clear hb);(try clear hk);(try clear hi))|((with_reducible refine aN (f:=77) rfl ?_);refine gl_ 23 Try.func77 #[.pointer (some ⟨g,0,none⟩), .int .i64 a1, .int .i64 (wrap64 (a2 - 1)), .int .i64 jI, .bool a3] ?_;(with_reducible refine (ih_spec_l92Block k (by omega) g ja jN a1 (wrap64 (a2 - 1)) jI a3 jv jO w0 _ ?side1 ?side2 A8.out).mono ?_);(case side1=>exact EI);(case side2=>exact LA);rintro e jX ⟨jL,rfl,ho0,hi,hb,hk⟩;refine ⟨_,rfl,?_⟩;have jf:=am (Kd.dH (Kd.aD (ok':=fun k_=>(w.heap.size≤k_)∧some k_≠(.slice jb jg.length jc:Value).ownBlock∧k_≠j4∧k_≠j7∧k_≠g) ho0 (fun k_ hk_=>⟨(Nat.le_trans (aW (w:=w) (g:=g) (row:=none) AJ) hk_),(Kd.fresh' (Kd.iH (aN_ j9.out)) k_ hk_),(fG j5.out k_ hk_),(fG j8.out k_ hk_),(aQ.fresh EI k_ hk_)⟩)) (aW (w:=w) (g:=g) (row:=none) AJ));replace j5:=am (aI.blk hk (g':=j4) (o:= .cells #[.int .i64 0, .int .i64 0, .int .i64 0, .int .i64 0, .int .i64 0, .slice none 0 0, .slice none 0 0, .slice none 0 0] 35 (0,0)) (aG_ j5.out) jd.out (by simp));replace j9:=am (Kd.aD (Kd.gZ (Kd.uP (Kd.aD (ok:=fun k_=>((((w.heap.size≤k_))∧(k_≠j4∧k_≠g))∧k_≠j7)) (aN_ j9.out) (fun k_ hk_=>(⟨hk_,hk_.1.2.2⟩:_∧k_≠g))) hk) (by first|exact Kd.dL ho0|exact Kd.dL (Kd.R_N ho0))) (fun _ h_=>h_.1));replace j8:=am (aI.blk hk (g':=j7) (o:= .cells #[.int .i64 jh, .int .i64 ji, .slice jb jg.length jc] 32 (0,0)) (aG_ j8.out) je.out (by simp));replace HK:=am (aI.trans AJ hk (.inl rfl));replace HB:=am (hb);replace HI0:=am (hi);(try clear hb);(try clear hk);(try clear hi);(try clear ho0)))
 replace j9:=am (Kd.nO j9.out)
 replace jf:=am (Kd.nO jf.out)
 replace j5:=am (bT j5.out)
 replace j8:=am (bT j8.out)
 replace HI0:=am (aQ.drew HI0.out)
 replace HK:=am (gW HK.out)
 replace HB:=am (bG HB.out)
 refine mR (n:=12) (S:=fun w'=>w'.cell? ⟨j7,0,none⟩=some (.int .i64 jh)∧w'.cell? ⟨j7,1,none⟩=some (.int .i64 ji)∧w'.cell? ⟨j7,2,none⟩=some (.slice jb jg.length jc)) (ds:=[]) (bz 12 0) (by kernel_rfl) rfl rfl ⟨(aA j8.out 0).trans rfl,(aA j8.out 1).trans rfl,(aA j8.out 2).trans rfl⟩ (fun hHeld=>?_);refine kE eU.aCc eU.TA (fun HT_ HW_=>?_)
 generalize jX.drew=qc at j9 jf j5 j8 HI0 HK HB hHeld ⊢
 refine pr_ 1 25 (bz 12 2) HT_ ?_
 refine pr_ 2 26 (bz 12 6) HT_ ?_
 refine pr_ 3 27 (bz 12 14) HT_ ?_
 refine pr_ 4 28 (bz 12 30) HT_ ?_
 refine pr_ 5 29 (bz 12 62) HT_ ?_
 refine pr_ 6 30 (bz 12 126) HT_ ?_
 refine pr_ 8 32 (bz 12 382) HT_ ?_
 refine aAw 0 24 (bz 12 383) HT_ HW_ hHeld ?_
 refine lH (i:=7) (N:=some 31) (bz 12 511) rfl rfl (gG HT_.out (by kernel_rfl)) (by decide) (fun K hK=>?_)
 refine kU Try.func41 (by kernel_rfl) rfl #[.pointer (some ⟨g,0,none⟩), .int .i64 3] (by rfl) rfl rfl nX ?_
 with_reducible refine (aH.calls k g ja jO 3 jJ jP w0 _ ?side1 ?side2 A9.out).mono ?_
 (case side1=>exact EI)
 (case side2=>exact LA)
 rintro e qd ⟨rfl,hi,hb,hk⟩
 refine ⟨_,rfl,?_⟩
 replace j5:=am (aI.blk hk (g':=j4) (o:= .cells #[.int .i64 0, .int .i64 0, .int .i64 0, .int .i64 0, .int .i64 0, .slice none 0 0, .slice none 0 0, .slice none 0 0] 35 (0,0)) (aG_ j5.out) jd.out (by simp))
 replace j9:=am (Kd.aD (Kd.kM (Kd.aD (ok:=fun k_=>(((((w.heap.size≤k_))∧(k_≠j4∧k_≠g))∧k_≠j7)∧some k_≠(jL:Value).ownBlock)) (aN_ j9.out) (fun k_ hk_=>(⟨hk_,hk_.1.1.2.2⟩:_∧k_≠g))) hk (fun _ h=>h.2)) (fun _ h=>h.1))
 replace j8:=am (aI.blk hk (g':=j7) (o:= .cells #[.int .i64 jh, .int .i64 ji, .slice jb jg.length jc] 32 (0,0)) (aG_ j8.out) je.out (by simp))
 replace jf:=am (Kd.aD (Kd.kM (Kd.aD (ok:=fun k_=>(((w.heap.size≤k_))∧(some k_≠(.slice jb jg.length jc:Value).ownBlock∧(k_≠j4∧(k_≠j7∧k_≠g))))) (aN_ jf.out) (fun k_ hk_=>(⟨hk_,hk_.2.2.2.2⟩:_∧k_≠g))) hk (fun _ h=>h.2)) (fun _ h=>h.1))
 replace HK:=am (aI.trans AJ hk (.inl rfl))
 replace HB:=am (hb)
 replace HI0:=am (hi)
 (try clear hb)
 (try clear hb2)
 (try clear hk)
 (try clear hi)
 refine hK.out _ _ ⟨(aA j8.out 0).trans rfl,(aA j8.out 1).trans rfl,(aA j8.out 2).trans rfl⟩ (fun hHeld=>?_)
 clear hK K
 refine fB (a':=?_) ?_ ?_
 rotate_left
 ·show Act.put _ (some 31) _=_
  simp only [Act.put,List.setIfInBounds_toArray,List.set_cons_zero,List.set_cons_succ,dS,dV]
  rfl
 refine lH (i:=9) (N:=some 33) (bz 12 1023) rfl rfl (gG HT_.out (by kernel_rfl)) (by decide) (fun K hK=>?_)
 refine kU Try.func77 (by kernel_rfl) rfl #[.pointer (some ⟨g,0,none⟩), .int .i64 a1, .int .i64 (wrap64 (a2 - 1)), .int .i64 jJ, .bool a3] (by rfl) rfl rfl nX ?_
 with_reducible refine (ih_spec_l92Block k (by omega) g ja jP a1 (wrap64 (a2 - 1)) jJ a3 jw jV w0 _ ?side1 ?side2 jW.out).mono ?_
 (case side1=>exact EI)
 (case side2=>exact LA)
 rintro e jp ⟨qe,rfl,ho0,hi,hb,hk⟩
 refine ⟨_,rfl,?_⟩
 have jx:=am (Kd.dH (Kd.aD (ok':=fun k_=>(w.heap.size≤k_)∧some k_≠(.slice jb jg.length jc:Value).ownBlock∧some k_≠(jL:Value).ownBlock∧k_≠j4∧k_≠j7∧k_≠g) ho0 (fun k_ hk_=>⟨(Nat.le_trans (aW (w:=w) (g:=g) (row:=none) AJ) hk_),(Kd.fresh' (Kd.iH (aN_ j9.out)) k_ hk_),(Kd.fresh' (Kd.iH (aN_ jf.out)) k_ hk_),(fG j5.out k_ hk_),(fG j8.out k_ hk_),(aQ.fresh EI k_ hk_)⟩)) (aW (w:=w) (g:=g) (row:=none) AJ))
 replace j5:=am (aI.blk hk (g':=j4) (o:= .cells #[.int .i64 0, .int .i64 0, .int .i64 0, .int .i64 0, .int .i64 0, .slice none 0 0, .slice none 0 0, .slice none 0 0] 35 (0,0)) (aG_ j5.out) jd.out (by simp))
 replace j9:=am (Kd.aD (Kd.gZ (Kd.uP (Kd.aD (ok:=fun k_=>(((((w.heap.size≤k_))∧(k_≠j4∧k_≠g))∧k_≠j7)∧some k_≠(jL:Value).ownBlock)) (aN_ j9.out) (fun k_ hk_=>(⟨hk_,hk_.1.1.2.2⟩:_∧k_≠g))) hk) (by first|exact Kd.dL ho0|exact Kd.dL (Kd.R_N ho0))) (fun _ h_=>h_.1))
 replace j8:=am (aI.blk hk (g':=j7) (o:= .cells #[.int .i64 jh, .int .i64 ji, .slice jb jg.length jc] 32 (0,0)) (aG_ j8.out) je.out (by simp))
 replace jf:=am (Kd.aD (Kd.gZ (Kd.uP (Kd.aD (ok:=fun k_=>(((w.heap.size≤k_))∧(some k_≠(.slice jb jg.length jc:Value).ownBlock∧(k_≠j4∧(k_≠j7∧k_≠g))))) (aN_ jf.out) (fun k_ hk_=>(⟨hk_,hk_.2.2.2.2⟩:_∧k_≠g))) hk) (by first|exact Kd.dL ho0|exact Kd.dL (Kd.R_N ho0))) (fun _ h_=>h_.1))
 replace HK:=am (aI.trans AJ hk (.inl rfl))
 replace HB:=am (hb)
 replace HI0:=am (hi)
 (try clear hb)
 (try clear hb2)
 (try clear hk)
 (try clear hi)
 (try clear ho0)
 obtain ⟨jl,jm,jy⟩:=Kd.dD jx.out
 (first|subst jy|(injection jy with f1_ f2_ f3_;have f4_:=f1_.symm;have f5_:=f3_.symm;clear f1_ f2_ f3_;subst f4_;subst f5_))
 obtain ⟨jn,jo,jz⟩:=Kd.dD jf.out
 (first|subst jz|(injection jz with f1_ f2_ f3_;have f4_:=f1_.symm;have f5_:=f3_.symm;clear f1_ f2_ f3_;subst f4_;subst f5_))
 refine hK.out _ _ ⟨(aA j8.out 0).trans rfl,(aA j8.out 1).trans rfl,(aA j8.out 2).trans rfl⟩ (fun hHeld=>?_)
 clear hK K
 refine fB (a':=?_) ?_ ?_
 rotate_left
 ·show Act.put _ (some 33) _=_
  simp only [Act.put,List.setIfInBounds_toArray,List.set_cons_zero,List.set_cons_succ,dS,dV]
  rfl
 refine pr_ 10 34 (bz 12 2047) HT_ ?_
 refine lH (i:=11) (N:=none) (bz 12 4095) rfl rfl (gG HT_.out (by kernel_rfl)) (by decide) (fun K hK=>?_)
 have jY:jp.cell? ⟨j4,0,none⟩=some (.int .i64 0):=(aA j5.out 0).trans rfl
 have hfs26:=aU j5.out 0
 have hns26_1:=j3.out
 have hms26_1:=j6.out
 have jZ:jp.cell? ⟨j4,1,none⟩=some (.int .i64 0):=(aA j5.out 1).trans rfl
 have hfs27:=aU j5.out 1
 have hns27_1:=j3.out
 have hms27_1:=j6.out
 have q0:jp.cell? ⟨j4,2,none⟩=some (.int .i64 0):=(aA j5.out 2).trans rfl
 have hfs28:=aU j5.out 2
 have hns28_1:=j3.out
 have hms28_1:=j6.out
 have q1:jp.cell? ⟨j4,3,none⟩=some (.int .i64 0):=(aA j5.out 3).trans rfl
 have hfs29:=aU j5.out 3
 have hns29_1:=j3.out
 have hms29_1:=j6.out
 have q2:jp.cell? ⟨j4,4,none⟩=some (.int .i64 0):=(aA j5.out 4).trans rfl
 have hfs30:=aU j5.out 4
 have hns30_1:=j3.out
 have hms30_1:=j6.out
 have q3:jp.cell? ⟨j4,5,none⟩=some (.slice none 0 0):=(aA j5.out 5).trans rfl
 have hfs31:=aU j5.out 5
 have hns31_1:=j3.out
 have hms31_1:=j6.out
 have q4:jp.cell? ⟨j4,6,none⟩=some (.slice none 0 0):=(aA j5.out 6).trans rfl
 have hfs32:=aU j5.out 6
 have hns32_1:=j3.out
 have hms32_1:=j6.out
 have q5:jp.cell? ⟨j4,7,none⟩=some (.slice none 0 0):=(aA j5.out 7).trans rfl
 have hfs33:=aU j5.out 7
 have hns33_1:=j3.out
 have hms33_1:=j6.out
 refine rO (w1:=?_) (by rfl) rfl ?_ ?_
 rotate_left
 ·go_simp
  rfl
 refine hK.out _ _ ⟨((cell_far (p:=⟨j4,_,none⟩) j3.out _).trans (((cell_far (p:=⟨j4,_,none⟩) j3.out _).trans (((cell_far (p:=⟨j4,_,none⟩) j3.out _).trans (((cell_far (p:=⟨j4,_,none⟩) j3.out _).trans (((cell_far (p:=⟨j4,_,none⟩) j3.out _).trans (((cell_far (p:=⟨j4,_,none⟩) j3.out _).trans (((cell_far (p:=⟨j4,_,none⟩) j3.out _).trans (((cell_far (p:=⟨j4,_,none⟩) j3.out _).trans (hHeld.1)))))))))))))))),((cell_far (p:=⟨j4,_,none⟩) j3.out _).trans (((cell_far (p:=⟨j4,_,none⟩) j3.out _).trans (((cell_far (p:=⟨j4,_,none⟩) j3.out _).trans (((cell_far (p:=⟨j4,_,none⟩) j3.out _).trans (((cell_far (p:=⟨j4,_,none⟩) j3.out _).trans (((cell_far (p:=⟨j4,_,none⟩) j3.out _).trans (((cell_far (p:=⟨j4,_,none⟩) j3.out _).trans (((cell_far (p:=⟨j4,_,none⟩) j3.out _).trans (hHeld.2.1)))))))))))))))),((cell_far (p:=⟨j4,_,none⟩) j3.out _).trans (((cell_far (p:=⟨j4,_,none⟩) j3.out _).trans (((cell_far (p:=⟨j4,_,none⟩) j3.out _).trans (((cell_far (p:=⟨j4,_,none⟩) j3.out _).trans (((cell_far (p:=⟨j4,_,none⟩) j3.out _).trans (((cell_far (p:=⟨j4,_,none⟩) j3.out _).trans (((cell_far (p:=⟨j4,_,none⟩) j3.out _).trans (((cell_far (p:=⟨j4,_,none⟩) j3.out _).trans (hHeld.2.2))))))))))))))))⟩ (fun hHeld=>?_)
 clear hK K
 refine pE (lV HT_.out (by kernel_rfl)) ?_
 try go_wp2
 refine bodyPost_ret (results_cell_row rfl _ _ j4 35 #[.int .i64 2, .int .i64 0, .int .i64 0, .int .i64 jh, .int .i64 ji, .slice jb jg.length jc, .slice jn jv.length jo, .slice jl jw.length jm] (0,0) _ rfl (aM (aM (aM (aM (aM (aM (aM (aM j5.out 0 _ rfl) 1 _ rfl) 2 _ rfl) 3 _ rfl) 4 _ rfl) 5 _ rfl) 6 _ rfl) 7 _ rfl) Try.underlying35 rfl (by kernel_rfl)) rfl ?_
 exact ⟨_,_,_,iM,eO (Kd.aD (Kd.aT (p:=⟨j4,7,none⟩) (Kd.aT (p:=⟨j4,6,none⟩) (Kd.aT (p:=⟨j4,5,none⟩) (Kd.aT (p:=⟨j4,4,none⟩) (Kd.aT (p:=⟨j4,3,none⟩) (Kd.aT (p:=⟨j4,2,none⟩) (Kd.aT (p:=⟨j4,1,none⟩) (Kd.aT (p:=⟨j4,0,none⟩) (Kd.aD j9.out (fun k_ hk=>(⟨hk,hk.1.1.1.2.1⟩:_∧k_≠j4))) (fun _ hk=>hk.2) (.int .i64 2)) (fun _ hk=>hk.2) (.int .i64 0)) (fun _ hk=>hk.2) (.int .i64 0)) (fun _ hk=>hk.2) (.int .i64 jh)) (fun _ hk=>hk.2) (.int .i64 ji)) (fun _ hk=>hk.2) (.slice jb jg.length jc)) (fun _ hk=>hk.2) (.slice jn jv.length jo)) (fun _ hk=>hk.2) (.slice jl jw.length jm)) (fun _ hk=>⟨hk.1.1.1.1.1,⟨hk.1.1.2,hk.1.2⟩⟩)),eO (Kd.aD (Kd.aT (p:=⟨j4,7,none⟩) (Kd.aT (p:=⟨j4,6,none⟩) (Kd.aT (p:=⟨j4,5,none⟩) (Kd.aT (p:=⟨j4,4,none⟩) (Kd.aT (p:=⟨j4,3,none⟩) (Kd.aT (p:=⟨j4,2,none⟩) (Kd.aT (p:=⟨j4,1,none⟩) (Kd.aT (p:=⟨j4,0,none⟩) (Kd.aD jf.out (fun k_ hk=>(⟨hk,hk.1.2.2.1⟩:_∧k_≠j4))) (fun _ hk=>hk.2) (.int .i64 2)) (fun _ hk=>hk.2) (.int .i64 0)) (fun _ hk=>hk.2) (.int .i64 0)) (fun _ hk=>hk.2) (.int .i64 jh)) (fun _ hk=>hk.2) (.int .i64 ji)) (fun _ hk=>hk.2) (.slice jb jg.length jc)) (fun _ hk=>hk.2) (.slice jn jv.length jo)) (fun _ hk=>hk.2) (.slice jl jw.length jm)) (fun _ hk=>⟨hk.1.1.1,⟨hk.1.1.2.1,hk.1.2⟩⟩)),eO (Kd.aD (Kd.aT (p:=⟨j4,7,none⟩) (Kd.aT (p:=⟨j4,6,none⟩) (Kd.aT (p:=⟨j4,5,none⟩) (Kd.aT (p:=⟨j4,4,none⟩) (Kd.aT (p:=⟨j4,3,none⟩) (Kd.aT (p:=⟨j4,2,none⟩) (Kd.aT (p:=⟨j4,1,none⟩) (Kd.aT (p:=⟨j4,0,none⟩) (Kd.aD jx.out (fun k_ hk=>(⟨hk,hk.2.2.2.1⟩:_∧k_≠j4))) (fun _ hk=>hk.2) (.int .i64 2)) (fun _ hk=>hk.2) (.int .i64 0)) (fun _ hk=>hk.2) (.int .i64 0)) (fun _ hk=>hk.2) (.int .i64 jh)) (fun _ hk=>hk.2) (.int .i64 ji)) (fun _ hk=>hk.2) (.slice jb jg.length jc)) (fun _ hk=>hk.2) (.slice jn jv.length jo)) (fun _ hk=>hk.2) (.slice jl jw.length jm)) (fun _ hk=>⟨hk.1.1,⟨hk.1.2.1,hk.1.2.2.1⟩⟩)),EI,LA,AJ⟩
theorem dX.calls_all (k:Nat):dX.fK k∧bF.fK k∧bS.fK k∧eU.fK k:=by
 induction k using Nat.strongRecOn with
 | _ k ih=>exact ⟨dX.step k (ih_spec_l92Loop:=fun m hm=>(ih m hm).1) (ih_spec_l92Stmt:=fun m hm=>(ih m hm).2.1) (ih_spec_l92Block:=fun m hm=>(ih m hm).2.2.1) (ih_spec_l92If:=fun m hm=>(ih m hm).2.2.2),bF.step k (ih_spec_l92Loop:=fun m hm=>(ih m hm).1) (ih_spec_l92Stmt:=fun m hm=>(ih m hm).2.1) (ih_spec_l92Block:=fun m hm=>(ih m hm).2.2.1) (ih_spec_l92If:=fun m hm=>(ih m hm).2.2.2),bS.step k (ih_spec_l92Loop:=fun m hm=>(ih m hm).1) (ih_spec_l92Stmt:=fun m hm=>(ih m hm).2.1) (ih_spec_l92Block:=fun m hm=>(ih m hm).2.2.1) (ih_spec_l92If:=fun m hm=>(ih m hm).2.2.2),eU.step k (ih_spec_l92Loop:=fun m hm=>(ih m hm).1) (ih_spec_l92Stmt:=fun m hm=>(ih m hm).2.1) (ih_spec_l92Block:=fun m hm=>(ih m hm).2.2.1) (ih_spec_l92If:=fun m hm=>(ih m hm).2.2.2)⟩
theorem dX.calls (k:Nat):dX.fK k:=(dX.calls_all k).1
theorem bF.calls (k:Nat):bF.fK k:=(dX.calls_all k).2.1
theorem bS.calls (k:Nat):bS.fK k:=(dX.calls_all k).2.2.1
theorem eU.calls (k:Nat):eU.fK k:=(dX.calls_all k).2.2.2
theorem bX.mono_l:∀ k,(∀ y0,LeO (bX.f k y0) (bX.f (k + 1) y0))∧(∀ y0 y1 y2,LeO (bX.l0 k y0 y1 y2) (bX.l0 (k + 1) y0 y1 y2))
 |0=>⟨fun _ r h=>by simp [bX.f] at h,fun _ _ _ r h=>by simp [bX.l0] at h⟩
 |k + 1=>by
  obtain ⟨ih0,ih1⟩:=bX.mono_l k
  refine ⟨?_,?_⟩
  ·intro y0
   unfold bX.f
   exact mo_
  ·intro y0 y1 y2
   unfold bX.l0
   exact mo_
theorem bX.mono:∀ a0 k,LeO (bX.f k a0) (bX.f (k + 1) a0):=by
 intro a0 k
 obtain ⟨ih0,ih1⟩:=bX.mono_l k
 exact ih0 a0
def bX.T5:Bool × List (List Nat × List Nat):=(true,[([],[]),([0],[0]),([],[]),([],[]),([2,3],[2,3]),([4],[4]),([5],[5]),([6],[6]),([1,7],[1,7]),([],[]),([],[]),([9,10],[9,10]),([11],[11]),([12],[12]),([13,7],[13]),([8,14],[8,14]),([15,14,0,1,2,3,4,5,6,7,8,9,10,11,12,13,14,15],[0,15])])
def bX.B5:List Nat:=[0,1,0,0,12,28,60,124,255,0,0,1536,3584,7680,16124,32767,65535]
theorem bX.WT:lJ .any (opsOf Try.f80 5)=bX.T5:=by kernel_rfl
theorem bX.LH:iW bX.T5.2 bX.B5=true:=by kernel_rfl
theorem bX.calls (k:Nat):∀ (A0:Option Addr) (c0:Nat) (l0:List (S35)) (r:Int) (w:World) (hr0:Kd.C k35 w A0 l0.length l0) (hc0:l0.length≤c0) (h:bX.f k l0=some r),
  Calls Try.prog 80 #[.slice A0 l0.length c0] w fun e w'=>e= .returned (.int .i64 r)∧Below w.heap.size w w':=by
 induction k using Nat.strongRecOn with
 | _ k ih=>
 intro A0 c0 l0 r w hr0 hc0 h
 cases k with
 |zero=>exact absurd h (by simp [bX.f])
 |succ k=>
 simp only [bX.f] at h
 have jL:=am hr0
 have jX:=am hc0
 clear hr0 hc0
 have HB:=am (Below.refl w.heap.size w)
 have H:(bX.l0 k l0 0 0)=some r:=h
 clear h
 have H':=am H
 clear H
 go_enter Try.func80,Try.ntmps80
 go_wp2
 go_loopg [3,4] k (fun kq v3 v4 w'=>∃ (jr:Int) (j3:Int),v3= .int .i64 jr∧v4= .int .i64 j3∧Aside0 (bX.l0 kq l0 jr j3=some r)∧Aside0 (kq≤k)∧Aside0 (Below w.heap.size w w'))
 case atStart=>exact ⟨(0),(0),sd_,sd_,H',⟨Nat.le_refl _⟩,⟨gK⟩⟩
 case round=>
  clear H'
  obtain ⟨jr,j3,rfl,rfl,HA,jA,HB⟩:=hrel
  cases gk with
  |zero=>exact absurd HA.out (by simp [bX.l0])
  |succ k1=>
   have H:=HA.out
   clear HA
   simp only [bX.l0] at H
   by_cases c2:j3 < (l0.length:Int)
   ·rw [if_pos c2] at H
    have jB:decide (j3 < (l0.length:Int))=true:=decide_eq_true c2
    clear c2
    by_cases c3:0≤j3
    ·rw [if_pos c3] at H
     have jU:decide (0≤j3)=true:=decide_eq_true c3
     clear c3
     obtain ⟨jM,A4,H⟩:=bsa H
     (try dsimp only at H)
     obtain ⟨jN,A5,H⟩:=bsa H
     (try dsimp only at H)
     have H':=am H
     clear H
     try go_wp2
     replace HB:=am (bG HB.out)
     have jC:0≤(j3:Int):=of_decide_eq_true gL
     have jD:j3 < (l0.length:Int):=of_decide_eq_true gL
     obtain ⟨j4,js,jt,jl,jm,jn,jo,jV,jb,jc,jd,je,jf,j5,j6,j7,hl30_5,hi30_5,hl30_6,hi30_6,hl30_7,hi30_7⟩:=uS jL.out j3 jC jD
     have hw30_7:=j7
     have hw30_6:=j6
     have hw30_5:=j5
     have hw30_4:=jf
     have hw30_3:=je
     have hw30_2:=jd
     have hw30_1:=jc
     have hw30_0:=jb
     cases jV
     replace jb:=(HB.out.cell (World.block_lt_of_cell? w _ jb)).trans jb
     replace jc:=(HB.out.cell (World.block_lt_of_cell? w _ jc)).trans jc
     replace jd:=(HB.out.cell (World.block_lt_of_cell? w _ jd)).trans jd
     replace je:=(HB.out.cell (World.block_lt_of_cell? w _ je)).trans je
     replace jf:=(HB.out.cell (World.block_lt_of_cell? w _ jf)).trans jf
     replace j5:=(HB.out.cell (World.block_lt_of_cell? w _ j5)).trans j5
     replace j6:=(HB.out.cell (World.block_lt_of_cell? w _ j6)).trans j6
     replace j7:=(HB.out.cell (World.block_lt_of_cell? w _ j7)).trans j7
     have ju:=am hi30_5
     have jE:=am hl30_5
     clear hi30_5 hl30_5
     have jp:=am hi30_6
     have jv:=am hl30_6
     clear hi30_6 hl30_6
     have jw:=am hi30_7
     have jF:=am hl30_7
     clear hi30_7 hl30_7
     replace jC:=eq_true jC
     replace jD:=eq_true jD
     have jG:0≤(j3:Int):=of_decide_eq_true gL
     have jH:j3 < (l0.length:Int):=of_decide_eq_true gL
     obtain ⟨jI,jO,jP,jQ,jR,jS,jT,jW,jg,jh,ji,jj,jk,j8,j9,ja,hl31_5,hi31_5,hl31_6,hi31_6,hl31_7,hi31_7⟩:=uS jL.out j3 jG jH
     have hw31_7:=ja
     have hw31_6:=j9
     have hw31_5:=j8
     have hw31_4:=jk
     have hw31_3:=jj
     have hw31_2:=ji
     have hw31_1:=jh
     have hw31_0:=jg
     obtain rfl:j4=jI:=(by injection jW)
     replace jg:=(HB.out.cell (World.block_lt_of_cell? w _ jg)).trans jg
     replace jh:=(HB.out.cell (World.block_lt_of_cell? w _ jh)).trans jh
     replace ji:=(HB.out.cell (World.block_lt_of_cell? w _ ji)).trans ji
     replace jj:=(HB.out.cell (World.block_lt_of_cell? w _ jj)).trans jj
     replace jk:=(HB.out.cell (World.block_lt_of_cell? w _ jk)).trans jk
     replace j8:=(HB.out.cell (World.block_lt_of_cell? w _ j8)).trans j8
     replace j9:=(HB.out.cell (World.block_lt_of_cell? w _ j9)).trans j9
     replace ja:=(HB.out.cell (World.block_lt_of_cell? w _ ja)).trans ja
     have jx:=am hi31_5
     have jJ:=am hl31_5
     clear hi31_5 hl31_5
     have jy:=am hi31_6
     have jK:=am hl31_6
     clear hi31_6 hl31_6
     have jq:=am hi31_7
     have jz:=am hl31_7
     clear hi31_7 hl31_7
     replace jG:=eq_true jG
     replace jH:=eq_true jH
     have ea_:=Option.some.inj (j5.symm.trans j8)
     injection ea_ with ea_ en_ ec_
     subst ea_
     subst ec_
     clear en_
     have ea_:=Option.some.inj (j6.symm.trans j9)
     injection ea_ with ea_ en_ ec_
     subst ea_
     subst ec_
     clear en_
     have ea_:=Option.some.inj (j7.symm.trans ja)
     injection ea_ with ea_ en_ ec_
     subst ea_
     subst ec_
     clear en_
     refine mR (n:=17) (S:=fun w'=>w'.cell? (j4.add ((j3).toNat * 8))=some (.int .i64 ((aC l0 j3).f0))∧w'.cell? ⟨(j4.add ((j3).toNat * 8)).block,(j4.add ((j3).toNat * 8)).off + 1,none⟩=some (.int .i64 ((aC l0 j3).f1))∧w'.cell? ⟨(j4.add ((j3).toNat * 8)).block,(j4.add ((j3).toNat * 8)).off + 2,none⟩=some (.int .i64 ((aC l0 j3).f2))∧w'.cell? ⟨(j4.add ((j3).toNat * 8)).block,(j4.add ((j3).toNat * 8)).off + 3,none⟩=some (.int .i64 ((aC l0 j3).f3.f0))∧w'.cell? ⟨(j4.add ((j3).toNat * 8)).block,(j4.add ((j3).toNat * 8)).off + 4,none⟩=some (.int .i64 ((aC l0 j3).f3.f1))∧w'.cell? ⟨(j4.add ((j3).toNat * 8)).block,(j4.add ((j3).toNat * 8)).off + 5,none⟩=some (.slice js ((aC l0 j3).f3.f2).length jt)∧w'.cell? ⟨(j4.add ((j3).toNat * 8)).block,(j4.add ((j3).toNat * 8)).off + 6,none⟩=some (.slice jl ((aC l0 j3).f4).length jm)∧w'.cell? ⟨(j4.add ((j3).toNat * 8)).block,(j4.add ((j3).toNat * 8)).off + 7,none⟩=some (.slice jn ((aC l0 j3).f5).length jo)∧w'.cell? (j4.add ((j3).toNat * 8))=some (.int .i64 ((aC l0 j3).f0))∧w'.cell? ⟨(j4.add ((j3).toNat * 8)).block,(j4.add ((j3).toNat * 8)).off + 1,none⟩=some (.int .i64 ((aC l0 j3).f1))∧w'.cell? ⟨(j4.add ((j3).toNat * 8)).block,(j4.add ((j3).toNat * 8)).off + 2,none⟩=some (.int .i64 ((aC l0 j3).f2))∧w'.cell? ⟨(j4.add ((j3).toNat * 8)).block,(j4.add ((j3).toNat * 8)).off + 3,none⟩=some (.int .i64 ((aC l0 j3).f3.f0))∧w'.cell? ⟨(j4.add ((j3).toNat * 8)).block,(j4.add ((j3).toNat * 8)).off + 4,none⟩=some (.int .i64 ((aC l0 j3).f3.f1))∧w'.cell? ⟨(j4.add ((j3).toNat * 8)).block,(j4.add ((j3).toNat * 8)).off + 5,none⟩=some (.slice js ((aC l0 j3).f3.f2).length jt)∧w'.cell? ⟨(j4.add ((j3).toNat * 8)).block,(j4.add ((j3).toNat * 8)).off + 6,none⟩=some (.slice jl ((aC l0 j3).f4).length jm)∧w'.cell? ⟨(j4.add ((j3).toNat * 8)).block,(j4.add ((j3).toNat * 8)).off + 7,none⟩=some (.slice jn ((aC l0 j3).f5).length jo)) (ds:=[]) (bz 17 0) (by kernel_rfl) rfl rfl ⟨((HB.out.cell (World.block_lt_of_cell? w _ hw30_0)).trans hw30_0),((HB.out.cell (World.block_lt_of_cell? w _ hw30_1)).trans hw30_1),((HB.out.cell (World.block_lt_of_cell? w _ hw30_2)).trans hw30_2),((HB.out.cell (World.block_lt_of_cell? w _ hw30_3)).trans hw30_3),((HB.out.cell (World.block_lt_of_cell? w _ hw30_4)).trans hw30_4),((HB.out.cell (World.block_lt_of_cell? w _ hw30_5)).trans hw30_5),((HB.out.cell (World.block_lt_of_cell? w _ hw30_6)).trans hw30_6),((HB.out.cell (World.block_lt_of_cell? w _ hw30_7)).trans hw30_7),((HB.out.cell (World.block_lt_of_cell? w _ hw31_0)).trans hw31_0),((HB.out.cell (World.block_lt_of_cell? w _ hw31_1)).trans hw31_1),((HB.out.cell (World.block_lt_of_cell? w _ hw31_2)).trans hw31_2),((HB.out.cell (World.block_lt_of_cell? w _ hw31_3)).trans hw31_3),((HB.out.cell (World.block_lt_of_cell? w _ hw31_4)).trans hw31_4),((HB.out.cell (World.block_lt_of_cell? w _ hw31_5)).trans hw31_5),((HB.out.cell (World.block_lt_of_cell? w _ hw31_6)).trans hw31_6),((HB.out.cell (World.block_lt_of_cell? w _ hw31_7)).trans hw31_7)⟩ (fun hHeld=>?_);refine kE bX.WT bX.LH (fun HT_ HW_=>?_)
     generalize wr.drew=w6 at HB ju jp jw jx jy jq jb jc jd je jf j5 j6 j7 jg jh ji jj jk j8 j9 ja hHeld ⊢
     refine pr_ 0 11 (bz 17 1) HT_ ?_
     refine pr_ 1 12 (bz 17 3) HT_ ?_
     refine pr_ 2 13 (bz 17 7) HT_ ?_
     refine pr_ 3 14 (bz 17 15) HT_ ?_
     refine pr_ 4 15 (bz 17 31) HT_ ?_
     refine pr_ 5 16 (bz 17 63) HT_ ?_
     refine pr_ 9 20 (bz 17 575) HT_ ?_
     refine pr_ 10 21 (bz 17 1599) HT_ ?_
     refine pr_ 11 22 (bz 17 3647) HT_ ?_
     refine pr_ 12 23 (bz 17 7743) HT_ ?_
     refine aBe 6 17 (bz 17 7807) HT_ HW_ hHeld ?_
     refine aBe 13 24 (bz 17 15999) HT_ HW_ hHeld ?_
     refine lH (i:=7) (N:=some 18) (bz 17 16127) rfl rfl (gG HT_.out (by kernel_rfl)) (by decide) (fun K hK=>?_)
     refine kU Try.func80 (by kernel_rfl) rfl #[.slice jl ((aC l0 j3).f4).length jm] (by rfl) rfl rfl nX ?_
     with_reducible refine (ih k1 (by have:=jA.out;omega) _ _ ((aC l0 j3).f4) jM _ (aC_ (Kd.aV jp.out HB.out)) jv.out A4.out).mono ?_
     rintro e w7 ⟨rfl,hb⟩
     refine ⟨_,rfl,?_⟩
     replace HB:=am (aG gK hb)
     (try clear hb)
     (try clear hb2)
     (try clear hk)
     (try clear hi)
     refine hK.out _ _ ⟨((HB.out.cell (World.block_lt_of_cell? w _ hw30_0)).trans hw30_0),((HB.out.cell (World.block_lt_of_cell? w _ hw30_1)).trans hw30_1),((HB.out.cell (World.block_lt_of_cell? w _ hw30_2)).trans hw30_2),((HB.out.cell (World.block_lt_of_cell? w _ hw30_3)).trans hw30_3),((HB.out.cell (World.block_lt_of_cell? w _ hw30_4)).trans hw30_4),((HB.out.cell (World.block_lt_of_cell? w _ hw30_5)).trans hw30_5),((HB.out.cell (World.block_lt_of_cell? w _ hw30_6)).trans hw30_6),((HB.out.cell (World.block_lt_of_cell? w _ hw30_7)).trans hw30_7),((HB.out.cell (World.block_lt_of_cell? w _ hw31_0)).trans hw31_0),((HB.out.cell (World.block_lt_of_cell? w _ hw31_1)).trans hw31_1),((HB.out.cell (World.block_lt_of_cell? w _ hw31_2)).trans hw31_2),((HB.out.cell (World.block_lt_of_cell? w _ hw31_3)).trans hw31_3),((HB.out.cell (World.block_lt_of_cell? w _ hw31_4)).trans hw31_4),((HB.out.cell (World.block_lt_of_cell? w _ hw31_5)).trans hw31_5),((HB.out.cell (World.block_lt_of_cell? w _ hw31_6)).trans hw31_6),((HB.out.cell (World.block_lt_of_cell? w _ hw31_7)).trans hw31_7)⟩ (fun hHeld=>?_)
     clear hK K
     refine fB (a':=?_) ?_ ?_
     rotate_left
     ·show Act.put _ (some 18) _=_
      simp only [Act.put,List.setIfInBounds_toArray,List.set_cons_zero,List.set_cons_succ,dS,dV]
      rfl
     refine pr_ 8 19 (bz 17 16383) HT_ ?_
     refine lH (i:=14) (N:=some 25) (bz 17 32767) rfl rfl (gG HT_.out (by kernel_rfl)) (by decide) (fun K hK=>?_)
     refine kU Try.func80 (by kernel_rfl) rfl #[.slice jn ((aC l0 j3).f5).length jo] (by rfl) rfl rfl nX ?_
     with_reducible refine (ih k1 (by have:=jA.out;omega) _ _ ((aC l0 j3).f5) jN _ (aC_ (Kd.aV jq.out HB.out)) jz.out A5.out).mono ?_
     rintro e w8 ⟨rfl,hb⟩
     refine ⟨_,rfl,?_⟩
     replace HB:=am (aG gK hb)
     (try clear hb)
     (try clear hb2)
     (try clear hk)
     (try clear hi)
     refine hK.out _ _ ⟨((HB.out.cell (World.block_lt_of_cell? w _ hw30_0)).trans hw30_0),((HB.out.cell (World.block_lt_of_cell? w _ hw30_1)).trans hw30_1),((HB.out.cell (World.block_lt_of_cell? w _ hw30_2)).trans hw30_2),((HB.out.cell (World.block_lt_of_cell? w _ hw30_3)).trans hw30_3),((HB.out.cell (World.block_lt_of_cell? w _ hw30_4)).trans hw30_4),((HB.out.cell (World.block_lt_of_cell? w _ hw30_5)).trans hw30_5),((HB.out.cell (World.block_lt_of_cell? w _ hw30_6)).trans hw30_6),((HB.out.cell (World.block_lt_of_cell? w _ hw30_7)).trans hw30_7),((HB.out.cell (World.block_lt_of_cell? w _ hw31_0)).trans hw31_0),((HB.out.cell (World.block_lt_of_cell? w _ hw31_1)).trans hw31_1),((HB.out.cell (World.block_lt_of_cell? w _ hw31_2)).trans hw31_2),((HB.out.cell (World.block_lt_of_cell? w _ hw31_3)).trans hw31_3),((HB.out.cell (World.block_lt_of_cell? w _ hw31_4)).trans hw31_4),((HB.out.cell (World.block_lt_of_cell? w _ hw31_5)).trans hw31_5),((HB.out.cell (World.block_lt_of_cell? w _ hw31_6)).trans hw31_6),((HB.out.cell (World.block_lt_of_cell? w _ hw31_7)).trans hw31_7)⟩ (fun hHeld=>?_)
     clear hK K
     refine fB (a':=?_) ?_ ?_
     rotate_left
     ·show Act.put _ (some 25) _=_
      simp only [Act.put,List.setIfInBounds_toArray,List.set_cons_zero,List.set_cons_succ,dS,dV]
      rfl
     refine pr_ 15 26 (bz 17 65535) HT_ ?_
     refine pr_ 16 3 (bz 17 131071) HT_ ?_
     refine pE (lV HT_.out (by kernel_rfl)) ?_
     try go_wp2
     go_roundg k1
     case measure=>have:=jA.out;omega
     case rel=>exact ⟨(wrap64 ((wrap64 ((wrap64 (jr + 1)) + jM)) + jN)),(wrap64 (j3 + 1)),sd_,sd_,H',⟨by have:=jA.out;omega⟩,⟨gK⟩⟩
    rw [if_neg c3] at H
    exact absurd H (by simp)
   rw [if_neg c2] at H
   have jB:decide (j3 < (l0.length:Int))=false:=decide_eq_false c2
   clear c2
   obtain rfl:=Option.some.inj H
   go_wp2
   go_ret
   exact ⟨rr_,gK⟩
theorem eH.mono_l:∀ k,(∀ y0 y1 y2,LeO (eH.l0 k y0 y1 y2) (eH.l0 (k + 1) y0 y1 y2))
 |0=>fun _ _ _ r h=>by simp [eH.l0] at h
 |k + 1=>by
  have ih0:=eH.mono_l k
  ·intro y0 y1 y2
   unfold eH.l0
   have m0:=@bX.mono
   have m1:=@aH.mono
   have m2:=@bS.mono
   exact mo_
theorem eH.mono:∀ a0 a1 a2 k,LeO (eH.f k a0 a1 a2) (eH.f (k + 1) a0 a1 a2):=by
 intro a0 a1 a2 k
 have ih0:=eH.mono_l k
 unfold eH.f
 have m0:=@bX.mono
 have m1:=@aH.mono
 have m2:=@bS.mono
 exact mo_
theorem eH.calls (k:Nat) (g:Nat) (j5:List Int) (j6:Int) (a1:Int) (r1:List (S35)) (r2:Int) (w0 w:World) (hI:aQ w0 w g j5 j6) (hB:Below w0.heap.size w0 w) (h:eH.f k j5 j6 a1=some (r1,r2)):
  Calls Try.prog 73 #[.pointer (some ⟨g,0,none⟩), .int .i64 a1] w fun e w'=>∃ v0_:Value,e= .returned (v0_)∧Kd.N k35 35 w' w.heap.size (fun k_=>(w.heap.size≤k_)) v0_ r1∧aQ w0 w' g j5 r2∧Below w0.heap.size w0 w'∧aI w w' g none:=by
 have HI0:=am hI
 have HK:=am (aI.refl w g none)
 have HL:=am hB.size
 clear hI
 have HW0:=am hB.size
 have HB:=am hB
 clear hB
 have H:((aH.f k j5 j6 6).bind fun j7=>((bS.f k j5 j7.2 a1 3 (wrap64 (1 + j7.1)) true).bind fun j8=>(eH.l0 k j8.1 j5 j8.2)))=some (r1,r2):=h
 clear h
 obtain ⟨⟨jg,jq⟩,A3,H⟩:=bsa H
 (try dsimp only at H)
 obtain ⟨⟨jr,j9⟩,A4,H⟩:=bsa H
 (try dsimp only at H)
 have H':=am H
 clear H
 go_enter Try.func73,Try.ntmps73
 go_wp2_with (first|((with_reducible refine aN (f:=41) rfl ?_);refine gl_ 9 Try.func41 #[.pointer (some ⟨g,0,none⟩), .int .i64 6] ?_;(with_reducible refine (aH.calls k g j5 j6 6 jg jq w0 _ ?side1 ?side2 A3.out).mono ?_);(case side1=>exact gB);(case side2=>exact iT);rintro e w5 ⟨rfl,hi,hb,hk⟩;refine ⟨_,rfl,?_⟩;replace HK:=am (aI.trans fI hk (.inl rfl));replace HB:=am (hb);replace HI0:=am (hi);(try clear hb);(try clear hk);(try clear hi))|((with_reducible refine aN (f:=77) rfl ?_);refine gl_ 11 Try.func77 #[.pointer (some ⟨g,0,none⟩), .int .i64 a1, .int .i64 3, .int .i64 (wrap64 (1 + jg)), .bool true] ?_;(with_reducible refine (bS.calls k g j5 jq a1 3 (wrap64 (1 + jg)) true jr j9 w0 _ ?side1 ?side2 A4.out).mono ?_);(case side1=>exact gB);(case side2=>exact iT);rintro e w6 ⟨jy,rfl,ho0,hi,hb,hk⟩;refine ⟨_,rfl,?_⟩;have jh:=am (Kd.dH (Kd.aD (ok':=fun k_=>(w.heap.size≤k_)∧k_≠g) ho0 (fun k_ hk_=>⟨(Nat.le_trans (aW (w:=w) (g:=g) (row:=none) fI) hk_),(aQ.fresh gB k_ hk_)⟩)) (aW (w:=w) (g:=g) (row:=none) fI));replace HK:=am (aI.trans fI hk (.inl rfl));replace HB:=am (hb);replace HI0:=am (hi);(try clear hb);(try clear hk);(try clear hi);(try clear ho0)))
 go_loopg [5] k (fun kq v5 w'=>∃ (j3:List (S35)),Aside0 (eH.l0 kq j3 j5 j9=some (r1,r2))∧Aside0 (kq≤k)∧Aside0 (Kd.N k35 35 w' w.heap.size (fun k_=>(w.heap.size≤k_)∧k_≠g) v5 j3)∧Aside0 (aQ w0 w' g j5 j9)∧Aside0 (aI w w' g none)∧Aside0 (Below w0.heap.size w0 w'))
 case atStart=>exact ⟨(jr),H',⟨Nat.le_refl _⟩,⟨eO jh.out⟩,⟨gB⟩,⟨fI⟩,⟨iT⟩⟩
 case round=>
  clear H'
  obtain ⟨j3,HA,js,j4,HI0,HK,HB⟩:=hrel
  cases gk with
  |zero=>exact absurd HA.out (by simp [eH.l0])
  |succ k1=>
   have H:=HA.out
   clear HA
   simp only [eH.l0] at H
   obtain ⟨ja,A7,H⟩:=bsa H
   (try dsimp only at H)
   by_cases c8:ja > 16
   ·rw [if_pos c8] at H
    have ji:decide (16 < ja)=true:=decide_eq_true c8
    clear c8
    obtain ⟨ji9,hji9⟩:∃ j_:Int,(wrap64 ((j3.length:Int) - 1))=j_:=⟨_,rfl⟩
    replace H:(if 0≤(ji9) then (if (ji9)≤(j3.length:Int) then (eH.l0 k1 (j3.take ((ji9):Int).toNat) j5 j9) else (none)) else (none))=some (r1,r2):=by first|(rw [hji9] at H;exact H)|(simp only [hji9] at H ⊢;exact H)
    (try rw [hji9] at A7)
    have hji9w:(IntKind.i64.wrap ((j3.length:Int) - 1))=ji9:=(dS _).trans hji9
    by_cases c10:0≤(ji9)
    ·rw [if_pos c10] at H
     have jt:=eq_true c10
     have ju:decide (0≤(ji9))=true:=decide_eq_true c10
     clear c10
     by_cases jb:(ji9)≤(j3.length:Int)
     ·rw [if_pos jb] at H
      have jv:=eq_true jb
      have jw:decide ((ji9)≤(j3.length:Int))=true:=decide_eq_true jb
      clear jb
      obtain ⟨jj,hy_⟩:∃ y_:List (S35),y_=(j3.take ((ji9):Int).toNat):=⟨_,rfl⟩
      replace H:(eH.l0 k1 jj j5 j9)=some (r1,r2):=rx_
      have jc:=am hy_
      clear hy_
      have H':=am H
      clear H
      obtain ⟨jd,je,jk⟩:=Kd.dD j4.out
      subst jk
      go_wp2_with (first|((with_reducible refine aN (f:=80) rfl ?_);refine gl_ 13 Try.func80 #[.slice jd j3.length je] ?_;(with_reducible refine (bX.calls k1 _ _ j3 ja _ (aC_ (Kd.bN j4.out).2.2) (Kd.bN j4.out).2.1 A7.out).mono ?_);rintro e jz ⟨rfl,hb⟩;refine ⟨_,rfl,?_⟩;replace j4:=am (Kd.dG (aN_ j4.out) hb);replace HK:=am (aI.trans fI (aI.of_below hb g none) (.inl rfl));replace HB:=am (aG iT hb);replace HI0:=am (aQ.below gB hb);(try clear hb);have jl:((ji9):Int)≤((j3.length:Int):Int):=of_decide_eq_true gL;obtain ⟨jx,hi29,_,hsz14,_⟩:=info_parts tN;have hcut14:=aBt (P:=Try.prog) 23 35 .i64 Try.underlying23 hi29 jd j3.length je (ji9) (of_decide_eq_true gL) jl (Kd.bN j4.out).2.1;have hr14:=Kd.aBg (m:=((ji9):Int).toNat) j4.out (by omega);have jf:jj.length=((ji9):Int).toNat:=(by rw [jc.out,List.length_take];omega);rw [← jc.out] at hr14;rw [← jf] at hr14 hcut14;clear jf hi29 hsz14 j4;have jm:=am hr14;clear hr14;replace jl:=eq_true jl))
      go_roundg k1
      case measure=>have:=js.out;omega
      case rel=>exact ⟨(jj),H',⟨by have:=js.out;omega⟩,⟨eO jm.out⟩,⟨gB⟩,⟨fI⟩,⟨iT⟩⟩
     rw [if_neg jb] at H
     exact absurd H (by simp)
    rw [if_neg c10] at H
    exact absurd H (by simp)
   rw [if_neg c8] at H
   have ji:decide (16 < ja)=false:=decide_eq_false c8
   clear c8
   simp only [Option.some.injEq,Prod.mk.injEq] at H
   obtain ⟨rfl,rfl⟩:=H
   obtain ⟨jn,jo,jp⟩:=Kd.dD j4.out
   subst jp
   go_wp2_with (first|((with_reducible refine aN (f:=80) rfl ?_);refine gl_ 13 Try.func80 #[.slice jn j3.length jo] ?_;(with_reducible refine (bX.calls k1 _ _ j3 ja _ (aC_ (Kd.bN j4.out).2.2) (Kd.bN j4.out).2.1 A7.out).mono ?_);rintro e jA ⟨rfl,hb⟩;refine ⟨_,rfl,?_⟩;replace j4:=am (Kd.dG (aN_ j4.out) hb);replace HK:=am (aI.trans fI (aI.of_below hb g none) (.inl rfl));replace HB:=am (aG iT hb);replace HI0:=am (aQ.below gB hb);(try clear hb)))
   go_ret
   exact ⟨_,iM,eO (Kd.aD j4.out (fun _ hk=>hk.1)),gB,iT,fI⟩
theorem gY.mono:∀ a0 a1 k,LeO (gY.f k a0 a1) (gY.f (k + 1) a0 a1):=by
 intro a0 a1 k
 unfold gY.f
 have m0:=@aH.mono
 have m1:=@bS.mono
 exact mo_
theorem gY.calls (k:Nat) (g:Nat) (j5:List Int) (j8:Int) (r1:Int) (r2:Int) (r3:Int) (r4:Int) (r5:Int) (r6:List (S32)) (r7:List (S35)) (r8:List (S35)) (r9:Int) (w0 w:World) (hI:aQ w0 w g j5 j8) (hB:Below w0.heap.size w0 w) (h:gY.f k j5 j8=some (r1,r2,r3,r4,r5,r6,r7,r8,r9)):
  Calls Try.prog 74 #[.pointer (some ⟨g,0,none⟩)] w fun e w'=>∃ v5_ v6_ v7_:Value,e= .returned (.agg #[.int .i64 r1, .int .i64 r2, .int .i64 r3, .int .i64 r4, .int .i64 r5,v5_,v6_,v7_])∧Kd.N k32 32 w' w.heap.size (fun k_=>(w.heap.size≤k_)∧some k_≠(v6_:Value).ownBlock∧some k_≠(v7_:Value).ownBlock) v5_ r6∧Kd.N k35 35 w' w.heap.size (fun k_=>(w.heap.size≤k_)∧some k_≠(v5_:Value).ownBlock∧some k_≠(v7_:Value).ownBlock) v6_ r7∧Kd.N k35 35 w' w.heap.size (fun k_=>(w.heap.size≤k_)∧some k_≠(v5_:Value).ownBlock∧some k_≠(v6_:Value).ownBlock) v7_ r8∧aQ w0 w' g j5 r9∧Below w0.heap.size w0 w'∧aI w w' g none:=by
 have hu35:=Try.underlying35
 have HI0:=am hI
 have HK:=am (aI.refl w g none)
 have HL:=am hB.size
 clear hI
 have HW0:=am hB.size
 have HB:=am hB
 clear hB
 have H:((fF.f 0 1).bind fun j9=>((aH.f k j5 j8 2).bind fun jc=>((bS.f k j5 jc.2 0 1 jc.1 false).bind fun jd=>(some (3,0,0,j9.1,j9.2.1,j9.2.2,jd.1,([]:List (S35)),jd.2)))))=some (r1,r2,r3,r4,r5,r6,r7,r8,r9):=h
 clear h
 obtain ⟨⟨jf,jg,jh⟩,A2,H⟩:=bsa H
 (try dsimp only at H)
 obtain ⟨⟨jz,jD⟩,A3,H⟩:=bsa H
 (try dsimp only at H)
 obtain ⟨⟨ji,jG⟩,A4,H⟩:=bsa H
 (try dsimp only at H)
 simp only [Option.some.injEq,Prod.mk.injEq] at H
 obtain ⟨rfl,rfl,rfl,rfl,rfl,rfl,rfl,rfl,rfl⟩:=H
 go_enter Try.func74,Try.ntmps74
 go_wp2_with (first|((with_reducible refine bQ (N:=2) rfl ?_);refine dJ rfl (N:=2) rfl (cs:=#[.int .i64 0, .int .i64 0, .int .i64 0, .int .i64 0, .int .i64 0, .slice none 0 0, .slice none 0 0, .slice none 0 0]) (t:=35) rn_ ?_;intro j3 hg w5 hbox hb;replace HB:=am (aG iT hb);have j4:=am (hbox);have GW28:=am ((by rw [hg];exact (aW (w:=w) (g:=g) (row:=none) fI):w.heap.size≤j3));have GE28:=am ((Nat.le_trans HW0.out (by rw [hg];exact (aW (w:=w) (g:=g) (row:=none) fI):w.heap.size≤j3):w0.heap.size≤j3));replace HK:=am (aI.trans fI (aI.of_below hb g none) (.inl rfl));have NB0_28:=am ((by rw [hg];exact Nat.ne_of_lt (aQ.lt (show aQ w0 _ g j5 j8 from gB)):g≠j3));have j6:=am ((by rw [hg];exact Nat.ne_of_gt (aQ.lt (show aQ w0 _ g j5 j8 from gB)):j3≠g));replace HI0:=am (aQ.below gB hb);clear hb hbox hg)|((with_reducible refine aN (f:=45) rfl ?_);refine gl_ 3 Try.func45 #[.int .i64 0, .int .i64 1] ?_;(with_reducible refine (fF.calls 0 1 jf jg jh _ A2.out).mono ?_);rintro e w6 ⟨jH,rfl,ho0,hb⟩;refine ⟨_,rfl,?_⟩;have j7:=am (Kd.dH (Kd.aD (ok':=fun k_=>(w.heap.size≤k_)∧k_≠j3∧k_≠g) (Kd.R_N (Kd.mK ho0)) (fun k_ hk_=>⟨(Nat.le_trans (aW (w:=w) (g:=g) (row:=none) CX) hk_.2.1),(fG j4.out k_ hk_.2.1),(aQ.fresh GY k_ hk_.2.1)⟩)) (aW (w:=w) (g:=g) (row:=none) CX));replace j4:=bbP j4 hb;replace HK:=am (aI.trans CX (aI.of_below hb g none) (.inl rfl));replace HB:=am (aG PN hb);replace HI0:=am (aQ.below GY hb);(try clear hb);(try clear ho0))|((with_reducible refine aN (f:=41) rfl ?_);refine gl_ 6 Try.func41 #[.pointer (some ⟨g,0,none⟩), .int .i64 2] ?_;(with_reducible refine (aH.calls k g j5 j8 2 jz jD w0 _ ?side1 ?side2 A3.out).mono ?_);(case side1=>exact GY);(case side2=>exact PN);rintro e w7 ⟨rfl,hi,hb,hk⟩;refine ⟨_,rfl,?_⟩;replace j4:=am (aI.blk hk (g':=j3) (o:= .cells #[.int .i64 0, .int .i64 0, .int .i64 0, .int .i64 0, .int .i64 0, .slice none 0 0, .slice none 0 0, .slice none 0 0] 35 (0,0)) (aG_ j4.out) j6.out (by simp));replace j7:=am (Kd.aD (Kd.kM (Kd.aD (ok:=fun k_=>(((w.heap.size≤k_))∧(k_≠j3∧k_≠g))) (aN_ j7.out) (fun k_ hk_=>(⟨hk_,hk_.2.2⟩:_∧k_≠g))) hk (fun _ h=>h.2)) (fun _ h=>h.1));replace HK:=am (aI.trans CX hk (.inl rfl));replace HB:=am (hb);replace HI0:=am (hi);(try clear hb);(try clear hk);(try clear hi))|((with_reducible refine aN (f:=77) rfl ?_);refine gl_ 7 Try.func77 #[.pointer (some ⟨g,0,none⟩), .int .i64 0, .int .i64 1, .int .i64 jz, .bool false] ?_;(with_reducible refine (bS.calls k g j5 jD 0 1 jz false ji jG w0 _ ?side1 ?side2 A4.out).mono ?_);(case side1=>exact GY);(case side2=>exact PN);rintro e w8 ⟨jJ,rfl,ho0,hi,hb,hk⟩;refine ⟨_,rfl,?_⟩;have je:=am (Kd.dH (Kd.aD (ok':=fun k_=>(w.heap.size≤k_)∧some k_≠(jH:Value).ownBlock∧k_≠j3∧k_≠g) ho0 (fun k_ hk_=>⟨(Nat.le_trans (aW (w:=w) (g:=g) (row:=none) CX) hk_),(Kd.fresh' (Kd.iH (aN_ j7.out)) k_ hk_),(fG j4.out k_ hk_),(aQ.fresh GY k_ hk_)⟩)) (aW (w:=w) (g:=g) (row:=none) CX));replace j4:=am (aI.blk hk (g':=j3) (o:= .cells #[.int .i64 0, .int .i64 0, .int .i64 0, .int .i64 0, .int .i64 0, .slice none 0 0, .slice none 0 0, .slice none 0 0] 35 (0,0)) (aG_ j4.out) j6.out (by simp));replace j7:=am (Kd.aD (Kd.gZ (Kd.uP (Kd.aD (ok:=fun k_=>(((w.heap.size≤k_))∧(k_≠j3∧k_≠g))) (aN_ j7.out) (fun k_ hk_=>(⟨hk_,hk_.2.2⟩:_∧k_≠g))) hk) (by first|exact Kd.dL ho0|exact Kd.dL (Kd.R_N ho0))) (fun _ h_=>h_.1));replace HK:=am (aI.trans CX hk (.inl rfl));replace HB:=am (hb);replace HI0:=am (hi);(try clear hb);(try clear hk);(try clear hi);(try clear ho0);obtain ⟨jA,jB,jI⟩:=Kd.dD je.out;subst jI;obtain ⟨ja,jb,jC⟩:=Kd.dD j7.out;subst jC;have jE:=j6.out;have jF:=NB0_28.out;obtain ⟨jj,jk,jl,jm,jn,jo,jp,jq,jr,js,jt,ju,jv,jw,jx,jy⟩:=eX j4.out))
 refine bodyPost_ret (results_cell_row rfl _ _ j3 35 #[.int .i64 3, .int .i64 0, .int .i64 0, .int .i64 jf, .int .i64 jg, .slice ja jh.length jb, .slice jA ji.length jB, .slice none 0 0] (0,0) _ rfl (aM (aM (aM (aM (aM (aM (aM (aM j4.out 0 _ rfl) 1 _ rfl) 2 _ rfl) 3 _ rfl) 4 _ rfl) 5 _ rfl) 6 _ rfl) 7 _ rfl) Try.underlying35 rfl (by kernel_rfl)) rfl ?_
 exact ⟨_,_,_,iM,eO (Kd.aD (Kd.aT (p:=⟨j3,7,none⟩) (Kd.aT (p:=⟨j3,6,none⟩) (Kd.aT (p:=⟨j3,5,none⟩) (Kd.aT (p:=⟨j3,4,none⟩) (Kd.aT (p:=⟨j3,3,none⟩) (Kd.aT (p:=⟨j3,2,none⟩) (Kd.aT (p:=⟨j3,1,none⟩) (Kd.aT (p:=⟨j3,0,none⟩) (Kd.aD j7.out (fun k_ hk=>(⟨hk,hk.1.2.1⟩:_∧k_≠j3))) (fun _ hk=>hk.2) (.int .i64 3)) (fun _ hk=>hk.2) (.int .i64 0)) (fun _ hk=>hk.2) (.int .i64 0)) (fun _ hk=>hk.2) (.int .i64 jf)) (fun _ hk=>hk.2) (.int .i64 jg)) (fun _ hk=>hk.2) (.slice ja jh.length jb)) (fun _ hk=>hk.2) (.slice jA ji.length jB)) (fun _ hk=>hk.2) (.slice none 0 0)) (fun _ hk=>⟨hk.1.1.1,⟨hk.1.2,(by simp [Value.ownBlock])⟩⟩)),eO (Kd.aD (Kd.aT (p:=⟨j3,7,none⟩) (Kd.aT (p:=⟨j3,6,none⟩) (Kd.aT (p:=⟨j3,5,none⟩) (Kd.aT (p:=⟨j3,4,none⟩) (Kd.aT (p:=⟨j3,3,none⟩) (Kd.aT (p:=⟨j3,2,none⟩) (Kd.aT (p:=⟨j3,1,none⟩) (Kd.aT (p:=⟨j3,0,none⟩) (Kd.aD je.out (fun k_ hk=>(⟨hk,hk.2.2.1⟩:_∧k_≠j3))) (fun _ hk=>hk.2) (.int .i64 3)) (fun _ hk=>hk.2) (.int .i64 0)) (fun _ hk=>hk.2) (.int .i64 0)) (fun _ hk=>hk.2) (.int .i64 jf)) (fun _ hk=>hk.2) (.int .i64 jg)) (fun _ hk=>hk.2) (.slice ja jh.length jb)) (fun _ hk=>hk.2) (.slice jA ji.length jB)) (fun _ hk=>hk.2) (.slice none 0 0)) (fun _ hk=>⟨hk.1.1,⟨hk.1.2.1,(by simp [Value.ownBlock])⟩⟩)),by first|exact Kd.oU _ _ _ _ _|exact Kd.sP _ _ _ _ _|exact Kd.sU _ _ _ _ _|exact Kd.sQ _ _ _ _ _|exact Kd.sS _ _ _ _ _,GY,PN,CX⟩
theorem eB.mono_l:∀ k,(∀ y0 y1 y2 y3 y4,LeO (eB.l0 k y0 y1 y2 y3 y4) (eB.l0 (k + 1) y0 y1 y2 y3 y4))
 |0=>fun _ _ _ _ _ r h=>by simp [eB.l0] at h
 |k + 1=>by
  have ih0:=eB.mono_l k
  ·intro y0 y1 y2 y3 y4
   unfold eB.l0
   have m0:=@aH.mono
   exact mo_
theorem eB.mono:∀ a0 a1 k,LeO (eB.f k a0 a1) (eB.f (k + 1) a0 a1):=by
 intro a0 a1 k
 have ih0:=eB.mono_l k
 unfold eB.f
 have m0:=@aH.mono
 exact mo_
theorem eB.calls (k:Nat) (g:Nat) (j3:List Int) (j8:Int) (r1:List Int) (r2:Int) (w0 w:World) (hI:aQ w0 w g j3 j8) (hB:Below w0.heap.size w0 w) (h:eB.f k j3 j8=some (r1,r2)):
  Calls Try.prog 101 #[.pointer (some ⟨g,0,none⟩)] w fun e w'=>∃ v0_:Value,e= .returned (v0_)∧Kd.R (Kd.int .i64) 3 w' w.heap.size (fun _=>True) v0_ r1∧aQ w0 w' g j3 r2∧Below w0.heap.size w0 w'∧aI w w' g none:=by
 have HI0:=am hI
 have HK:=am (aI.refl w g none)
 have HL:=am hB.size
 clear hI
 have HW0:=am hB.size
 have HB:=am hB
 clear hB
 have H:((some (([0,1,1,2,2,3]:List Int):List Int)).bind fun j9=>((aH.f k j3 j8 6).bind fun j4=>(if 0≤j4.1 then (if j4.1 < (j9.length:Int) then (eB.l0 k (([]:List Int)) (rd j9 j4.1) 0 j3 j4.2) else (none)) else (none))))=some (r1,r2):=h
 clear h
 obtain ⟨ju,hy_⟩:∃ y_:List Int,y_=(([]:List Int)):=⟨_,rfl⟩
 replace H:((some (([0,1,1,2,2,3]:List Int):List Int)).bind fun j9=>((aH.f k j3 j8 6).bind fun j4=>(if 0≤j4.1 then (if j4.1 < (j9.length:Int) then (eB.l0 k ju (rd j9 j4.1) 0 j3 j4.2) else (none)) else (none))))=some (r1,r2):=rx_
 have jk:=am hy_
 clear hy_
 obtain ⟨j9,hy_⟩:∃ y_:List Int,y_=(([0,1,1,2,2,3]:List Int)):=⟨_,rfl⟩
 replace H:((aH.f k j3 j8 6).bind fun j4=>(if 0≤j4.1 then (if j4.1 < (j9.length:Int) then (eB.l0 k ju (rd j9 j4.1) 0 j3 j4.2) else (none)) else (none)))=some (r1,r2):=rx_
 have jl:=am hy_
 clear hy_
 obtain ⟨⟨jc,jH⟩,A2,H⟩:=bsa H
 (try dsimp only at H)
 by_cases c3:0≤jc
 ·rw [if_pos c3] at H
  have jv:decide (0≤jc)=true:=decide_eq_true c3
  clear c3
  by_cases c4:jc < (j9.length:Int)
  ·rw [if_pos c4] at H
   have jw:decide (jc < (j9.length:Int))=true:=decide_eq_true c4
   clear c4
   have H':=am H
   clear H
   go_enter Try.func101,Try.ntmps101
   go_wp2_with (first|((with_reducible refine bQ (N:=6) rfl ?_);refine Kd.CP (Kd.int .i64) _ 3 rfl (N:=6) rfl (xs:=([]:List Int)) (inner:=[]) (ok:=fun _=>True) (okp:=fun _=>True) rn_ ?hp (fun _ hk=>hk) trivial (Below.refl _ _) (Nat.le_refl _) (by simp) ?_;(case hp=>exact (eY.none _ _));intro jU w5 ho6 hb hg_ hnew_;clear hg_ hnew_;(first|rw [← jk.out] at ho6|(simp only [Int.reduceToNat] at ho6;rw [← jk.out] at ho6));have jd:=am (Kd.kC ho6 (aW (w:=w) (g:=g) (row:=none) fI));replace HK:=am (aI.trans fI (aI.of_below hb g none) (.inl rfl));replace HB:=am (aG iT hb);replace HI0:=am (aQ.below gB hb);clear hb ho6)|((with_reducible refine bQ (N:=7) rfl ?_);refine Kd.CP (Kd.int .i64) _ 3 rfl (N:=7) rfl (xs:=([0,1,1,2,2,3]:List Int)) (inner:=[.int .i64 0, .int .i64 1, .int .i64 1, .int .i64 2, .int .i64 2, .int .i64 3]) (ok:=fun _=>True) (okp:=fun _=>True) rn_ ?hp (fun _ hk=>hk) trivial (Below.refl _ _) (Nat.le_refl _) (by simp) ?_;(case hp=>exact (eY.one (show Kd.M (Kd.int .i64) _ _ _ 0 [.int .i64 0] from rfl) (eY.one (show Kd.M (Kd.int .i64) _ _ _ 1 [.int .i64 1] from rfl) (eY.one (show Kd.M (Kd.int .i64) _ _ _ 1 [.int .i64 1] from rfl) (eY.one (show Kd.M (Kd.int .i64) _ _ _ 2 [.int .i64 2] from rfl) (eY.one (show Kd.M (Kd.int .i64) _ _ _ 2 [.int .i64 2] from rfl) (eY.one (show Kd.M (Kd.int .i64) _ _ _ 3 [.int .i64 3] from rfl) (eY.none _ _))))))));intro jV w7 ho8 hb hg_ hnew_;clear hg_ hnew_;(first|rw [← jl.out] at ho8|(simp only [Int.reduceToNat] at ho8;rw [← jl.out] at ho8));have jf:=am (Kd.kC (Kd.mZ ho8 (Kd.iY (aR_ jd.out))) (aW (w:=w) (g:=g) (row:=none) fI));replace jd:=am (Kd.kN (aR_ jd.out) (Kd.iG ho8) hb);replace HK:=am (aI.trans fI (aI.of_below hb g none) (.inl rfl));replace HB:=am (aG iT hb);replace HI0:=am (aQ.below gB hb);clear hb ho8)|((with_reducible refine aN (f:=41) rfl ?_);refine gl_ 9 Try.func41 #[.pointer (some ⟨g,0,none⟩), .int .i64 6] ?_;(with_reducible refine (aH.calls k g j3 j8 6 jc jH w0 _ ?side1 ?side2 A2.out).mono ?_);(case side1=>exact gB);(case side2=>exact iT);rintro e w9 ⟨rfl,hi,hb,hk⟩;refine ⟨_,rfl,?_⟩;replace jd:=am (Kd.cZ (Kd.mF (aQ.apart (show aQ w0 _ g j3 j8 from gB) (aR_ jd.out) (by decide)) hk (fun _ h=>h.2)) (fun _ h=>h.1));replace jf:=am (Kd.cZ (Kd.mF (aQ.apart (show aQ w0 _ g j3 j8 from gB) (aR_ jf.out) (by decide)) hk (fun _ h=>h.2)) (fun _ h=>h.1));replace HK:=am (aI.trans fI hk (.inl rfl));replace HB:=am (hb);replace HI0:=am (hi);(try clear hb);(try clear hk);(try clear hi);obtain ⟨jN,jO,jx⟩:=Kd.kP jf.out;subst jx;have jp:0≤(jc:Int):=of_decide_eq_true gL;have jq:jc < (j9.length:Int):=of_decide_eq_true gL;obtain ⟨jP,jQ,ji⟩:=Kd.nJ (Kd.eT jf.out).2.2 jc jp jq;cases jQ;replace jp:=eq_true jp;replace jq:=eq_true jq))
   go_loopg [3,5] k (fun kq v3 v5 w'=>∃ (ja:List Int) (j7:Int) (j5:Int),v5= .int .i64 j7∧Aside0 (eB.l0 kq ja (rd j9 jc) j7 j3 j5=some (r1,r2))∧Aside0 (kq≤k)∧Aside0 (Kd.R (Kd.int .i64) 3 w' w.heap.size (fun _=>True) v3 ja)∧Aside0 (aQ w0 w' g j3 j5)∧Aside0 (aI w w' g none)∧Aside0 (Below w0.heap.size w0 w'))
   case atStart=>exact ⟨(ju),(0),(jH),sd_,H',⟨Nat.le_refl _⟩,⟨iC (Kd.cZ jd.out (fun _ hk=>trivial))⟩,⟨gB⟩,⟨fI⟩,⟨iT⟩⟩
   case round=>
    clear H'
    try clear c3
    try clear jv
    try clear c4
    try clear jw
    try clear ji
    try clear jp
    try clear jq
    obtain ⟨ja,j7,j5,rfl,HA,jI,j6,HI0,HK,HB⟩:=hrel
    cases gk with
    |zero=>exact absurd HA.out (by simp [eB.l0])
    |succ k1=>
     have H:=HA.out
     clear HA
     simp only [eB.l0] at H
     by_cases jj:j7 < (rd j9 jc)
     ·rw [if_pos jj] at H
      have jm:decide (j7 < (rd j9 jc))=true:=decide_eq_true jj
      clear jj
      obtain ⟨jg,hy_⟩:∃ y_:List Int,y_=(([1,1,2,3,4]:List Int)):=⟨_,rfl⟩
      replace H:((aH.f k1 j3 j5 5).bind fun jh=>(if 0≤jh.1 then (if jh.1 < (jg.length:Int) then (if ja.length < 17592186044416 then (eB.l0 k1 (ja ++ [rd jg jh.1]) (rd j9 jc) (wrap64 (j7 + 1)) j3 jh.2) else (none)) else (none)) else (none)))=some (r1,r2):=rx_
      have jn:=am hy_
      clear hy_
      obtain ⟨⟨je,jy⟩,jJ,H⟩:=bsm H
      (try dsimp only at H)
      have jR:=am jJ
      clear jJ
      by_cases jr:0≤je
      ·rw [if_pos jr] at H
       have jK:decide (0≤je)=true:=decide_eq_true jr
       clear jr
       by_cases js:je < (jg.length:Int)
       ·rw [if_pos js] at H
        have jL:decide (je < (jg.length:Int))=true:=decide_eq_true js
        clear js
        by_cases jt:ja.length < 17592186044416
        ·rw [if_pos jt] at H
         have jo:=am jt
         clear jt
         obtain ⟨jM,hy_⟩:∃ y_:List Int,y_=(ja ++ [rd jg je]):=⟨_,rfl⟩
         replace H:(eB.l0 k1 jM (rd j9 jc) (wrap64 (j7 + 1)) j3 jy)=some (r1,r2):=rx_
         have jz:=am hy_
         clear hy_
         have H':=am H
         clear H
         go_wp2_with (first|((with_reducible refine bQ (N:=18) rfl ?_);refine Kd.CP (Kd.int .i64) _ 3 rfl (N:=18) rfl (xs:=([1,1,2,3,4]:List Int)) (inner:=[.int .i64 1, .int .i64 1, .int .i64 2, .int .i64 3, .int .i64 4]) (ok:=fun _=>True) (okp:=fun _=>True) rn_ ?hp (fun _ hk=>hk) trivial (Below.refl _ _) (Nat.le_refl _) (by simp) ?_;(case hp=>exact (eY.one (show Kd.M (Kd.int .i64) _ _ _ 1 [.int .i64 1] from rfl) (eY.one (show Kd.M (Kd.int .i64) _ _ _ 1 [.int .i64 1] from rfl) (eY.one (show Kd.M (Kd.int .i64) _ _ _ 2 [.int .i64 2] from rfl) (eY.one (show Kd.M (Kd.int .i64) _ _ _ 3 [.int .i64 3] from rfl) (eY.one (show Kd.M (Kd.int .i64) _ _ _ 4 [.int .i64 4] from rfl) (eY.none _ _)))))));intro jW jX ho17 hb hg_ hnew_;clear hg_ hnew_;(first|rw [← jn.out] at ho17|(simp only [Int.reduceToNat] at ho17;rw [← jn.out] at ho17));have jb:=am (Kd.kC (Kd.mZ ho17 (Kd.iY (aR_ j6.out))) (aW (w:=w) (g:=g) (row:=none) fI));replace j6:=am (Kd.kN (aR_ j6.out) (Kd.iG ho17) hb);replace HK:=am (aI.trans fI (aI.of_below hb g none) (.inl rfl));replace HB:=am (aG iT hb);replace HI0:=am (aQ.below gB hb);clear hb ho17)|((with_reducible refine aN (f:=41) rfl ?_);refine gl_ 20 Try.func41 #[.pointer (some ⟨g,0,none⟩), .int .i64 5] ?_;(with_reducible refine (aH.calls k1 g j3 j5 5 je jy w0 _ ?side1 ?side2 jR.out).mono ?_);(case side1=>exact gB);(case side2=>exact iT);rintro e jY ⟨rfl,hi,hb,hk⟩;refine ⟨_,rfl,?_⟩;replace j6:=am (Kd.cZ (Kd.mF (aQ.apart (show aQ w0 _ g j3 j5 from gB) (aR_ j6.out) (by decide)) hk (fun _ h=>h.2)) (fun _ h=>h.1));replace jb:=am (Kd.cZ (Kd.mF (aQ.apart (show aQ w0 _ g j3 j5 from gB) (aR_ jb.out) (by decide)) hk (fun _ h=>h.2)) (fun _ h=>h.1));replace HK:=am (aI.trans fI hk (.inl rfl));replace HB:=am (hb);replace HI0:=am (hi);(try clear hb);(try clear hk);(try clear hi);obtain ⟨jS,jA,jB⟩:=Kd.kP jb.out;subst jB;have jC:0≤(je:Int):=of_decide_eq_true gL;have jD:je < (jg.length:Int):=of_decide_eq_true gL;obtain ⟨jE,jT,jF⟩:=Kd.nJ (Kd.eT jb.out).2.2 je jC jD;cases jT;replace jC:=eq_true jC;replace jD:=eq_true jD)|((with_reducible refine lG (b:= .append) (xs:=#[.tmp 17, .tmp 23]) rfl ?_);at_builtin;refine Kd.KX (Kd.int .i64) w.heap.size rfl (.tmp 17) (.tmp 23) 43 3 (.int .i64 0) 8 rfl Try.underlying43 info3 rfl (by decide) (by omega) u3 ja (rd jg je) [.int .i64 (rd jg je)] (fun k_=>some k_≠(.slice (some jE) jg.length jA:Value).ownBlock) (fun _=>False) rfl rfl ?aP (fun _ hk=>hk.elim) ?aF ?aO (Below.refl _ _) ?aS ?aL ?_;(case aP=>exact rfl);(case aF=>exact (fun k_ hk=>Kd.fresh' (Kd.iY (aR_ jb.out)) k_ hk));(case aO=>exact (iC (Kd.cZ j6.out (fun _ hk=>hk.2))));(case aS=>exact (aW (w:=w) (g:=g) (row:=none) fI));(case aL=>have:=jo.out;omega);intro jZ q0 ho hb hg hat;rw [← jz.out] at ho;replace jb:=am (Kd.OY (ok:=(fun _=>True)) (aR_ jb.out) hg hat);replace HB:=am (nA iT HL.out hb);replace HI0:=am (aQ.grown gB hg (aQ.own_ne HI0.out j6.out (by decide)));replace HK:=am (aI.trans fI (aI.oF hg g) (Kd.KC j6.out));have jG:=am (ho);clear j6 ho hb hg hat))
         go_roundg k1
         case measure=>have:=jI.out;omega
         case rel=>exact ⟨(jM),(wrap64 (j7 + 1)),(jy),sd_,H',⟨by have:=jI.out;omega⟩,⟨iC (Kd.cZ jG.out (fun _ hk=>trivial))⟩,⟨gB⟩,⟨fI⟩,⟨iT⟩⟩
        rw [if_neg jt] at H
        exact absurd H (by simp)
       rw [if_neg js] at H
       exact absurd H (by simp)
      rw [if_neg jr] at H
      exact absurd H (by simp)
     rw [if_neg jj] at H
     have jm:decide (j7 < (rd j9 jc))=false:=decide_eq_false jj
     clear jj
     simp only [Option.some.injEq,Prod.mk.injEq] at H
     obtain ⟨rfl,rfl⟩:=H
     go_wp2
     go_ret
     exact ⟨_,iM,iC j6.out,gB,iT,fI⟩
  rw [if_neg c4] at H
  exact absurd H (by simp)
 rw [if_neg c3] at H
 exact absurd H (by simp)
theorem cK.mono_l:∀ k,(∀ y0 y1 y2 y3 y4 y5,LeO (cK.l0 k y0 y1 y2 y3 y4 y5) (cK.l0 (k + 1) y0 y1 y2 y3 y4 y5))
 |0=>fun _ _ _ _ _ _ r h=>by simp [cK.l0] at h
 |k + 1=>by
  have ih0:=cK.mono_l k
  ·intro y0 y1 y2 y3 y4 y5
   unfold cK.l0
   have m0:=@aH.mono
   have m1:=@gY.mono
   have m2:=@eB.mono
   have m3:=@eH.mono
   exact mo_
theorem cK.mono:∀ a0 a1 k,LeO (cK.f k a0 a1) (cK.f (k + 1) a0 a1):=by
 intro a0 a1 k
 have ih0:=cK.mono_l k
 unfold cK.f
 have m0:=@aH.mono
 have m1:=@gY.mono
 have m2:=@eB.mono
 have m3:=@eH.mono
 exact mo_
def cK.T6:Bool × List (List Nat × List Nat):=(true,[([],[]),([0],[0]),([],[]),([],[]),([3],[3]),([4],[4]),([2,5],[2,5]),([6],[6]),([1,7,6],[1,7]),([0,1,2,3,4,5,6,7,8],[]),([9,8,8,0,1,2,3,4,5,6,7,8],[8,9])])
def cK.B6:List Nat:=[0,1,0,0,8,24,60,124,255,511,1023]
theorem cK.CJ:lJ .any (opsOf Try.f86 6)=cK.T6:=by kernel_rfl
theorem cK.uW:iW cK.T6.2 cK.B6=true:=by kernel_rfl
def TF (w:World) (base:Nat) (ok:Nat→Prop) (v:Value) (ts:List (List S35)):Prop:=
 (∀ k,v.ownBlock=some k→ok k)∧∃ (P:Nat→Prop) (rows:List (List Value)),rows.length=ts.length∧(Kd.raw 1).R 23 w base (fun k=>some k=v.ownBlock) v rows∧
  (∀ t c,ts[0]?=some t→rows[0]?=some c→∃ u,c=[u]∧Kd.N k35 35 w base (fun k=>(ok k∧some k≠v.ownBlock)∧P k) u t)∧
  (∀ j t c,ts[j + 1]?=some t→rows[j + 1]?=some c→Kd.FK (Kd.slice 35 k35) w (fun k=>(ok k∧some k≠v.ownBlock)∧¬ P k) t c)
section
variable {w w1 W:World} {base base' g:Nat} {ok ok':Nat→Prop} {v:Value} {ts:List (List S35)}
theorem BP (h:TF w base ok v ts):Kd.N (Kd.slice 35 k35) 23 w base ok v ts:=by
 obtain ⟨h0,P,rows,hl,hR,he,hf⟩:=h
 refine ⟨h0,rows,hl,hR,fun j x c hx hc=>?_⟩
 cases j with
 |zero=>
  obtain ⟨u,rfl,hn⟩:=he x c hx hc
  obtain ⟨A,cc,rfl⟩:=Kd.dD hn
  exact Kd.lT (Kd.kW (Kd.bN hn).2.1 (Kd.N_F hn)) (fun k hk=>hk.1)
 |succ j=>exact Kd.lT (hf j x c hx hc) (fun k hk=>hk.1)
theorem KG (h:TF w base ok v ts) (hm:∀ k,ok k→k < w.heap.size→w1.heap[k]?=w.heap[k]?):TF w1 base ok v ts:=by
 obtain ⟨h0,P,rows,hl,hR,he,hf⟩:=h
 refine ⟨h0,P,rows,hl,Kd.yK hR (fun k hk hlt=>hm k (h0 k hk.symm) hlt),fun t c ht hc=>?_,fun j t c ht hc=>Kd.pO (hf j t c ht hc) (fun k hk hlt=>hm k hk.1.1 hlt)⟩
 obtain ⟨u,rfl,hn⟩:=he t c ht hc
 exact ⟨u,rfl,Kd.sM hn (fun k hk hlt=>hm k hk.1.1 hlt)⟩
theorem lD (h:TF w base ok v ts) (hok:∀ k,ok k→ok' k):TF w base ok' v ts:=by
 obtain ⟨h0,P,rows,hl,hR,he,hf⟩:=h
 refine ⟨fun k hk=>hok k (h0 k hk),P,rows,hl,hR,fun t c ht hc=>?_,fun j t c ht hc=>Kd.lT (hf j t c ht hc) (fun k hk=>⟨⟨hok k hk.1.1,hk.1.2⟩,hk.2⟩)⟩
 obtain ⟨u,rfl,hn⟩:=he t c ht hc
 exact ⟨u,rfl,Kd.aD hn (fun k hk=>⟨⟨hok k hk.1.1,hk.1.2⟩,hk.2⟩)⟩
theorem EF (h:TF w base ok v ts):TF w base (fun k=>ok k∧k < w.heap.size) v ts:=by
 have hlt:=Kd.iH (BP h)
 obtain ⟨h0,P,rows,hl,hR,he,hf⟩:=h
 refine ⟨fun k hk=>⟨h0 k hk,hlt k hk⟩,P,rows,hl,hR,fun t c ht hc=>?_,fun j t c ht hc=>Kd.lT (Kd.vZ (hf j t c ht hc)) (fun k hk=>⟨⟨⟨hk.1.1.1,hk.2⟩,hk.1.1.2⟩,hk.1.2⟩)⟩
 obtain ⟨u,rfl,hn⟩:=he t c ht hc
 exact ⟨u,rfl,Kd.aD (Kd.nU hn) (fun k hk=>⟨⟨⟨hk.1.1.1,hk.2⟩,hk.1.1.2⟩,hk.1.2⟩)⟩
theorem wC (h:TF w base ok v ts) (hb:Below w.heap.size w w1):TF w1 base ok v ts:=KG h (fun k _ hk=>hb.block k hk)
theorem pR (h:TF w base ok v ts) (o:Obj):TF (w.alloc o) base ok v ts:=wC h (bO (Below.refl _ _) o)
theorem pU (h:TF w base ok v ts):TF w.drew base ok v ts:=wC h (oO (Below.refl _ _))
theorem pV (h:TF w base ok v ts) (m:Nat):TF (w.drewN m) base ok v ts:=wC h (bA (Below.refl _ _) m)
theorem yL (h:TF w base ok v ts) {p:Addr} (hok:∀ k,ok k→k≠p.block) (u:Value):TF (w.setCell p u) base ok v ts:=KG h (fun k ho _=>Below.heap_setCell w p u k (hok k ho))
theorem DU (h:TF w base ok v ts) (hk:aI w w1 g none) (hok:∀ k,ok k→k≠g):TF w1 base ok v ts:=KG h (fun k ho hlt=>hk.2 k hlt (hok k ho) (by simp))
theorem PI (h:TF w base (fun k=>ok k∧k≠g) v ts) (hk:aI w w1 g none):TF w1 base (fun k=>ok k∧k < w.heap.size) v ts:=lD (DU (EF h) hk (fun _ hk=>hk.1.2)) (fun _ hk=>⟨hk.1.1,hk.2⟩)
theorem aBm (h0:ts=[]) (h:Kd.N (Kd.slice 35 k35) 23 w base ok v ts):TF w base ok v ts:=by
 subst h0
 obtain ⟨h0,rows,hl,hR,hf⟩:=h
 exact ⟨h0,fun _=>False,rows,hl,hR,fun t c ht=>by simp at ht,fun j t c ht=>by simp at ht⟩
theorem KZ {ok0 okp:Nat→Prop} {v1 u:Value} {p:List S35} {rows:List (List Value)} {P:Nat→Prop} (h0:∀ k,v.ownBlock=some k→ok0 k) (hl:rows.length=ts.length)
  (he:∀ t c,ts[0]?=some t→rows[0]?=some c→∃ u,c=[u]∧Kd.N k35 35 W base (fun k=>(ok0 k∧some k≠v.ownBlock)∧P k) u t)
  (hf:∀ j t c,ts[j + 1]?=some t→rows[j + 1]?=some c→Kd.FK (Kd.slice 35 k35) W (fun k=>(ok0 k∧some k≠v.ownBlock)∧¬ P k) t c)
  (hp:Kd.N k35 35 W base okp u p) (hokp:∀ k,okp k→ok k∧some k≠v.ownBlock) (hok0:∀ k,ok0 k→ok k) (hap:∀ k,ok0 k→¬ okp k) (hfresh:∀ k,W.heap.size≤k→ok k)
  (hR:(Kd.raw 1).R 23 w1 base (fun _=>True) v1 (rows ++ [[u]])) (hg:W.grownBy w1 v.ownBlock) (hat:v1.ownBlock=v.ownBlock∨∃ b,v1.ownBlock=some b∧W.heap.size≤b):TF w1 base ok v1 (ts ++ [p]):=by
 have hne:∀ k,some k≠v.ownBlock→k < W.heap.size→some k≠v1.ownBlock:=by
  intro k hk hlt
  rcases hat with hat|⟨b,hb,hle⟩
  ·rw [hat];exact hk
  ·rw [hb]
   intro he
   injection he with he
   omega
 have hown:∀ k,v1.ownBlock=some k→ok k:=by
  intro k hk
  rcases hat with hat|⟨b,hb,hle⟩
  ·exact hok0 k (h0 k (hat ▸ hk))
  ·rw [hb] at hk
   injection hk with hk
   exact hfresh k (by omega)
 have hpn:Kd.N k35 35 w1 base (fun k=>(ok k∧some k≠v1.ownBlock)∧okp k) u p:=
  Kd.aD (Kd.sM (Kd.nU hp) (fun k hk hlt=>hg.block k hlt (hokp k hk.1).2)) (fun k hk=>⟨⟨(hokp k hk.1).1,hne k (hokp k hk.1).2 hk.2⟩,hk.1⟩)
 cases ts with
 |nil=>
  have hr0:rows=[]:=List.eq_nil_of_length_eq_zero hl
  subst hr0
  refine ⟨hown,okp,[[u]],rfl,Kd.pK hR,fun t c ht hc=>?_,fun j t c ht hc=>by simp at ht⟩
  simp only [List.nil_append,List.getElem?_cons_zero,Option.some.injEq] at ht hc
  subst ht
  subst hc
  exact ⟨u,rfl,hpn⟩
 |cons t0 ts=>
  refine ⟨hown,fun k=>P k∧ok0 k,rows ++ [[u]],by rw [List.length_append,List.length_append,hl];rfl,Kd.pK hR,fun t c ht hc=>?_,fun j t c ht hc=>?_⟩
  ·rw [List.getElem?_append_left (by simp)] at ht
   rw [List.getElem?_append_left (by rw [hl];simp)] at hc
   obtain ⟨u0,rfl,hn⟩:=he t c ht hc
   exact ⟨u0,rfl,Kd.aD (Kd.sM (Kd.nU hn) (fun k hk hlt=>hg.block k hlt hk.1.1.2)) (fun k hk=>⟨⟨hok0 k hk.1.1.1,hne k hk.1.1.2 hk.2⟩,hk.1.2,hk.1.1.1⟩)⟩
  ·rcases Nat.lt_or_ge (j + 1) (t0 :: ts).length with hlt|hge
   ·rw [List.getElem?_append_left hlt] at ht
    rw [List.getElem?_append_left (by rw [hl];exact hlt)] at hc
    exact Kd.lT (Kd.pO (Kd.vZ (hf j t c ht hc)) (fun k hk hlt=>hg.block k hlt hk.1.1.2)) (fun k hk=>⟨⟨hok0 k hk.1.1.1,hne k hk.1.1.2 hk.2⟩,fun hq=>hk.1.2 hq.1⟩)
   ·rw [List.getElem?_append_right hge] at ht
    rw [List.getElem?_append_right (by rw [hl];exact hge),hl] at hc
    cases hj:j + 1 - (t0 :: ts).length with
    |succ m=>
     rw [hj] at ht
     simp at ht
    |zero=>
     rw [hj] at ht hc
     simp only [List.getElem?_cons_zero,Option.some.injEq] at ht hc
     subst ht
     subst hc
     obtain ⟨A,cc,rfl⟩:=Kd.dD hpn
     exact Kd.lT (Kd.kW (Kd.bN hpn).2.1 (Kd.N_F hpn)) (fun k hk=>⟨hk.1,fun hq=>hap k hq.2 hk.2⟩)
theorem aBn {ok0 okp:Nat→Prop} {n cap:Nat} {u:Value} {p:List S35} (h:TF W base ok0 (.slice (some ⟨g,0,none⟩) n cap) ts) (hn:0 < ts.length) (hp:Kd.N k35 35 W base okp u p) (hokp:∀ k,okp k→ok k∧k≠g) (hok0:∀ k,ok0 k→ok k) (hap:∀ k,ok0 k→k≠g→¬ okp k):
  TF (W.setCells g ((0:Int).toNat * 1 + 0) [u]) base ok (.slice (some ⟨g,0,none⟩) n cap) (ts.set (0:Int).toNat p):=by
 have hgo:some g=(Value.slice (some ⟨g,0,none⟩) n cap).ownBlock:=by simp [Value.ownBlock]
 have hN:=BP h
 have hnn:=(Kd.bN hN).1
 obtain ⟨h0,P,rows,hl,hR,he,hf⟩:=h
 obtain ⟨c0,hc0⟩:∃ c,rows[0]?=some c:=⟨_,List.getElem?_eq_getElem (by omega)⟩
 obtain ⟨t0,ht0⟩:∃ t,ts[0]?=some t:=⟨_,List.getElem?_eq_getElem hn⟩
 obtain ⟨u0,rfl,j3⟩:=he t0 c0 ht0 hc0
 obtain ⟨c,hcl,hM,hcc,hfr⟩:=Kd.BO (Kd.oJ hR) [] (0:Int) (by omega) (by omega)
 have hpo:u.oneCell'=true:=by
  obtain ⟨A,cc,rfl⟩:=Kd.dD hp
  rfl
 obtain ⟨h2,h3⟩:=Kd.PE (Kd.oJ hR) (0:Int) (by omega) (by omega) (c:=c) (seg:=[u]) (j:=0) (x':=[u]) (okp:=fun _=>False) hcl hcc (show 0 + [u].length≤1 from Nat.le_refl _) (by
  have e:c.take 0 ++ [u] ++ c.drop (0 + [u].length)=[u]:=by
   have:c.length=1:=hcl
   simp [List.drop_eq_nil_of_le (show c.length≤1 by omega)]
  rw [e]
  exact ⟨rfl,rfl,fun x hx=>by rw [List.mem_singleton] at hx;rw [hx];exact hpo⟩) (fun _ hk=>hk.elim)
 have hpn:Kd.N k35 35 (W.setCells g ((0:Int).toNat * 1 + 0) [u]) base (fun k=>(ok k∧some k≠(Value.slice (some ⟨g,0,none⟩) n cap).ownBlock)∧okp k) u p:=
  Kd.aD (Kd.sM hp (fun k hk hlt=>h3.block k hlt (fun e=>(hokp k hk).2 (by injection e)))) (fun k hk=>⟨⟨(hokp k hk).1,fun e=>(hokp k hk).2 (by rw [← hgo] at e;injection e)⟩,hk⟩)
 refine ⟨fun k hk=>hok0 k (h0 k hk),okp,rows.set 0 [u],by rw [List.length_set,List.length_set,hl],Kd.pK h2,fun t c ht hc=>?_,fun j t c ht hc=>?_⟩
 ·rw [show (0:Int).toNat=0 from rfl,List.getElem?_set_self hn] at ht
  rw [List.getElem?_set_self (by omega)] at hc
  injection ht with ht
  injection hc with hc
  subst ht
  subst hc
  exact ⟨u,rfl,hpn⟩
 ·rw [show (0:Int).toNat=0 from rfl,List.getElem?_set_ne (by omega)] at ht
  rw [List.getElem?_set_ne (by omega)] at hc
  have hne:∀ k,some k≠(Value.slice (some ⟨g,0,none⟩) n cap).ownBlock→k≠g:=fun k hk e=>hk (by rw [e];exact hgo)
  exact Kd.lT (Kd.pO (hf j t c ht hc) (fun k hk hlt=>h3.block k hlt (fun e=>hne k hk.1.2 (by injection e)))) (fun k hk=>⟨⟨hok0 k hk.1.1,hk.1.2⟩,hap k hk.1.1 (hne k hk.1.2)⟩)
end
section
variable {P:Program} {ops:Array Oper} {o:Oper} {a:Act} {Q:Exit→Act→World→Prop} {Kc:Act→World→Prop}
theorem ED {w0 W:World} (base:Nat) (hw:Region.wanted o (yielded ops a.tmps)=true) (s x:Operand) (t:TypeId) (z:Value) (bytes:Nat)
  (ho:o.op= .call { callee:= .builtin .append,args:=#[s,x],argTypes:=#[t,t] })
  (ht:P.underlying t=some (.slice 23)) (hinfo:(P.info? 23).map (fun i=>(i.zero,i.size,i.bytes))=some (some z,1,bytes)) (hz:z.cells.size=1) (hb0:0 < bytes)
  (v u:Value) (xs:List (List S35)) (p:List S35) (ok ok0 okp:Nat→Prop) (hs:a.eval s=v) (hx:a.eval x= .slice (some ⟨W.heap.size,0,none⟩) 1 1) (hp:Kd.N k35 35 W base okp u p) (hokp:∀ k,okp k→ok k∧some k≠v.ownBlock) (hok0:∀ k,ok0 k→ok k) (hap:∀ k,ok0 k→¬ okp k) (hfresh:∀ k,W.heap.size≤k→ok k)
  (HO:TF W base ok0 v xs) (HB:Below base w0 W) (hbase:base≤W.heap.size) (hl:(xs.length + 1) * bytes≤140737488355328)
  (h:∀ v1 w1,TF w1 base ok v1 (xs ++ [p])→Below base w0 w1→W.grownBy w1 v.ownBlock→(v1.ownBlock=v.ownBlock∨∃ b,v1.ownBlock=some b∧W.heap.size≤b)→Kc (a.put o.dst v1) w1):
  if Region.wanted o (yielded ops a.tmps)=true then Oper.wp P o a (W.alloc (.cells [u].toArray 23)) Kc Q else Kc (a.put o.dst undef) (W.alloc (.cells [u].toArray 23)):=by
 obtain ⟨h0,P,rows,hlr,hR,he,hf⟩:=HO
 have hpo:u.oneCell'=true:=by
  obtain ⟨A,cc,rfl⟩:=Kd.dD hp
  rfl
 refine Kd.uR (Kd.raw 1) base hw s x t 23 z bytes ho ht hinfo hz (by decide) hb0 v rows [u] [u] (fun _=>True) (fun _=>False) hs hx ⟨rfl,rfl,fun y hy=>by rw [List.mem_singleton] at hy;rw [hy];exact hpo⟩ (fun _ hk=>hk.elim) (fun _ _=>trivial) (Kd.oJ hR) HB hbase (by rw [hlr];exact hl) ?_
 intro v1 w1 hr hb hg hat
 exact h v1 w1 (KZ h0 hlr he hf hp hokp hok0 hap hfresh hr hg hat) hb hg hat
end
theorem cK.callsT (k:Nat) (g:Nat) (jd:List Int) (jH:Int) (r1:List Int) (r2:List (List (S35))) (r3:Int) (w0 w:World) (hI:aQ w0 w g jd jH) (hB:Below w0.heap.size w0 w) (h:cK.f k jd jH=some (r1,r2,r3)):
  Calls Try.prog 86 #[.pointer (some ⟨g,0,none⟩)] w fun e w'=>∃ v0_ v1_:Value,e= .returned (.agg #[v0_,v1_])∧Kd.R (Kd.int .i64) 3 w' w.heap.size (fun k_=>(w.heap.size≤k_)) v0_ r1∧TF w' w.heap.size (fun k_=>(w.heap.size≤k_)∧some k_≠(v0_:Value).ownBlock) v1_ r2∧aQ w0 w' g jd r3∧Below w0.heap.size w0 w'∧aI w w' g none:=by
 have hu46:=Try.underlying46
 have HI0:=am hI
 have HK:=am (aI.refl w g none)
 have HL:=am hB.size
 clear hI
 have HW0:=am hB.size
 have HB:=am hB
 clear hB
 have H:((eB.f k jd jH).bind fun q3=>((aH.f k jd q3.2 3).bind fun ju=>(cK.l0 k (wrap64 (1 + ju.1)) 0 jd ju.2 q3.1 (([]:List (List (S35)))))))=some (r1,r2,r3):=h
 clear h
 obtain ⟨⟨ja,jI⟩,A2,H⟩:=bsa H
 (try dsimp only at H)
 obtain ⟨jJ,hy_⟩:∃ y_:List (List (S35)),y_=(([]:List (List (S35)))):=⟨_,rfl⟩
 replace H:((aH.f k jd jI 3).bind fun ju=>(cK.l0 k (wrap64 (1 + ju.1)) 0 jd ju.2 ja jJ))=some (r1,r2,r3):=rx_
 have jO:=am hy_
 clear hy_
 obtain ⟨⟨jK,qj⟩,A3,H⟩:=bsa H
 (try dsimp only at H)
 have H':=am H
 clear H
 go_enter Try.func86,Try.ntmps86
 go_wp2_with (first|((with_reducible refine bQ (N:=2) rfl ?_);refine dJ rfl (N:=2) rfl (cs:=#[.slice none 0 0, .slice none 0 0]) (t:=46) rn_ ?_;intro j6 hg w4 hbox hb;replace HB:=am (aG iT hb);have j9:=am (hbox);have GW829:=am ((by rw [hg];exact (aW (w:=w) (g:=g) (row:=none) fI):w.heap.size≤j6));have GE829:=am ((Nat.le_trans HW0.out (by rw [hg];exact (aW (w:=w) (g:=g) (row:=none) fI):w.heap.size≤j6):w0.heap.size≤j6));replace HK:=am (aI.trans fI (aI.of_below hb g none) (.inl rfl));have NB0_829:=am ((by rw [hg];exact Nat.ne_of_lt (aQ.lt (show aQ w0 _ g jd jH from gB)):g≠j6));have jg:=am ((by rw [hg];exact Nat.ne_of_gt (aQ.lt (show aQ w0 _ g jd jH from gB)):j6≠g));replace HI0:=am (aQ.below gB hb);clear hb hbox hg)|((with_reducible refine aN (f:=101) rfl ?_);refine gl_ 7 Try.func101 #[.pointer (some ⟨g,0,none⟩)] ?_;(with_reducible refine (eB.calls k g jd jH ja jI w0 _ ?side1 ?side2 A2.out).mono ?_);(case side1=>exact GV);(case side2=>exact NG);rintro e w5 ⟨qc,rfl,ho0,hi,hb,hk⟩;refine ⟨_,rfl,?_⟩;replace j9:=am (aI.blk hk (g':=j6) (o:= .cells #[.slice none 0 0, .slice none 0 0] 46 (0,0)) (aG_ j9.out) jg.out (by simp));have jl:=am (Kd.kC (Kd.yJ (M:=fun k_=>(w.heap.size≤k_)) ho0 (aW (w:=w) (g:=g) (row:=none) AQ) (fun k_ h_=>h_)) (aW (w:=w) (g:=g) (row:=none) AQ));replace HK:=am (aI.trans AQ hk (.inl rfl));replace HB:=am (hb);replace HI0:=am (hi);(try clear hb);(try clear hk);(try clear hi);(try clear ho0))|((with_reducible refine bQ (N:=8) rfl ?_);refine Kd.oQ (Kd.slice 35 k35) _ 23 rfl (N':=8) rfl (xs:=([]:List (List (S35)))) (inner:=[]) (ok:=(fun k_=>(w.heap.size≤k_)∧some k_≠(qc:Value).ownBlock∧k_≠j6∧k_≠g)) (okp:=(fun k_=>(w.heap.size≤k_)∧some k_≠(qc:Value).ownBlock∧k_≠j6∧k_≠g)) rn_ ?hp (fun _ hk=>hk) ((show ∀ k_,w5.heap.size≤k_→(fun k_=>(w.heap.size≤k_)∧some k_≠(qc:Value).ownBlock∧k_≠j6∧k_≠g) k_ from fun k_ hk=>⟨(Nat.le_trans (aW (w:=w) (g:=g) (row:=none) AQ) hk),Kd.fresh' (Kd.iY (aR_ jl.out)) k_ hk,fG j9.out k_ hk,aQ.fresh GV k_ hk⟩) _ (Nat.le_refl _)) (Below.refl _ _) (Nat.le_refl _) (by simp) ?_;(case hp=>exact (eY.none _ _));intro zq w6 ho7 hb hg_ hnew_;clear hg_ hnew_;(first|rw [← jO.out] at ho7|(simp only [Int.reduceToNat] at ho7;rw [← jO.out] at ho7));replace jl:=am (Kd.dW (aR_ jl.out) hb);have jm:=am (Kd.dH ho7 (aW (w:=w) (g:=g) (row:=none) AQ));replace j9:=bbP j9 hb;replace HK:=am (aI.trans AQ (aI.of_below hb g none) (.inl rfl));replace HB:=am (aG NG hb);replace HI0:=am (aQ.below GV hb);clear hb ho7;obtain ⟨qD,qE,zr⟩:=Kd.dD jm.out;subst zr;obtain ⟨jb,jc,zs⟩:=Kd.kP jl.out;subst zs)|((with_reducible refine bQ (N:=3) rfl ?_);refine dJ rfl (N:=3) rfl (cs:=#[.slice none 0 0, .slice none 0 0]) (t:=46) rn_ ?_;intro j7 hg zD hbox hb;replace jl:=am (Kd.dW (aR_ jl.out) hb);replace jm:=am (Kd.dG (Kd.fC (aN_ jm.out) j7 (Nat.le_of_eq hg.symm)) hb);replace HB:=am (aG NG hb);have j8:=am (hbox);have GW837:=am ((by rw [hg];exact (aW (w:=w) (g:=g) (row:=none) AQ):w.heap.size≤j7));have GE837:=am ((Nat.le_trans HW0.out (by rw [hg];exact (aW (w:=w) (g:=g) (row:=none) AQ):w.heap.size≤j7):w0.heap.size≤j7));replace HK:=am (aI.trans AQ (aI.of_below hb g none) (.inl rfl));have je:=am ((by rw [hg];exact Nat.ne_of_lt (fO j9.out):j6≠j7));have jj:=am ((by rw [hg];exact Nat.ne_of_gt (fO j9.out):j7≠j6));replace j9:=bbP j9 hb;have NB0_837:=am ((by rw [hg];exact Nat.ne_of_lt (aQ.lt (show aQ w0 _ g jd jI from GV)):g≠j7));have jh:=am ((by rw [hg];exact Nat.ne_of_gt (aQ.lt (show aQ w0 _ g jd jI from GV)):j7≠g));replace HI0:=am (aQ.below GV hb);clear hb hbox hg;have z4:=jj.out;have z5:=je.out;have z6:=jh.out;have z7:=NB0_837.out;obtain ⟨jQ,jR,jS,jT⟩:=fT j8.out)|((with_reducible refine aN (f:=41) rfl ?_);refine gl_ 11 Try.func41 #[.pointer (some ⟨g,0,none⟩), .int .i64 3] ?_;(with_reducible refine (aH.calls k g jd jI 3 jK qj w0 _ ?side1 ?side2 A3.out).mono ?_);(case side1=>exact mV);(case side2=>exact wF);rintro e zE ⟨rfl,hi,hb,hk⟩;refine ⟨_,rfl,?_⟩;replace j9:=am (aI.blk hk (g':=j6) (o:= .cells #[.slice none 0 0, .slice none 0 0] 46 (0,0)) (aZ (aZ j9.out je.out _) je.out _) jg.out (by simp));replace jl:=am (Kd.cZ (Kd.mF (aQ.apart (show aQ w0 _ g jd jI from mV) (iC ((Kd.cZ (Kd.dM (p:=⟨j7,1,none⟩) (Kd.dM (p:=⟨j7,0,none⟩) (Kd.eF jl.out j8.out (by decide)) (fun _ hk=>hk.2) (.slice jb ja.length jc)) (fun _ hk=>hk.2) (.slice qD jJ.length qE)) (fun _ h_=>h_.1)))) (by decide)) hk (fun _ h=>h.2)) (fun _ h=>h.1));replace jm:=am (Kd.aD (Kd.kM (Kd.aD (ok:=fun k_=>((((w.heap.size≤k_))∧(some k_≠(.slice jb ja.length jc:Value).ownBlock∧(k_≠j6∧k_≠g)))∧k_≠j7)) (eO ((Kd.aD (Kd.aT (p:=⟨j7,1,none⟩) (Kd.aT (p:=⟨j7,0,none⟩) (Kd.aD jm.out (fun k_ hk=>(⟨hk,hk.2⟩:_∧k_≠j7))) (fun _ hk=>hk.2) (.slice jb ja.length jc)) (fun _ hk=>hk.2) (.slice qD jJ.length qE)) (fun _ h_=>h_.1)))) (fun k_ hk_=>(⟨hk_,hk_.1.2.2.2⟩:_∧k_≠g))) hk (fun _ h=>h.2)) (fun _ h=>h.1));replace j8:=am (aI.blk hk (g':=j7) (o:= .cells #[.slice jb ja.length jc, .slice qD jJ.length qE] 46 (0,0)) (aM (aM j8.out 0 _ rfl) 1 _ rfl) jh.out (by simp));replace HK:=am (aI.trans lM hk (.inl rfl));replace HB:=am (hb);replace HI0:=am (hi);(try clear hb);(try clear hk);(try clear hi)))
 go_loopg [5] k (fun kq v5 w'=>∃ (jv:Int) (jf:Int) (j5:List (List (S35))) (u838001:Value),v5= .int .i64 jv∧Aside0 (cK.l0 kq (wrap64 (1 + jK)) jv jd jf ja j5=some (r1,r2,r3))∧Aside0 (kq≤k)∧Aside0 (Kd.R (Kd.int .i64) 3 w' w.heap.size (fun k_=>(w.heap.size≤k_)) (.slice jb ja.length jc) ja)∧Aside0 (Kd.N (Kd.slice 35 k35) 23 w' w.heap.size (fun k_=>(w.heap.size≤k_)∧some k_≠((.slice jb ja.length jc):Value).ownBlock∧k_≠j6∧k_≠j7∧k_≠g) u838001 j5)∧Aside0 (TF w' w.heap.size (fun k_=>(w.heap.size≤k_)∧some k_≠((.slice jb ja.length jc):Value).ownBlock∧k_≠j6∧k_≠j7∧k_≠g) u838001 j5)∧Aside0 (w'.heap[j6]?=some (.cells #[(.slice none 0 0),(.slice none 0 0)] 46 (0,0)))∧Aside0 (w'.heap[j7]?=some (.cells #[(.slice jb ja.length jc),u838001] 46 (0,0)))∧Aside0 (aQ w0 w' g jd jf)∧Aside0 (aI w w' g none)∧Aside0 (Below w0.heap.size w0 w'))
 case atStart=>exact ⟨(0),(qj),(jJ),(.slice qD jJ.length qE),sd_,H',⟨Nat.le_refl _⟩,⟨iC (Kd.cZ jl.out (fun _ hk=>hk.1))⟩,⟨eO (Kd.aD jm.out (fun _ hk=>⟨hk.1.1,⟨hk.1.2.1,⟨hk.1.2.2.1,⟨hk.2,hk.1.2.2.2⟩⟩⟩⟩))⟩,⟨aBm jO.out (eO (Kd.aD jm.out (fun _ hk=>⟨hk.1.1,⟨hk.1.2.1,⟨hk.1.2.2.1,⟨hk.2,hk.1.2.2.2⟩⟩⟩⟩)))⟩,⟨by (with_reducible repeat (first|refine dQ ?_ _|refine bT ?_|refine dF ?_ _));exact j9.out⟩,⟨by (with_reducible repeat (first|refine dQ ?_ _|refine bT ?_|refine dF ?_ _));exact j8.out⟩,⟨mV⟩,⟨lM⟩,⟨wF⟩⟩
 case round=>
  clear H'
  try clear jQ
  try clear jR
  try clear jS
  try clear jT
  obtain ⟨jv,jf,j5,u838001,rfl,HA,z8,j4,j3,HT,j9,j8,HI0,HK,HB⟩:=hrel
  cases gk with
  |zero=>exact absurd HA.out (by simp [cK.l0])
  |succ k1=>
   have H:=HA.out
   clear HA
   simp only [cK.l0] at H
   by_cases qi:jv < (wrap64 (1 + jK))
   ·rw [if_pos qi] at H
    have qk:decide (jv < (wrap64 (1 + jK)))=true:=decide_eq_true qi
    clear qi
    obtain ⟨⟨jU,qd⟩,zt,H⟩:=bsa H
    (try dsimp only at H)
    by_cases qF:j5.length < 5864062014805
    ·rw [if_pos qF] at H
     have ql:=am qF
     clear qF
     obtain ⟨jL,hy_⟩:∃ y_:List (List (S35)),y_=(j5 ++ [jU]):=⟨_,rfl⟩
     replace H:(cK.l0 k1 (wrap64 (1 + jK)) (wrap64 (jv + 1)) jd qd ja jL)=some (r1,r2,r3):=rx_
     have qm:=am hy_
     clear hy_
     have H':=am H
     clear H
     try go_wp2
     replace j4:=am (Kd.vC j4.out)
     replace j3:=am (Kd.nO j3.out)
     replace j9:=am (bT j9.out)
     replace j8:=am (bT j8.out)
     replace HI0:=am (aQ.drew HI0.out)
     replace HK:=am (gW HK.out)
     replace HB:=am (bG HB.out)
     refine mR (n:=11) (S:=fun w'=>w'.cell? ⟨j7,0,none⟩=some (.slice jb ja.length jc)∧w'.cell? ⟨j7,1,none⟩=some (u838001)) (ds:=[10]) (bz 11 0) (by kernel_rfl) rfl rfl ⟨(aA j8.out 0).trans rfl,(aA j8.out 1).trans rfl⟩ (fun hHeld=>?_);refine kE cK.CJ cK.uW (fun HT_ HW_=>?_)
     have nT_:=am (pU HT.out)
     clear HT
     have HT:=nT_
     clear nT_
     generalize wr.drew=qG at j4 j3 HT j9 j8 HI0 HK HB hHeld ⊢
     refine pr_ 0 18 (bz 11 1) HT_ ?_
     refine pr_ 2 20 (bz 11 5) HT_ ?_
     refine pr_ 3 21 (bz 11 13) HT_ ?_
     refine RZ 1 19 (bz 11 15) HT_ HW_ hHeld ?_
     refine RZ 4 22 (bz 11 31) HT_ HW_ hHeld ?_
     refine pr_ 5 23 (bz 11 63) HT_ ?_
     refine lH (i:=6) (N:=some 24) (bz 11 127) rfl rfl (gG HT_.out (by kernel_rfl)) (by decide) (fun K hK=>?_)
     refine kU Try.func73 (by kernel_rfl) rfl #[.pointer (some ⟨g,0,none⟩), .int .i64 (ja.length:Int)] (by rfl) rfl rfl nX ?_
     with_reducible refine (eH.calls k1 g jd jf (ja.length:Int) jU qd w0 _ ?side1 ?side2 zt.out).mono ?_
     (case side1=>exact mV)
     (case side2=>exact wF)
     rintro e zF ⟨zu,rfl,ho0,hi,hb,hk⟩
     refine ⟨_,rfl,?_⟩
     have jn:=am (Kd.cZ (Kd.mF (aQ.apart (show aQ w0 _ g jd jf from mV) (aR_ j4.out) (by decide)) hk (fun _ h=>h.2)) (fun _ h=>h.1))
     have jo:=am (Kd.aD (Kd.gZ (Kd.uP (Kd.aD (ok:=fun k_=>(((w.heap.size≤k_))∧(some k_≠(.slice jb ja.length jc:Value).ownBlock∧(k_≠j6∧(k_≠j7∧k_≠g))))) (aN_ j3.out) (fun k_ hk_=>(⟨hk_,hk_.2.2.2.2⟩:_∧k_≠g))) hk) (by first|exact Kd.dL ho0|exact Kd.dL (Kd.R_N ho0))) (fun _ h_=>h_.1))
     have nT_:=am (show TF _ w.heap.size (fun k_=>((w.heap.size≤k_)∧some k_≠((.slice jb ja.length jc):Value).ownBlock∧k_≠j6∧k_≠j7∧k_≠g)∧k_ < qG.heap.size) u838001 j5 from (PI (lD (ok:=fun k_=>(((w.heap.size≤k_))∧(some k_≠(.slice jb ja.length jc:Value).ownBlock∧(k_≠j6∧(k_≠j7∧k_≠g))))) (by (with_reducible repeat (first|apply pR|apply pV|apply pU));exact HT.out) (fun k_ hk_=>(⟨hk_,hk_.2.2.2.2⟩:_∧k_≠g))) hk))
     clear HT
     have HT:=nT_
     clear nT_
     have jp:=am (aI.blk hk (g':=j6) (o:= .cells #[.slice none 0 0, .slice none 0 0] 46 (0,0)) (aG_ j9.out) jg.out (by simp))
     have jq:=am (aI.blk hk (g':=j7) (o:= .cells #[.slice jb ja.length jc,u838001] 46 (0,0)) (aG_ j8.out) jh.out (by simp))
     have jr:=am (Kd.dH (Kd.aD (ok':=fun k_=>(w.heap.size≤k_)∧some k_≠(.slice jb ja.length jc:Value).ownBlock∧some k_≠(u838001:Value).ownBlock∧k_≠j6∧k_≠j7∧k_≠g) ho0 (fun k_ hk_=>⟨(Nat.le_trans (aW (w:=w) (g:=g) (row:=none) lM) hk_),(Kd.fresh' (Kd.iY (aR_ j4.out)) k_ hk_),(Kd.fresh' (Kd.iH (aN_ j3.out)) k_ hk_),(fG j9.out k_ hk_),(fG j8.out k_ hk_),(aQ.fresh mV k_ hk_)⟩)) (aW (w:=w) (g:=g) (row:=none) lM))
     have HE0:=am (Kd.dH (Kd.aD (ok':=fun k_=>((w.heap.size≤k_)∧some k_≠(.slice jb ja.length jc:Value).ownBlock∧some k_≠(u838001:Value).ownBlock∧k_≠j6∧k_≠j7∧k_≠g)∧qG.heap.size≤k_) ho0 (fun k_ hk_=>⟨⟨(Nat.le_trans (aW (w:=w) (g:=g) (row:=none) lM) hk_),(Kd.fresh' (Kd.iY (aR_ j4.out)) k_ hk_),(Kd.fresh' (Kd.iH (aN_ j3.out)) k_ hk_),(fG j9.out k_ hk_),(fG j8.out k_ hk_),(aQ.fresh mV k_ hk_)⟩,hk_⟩)) (aW (w:=w) (g:=g) (row:=none) lM))
     have js:=am (aI.trans lM hk (.inl rfl))
     have jt:=am (hb)
     have q4:=am (hi)
     clear j4
     clear j3
     clear j9
     clear j8
     clear HK
     clear HB
     clear HI0
     have j4:=jn
     have j3:=jo
     have j9:=jp
     have j8:=jq
     have q5:=jr
     have HK:=js
     have HB:=jt
     have HI0:=q4
     clear jn jo jp jq jr js jt q4
     (try clear hb)
     (try clear hb2)
     (try clear hk)
     (try clear hi)
     (try clear ho0)
     obtain ⟨qY,qZ,qn⟩:=Kd.dD q5.out
     (first|subst qn|(injection qn with f1_ f2_ f3_;have f4_:=f1_.symm;have f5_:=f3_.symm;clear f1_ f2_ f3_;subst f4_;subst f5_))
     refine hK.out _ _ ⟨(aA j8.out 0).trans rfl,(aA j8.out 1).trans rfl⟩ (fun hHeld=>?_)
     clear hK K
     refine fB (a':=?_) ?_ ?_
     rotate_left
     ·show Act.put _ (some 24) _=_
      simp only [Act.put,List.setIfInBounds_toArray,List.set_cons_zero,List.set_cons_succ,dS,dV]
      rfl
     refine lH (i:=7) (N:=some 25) (bz 11 255) rfl rfl (gG HT_.out (by kernel_rfl)) (by decide) (fun K hK=>?_)
     refine CO (w1:=?_) (v:=?_) (by rfl) rfl ?_ ?_
     rotate_left 2
     ·go_simp
      constructor
      ·rfl
      ·rfl
     refine hK.out _ _ ⟨(aA (dF j8.out _) 0).trans rfl,(aA (dF j8.out _) 1).trans rfl⟩ (fun hHeld=>?_)
     clear hK K
     refine fB (a':=?_) ?_ ?_
     rotate_left
     ·show Act.put _ (some 25) _=_
      simp only [Act.put,List.setIfInBounds_toArray,List.set_cons_zero,List.set_cons_succ,dS,dV]
      rfl
     refine lH (i:=8) (N:=some 26) (bz 11 511) rfl rfl (gG HT_.out (by kernel_rfl)) (by decide) (fun K hK=>?_)
     refine ED w.heap.size (by rfl) (.tmp 19) (.tmp 25) 44 (.slice none 0 0) 24 rfl Try.underlying44 ET rfl (by omega) u838001 (.slice qY jU.length qZ) j5 jU (fun k_=>(w.heap.size≤k_)∧some k_≠((.slice jb ja.length jc):Value).ownBlock∧k_≠j6∧k_≠j7∧k_≠g) (fun k_=>((w.heap.size≤k_)∧some k_≠((.slice jb ja.length jc):Value).ownBlock∧k_≠j6∧k_≠j7∧k_≠g)∧k_ < qG.heap.size) (fun k_=>((w.heap.size≤k_)∧some k_≠(.slice jb ja.length jc:Value).ownBlock∧some k_≠(u838001:Value).ownBlock∧k_≠j6∧k_≠j7∧k_≠g)∧qG.heap.size≤k_) rfl rfl HE0.out ?aP (fun _ hk=>hk.1) (fun _ h0 h1=>absurd h1.2 (Nat.not_le.mpr h0.2)) ?aF ?aO (Below.refl _ _) ?aS ?aL ?_
     (case aP=>exact (fun k_ hk=>⟨⟨hk.1.1,hk.1.2.1,hk.1.2.2.2.1,hk.1.2.2.2.2.1,hk.1.2.2.2.2.2⟩,hk.1.2.2.1⟩))
     (case aF=>exact (fun k_ hk=>⟨(Nat.le_trans (aW (w:=w) (g:=g) (row:=none) lM) hk),Kd.fresh' (Kd.iY (aR_ j4.out)) k_ hk,fG j9.out k_ hk,fG j8.out k_ hk,aQ.fresh mV k_ hk⟩))
     (case aO=>exact HT.out)
     (case aS=>exact (aW (w:=w) (g:=g) (row:=none) lM))
     (case aL=>have:=ql.out;omega)
     intro zv zw hot hb hg hat
     have ho:=BP hot
     rw [← qm.out] at ho hot
     clear HT HE0
     have HT:=am hot
     clear hot
     replace j4:=am (Kd.wW (aR_ j4.out) (Kd.vB (aN_ j3.out)) (by decide) hg)
     replace j9:=am (gV (g:=j6) (o:= .cells #[.slice none 0 0, .slice none 0 0] 46 (0,0)) (aG_ j9.out) hg (Kd.BN j3.out j9.out (by decide)))
     replace j8:=am (gV (g:=j7) (o:= .cells #[.slice jb ja.length jc,u838001] 46 (0,0)) (aG_ j8.out) hg (Kd.BN j3.out j8.out (by decide)))
     replace HB:=am (nA wF HL.out hb)
     replace HI0:=am (aQ.grown mV hg (aQ.BD HI0.out j3.out (by decide)))
     replace HK:=am (aI.trans lM (aI.oF hg g) (Kd.DT j3.out))
     have q6:=am (ho)
     clear j3 q5
     clear ho hb hg hat
     obtain ⟨jV,jW,qo⟩:=Kd.dD q6.out
     (first|subst qo|(injection qo with f1_ f2_ f3_;have f4_:=f1_.symm;have f5_:=f3_.symm;clear f1_ f2_ f3_;subst f4_;subst f5_))
     refine hK.out _ _ ⟨(aA j8.out 0).trans rfl,(aA j8.out 1).trans rfl⟩ (fun hHeld=>?_)
     clear hK K
     refine fB (a':=?_) ?_ ?_
     rotate_left
     ·show Act.put _ (some 26) _=_
      simp only [Act.put,List.setIfInBounds_toArray,List.set_cons_zero,List.set_cons_succ,dS,dV]
      rfl
     refine pr_ 9 27 (bz 11 1023) HT_ ?_
     refine wN (i:=10) (N:=none) (bz 11 2047) rfl rfl (gG HT_.out (by kernel_rfl)) (by decide) (fun K hK=>?_)
     have zx:zw.cell? ⟨j7,1,none⟩=some (u838001):=(aA j8.out 1).trans rfl
     have hfs23:=aU j8.out 1
     have hns23_0:=je.out
     have hms23_0:=jj.out
     refine rO (w1:=?_) (by rfl) rfl ?_ ?_
     rotate_left
     ·go_simp
      rfl
     refine hK.out _ _ ?_
     clear hK K
     refine pE (lV HT_.out (by kernel_rfl)) ?_
     try go_wp2
     go_roundg k1
     case measure=>have:=z8.out;omega
     case rel=>exact ⟨(wrap64 (jv + 1)),(qd),(jL),(.slice jV jL.length jW),sd_,H',⟨by have:=z8.out;omega⟩,⟨iC (Kd.cZ (Kd.dM (p:=⟨j7,1,none⟩) (Kd.eF j4.out j8.out (by decide)) (fun _ hk=>hk.2) (.slice jV jL.length jW)) (fun _ hk=>hk.1))⟩,⟨eO (Kd.aD (Kd.aT (p:=⟨j7,1,none⟩) (Kd.aD q6.out (fun k_ hk=>(⟨hk,hk.2.2.2.1⟩:_∧k_≠j7))) (fun _ hk=>hk.2) (.slice jV jL.length jW)) (fun _ hk=>⟨hk.1.1,⟨hk.1.2.1,⟨hk.1.2.2.1,⟨hk.1.2.2.2.1,hk.1.2.2.2.2⟩⟩⟩⟩))⟩,⟨by (with_reducible repeat (first|apply pR|apply pV|apply pU));exact lD (yL (p:=⟨j7,1,none⟩) (lD HT.out (fun k_ hk=>(⟨hk,hk.2.2.2.1⟩:_∧k_≠j7))) (fun _ hk=>hk.2) (.slice jV jL.length jW)) (fun _ hk=>⟨hk.1.1,⟨hk.1.2.1,⟨hk.1.2.2.1,⟨hk.1.2.2.2.1,hk.1.2.2.2.2⟩⟩⟩⟩)⟩,⟨(aZ j9.out je.out _)⟩,⟨(aM j8.out 1 _ rfl)⟩,⟨mV⟩,⟨lM⟩,⟨wF⟩⟩
    rw [if_neg qF] at H
    exact absurd H (by simp)
   rw [if_neg qi] at H
   have qk:decide (jv < (wrap64 (1 + jK)))=false:=decide_eq_false qi
   clear qi
   obtain ⟨⟨jx,jX⟩,z9,H⟩:=bsa H
   (try dsimp only at H)
   by_cases qe:jx=0
   ·rw [if_pos qe] at H
    have qp:(jx == 0)=true:=beq_iff_eq.mpr qe
    have qq:(jx != 0)=false:=bne_eq_false_iff_eq.mpr qe
    clear qe
    obtain ⟨⟨jy,jz,jA,jB,jC,jD,jE,jF,jY⟩,zy,H⟩:=bsa H
    (try dsimp only at H)
    obtain ⟨jk,hy_⟩:∃ y_:List (S35),y_=(([(⟨jy,jz,jA,(⟨jB,jC,jD⟩:S32),jE,jF⟩:S35)]:List (S35))):=⟨_,rfl⟩
    replace H:(if 0 < (j5.length:Int) then (some (ja,(j5.set (0:Int).toNat jk),jY)) else (none))=some (r1,r2,r3):=rx_
    have q7:=am hy_
    clear hy_
    by_cases qH:0 < (j5.length:Int)
    ·rw [if_pos qH] at H
     have za:decide (0 < (j5.length:Int))=true:=decide_eq_true qH
     have zb:decide (0 < j5.length)=true:=decide_eq_true (by omega)
     clear qH
     obtain ⟨qf,hy_⟩:∃ y_:List (List (S35)),y_=(j5.set (0:Int).toNat jk):=⟨_,rfl⟩
     replace H:(some (ja,qf,jY))=some (r1,r2,r3):=rx_
     have q8:=am hy_
     clear hy_
     simp only [Option.some.injEq,Prod.mk.injEq] at H
     obtain ⟨rfl,rfl,rfl⟩:=H
     try go_wp2_with (first|((with_reducible refine aN (f:=41) rfl ?_);refine gl_ 29 Try.func41 #[.pointer (some ⟨g,0,none⟩), .int .i64 16] ?_;(with_reducible refine (aH.calls k1 g jd jf 16 jx jX w0 _ ?side1 ?side2 z9.out).mono ?_);(case side1=>exact mV);(case side2=>exact wF);rintro e zz ⟨rfl,hi,hb,hk⟩;refine ⟨_,rfl,?_⟩;have jn:=am (Kd.cZ (Kd.mF (aQ.apart (show aQ w0 _ g jd jf from mV) (aR_ j4.out) (by decide)) hk (fun _ h=>h.2)) (fun _ h=>h.1));have jo:=am (Kd.aD (Kd.kM (Kd.aD (ok:=fun k_=>(((w.heap.size≤k_))∧(some k_≠(.slice jb ja.length jc:Value).ownBlock∧(k_≠j6∧(k_≠j7∧k_≠g))))) (aN_ j3.out) (fun k_ hk_=>(⟨hk_,hk_.2.2.2.2⟩:_∧k_≠g))) hk (fun _ h=>h.2)) (fun _ h=>h.1));have nT_:=am (lD (DU (lD (ok:=fun k_=>(((w.heap.size≤k_))∧(some k_≠(.slice jb ja.length jc:Value).ownBlock∧(k_≠j6∧(k_≠j7∧k_≠g))))) (by (with_reducible repeat (first|apply pR|apply pV|apply pU));exact HT.out) (fun k_ hk_=>(⟨hk_,hk_.2.2.2.2⟩:_∧k_≠g))) hk (fun _ h=>h.2)) (fun _ h=>h.1));clear HT;have HT:=nT_;clear nT_;have jp:=am (aI.blk hk (g':=j6) (o:= .cells #[.slice none 0 0, .slice none 0 0] 46 (0,0)) (aG_ j9.out) jg.out (by simp));have jq:=am (aI.blk hk (g':=j7) (o:= .cells #[.slice jb ja.length jc,u838001] 46 (0,0)) (aG_ j8.out) jh.out (by simp));have jr:=am (aI.trans lM hk (.inl rfl));have js:=am (hb);have jt:=am (hi);clear j4 j3 j9 j8 HK HB HI0;have j4:=jn;have j3:=jo;have j9:=jp;have j8:=jq;have HK:=jr;have HB:=js;have HI0:=jt;clear jn jo jp jq jr js jt;(try clear hb);(try clear hk);(try clear hi)))
     replace j4:=am (Kd.vC j4.out)
     replace j3:=am (Kd.nO j3.out)
     replace j9:=am (bT j9.out)
     replace j8:=am (bT j8.out)
     replace HI0:=am (aQ.drew HI0.out)
     replace HK:=am (gW HK.out)
     replace HB:=am (bG HB.out)
     refine mR (n:=7) (S:=fun w'=>w'.cell? ⟨j7,0,none⟩=some (.slice jb ja.length jc)∧w'.cell? ⟨j7,1,none⟩=some (u838001)) (ds:=[6]) (bz 7 0) (by kernel_rfl) rfl rfl ⟨(aA j8.out 0).trans rfl,(aA j8.out 1).trans rfl⟩ (fun hHeld=>?_)
     have nT_:=am (pU HT.out)
     clear HT
     have HT:=nT_
     clear nT_
     generalize zz.drew=jM at j4 j3 HT j9 j8 HI0 HK HB hHeld ⊢
     refine DC (i:=0) (N:=some 31) (v:=?_) (a':=?_) (bz 7 1) rfl rfl (by kernel_rfl) (fun _ _ _ h=>h) (Or.inl ⟨by rfl,?_⟩) ?_ ?_
     rotate_left
     ·intro w'
      go_simp
      with_reducible rfl
     rotate_left
     ·simp only [Act.put,List.setIfInBounds_toArray,List.set_cons_zero,List.set_cons_succ,dS,dV]
      rfl
     refine DC (i:=2) (N:=some 33) (v:=?_) (a':=?_) (bz 7 5) rfl rfl (by kernel_rfl) (fun _ _ _ h=>h) (Or.inl ⟨by rfl,?_⟩) ?_ ?_
     rotate_left
     ·intro w'
      go_simp
      with_reducible rfl
     rotate_left
     ·simp only [Act.put,List.setIfInBounds_toArray,List.set_cons_zero,List.set_cons_succ,dS,dV]
      rfl
     refine uM (i:=1) (N:=some 32) (v:=?_) (a':=?_) (bz 7 7) rfl rfl (by kernel_rfl) (fun _ _ _ h=>h) (Or.inl ⟨by rfl,?_⟩) hHeld ?_ ?_
     rotate_left
     ·rintro w' ⟨s0,s1⟩
      go_simp
      with_reducible rfl
     rotate_left
     ·simp only [Act.put,List.setIfInBounds_toArray,List.set_cons_zero,List.set_cons_succ,dS,dV]
      rfl
     refine lH (i:=3) (N:=some 34) (bz 7 15) rfl rfl (by kernel_rfl) (by decide) (fun K hK=>?_)
     refine kU Try.func74 (by kernel_rfl) rfl #[.pointer (some ⟨g,0,none⟩)] (by rfl) rfl rfl nX ?_
     with_reducible refine (gY.calls k1 g jd jX jy jz jA jB jC jD jE jF jY w0 _ ?side1 ?side2 zy.out).mono ?_
     (case side1=>exact mV)
     (case side2=>exact wF)
     rintro e zA ⟨jZ,q0,q1,rfl,ho0,ho1,ho2,hi,hb,hk⟩
     refine ⟨_,rfl,?_⟩
     have jn:=am (Kd.cZ (Kd.mF (aQ.apart (show aQ w0 _ g jd jX from mV) (aR_ j4.out) (by decide)) hk (fun _ h=>h.2)) (fun _ h=>h.1))
     have jo:=am (Kd.aD (Kd.gZ (Kd.gZ (Kd.gZ (Kd.uP (Kd.aD (ok:=fun k_=>(((w.heap.size≤k_))∧(some k_≠(.slice jb ja.length jc:Value).ownBlock∧(k_≠j6∧(k_≠j7∧k_≠g))))) (aN_ j3.out) (fun k_ hk_=>(⟨hk_,hk_.2.2.2.2⟩:_∧k_≠g))) hk) (by first|exact Kd.dL ho0|exact Kd.dL (Kd.R_N ho0))) (Kd.dL ho1)) (Kd.dL ho2)) (fun _ h_=>h_.1))
     have nT_:=am (show TF _ w.heap.size (fun k_=>((w.heap.size≤k_)∧some k_≠((.slice jb ja.length jc):Value).ownBlock∧k_≠j6∧k_≠j7∧k_≠g)∧k_ < jM.heap.size) u838001 j5 from (PI (lD (ok:=fun k_=>(((w.heap.size≤k_))∧(some k_≠(.slice jb ja.length jc:Value).ownBlock∧(k_≠j6∧(k_≠j7∧k_≠g))))) (by (with_reducible repeat (first|apply pR|apply pV|apply pU));exact HT.out) (fun k_ hk_=>(⟨hk_,hk_.2.2.2.2⟩:_∧k_≠g))) hk))
     clear HT
     have HT:=nT_
     clear nT_
     have HS:=am (aW (w:=jM) (g:=g) (row:=none) hk)
     have jp:=am (aI.blk hk (g':=j6) (o:= .cells #[.slice none 0 0, .slice none 0 0] 46 (0,0)) (aG_ j9.out) jg.out (by simp))
     have jq:=am (aI.blk hk (g':=j7) (o:= .cells #[.slice jb ja.length jc,u838001] 46 (0,0)) (aG_ j8.out) jh.out (by simp))
     have jr:=am (Kd.dH (Kd.aD (ok':=fun k_=>(w.heap.size≤k_)∧some k_≠(q0:Value).ownBlock∧some k_≠(q1:Value).ownBlock∧some k_≠(.slice jb ja.length jc:Value).ownBlock∧some k_≠(u838001:Value).ownBlock∧k_≠j6∧k_≠j7∧k_≠g) ho0 (fun k_ hk_=>⟨(Nat.le_trans (aW (w:=w) (g:=g) (row:=none) lM) hk_.1),hk_.2.1,hk_.2.2,(Kd.fresh' (Kd.iY (aR_ j4.out)) k_ hk_.1),(Kd.fresh' (Kd.iH (aN_ j3.out)) k_ hk_.1),(fG j9.out k_ hk_.1),(fG j8.out k_ hk_.1),(aQ.fresh mV k_ hk_.1)⟩)) (aW (w:=w) (g:=g) (row:=none) lM))
     have HE0:=am (Kd.dH (Kd.aD (ok':=fun k_=>((w.heap.size≤k_)∧some k_≠(q0:Value).ownBlock∧some k_≠(q1:Value).ownBlock∧some k_≠(.slice jb ja.length jc:Value).ownBlock∧some k_≠(u838001:Value).ownBlock∧k_≠j6∧k_≠j7∧k_≠g)∧jM.heap.size≤k_) ho0 (fun k_ hk_=>⟨⟨(Nat.le_trans (aW (w:=w) (g:=g) (row:=none) lM) hk_.1),hk_.2.1,hk_.2.2,(Kd.fresh' (Kd.iY (aR_ j4.out)) k_ hk_.1),(Kd.fresh' (Kd.iH (aN_ j3.out)) k_ hk_.1),(fG j9.out k_ hk_.1),(fG j8.out k_ hk_.1),(aQ.fresh mV k_ hk_.1)⟩,hk_.1⟩)) (aW (w:=w) (g:=g) (row:=none) lM))
     have js:=am (Kd.dH (Kd.aD (ok':=fun k_=>(w.heap.size≤k_)∧some k_≠(jZ:Value).ownBlock∧some k_≠(q1:Value).ownBlock∧some k_≠(.slice jb ja.length jc:Value).ownBlock∧some k_≠(u838001:Value).ownBlock∧k_≠j6∧k_≠j7∧k_≠g) ho1 (fun k_ hk_=>⟨(Nat.le_trans (aW (w:=w) (g:=g) (row:=none) lM) hk_.1),hk_.2.1,hk_.2.2,(Kd.fresh' (Kd.iY (aR_ j4.out)) k_ hk_.1),(Kd.fresh' (Kd.iH (aN_ j3.out)) k_ hk_.1),(fG j9.out k_ hk_.1),(fG j8.out k_ hk_.1),(aQ.fresh mV k_ hk_.1)⟩)) (aW (w:=w) (g:=g) (row:=none) lM))
     have HE1:=am (Kd.dH (Kd.aD (ok':=fun k_=>((w.heap.size≤k_)∧some k_≠(jZ:Value).ownBlock∧some k_≠(q1:Value).ownBlock∧some k_≠(.slice jb ja.length jc:Value).ownBlock∧some k_≠(u838001:Value).ownBlock∧k_≠j6∧k_≠j7∧k_≠g)∧jM.heap.size≤k_) ho1 (fun k_ hk_=>⟨⟨(Nat.le_trans (aW (w:=w) (g:=g) (row:=none) lM) hk_.1),hk_.2.1,hk_.2.2,(Kd.fresh' (Kd.iY (aR_ j4.out)) k_ hk_.1),(Kd.fresh' (Kd.iH (aN_ j3.out)) k_ hk_.1),(fG j9.out k_ hk_.1),(fG j8.out k_ hk_.1),(aQ.fresh mV k_ hk_.1)⟩,hk_.1⟩)) (aW (w:=w) (g:=g) (row:=none) lM))
     have jt:=am (Kd.dH (Kd.aD (ok':=fun k_=>(w.heap.size≤k_)∧some k_≠(jZ:Value).ownBlock∧some k_≠(q0:Value).ownBlock∧some k_≠(.slice jb ja.length jc:Value).ownBlock∧some k_≠(u838001:Value).ownBlock∧k_≠j6∧k_≠j7∧k_≠g) ho2 (fun k_ hk_=>⟨(Nat.le_trans (aW (w:=w) (g:=g) (row:=none) lM) hk_.1),hk_.2.1,hk_.2.2,(Kd.fresh' (Kd.iY (aR_ j4.out)) k_ hk_.1),(Kd.fresh' (Kd.iH (aN_ j3.out)) k_ hk_.1),(fG j9.out k_ hk_.1),(fG j8.out k_ hk_.1),(aQ.fresh mV k_ hk_.1)⟩)) (aW (w:=w) (g:=g) (row:=none) lM))
     have HE2:=am (Kd.dH (Kd.aD (ok':=fun k_=>((w.heap.size≤k_)∧some k_≠(jZ:Value).ownBlock∧some k_≠(q0:Value).ownBlock∧some k_≠(.slice jb ja.length jc:Value).ownBlock∧some k_≠(u838001:Value).ownBlock∧k_≠j6∧k_≠j7∧k_≠g)∧jM.heap.size≤k_) ho2 (fun k_ hk_=>⟨⟨(Nat.le_trans (aW (w:=w) (g:=g) (row:=none) lM) hk_.1),hk_.2.1,hk_.2.2,(Kd.fresh' (Kd.iY (aR_ j4.out)) k_ hk_.1),(Kd.fresh' (Kd.iH (aN_ j3.out)) k_ hk_.1),(fG j9.out k_ hk_.1),(fG j8.out k_ hk_.1),(aQ.fresh mV k_ hk_.1)⟩,hk_.1⟩)) (aW (w:=w) (g:=g) (row:=none) lM))
     have q4:=am (aI.trans lM hk (.inl rfl))
     have zc:=am (hb)
     have zd:=am (hi)
     clear j4
     clear j3
     clear j9
     clear j8
     clear HK
     clear HB
     clear HI0
     have j4:=jn
     have j3:=jo
     have j9:=jp
     have j8:=jq
     have q9:=jr
     have qa:=js
     have qb:=jt
     have HK:=q4
     have HB:=zc
     have HI0:=zd
     clear jn jo jp jq jr js jt q4 zc zd
     (try clear hb)
     (try clear hb2)
     (try clear hk)
     (try clear hi)
     (try clear ho0)
     (try clear ho1)
     (try clear ho2)
     obtain ⟨qr,qs,qt⟩:=Kd.dD q9.out
     (first|subst qt|(injection qt with f1_ f2_ f3_;have f4_:=f1_.symm;have f5_:=f3_.symm;clear f1_ f2_ f3_;subst f4_;subst f5_))
     obtain ⟨qu,qv,qw⟩:=Kd.dD qa.out
     (first|subst qw|(injection qw with f1_ f2_ f3_;have f4_:=f1_.symm;have f5_:=f3_.symm;clear f1_ f2_ f3_;subst f4_;subst f5_))
     obtain ⟨qx,qy,qz⟩:=Kd.dD qb.out
     (first|subst qz|(injection qz with f1_ f2_ f3_;have f4_:=f1_.symm;have f5_:=f3_.symm;clear f1_ f2_ f3_;subst f4_;subst f5_))
     refine hK.out _ _ ⟨(aA j8.out 0).trans rfl,(aA j8.out 1).trans rfl⟩ (fun hHeld=>?_)
     clear hK K
     refine fB (a':=?_) ?_ ?_
     rotate_left
     ·show Act.put _ (some 34) _=_
      simp only [Act.put,List.setIfInBounds_toArray,List.set_cons_zero,List.set_cons_succ,dS,dV]
      rfl
     refine lH (i:=4) (N:=some 35) (bz 7 31) rfl rfl (by kernel_rfl) (by decide) (fun K hK=>?_)
     refine Kd.rP k35 _ 35 rfl (N':=35) rfl (xs:=([(⟨jy,jz,jA,(⟨jB,jC,jD⟩:S32),jE,jF⟩:S35)]:List (S35))) (inner:=[.int .i64 jy, .int .i64 jz, .int .i64 jA, .int .i64 jB, .int .i64 jC, .slice qr jD.length qs, .slice qu jE.length qv, .slice qx jF.length qy]) (ok:=(fun k_=>((w.heap.size≤k_)∧some k_≠(.slice jb ja.length jc:Value).ownBlock∧some k_≠(u838001:Value).ownBlock∧k_≠j6∧k_≠j7∧k_≠g)∧jM.heap.size≤k_)) (okp:=(fun k_=>((w.heap.size≤k_)∧some k_≠(.slice jb ja.length jc:Value).ownBlock∧some k_≠(u838001:Value).ownBlock∧k_≠j6∧k_≠j7∧k_≠g)∧jM.heap.size≤k_)) rn_ ?hp (fun _ hk=>hk) ⟨((show ∀ k_,zA.heap.size≤k_→(fun k_=>(w.heap.size≤k_)∧some k_≠(.slice jb ja.length jc:Value).ownBlock∧some k_≠(u838001:Value).ownBlock∧k_≠j6∧k_≠j7∧k_≠g) k_ from fun k_ hk=>⟨(Nat.le_trans (aW (w:=w) (g:=g) (row:=none) lM) hk),Kd.fresh' (Kd.iY (aR_ j4.out)) k_ hk,Kd.fresh' (Kd.iH (aN_ j3.out)) k_ hk,fG j9.out k_ hk,fG j8.out k_ hk,aQ.fresh mV k_ hk⟩) _ (Nat.le_refl _)),HS.out⟩ (Below.refl _ _) (Nat.le_refl _) (by simp) ?_;(case hp=>exact (eY.c8 (show Kd.FK k35 _ _ (⟨jy,jz,jA,(⟨jB,jC,jD⟩:S32),jE,jF⟩:S35) [.int .i64 jy, .int .i64 jz, .int .i64 jA, .int .i64 jB, .int .i64 jC, .slice qr jD.length qs, .slice qu jE.length qv, .slice qx jF.length qy] from (kY _ _ (⟨jy,jz,jA,(⟨jB,jC,jD⟩:S32),jE,jF⟩:S35) (Kd.bN (Kd.aD (ok':=(fun k_=>((w.heap.size≤k_)∧some k_≠(.slice jb ja.length jc:Value).ownBlock∧some k_≠(u838001:Value).ownBlock∧k_≠j6∧k_≠j7∧k_≠g)∧jM.heap.size≤k_)) (HE0.out) (fun k_ hk=>⟨⟨hk.1.1,⟨hk.1.2.2.2.1,⟨hk.1.2.2.2.2.1,⟨hk.1.2.2.2.2.2.1,⟨hk.1.2.2.2.2.2.2.1,hk.1.2.2.2.2.2.2.2⟩⟩⟩⟩⟩,hk.2⟩))).2.1 (Kd.N_F (Kd.aD (ok':=(fun k_=>((w.heap.size≤k_)∧some k_≠(.slice jb ja.length jc:Value).ownBlock∧some k_≠(u838001:Value).ownBlock∧k_≠j6∧k_≠j7∧k_≠g)∧jM.heap.size≤k_)) (HE0.out) (fun k_ hk=>⟨⟨hk.1.1,⟨hk.1.2.2.2.1,⟨hk.1.2.2.2.2.1,⟨hk.1.2.2.2.2.2.1,⟨hk.1.2.2.2.2.2.2.1,hk.1.2.2.2.2.2.2.2⟩⟩⟩⟩⟩,hk.2⟩))) (Kd.bN (Kd.aD (ok':=(fun k_=>((w.heap.size≤k_)∧some k_≠(.slice jb ja.length jc:Value).ownBlock∧some k_≠(u838001:Value).ownBlock∧k_≠j6∧k_≠j7∧k_≠g)∧jM.heap.size≤k_)) (HE1.out) (fun k_ hk=>⟨⟨hk.1.1,⟨hk.1.2.2.2.1,⟨hk.1.2.2.2.2.1,⟨hk.1.2.2.2.2.2.1,⟨hk.1.2.2.2.2.2.2.1,hk.1.2.2.2.2.2.2.2⟩⟩⟩⟩⟩,hk.2⟩))).2.1 (Kd.N_F (Kd.aD (ok':=(fun k_=>((w.heap.size≤k_)∧some k_≠(.slice jb ja.length jc:Value).ownBlock∧some k_≠(u838001:Value).ownBlock∧k_≠j6∧k_≠j7∧k_≠g)∧jM.heap.size≤k_)) (HE1.out) (fun k_ hk=>⟨⟨hk.1.1,⟨hk.1.2.2.2.1,⟨hk.1.2.2.2.2.1,⟨hk.1.2.2.2.2.2.1,⟨hk.1.2.2.2.2.2.2.1,hk.1.2.2.2.2.2.2.2⟩⟩⟩⟩⟩,hk.2⟩))) (Kd.bN (Kd.aD (ok':=(fun k_=>((w.heap.size≤k_)∧some k_≠(.slice jb ja.length jc:Value).ownBlock∧some k_≠(u838001:Value).ownBlock∧k_≠j6∧k_≠j7∧k_≠g)∧jM.heap.size≤k_)) (HE2.out) (fun k_ hk=>⟨⟨hk.1.1,⟨hk.1.2.2.2.1,⟨hk.1.2.2.2.2.1,⟨hk.1.2.2.2.2.2.1,⟨hk.1.2.2.2.2.2.2.1,hk.1.2.2.2.2.2.2.2⟩⟩⟩⟩⟩,hk.2⟩))).2.1 (Kd.N_F (Kd.aD (ok':=(fun k_=>((w.heap.size≤k_)∧some k_≠(.slice jb ja.length jc:Value).ownBlock∧some k_≠(u838001:Value).ownBlock∧k_≠j6∧k_≠j7∧k_≠g)∧jM.heap.size≤k_)) (HE2.out) (fun k_ hk=>⟨⟨hk.1.1,⟨hk.1.2.2.2.1,⟨hk.1.2.2.2.2.1,⟨hk.1.2.2.2.2.2.1,⟨hk.1.2.2.2.2.2.2.1,hk.1.2.2.2.2.2.2.2⟩⟩⟩⟩⟩,hk.2⟩))))) (eY.none _ _)))
     intro zB q2 ho36 hb hg_ hnew_
     clear hg_ hnew_
     (first|rw [← q7.out] at ho36|(simp only [Int.reduceToNat] at ho36;rw [← q7.out] at ho36))
     have jn:=am (Kd.dW (aR_ j4.out) hb)
     have jo:=am (Kd.fM (aN_ j3.out) (Kd.dL ho36) hb)
     have nT_:=am (wC HT.out hb)
     clear HT
     have HT:=nT_
     clear nT_
     have HP:=am (Kd.dH ho36 (aW (w:=w) (g:=g) (row:=none) lM))
     have jp:=am (Kd.dH (Kd.aD (ok':=fun k_=>(w.heap.size≤k_)∧some k_≠(.slice jb ja.length jc:Value).ownBlock∧some k_≠(u838001:Value).ownBlock∧k_≠j6∧k_≠j7∧k_≠g) ho36 (fun _ h_=>h_.1)) (aW (w:=w) (g:=g) (row:=none) lM))
     have jq:=bbP j9 hb
     have jr:=bbP j8 hb
     have js:=am (aQ.below mV hb)
     have jt:=am (aI.trans lM (aI.of_below hb g none) (.inl rfl))
     have q4:=am (aG wF hb)
     clear j4
     clear j3
     clear j9
     clear j8
     clear HI0
     clear HK
     clear HB
     clear q9
     clear qa
     clear qb
     have j4:=jn
     have j3:=jo
     have jP:=jp
     have j9:=jq
     have j8:=jr
     have HI0:=js
     have HK:=jt
     have HB:=q4
     clear jn jo jp jq jr js jt q4
     clear hb ho36
     obtain ⟨Aq_,cq_,rfl⟩:=Kd.dD jP.out
     have z0:0≤(0:Int):=(by omega)
     have z1:(0:Int) < ((j5.length:Int):Int):=of_decide_eq_true gL
     have zC:(0 < j5.length)=True:=eq_true (by omega)
     obtain ⟨ji,jw,qA,qB,gl28,cl28,qC⟩:=Kd.IZ j3.out (by omega)
     (first|cases qA|(injection qA with ea_ en_ ec_;(first|subst ea_|(injection ea_ with ea_;subst ea_));subst ec_;clear en_))
     have GB28:=am qB
     have z2:=am qC
     clear qB gl28 qC
     obtain ⟨ce28,hcl28,hM28,hcc28,hfr28⟩:=Kd.EA j3.out [] (0:Int) z0 z1
     obtain ⟨ua28_0,uc28_0,rfl,ul28_0,ge28_0⟩:=Kd.nZ hM28
     have jG:=hcc28 0 _ rfl
     have hf28_0:=hfr28 0
     (try simp only [show ((Kd.slice 35 k35)).sz=1 from rfl,Nat.mul_one,Nat.add_zero] at jG)
     (try simp only [show ((Kd.slice 35 k35)).sz=1 from rfl,Nat.mul_one,Nat.add_zero] at hf28_0)
     clear hcl28 hcc28 hfr28 hM28
     (try rw [show ((0:Int)).toNat=0 from rfl] at jG)
     (try simp only [Nat.reduceMul,Nat.zero_mul,Nat.zero_add,Nat.reduceAdd] at jG)
     (try rw [show ((0:Int)).toNat=0 from rfl] at hf28_0)
     (try simp only [Nat.reduceMul,Nat.zero_mul,Nat.zero_add,Nat.reduceAdd] at hf28_0)
     replace z0:=eq_true z0
     replace z1:=eq_true z1
     have HN0_go28:=am (show g≠ji from by have h_:=aQ.BD HI0.out j3.out (by decide);intro e_;exact h_ (by rw [e_];rfl))
     have jN:=am (show Kd.N (Kd.slice 35 k35) 23 _ w.heap.size (fun k_=>(w.heap.size≤k_)∧some k_≠(.slice jb ja.length jc:Value).ownBlock∧some k_≠((.slice Aq_ jk.length cq_):Value).ownBlock∧k_≠j6∧k_≠j7∧k_≠g) (.slice (some ⟨ji,0,none⟩) j5.length jw) j5 from (Kd.aD (j3.out) (fun k_ hk=>⟨hk.1.1.1.1.1,⟨hk.1.1.1.1.2.1,⟨hk.2,⟨hk.1.1.1.1.2.2.1,⟨hk.1.1.1.1.2.2.2.1,hk.1.1.1.1.2.2.2.2⟩⟩⟩⟩⟩)))
     replace jN:=am (show Kd.N (Kd.slice 35 k35) 23 _ w.heap.size (fun k_=>(w.heap.size≤k_)∧some k_≠(.slice jb ja.length jc:Value).ownBlock∧k_≠j6∧k_≠j7∧k_≠g) (.slice (some ⟨ji,0,none⟩) j5.length jw) j5 from Kd.aD jN.out (fun k_ hk=>⟨hk.1,⟨hk.2.1,⟨hk.2.2.2.1,⟨hk.2.2.2.2.1,hk.2.2.2.2.2⟩⟩⟩⟩))
     obtain ⟨ce37,hcl37,hM37,hcc37,hfr37⟩:=Kd.EA jN.out [] (0:Int) (by omega) (by have h_:(0:Int) < ((j5.length:Int):Int):=of_decide_eq_true gL;first|exact h_|(have e_:=(Kd.bN j3.out).1;omega)|simpa using h_)
     obtain ⟨ua37_0,uc37_0,rfl,ul37_0,ge37_0⟩:=Kd.nZ hM37
     have HP37:=(Kd.aCh jN.out (0:Int) (by omega) (by have h_:(0:Int) < ((j5.length:Int):Int):=of_decide_eq_true gL;first|exact h_|(have e_:=(Kd.bN j3.out).1;omega)|simpa using h_) (seg:=[(.slice Aq_ jk.length cq_)]) (j:=0) hcl37 hcc37 (show 1≤1 from by decide) (x':=jk) (Kd.kW (Kd.bN (Kd.aD (ok':=(fun k_=>((fun k_=>(w.heap.size≤k_)∧some k_≠(.slice jb ja.length jc:Value).ownBlock∧k_≠j6∧k_≠j7∧k_≠g)) k_∧k_≠ji)) (jP.out) (fun k_ hk=>⟨⟨hk.1,⟨hk.2.1,⟨hk.2.2.2.1,⟨hk.2.2.2.2.1,hk.2.2.2.2.2⟩⟩⟩⟩,fun e_=>(hk.2.2.1) (by rw [e_];rfl)⟩))).2.1 (Kd.N_F (Kd.aD (ok':=(fun k_=>((fun k_=>(w.heap.size≤k_)∧some k_≠(.slice jb ja.length jc:Value).ownBlock∧k_≠j6∧k_≠j7∧k_≠g)) k_∧k_≠ji)) (jP.out) (fun k_ hk=>⟨⟨hk.1,⟨hk.2.1,⟨hk.2.2.2.1,⟨hk.2.2.2.2.1,hk.2.2.2.2.2⟩⟩⟩⟩,fun e_=>(hk.2.2.1) (by rw [e_];rfl)⟩)))) (fun _ hk=>hk)).1
     (try simp only [show ((Kd.slice 35 k35)).sz=1 from rfl,Nat.mul_one,Nat.add_zero] at HP37)
     rw [← q8.out] at HP37
     have HTq:=aBn (ok:=(fun k_=>(w.heap.size≤k_)∧some k_≠((.slice jb ja.length jc):Value).ownBlock∧k_≠j6∧k_≠j7∧k_≠g)) HT.out (by have h_:(0:Int) < ((j5.length:Int):Int):=of_decide_eq_true gL;omega) HP.out (by exact fun k_ hk=>⟨⟨hk.1.1,hk.1.2.1,hk.1.2.2.2.1,hk.1.2.2.2.2.1,hk.1.2.2.2.2.2⟩,fun e_=>(hk.1.2.2.1) (by rw [e_];rfl)⟩) (by exact fun _ hk=>hk.1) (by exact fun _ h0 _ h1=>absurd h1.2 (Nat.not_le.mpr h0.2))
     rw [← q8.out] at HTq
     have HTQ:=am HTq
     clear HTq HT HP
     have HQ37:=am HP37
     clear hcl37 hcc37 hfr37 hM37 HP37
     refine hK.out _ _ ⟨(aA j8.out 0).trans rfl,(aA j8.out 1).trans rfl⟩ (fun hHeld=>?_)
     clear hK K
     refine fB (a':=?_) ?_ ?_
     rotate_left
     ·show Act.put _ (some 35) _=_
      simp only [Act.put,List.setIfInBounds_toArray,List.set_cons_zero,List.set_cons_succ,dS,dV]
      rfl
     refine DC (i:=5) (N:=some 36) (v:=?_) (a':=?_) (bz 7 63) rfl rfl (by kernel_rfl) (fun _ _ _ h=>h) (Or.inl ⟨by rfl,?_⟩) ?_ ?_
     rotate_left
     ·intro w'
      go_simp
      with_reducible rfl
     rotate_left
     ·simp only [Act.put,List.setIfInBounds_toArray,List.set_cons_zero,List.set_cons_succ,dS,dV]
      rfl
     refine wN (i:=6) (N:=none) (bz 7 127) rfl rfl (by kernel_rfl) (by decide) (fun K hK=>?_)
     refine rO (w1:=?_) (by rfl) rfl ?_ ?_
     rotate_left
     ·go_simp
      rfl
     refine hK.out _ _ ?_
     clear hK K
     refine pE (by kernel_rfl) ?_
     have jn:Aside0 (Kd.R (Kd.int .i64) 3 (q2.setCell ⟨ji,0,none⟩ (.slice Aq_ jk.length cq_)) w.heap.size (fun k_=>(w.heap.size≤k_)) (.slice jb ja.length jc) ja):=⟨iC (Kd.cZ (Kd.dM (p:=⟨ji,0,none⟩) (Kd.eF j4.out z2.out (by decide)) (fun _ hk=>hk.2) (.slice Aq_ jk.length cq_)) (fun _ hk=>hk.1))⟩
     have jo:Aside0 (Kd.N (Kd.slice 35 k35) 23 (q2.setCell ⟨ji,0,none⟩ (.slice Aq_ jk.length cq_)) w.heap.size (fun k_=>(w.heap.size≤k_)∧some k_≠(.slice jb ja.length jc:Value).ownBlock∧k_≠j6∧k_≠j7∧k_≠g) (.slice (some ⟨ji,0,none⟩) j5.length jw) qf):=⟨eO HQ37.out⟩
     have nT_:Aside0 (TF (q2.setCell ⟨ji,0,none⟩ (.slice Aq_ jk.length cq_)) w.heap.size (fun k_=>(w.heap.size≤k_)∧some k_≠(.slice jb ja.length jc:Value).ownBlock∧k_≠j6∧k_≠j7∧k_≠g) (.slice (some ⟨ji,0,none⟩) j5.length jw) qf):=⟨HTQ.out⟩
     have jp:Aside0 ((q2.setCell ⟨ji,0,none⟩ (.slice Aq_ jk.length cq_)).heap[j6]?=some (.cells #[.slice none 0 0, .slice none 0 0] 46 (0,0))):=⟨by (with_reducible repeat (first|refine dQ ?_ _|refine bT ?_|refine dF ?_ _));refine aZ ?_ (by have h_:=Kd.yF jN.out (fun _ hk=>hk.2.2.1);intro e_;exact h_ (by rw [e_];rfl)) _;(with_reducible repeat (first|refine dQ ?_ _|refine bT ?_|refine dF ?_ _));exact j9.out⟩
     have jq:Aside0 ((q2.setCell ⟨ji,0,none⟩ (.slice Aq_ jk.length cq_)).heap[j7]?=some (.cells #[.slice jb ja.length jc, .slice (some ⟨ji,0,none⟩) j5.length jw] 46 (0,0))):=⟨by (with_reducible repeat (first|refine dQ ?_ _|refine bT ?_|refine dF ?_ _));refine aZ ?_ (by have h_:=Kd.yF jN.out (fun _ hk=>hk.2.2.2.1);intro e_;exact h_ (by rw [e_];rfl)) _;(with_reducible repeat (first|refine dQ ?_ _|refine bT ?_|refine dF ?_ _));exact j8.out⟩
     have jr:Aside0 (aQ w0 (q2.setCell ⟨ji,0,none⟩ (.slice Aq_ jk.length cq_)) g jd jY):=⟨by repeat (first|(with_reducible first|exact HI0.out|apply aQ.alloc|apply aQ.drewN|apply aQ.drew|apply aQ.sJ|refine aQ.far ?_ HN0_go28.out _|refine aQ.far ?_ NB0_829.out _|refine aQ.far ?_ NB0_837.out _)|exact HI0.out)⟩
     have js:Aside0 (aI w (q2.setCell ⟨ji,0,none⟩ (.slice Aq_ jk.length cq_)) g none):=⟨by repeat (first|(with_reducible first|exact HK.out|apply aI.xK|apply iZ|apply gW|apply kR|refine iB ?_ GB28.out _|refine iB ?_ GW829.out _|refine iB ?_ GW837.out _)|exact HK.out)⟩
     have jt:Aside0 (Below w0.heap.size w0 (q2.setCell ⟨ji,0,none⟩ (.slice Aq_ jk.length cq_))):=⟨by repeat (first|(with_reducible first|exact HB.out|apply bO|apply bA|apply bG|refine below_set ?_ (Nat.le_trans HL.out GB28.out)|refine below_set ?_ (aQ.ge HI0.out)|refine below_set ?_ GE829.out|refine below_set ?_ GE837.out)|exact HB.out)⟩
     (try clear j4)
     (try clear j3)
     (try clear j9)
     (try clear j8)
     (try clear HI0)
     (try clear HK)
     (try clear HB)
     generalize (q2.setCell ⟨ji,0,none⟩ (.slice Aq_ jk.length cq_))=zG at nT_ jn jo jp jq jr js jt ⊢
     have HT:=nT_
     clear nT_
     have j4:=jn
     have j3:=jo
     have j9:=jp
     have j8:=jq
     have HI0:=jr
     have HK:=js
     have HB:=jt
     clear jn jo jp jq jr js jt
     have ze:=jj.out
     have zf:=je.out
     have zg:=jh.out
     have zh:=NB0_837.out
     obtain ⟨qI,qJ,qK,qL⟩:=fT j8.out
     have zi:=jg.out
     have zj:=NB0_829.out
     obtain ⟨qM,qN,qO,qP⟩:=fT j9.out
     try go_wp2
     refine bodyPost_ret (results_cell_row rfl _ _ j6 46 #[.slice jb ja.length jc, .slice (some ⟨ji,0,none⟩) j5.length jw] (0,0) _ rfl (aM (aM j9.out 0 _ rfl) 1 _ rfl) Try.underlying46 rfl (by kernel_rfl)) rfl ?_
     exact ⟨_,_,iM,iC (Kd.cZ (Kd.dM (p:=⟨j6,1,none⟩) (Kd.dM (p:=⟨j6,0,none⟩) (Kd.eF j4.out j9.out (by decide)) (fun _ hk=>hk.2) (.slice jb ja.length jc)) (fun _ hk=>hk.2) (.slice (some ⟨ji,0,none⟩) j5.length jw)) (fun _ hk=>hk.1)),by (with_reducible repeat (first|apply pR|apply pV|apply pU));exact lD (yL (p:=⟨j6,1,none⟩) (yL (p:=⟨j6,0,none⟩) (lD HT.out (fun k_ hk=>(⟨hk,hk.2.2.1⟩:_∧k_≠j6))) (fun _ hk=>hk.2) (.slice jb ja.length jc)) (fun _ hk=>hk.2) (.slice (some ⟨ji,0,none⟩) j5.length jw)) (fun _ hk=>⟨hk.1.1,hk.1.2.1⟩),mV,wF,lM⟩
    rw [if_neg qH] at H
    exact absurd H (by simp)
   rw [if_neg qe] at H
   have qp:(jx == 0)=false:=beq_eq_false_iff_ne.mpr qe
   have qq:(jx != 0)=true:=bne_iff_ne.mpr qe
   simp only [Option.some.injEq,Prod.mk.injEq] at H
   obtain ⟨rfl,rfl,rfl⟩:=H
   go_wp2_with (first|((with_reducible refine aN (f:=41) rfl ?_);refine gl_ 29 Try.func41 #[.pointer (some ⟨g,0,none⟩), .int .i64 16] ?_;(with_reducible refine (aH.calls k1 g jd jf 16 jx jX w0 _ ?side1 ?side2 z9.out).mono ?_);(case side1=>exact mV);(case side2=>exact wF);rintro e zH ⟨rfl,hi,hb,hk⟩;refine ⟨_,rfl,?_⟩;have jn:=am (Kd.cZ (Kd.mF (aQ.apart (show aQ w0 _ g jd jf from mV) (aR_ j4.out) (by decide)) hk (fun _ h=>h.2)) (fun _ h=>h.1));have jo:=am (Kd.aD (Kd.kM (Kd.aD (ok:=fun k_=>(((w.heap.size≤k_))∧(some k_≠(.slice jb ja.length jc:Value).ownBlock∧(k_≠j6∧(k_≠j7∧k_≠g))))) (aN_ j3.out) (fun k_ hk_=>(⟨hk_,hk_.2.2.2.2⟩:_∧k_≠g))) hk (fun _ h=>h.2)) (fun _ h=>h.1));have nT_:=am (lD (DU (lD (ok:=fun k_=>(((w.heap.size≤k_))∧(some k_≠(.slice jb ja.length jc:Value).ownBlock∧(k_≠j6∧(k_≠j7∧k_≠g))))) (by (with_reducible repeat (first|apply pR|apply pV|apply pU));exact HT.out) (fun k_ hk_=>(⟨hk_,hk_.2.2.2.2⟩:_∧k_≠g))) hk (fun _ h=>h.2)) (fun _ h=>h.1));clear HT;have HT:=nT_;clear nT_;have jp:=am (aI.blk hk (g':=j6) (o:= .cells #[.slice none 0 0, .slice none 0 0] 46 (0,0)) (aG_ j9.out) jg.out (by simp));have jq:=am (aI.blk hk (g':=j7) (o:= .cells #[.slice jb ja.length jc,u838001] 46 (0,0)) (aG_ j8.out) jh.out (by simp));have jr:=am (aI.trans lM hk (.inl rfl));have js:=am (hb);have jt:=am (hi);clear j4 j3 j9 j8 HK HB HI0;have j4:=jn;have j3:=jo;have j9:=jp;have j8:=jq;have HK:=jr;have HB:=js;have HI0:=jt;clear jn jo jp jq jr js jt;(try clear hb);(try clear hk);(try clear hi);have zk:=jj.out;have zl:=je.out;have zm:=jh.out;have zn:=NB0_837.out;obtain ⟨qQ,qR,qS,qT⟩:=fT j8.out;have zo:=jg.out;have zp:=NB0_829.out;obtain ⟨qU,qV,qW,qX⟩:=fT j9.out;obtain ⟨qg,qh,z3⟩:=Kd.dD j3.out;subst z3))
   refine bodyPost_ret (results_cell_row rfl _ _ j6 46 #[.slice jb ja.length jc, .slice qg j5.length qh] (0,0) _ rfl (aM (aM j9.out 0 _ rfl) 1 _ rfl) Try.underlying46 rfl (by kernel_rfl)) rfl ?_
   exact ⟨_,_,iM,iC (Kd.cZ (Kd.dM (p:=⟨j6,1,none⟩) (Kd.dM (p:=⟨j6,0,none⟩) (Kd.eF j4.out j9.out (by decide)) (fun _ hk=>hk.2) (.slice jb ja.length jc)) (fun _ hk=>hk.2) (.slice qg j5.length qh)) (fun _ hk=>hk.1)),by (with_reducible repeat (first|apply pR|apply pV|apply pU));exact lD (yL (p:=⟨j6,1,none⟩) (yL (p:=⟨j6,0,none⟩) (lD HT.out (fun k_ hk=>(⟨hk,hk.2.2.1⟩:_∧k_≠j6))) (fun _ hk=>hk.2) (.slice jb ja.length jc)) (fun _ hk=>hk.2) (.slice qg j5.length qh)) (fun _ hk=>⟨hk.1.1,hk.1.2.1⟩),mV,wF,lM⟩
theorem cK.calls (k:Nat) (g:Nat) (j3:List Int) (j4:Int) (r1:List Int) (r2:List (List (S35))) (r3:Int) (w0 w:World) (hI:aQ w0 w g j3 j4) (hB:Below w0.heap.size w0 w) (h:cK.f k j3 j4=some (r1,r2,r3)):
  Calls Try.prog 86 #[.pointer (some ⟨g,0,none⟩)] w fun e w'=>∃ v0_ v1_:Value,e= .returned (.agg #[v0_,v1_])∧Kd.R (Kd.int .i64) 3 w' w.heap.size (fun k_=>(w.heap.size≤k_)) v0_ r1∧Kd.N (Kd.slice 35 k35) 23 w' w.heap.size (fun k_=>(w.heap.size≤k_)∧some k_≠(v0_:Value).ownBlock) v1_ r2∧aQ w0 w' g j3 r3∧Below w0.heap.size w0 w'∧aI w w' g none:=
 (cK.callsT k g j3 j4 r1 r2 r3 w0 w hI hB h).mono fun _ _ ⟨v0_,v1_,he,h0,h1,h2⟩=>⟨v0_,v1_,he,h0,BP h1,h2⟩
theorem dN.mono:∀ a0 a1 k,LeO (dN.f k a0 a1) (dN.f (k + 1) a0 a1):=by
 intro a0 a1 k
 unfold dN.f
 have m0:=@aH.mono
 have m1:=@gT.mono
 have m2:=@cK.mono
 exact mo_
def dN.T4:Bool × List (List Nat × List Nat):=(true,[([],[]),([0],[0]),([],[]),([],[]),([3],[3]),([2,4],[2,4]),([5],[5]),([6],[6]),([1,7,4],[1,7]),([0,1,2,3,4,5,6,7,8],[]),([9,8,8,0,1,2,3,4,5,6,7,8],[8,9])])
def dN.B4:List Nat:=[0,1,0,0,8,28,60,124,255,511,1023]
theorem dN.aCs:lJ .any (opsOf Try.f57 4)=dN.T4:=by kernel_rfl
theorem dN.aCl:iW dN.T4.2 dN.B4=true:=by kernel_rfl
def dN.T6:Bool × List (List Nat × List Nat):=(true,[([],[]),([0],[0]),([],[]),([2],[2]),([3],[3]),([],[]),([5],[5]),([4,6],[4,6]),([7],[7]),([8],[8]),([1,9,6],[1,9]),([0,1,2,3,4,5,6,7,8,9,10],[]),([11,10,10,0,1,2,3,4,5,6,7,8,9,10],[10,11])])
def dN.B6:List Nat:=[0,1,0,4,12,0,32,124,252,508,1023,2047,4095]
theorem dN.CJ:lJ .any (opsOf Try.f57 6)=dN.T6:=by kernel_rfl
theorem dN.uW:iW dN.T6.2 dN.B6=true:=by kernel_rfl
def dN.T10:Bool × List (List Nat × List Nat):=(true,[([],[]),([0],[0]),([],[]),([2],[2]),([3],[3]),([4],[4]),([],[]),([6],[6]),([7],[7]),([8],[8]),([],[]),([10],[10]),([11],[11]),([12],[12]),([5,9,13],[5,9,13]),([1,14],[1,14]),([0,1,2,3,4,5,6,7,8,9,10,11,12,13,14,15],[]),([16,15,15,0,1,2,3,4,5,6,7,8,9,10,11,12,13,14,15],[15,16])])
def dN.B10:List Nat:=[0,1,0,4,12,28,0,64,192,448,0,1024,3072,7168,16380,32767,65535,131071]
theorem dN.aCr:lJ .any (opsOf Try.f57 10)=dN.T10:=by kernel_rfl
theorem dN.aBr:iW dN.T10.2 dN.B10=true:=by kernel_rfl
theorem RF {w:World} {base:Nat} {ok:Nat→Prop} {v:Value} {ts:List (List S35)} (h:TF w base ok v ts) (a:Nat) (ha:w.heap.size≤a):TF w base (fun k=>ok k∧k≠a) v ts:=lD (EF h) (fun k hk=>⟨hk.1,by have:=hk.2;omega⟩)
theorem SN {w:World} {base base':Nat} {ok:Nat→Prop} {v:Value} {ts:List (List S35)} (h:TF w base ok v ts) (hb:base'≤base):TF w base' ok v ts:=by
 obtain ⟨h0,P,rows,hl,hR,he,hf⟩:=h
 refine ⟨h0,P,rows,hl,Kd.kC hR hb,fun t c ht hc=>?_,hf⟩
 obtain ⟨u,rfl,hn⟩:=he t c ht hc
 exact ⟨u,rfl,Kd.dH hn hb⟩
def TG (W:World) (base:Nat) (ok:Nat→Prop) (s g n cap:Nat) (ts:List (List S35)) (u:Value) (t:List S35):Prop:=
 ok g∧∃ (ok1:Nat→Prop) (rows:List (List Value)),(∀ k,ok1 k→ok k∧k≠g)∧(∀ k,s≤k→ok1 k)∧rows.length=ts.length∧(Kd.raw 1).R 23 W base (fun k=>k=g) (.slice (some ⟨g,0,none⟩) n cap) rows∧Kd.N k35 35 W base ok1 u t∧
  (∀ j t c,ts[j + 1]?=some t→rows[j + 1]?=some c→Kd.FK (Kd.slice 35 k35) W (fun k=>(ok k∧k≠g)∧¬ ok1 k) t c)
section
variable {W w1:World} {base s g n cap:Nat} {ok:Nat→Prop} {ts:List (List S35)} {u:Value} {t:List S35}
theorem aCk (h:TF W base ok (.slice (some ⟨g,0,none⟩) n cap) ts) (hn:0 < ts.length) (hfr:∀ k,W.heap.size≤k→ok k∧k≠g):
  ∃ A c,W.cell? ⟨g,0,none⟩=some (.slice A (ts.getD 0 []).length c)∧W.frozen? ⟨g,0,none⟩=false∧TG W base ok W.heap.size g n cap ts (.slice A (ts.getD 0 []).length c) (ts.getD 0 []):=by
 have hgo:some g=(Value.slice (some ⟨g,0,none⟩) n cap).ownBlock:=by simp [Value.ownBlock]
 have hnn:=(Kd.bN (BP h)).1
 obtain ⟨h0,P,rows,hl,hR,he,hf⟩:=EF h
 obtain ⟨c0,hc0⟩:∃ c,rows[0]?=some c:=⟨_,List.getElem?_eq_getElem (by omega)⟩
 obtain ⟨t0,ht0⟩:∃ t,ts[0]?=some t:=⟨_,List.getElem?_eq_getElem hn⟩
 obtain ⟨u0,rfl,j3⟩:=he t0 c0 ht0 hc0
 have et:ts.getD 0 []=t0:=by rw [List.getD_eq_getElem?_getD,ht0];rfl
 rw [et]
 obtain ⟨A,c,rfl⟩:=Kd.dD j3
 obtain ⟨ce,hcl,hM,hcc,hfr2⟩:=Kd.BO hR [] (0:Int) (by omega) (by omega)
 have hce:ce=[.slice A t0.length c]:=by
  have h2:=hM.1
  rw [List.getD_eq_getElem?_getD,show (0:Int).toNat=0 from rfl,hc0] at h2
  exact h2
 subst hce
 have hx:=hcc 0 _ rfl
 have hne:∀ k,some k≠(Value.slice (some ⟨g,0,none⟩) n cap).ownBlock→k≠g:=fun k hk e=>hk (by rw [e];exact hgo)
 refine ⟨A,c,hx,hfr2 0,(h0 g hgo.symm).1,fun k=>(ok k∧k≠g)∧(P k∨W.heap.size≤k),rows,fun k hk=>hk.1,fun k hk=>⟨hfr k hk, .inr hk⟩,hl,Kd.cZ hR (fun k hk=>by rw [← hgo] at hk;injection hk),Kd.aD j3 (fun k hk=>⟨⟨hk.1.1.1,hne k hk.1.2⟩, .inl hk.2⟩),fun j t c ht hc=>Kd.lT (hf j t c ht hc) (fun k hk=>⟨⟨hk.1.1.1,hne k hk.1.2⟩,fun hq=>hq.2.elim hk.2 (fun hle=>Nat.lt_irrefl _ (Nat.lt_of_lt_of_le hk.1.1.2 hle))⟩)⟩
theorem wX (h:TG W base ok s g n cap ts u t):∃ ok1:Nat→Prop,(∀ k,s≤k→ok1 k)∧(∀ k,u.ownBlock=some k→k≠g)∧Kd.N k35 35 W base ok1 u t∧∀ w1 u1 t1,W.grownBy w1 u.ownBlock→Kd.N k35 35 w1 base ok1 u1 t1→TG w1 base ok s g n cap ts u1 t1:=by
 obtain ⟨hg0,ok1,rows,h1,h2,hl,hR,hN,hf⟩:=h
 have hu:∀ k,u.ownBlock=some k→ok1 k:=hN.1
 refine ⟨ok1,h2,fun k hk=>(h1 k (hu k hk)).2,hN,fun w1 u1 t1 hg hN1=>⟨hg0,ok1,rows,h1,h2,hl,Kd.yK hR (fun k hk hlt=>hg.block k hlt (fun e=>?_)),hN1,fun j t c ht hc=>Kd.pO (hf j t c ht hc) (fun k hk hlt=>hg.block k hlt (fun e=>hk.2 (hu k e.symm)))⟩⟩
 rw [hk] at e
 exact (h1 g (hu g e.symm)).2 rfl
theorem SQ (h:TG W base ok s g n cap ts u t) (hb:Below W.heap.size W w1):TG w1 base ok s g n cap ts u t:=by
 obtain ⟨hg0,ok1,rows,h1,h2,hl,hR,hN,hf⟩:=h
 exact ⟨hg0,ok1,rows,h1,h2,hl,Kd.dW hR hb,Kd.dG hN hb,fun j t c ht hc=>Kd.pO (hf j t c ht hc) (fun k _ hlt=>hb.block k hlt)⟩
theorem aAg (h:TG W base ok s g n cap ts u t) (hn:0 < ts.length):TG (W.setCell ⟨g,0,none⟩ u) base ok s g n cap ts u t∧(W.setCell ⟨g,0,none⟩ u).cell? ⟨g,0,none⟩=some u∧W.grownBy (W.setCell ⟨g,0,none⟩ u) (some g):=by
 obtain ⟨hg0,ok1,rows,h1,h2,hl,hR,hN,hf⟩:=h
 have hnn:=(Kd.eT hR).1
 obtain ⟨c,hcl,hM,hcc,hfr⟩:=Kd.BO (Kd.oJ hR) [] (0:Int) (by omega) (by omega)
 have hpo:u.oneCell'=true:=by
  obtain ⟨A,cc,rfl⟩:=Kd.dD hN
  rfl
 obtain ⟨h3,h4⟩:=Kd.PE (Kd.oJ hR) (0:Int) (by omega) (by omega) (c:=c) (seg:=[u]) (j:=0) (x':=[u]) (okp:=fun _=>False) hcl hcc (show 0 + [u].length≤1 from Nat.le_refl _) (by
  have e:c.take 0 ++ [u] ++ c.drop (0 + [u].length)=[u]:=by
   have:c.length=1:=hcl
   simp [List.drop_eq_nil_of_le (show c.length≤1 by omega)]
  rw [e]
  exact ⟨rfl,rfl,fun x hx=>by rw [List.mem_singleton] at hx;rw [hx];exact hpo⟩) (fun _ hk=>hk.elim)
 have h4':W.grownBy (W.setCell ⟨g,0,none⟩ u) (some g):=h4
 have h3':(Kd.raw 1).R 23 (W.setCell ⟨g,0,none⟩ u) base (fun k=>some k=(Value.slice (some ⟨g,0,none⟩) n cap).ownBlock) (.slice (some ⟨g,0,none⟩) n cap) (rows.set 0 [u]):=Kd.pK h3
 have hgo:some g=(Value.slice (some ⟨g,0,none⟩) n cap).ownBlock:=by simp [Value.ownBlock]
 obtain ⟨ce,hcl2,hM2,hcc2,_⟩:=Kd.BO h3' [] (0:Int) (by omega) (by omega)
 have hce:ce=[u]:=by
  have h5:=hM2.1
  rw [List.getD_eq_getElem?_getD,show (0:Int).toNat=0 from rfl,List.getElem?_set_self (by omega)] at h5
  exact h5
 subst hce
 refine ⟨⟨hg0,ok1,rows.set 0 [u],h1,h2,by rw [List.length_set,hl],Kd.cZ h3' (fun k hk=>by rw [← hgo] at hk;injection hk),Kd.sM hN (fun k hk hlt=>h4'.block k hlt (fun e=>(h1 k hk).2 (by injection e))),fun j t c ht hc=>?_⟩,hcc2 0 _ rfl,h4'⟩
 rw [List.getElem?_set_ne (by omega)] at hc
 exact Kd.pO (hf j t c ht hc) (fun k hk hlt=>h4'.block k hlt (fun e=>hk.1.2 (by injection e)))
theorem aAh (h:TG W base ok s g n cap ts u t) (hn:0 < ts.length) (hc:W.cell? ⟨g,0,none⟩=some u):Kd.N (Kd.slice 35 k35) 23 W base ok (.slice (some ⟨g,0,none⟩) n cap) (ts.set 0 t):=by
 obtain ⟨hg0,ok1,rows,h1,h2,hl,hR,hN,hf⟩:=h
 have hnn:=(Kd.eT hR).1
 have hgo:some g=(Value.slice (some ⟨g,0,none⟩) n cap).ownBlock:=by simp [Value.ownBlock]
 obtain ⟨c0,hc0⟩:∃ c,rows[0]?=some c:=⟨_,List.getElem?_eq_getElem (by omega)⟩
 obtain ⟨ce,hcl,hM,hcc,_⟩:=Kd.BO hR [] (0:Int) (by omega) (by omega)
 have hce:ce=c0:=by
  have h5:=hM.1
  rw [List.getD_eq_getElem?_getD,show (0:Int).toNat=0 from rfl,hc0] at h5
  exact h5
 subst hce
 obtain ⟨y,hy⟩:∃ y,ce=[y]:=by
  match ce,hcl with
  |[y],_=>exact ⟨y,rfl⟩
 subst hy
 have hx:=hcc 0 _ rfl
 have hyu:y=u:=Option.some.inj ((show W.cell? ⟨g,0,none⟩=some y from hx).symm.trans hc)
 subst hyu
 refine ⟨fun k hk=>by rw [← hgo] at hk;injection hk with hk;rw [← hk];exact hg0,rows,by rw [List.length_set,hl],Kd.cZ hR (fun k hk=>by rw [hk];exact hgo),fun j x c j3 hc2=>?_⟩
 cases j with
 |zero=>
  rw [List.getElem?_set_self hn] at j3
  injection j3 with j3
  subst j3
  rw [hc0] at hc2
  injection hc2 with hc2
  subst hc2
  obtain ⟨A,cc,rfl⟩:=Kd.dD hN
  exact Kd.lT (Kd.kW (Kd.bN hN).2.1 (Kd.N_F hN)) (fun k hk=>⟨(h1 k hk).1,fun e=>(h1 k hk).2 (by rw [← hgo] at e;injection e)⟩)
 |succ j=>
  rw [List.getElem?_set_ne (by omega)] at j3
  exact Kd.lT (hf j x c j3 hc2) (fun k hk=>⟨hk.1.1,fun e=>hk.1.2 (by rw [← hgo] at e;injection e)⟩)
end
structure WF (w0 w:World) (g:Nat) (sl:List Int) (p:Int) (g2 g3:Nat) (AR:Option Addr) (cR:Nat) (rs:List Int) (vT:Value) (W:World):Prop where
 hL:w0.heap.size≤w.heap.size
 hI:aQ w0 W g sl p
 hB:Below w0.heap.size w0 W
 hK:aI w W g none
 h2:W.heap[g2]?=some (.cells #[.slice none 0 0, .slice none 0 0] 46 (0,0))
 h3:W.heap[g3]?=some (.cells #[.slice AR rs.length cR,vT] 46 (0,0))
 hR:Kd.R (Kd.int .i64) 3 W w.heap.size (fun k=>w.heap.size≤k) (.slice AR rs.length cR) rs
section
variable {w0 w W W':World} {g:Nat} {sl:List Int} {p:Int} {g2 g3:Nat} {AR:Option Addr} {cR:Nat} {rs:List Int} {vT:Value}
theorem WF.ext (h:WF w0 w g sl p g2 g3 AR cR rs vT W) (hb:Below W.heap.size W W'):WF w0 w g sl p g2 g3 AR cR rs vT W':=
 ⟨h.hL,h.hI.below hb,aG h.hB hb,aI.trans h.hK (aI.of_below hb g none) (.inl rfl),bY h.h2 hb,bY h.h3 hb,Kd.dW h.hR hb⟩
theorem WF.grown (h:WF w0 w g sl p g2 g3 AR cR rs vT W) {b:Nat} (hg:W.grownBy W' (some b)) (hb:w.heap.size≤b) {cl:Array Value} {t:Nat} (hc:W.heap[b]?=some (.cells cl t (0,0))) (j3:t≠46) (j4:t≠91) (h3':t≠3):WF w0 w g sl p g2 g3 AR cR rs vT W':=by
 have ne:∀ {a:Nat} {cs:Array Value} {t':Nat},W.heap[a]?=some (.cells cs t' (0,0))→t≠t'→some a≠some b:=by
  intro a cs t' ha ht e
  injection e with e
  rw [e,hc] at ha
  injection ha with ha
  injection ha with _ ha _
  exact ht ha
 refine ⟨h.hL,h.hI.grown hg ?_,?_,aI.trans h.hK (aI.oF hg g) (.inr ⟨b,rfl,hb⟩),gV h.h2 hg (ne h.h2 j3),gV h.h3 hg (ne h.h3 j3),?_⟩
 ·obtain ⟨A0,c0,hq,_⟩:=h.hI
  exact ne hq j4
 ·have hL:=h.hL
  have hK:=aW h.hK
  exact Below.trans h.hB ⟨hg.os,hg.tape,hg.output,hg.size,fun k hk=>hg.block k (by omega) (fun e=>by injection e with e;omega)⟩
 ·refine Kd.wW (v:= .slice (some ⟨b,0,none⟩) 0 0) (e':=t) h.hR (fun k hk=>?_) ?_ (by simpa [Value.ownBlock] using hg)
  ·have e:b=k:=by simpa [Value.ownBlock] using hk
   rw [← e]
   exact ⟨cl,hc⟩
  ·intro q hq
   have e:q=3:=by simpa [Kd.int,Kd.scalar] using hq
   rw [e]
   exact fun e2=>h3' e2.symm
theorem SB (h:WF w0 w g sl p g2 g3 AR cR rs vT W) (hg2:w.heap.size≤g2) {ts:List (List S35)} {ok:Nat→Prop} (hok:∀ k,ok k→(w.heap.size≤k∧some k≠(.slice AR rs.length cR:Value).ownBlock)∧k≠g2) (hN:Kd.N (Kd.slice 35 k35) 23 W w.heap.size ok vT ts):
  ((W.setCell ⟨g2,0,none⟩ (.slice AR rs.length cR)).setCell ⟨g2,1,none⟩ vT).heap[g2]?=some (.cells #[.slice AR rs.length cR,vT] 46 (0,0))∧
  Kd.R (Kd.int .i64) 3 ((W.setCell ⟨g2,0,none⟩ (.slice AR rs.length cR)).setCell ⟨g2,1,none⟩ vT) w.heap.size (fun k_=>(w.heap.size≤k_)) (.slice AR rs.length cR) rs∧
  Kd.N (Kd.slice 35 k35) 23 ((W.setCell ⟨g2,0,none⟩ (.slice AR rs.length cR)).setCell ⟨g2,1,none⟩ vT) w.heap.size (fun k_=>(w.heap.size≤k_)∧some k_≠(.slice AR rs.length cR:Value).ownBlock) vT ts∧
  aQ w0 ((W.setCell ⟨g2,0,none⟩ (.slice AR rs.length cR)).setCell ⟨g2,1,none⟩ vT) g sl p∧Below w0.heap.size w0 ((W.setCell ⟨g2,0,none⟩ (.slice AR rs.length cR)).setCell ⟨g2,1,none⟩ vT)∧aI w ((W.setCell ⟨g2,0,none⟩ (.slice AR rs.length cR)).setCell ⟨g2,1,none⟩ vT) g none:=by
 have hne:g≠g2:=h.hI.NZ h.h2 (by decide)
 have hb:w0.heap.size≤g2:=Nat.le_trans h.hL hg2
 refine ⟨aM (cs:=#[.slice AR rs.length cR, .slice none 0 0]) (aM (cs:=#[.slice none 0 0, .slice none 0 0]) h.h2 0 _ rfl) 1 _ rfl,?_,?_,(h.hI.far hne _).far hne _,below_set (below_set h.hB hb) hb,iB (iB h.hK hg2 _) hg2 _⟩
 ·exact Kd.cZ (Kd.dM (p:=⟨g2,1,none⟩) (Kd.dM (p:=⟨g2,0,none⟩) (Kd.eF h.hR h.h2 (by decide)) (fun _ hk=>hk.2) _) (fun _ hk=>hk.2) _) (fun _ hk=>hk.1)
 ·exact Kd.aD (Kd.aT (p:=⟨g2,1,none⟩) (Kd.aT (p:=⟨g2,0,none⟩) hN (fun k hk=>(hok k hk).2) _) (fun k hk=>(hok k hk).2) _) (fun k hk=>(hok k hk).1)
end
structure PS (w0 w:World) (g:Nat) (sl:List Int) (p:Int) (g2 g3:Nat) (AR:Option Addr) (cR:Nat) (rs:List Int) (ok:Nat→Prop) (s go n cap:Nat) (ts:List (List S35)) (c u:Value) (t:List S35) (W:World):Prop where
 wf:WF w0 w g sl p g2 g3 AR cR rs (.slice (some ⟨go,0,none⟩) n cap) W
 tg:TG W w.heap.size ok s go n cap ts u t
 hc:W.cell? ⟨go,0,none⟩=some c
 hf:W.frozen? ⟨go,0,none⟩=false
 hs:s≤W.heap.size
section
variable {w0 w W w1:World} {g:Nat} {sl:List Int} {p:Int} {g2 g3:Nat} {AR:Option Addr} {cR:Nat} {rs:List Int} {ok:Nat→Prop} {s go n cap:Nat} {ts:List (List S35)} {c u u1:Value} {t t1:List S35}
theorem PS.below (h:PS w0 w g sl p g2 g3 AR cR rs ok s go n cap ts c u t W) (hb:Below W.heap.size W w1):PS w0 w g sl p g2 g3 AR cR rs ok s go n cap ts c u t w1:=by
 have hlt:go < W.heap.size:=World.block_lt_of_cell? W _ h.hc
 exact ⟨h.wf.ext hb,SQ h.tg hb,(hb.cell (p:=⟨go,0,none⟩) hlt).trans h.hc,(hb.frozen (p:=⟨go,0,none⟩) hlt).trans h.hf,Nat.le_trans h.hs hb.size⟩
theorem PS.grown (h:PS w0 w g sl p g2 g3 AR cR rs ok s go n cap ts c u t W) (hg:W.grownBy w1 u.ownBlock) (htg:TG w1 w.heap.size ok s go n cap ts u1 t1):PS w0 w g sl p g2 g3 AR cR rs ok s go n cap ts c u1 t1 w1:=by
 have hlt:go < W.heap.size:=World.block_lt_of_cell? W _ h.hc
 obtain ⟨ok1,_,hne,hN,_⟩:=wX h.tg
 have hgo:some go≠u.ownBlock:=fun e=>hne go e.symm rfl
 have hh:w1.heap[go]?=W.heap[go]?:=hg.block go hlt hgo
 refine ⟨?_,htg,(World.cell?_of_block (a:=⟨go,0,none⟩) hh).trans h.hc,(World.frozen?_of_block (a:=⟨go,0,none⟩) hh).trans h.hf,Nat.le_trans h.hs hg.size⟩
 cases hb:u.ownBlock with
 |none=>exact h.wf.ext ⟨hg.os,hg.tape,hg.output,hg.size,fun k hk=>hg.block k hk (by rw [hb];simp)⟩
 |some b=>
  obtain ⟨cl,hcl⟩:=Kd.vB hN b hb
  exact h.wf.grown (b:=b) (by rw [← hb];exact hg) (Kd.dL hN b hb) hcl (by decide) (by decide) (by decide)
theorem PS.store (h:PS w0 w g sl p g2 g3 AR cR rs ok s go n cap ts c u t W) (hn:0 < ts.length):PS w0 w g sl p g2 g3 AR cR rs ok s go n cap ts u u t (W.setCell ⟨go,0,none⟩ u):=by
 obtain ⟨h1,h2,h3⟩:=aAg h.tg hn
 have hR:∀ {W':World},TG W' w.heap.size ok s go n cap ts u t→(∃ cl,W'.heap[go]?=some (.cells cl 23 (0,0)))∧w.heap.size≤go:=by
  intro W' hq
  obtain ⟨_,_,_,_,_,_,hR,_,_⟩:=hq
  have hgo:(Value.slice (some ⟨go,0,none⟩) n cap).ownBlock=some go:=by simp [Value.ownBlock]
  exact ⟨Kd.PG hR go hgo,Kd.iG hR go hgo⟩
 obtain ⟨⟨cl,hcl⟩,hbase⟩:=hR h.tg
 obtain ⟨⟨cl',hcl'⟩,_⟩:=hR h1
 exact ⟨h.wf.grown h3 hbase hcl (by decide) (by decide) (by decide),h1,h2,aU hcl' 0,Nat.le_trans h.hs h3.size⟩
theorem PS.done (h:PS w0 w g sl p g2 g3 AR cR rs ok s go n cap ts u u t W) (hn:0 < ts.length) (hg2:w.heap.size≤g2) (hok:∀ k,ok k→(w.heap.size≤k∧some k≠(.slice AR rs.length cR:Value).ownBlock)∧k≠g2):
  ((W.setCell ⟨g2,0,none⟩ (.slice AR rs.length cR)).setCell ⟨g2,1,none⟩ (.slice (some ⟨go,0,none⟩) n cap)).heap[g2]?=some (.cells #[.slice AR rs.length cR,(.slice (some ⟨go,0,none⟩) n cap)] 46 (0,0))∧
  Kd.R (Kd.int .i64) 3 ((W.setCell ⟨g2,0,none⟩ (.slice AR rs.length cR)).setCell ⟨g2,1,none⟩ (.slice (some ⟨go,0,none⟩) n cap)) w.heap.size (fun k_=>(w.heap.size≤k_)) (.slice AR rs.length cR) rs∧
  Kd.N (Kd.slice 35 k35) 23 ((W.setCell ⟨g2,0,none⟩ (.slice AR rs.length cR)).setCell ⟨g2,1,none⟩ (.slice (some ⟨go,0,none⟩) n cap)) w.heap.size (fun k_=>(w.heap.size≤k_)∧some k_≠(.slice AR rs.length cR:Value).ownBlock) (.slice (some ⟨go,0,none⟩) n cap) (ts.set 0 t)∧
  aQ w0 ((W.setCell ⟨g2,0,none⟩ (.slice AR rs.length cR)).setCell ⟨g2,1,none⟩ (.slice (some ⟨go,0,none⟩) n cap)) g sl p∧Below w0.heap.size w0 ((W.setCell ⟨g2,0,none⟩ (.slice AR rs.length cR)).setCell ⟨g2,1,none⟩ (.slice (some ⟨go,0,none⟩) n cap))∧aI w ((W.setCell ⟨g2,0,none⟩ (.slice AR rs.length cR)).setCell ⟨g2,1,none⟩ (.slice (some ⟨go,0,none⟩) n cap)) g none:=
 SB h.wf hg2 hok (aAh h.tg hn h.hc)
end
theorem aCa {p:Prop} (h:Aside0 p):p:=h.out
structure FC4 (W0:World) (gb:Nat) (v b0:Bool) (W:World):Prop where
 hB:Below W0.heap.size W0 W
 hx:b0=true→W0.heap.size≤gb∧W.heap[gb]?=some (.cells #[.bool v] 4 (0,0))
structure FD4 (w0 w W0:World) (g:Nat) (sl:List Int) (p:Int) (g2 g3:Nat) (AR:Option Addr) (cR:Nat) (rs:List Int) (ok:Nat→Prop) (s go:Nat) (ts:List (List S35)) (cO:Nat) (A0:Option Addr) (c0:Nat) (tl:List S35) (A78:Option Addr) (c78:Nat) (A79:Option Addr) (c79:Nat) (b7 b8 b10:Bool) (W:World):Prop where
 ps:PS w0 w g sl p g2 g3 AR cR rs ok s go ts.length cO ts (cond b10 (.slice A79 (tl.length + 1) c79) (.slice A0 tl.length c0)) (cond b8 (.slice A79 (tl.length + 1) c79) (.slice A0 tl.length c0)) (cond b8 (tl ++ [(⟨9,0,0,⟨0,0,[]⟩,[],[]⟩:S35)]) tl) W
 h78:b7=true→b8=false→Kd.N k35 35 W W0.heap.size (fun q=>W0.heap.size≤q) (.slice A78 1 c78) [(⟨9,0,0,⟨0,0,[]⟩,[],[]⟩:S35)]
 hu:∀ q,((.slice A0 tl.length c0):Value).ownBlock=some q→q < W0.heap.size
 hW:W0.heap.size≤W.heap.size
def aC4 (W0:World) (g g2 g3:Nat) (AR:Option Addr) (cR:Nat) (rs:List Int) (go:Nat) (ts:List (List S35)) (cO:Nat) (pk:Int) (gb:Nat) (v:Bool) (b0 b1 b2 b3:Bool):Act:=
 { tmps:=#[(.pointer (some ⟨g,0,none⟩)),undef,(.pointer (some ⟨g2,0,none⟩)),(.pointer (some ⟨g3,0,none⟩)),(.pointer (some ⟨g,0,none⟩)),(.agg #[(.slice AR rs.length cR),(.slice (some ⟨go,0,none⟩) ts.length cO)]),(.pointer (some ⟨g,0,none⟩)),(.int .i64 pk),(.bool false),(.bool false),undef,undef,undef,undef,undef,undef,undef,undef,undef,undef,(.bool false),(.bool false),undef,undef,undef,undef,undef,undef,undef,undef,undef,undef,undef,undef,(.bool false),(.bool false),undef,undef,(.bool false),(.bool false),undef,undef,undef,undef,undef,undef,undef,undef,undef,undef,undef,undef,undef,undef,undef,undef,undef,(.bool true),(.bool true),cond b0 (.pointer (some ⟨gb,0,none⟩)) undef,cond b3 (.bool v) undef,undef,undef,undef,undef,undef,undef,undef,undef,undef,undef,undef,undef,undef,undef,undef,undef,undef,undef,undef,undef,undef],defers:=[] }
def LC4 (W0:World) (g g2 g3:Nat) (AR:Option Addr) (cR:Nat) (rs:List Int) (go:Nat) (ts:List (List S35)) (cO:Nat) (pk:Int) (b0 b1 b2 b3:Bool) (a:Act) (W:World):Prop:=
 ∃ (gb:Nat) (v:Bool),a=aC4 W0 g g2 g3 AR cR rs go ts cO pk gb v b0 b1 b2 b3∧FC4 W0 gb v b0 W
def aD4 (w0 w W0:World) (g:Nat) (sl:List Int) (p:Int) (g2 g3:Nat) (AR:Option Addr) (cR:Nat) (rs:List Int) (ok:Nat→Prop) (s go:Nat) (ts:List (List S35)) (cO:Nat) (pk:Int) (gb:Nat) (A0:Option Addr) (c0:Nat) (tl:List S35) (A78:Option Addr) (c78:Nat) (A79:Option Addr) (c79:Nat) (b0 b1 b2 b3 b4 b5 b6 b7 b8 b9 b10:Bool):Act:=
 { tmps:=#[(.pointer (some ⟨g,0,none⟩)),undef,(.pointer (some ⟨g2,0,none⟩)),(.pointer (some ⟨g3,0,none⟩)),(.pointer (some ⟨g,0,none⟩)),(.agg #[(.slice AR rs.length cR),(.slice (some ⟨go,0,none⟩) ts.length cO)]),(.pointer (some ⟨g,0,none⟩)),(.int .i64 pk),(.bool false),(.bool false),undef,undef,undef,undef,undef,undef,undef,undef,undef,undef,(.bool false),(.bool false),undef,undef,undef,undef,undef,undef,undef,undef,undef,undef,undef,undef,(.bool false),(.bool false),undef,undef,(.bool false),(.bool false),undef,undef,undef,undef,undef,undef,undef,undef,undef,undef,undef,undef,undef,undef,undef,undef,undef,(.bool true),(.bool true),(.pointer (some ⟨gb,0,none⟩)),(.bool false),undef,undef,undef,undef,undef,undef,undef,undef,undef,undef,cond b0 (.pointer (some ⟨g3,1,none⟩)) undef,cond b1 (.slice (some ⟨go,0,none⟩) ts.length cO) undef,cond b2 (.pointer (some ⟨g3,1,none⟩)) undef,cond b3 (.slice (some ⟨go,0,none⟩) ts.length cO) undef,cond b4 (.pointer (some ⟨go,0,none⟩)) undef,cond b5 (.slice A0 tl.length c0) undef,cond b6 (.agg #[(.int .i64 9),(.int .i64 0),(.int .i64 0),(.int .i64 0),(.int .i64 0),(.slice none 0 0),(.slice none 0 0),(.slice none 0 0)]) undef,cond b7 (.slice A78 1 c78) undef,cond b8 (.slice A79 (tl.length + 1) c79) undef,cond b9 (.pointer (some ⟨go,0,none⟩)) undef,undef],defers:=[] }
def LD4 (w0 w W0:World) (g:Nat) (sl:List Int) (p:Int) (g2 g3:Nat) (AR:Option Addr) (cR:Nat) (rs:List Int) (ok:Nat→Prop) (s go:Nat) (ts:List (List S35)) (cO:Nat) (pk:Int) (gb:Nat) (A0:Option Addr) (c0:Nat) (tl:List S35) (b0 b1 b2 b3 b4 b5 b6 b7 b8 b9 b10:Bool) (a:Act) (W:World):Prop:=
 ∃ (A78:Option Addr) (c78:Nat) (A79:Option Addr) (c79:Nat),a=aD4 w0 w W0 g sl p g2 g3 AR cR rs ok s go ts cO pk gb A0 c0 tl A78 c78 A79 c79 b0 b1 b2 b3 b4 b5 b6 b7 b8 b9 b10∧FD4 w0 w W0 g sl p g2 g3 AR cR rs ok s go ts cO A0 c0 tl A78 c78 A79 c79 b7 b8 b10 W
theorem dN.calls (k:Nat) (g:Nat) (jj:List Int) (jU:Int) (r1:List Int) (r2:List (List (S35))) (r3:Int) (w0 w:World) (hI:aQ w0 w g jj jU) (hB:Below w0.heap.size w0 w) (h:dN.f k jj jU=some (r1,r2,r3)):
  Calls Try.prog 57 #[.pointer (some ⟨g,0,none⟩)] w fun e w'=>∃ v0_ v1_:Value,e= .returned (.agg #[v0_,v1_])∧Kd.R (Kd.int .i64) 3 w' w.heap.size (fun k_=>(w.heap.size≤k_)) v0_ r1∧Kd.N (Kd.slice 35 k35) 23 w' w.heap.size (fun k_=>(w.heap.size≤k_)∧some k_≠(v0_:Value).ownBlock) v1_ r2∧aQ w0 w' g jj r3∧Below w0.heap.size w0 w'∧aI w w' g none:=by
 have hu46:=Try.underlying46
 have hu35:=Try.underlying35
 have HI0:=am hI
 have HK:=am (aI.refl w g none)
 have HL:=am hB.size
 clear hI
 have HW0:=am hB.size
 have HB:=am hB
 clear hB
 have H:((cK.f k jj jU).bind fun jg=>((aH.f k jj jg.2.2 30).bind fun jt=>(if jt.1=0 then ((some (([0,5]:List Int):List Int)).bind fun jm=>((aH.f k jj jt.2 2).bind fun jz=>(if 0≤jz.1 then (if jz.1 < (jm.length:Int) then (if jg.1.length < 17592186044416 then (some ((jg.1 ++ [rd jm jz.1]),jg.2.1,jz.2)) else (none)) else (none)) else (none)))) else (if jt.1=1 then ((gT.f k jj jt.2).bind fun jP=>(if jg.2.1.length < 5864062014805 then (some (jg.1,(jg.2.1 ++ [(([(⟨4,0,(jg.1.length:Int),(⟨jP.1,jP.2.1,jP.2.2.1⟩:S32),([]:List (S35)),([]:List (S35))⟩:S35)]:List (S35)))]),jP.2.2.2)) else (none))) else (if jt.1=2 then (some (jg.1,(([]:List (List (S35)))),jt.2)) else (if jt.1=3 then (if 0 < (jg.2.1.length:Int) then ((some (([fJ jg.2.1 0,fJ jg.2.1 0,fJ jg.2.1 0]:List (List (S35))):List (List (S35)))).bind fun jF=>(if jg.2.1.length + jF.length < 5864062014805 then (some (jg.1,(jg.2.1 ++ jF),jt.2)) else (none))) else (none)) else (if jt.1=4 then (if 0 < (jg.2.1.length:Int) then (if (fJ jg.2.1 0).length + 1 < 1256584717458 then (some (jg.1,jg.2.1.set 0 (fJ jg.2.1 0 ++ [⟨9,0,0,⟨0,0,[]⟩,[],[]⟩]),jt.2)) else (none)) else (none)) else (some (jg.1,jg.2.1,jt.2)))))))))=some (r1,r2,r3):=h
 clear h
 obtain ⟨⟨j9,j6,q2⟩,A2,H⟩:=bsa H
 (try dsimp only at H)
 obtain ⟨⟨ji,jx⟩,A3,H⟩:=bsa H
 (try dsimp only at H)
 have HH_:=am H
 clear H
 go_enter Try.func57,Try.ntmps57
 go_upto_region 3 with (first|((with_reducible refine bQ (N:=2) rfl ?_);refine dJ rfl (N:=2) rfl (cs:=#[.slice none 0 0, .slice none 0 0]) (t:=46) rn_ ?_;intro j4 hg w9 hbox hb;replace HB:=am (aG iT hb);have j8:=am (hbox);have GW868:=am ((by rw [hg];exact (aW (w:=w) (g:=g) (row:=none) fI):w.heap.size≤j4));have GE868:=am ((Nat.le_trans HW0.out (by rw [hg];exact (aW (w:=w) (g:=g) (row:=none) fI):w.heap.size≤j4):w0.heap.size≤j4));replace HK:=am (aI.trans fI (aI.of_below hb g none) (.inl rfl));have NB0_868:=am ((by rw [hg];exact Nat.ne_of_lt (aQ.lt (show aQ w0 _ g jj jU from gB)):g≠j4));have jk:=am ((by rw [hg];exact Nat.ne_of_gt (aQ.lt (show aQ w0 _ g jj jU from gB)):j4≠g));replace HI0:=am (aQ.below gB hb);clear hb hbox hg)|((with_reducible refine aN (f:=86) rfl ?_);refine gl_ 5 Try.func86 #[.pointer (some ⟨g,0,none⟩)] ?_;(with_reducible refine (cK.callsT k g jj jU j9 j6 q2 w0 _ ?side1 ?side2 A2.out).mono ?_);(case side1=>exact LC);(case side2=>exact SS);rintro e Qd ⟨zV,JK,rfl,ho0,ho1,hi,hb,hk⟩;refine ⟨_,rfl,?_⟩;have ja:=am (Kd.kC (Kd.yJ (M:=fun k_=>(w.heap.size≤k_)) (Kd.cZ (ok':=fun k_=>True) ho0 (fun _ hk_=>trivial)) (aW (w:=w) (g:=g) (row:=none) CW) (fun k_ h_=>h_)) (aW (w:=w) (g:=g) (row:=none) CW));have j7:=am (SN (lD (ok':=fun k_=>(w.heap.size≤k_)∧some k_≠(zV:Value).ownBlock∧k_≠j4∧k_≠g) ho1 (fun k_ hk_=>⟨(Nat.le_trans (aW (w:=w) (g:=g) (row:=none) CW) hk_.1),hk_.2,(fG j8.out k_ hk_.1),(aQ.fresh LC k_ hk_.1)⟩)) (aW (w:=w) (g:=g) (row:=none) CW));replace j8:=am (aI.blk hk (g':=j4) (o:= .cells #[.slice none 0 0, .slice none 0 0] 46 (0,0)) (aG_ j8.out) jk.out (by simp));replace HK:=am (aI.trans CW hk (.inl rfl));replace HB:=am (hb);replace HI0:=am (hi);(try clear hb);(try clear hk);(try clear hi);(try clear ho0);(try clear ho1))|((with_reducible refine bQ (N:=3) rfl ?_);refine dJ rfl (N:=3) rfl (cs:=#[.slice none 0 0, .slice none 0 0]) (t:=46) rn_ ?_;intro j3 hg Qe hbox hb;replace ja:=am (Kd.dW (aR_ ja.out) hb);replace j7:=am (wC (RF (by (with_reducible repeat (first|apply pR|apply pV|apply pU));exact j7.out) j3 (Nat.le_of_eq hg.symm)) hb);replace HB:=am (aG SS hb);have j5:=am (hbox);have GW876:=am ((by rw [hg];exact (aW (w:=w) (g:=g) (row:=none) CW):w.heap.size≤j3));have GE876:=am ((Nat.le_trans HW0.out (by rw [hg];exact (aW (w:=w) (g:=g) (row:=none) CW):w.heap.size≤j3):w0.heap.size≤j3));replace HK:=am (aI.trans CW (aI.of_below hb g none) (.inl rfl));have je:=am ((by rw [hg];exact Nat.ne_of_lt (fO j8.out):j4≠j3));have ju:=am ((by rw [hg];exact Nat.ne_of_gt (fO j8.out):j3≠j4));replace j8:=bbP j8 hb;have NB0_876:=am ((by rw [hg];exact Nat.ne_of_lt (aQ.lt (show aQ w0 _ g jj q2 from LC)):g≠j3));have jA:=am ((by rw [hg];exact Nat.ne_of_gt (aQ.lt (show aQ w0 _ g jj q2 from LC)):j3≠g));replace HI0:=am (aQ.below LC hb);clear hb hbox hg;obtain ⟨jb,jc,zW⟩:=Kd.kP ja.out;subst zW;have Jp:=ju.out;have Jq:=je.out;have Jr:=jA.out;have Js:=NB0_876.out;obtain ⟨qd,qe,qf,qg⟩:=fT j5.out;obtain ⟨jf,jd,zX⟩:=Kd.dD (BP j7.out);subst zX)|((with_reducible refine aN (f:=41) rfl ?_);refine gl_ 7 Try.func41 #[.pointer (some ⟨g,0,none⟩), .int .i64 30] ?_;(with_reducible refine (aH.calls k g jj q2 30 ji jx w0 _ ?side1 ?side2 A3.out).mono ?_);(case side1=>exact lX);(case side2=>exact pX);rintro e jL ⟨rfl,hi,hb,hk⟩;refine ⟨_,rfl,?_⟩;replace j8:=am (aI.blk hk (g':=j4) (o:= .cells #[.slice none 0 0, .slice none 0 0] 46 (0,0)) (aZ (aZ j8.out je.out _) je.out _) jk.out (by simp));replace ja:=am (Kd.cZ (Kd.mF (aQ.apart (show aQ w0 _ g jj q2 from lX) (iC ((Kd.cZ (Kd.dM (p:=⟨j3,1,none⟩) (Kd.dM (p:=⟨j3,0,none⟩) (Kd.eF ja.out j5.out (by decide)) (fun _ hk=>hk.2) (.slice jb j9.length jc)) (fun _ hk=>hk.2) (.slice jf j6.length jd)) (fun _ h_=>h_.1)))) (by decide)) hk (fun _ h=>h.2)) (fun _ h=>h.1));replace j7:=am (lD (DU (lD (ok:=fun k_=>((((w.heap.size≤k_))∧(some k_≠(.slice jb j9.length jc:Value).ownBlock∧(k_≠j4∧k_≠g)))∧k_≠j3)) (by (with_reducible repeat (first|apply pR|apply pV|apply pU));exact (lD (yL (p:=⟨j3,1,none⟩) (yL (p:=⟨j3,0,none⟩) (lD j7.out (fun k_ hk=>(⟨hk,hk.2⟩:_∧k_≠j3))) (fun _ hk=>hk.2) (.slice jb j9.length jc)) (fun _ hk=>hk.2) (.slice jf j6.length jd)) (fun _ h_=>h_.1))) (fun k_ hk_=>(⟨hk_,hk_.1.2.2.2⟩:_∧k_≠g))) hk (fun _ h=>h.2)) (fun _ h=>h.1));replace j5:=am (aI.blk hk (g':=j3) (o:= .cells #[.slice jb j9.length jc, .slice jf j6.length jd] 46 (0,0)) (aM (aM j5.out 0 _ rfl) 1 _ rfl) jA.out (by simp));replace HK:=am (aI.trans nI hk (.inl rfl));replace HB:=am (hb);replace HI0:=am (hi);(try clear hb);(try clear hk);(try clear hi)))
 have H:=HH_.out
 clear HH_
 by_cases c4:ji=0
 ·rw [if_pos c4] at H
  have zY:(ji == 0)=true:=beq_iff_eq.mpr c4
  have zZ:(ji != 0)=false:=bne_eq_false_iff_eq.mpr c4
  clear c4
  obtain ⟨jm,hy_⟩:∃ y_:List Int,y_=(([0,5]:List Int)):=⟨_,rfl⟩
  replace H:((aH.f k jj jx 2).bind fun jz=>(if 0≤jz.1 then (if jz.1 < (jm.length:Int) then (if j9.length < 17592186044416 then (some ((j9 ++ [rd jm jz.1]),j6,jz.2)) else (none)) else (none)) else (none)))=some (r1,r2,r3):=rx_
  have jK:=am hy_
  clear hy_
  obtain ⟨⟨jy,q3⟩,A5,H⟩:=bsa H
  (try dsimp only at H)
  by_cases c6:0≤jy
  ·rw [if_pos c6] at H
   have JL:decide (0≤jy)=true:=decide_eq_true c6
   clear c6
   by_cases c7:jy < (jm.length:Int)
   ·rw [if_pos c7] at H
    have JM:decide (jy < (jm.length:Int))=true:=decide_eq_true c7
    clear c7
    by_cases c8:j9.length < 17592186044416
    ·rw [if_pos c8] at H
     have J0:=am c8
     clear c8
     obtain ⟨jV,hy_⟩:∃ y_:List Int,y_=(j9 ++ [rd jm jy]):=⟨_,rfl⟩
     replace H:(some (jV,j6,q3))=some (r1,r2,r3):=rx_
     have qD:=am hy_
     clear hy_
     simp only [Option.some.injEq,Prod.mk.injEq] at H
     obtain ⟨rfl,rfl,rfl⟩:=H
     have jQ:=am (BP j7.out)
     clear j7
     have j7:=jQ
     clear jQ
     try go_wp2
     have Jt:(0≤(jy:Int))=True:=eq_true (of_decide_eq_true gL)
     have Ju:(jy < (jm.length:Int))=True:=eq_true (of_decide_eq_true gL)
     replace ja:=am (Kd.vC ja.out)
     replace j7:=am (Kd.nO j7.out)
     replace j8:=am (bT j8.out)
     replace j5:=am (bT j5.out)
     replace HI0:=am (aQ.drew HI0.out)
     replace HK:=am (gW HK.out)
     replace HB:=am (bG HB.out)
     refine mR (n:=11) (S:=fun w'=>w'.cell? ⟨j3,0,none⟩=some (.slice jb j9.length jc)∧w'.cell? ⟨j3,1,none⟩=some (.slice jf j6.length jd)) (ds:=[10]) (bz 11 0) (by kernel_rfl) rfl rfl ⟨(aA j5.out 0).trans rfl,(aA j5.out 1).trans rfl⟩ (fun hHeld=>?_);refine kE dN.aCs dN.aCl (fun HT_ HW_=>?_)
     generalize jL.drew=Qf at ja j7 j8 j5 HI0 HK HB hHeld ⊢
     refine pr_ 0 10 (bz 11 1) HT_ ?_
     refine pr_ 3 13 (bz 11 9) HT_ ?_
     refine RZ 1 11 (bz 11 11) HT_ HW_ hHeld ?_
     refine vW (σ:=Value × Addr) 6 (bz 11 31) (fun s_=>[(12,s_.1),(14, .int .i64 jy)]) (fun s_ w'=>(w'.cell? ⟨j3,0,none⟩=some (.slice jb j9.length jc)∧w'.cell? ⟨j3,1,none⟩=some (.slice jf j6.length jd))∧(Kd.R (Kd.int .i64) 3 w' w.heap.size (fun k_=>(w.heap.size≤k_)∧some k_≠(s_.1:Value).ownBlock) (.slice jb j9.length jc) j9)∧(Kd.N (Kd.slice 35 k35) 23 w' w.heap.size (fun k_=>(w.heap.size≤k_)∧some k_≠(.slice jb j9.length jc:Value).ownBlock∧some k_≠(s_.1:Value).ownBlock∧k_≠g∧k_≠j4∧k_≠j3) (.slice jf j6.length jd) j6)∧(Kd.R (Kd.int .i64) 3 w' w.heap.size (fun k_=>(w.heap.size≤k_)∧some k_≠(.slice jb j9.length jc:Value).ownBlock) s_.1 jm)∧(∃ c_,(s_.1:Value)= .slice (some s_.2) jm.length c_)∧(w'.heap[j4]?=some (.cells #[.slice none 0 0, .slice none 0 0] 46 (0,0)))∧(w'.heap[j3]?=some (.cells #[.slice jb j9.length jc, .slice jf j6.length jd] 46 (0,0)))∧(aQ w0 w' g jj q3)∧(aI w w' g none)∧(Below w0.heap.size w0 w')) ?_ ?_
     rotate_left
     ·intro hCont
      refine SA (i:=2) (j:=4) (Ni:=some 12) (Nj:=some 14) (bz 11 15) (bz 11 27) rfl rfl rfl rfl (vN HT_.out (by kernel_rfl)) (by decide) (by decide) (fun K hK=>?_) (fun K hK=>?_)
      ·skip
       refine Kd.yI (Kd.int .i64) _ 3 rfl (N:=12) rfl (xs:=([0,5]:List Int)) (inner:=[.int .i64 0, .int .i64 5]) (ok:=fun _=>True) (okp:=fun _=>True) rn_ ?hp (fun _ hk=>hk) trivial (Below.refl _ _) (Nat.le_refl _) (by simp) ?_;(case hp=>exact (eY.one (show Kd.M (Kd.int .i64) _ _ _ 0 [.int .i64 0] from rfl) (eY.one (show Kd.M (Kd.int .i64) _ _ _ 5 [.int .i64 5] from rfl) (eY.none _ _))))
       intro jW JN ho20 hb hg_ hnew_
       clear hg_ hnew_
       (first|rw [← jK.out] at ho20|(simp only [Int.reduceToNat] at ho20;rw [← jK.out] at ho20))
       replace j7:=am (Kd.fM (aN_ j7.out) (Kd.iG ho20) hb)
       have jl:=am (Kd.kC (Kd.mZ (Kd.yJ (M:=fun k_=>(w.heap.size≤k_)) ho20 (aW (w:=w) (g:=g) (row:=none) nI) (fun k_ h_=>h_)) (Kd.iY (aR_ ja.out))) (aW (w:=w) (g:=g) (row:=none) nI))
       replace ja:=am (Kd.kN (aR_ ja.out) (Kd.iG ho20) hb)
       replace j8:=bbP j8 hb
       replace j5:=bbP j5 hb
       replace HK:=am (aI.trans nI (aI.of_below hb g none) (.inl rfl))
       replace HB:=am (aG pX hb)
       replace HI0:=am (aQ.below lX hb)
       clear hb ho20
       obtain ⟨JO,qE,J1⟩:=Kd.kP jl.out
       subst J1
       obtain ⟨ado21,fo21,_⟩:=Kd.nJ (Kd.eT jl.out).2.2 0 (by decide) (by rw [jK.out];simp)
       cases fo21
       refine hK.out _ _ ⟨(aA j5.out 0).trans rfl,(aA j5.out 1).trans rfl⟩ (fun hHeld=>?_)
       clear hK K
       refine fB (a':=?_) ?_ ?_
       rotate_left
       ·show Act.put _ (some 12) _=_
        simp only [Act.put,List.setIfInBounds_toArray,List.set_cons_zero,List.set_cons_succ,dS,dV]
        rfl
       refine lH (i:=4) (N:=some 14) (bz 11 31) rfl rfl (gG HT_.out (by kernel_rfl)) (by decide) (fun K hK=>?_)
       refine kU Try.func41 (by kernel_rfl) rfl #[.pointer (some ⟨g,0,none⟩), .int .i64 2] (by rfl) rfl rfl nX ?_
       with_reducible refine (aH.calls k g jj jx 2 jy q3 w0 _ ?side1 ?side2 A5.out).mono ?_
       (case side1=>exact lX)
       (case side2=>exact pX)
       rintro e Qg ⟨rfl,hi,hb,hk⟩
       refine ⟨_,rfl,?_⟩
       replace j8:=am (aI.blk hk (g':=j4) (o:= .cells #[.slice none 0 0, .slice none 0 0] 46 (0,0)) (aG_ j8.out) jk.out (by simp))
       replace ja:=am (Kd.cZ (Kd.mF (aQ.apart (show aQ w0 _ g jj jx from lX) (aR_ ja.out) (by decide)) hk (fun _ h=>h.2)) (fun _ h=>h.1))
       replace j7:=am (Kd.aD (Kd.kM (Kd.aD (ok:=fun k_=>(((((w.heap.size≤k_))∧(some k_≠(.slice jb j9.length jc:Value).ownBlock∧(k_≠j4∧k_≠g)))∧k_≠j3)∧some k_≠(.slice (some ado21) jm.length qE:Value).ownBlock)) (aN_ j7.out) (fun k_ hk_=>(⟨hk_,hk_.1.1.2.2.2⟩:_∧k_≠g))) hk (fun _ h=>h.2)) (fun _ h=>h.1))
       replace j5:=am (aI.blk hk (g':=j3) (o:= .cells #[.slice jb j9.length jc, .slice jf j6.length jd] 46 (0,0)) (aG_ j5.out) jA.out (by simp))
       replace jl:=am (Kd.cZ (Kd.mF (aQ.apart (show aQ w0 _ g jj jx from lX) (aR_ jl.out) (by decide)) hk (fun _ h=>h.2)) (fun _ h=>h.1))
       replace HK:=am (aI.trans nI hk (.inl rfl))
       replace HB:=am (hb)
       replace HI0:=am (hi)
       (try clear hb)
       (try clear hb2)
       (try clear hk)
       (try clear hi)
       refine hK.out _ _ ⟨(aA j5.out 0).trans rfl,(aA j5.out 1).trans rfl⟩ (fun hHeld=>?_)
       clear hK K
       refine fB (a':=?_) ?_ ?_
       rotate_left
       ·show Act.put _ (some 14) _=_
        simp only [Act.put,List.setIfInBounds_toArray,List.set_cons_zero,List.set_cons_succ,dS,dV]
        rfl
       exact fB (by simp only [nD,Act.put,List.setIfInBounds_toArray,List.set_cons_zero,List.set_cons_succ]) (hCont (.slice (some ado21) jm.length qE,ado21) _ ⟨hHeld,(iC (Kd.cZ ja.out (fun _ hk=>⟨hk.1.1,hk.2⟩))),(eO (Kd.aD j7.out (fun _ hk=>⟨hk.1.1.1,⟨hk.1.1.2.1,⟨hk.2,⟨hk.1.1.2.2.2,⟨hk.1.1.2.2.1,hk.1.2⟩⟩⟩⟩⟩))),(iC (Kd.cZ jl.out (fun _ hk=>⟨hk.1.1,hk.2⟩))),⟨_,rfl⟩,(aG_ j8.out),(aG_ j5.out),lX,nI,pX⟩)
      ·skip
       refine kU Try.func41 (by kernel_rfl) rfl #[.pointer (some ⟨g,0,none⟩), .int .i64 2] (by rfl) rfl rfl nX ?_
       with_reducible refine (aH.calls k g jj jx 2 jy q3 w0 _ ?side1 ?side2 A5.out).mono ?_
       (case side1=>exact lX)
       (case side2=>exact pX)
       rintro e JN ⟨rfl,hi,hb,hk⟩
       refine ⟨_,rfl,?_⟩
       replace j8:=am (aI.blk hk (g':=j4) (o:= .cells #[.slice none 0 0, .slice none 0 0] 46 (0,0)) (aG_ j8.out) jk.out (by simp))
       replace ja:=am (Kd.cZ (Kd.mF (aQ.apart (show aQ w0 _ g jj jx from lX) (aR_ ja.out) (by decide)) hk (fun _ h=>h.2)) (fun _ h=>h.1))
       replace j7:=am (Kd.aD (Kd.kM (Kd.aD (ok:=fun k_=>((((w.heap.size≤k_))∧(some k_≠(.slice jb j9.length jc:Value).ownBlock∧(k_≠j4∧k_≠g)))∧k_≠j3)) (aN_ j7.out) (fun k_ hk_=>(⟨hk_,hk_.1.2.2.2⟩:_∧k_≠g))) hk (fun _ h=>h.2)) (fun _ h=>h.1))
       replace j5:=am (aI.blk hk (g':=j3) (o:= .cells #[.slice jb j9.length jc, .slice jf j6.length jd] 46 (0,0)) (aG_ j5.out) jA.out (by simp))
       replace HK:=am (aI.trans nI hk (.inl rfl))
       replace HB:=am (hb)
       replace HI0:=am (hi)
       (try clear hb)
       (try clear hb2)
       (try clear hk)
       (try clear hi)
       refine hK.out _ _ ⟨(aA j5.out 0).trans rfl,(aA j5.out 1).trans rfl⟩ (fun hHeld=>?_)
       clear hK K
       refine fB (a':=?_) ?_ ?_
       rotate_left
       ·show Act.put _ (some 14) _=_
        simp only [Act.put,List.setIfInBounds_toArray,List.set_cons_zero,List.set_cons_succ,dS,dV]
        rfl
       refine lH (i:=2) (N:=some 12) (bz 11 31) rfl rfl (gG HT_.out (by kernel_rfl)) (by decide) (fun K hK=>?_)
       refine Kd.yI (Kd.int .i64) _ 3 rfl (N:=12) rfl (xs:=([0,5]:List Int)) (inner:=[.int .i64 0, .int .i64 5]) (ok:=fun _=>True) (okp:=fun _=>True) rn_ ?hp (fun _ hk=>hk) trivial (Below.refl _ _) (Nat.le_refl _) (by simp) ?_;(case hp=>exact (eY.one (show Kd.M (Kd.int .i64) _ _ _ 0 [.int .i64 0] from rfl) (eY.one (show Kd.M (Kd.int .i64) _ _ _ 5 [.int .i64 5] from rfl) (eY.none _ _))))
       intro jW Qh ho21 hb hg_ hnew_
       clear hg_ hnew_
       (first|rw [← jK.out] at ho21|(simp only [Int.reduceToNat] at ho21;rw [← jK.out] at ho21))
       replace j7:=am (Kd.fM (aN_ j7.out) (Kd.iG ho21) hb)
       have jl:=am (Kd.kC (Kd.mZ (Kd.yJ (M:=fun k_=>(w.heap.size≤k_)) ho21 (aW (w:=w) (g:=g) (row:=none) nI) (fun k_ h_=>h_)) (Kd.iY (aR_ ja.out))) (aW (w:=w) (g:=g) (row:=none) nI))
       replace ja:=am (Kd.kN (aR_ ja.out) (Kd.iG ho21) hb)
       replace j8:=bbP j8 hb
       replace j5:=bbP j5 hb
       replace HK:=am (aI.trans nI (aI.of_below hb g none) (.inl rfl))
       replace HB:=am (aG pX hb)
       replace HI0:=am (aQ.below lX hb)
       clear hb ho21
       obtain ⟨JP,J2,J3⟩:=Kd.kP jl.out
       subst J3
       obtain ⟨ado22,fo22,_⟩:=Kd.nJ (Kd.eT jl.out).2.2 0 (by decide) (by rw [jK.out];simp)
       cases fo22
       refine hK.out _ _ ⟨(aA j5.out 0).trans rfl,(aA j5.out 1).trans rfl⟩ (fun hHeld=>?_)
       clear hK K
       refine fB (a':=?_) ?_ ?_
       rotate_left
       ·show Act.put _ (some 12) _=_
        simp only [Act.put,List.setIfInBounds_toArray,List.set_cons_zero,List.set_cons_succ,dS,dV]
        rfl
       exact fB (by simp only [nD,Act.put,List.setIfInBounds_toArray,List.set_cons_zero,List.set_cons_succ]) (hCont (.slice (some ado22) jm.length J2,ado22) _ ⟨hHeld,(iC (Kd.cZ ja.out (fun _ hk=>⟨hk.1.1,hk.2⟩))),(eO (Kd.aD j7.out (fun _ hk=>⟨hk.1.1.1,⟨hk.1.1.2.1,⟨hk.2,⟨hk.1.1.2.2.2,⟨hk.1.1.2.2.1,hk.1.2⟩⟩⟩⟩⟩))),(iC (Kd.cZ jl.out (fun _ hk=>⟨hk.1.1,hk.2⟩))),⟨_,rfl⟩,(aG_ j8.out),(aG_ j5.out),lX,nI,pX⟩)
     rintro ⟨jW,adz_v880⟩ qc ⟨hS_,h0_,h1_,h2_,h3_,h4_,h5_,h6_,h7_,h8_⟩
     replace ja:Aside0 (Kd.R (Kd.int .i64) 3 qc w.heap.size (fun k_=>(w.heap.size≤k_)∧some k_≠(jW:Value).ownBlock) (.slice jb j9.length jc) j9):=⟨h0_⟩
     replace j7:Aside0 (Kd.N (Kd.slice 35 k35) 23 qc w.heap.size (fun k_=>(w.heap.size≤k_)∧some k_≠(.slice jb j9.length jc:Value).ownBlock∧some k_≠(jW:Value).ownBlock∧k_≠g∧k_≠j4∧k_≠j3) (.slice jf j6.length jd) j6):=⟨h1_⟩
     have jl:Aside0 (Kd.R (Kd.int .i64) 3 qc w.heap.size (fun k_=>(w.heap.size≤k_)∧some k_≠(.slice jb j9.length jc:Value).ownBlock) jW jm):=⟨h2_⟩
     have HA_HO881:Aside0 (∃ c_,(jW:Value)= .slice (some adz_v880) jm.length c_):=⟨h3_⟩
     replace j8:Aside0 (qc.heap[j4]?=some (.cells #[.slice none 0 0, .slice none 0 0] 46 (0,0))):=⟨h4_⟩
     replace j5:Aside0 (qc.heap[j3]?=some (.cells #[.slice jb j9.length jc, .slice jf j6.length jd] 46 (0,0))):=⟨h5_⟩
     replace HI0:Aside0 (aQ w0 qc g jj q3):=⟨h6_⟩
     replace HK:Aside0 (aI w qc g none):=⟨h7_⟩
     replace HB:Aside0 (Below w0.heap.size w0 qc):=⟨h8_⟩
     clear h0_ h1_ h2_ h3_ h4_ h5_ h6_ h7_ h8_
     have hHeld:qc.cell? ⟨j3,0,none⟩=some (.slice jb j9.length jc)∧qc.cell? ⟨j3,1,none⟩=some (.slice jf j6.length jd):=hS_
     obtain ⟨qF,J4⟩:=HA_HO881.out
     clear HA_HO881
     subst J4
     refine fB (a':=?_) ?_ ?_
     rotate_left
     ·simp only [nD,Act.put,List.setIfInBounds_toArray,List.set_cons_zero,List.set_cons_succ]
      rfl
     refine pr_ 5 15 (bz 11 63) HT_ ?_
     refine lH (i:=6) (N:=some 16) (bz 11 127) rfl rfl (gG HT_.out (by kernel_rfl)) (by decide) (fun K hK=>?_)
     (have J5:0≤(jy:Int):=of_decide_eq_true gL;have J6:jy < (jm.length:Int):=of_decide_eq_true gL;obtain ⟨qG,J7,qh⟩:=Kd.nJ (Kd.eT jl.out).2.2 jy J5 J6;obtain rfl:adz_v880=qG:=(by injection J7))
     refine CO (w1:=?_) (v:=?_) (by rfl) rfl ?_ ?_
     rotate_left 2
     ·go_simp
      constructor
      ·rfl
      ·rfl
     clear qh
     refine hK.out _ _ ⟨(aA j5.out 0).trans rfl,(aA j5.out 1).trans rfl⟩ (fun hHeld=>?_)
     clear hK K
     refine fB (a':=?_) ?_ ?_
     rotate_left
     ·show Act.put _ (some 16) _=_
      simp only [Act.put,List.setIfInBounds_toArray,List.set_cons_zero,List.set_cons_succ,dS,dV]
      rfl
     refine lH (i:=7) (N:=some 17) (bz 11 255) rfl rfl (gG HT_.out (by kernel_rfl)) (by decide) (fun K hK=>?_)
     refine CO (w1:=?_) (v:=?_) (by rfl) rfl ?_ ?_
     rotate_left 2
     ·go_simp
      constructor
      ·rfl
      ·rfl
     refine hK.out _ _ ⟨(aA (dF j5.out _) 0).trans rfl,(aA (dF j5.out _) 1).trans rfl⟩ (fun hHeld=>?_)
     clear hK K
     refine fB (a':=?_) ?_ ?_
     rotate_left
     ·show Act.put _ (some 17) _=_
      simp only [Act.put,List.setIfInBounds_toArray,List.set_cons_zero,List.set_cons_succ,dS,dV]
      rfl
     refine lH (i:=8) (N:=some 18) (bz 11 511) rfl rfl (gG HT_.out (by kernel_rfl)) (by decide) (fun K hK=>?_)
     refine Kd.uR (Kd.int .i64) w.heap.size (by rfl) (.tmp 11) (.tmp 17) 43 3 (.int .i64 0) 8 rfl Try.underlying43 info3 rfl (by decide) (by omega) (.slice jb j9.length jc) j9 (rd jm jy) [.int .i64 (rd jm jy)] (fun k_=>(w.heap.size≤k_)∧some k_≠(.slice (some adz_v880) jm.length qF:Value).ownBlock) (fun _=>False) rfl rfl ?aP (fun _ hk=>hk.elim) ?aF ?aO (Below.refl _ _) ?aS ?aL ?_
     (case aP=>exact rfl)
     (case aF=>exact (fun k_ hk=>⟨(Nat.le_trans (aW (w:=w) (g:=g) (row:=none) nI) hk),Kd.fresh' (Kd.iY (aR_ jl.out)) k_ hk⟩))
     (case aO=>exact (aR_ ja.out))
     (case aS=>exact (aW (w:=w) (g:=g) (row:=none) nI))
     (case aL=>have:=J0.out;omega)
     intro JQ JR ho hb hg hat
     rw [← qD.out] at ho
     replace j8:=am (gV (g:=j4) (o:= .cells #[.slice none 0 0, .slice none 0 0] 46 (0,0)) (aG_ j8.out) hg (Kd.RD ja.out j8.out (by decide)))
     replace j7:=am (Kd.pQ (ok:=(fun k_=>(w.heap.size≤k_)∧some k_≠(.slice (some adz_v880) jm.length qF:Value).ownBlock∧k_≠g∧k_≠j4∧k_≠j3)) (eO (Kd.aD j7.out (fun _ hk=>⟨⟨hk.1,⟨hk.2.2.1,⟨hk.2.2.2.1,⟨hk.2.2.2.2.1,hk.2.2.2.2.2⟩⟩⟩⟩,hk.2.1⟩))) hg hat)
     replace j5:=am (gV (g:=j3) (o:= .cells #[.slice jb j9.length jc, .slice jf j6.length jd] 46 (0,0)) (aG_ j5.out) hg (Kd.RD ja.out j5.out (by decide)))
     replace jl:=am (Kd.OY (ok:=(fun k_=>(w.heap.size≤k_))) (aR_ jl.out) hg hat)
     replace HB:=am (nA pX HL.out hb)
     replace HI0:=am (aQ.grown lX hg (aQ.own_ne HI0.out ja.out (by decide)))
     replace HK:=am (aI.trans nI (aI.oF hg g) (Kd.KC ja.out))
     have qp:=am (ho)
     clear ja
     clear ho hb hg hat
     obtain ⟨q4,q5,qH⟩:=Kd.kP qp.out
     (first|subst qH|(injection qH with f1_ f2_ f3_;have f4_:=f1_.symm;have f5_:=f3_.symm;clear f1_ f2_ f3_;subst f4_;subst f5_))
     refine hK.out _ _ ⟨(aA j5.out 0).trans rfl,(aA j5.out 1).trans rfl⟩ (fun hHeld=>?_)
     clear hK K
     refine fB (a':=?_) ?_ ?_
     rotate_left
     ·show Act.put _ (some 18) _=_
      simp only [Act.put,List.setIfInBounds_toArray,List.set_cons_zero,List.set_cons_succ,dS,dV]
      rfl
     refine pr_ 9 19 (bz 11 1023) HT_ ?_
     refine wN (i:=10) (N:=none) (bz 11 2047) rfl rfl (gG HT_.out (by kernel_rfl)) (by decide) (fun K hK=>?_)
     have JS:JR.cell? ⟨j3,0,none⟩=some (.slice jb j9.length jc):=(aA j5.out 0).trans rfl
     have hfs27:=aU j5.out 0
     have hns27_0:=je.out
     have hms27_0:=ju.out
     refine rO (w1:=?_) (by rfl) rfl ?_ ?_
     rotate_left
     ·go_simp
      rfl
     refine hK.out _ _ ?_
     clear hK K
     refine pE (lV HT_.out (by kernel_rfl)) ?_
     obtain ⟨zj,zk,zl,zm⟩:=fT j5.out
     have Jv:=jk.out
     have Jw:=NB0_868.out
     obtain ⟨zn,zo,zp,zq⟩:=fT j8.out
     try go_wp2
     refine bodyPost_ret (results_cell_row rfl _ _ j4 46 #[.slice q4 jV.length q5, .slice jf j6.length jd] (0,0) _ rfl (aM (aM (aZ j8.out je.out _) 0 _ rfl) 1 _ rfl) Try.underlying46 rfl (by kernel_rfl)) rfl ?_
     exact ⟨_,_,iM,iC (Kd.cZ (Kd.dM (p:=⟨j4,1,none⟩) (Kd.dM (p:=⟨j4,0,none⟩) (Kd.dM (p:=⟨j3,0,none⟩) (Kd.eF (Kd.eF qp.out j5.out (by decide)) j8.out (by decide)) (fun _ hk=>hk.1.2) (.slice q4 jV.length q5)) (fun _ hk=>hk.2) (.slice q4 jV.length q5)) (fun _ hk=>hk.2) (.slice jf j6.length jd)) (fun _ hk=>hk.1.1.1)),eO (Kd.aD (Kd.aT (p:=⟨j4,1,none⟩) (Kd.aT (p:=⟨j4,0,none⟩) (Kd.aT (p:=⟨j3,0,none⟩) (Kd.aD (Kd.aD j7.out (fun k_ hk=>(⟨hk,hk.1.2.2.2.2⟩:_∧k_≠j3))) (fun k_ hk=>(⟨hk,hk.1.1.2.2.2.1⟩:_∧k_≠j4))) (fun _ hk=>hk.1.2) (.slice q4 jV.length q5)) (fun _ hk=>hk.2) (.slice q4 jV.length q5)) (fun _ hk=>hk.2) (.slice jf j6.length jd)) (fun _ hk=>⟨hk.1.1.1.1,hk.1.1.2⟩)),lX,pX,nI⟩
    rw [if_neg c8] at H
    exact absurd H (by simp)
   rw [if_neg c7] at H
   exact absurd H (by simp)
  rw [if_neg c6] at H
  exact absurd H (by simp)
 rw [if_neg c4] at H
 have zY:(ji == 0)=false:=beq_eq_false_iff_ne.mpr c4
 have zZ:(ji != 0)=true:=bne_iff_ne.mpr c4
 by_cases qw:ji=1
 ·rw [if_pos qw] at H
  have qI:(ji == 1)=true:=beq_iff_eq.mpr qw
  have qJ:(ji != 1)=false:=bne_eq_false_iff_eq.mpr qw
  clear qw
  obtain ⟨⟨jM,jN,jO,qx⟩,JT,H⟩:=bsa H
  (try dsimp only at H)
  obtain ⟨qi,hy_⟩:∃ y_:List (S35),y_=(([(⟨4,0,(j9.length:Int),(⟨jM,jN,jO⟩:S32),([]:List (S35)),([]:List (S35))⟩:S35)]:List (S35))):=⟨_,rfl⟩
  replace H:(if j6.length < 5864062014805 then (some (j9,(j6 ++ [qi]),qx)) else (none))=some (r1,r2,r3):=rx_
  have qq:=am hy_
  clear hy_
  by_cases zr:j6.length < 5864062014805
  ·rw [if_pos zr] at H
   have qK:=am zr
   clear zr
   obtain ⟨jX,hy_⟩:∃ y_:List (List (S35)),y_=(j6 ++ [qi]):=⟨_,rfl⟩
   replace H:(some (j9,jX,qx))=some (r1,r2,r3):=rx_
   have qL:=am hy_
   clear hy_
   simp only [Option.some.injEq,Prod.mk.injEq] at H
   obtain ⟨rfl,rfl,rfl⟩:=H
   have jQ:=am (BP j7.out)
   clear j7
   have j7:=jQ
   clear jQ
   try go_wp2
   replace ja:=am (Kd.vC ja.out)
   replace j7:=am (Kd.nO j7.out)
   replace j8:=am (bT j8.out)
   replace j5:=am (bT j5.out)
   replace HI0:=am (aQ.drew HI0.out)
   replace HK:=am (gW HK.out)
   replace HB:=am (bG HB.out)
   refine mR (n:=13) (S:=fun w'=>w'.cell? ⟨j3,0,none⟩=some (.slice jb j9.length jc)∧w'.cell? ⟨j3,1,none⟩=some (.slice jf j6.length jd)) (ds:=[12]) (bz 13 0) (by kernel_rfl) rfl rfl ⟨(aA j5.out 0).trans rfl,(aA j5.out 1).trans rfl⟩ (fun hHeld=>?_);refine kE dN.CJ dN.uW (fun HT_ HW_=>?_)
   generalize jL.drew=Qi at ja j7 j8 j5 HI0 HK HB hHeld ⊢
   refine pr_ 0 22 (bz 13 1) HT_ ?_
   refine pr_ 2 24 (bz 13 5) HT_ ?_
   refine pr_ 5 27 (bz 13 37) HT_ ?_
   refine RZ 1 23 (bz 13 39) HT_ HW_ hHeld ?_
   refine RZ 3 25 (bz 13 47) HT_ HW_ hHeld ?_
   refine pr_ 4 26 (bz 13 63) HT_ ?_
   refine lH (i:=6) (N:=some 28) (bz 13 127) rfl rfl (gG HT_.out (by kernel_rfl)) (by decide) (fun K hK=>?_)
   refine kU Try.func75 (by kernel_rfl) rfl #[.pointer (some ⟨g,0,none⟩)] (by rfl) rfl rfl nX ?_
   with_reducible refine (gT.calls k g jj jx jM jN jO qx w0 _ ?side1 ?side2 JT.out).mono ?_
   (case side1=>exact lX)
   (case side2=>exact pX)
   rintro e JU ⟨JV,rfl,ho0,hi,hb,hk⟩
   refine ⟨_,rfl,?_⟩
   have jR:=am (Kd.dH (Kd.aD (ok':=fun k_=>(w.heap.size≤k_)∧some k_≠(.slice jb j9.length jc:Value).ownBlock∧some k_≠(.slice jf j6.length jd:Value).ownBlock∧k_≠j4∧k_≠j3∧k_≠g) (Kd.R_N (Kd.mK ho0)) (fun k_ hk_=>⟨(Nat.le_trans (aW (w:=w) (g:=g) (row:=none) nI) hk_.2.1),(Kd.fresh' (Kd.iY (aR_ ja.out)) k_ hk_.2.1),(Kd.fresh' (Kd.iH (aN_ j7.out)) k_ hk_.2.1),(fG j8.out k_ hk_.2.1),(fG j5.out k_ hk_.2.1),(aQ.fresh lX k_ hk_.2.1)⟩)) (aW (w:=w) (g:=g) (row:=none) nI))
   replace j8:=am (aI.blk hk (g':=j4) (o:= .cells #[.slice none 0 0, .slice none 0 0] 46 (0,0)) (aG_ j8.out) jk.out (by simp))
   replace ja:=am (Kd.cZ (Kd.mF (aQ.apart (show aQ w0 _ g jj jx from lX) (aR_ ja.out) (by decide)) hk (fun _ h=>h.2)) (fun _ h=>h.1))
   replace j7:=am (Kd.aD (Kd.gZ (Kd.uP (Kd.aD (ok:=fun k_=>((((w.heap.size≤k_))∧(some k_≠(.slice jb j9.length jc:Value).ownBlock∧(k_≠j4∧k_≠g)))∧k_≠j3)) (aN_ j7.out) (fun k_ hk_=>(⟨hk_,hk_.1.2.2.2⟩:_∧k_≠g))) hk) (by first|exact Kd.dL ho0|exact Kd.dL (Kd.R_N ho0))) (fun _ h_=>h_.1))
   replace j5:=am (aI.blk hk (g':=j3) (o:= .cells #[.slice jb j9.length jc, .slice jf j6.length jd] 46 (0,0)) (aG_ j5.out) jA.out (by simp))
   replace HK:=am (aI.trans nI hk (.inl rfl))
   replace HB:=am (hb)
   replace HI0:=am (hi)
   (try clear hb)
   (try clear hb2)
   (try clear hk)
   (try clear hi)
   (try clear ho0)
   obtain ⟨qM,qN,qO⟩:=Kd.dD jR.out
   (first|subst qO|(injection qO with f1_ f2_ f3_;have f4_:=f1_.symm;have f5_:=f3_.symm;clear f1_ f2_ f3_;subst f4_;subst f5_))
   refine hK.out _ _ ⟨(aA j5.out 0).trans rfl,(aA j5.out 1).trans rfl⟩ (fun hHeld=>?_)
   clear hK K
   refine fB (a':=?_) ?_ ?_
   rotate_left
   ·show Act.put _ (some 28) _=_
    simp only [Act.put,List.setIfInBounds_toArray,List.set_cons_zero,List.set_cons_succ,dS,dV]
    rfl
   refine pr_ 7 29 (bz 13 255) HT_ ?_
   refine lH (i:=8) (N:=some 30) (bz 13 511) rfl rfl (gG HT_.out (by kernel_rfl)) (by decide) (fun K hK=>?_)
   refine Kd.rP k35 _ 35 rfl (N':=30) rfl (xs:=([(⟨4,0,(j9.length:Int),(⟨jM,jN,jO⟩:S32),([]:List (S35)),([]:List (S35))⟩:S35)]:List (S35))) (inner:=[.int .i64 4, .int .i64 0, .int .i64 (j9.length:Int), .int .i64 jM, .int .i64 jN, .slice qM jO.length qN, .slice none 0 0, .slice none 0 0]) (ok:=(fun k_=>(w.heap.size≤k_)∧some k_≠(.slice jb j9.length jc:Value).ownBlock∧some k_≠(.slice jf j6.length jd:Value).ownBlock∧k_≠j4∧k_≠j3∧k_≠g)) (okp:=(fun k_=>(w.heap.size≤k_)∧some k_≠(.slice jb j9.length jc:Value).ownBlock∧some k_≠(.slice jf j6.length jd:Value).ownBlock∧k_≠j4∧k_≠j3∧k_≠g)) rn_ ?hp (fun _ hk=>hk) ((show ∀ k_,JU.heap.size≤k_→(fun k_=>(w.heap.size≤k_)∧some k_≠(.slice jb j9.length jc:Value).ownBlock∧some k_≠(.slice jf j6.length jd:Value).ownBlock∧k_≠j4∧k_≠j3∧k_≠g) k_ from fun k_ hk=>⟨(Nat.le_trans (aW (w:=w) (g:=g) (row:=none) nI) hk),Kd.fresh' (Kd.iY (aR_ ja.out)) k_ hk,Kd.fresh' (Kd.iH (aN_ j7.out)) k_ hk,fG j8.out k_ hk,fG j5.out k_ hk,aQ.fresh lX k_ hk⟩) _ (Nat.le_refl _)) (Below.refl _ _) (Nat.le_refl _) (by simp) ?_;(case hp=>exact (eY.c8 (show Kd.FK k35 _ _ (⟨4,0,(j9.length:Int),(⟨jM,jN,jO⟩:S32),([]:List (S35)),([]:List (S35))⟩:S35) [.int .i64 4, .int .i64 0, .int .i64 (j9.length:Int), .int .i64 jM, .int .i64 jN, .slice qM jO.length qN, .slice none 0 0, .slice none 0 0] from (kY _ _ (⟨4,0,(j9.length:Int),(⟨jM,jN,jO⟩:S32),([]:List (S35)),([]:List (S35))⟩:S35) (Kd.bN (Kd.aD (ok':=(fun k_=>(w.heap.size≤k_)∧some k_≠(.slice jb j9.length jc:Value).ownBlock∧some k_≠(.slice jf j6.length jd:Value).ownBlock∧k_≠j4∧k_≠j3∧k_≠g)) (jR.out) (fun k_ hk=>⟨hk.1,⟨hk.2.1,⟨hk.2.2.1,⟨hk.2.2.2.1,⟨hk.2.2.2.2.1,hk.2.2.2.2.2⟩⟩⟩⟩⟩))).2.1 (Kd.N_F (Kd.aD (ok':=(fun k_=>(w.heap.size≤k_)∧some k_≠(.slice jb j9.length jc:Value).ownBlock∧some k_≠(.slice jf j6.length jd:Value).ownBlock∧k_≠j4∧k_≠j3∧k_≠g)) (jR.out) (fun k_ hk=>⟨hk.1,⟨hk.2.1,⟨hk.2.2.1,⟨hk.2.2.2.1,⟨hk.2.2.2.2.1,hk.2.2.2.2.2⟩⟩⟩⟩⟩))) (Nat.le_refl _) (Kd.mU _ _ _) (Nat.le_refl _) (Kd.mU _ _ _))) (eY.none _ _)))
   intro JW Qj ho47 hb hg_ hnew_
   clear hg_ hnew_
   (first|rw [← qq.out] at ho47|(simp only [Int.reduceToNat] at ho47;rw [← qq.out] at ho47))
   replace ja:=am (Kd.dW (aR_ ja.out) hb)
   replace j7:=am (Kd.fM (aN_ j7.out) (Kd.dL ho47) hb)
   have jS:=am (Kd.dH ho47 (aW (w:=w) (g:=g) (row:=none) nI))
   replace j8:=bbP j8 hb
   replace j5:=bbP j5 hb
   replace HK:=am (aI.trans nI (aI.of_below hb g none) (.inl rfl))
   replace HB:=am (aG pX hb)
   replace HI0:=am (aQ.below lX hb)
   clear jR
   clear hb ho47
   obtain ⟨J8,J9,qP⟩:=Kd.dD jS.out
   (first|subst qP|(injection qP with f1_ f2_ f3_;have f4_:=f1_.symm;have f5_:=f3_.symm;clear f1_ f2_ f3_;subst f4_;subst f5_))
   refine hK.out _ _ ⟨(aA j5.out 0).trans rfl,(aA j5.out 1).trans rfl⟩ (fun hHeld=>?_)
   clear hK K
   refine fB (a':=?_) ?_ ?_
   rotate_left
   ·show Act.put _ (some 30) _=_
    simp only [Act.put,List.setIfInBounds_toArray,List.set_cons_zero,List.set_cons_succ,dS,dV]
    rfl
   refine lH (i:=9) (N:=some 31) (bz 13 1023) rfl rfl (gG HT_.out (by kernel_rfl)) (by decide) (fun K hK=>?_)
   refine CO (w1:=?_) (v:=?_) (by rfl) rfl ?_ ?_
   rotate_left 2
   ·go_simp
    constructor
    ·rfl
    ·rfl
   refine hK.out _ _ ⟨(aA (dF j5.out _) 0).trans rfl,(aA (dF j5.out _) 1).trans rfl⟩ (fun hHeld=>?_)
   clear hK K
   refine fB (a':=?_) ?_ ?_
   rotate_left
   ·show Act.put _ (some 31) _=_
    simp only [Act.put,List.setIfInBounds_toArray,List.set_cons_zero,List.set_cons_succ,dS,dV]
    rfl
   refine lH (i:=10) (N:=some 32) (bz 13 2047) rfl rfl (gG HT_.out (by kernel_rfl)) (by decide) (fun K hK=>?_)
   refine Kd.uO (Kd.slice 35 k35) w.heap.size (by rfl) (.tmp 23) (.tmp 31) 44 23 (.slice none 0 0) 24 rfl Try.underlying44 ET rfl (by decide) (by omega) (.slice jf j6.length jd) j6 qi [.slice J8 qi.length J9] (fun k_=>(w.heap.size≤k_)∧some k_≠(.slice jb j9.length jc:Value).ownBlock∧k_≠j4∧k_≠j3∧k_≠g) (fun k_=>((fun k_=>(w.heap.size≤k_)∧some k_≠(.slice jb j9.length jc:Value).ownBlock∧k_≠j4∧k_≠j3∧k_≠g)) k_∧some k_≠(.slice jf j6.length jd:Value).ownBlock) rfl rfl ?aP (fun _ hk=>hk) ?aF ?aO (Below.refl _ _) ?aS ?aL ?_
   (case aP=>exact (Kd.kW (Kd.bN (Kd.aD (ok':=(fun k_=>((fun k_=>(w.heap.size≤k_)∧some k_≠(.slice jb j9.length jc:Value).ownBlock∧k_≠j4∧k_≠j3∧k_≠g)) k_∧some k_≠(.slice jf j6.length jd:Value).ownBlock)) (jS.out) (fun k_ hk=>⟨⟨hk.1,⟨hk.2.1,⟨hk.2.2.2.1,⟨hk.2.2.2.2.1,hk.2.2.2.2.2⟩⟩⟩⟩,hk.2.2.1⟩))).2.1 (Kd.N_F (Kd.aD (ok':=(fun k_=>((fun k_=>(w.heap.size≤k_)∧some k_≠(.slice jb j9.length jc:Value).ownBlock∧k_≠j4∧k_≠j3∧k_≠g)) k_∧some k_≠(.slice jf j6.length jd:Value).ownBlock)) (jS.out) (fun k_ hk=>⟨⟨hk.1,⟨hk.2.1,⟨hk.2.2.2.1,⟨hk.2.2.2.2.1,hk.2.2.2.2.2⟩⟩⟩⟩,hk.2.2.1⟩)))))
   (case aF=>exact (fun k_ hk=>⟨(Nat.le_trans (aW (w:=w) (g:=g) (row:=none) nI) hk),Kd.fresh' (Kd.iY (aR_ ja.out)) k_ hk,fG j8.out k_ hk,fG j5.out k_ hk,aQ.fresh lX k_ hk⟩))
   (case aO=>exact (eO (Kd.aD j7.out (fun _ hk=>⟨hk.1.1.1.1,⟨hk.1.1.1.2.1,⟨hk.1.1.1.2.2.1,⟨hk.1.1.2,hk.1.1.1.2.2.2⟩⟩⟩⟩))))
   (case aS=>exact (aW (w:=w) (g:=g) (row:=none) nI))
   (case aL=>have:=qK.out;omega)
   intro JX JY ho hb hg hat
   rw [← qL.out] at ho
   replace j8:=am (gV (g:=j4) (o:= .cells #[.slice none 0 0, .slice none 0 0] 46 (0,0)) (aG_ j8.out) hg (Kd.BN j7.out j8.out (by decide)))
   replace ja:=am (Kd.wW (aR_ ja.out) (Kd.vB (aN_ j7.out)) (by decide) hg)
   replace j5:=am (gV (g:=j3) (o:= .cells #[.slice jb j9.length jc, .slice jf j6.length jd] 46 (0,0)) (aG_ j5.out) hg (Kd.BN j7.out j5.out (by decide)))
   replace HB:=am (nA pX HL.out hb)
   replace HI0:=am (aQ.grown lX hg (aQ.BD HI0.out j7.out (by decide)))
   replace HK:=am (aI.trans nI (aI.oF hg g) (Kd.DT j7.out))
   have qr:=am (ho)
   clear j7 jS
   clear ho hb hg hat
   obtain ⟨q6,q7,qQ⟩:=Kd.dD qr.out
   (first|subst qQ|(injection qQ with f1_ f2_ f3_;have f4_:=f1_.symm;have f5_:=f3_.symm;clear f1_ f2_ f3_;subst f4_;subst f5_))
   refine hK.out _ _ ⟨(aA j5.out 0).trans rfl,(aA j5.out 1).trans rfl⟩ (fun hHeld=>?_)
   clear hK K
   refine fB (a':=?_) ?_ ?_
   rotate_left
   ·show Act.put _ (some 32) _=_
    simp only [Act.put,List.setIfInBounds_toArray,List.set_cons_zero,List.set_cons_succ,dS,dV]
    rfl
   refine pr_ 11 33 (bz 13 4095) HT_ ?_
   refine wN (i:=12) (N:=none) (bz 13 8191) rfl rfl (gG HT_.out (by kernel_rfl)) (by decide) (fun K hK=>?_)
   have JZ:JY.cell? ⟨j3,1,none⟩=some (.slice jf j6.length jd):=(aA j5.out 1).trans rfl
   have hfs51:=aU j5.out 1
   have hns51_0:=je.out
   have hms51_0:=ju.out
   refine rO (w1:=?_) (by rfl) rfl ?_ ?_
   rotate_left
   ·go_simp
    rfl
   refine hK.out _ _ ?_
   clear hK K
   refine pE (lV HT_.out (by kernel_rfl)) ?_
   obtain ⟨zs,zt,zu,zv⟩:=fT j5.out
   have Jx:=jk.out
   have Jy:=NB0_868.out
   obtain ⟨zw,zx,zy,zz⟩:=fT j8.out
   try go_wp2
   refine bodyPost_ret (results_cell_row rfl _ _ j4 46 #[.slice jb j9.length jc, .slice q6 jX.length q7] (0,0) _ rfl (aM (aM (aZ j8.out je.out _) 0 _ rfl) 1 _ rfl) Try.underlying46 rfl (by kernel_rfl)) rfl ?_
   exact ⟨_,_,iM,iC (Kd.cZ (Kd.dM (p:=⟨j4,1,none⟩) (Kd.dM (p:=⟨j4,0,none⟩) (Kd.dM (p:=⟨j3,1,none⟩) (Kd.eF (Kd.eF ja.out j5.out (by decide)) j8.out (by decide)) (fun _ hk=>hk.1.2) (.slice q6 jX.length q7)) (fun _ hk=>hk.2) (.slice jb j9.length jc)) (fun _ hk=>hk.2) (.slice q6 jX.length q7)) (fun _ hk=>hk.1.1.1)),eO (Kd.aD (Kd.aT (p:=⟨j4,1,none⟩) (Kd.aT (p:=⟨j4,0,none⟩) (Kd.aT (p:=⟨j3,1,none⟩) (Kd.aD (Kd.aD qr.out (fun k_ hk=>(⟨hk,hk.2.2.2.1⟩:_∧k_≠j3))) (fun k_ hk=>(⟨hk,hk.1.2.2.1⟩:_∧k_≠j4))) (fun _ hk=>hk.1.2) (.slice q6 jX.length q7)) (fun _ hk=>hk.2) (.slice jb j9.length jc)) (fun _ hk=>hk.2) (.slice q6 jX.length q7)) (fun _ hk=>⟨hk.1.1.1,hk.1.1.2.1⟩)),lX,pX,nI⟩
  rw [if_neg zr] at H
  exact absurd H (by simp)
 rw [if_neg qw] at H
 have qI:(ji == 1)=false:=beq_eq_false_iff_ne.mpr qw
 have qJ:(ji != 1)=true:=bne_iff_ne.mpr qw
 by_cases qy:ji=2
 ·rw [if_pos qy] at H
  have qR:(ji == 2)=true:=beq_iff_eq.mpr qy
  have qS:(ji != 2)=false:=bne_eq_false_iff_eq.mpr qy
  clear qy
  obtain ⟨jY,hy_⟩:∃ y_:List (List (S35)),y_=(([]:List (List (S35)))):=⟨_,rfl⟩
  replace H:(some (j9,jY,jx))=some (r1,r2,r3):=rx_
  have qs:=am hy_
  clear hy_
  simp only [Option.some.injEq,Prod.mk.injEq] at H
  obtain ⟨rfl,rfl,rfl⟩:=H
  have jQ:=am (BP j7.out)
  clear j7
  have j7:=jQ
  clear jQ
  go_wp2_with (first|((with_reducible refine bQ (N:=36) rfl ?_);refine Kd.oQ (Kd.slice 35 k35) _ 23 rfl (N':=36) rfl (xs:=([]:List (List (S35)))) (inner:=[]) (ok:=(fun k_=>(w.heap.size≤k_)∧some k_≠(.slice jb j9.length jc:Value).ownBlock∧some k_≠(.slice jf j6.length jd:Value).ownBlock∧k_≠j4∧k_≠j3∧k_≠g)) (okp:=(fun k_=>(w.heap.size≤k_)∧some k_≠(.slice jb j9.length jc:Value).ownBlock∧some k_≠(.slice jf j6.length jd:Value).ownBlock∧k_≠j4∧k_≠j3∧k_≠g)) rn_ ?hp (fun _ hk=>hk) ((show ∀ k_,jL.heap.size≤k_→(fun k_=>(w.heap.size≤k_)∧some k_≠(.slice jb j9.length jc:Value).ownBlock∧some k_≠(.slice jf j6.length jd:Value).ownBlock∧k_≠j4∧k_≠j3∧k_≠g) k_ from fun k_ hk=>⟨(Nat.le_trans (aW (w:=w) (g:=g) (row:=none) nI) hk),Kd.fresh' (Kd.iY (aR_ ja.out)) k_ hk,Kd.fresh' (Kd.iH (aN_ j7.out)) k_ hk,fG j8.out k_ hk,fG j5.out k_ hk,aQ.fresh lX k_ hk⟩) _ (Nat.le_refl _)) (Below.refl _ _) (Nat.le_refl _) (by simp) ?_;(case hp=>exact (eY.none _ _));intro Q0 Qk ho66 hb hg_ hnew_;clear hg_ hnew_;(first|rw [← qs.out] at ho66|(simp only [Int.reduceToNat] at ho66;rw [← qs.out] at ho66));replace ja:=am (Kd.dW (aR_ ja.out) hb);replace j7:=am (Kd.fM (aN_ j7.out) (Kd.dL ho66) hb);have qt:=am (Kd.dH ho66 (aW (w:=w) (g:=g) (row:=none) nI));replace j8:=bbP j8 hb;replace j5:=bbP j5 hb;replace HK:=am (aI.trans nI (aI.of_below hb g none) (.inl rfl));replace HB:=am (aG pX hb);replace HI0:=am (aQ.below lX hb);clear hb ho66;obtain ⟨q8,q9,Ja⟩:=Kd.dD qt.out;subst Ja;obtain ⟨zA,zB,zC,zD⟩:=fT j5.out;have Jz:=jk.out;have JA:=NB0_868.out;obtain ⟨zE,zF,zG,zH⟩:=fT j8.out))
  refine bodyPost_ret (results_cell_row rfl _ _ j4 46 #[.slice jb j9.length jc, .slice q8 jY.length q9] (0,0) _ rfl (aM (aM (aZ j8.out je.out _) 0 _ rfl) 1 _ rfl) Try.underlying46 rfl (by kernel_rfl)) rfl ?_
  exact ⟨_,_,iM,iC (Kd.cZ (Kd.dM (p:=⟨j4,1,none⟩) (Kd.dM (p:=⟨j4,0,none⟩) (Kd.dM (p:=⟨j3,1,none⟩) (Kd.eF (Kd.eF ja.out j5.out (by decide)) j8.out (by decide)) (fun _ hk=>hk.1.2) (.slice q8 jY.length q9)) (fun _ hk=>hk.2) (.slice jb j9.length jc)) (fun _ hk=>hk.2) (.slice q8 jY.length q9)) (fun _ hk=>hk.1.1.1)),eO (Kd.aD (Kd.aT (p:=⟨j4,1,none⟩) (Kd.aT (p:=⟨j4,0,none⟩) (Kd.aT (p:=⟨j3,1,none⟩) (Kd.aD (Kd.aD qt.out (fun k_ hk=>(⟨hk,hk.2.2.2.2.1⟩:_∧k_≠j3))) (fun k_ hk=>(⟨hk,hk.1.2.2.2.1⟩:_∧k_≠j4))) (fun _ hk=>hk.1.2) (.slice q8 jY.length q9)) (fun _ hk=>hk.2) (.slice jb j9.length jc)) (fun _ hk=>hk.2) (.slice q8 jY.length q9)) (fun _ hk=>⟨hk.1.1.1,hk.1.1.2.1⟩)),lX,pX,nI⟩
 rw [if_neg qy] at H
 have qR:(ji == 2)=false:=beq_eq_false_iff_ne.mpr qy
 have qS:(ji != 2)=true:=bne_iff_ne.mpr qy
 by_cases qz:ji=3
 ·rw [if_pos qz] at H
  have qT:(ji == 3)=true:=beq_iff_eq.mpr qz
  have qU:(ji != 3)=false:=bne_eq_false_iff_eq.mpr qz
  clear qz
  by_cases zI:0 < (j6.length:Int)
  ·rw [if_pos zI] at H
   have JB:decide (0 < (j6.length:Int))=true:=decide_eq_true zI
   have JC:decide (0 < j6.length)=true:=decide_eq_true (by omega)
   clear zI
   obtain ⟨jF,hy_⟩:∃ y_:List (List (S35)),y_=(([fJ j6 0,fJ j6 0,fJ j6 0]:List (List (S35)))):=⟨_,rfl⟩
   replace H:(if j6.length + jF.length < 5864062014805 then (some (j9,(j6 ++ jF),jx)) else (none))=some (r1,r2,r3):=rx_
   have qu:=am hy_
   clear hy_
   by_cases zJ:j6.length + jF.length < 5864062014805
   ·rw [if_pos zJ] at H
    have qV:=am zJ
    clear zJ
    obtain ⟨jZ,hy_⟩:∃ y_:List (List (S35)),y_=(j6 ++ jF):=⟨_,rfl⟩
    replace H:(some (j9,jZ,jx))=some (r1,r2,r3):=rx_
    have qW:=am hy_
    clear hy_
    simp only [Option.some.injEq,Prod.mk.injEq] at H
    obtain ⟨rfl,rfl,rfl⟩:=H
    have jQ:=am (BP j7.out)
    clear j7
    have j7:=jQ
    clear jQ
    try go_wp2
    replace ja:=am (Kd.vC ja.out)
    replace j7:=am (Kd.nO j7.out)
    replace j8:=am (bT j8.out)
    replace j5:=am (bT j5.out)
    replace HI0:=am (aQ.drew HI0.out)
    replace HK:=am (gW HK.out)
    replace HB:=am (bG HB.out)
    have qj:0≤(0:Int):=(by omega)
    have qk:0 < (j6.length:Int):=of_decide_eq_true gL
    obtain ⟨jh,jn,jo,Jb,jp,hl903_0,hi903_0⟩:=sF (Kd.bN j7.out).2.2 0 qj qk
    cases Jb
    obtain ⟨ce903,hce903,hMe903,hcc903⟩:=Kd.SK j7.out [] 0 qj (by first|exact qk|exact of_decide_eq_true gL|(have e_:=(Kd.bN j7.out).1;omega))
    obtain ⟨ua903_0,uc903_0,rfl,ul903_0,ge903_0⟩:=Kd.nZ hMe903
    have hv903_0:=hcc903 0 _ rfl
    rw [Nat.add_zero,show ((Kd.slice 35 k35)).sz=1 from rfl,Nat.mul_one] at hv903_0
    replace hv903_0:=Option.some.inj (hv903_0.symm.trans jp)
    injection hv903_0 with hva_ hvn_ hvc_
    rw [hva_] at ge903_0
    rw [hvc_] at ul903_0
    have jq:=am (show Kd.V k35 35 _ w.heap.size _ _ (fJ j6 0) from Kd.aBo ul903_0 ge903_0)
    clear hva_ hvn_ hvc_ ge903_0 ul903_0
    clear hcc903 hce903
    have JD:(0 < j6.length)=True:=eq_true (by omega)
    (try rw [show ((0:Int)).toNat=0 from rfl] at jp)
    (try rw [Addr.add_zero'] at jp)
    have jC:=am hi903_0
    have zK:=am hl903_0
    clear hi903_0 hl903_0
    replace qj:=eq_true qj
    replace qk:=eq_true qk
    have ql:0≤(0:Int):=(by omega)
    have qm:0 < (j6.length:Int):=of_decide_eq_true gL
    obtain ⟨qX,Jc,Jd,Je,jv,hl904_0,hi904_0⟩:=sF (Kd.bN j7.out).2.2 0 ql qm
    obtain rfl:jh=qX:=(by injection Je)
    obtain ⟨ce904,hce904,hMe904,hcc904⟩:=Kd.SK j7.out [] 0 ql (by first|exact qm|exact of_decide_eq_true gL|(have e_:=(Kd.bN j7.out).1;omega))
    obtain ⟨ua904_0,uc904_0,rfl,ul904_0,ge904_0⟩:=Kd.nZ hMe904
    have hv904_0:=hcc904 0 _ rfl
    rw [Nat.add_zero,show ((Kd.slice 35 k35)).sz=1 from rfl,Nat.mul_one] at hv904_0
    replace hv904_0:=Option.some.inj (hv904_0.symm.trans jv)
    injection hv904_0 with hva_ hvn_ hvc_
    rw [hva_] at ge904_0
    rw [hvc_] at ul904_0
    have jr:=am (show Kd.V k35 35 _ w.heap.size _ _ (fJ j6 0) from Kd.aBo ul904_0 ge904_0)
    clear hva_ hvn_ hvc_ ge904_0 ul904_0
    clear hcc904 hce904
    have JE:(0 < j6.length)=True:=eq_true (by omega)
    (try rw [show ((0:Int)).toNat=0 from rfl] at jv)
    (try rw [Addr.add_zero'] at jv)
    have jD:=am hi904_0
    have zL:=am hl904_0
    clear hi904_0 hl904_0
    replace ql:=eq_true ql
    replace qm:=eq_true qm
    have ea_:=Option.some.inj (jp.symm.trans jv)
    injection ea_ with ea_ en_ ec_
    subst ea_
    subst ec_
    clear en_
    have qn:0≤(0:Int):=(by omega)
    have qo:0 < (j6.length:Int):=of_decide_eq_true gL
    obtain ⟨qY,Jf,Jg,Jh,jw,hl905_0,hi905_0⟩:=sF (Kd.bN j7.out).2.2 0 qn qo
    obtain rfl:jh=qY:=(by injection Jh)
    obtain ⟨ce905,hce905,hMe905,hcc905⟩:=Kd.SK j7.out [] 0 qn (by first|exact qo|exact of_decide_eq_true gL|(have e_:=(Kd.bN j7.out).1;omega))
    obtain ⟨ua905_0,uc905_0,rfl,ul905_0,ge905_0⟩:=Kd.nZ hMe905
    have hv905_0:=hcc905 0 _ rfl
    rw [Nat.add_zero,show ((Kd.slice 35 k35)).sz=1 from rfl,Nat.mul_one] at hv905_0
    replace hv905_0:=Option.some.inj (hv905_0.symm.trans jw)
    injection hv905_0 with hva_ hvn_ hvc_
    rw [hva_] at ge905_0
    rw [hvc_] at ul905_0
    have js:=am (show Kd.V k35 35 _ w.heap.size _ _ (fJ j6 0) from Kd.aBo ul905_0 ge905_0)
    clear hva_ hvn_ hvc_ ge905_0 ul905_0
    clear hcc905 hce905
    have JF:(0 < j6.length)=True:=eq_true (by omega)
    (try rw [show ((0:Int)).toNat=0 from rfl] at jw)
    (try rw [Addr.add_zero'] at jw)
    have jE:=am hi905_0
    have zM:=am hl905_0
    clear hi905_0 hl905_0
    replace qn:=eq_true qn
    replace qo:=eq_true qo
    have ea_:=Option.some.inj (jp.symm.trans jw)
    injection ea_ with ea_ en_ ec_
    subst ea_
    subst ec_
    clear en_
    refine mR (n:=18) (S:=fun w'=>w'.cell? ⟨j3,0,none⟩=some (.slice jb j9.length jc)∧w'.cell? ⟨j3,1,none⟩=some (.slice (some jh) j6.length jd)∧w'.cell? jh=some (.slice jn (fJ j6 0).length jo)∧w'.cell? jh=some (.slice jn (fJ j6 0).length jo)∧w'.cell? jh=some (.slice jn (fJ j6 0).length jo)) (ds:=[15,17]) (bz 18 0) (by kernel_rfl) rfl rfl ⟨(aA j5.out 0).trans rfl,(aA j5.out 1).trans rfl,jp,jv,jw⟩ (fun hHeld=>?_);refine kE dN.aCr dN.aBr (fun HT_ HW_=>?_)
    generalize jL.drew=Q1 at ja j7 j8 j5 HI0 HK HB jq jr js jC jD jE jp jv jw hHeld ⊢
    refine pr_ 0 40 (bz 18 1) HT_ ?_
    refine pr_ 2 42 (bz 18 5) HT_ ?_
    refine pr_ 6 46 (bz 18 69) HT_ ?_
    refine pr_ 10 50 (bz 18 1093) HT_ ?_
    refine GI 1 41 (bz 18 1095) HT_ HW_ hHeld ?_
    refine GI 3 43 (bz 18 1103) HT_ HW_ hHeld ?_
    refine pr_ 4 44 (bz 18 1119) HT_ ?_
    refine GI 5 45 (bz 18 1151) HT_ HW_ hHeld ?_
    refine GI 7 47 (bz 18 1279) HT_ HW_ hHeld ?_
    refine pr_ 8 48 (bz 18 1535) HT_ ?_
    refine GI 9 49 (bz 18 2047) HT_ HW_ hHeld ?_
    refine GI 11 51 (bz 18 4095) HT_ HW_ hHeld ?_
    refine pr_ 12 52 (bz 18 8191) HT_ ?_
    refine GI 13 53 (bz 18 16383) HT_ HW_ hHeld ?_
    refine lH (i:=14) (N:=some 54) (bz 18 32767) rfl rfl (gG HT_.out (by kernel_rfl)) (by decide) (fun K hK=>?_)
    refine Kd.rP (Kd.slice 35 k35) _ 23 rfl (N':=54) rfl (xs:=([fJ j6 0,fJ j6 0,fJ j6 0]:List (List (S35)))) (inner:=[.slice jn (fJ j6 0).length jo, .slice jn (fJ j6 0).length jo, .slice jn (fJ j6 0).length jo]) (ok:=(fun k_=>(w.heap.size≤k_)∧some k_≠(.slice jb j9.length jc:Value).ownBlock∧some k_≠(.slice (some jh) j6.length jd:Value).ownBlock∧k_≠j4∧k_≠j3∧k_≠g)) (okp:=(fun k_=>(w.heap.size≤k_)∧some k_≠(.slice jb j9.length jc:Value).ownBlock∧some k_≠(.slice (some jh) j6.length jd:Value).ownBlock∧k_≠j4∧k_≠j3∧k_≠g)) rn_ ?hp (fun _ hk=>hk) ((show ∀ k_,Q1.heap.size≤k_→(fun k_=>(w.heap.size≤k_)∧some k_≠(.slice jb j9.length jc:Value).ownBlock∧some k_≠(.slice (some jh) j6.length jd:Value).ownBlock∧k_≠j4∧k_≠j3∧k_≠g) k_ from fun k_ hk=>⟨(Nat.le_trans (aW (w:=w) (g:=g) (row:=none) nI) hk),Kd.fresh' (Kd.iY (aR_ ja.out)) k_ hk,Kd.fresh' (Kd.iH (aN_ j7.out)) k_ hk,fG j8.out k_ hk,fG j5.out k_ hk,aQ.fresh lX k_ hk⟩) _ (Nat.le_refl _)) (Below.refl _ _) (Nat.le_refl _) (by simp) ?_;(case hp=>exact (eY.one (show Kd.FK (Kd.slice 35 k35) _ _ (fJ j6 0) [.slice jn (fJ j6 0).length jo] from (Kd.kW (Kd.wE (Kd.oN (ok':=(fun k_=>(w.heap.size≤k_)∧some k_≠(.slice jb j9.length jc:Value).ownBlock∧some k_≠(.slice (some jh) j6.length jd:Value).ownBlock∧k_≠j4∧k_≠j3∧k_≠g)) (jq.out) (fun k_ hk=>⟨hk.1.1.1,⟨hk.1.1.2.1,⟨hk.2,⟨hk.1.1.2.2.1,⟨hk.1.2,hk.1.1.2.2.2⟩⟩⟩⟩⟩))).2.1 (Kd.V_F (Kd.oN (ok':=(fun k_=>(w.heap.size≤k_)∧some k_≠(.slice jb j9.length jc:Value).ownBlock∧some k_≠(.slice (some jh) j6.length jd:Value).ownBlock∧k_≠j4∧k_≠j3∧k_≠g)) (jq.out) (fun k_ hk=>⟨hk.1.1.1,⟨hk.1.1.2.1,⟨hk.2,⟨hk.1.1.2.2.1,⟨hk.1.2,hk.1.1.2.2.2⟩⟩⟩⟩⟩))))) (eY.one (show Kd.FK (Kd.slice 35 k35) _ _ (fJ j6 0) [.slice jn (fJ j6 0).length jo] from (Kd.kW (Kd.wE (Kd.oN (ok':=(fun k_=>(w.heap.size≤k_)∧some k_≠(.slice jb j9.length jc:Value).ownBlock∧some k_≠(.slice (some jh) j6.length jd:Value).ownBlock∧k_≠j4∧k_≠j3∧k_≠g)) (jr.out) (fun k_ hk=>⟨hk.1.1.1,⟨hk.1.1.2.1,⟨hk.2,⟨hk.1.1.2.2.1,⟨hk.1.2,hk.1.1.2.2.2⟩⟩⟩⟩⟩))).2.1 (Kd.V_F (Kd.oN (ok':=(fun k_=>(w.heap.size≤k_)∧some k_≠(.slice jb j9.length jc:Value).ownBlock∧some k_≠(.slice (some jh) j6.length jd:Value).ownBlock∧k_≠j4∧k_≠j3∧k_≠g)) (jr.out) (fun k_ hk=>⟨hk.1.1.1,⟨hk.1.1.2.1,⟨hk.2,⟨hk.1.1.2.2.1,⟨hk.1.2,hk.1.1.2.2.2⟩⟩⟩⟩⟩))))) (eY.one (show Kd.FK (Kd.slice 35 k35) _ _ (fJ j6 0) [.slice jn (fJ j6 0).length jo] from (Kd.kW (Kd.wE (Kd.oN (ok':=(fun k_=>(w.heap.size≤k_)∧some k_≠(.slice jb j9.length jc:Value).ownBlock∧some k_≠(.slice (some jh) j6.length jd:Value).ownBlock∧k_≠j4∧k_≠j3∧k_≠g)) (js.out) (fun k_ hk=>⟨hk.1.1.1,⟨hk.1.1.2.1,⟨hk.2,⟨hk.1.1.2.2.1,⟨hk.1.2,hk.1.1.2.2.2⟩⟩⟩⟩⟩))).2.1 (Kd.V_F (Kd.oN (ok':=(fun k_=>(w.heap.size≤k_)∧some k_≠(.slice jb j9.length jc:Value).ownBlock∧some k_≠(.slice (some jh) j6.length jd:Value).ownBlock∧k_≠j4∧k_≠j3∧k_≠g)) (js.out) (fun k_ hk=>⟨hk.1.1.1,⟨hk.1.1.2.1,⟨hk.2,⟨hk.1.1.2.2.1,⟨hk.1.2,hk.1.1.2.2.2⟩⟩⟩⟩⟩))))) (eY.none _ _)))))
    intro Q2 Ql ho85 hb hg_ hnew_
    have HS2_:=(hb.cell (World.block_lt_of_cell? _ _ (hHeld.2.2.1))).trans (hHeld.2.2.1)
    have HS3_:=(hb.cell (World.block_lt_of_cell? _ _ (hHeld.2.2.2.1))).trans (hHeld.2.2.2.1)
    have HS4_:=(hb.cell (World.block_lt_of_cell? _ _ (hHeld.2.2.2.2))).trans (hHeld.2.2.2.2)
    clear hg_ hnew_
    (first|rw [← qu.out] at ho85|(simp only [Int.reduceToNat] at ho85;rw [← qu.out] at ho85))
    replace ja:=am (Kd.dW (aR_ ja.out) hb)
    replace j7:=am (Kd.fM (aN_ j7.out) (Kd.dL ho85) hb)
    replace jq:=am (Kd.wD (by (with_reducible repeat (first|apply Kd.nK|apply Kd.nL|apply Kd.pW));exact jq.out) (Kd.dL ho85) hb)
    replace jr:=am (Kd.wD (by (with_reducible repeat (first|apply Kd.nK|apply Kd.nL|apply Kd.pW));exact jr.out) (Kd.dL ho85) hb)
    replace js:=am (Kd.wD (by (with_reducible repeat (first|apply Kd.nK|apply Kd.nL|apply Kd.pW));exact js.out) (Kd.dL ho85) hb)
    have jT:=am (Kd.dH ho85 (aW (w:=w) (g:=g) (row:=none) nI))
    replace j8:=bbP j8 hb
    replace j5:=bbP j5 hb
    replace jC:=am (Kd.aV (by repeat (first|(with_reducible exact jC.out)|(with_reducible refine Kd.wV ?_ _)|(with_reducible refine Kd.tZ ?_ _)|(with_reducible refine Kd.vY ?_)|exact jC.out)) hb)
    replace jD:=am (Kd.aV (by repeat (first|(with_reducible exact jD.out)|(with_reducible refine Kd.wV ?_ _)|(with_reducible refine Kd.tZ ?_ _)|(with_reducible refine Kd.vY ?_)|exact jD.out)) hb)
    replace jE:=am (Kd.aV (by repeat (first|(with_reducible exact jE.out)|(with_reducible refine Kd.wV ?_ _)|(with_reducible refine Kd.tZ ?_ _)|(with_reducible refine Kd.vY ?_)|exact jE.out)) hb)
    replace HK:=am (aI.trans nI (aI.of_below hb g none) (.inl rfl))
    replace HB:=am (aG pX hb)
    replace HI0:=am (aQ.below lX hb)
    clear hb ho85
    obtain ⟨qA,qB,qZ⟩:=Kd.dD jT.out
    (first|subst qZ|(injection qZ with f1_ f2_ f3_;have f4_:=f1_.symm;have f5_:=f3_.symm;clear f1_ f2_ f3_;subst f4_;subst f5_))
    refine hK.out _ _ ⟨(aA j5.out 0).trans rfl,(aA j5.out 1).trans rfl,HS2_,HS3_,HS4_⟩ (fun hHeld=>?_)
    clear hK K
    refine fB (a':=?_) ?_ ?_
    rotate_left
    ·show Act.put _ (some 54) _=_
     simp only [Act.put,List.setIfInBounds_toArray,List.set_cons_zero,List.set_cons_succ,dS,dV]
     rfl
    refine wN (i:=15) (N:=some 55) (bz 18 65535) rfl rfl (gG HT_.out (by kernel_rfl)) (by decide) (fun K hK=>?_)
    refine Kd.oM (Kd.slice 35 k35) w.heap.size (by rfl) (.tmp 41) (.tmp 54) 44 23 (.slice none 0 0) 24 rfl Try.underlying44 ET rfl (by decide) (by omega) (.slice (some jh) j6.length jd) j6 jF _ _ _ (fun k_=>(w.heap.size≤k_)∧some k_≠(.slice jb j9.length jc:Value).ownBlock∧k_≠j4∧k_≠j3∧k_≠g) (fun k_=>((fun k_=>(w.heap.size≤k_)∧some k_≠(.slice jb j9.length jc:Value).ownBlock∧k_≠j4∧k_≠j3∧k_≠g)) k_∧some k_≠(.slice (some jh) j6.length jd:Value).ownBlock) rfl rfl ?aO ?aR (fun _ hk=>hk) ?aF (Below.refl _ _) ?aS ?aL ?_
    (case aR=>exact (by skip;exact Kd.N_F (Kd.aD (ok':=(fun k_=>((fun k_=>(w.heap.size≤k_)∧some k_≠(.slice jb j9.length jc:Value).ownBlock∧k_≠j4∧k_≠j3∧k_≠g)) k_∧some k_≠(.slice (some jh) j6.length jd:Value).ownBlock)) (jT.out) (fun k_ hk=>⟨⟨hk.1,⟨hk.2.1,⟨hk.2.2.2.1,⟨hk.2.2.2.2.1,hk.2.2.2.2.2⟩⟩⟩⟩,hk.2.2.1⟩))))
    (case aF=>exact (fun k_ hk=>⟨(Nat.le_trans (aW (w:=w) (g:=g) (row:=none) nI) hk),Kd.fresh' (Kd.iY (aR_ ja.out)) k_ hk,fG j8.out k_ hk,fG j5.out k_ hk,aQ.fresh lX k_ hk⟩))
    (case aO=>exact (eO (Kd.aD j7.out (fun _ hk=>⟨hk.1.1.1,⟨hk.1.1.2.1,⟨hk.1.1.2.2.1,⟨hk.1.2,hk.1.1.2.2.2⟩⟩⟩⟩))))
    (case aS=>exact (aW (w:=w) (g:=g) (row:=none) nI))
    (case aL=>have:=qV.out;omega)
    intro Q3 Q4 ho hb hg hat
    rw [← qW.out] at ho
    replace j8:=am (gV (g:=j4) (o:= .cells #[.slice none 0 0, .slice none 0 0] 46 (0,0)) (aG_ j8.out) hg (Kd.BN j7.out j8.out (by decide)))
    replace ja:=am (Kd.wW (aR_ ja.out) (Kd.vB (aN_ j7.out)) (by decide) hg)
    replace j5:=am (gV (g:=j3) (o:= .cells #[.slice jb j9.length jc, .slice (some jh) j6.length jd] 46 (0,0)) (aG_ j5.out) hg (Kd.BN j7.out j5.out (by decide)))
    replace jq:=am (Kd.EG (ok:=(fun k_=>(w.heap.size≤k_)∧some k_≠(.slice jb j9.length jc:Value).ownBlock∧some k_≠(.slice qA jF.length qB:Value).ownBlock∧k_≠j4∧k_≠g∧k_≠j3)) (by (with_reducible repeat (first|apply Kd.nK|apply Kd.nL|apply Kd.pW));exact Kd.oN jq.out (fun _ hk=>⟨⟨hk.1.1.1.1,⟨hk.1.1.1.2.1,⟨hk.2,⟨hk.1.1.1.2.2.1,⟨hk.1.1.1.2.2.2,hk.1.1.2⟩⟩⟩⟩⟩,hk.1.2⟩)) hg hat)
    replace jr:=am (Kd.EG (ok:=(fun k_=>(w.heap.size≤k_)∧some k_≠(.slice jb j9.length jc:Value).ownBlock∧some k_≠(.slice qA jF.length qB:Value).ownBlock∧k_≠j4∧k_≠g∧k_≠j3)) (by (with_reducible repeat (first|apply Kd.nK|apply Kd.nL|apply Kd.pW));exact Kd.oN jr.out (fun _ hk=>⟨⟨hk.1.1.1.1,⟨hk.1.1.1.2.1,⟨hk.2,⟨hk.1.1.1.2.2.1,⟨hk.1.1.1.2.2.2,hk.1.1.2⟩⟩⟩⟩⟩,hk.1.2⟩)) hg hat)
    replace js:=am (Kd.EG (ok:=(fun k_=>(w.heap.size≤k_)∧some k_≠(.slice jb j9.length jc:Value).ownBlock∧some k_≠(.slice qA jF.length qB:Value).ownBlock∧k_≠j4∧k_≠g∧k_≠j3)) (by (with_reducible repeat (first|apply Kd.nK|apply Kd.nL|apply Kd.pW));exact Kd.oN js.out (fun _ hk=>⟨⟨hk.1.1.1.1,⟨hk.1.1.1.2.1,⟨hk.2,⟨hk.1.1.1.2.2.1,⟨hk.1.1.1.2.2.2,hk.1.1.2⟩⟩⟩⟩⟩,hk.1.2⟩)) hg hat)
    replace jT:=am (Kd.pQ (ok:=(fun k_=>(w.heap.size≤k_)∧some k_≠(.slice jb j9.length jc:Value).ownBlock∧k_≠j4∧k_≠j3∧k_≠g)) (eO (Kd.aD jT.out (fun _ hk=>⟨⟨hk.1,⟨hk.2.1,⟨hk.2.2.2.1,⟨hk.2.2.2.2.1,hk.2.2.2.2.2⟩⟩⟩⟩,hk.2.2.1⟩))) hg hat)
    replace HB:=am (nA pX HL.out hb)
    replace HI0:=am (aQ.grown lX hg (aQ.BD HI0.out j7.out (by decide)))
    replace HK:=am (aI.trans nI (aI.oF hg g) (Kd.DT j7.out))
    have qv:=am (ho)
    clear j7
    clear ho hb hg hat
    obtain ⟨qa,qb,z0⟩:=Kd.dD qv.out
    (first|subst z0|(injection z0 with f1_ f2_ f3_;have f4_:=f1_.symm;have f5_:=f3_.symm;clear f1_ f2_ f3_;subst f4_;subst f5_))
    refine hK.out _ _ ?_
    clear hK K
    refine fB (a':=?_) ?_ ?_
    rotate_left
    ·show Act.put _ (some 55) _=_
     simp only [Act.put,List.setIfInBounds_toArray,List.set_cons_zero,List.set_cons_succ,dS,dV]
     rfl
    refine pr_ 16 56 (bz 18 131071) HT_ ?_
    refine wN (i:=17) (N:=none) (bz 18 262143) rfl rfl (gG HT_.out (by kernel_rfl)) (by decide) (fun K hK=>?_)
    have Q5:Q4.cell? ⟨j3,1,none⟩=some (.slice (some jh) j6.length jd):=(aA j5.out 1).trans rfl
    have hfs89:=aU j5.out 1
    have hns89_0:=je.out
    have hms89_0:=ju.out
    refine rO (w1:=?_) (by rfl) rfl ?_ ?_
    rotate_left
    ·go_simp
     rfl
    refine hK.out _ _ ?_
    clear hK K
    refine pE (lV HT_.out (by kernel_rfl)) ?_
    obtain ⟨zN,zO,zP,zQ⟩:=fT j5.out
    have JG:=jk.out
    have JH:=NB0_868.out
    obtain ⟨zR,zS,zT,zU⟩:=fT j8.out
    try go_wp2
    refine bodyPost_ret (results_cell_row rfl _ _ j4 46 #[.slice jb j9.length jc, .slice qa jZ.length qb] (0,0) _ rfl (aM (aM (aZ j8.out je.out _) 0 _ rfl) 1 _ rfl) Try.underlying46 rfl (by kernel_rfl)) rfl ?_
    exact ⟨_,_,iM,iC (Kd.cZ (Kd.dM (p:=⟨j4,1,none⟩) (Kd.dM (p:=⟨j4,0,none⟩) (Kd.dM (p:=⟨j3,1,none⟩) (Kd.eF (Kd.eF ja.out j5.out (by decide)) j8.out (by decide)) (fun _ hk=>hk.1.2) (.slice qa jZ.length qb)) (fun _ hk=>hk.2) (.slice jb j9.length jc)) (fun _ hk=>hk.2) (.slice qa jZ.length qb)) (fun _ hk=>hk.1.1.1)),eO (Kd.aD (Kd.aT (p:=⟨j4,1,none⟩) (Kd.aT (p:=⟨j4,0,none⟩) (Kd.aT (p:=⟨j3,1,none⟩) (Kd.aD (Kd.aD qv.out (fun k_ hk=>(⟨hk,hk.2.2.2.1⟩:_∧k_≠j3))) (fun k_ hk=>(⟨hk,hk.1.2.2.1⟩:_∧k_≠j4))) (fun _ hk=>hk.1.2) (.slice qa jZ.length qb)) (fun _ hk=>hk.2) (.slice jb j9.length jc)) (fun _ hk=>hk.2) (.slice qa jZ.length qb)) (fun _ hk=>⟨hk.1.1.1,hk.1.1.2.1⟩)),lX,pX,nI⟩
   rw [if_neg zJ] at H
   exact absurd H (by simp)
  rw [if_neg zI] at H
  exact absurd H (by simp)
 rw [if_neg qz] at H
 have qT:(ji == 3)=false:=beq_eq_false_iff_ne.mpr qz
 have qU:(ji != 3)=true:=bne_iff_ne.mpr qz
 by_cases qC:ji=4
 ·rw [if_pos qC] at H
  have z6:(ji == 4)=true:=beq_iff_eq.mpr qC
  have za:(ji != 4)=false:=bne_eq_false_iff_eq.mpr qC
  clear qC
  by_cases cA:0 < (j6.length:Int)
  case neg=>
   rw [if_neg cA] at H
   exact absurd H (by simp)
  rw [if_pos cA] at H
  by_cases cB:(fJ j6 0).length + 1 < 1256584717458
  case neg=>
   rw [if_neg cB] at H
   exact absurd H (by simp)
  rw [if_pos cB] at H
  have LEN:=am cA
  have LENN:Aside0 (0 < j6.length):=⟨by omega⟩
  have CAP:=am cB
  clear cA cB
  simp only [Option.some.injEq,Prod.mk.injEq] at H
  obtain ⟨rfl,rfl,rfl⟩:=H
  go_upto_region 12 with fail
  obtain ⟨go_,eA⟩:∃ go_,jf=some ⟨go_,0,none⟩:=by
   obtain ⟨g_,cap_,e_,_⟩:=Kd.IZ (BP j7.out) LENN.out
   injection e_ with e_
   exact ⟨g_,e_⟩
  subst eA
  have HTF:Aside0 (TF jL w.heap.size (fun x=>(w.heap.size≤x∧some x≠(Value.slice jb j9.length jc).ownBlock∧x≠j4∧x≠g)∧x≠j3) (.slice (some ⟨go_,0,none⟩) j6.length jd) j6):=j7
  obtain ⟨ok_,hok_⟩:∃ ok_:Nat→Prop,ok_=(fun x=>(w.heap.size≤x∧some x≠(Value.slice jb j9.length jc).ownBlock∧x≠j4∧x≠g)∧x≠j3):=⟨_,rfl⟩
  rw [← hok_] at HTF
  have hfr_:∀ k,jL.heap.size≤k→ok_ k∧k≠go_:=by
   intro k hk
   have h1:=Kd.iY ja.out
   have h2:=gQ j8.out
   have h3:=gQ j5.out
   have h4:=aQ.lt HI0.out
   have h5:=Kd.iH (BP HTF.out) go_ (by simp [Value.ownBlock])
   have h6:=HK.out.1
   rw [hok_]
   exact ⟨⟨⟨by omega,fun e=>by have:=h1 k e.symm;omega,by omega,by omega⟩,by omega⟩,by omega⟩
  obtain ⟨A0,c0,hx_,hf_,htg_⟩:=aCk HTF.out LENN.out hfr_
  have HS0:=am (Nat.le_refl jL.heap.size)
  have CAP2:Aside0 ((j6.getD 0 []).length + 1 < 1256584717458):=CAP
  have RT:Aside0 (fJ j6 0=j6.getD 0 []):=⟨rfl⟩
  clear CAP
  generalize j6.getD 0 []=tl at hx_ hf_ htg_ CAP2 RT
  have CAP:=CAP2
  clear CAP2
  have HP:Aside0 (PS w0 w g jj jx j4 j3 jb jc j9 ok_ jL.heap.size go_ j6.length jd j6 (.slice A0 tl.length c0) (.slice A0 tl.length c0) tl jL):=⟨⟨⟨HL.out,HI0.out,HB.out,HK.out,j8.out,j5.out,Kd.cZ ja.out (fun _ h_=>h_.1)⟩,htg_,hx_,hf_,Nat.le_refl _⟩⟩
  have HOK:Aside0 (∀ k,ok_ k→(w.heap.size≤k∧some k≠(.slice jb j9.length jc:Value).ownBlock)∧k≠j4):=⟨by rw [hok_];exact fun k hk=>⟨⟨hk.1.1,hk.1.2.1⟩,hk.1.2.2.1⟩⟩
  have HUL:Aside0 (∀ q,((.slice A0 tl.length c0):Value).ownBlock=some q→q < jL.heap.size):=⟨by obtain ⟨_,_,_,hN_,_⟩:=wX htg_;exact Kd.iH hN_⟩
  clear hfr_ hx_ hf_ htg_ HTF hok_ j7 ja HK HB HI0 j8 j5
  try clear qd
  try clear qe
  try clear qf
  try clear qg
  refine wp_region_any (by kernel_rfl) ?_
  have HPd:=am (HP.out.below (oO (Below.refl _ _)))
  show wpAny _ _ _ _ _ _ _ jL.drew
  have HS1:Aside0 (jL.heap.size≤jL.drew.heap.size):=⟨Nat.le_refl _⟩
  generalize jL.heap.size=s_ at *
  clear HP
  generalize jL.drew=W0 at HPd HS1 ⊢
  refine KI (n:=4) (T:=(true,[([],[]),([0],[0]),([0],[0]),([0,0,1,2],[0])])) rfl (by kernel_rfl) (by decide) (fun b a W=>LC4 W0 g j4 j3 jb jc j9 go_ j6 jd ji (b 0) (b 1) (b 2) (b 3) a W) ?hstep ?hdone _ _ ?hstart
  case hstart=>exact ⟨0,false,rfl,⟨Below.refl _ _,fun e=>Bool.noConfusion e⟩⟩
  case hstep=>
   intro i b a W hi hbi hneed hcl hI
   have hcase:i=0∨i=1∨i=2∨i=3:=by omega
   rcases hcase with rfl|rfl|rfl|rfl
   ·
    have z1:=zz_ (fun h=>hcl 1 _ h rfl 0 (by decide)) hbi
    have z2:=zz_ (fun h=>hcl 2 _ h rfl 0 (by decide)) hbi
    have z3:=zz_ (fun h=>hcl 3 _ h rfl 0 (by decide)) hbi
    simp only [hbi,z1,z2,z3] at hI
    obtain ⟨gb,v,rfl,h⟩:=hI
    refine wpOp_step rfl (fun K' hK'=>?_)
    simp (decide:=true) only [if_true,if_false,reduceIte,z1,z2,z3] at hK'
    refine mD ?hg (N:=59) ?hd (cs:=#[.bool false]) (t:=4) ?hr ?_
    case hd=>rfl
    case hg=>rfl
    case hr=>first|(go_simp;done)|(go_simp;rfl)
    intro gb' hgb W' hbox hb
    have hlt:=h.hB.size
    refine hK' _ _ (⟨gb',false,?_,⟨aG h.hB hb,fun _=>⟨by omega,hbox⟩⟩⟩)
    show Act.put _ (some 59) _=_
    simp only [aC4,Act.put,List.setIfInBounds_toArray,List.set_cons_zero,List.set_cons_succ]
    rfl
   ·
    have hn_:=hneed _ rfl
    have n0:=hn_ 0 (by decide)
    have z3:=zz_ (fun h=>hcl 3 _ h rfl 1 (by decide)) hbi
    simp only [hbi,n0,z3] at hI
    obtain ⟨gb,v,rfl,h⟩:=hI
    refine wpOp_step rfl (fun K' hK'=>?_)
    simp (decide:=true) only [if_true,if_false,reduceIte,n0,z3] at hK'
    obtain ⟨hgb,hbx⟩:=h.hx rfl
    have q0:W.cell? ⟨gb,0,none⟩=some (.bool v):=aA hbx 0
    have f0:=aU hbx 0
    refine rO (w1:=W.setCell ⟨gb,0,none⟩ (.bool true)) (by rfl) rfl ?_ ?_
    ·(try simp only [aC4,cond_true,cond_false])
     go_simp
     (try rfl)
    refine hK' _ _ (⟨gb,true,rfl,⟨below_set (j:=0) (v:= .bool true) h.hB hgb,fun _=>⟨hgb,aM (cs':=#[.bool true]) hbx 0 (.bool true) rfl⟩⟩⟩)
   ·
    have hn_:=hneed _ rfl
    have n0:=hn_ 0 (by decide)
    have z3:=zz_ (fun h=>hcl 3 _ h rfl 2 (by decide)) hbi
    simp only [hbi,n0,z3] at hI
    obtain ⟨gb,v,rfl,h⟩:=hI
    refine wpOp_step rfl (fun K' hK'=>?_)
    simp (decide:=true) only [if_true,if_false,reduceIte,n0,z3] at hK'
    obtain ⟨hgb,hbx⟩:=h.hx rfl
    have q0:W.cell? ⟨gb,0,none⟩=some (.bool v):=aA hbx 0
    have f0:=aU hbx 0
    refine rO (w1:=W.setCell ⟨gb,0,none⟩ (.bool false)) (by rfl) rfl ?_ ?_
    ·(try simp only [aC4,cond_true,cond_false])
     go_simp
     (try rfl)
    refine hK' _ _ (⟨gb,false,rfl,⟨below_set (j:=0) (v:= .bool false) h.hB hgb,fun _=>⟨hgb,aM (cs':=#[.bool false]) hbx 0 (.bool false) rfl⟩⟩⟩)
   ·
    have hn_:=hneed _ rfl
    have n0:=hn_ 0 (by decide)
    have n1:=hn_ 1 (by decide)
    have n2:=hn_ 2 (by decide)
    simp only [hbi,n0,n1,n2] at hI
    obtain ⟨gb,v,rfl,h⟩:=hI
    refine wpOp_step rfl (fun K' hK'=>?_)
    simp (decide:=true) only [if_true,if_false,reduceIte,n0,n1,n2] at hK'
    obtain ⟨hgb,hbx⟩:=h.hx rfl
    have q0:W.cell? ⟨gb,0,none⟩=some (.bool v):=aA hbx 0
    have f0:=aU hbx 0
    refine iN (W:=W) (w1:=W) (v:=?_) (by rfl) ?_ ?_
    rotate_left
    ·(try simp only [aC4,cond_true,cond_false])
     go_simp
     first|with_reducible rfl|rfl
    refine hK' _ _ (⟨gb,v,?_,h⟩)
    show Act.put _ (some 60) _=_
    simp only [aC4,Act.put,List.setIfInBounds_toArray,List.set_cons_zero,List.set_cons_succ,dS,dV]
    rfl
  case hdone=>
   intro b a W1 hall hI
   replace hI:LC4 W0 g j4 j3 jb jc j9 go_ j6 jd ji (b 0) (b 1) (b 2) (b 3) a W1:=hI
   rw [hall 0 (by decide),hall 1 (by decide),hall 2 (by decide),hall 3 (by decide)] at hI
   obtain ⟨gb,v,rfl,h⟩:=hI
   simp only [aC4,cond_true]
   have HP:=am (HPd.out.below h.hB)
   have HS2:Aside0 (s_≤W1.heap.size):=⟨Nat.le_trans HS1.out h.hB.size⟩
   have HU2:Aside0 (∀ q,((.slice A0 tl.length c0):Value).ownBlock=some q→q < W1.heap.size):=⟨fun q hq=>Nat.lt_of_lt_of_le (HUL.out q hq) HS2.out⟩
   clear h hall HPd HUL HS1
   cases v with
   |true=>
    have p3_1:W1.cell? ⟨j3,1,none⟩=some (.slice (some ⟨go_,0,none⟩) j6.length jd):=aA HP.out.wf.h3 1
    have po_0:W1.cell? ⟨go_,0,none⟩=some (.slice A0 tl.length c0):=HP.out.hc
    have fo_0:=HP.out.hf
    have Q6:decide (0 < (j6.length:Int))=true:=decide_eq_true LEN.out
    have Q7:decide (0 < j6.length)=true:=decide_eq_true LENN.out
    have Ji:(0 < j6.length)=True:=eq_true LENN.out
    go_upto_region 14 with (first|((with_reducible refine bQ (N:=67) rfl ?_);refine Kd.oQ k35 W1.heap.size 35 rfl (N':=67) rfl (w0:=W1) (xs:=[(⟨0,0,0,⟨0,0,[]⟩,[],[]⟩:S35)]) (inner:=[(.int .i64 0),(.int .i64 0),(.int .i64 0),(.int .i64 0),(.int .i64 0),(.slice none 0 0),(.slice none 0 0),(.slice none 0 0)]) (ok:=fun q=>W1.heap.size≤q) (okp:=fun _=>False) ?hr ?hp (fun _ hq=>hq.elim) (Nat.le_refl _) (Below.refl _ _) (Nat.le_refl _) (by simp) ?_;(case hr=>first|(go_simp;done)|(go_simp;rfl));(case hp=>exact eY.c8 (show Kd.FK k35 _ _ (⟨0,0,0,⟨0,0,[]⟩,[],[]⟩:S35) [(.int .i64 0),(.int .i64 0),(.int .i64 0),(.int .i64 0),(.int .i64 0),(.slice none 0 0),(.slice none 0 0),(.slice none 0 0)] from kY _ _ (⟨0,0,0,⟨0,0,[]⟩,[],[]⟩:S35) (Nat.le_refl _) (Kd.mU _ _ _) (Nat.le_refl _) (Kd.mU _ _ _) (Nat.le_refl _) (Kd.mU _ _ _)) (eY.none _ _));intro Qm W2 hn hb _ _;obtain ⟨Q8,Q9,rfl⟩:=Kd.dD hn;have HN67:=am hn;have HP2:=am (HP.out.below hb);have HS3:=am hb.size;clear hn hb p3_1 po_0 fo_0;have p3_1:W2.cell? ⟨j3,1,none⟩=some (.slice (some ⟨go_,0,none⟩) j6.length jd):=aA HP2.out.wf.h3 1;have po_0:W2.cell? ⟨go_,0,none⟩=some (.slice A0 tl.length c0):=HP2.out.hc;have fo_0:=HP2.out.hf)|((with_reducible refine bQ (N:=68) rfl ?_);obtain ⟨ok1,hfr1,hne1,hN1,up1⟩:=wX HP2.out.tg;refine Kd.oC k35 (w0:=W2) w.heap.size rfl (.tmp 64) (.tmp 67) 23 35 (.agg #[(.int .i64 0),(.int .i64 0),(.int .i64 0),(.int .i64 0),(.int .i64 0),(.slice none 0 0),(.slice none 0 0),(.slice none 0 0)]) 112 rfl Try.underlying23 tN rfl (by decide) (by omega) (.slice A0 tl.length c0) tl [(⟨0,0,0,⟨0,0,[]⟩,[],[]⟩:S35)] Q8 1 Q9 ok1 (fun q=>W1.heap.size≤q) rfl rfl hN1 (Kd.N_F HN67.out) ?aK ?aF (Below.refl _ _) HP2.out.wf.hK.1 ?aL ?_;(case aK=>exact fun q hq=>⟨hfr1 q (Nat.le_trans HS2.out hq),fun e=>by have:=HU2.out q e.symm;omega⟩);(case aF=>exact fun q hq=>hfr1 q (Nat.le_trans HS2.out (Nat.le_trans HS3.out hq)));(case aL=>(have:=CAP.out;omega));intro Qn W3 hn hb hg hat;obtain ⟨JI,Qa,JJ⟩:=Kd.dD hn;rw [List.length_append,List.length_singleton] at JJ;subst JJ;have HP3:=am (HP2.out.grown hg (up1 _ _ _ hg hn));clear hn hb hg hat up1 hN1 hne1 hfr1 HN67 HP p3_1 po_0 fo_0 ok1;have p3_1:W3.cell? ⟨j3,1,none⟩=some (.slice (some ⟨go_,0,none⟩) j6.length jd):=aA HP3.out.wf.h3 1;have po_0:W3.cell? ⟨go_,0,none⟩=some (.slice A0 tl.length c0):=HP3.out.hc;have fo_0:=HP3.out.hf)|fail)
    clear p3_1 po_0 fo_0
    have HP4:=am (HP3.out.store LENN.out)
    generalize W3.setCell ⟨go_,0,none⟩ (.slice JI (tl.length + 1) Qa)=W4 at HP4 ⊢
    obtain ⟨b_,eb⟩:∃ b_,JI=some ⟨b_,0,none⟩:=by
     obtain ⟨ok1,hfr1,hne1,hN1,up1⟩:=wX HP4.out.tg
     obtain ⟨g_,cap_,e_,_⟩:=Kd.IZ hN1 (by simp)
     injection e_ with e_
     exact ⟨g_,e_⟩
    subst eb
    have Qb:decide ((tl.length:Int) < (tl.length:Int) + 1)=true:=decide_eq_true (by omega)
    have Qc:(tl.length < tl.length + 1)=True:=eq_true (by omega)
    go_wp2_with (first|((with_reducible refine EP (t:=35) (p:=70) (v:= .tmp 65) rfl ?_);refine aCa ?_)|fail)
    refine ⟨?_⟩
    obtain ⟨ok1,hfr1,hne1,hN1,up1⟩:=wX HP4.out.tg
    obtain ⟨ce,hcl,Jj,hcc,Jk⟩:=Kd.EA hN1 z35 (tl.length:Int) (by omega) (by omega)
    have hcl8:ce.length=8:=hcl
    refine Kd.OX k35 (w0:=W4) w.heap.size rfl rfl 35 (.tmp 70) (.tmp 65) rfl 35 (tl.length:Int) 0 _ (⟨9,0,0,⟨0,0,[]⟩,[],[]⟩:S35) (.agg #[(.int .i64 9),(.int .i64 0),(.int .i64 0),(.int .i64 0),(.int .i64 0),(.slice none 0 0),(.slice none 0 0),(.slice none 0 0)]) [(.int .i64 9),(.int .i64 0),(.int .i64 0),(.int .i64 0),(.int .i64 0),(.slice none 0 0),(.slice none 0 0),(.slice none 0 0)] ce ok1 (fun _=>False) rfl ?hoff rfl rfl (by kernel_rfl) ?h1 hN1 (by omega) (by omega) hcl hcc (Nat.le_refl _) ?hM (fun _ hk=>hk.elim) (Below.refl _ _) ?_
    (case hoff=>simp [show k35.sz=8 from rfl])
    (case h1=>simp [Value.oneCell'])
    (case hM=>(have e_:ce.take 0 ++ ([(.int .i64 9),(.int .i64 0),(.int .i64 0),(.int .i64 0),(.int .i64 0),(.slice none 0 0),(.slice none 0 0),(.slice none 0 0)]:List Value) ++ ce.drop (0 + ([(.int .i64 9),(.int .i64 0),(.int .i64 0),(.int .i64 0),(.int .i64 0),(.slice none 0 0),(.slice none 0 0),(.slice none 0 0)]:List Value).length)=[(.int .i64 9),(.int .i64 0),(.int .i64 0),(.int .i64 0),(.int .i64 0),(.slice none 0 0),(.slice none 0 0),(.slice none 0 0)]:=(by simp [List.drop_eq_nil_of_le (show ce.length≤8 by omega)]);rw [e_];exact kY _ _ (⟨9,0,0,⟨0,0,[]⟩,[],[]⟩:S35) (Nat.le_refl _) (Kd.mU _ _ _) (Nat.le_refl _) (Kd.mU _ _ _) (Nat.le_refl _) (Kd.mU _ _ _)))
    intro W5 hn hb hg
    have HP5:=am (HP4.out.grown hg (up1 _ _ _ hg hn))
    clear hn hb hg hcc hcl8 hcl Jj Jk up1 hN1 hne1 hfr1
    have eset:(tl ++ [(⟨0,0,0,⟨0,0,[]⟩,[],[]⟩:S35)]).set (tl.length:Int).toNat (⟨9,0,0,⟨0,0,[]⟩,[],[]⟩:S35)=tl ++ [(⟨9,0,0,⟨0,0,[]⟩,[],[]⟩:S35)]:=by simp
    rw [eset] at HP5
    clear Q6 Q7 Ji Qb Qc eset
    have p3_0:W5.cell? ⟨j3,0,none⟩=some (.slice jb j9.length jc):=aA HP5.out.wf.h3 0
    have p3_1:W5.cell? ⟨j3,1,none⟩=some (.slice (some ⟨go_,0,none⟩) j6.length jd):=aA HP5.out.wf.h3 1
    have p2_0:W5.cell? ⟨j4,0,none⟩=some (.slice none 0 0):=aA HP5.out.wf.h2 0
    have p2_1:W5.cell? ⟨j4,1,none⟩=some (.slice none 0 0):=aA HP5.out.wf.h2 1
    have f2_0:=aU HP5.out.wf.h2 0
    have f2_1:=aU HP5.out.wf.h2 1
    go_wp2
    have hE:=HP5.out.done LENN.out GW868.out HOK.out
    rw [RT.out]
    refine bodyPost_ret (results_cell_row rfl _ _ j4 46 #[.slice jb j9.length jc, .slice (some ⟨go_,0,none⟩) j6.length jd] (0,0) _ rfl hE.1 Try.underlying46 rfl (by kernel_rfl)) rfl ?_
    exact ⟨_,_,rfl,hE.2.1,hE.2.2.1,hE.2.2.2.1,hE.2.2.2.2.1,hE.2.2.2.2.2⟩
   |false=>
    go_upto_region 15 with fail
    refine wp_region_any (by kernel_rfl) ?_
    have HPd:=am (HP.out.below (oO (Below.refl _ _)))
    have HSd:Aside0 (s_≤W1.drew.heap.size):=HS2
    have HUd:Aside0 (∀ q,((.slice A0 tl.length c0):Value).ownBlock=some q→q < W1.drew.heap.size):=HU2
    show wpAny _ _ _ _ _ _ _ W1.drew
    generalize W1.drew=W0 at HPd HSd HUd ⊢
    clear HP HS2 HU2
    refine KI (n:=11) (T:=(true,[([],[]),([0],[0]),([],[]),([2],[2]),([3],[3]),([4],[4]),([],[]),([6],[6]),([5,7],[5,7]),([1,0,1,2,3,4,5,6,7,8],[1]),([9,8,8,0,1,2,3,4,5,6,7,8],[8,9])])) rfl (by kernel_rfl) (by decide) (fun b a W=>LD4 w0 w W0 g jj jx j4 j3 jb jc j9 ok_ s_ go_ j6 jd ji gb A0 c0 tl (b 0) (b 1) (b 2) (b 3) (b 4) (b 5) (b 6) (b 7) (b 8) (b 9) (b 10) a W) ?hstep ?hdone _ _ ?hstart
    case hstart=>exact ⟨none,0,none,0,rfl,⟨HPd.out,(fun e=>Bool.noConfusion e),HUd.out,Nat.le_refl _⟩⟩
    case hstep=>
     intro i b a W hi hbi hneed hcl hI
     have hcase:i=0∨i=1∨i=2∨i=3∨i=4∨i=5∨i=6∨i=7∨i=8∨i=9∨i=10:=by omega
     rcases hcase with rfl|rfl|rfl|rfl|rfl|rfl|rfl|rfl|rfl|rfl|rfl
     ·
      have z1:=zz_ (fun h=>hcl 1 _ h rfl 0 (by decide)) hbi
      have z9:=zz_ (fun h=>hcl 9 _ h rfl 0 (by decide)) hbi
      have jB:=zz_ (fun h=>hcl 10 _ h rfl 0 (by decide)) hbi
      simp only [hbi,z1,z9,jB] at hI
      obtain ⟨jG,jH,jI,jJ,rfl,h⟩:=hI
      refine wpOp_step rfl (fun K' hK'=>?_)
      simp (decide:=true) only [if_true,if_false,reduceIte,z1,z9,jB] at hK'
      refine iN (W:=W) (w1:=W) (v:=?_) (by rfl) ?_ ?_
      rotate_left
      ·(try simp only [aD4,cond_true,cond_false])
       go_simp
       first|with_reducible rfl|rfl
      refine hK' _ _ (⟨jG,jH,jI,jJ,?_,h⟩)
      show Act.put _ (some 71) _=_
      simp only [aD4,Act.put,List.setIfInBounds_toArray,List.set_cons_zero,List.set_cons_succ,dS,dV]
      rfl
     ·
      have hn_:=hneed _ rfl
      have n0:=hn_ 0 (by decide)
      have z9:=zz_ (fun h=>hcl 9 _ h rfl 1 (by decide)) hbi
      have jB:=zz_ (fun h=>hcl 10 _ h rfl 1 (by decide)) hbi
      simp only [hbi,n0,z9,jB] at hI
      obtain ⟨jG,jH,jI,jJ,rfl,h⟩:=hI
      refine wpOp_step rfl (fun K' hK'=>?_)
      simp (decide:=true) only [if_true,if_false,reduceIte,n0,z9,jB] at hK'
      have Jl:=h.ps.wf.h3
      have q1:W.cell? ⟨j3,1,none⟩=some (.slice (some ⟨go_,0,none⟩) j6.length jd):=aA Jl 1
      refine iN (W:=W) (w1:=W) (v:=?_) (by rfl) ?_ ?_
      rotate_left
      ·(try simp only [aD4,cond_true,cond_false])
       go_simp
       first|with_reducible rfl|rfl
      refine hK' _ _ (⟨jG,jH,jI,jJ,?_,h⟩)
      show Act.put _ (some 72) _=_
      simp only [aD4,Act.put,List.setIfInBounds_toArray,List.set_cons_zero,List.set_cons_succ,dS,dV]
      rfl
     ·
      have z3:=zz_ (fun h=>hcl 3 _ h rfl 2 (by decide)) hbi
      have z4:=zz_ (fun h=>hcl 4 _ h rfl 3 (by decide)) z3
      have z5:=zz_ (fun h=>hcl 5 _ h rfl 4 (by decide)) z4
      have z8:=zz_ (fun h=>hcl 8 _ h rfl 5 (by decide)) z5
      have z9:=zz_ (fun h=>hcl 9 _ h rfl 2 (by decide)) hbi
      have jB:=zz_ (fun h=>hcl 10 _ h rfl 2 (by decide)) hbi
      simp only [hbi,z3,z4,z5,z8,z9,jB] at hI
      obtain ⟨jG,jH,jI,jJ,rfl,h⟩:=hI
      refine wpOp_step rfl (fun K' hK'=>?_)
      simp (decide:=true) only [if_true,if_false,reduceIte,z3,z4,z5,z8,z9,jB] at hK'
      refine iN (W:=W) (w1:=W) (v:=?_) (by rfl) ?_ ?_
      rotate_left
      ·(try simp only [aD4,cond_true,cond_false])
       go_simp
       first|with_reducible rfl|rfl
      refine hK' _ _ (⟨jG,jH,jI,jJ,?_,h⟩)
      show Act.put _ (some 73) _=_
      simp only [aD4,Act.put,List.setIfInBounds_toArray,List.set_cons_zero,List.set_cons_succ,dS,dV]
      rfl
     ·
      have hn_:=hneed _ rfl
      have n2:=hn_ 2 (by decide)
      have z4:=zz_ (fun h=>hcl 4 _ h rfl 3 (by decide)) hbi
      have z5:=zz_ (fun h=>hcl 5 _ h rfl 4 (by decide)) z4
      have z8:=zz_ (fun h=>hcl 8 _ h rfl 5 (by decide)) z5
      have z9:=zz_ (fun h=>hcl 9 _ h rfl 3 (by decide)) hbi
      have jB:=zz_ (fun h=>hcl 10 _ h rfl 3 (by decide)) hbi
      simp only [hbi,n2,z4,z5,z8,z9,jB] at hI
      obtain ⟨jG,jH,jI,jJ,rfl,h⟩:=hI
      refine wpOp_step rfl (fun K' hK'=>?_)
      simp (decide:=true) only [if_true,if_false,reduceIte,n2,z4,z5,z8,z9,jB] at hK'
      have Jl:=h.ps.wf.h3
      have q1:W.cell? ⟨j3,1,none⟩=some (.slice (some ⟨go_,0,none⟩) j6.length jd):=aA Jl 1
      refine iN (W:=W) (w1:=W) (v:=?_) (by rfl) ?_ ?_
      rotate_left
      ·(try simp only [aD4,cond_true,cond_false])
       go_simp
       first|with_reducible rfl|rfl
      refine hK' _ _ (⟨jG,jH,jI,jJ,?_,h⟩)
      show Act.put _ (some 74) _=_
      simp only [aD4,Act.put,List.setIfInBounds_toArray,List.set_cons_zero,List.set_cons_succ,dS,dV]
      rfl
     ·
      have hn_:=hneed _ rfl
      have n3:=hn_ 3 (by decide)
      have n2:=hcl 3 _ n3 rfl 2 (by decide)
      have z5:=zz_ (fun h=>hcl 5 _ h rfl 4 (by decide)) hbi
      have z8:=zz_ (fun h=>hcl 8 _ h rfl 5 (by decide)) z5
      have z9:=zz_ (fun h=>hcl 9 _ h rfl 4 (by decide)) hbi
      have jB:=zz_ (fun h=>hcl 10 _ h rfl 4 (by decide)) hbi
      simp only [hbi,n2,n3,z5,z8,z9,jB] at hI
      obtain ⟨jG,jH,jI,jJ,rfl,h⟩:=hI
      refine wpOp_step rfl (fun K' hK'=>?_)
      simp (decide:=true) only [if_true,if_false,reduceIte,n2,n3,z5,z8,z9,jB] at hK'
      have Ji:(0 < j6.length)=True:=eq_true LENN.out
      refine iN (W:=W) (w1:=W) (v:=?_) (by rfl) ?_ ?_
      rotate_left
      ·(try simp only [aD4,cond_true,cond_false])
       go_simp
       first|with_reducible rfl|rfl
      refine hK' _ _ (⟨jG,jH,jI,jJ,?_,h⟩)
      show Act.put _ (some 75) _=_
      simp only [aD4,Act.put,List.setIfInBounds_toArray,List.set_cons_zero,List.set_cons_succ,dS,dV]
      rfl
     ·
      have hn_:=hneed _ rfl
      have n4:=hn_ 4 (by decide)
      have n3:=hcl 4 _ n4 rfl 3 (by decide)
      have n2:=hcl 3 _ n3 rfl 2 (by decide)
      have z8:=zz_ (fun h=>hcl 8 _ h rfl 5 (by decide)) hbi
      have z9:=zz_ (fun h=>hcl 9 _ h rfl 5 (by decide)) hbi
      have jB:=zz_ (fun h=>hcl 10 _ h rfl 5 (by decide)) hbi
      simp only [hbi,n2,n3,n4,z8,z9,jB] at hI
      obtain ⟨jG,jH,jI,jJ,rfl,h⟩:=hI
      refine wpOp_step rfl (fun K' hK'=>?_)
      simp (decide:=true) only [if_true,if_false,reduceIte,n2,n3,n4,z8,z9,jB] at hK'
      have q0:W.cell? ⟨go_,0,none⟩=some (.slice A0 tl.length c0):=h.ps.hc
      refine iN (W:=W) (w1:=W) (v:=?_) (by rfl) ?_ ?_
      rotate_left
      ·(try simp only [aD4,cond_true,cond_false])
       go_simp
       first|with_reducible rfl|rfl
      refine hK' _ _ (⟨jG,jH,jI,jJ,?_,h⟩)
      show Act.put _ (some 76) _=_
      simp only [aD4,Act.put,List.setIfInBounds_toArray,List.set_cons_zero,List.set_cons_succ,dS,dV]
      rfl
     ·
      have z7:=zz_ (fun h=>hcl 7 _ h rfl 6 (by decide)) hbi
      have z8:=zz_ (fun h=>hcl 8 _ h rfl 7 (by decide)) z7
      have z9:=zz_ (fun h=>hcl 9 _ h rfl 6 (by decide)) hbi
      have jB:=zz_ (fun h=>hcl 10 _ h rfl 6 (by decide)) hbi
      simp only [hbi,z7,z8,z9,jB] at hI
      obtain ⟨jG,jH,jI,jJ,rfl,h⟩:=hI
      refine wpOp_step rfl (fun K' hK'=>?_)
      simp (decide:=true) only [if_true,if_false,reduceIte,z7,z8,z9,jB] at hK'
      refine iN (W:=W) (w1:=W) (v:=(.agg #[(.int .i64 9),(.int .i64 0),(.int .i64 0),(.int .i64 0),(.int .i64 0),(.slice none 0 0),(.slice none 0 0),(.slice none 0 0)])) (by rfl) ?_ ?_
      ·(try simp only [aD4,cond_true,cond_false])
       go_simp
       (try rfl)
      refine hK' _ _ (⟨jG,jH,jI,jJ,?_,h⟩)
      show Act.put _ (some 77) _=_
      simp only [aD4,Act.put,List.setIfInBounds_toArray,List.set_cons_zero,List.set_cons_succ,dS,dV]
      rfl
     ·
      have hn_:=hneed _ rfl
      have n6:=hn_ 6 (by decide)
      have z8:=zz_ (fun h=>hcl 8 _ h rfl 7 (by decide)) hbi
      have z9:=zz_ (fun h=>hcl 9 _ h rfl 7 (by decide)) hbi
      have jB:=zz_ (fun h=>hcl 10 _ h rfl 7 (by decide)) hbi
      simp only [hbi,n6,z8,z9,jB] at hI
      obtain ⟨jG,jH,jI,jJ,rfl,h⟩:=hI
      refine wpOp_step rfl (fun K' hK'=>?_)
      simp (decide:=true) only [if_true,if_false,reduceIte,n6,z8,z9,jB] at hK'
      have hs:=h.ps.hs
      refine Kd.rP k35 W.heap.size 35 ?hg (N':=78) ?hd (w0:=W) (xs:=[(⟨9,0,0,⟨0,0,[]⟩,[],[]⟩:S35)]) (inner:=[(.int .i64 9),(.int .i64 0),(.int .i64 0),(.int .i64 0),(.int .i64 0),(.slice none 0 0),(.slice none 0 0),(.slice none 0 0)]) (ok:=fun q=>W0.heap.size≤q) (okp:=fun _=>False) ?hr ?hp (fun _ hq=>hq.elim) ?hf (Below.refl _ _) (Nat.le_refl _) (by simp) ?_
      case hd=>rfl
      case hg=>rfl
      case hr=>(try simp only [aD4,cond_true,cond_false]);first|(go_simp;done)|(go_simp;rfl)
      case hp=>exact eY.c8 (show Kd.FK k35 _ _ (⟨9,0,0,⟨0,0,[]⟩,[],[]⟩:S35) [(.int .i64 9),(.int .i64 0),(.int .i64 0),(.int .i64 0),(.int .i64 0),(.slice none 0 0),(.slice none 0 0),(.slice none 0 0)] from kY _ _ (⟨9,0,0,⟨0,0,[]⟩,[],[]⟩:S35) (Nat.le_refl _) (Kd.mU _ _ _) (Nat.le_refl _) (Kd.mU _ _ _) (Nat.le_refl _) (Kd.mU _ _ _)) (eY.none _ _)
      case hf=>exact h.hW
      intro v1 W' hn hb hg _
      obtain ⟨A,c,rfl⟩:=Kd.dD hn
      refine hK' _ _ (⟨A,c,jI,jJ,?_,⟨h.ps.below hb,fun _ _=>Kd.dH hn h.hW,h.hu,Nat.le_trans h.hW hb.size⟩⟩)
      show Act.put _ (some 78) _=_
      simp only [aD4,Act.put,List.setIfInBounds_toArray,List.set_cons_zero,List.set_cons_succ]
      rfl
     ·
      have hn_:=hneed _ rfl
      have n5:=hn_ 5 (by decide)
      have n7:=hn_ 7 (by decide)
      have n4:=hcl 5 _ n5 rfl 4 (by decide)
      have n6:=hcl 7 _ n7 rfl 6 (by decide)
      have n3:=hcl 4 _ n4 rfl 3 (by decide)
      have n2:=hcl 3 _ n3 rfl 2 (by decide)
      have z9:=zz_ (fun h=>hcl 9 _ h rfl 8 (by decide)) hbi
      have jB:=zz_ (fun h=>hcl 10 _ h rfl 8 (by decide)) hbi
      simp only [hbi,n2,n3,n4,n5,n6,n7,z9,jB] at hI
      obtain ⟨jG,jH,jI,jJ,rfl,h⟩:=hI
      refine wpOp_step rfl (fun K' hK'=>?_)
      simp (decide:=true) only [if_true,if_false,reduceIte,n2,n3,n4,n5,n6,n7,z9,jB] at hK'
      obtain ⟨ok1,hfr1,hne1,hN1,up1⟩:=wX h.ps.tg
      have hs:=HSd.out
      have hW:=h.hW
      have Jm:=h.h78 rfl rfl
      have hw:=h.ps.wf.hK.1
      have hcap:=CAP.out
      have hu:=h.hu
      refine Kd.oM k35 (w0:=W) w.heap.size (by rfl) (.tmp 76) (.tmp 78) 23 35 (.agg #[(.int .i64 0),(.int .i64 0),(.int .i64 0),(.int .i64 0),(.int .i64 0),(.slice none 0 0),(.slice none 0 0),(.slice none 0 0)]) 112 rfl Try.underlying23 tN rfl (by decide) (by omega) (.slice A0 tl.length c0) tl [(⟨9,0,0,⟨0,0,[]⟩,[],[]⟩:S35)] jG 1 jH ok1 (fun q=>W0.heap.size≤q) rfl rfl hN1 (Kd.N_F Jm) ?aK ?aF (Below.refl _ _) hw ?aL ?_
      case aK=>exact fun q hq=>⟨hfr1 q (Nat.le_trans hs hq),fun e=>by have:=hu q e.symm;omega⟩
      case aF=>exact fun q hq=>hfr1 q (Nat.le_trans hs (Nat.le_trans hW hq))
      case aL=>omega
      intro v1 W' hn hb hg hat
      obtain ⟨A,c,e1⟩:=Kd.dD hn
      rw [List.length_append,List.length_singleton] at e1
      subst e1
      refine hK' _ _ (⟨jG,jH,A,c,?_,⟨h.ps.grown hg (up1 _ _ _ hg hn),(fun _ e=>Bool.noConfusion e),hu,Nat.le_trans hW hg.size⟩⟩)
      show Act.put _ (some 79) _=_
      simp only [aD4,Act.put,List.setIfInBounds_toArray,List.set_cons_zero,List.set_cons_succ]
      rfl
     ·
      have hn_:=hneed _ rfl
      have n0:=hn_ 0 (by decide)
      have n1:=hn_ 1 (by decide)
      have n2:=hn_ 2 (by decide)
      have n3:=hn_ 3 (by decide)
      have n4:=hn_ 4 (by decide)
      have n5:=hn_ 5 (by decide)
      have n6:=hn_ 6 (by decide)
      have n7:=hn_ 7 (by decide)
      have n8:=hn_ 8 (by decide)
      have jB:=zz_ (fun h=>hcl 10 _ h rfl 9 (by decide)) hbi
      simp only [hbi,n0,n1,n2,n3,n4,n5,n6,n7,n8,jB] at hI
      obtain ⟨jG,jH,jI,jJ,rfl,h⟩:=hI
      refine wpOp_step rfl (fun K' hK'=>?_)
      simp (decide:=true) only [if_true,if_false,reduceIte,n0,n1,n2,n3,n4,n5,n6,n7,n8,jB] at hK'
      have Ji:(0 < j6.length)=True:=eq_true LENN.out
      refine iN (W:=W) (w1:=W) (v:=?_) (by rfl) ?_ ?_
      rotate_left
      ·(try simp only [aD4,cond_true,cond_false])
       go_simp
       first|with_reducible rfl|rfl
      refine hK' _ _ (⟨jG,jH,jI,jJ,?_,h⟩)
      show Act.put _ (some 80) _=_
      simp only [aD4,Act.put,List.setIfInBounds_toArray,List.set_cons_zero,List.set_cons_succ,dS,dV]
      rfl
     ·
      have hn_:=hneed _ rfl
      have n0:=hn_ 0 (by decide)
      have n1:=hn_ 1 (by decide)
      have n2:=hn_ 2 (by decide)
      have n3:=hn_ 3 (by decide)
      have n4:=hn_ 4 (by decide)
      have n5:=hn_ 5 (by decide)
      have n6:=hn_ 6 (by decide)
      have n7:=hn_ 7 (by decide)
      have n8:=hn_ 8 (by decide)
      have n9:=hn_ 9 (by decide)
      simp only [hbi,n0,n1,n2,n3,n4,n5,n6,n7,n8,n9] at hI
      obtain ⟨jG,jH,jI,jJ,rfl,h⟩:=hI
      refine wpOp_step rfl (fun K' hK'=>?_)
      simp (decide:=true) only [if_true,if_false,reduceIte,n0,n1,n2,n3,n4,n5,n6,n7,n8,n9] at hK'
      have q0:W.cell? ⟨go_,0,none⟩=some (.slice A0 tl.length c0):=h.ps.hc
      have f0:=h.ps.hf
      refine rO (w1:=W.setCell ⟨go_,0,none⟩ (.slice jI (tl.length + 1) jJ)) (by rfl) rfl ?_ ?_
      ·(try simp only [aD4,cond_true,cond_false])
       go_simp
       (try rfl)
      have h2:=h.ps.store LENN.out
      refine hK' _ _ (⟨jG,jH,jI,jJ,rfl,⟨h2,(fun _ e=>Bool.noConfusion e),h.hu,Nat.le_trans h.hW (by simp [World.setCell])⟩⟩)
    case hdone=>
     intro b a W1 hall hI
     replace hI:LD4 w0 w W0 g jj jx j4 j3 jb jc j9 ok_ s_ go_ j6 jd ji gb A0 c0 tl (b 0) (b 1) (b 2) (b 3) (b 4) (b 5) (b 6) (b 7) (b 8) (b 9) (b 10) a W1:=hI
     rw [hall 0 (by decide),hall 1 (by decide),hall 2 (by decide),hall 3 (by decide),hall 4 (by decide),hall 5 (by decide),hall 6 (by decide),hall 7 (by decide),hall 8 (by decide),hall 9 (by decide),hall 10 (by decide)] at hI
     obtain ⟨jG,jH,jI,jJ,rfl,h⟩:=hI
     simp only [aD4,cond_true]
     have HP5:=am h.ps
     clear h hall
     have p3_0:W1.cell? ⟨j3,0,none⟩=some (.slice jb j9.length jc):=aA HP5.out.wf.h3 0
     have p3_1:W1.cell? ⟨j3,1,none⟩=some (.slice (some ⟨go_,0,none⟩) j6.length jd):=aA HP5.out.wf.h3 1
     have p2_0:W1.cell? ⟨j4,0,none⟩=some (.slice none 0 0):=aA HP5.out.wf.h2 0
     have p2_1:W1.cell? ⟨j4,1,none⟩=some (.slice none 0 0):=aA HP5.out.wf.h2 1
     have f2_0:=aU HP5.out.wf.h2 0
     have f2_1:=aU HP5.out.wf.h2 1
     go_wp2
     have hE:=HP5.out.done LENN.out GW868.out HOK.out
     rw [RT.out]
     refine bodyPost_ret (results_cell_row rfl _ _ j4 46 #[.slice jb j9.length jc, .slice (some ⟨go_,0,none⟩) j6.length jd] (0,0) _ rfl hE.1 Try.underlying46 rfl (by kernel_rfl)) rfl ?_
     exact ⟨_,_,rfl,hE.2.1,hE.2.2.1,hE.2.2.2.1,hE.2.2.2.2.1,hE.2.2.2.2.2⟩
 rw [if_neg qC] at H
 have z6:(ji == 4)=false:=beq_eq_false_iff_ne.mpr qC
 have za:(ji != 4)=true:=bne_iff_ne.mpr qC
 simp only [Option.some.injEq,Prod.mk.injEq] at H
 obtain ⟨rfl,rfl,rfl⟩:=H
 have jQ:=am (BP j7.out)
 clear j7
 have j7:=jQ
 clear jQ
 obtain ⟨zb,zc,zd,ze⟩:=fT j5.out
 have Jn:=jk.out
 have Jo:=NB0_868.out
 obtain ⟨zf,zg,zh,zi⟩:=fT j8.out
 go_wp2
 refine bodyPost_ret (results_cell_row rfl _ _ j4 46 #[.slice jb j9.length jc, .slice jf j6.length jd] (0,0) _ rfl (aM (aM j8.out 0 _ rfl) 1 _ rfl) Try.underlying46 rfl (by kernel_rfl)) rfl ?_
 exact ⟨_,_,iM,iC (Kd.cZ (Kd.dM (p:=⟨j4,1,none⟩) (Kd.dM (p:=⟨j4,0,none⟩) (Kd.eF ja.out j8.out (by decide)) (fun _ hk=>hk.2) (.slice jb j9.length jc)) (fun _ hk=>hk.2) (.slice jf j6.length jd)) (fun _ hk=>hk.1.1)),eO (Kd.aD (Kd.aT (p:=⟨j4,1,none⟩) (Kd.aT (p:=⟨j4,0,none⟩) (Kd.aD j7.out (fun k_ hk=>(⟨hk,hk.1.2.2.1⟩:_∧k_≠j4))) (fun _ hk=>hk.2) (.slice jb j9.length jc)) (fun _ hk=>hk.2) (.slice jf j6.length jd)) (fun _ hk=>⟨hk.1.1.1,hk.1.1.2.1⟩)),lX,pX,nI⟩
theorem bV.mono_l:∀ k,(∀ y0 y1 y2 y3 y4,LeO (bV.j0 k y0 y1 y2 y3 y4) (bV.j0 (k + 1) y0 y1 y2 y3 y4))
 |0=>fun _ _ _ _ _ r h=>by simp [bV.j0] at h
 |k + 1=>by
  have ih0:=bV.mono_l k
  ·intro y0 y1 y2 y3 y4
   unfold bV.j0
   have m0:=@aH.mono
   have m1:=@iR.mono
   have m2:=@eU.mono
   have m3:=@dN.mono
   exact mo_
theorem bV.mono:∀ a0 k,LeO (bV.f k a0) (bV.f (k + 1) a0):=by
 intro a0 k
 have ih0:=bV.mono_l k
 unfold bV.f
 have m0:=@aH.mono
 have m1:=@iR.mono
 have m2:=@eU.mono
 have m3:=@dN.mono
 exact mo_
theorem aBz {p:Prop} (h:Aside0 p):p:=h.out
theorem bV.calls (k:Nat) (A0:Option Addr) (c0:Nat) (l0:List Int) (r1:List Int) (r2:List (List (S35))) (w:World) (hr0:Kd.C (Kd.int .u8) w A0 l0.length l0) (hc0:l0.length≤c0) (h:bV.f k l0=some (r1,r2)):
  Calls Try.prog 26 #[.slice A0 l0.length c0] w fun e w'=>∃ v0_ v1_:Value,e= .returned (.agg #[v0_,v1_])∧Kd.R (Kd.int .i64) 3 w' w.heap.size (fun k_=>(w.heap.size≤k_)) v0_ r1∧Kd.N (Kd.slice 35 k35) 23 w' w.heap.size (fun k_=>(w.heap.size≤k_)∧some k_≠(v0_:Value).ownBlock) v1_ r2∧Below w.heap.size w w':=by
 have hu46:=Try.underlying46
 have hu35:=Try.underlying35
 have hu32:=Try.underlying32
 have Jj:=am hr0
 have Jk:=am hc0
 clear hr0 hc0
 have HB:=am (Below.refl w.heap.size w)
 have H:((mX.f l0).bind fun jS=>((dN.f k jS.1 jS.2).bind fun jR=>((aH.f k jS.1 jR.2.2 3).bind fun q7=>(if q7.1=0 then (bV.j0 k (decide ((jR.2.1.length:Int) > 0)) jS.1 q7.2 jR.1 jR.2.1) else (bV.j0 k false jS.1 q7.2 jR.1 jR.2.1)))))=some (r1,r2):=h
 clear h
 obtain ⟨⟨jH,zM⟩,A2,H⟩:=bsa H
 (try dsimp only at H)
 obtain ⟨⟨jg,jn,q8⟩,A3,H⟩:=bsa H
 (try dsimp only at H)
 have zu:=am H
 clear H
 go_enter Try.func26,Try.ntmps26
 go_upto_region 3 with (first|((with_reducible refine bQ (N:=2) rfl ?_);(try (refine kQ (by rfl) ?_;dsimp only));refine dJ rfl (N:=2) rfl (cs:=#[.slice none 0 0, .slice none 0 0]) (t:=46) rn_ ?_;intro j4 hg w5 hbox hb;have j6:=am (hbox);have GW66:=am ((by rw [hg];exact (aJ gK):w.heap.size≤j4));have GE66:=am ((by rw [hg];exact (aJ gK):w.heap.size≤j4));replace HB:=am (aG gK hb);clear hb hbox hg)|((with_reducible refine aN (f:=39) rfl ?_);refine gl_ 7 Try.func39 #[.slice A0 l0.length c0] ?_;(with_reducible refine (mX.calls _ _ l0 jH zM w _ ?side1 Jj.out Jk.out A2.out).mono ?_);(case side1=>repeat (first|(with_reducible first|exact HB.out|apply bO|apply bA|apply bG|refine below_set ?_ GE66.out)|exact HB.out));rintro e w6 ⟨je,rfl,hi,hb,hb2⟩;refine ⟨_,rfl,?_⟩;replace HB:=am (hb);have HI67:=am (hi);have NB67_66:=am (aQ.NZ hi (dA j6.out hb2) (by decide));have ju:=am (Ne.symm (aQ.NZ hi (dA j6.out hb2) (by decide)));replace j6:=am (dA j6.out hb2);(try clear hb);(try clear hb2);(try clear hi))|((with_reducible refine aN (f:=57) rfl ?_);refine gl_ 9 Try.func57 #[.pointer (some ⟨je,0,none⟩)] ?_;(with_reducible refine (dN.calls k je jH zM jg jn q8 w _ ?side1 ?side2 A3.out).mono ?_);(case side1=>exact LB);(case side2=>exact CU);rintro e w7 ⟨Jl,JE,rfl,ho0,ho1,hi,hb,hk⟩;refine ⟨_,rfl,?_⟩;have jI:=am (Kd.kC (Kd.yJ (M:=fun k_=>(w.heap.size≤k_)) (Kd.cZ (ok':=fun k_=>True) ho0 (fun _ hk_=>trivial)) (aJ CU) (fun k_ h_=>h_)) (aJ CU));have jJ:=am (Kd.dH (Kd.aD (ok':=fun k_=>(w.heap.size≤k_)∧some k_≠(Jl:Value).ownBlock∧k_≠j4∧k_≠je) ho1 (fun k_ hk_=>⟨(Nat.le_trans (aJ CU) hk_.1),hk_.2,(fG j6.out k_ hk_.1),(aQ.fresh LB k_ hk_.1)⟩)) (aJ CU));replace j6:=am (aI.blk hk (g':=j4) (o:= .cells #[.slice none 0 0, .slice none 0 0] 46 (0,0)) (aG_ j6.out) ju.out (by simp));replace HB:=am (hb);replace HI67:=am (hi);(try clear hb);(try clear hk);(try clear hi);(try clear ho0);(try clear ho1))|((with_reducible refine bQ (N:=4) rfl ?_);(try (refine kQ (by rfl) ?_;dsimp only));refine dJ rfl (N:=4) rfl (cs:=#[.slice none 0 0, .slice none 0 0]) (t:=46) rn_ ?_;intro j5 hg w8 hbox hb;replace jI:=am (Kd.dW (aR_ jI.out) hb);replace jJ:=am (Kd.dG (Kd.fC (aN_ jJ.out) j5 (Nat.le_of_eq hg.symm)) hb);have j8:=am (hbox);have Jm:=am ((by rw [hg];exact (aJ CU):w.heap.size≤j5));have GE72:=am ((by rw [hg];exact (aJ CU):w.heap.size≤j5));replace HB:=am (aG CU hb);have jv:=am ((by rw [hg];exact Nat.ne_of_lt (fO j6.out):j4≠j5));have jF:=am ((by rw [hg];exact Nat.ne_of_gt (fO j6.out):j5≠j4));replace j6:=bbP j6 hb;have NB67_72:=am ((by rw [hg];exact Nat.ne_of_lt (aQ.lt (show aQ w _ je jH q8 from LB)):je≠j5));have jr:=am ((by rw [hg];exact Nat.ne_of_gt (aQ.lt (show aQ w _ je jH q8 from LB)):j5≠je));replace HI67:=am (aQ.below LB hb);clear hb hbox hg;obtain ⟨jo,jp,Jn⟩:=Kd.kP jI.out;subst Jn;have zN:=jF.out;have zO:=jv.out;have zP:=jr.out;have zQ:=NB67_72.out;obtain ⟨jY,jZ,q2,q3⟩:=fT j8.out;obtain ⟨j9,j7,zv⟩:=Kd.dD jJ.out;subst zv))
 (try simp only [Act.put,List.setIfInBounds_toArray,List.set_cons_zero,List.set_cons_succ])
 go_cut [18] (fun Jo wc=>∃ (kq:Nat) (jP:Bool) (jN:Int),Jo= .bool jP∧Aside0 (bV.j0 kq jP jH jN jg jn=some (r1,r2))∧Aside0 (kq≤k)∧Aside0 (Kd.R (Kd.int .i64) 3 wc w.heap.size (fun k_=>(w.heap.size≤k_)) (.slice jo jg.length jp) jg)∧Aside0 (Kd.N (Kd.slice 35 k35) 23 wc w.heap.size (fun k_=>(w.heap.size≤k_)∧some k_≠((.slice jo jg.length jp):Value).ownBlock∧k_≠j4∧k_≠j5∧k_≠je) (.slice j9 jn.length j7) jn)∧Aside0 (wc.heap[j4]?=some (.cells #[(.slice none 0 0),(.slice none 0 0)] 46 (0,0)))∧Aside0 (wc.heap[j5]?=some (.cells #[(.slice jo jg.length jp),(.slice j9 jn.length j7)] 46 (0,0)))∧Aside0 (aQ w wc je jH jN)∧Aside0 (Below w.heap.size w wc))
 case first=>
  have H:=zu.out
  clear zu
  obtain ⟨⟨q9,qp⟩,zR,H⟩:=bsm H
  (try dsimp only at H)
  have zS:=am zR
  clear zR
  by_cases qa:q9=0
  ·rw [if_pos qa] at H
   have jO:(q9 == 0)=true:=beq_iff_eq.mpr qa
   have qd:(q9 != 0)=false:=bne_eq_false_iff_eq.mpr qa
   clear qa
   (first|rw [jO]|(simp only [dS,dV];rw [jO])|skip)
   have H':=am H
   clear H
   go_wp2_with (first|((with_reducible refine aN (f:=41) rfl ?_);refine gl_ 11 Try.func41 #[.pointer (some ⟨je,0,none⟩), .int .i64 3] ?_;(with_reducible refine (aH.calls k je jH q8 3 q9 qp w _ ?side1 ?side2 zS.out).mono ?_);(case side1=>exact uE);(case side2=>exact tH);rintro e JF ⟨rfl,hi,hb,hk⟩;refine ⟨_,rfl,?_⟩;replace j6:=am (aI.blk hk (g':=j4) (o:= .cells #[.slice none 0 0, .slice none 0 0] 46 (0,0)) (aZ (aZ j6.out jv.out _) jv.out _) ju.out (by simp));replace jI:=am (Kd.cZ (Kd.mF (aQ.apart (show aQ w _ je jH q8 from uE) (iC ((Kd.cZ (Kd.dM (p:=⟨j5,1,none⟩) (Kd.dM (p:=⟨j5,0,none⟩) (Kd.eF jI.out j8.out (by decide)) (fun _ hk=>hk.2) (.slice jo jg.length jp)) (fun _ hk=>hk.2) (.slice j9 jn.length j7)) (fun _ h_=>h_.1)))) (by decide)) hk (fun _ h=>h.2)) (fun _ h=>h.1));replace jJ:=am (Kd.aD (Kd.kM (Kd.aD (ok:=fun k_=>((((w.heap.size≤k_))∧(some k_≠(.slice jo jg.length jp:Value).ownBlock∧(k_≠j4∧k_≠je)))∧k_≠j5)) (eO ((Kd.aD (Kd.aT (p:=⟨j5,1,none⟩) (Kd.aT (p:=⟨j5,0,none⟩) (Kd.aD jJ.out (fun k_ hk=>(⟨hk,hk.2⟩:_∧k_≠j5))) (fun _ hk=>hk.2) (.slice jo jg.length jp)) (fun _ hk=>hk.2) (.slice j9 jn.length j7)) (fun _ h_=>h_.1)))) (fun k_ hk_=>(⟨hk_,hk_.1.2.2.2⟩:_∧k_≠je))) hk (fun _ h=>h.2)) (fun _ h=>h.1));replace j8:=am (aI.blk hk (g':=j5) (o:= .cells #[.slice jo jg.length jp, .slice j9 jn.length j7] 46 (0,0)) (aM (aM j8.out 0 _ rfl) 1 _ rfl) jr.out (by simp));replace HB:=am (hb);replace HI67:=am (hi);(try clear hb);(try clear hk);(try clear hi);have zT:=jF.out;have zU:=jv.out;have zV:=jr.out;have zW:=NB67_72.out;obtain ⟨qq,qr,qs,qt⟩:=fT j8.out))
   go_meet
   case rel=>exact ⟨_,(decide ((jn.length:Int) > 0)),(qp),sd_,H',⟨by first|omega|exact Nat.le_refl _⟩,⟨iC (Kd.cZ jI.out (fun _ hk=>hk.1))⟩,⟨eO (Kd.aD jJ.out (fun _ hk=>⟨hk.1.1,⟨hk.1.2.1,⟨hk.1.2.2.1,⟨hk.2,hk.1.2.2.2⟩⟩⟩⟩))⟩,⟨by (with_reducible repeat (first|refine dQ ?_ _|refine bT ?_|refine dF ?_ _));exact j6.out⟩,⟨by (with_reducible repeat (first|refine dQ ?_ _|refine bT ?_|refine dF ?_ _));exact j8.out⟩,⟨uE⟩,⟨tH⟩⟩
  rw [if_neg qa] at H
  have jO:(q9 == 0)=false:=beq_eq_false_iff_ne.mpr qa
  have qd:(q9 != 0)=true:=bne_iff_ne.mpr qa
  (first|rw [jO]|(simp only [dS,dV];rw [jO])|skip)
  have H':=am H
  clear H
  go_wp2_with (first|((with_reducible refine aN (f:=41) rfl ?_);refine gl_ 11 Try.func41 #[.pointer (some ⟨je,0,none⟩), .int .i64 3] ?_;(with_reducible refine (aH.calls k je jH q8 3 q9 qp w _ ?side1 ?side2 zS.out).mono ?_);(case side1=>exact uE);(case side2=>exact tH);rintro e JG ⟨rfl,hi,hb,hk⟩;refine ⟨_,rfl,?_⟩;replace j6:=am (aI.blk hk (g':=j4) (o:= .cells #[.slice none 0 0, .slice none 0 0] 46 (0,0)) (aZ (aZ j6.out jv.out _) jv.out _) ju.out (by simp));replace jI:=am (Kd.cZ (Kd.mF (aQ.apart (show aQ w _ je jH q8 from uE) (iC ((Kd.cZ (Kd.dM (p:=⟨j5,1,none⟩) (Kd.dM (p:=⟨j5,0,none⟩) (Kd.eF jI.out j8.out (by decide)) (fun _ hk=>hk.2) (.slice jo jg.length jp)) (fun _ hk=>hk.2) (.slice j9 jn.length j7)) (fun _ h_=>h_.1)))) (by decide)) hk (fun _ h=>h.2)) (fun _ h=>h.1));replace jJ:=am (Kd.aD (Kd.kM (Kd.aD (ok:=fun k_=>((((w.heap.size≤k_))∧(some k_≠(.slice jo jg.length jp:Value).ownBlock∧(k_≠j4∧k_≠je)))∧k_≠j5)) (eO ((Kd.aD (Kd.aT (p:=⟨j5,1,none⟩) (Kd.aT (p:=⟨j5,0,none⟩) (Kd.aD jJ.out (fun k_ hk=>(⟨hk,hk.2⟩:_∧k_≠j5))) (fun _ hk=>hk.2) (.slice jo jg.length jp)) (fun _ hk=>hk.2) (.slice j9 jn.length j7)) (fun _ h_=>h_.1)))) (fun k_ hk_=>(⟨hk_,hk_.1.2.2.2⟩:_∧k_≠je))) hk (fun _ h=>h.2)) (fun _ h=>h.1));replace j8:=am (aI.blk hk (g':=j5) (o:= .cells #[.slice jo jg.length jp, .slice j9 jn.length j7] 46 (0,0)) (aM (aM j8.out 0 _ rfl) 1 _ rfl) jr.out (by simp));replace HB:=am (hb);replace HI67:=am (hi);(try clear hb);(try clear hk);(try clear hi)))
  go_meet
  case rel=>exact ⟨_,(false),(qp),sd_,H',⟨by first|omega|exact Nat.le_refl _⟩,⟨iC (Kd.cZ jI.out (fun _ hk=>hk.1))⟩,⟨eO (Kd.aD jJ.out (fun _ hk=>⟨hk.1.1,⟨hk.1.2.1,⟨hk.1.2.2.1,⟨hk.2,hk.1.2.2.2⟩⟩⟩⟩))⟩,⟨by (with_reducible repeat (first|refine dQ ?_ _|refine bT ?_|refine dF ?_ _));exact j6.out⟩,⟨by (with_reducible repeat (first|refine dQ ?_ _|refine bT ?_|refine dF ?_ _));exact j8.out⟩,⟨uE⟩,⟨tH⟩⟩
 case rest=>
  clear zu
  try clear jY
  try clear jZ
  try clear q2
  try clear q3
  obtain ⟨kq,jP,jN,rfl,HA,HJ3,ja,jb,j6,j8,HI67,HB⟩:=hcut
  cases kq with
  |zero=>exact absurd HA.out (by simp [bV.j0])
  |succ qu=>
   have H:=HA.out
   clear HA
   simp only [bV.j0] at H
   by_cases qv:jP=true
   ·subst qv
    rw [if_pos rfl] at H
    obtain ⟨⟨jK,jL,jM,q4,jX,jE,jy,jz,qe⟩,zX,H⟩:=bsm H
    (try dsimp only at H)
    have Jp:=am zX
    clear zX
    obtain ⟨⟨zw,zx⟩,zY,H⟩:=bsm H
    (try dsimp only at H)
    have Jq:=am zY
    clear zY
    obtain ⟨⟨zy,zz⟩,zZ,H⟩:=bsm H
    (try dsimp only at H)
    have Jr:=am zZ
    clear zZ
    obtain ⟨⟨zA,qb,q5⟩,qf,H⟩:=bsm H
    (try dsimp only at H)
    have Js:=am qf
    clear qf
    obtain ⟨⟨zB,zC⟩,qg,H⟩:=bsm H
    (try dsimp only at H)
    have Jt:=am qg
    clear qg
    obtain ⟨⟨zD,qc,q6⟩,qh,H⟩:=bsm H
    (try dsimp only at H)
    have Ju:=am qh
    clear qh
    obtain ⟨⟨jG,jw,jx⟩,Jv,H⟩:=bsa H
    (try dsimp only at H)
    by_cases cQ:0 < (jn.length:Int)
    case neg=>
     rw [if_neg cQ] at H
     exact absurd H (by simp)
    rw [if_pos cQ] at H
    have LEN:=am cQ
    have LENN:Aside0 (0 < jn.length):=⟨by omega⟩
    clear cQ
    simp only [Option.some.injEq,Prod.mk.injEq] at H
    obtain ⟨rfl,rfl⟩:=H
    have J0:=jF.out
    have J1:=jv.out
    have J2:=jr.out
    have J3:=NB67_72.out
    obtain ⟨qw,qx,qy,qz⟩:=fT j8.out
    go_upto_region 6 with (first|((with_reducible refine aN (f:=42) rfl ?_);refine gl_ 23 Try.func42 #[.pointer (some ⟨je,0,none⟩), .int .i64 (jg.length:Int), .int .i64 1, .bool false] ?_;(with_reducible refine (eU.calls qu je jH jN (jg.length:Int) 1 false jK jL jM q4 jX jE jy jz qe w _ ?side1 ?side2 Jp.out).mono ?_);(case side1=>exact uE);(case side2=>exact tH);rintro e JH ⟨qi,qj,qk,rfl,ho0,ho1,ho2,hi,hb,hk⟩;refine ⟨_,rfl,?_⟩;have jq:=am (Kd.dH (Kd.aD (ok':=fun k_=>(w.heap.size≤k_)∧some k_≠(qj:Value).ownBlock∧some k_≠(qk:Value).ownBlock∧some k_≠(.slice jo jg.length jp:Value).ownBlock∧some k_≠(.slice j9 jn.length j7:Value).ownBlock∧k_≠j4∧k_≠j5∧k_≠je) ho0 (fun k_ hk_=>⟨(Nat.le_trans (aJ tH) hk_.1),hk_.2.1,hk_.2.2,(Kd.fresh' (Kd.iY (aR_ ja.out)) k_ hk_.1),(Kd.fresh' (Kd.iH (aN_ jb.out)) k_ hk_.1),(fG j6.out k_ hk_.1),(fG j8.out k_ hk_.1),(aQ.fresh uE k_ hk_.1)⟩)) (aJ tH));have jh:=am (Kd.dH (Kd.aD (ok':=fun k_=>(w.heap.size≤k_)∧some k_≠(qi:Value).ownBlock∧some k_≠(qk:Value).ownBlock∧some k_≠(.slice jo jg.length jp:Value).ownBlock∧some k_≠(.slice j9 jn.length j7:Value).ownBlock∧k_≠j4∧k_≠j5∧k_≠je) ho1 (fun k_ hk_=>⟨(Nat.le_trans (aJ tH) hk_.1),hk_.2.1,hk_.2.2,(Kd.fresh' (Kd.iY (aR_ ja.out)) k_ hk_.1),(Kd.fresh' (Kd.iH (aN_ jb.out)) k_ hk_.1),(fG j6.out k_ hk_.1),(fG j8.out k_ hk_.1),(aQ.fresh uE k_ hk_.1)⟩)) (aJ tH));have ji:=am (Kd.dH (Kd.aD (ok':=fun k_=>(w.heap.size≤k_)∧some k_≠(qi:Value).ownBlock∧some k_≠(qj:Value).ownBlock∧some k_≠(.slice jo jg.length jp:Value).ownBlock∧some k_≠(.slice j9 jn.length j7:Value).ownBlock∧k_≠j4∧k_≠j5∧k_≠je) ho2 (fun k_ hk_=>⟨(Nat.le_trans (aJ tH) hk_.1),hk_.2.1,hk_.2.2,(Kd.fresh' (Kd.iY (aR_ ja.out)) k_ hk_.1),(Kd.fresh' (Kd.iH (aN_ jb.out)) k_ hk_.1),(fG j6.out k_ hk_.1),(fG j8.out k_ hk_.1),(aQ.fresh uE k_ hk_.1)⟩)) (aJ tH));replace ja:=am (Kd.cZ (Kd.mF (aQ.apart (show aQ w _ je jH jN from uE) (aR_ ja.out) (by decide)) hk (fun _ h=>h.2)) (fun _ h=>h.1));replace jb:=am (Kd.aD (Kd.gZ (Kd.gZ (Kd.gZ (Kd.uP (Kd.aD (ok:=fun k_=>(((w.heap.size≤k_))∧(some k_≠(.slice jo jg.length jp:Value).ownBlock∧(k_≠j4∧(k_≠j5∧k_≠je))))) (aN_ jb.out) (fun k_ hk_=>(⟨hk_,hk_.2.2.2.2⟩:_∧k_≠je))) hk) (by first|exact Kd.dL ho0|exact Kd.dL (Kd.R_N ho0))) (Kd.dL ho1)) (Kd.dL ho2)) (fun _ h_=>h_.1));replace j6:=am (aI.blk hk (g':=j4) (o:= .cells #[.slice none 0 0, .slice none 0 0] 46 (0,0)) (aG_ j6.out) ju.out (by simp));replace j8:=am (aI.blk hk (g':=j5) (o:= .cells #[.slice jo jg.length jp, .slice j9 jn.length j7] 46 (0,0)) (aG_ j8.out) jr.out (by simp));replace HB:=am (hb);replace HI67:=am (hi);(try clear hb);(try clear hk);(try clear hi);(try clear ho0);(try clear ho1);(try clear ho2))|((with_reducible refine bQ (N:=5) rfl ?_);(try (refine kQ (by rfl) ?_;dsimp only));refine dJ rfl (N:=5) rfl (cs:=#[.int .i64 0, .int .i64 0, .int .i64 0, .int .i64 0, .int .i64 0, .slice none 0 0, .slice none 0 0, .slice none 0 0]) (t:=35) rn_ ?_;intro j3 hg JI hbox hb;replace ja:=am (Kd.dW (aR_ ja.out) hb);replace jb:=am (Kd.dG (Kd.fC (aN_ jb.out) j3 (Nat.le_of_eq hg.symm)) hb);replace jq:=am (Kd.dG (Kd.fC (aN_ jq.out) j3 (Nat.le_of_eq hg.symm)) hb);replace jh:=am (Kd.dG (Kd.fC (aN_ jh.out) j3 (Nat.le_of_eq hg.symm)) hb);replace ji:=am (Kd.dG (Kd.fC (aN_ ji.out) j3 (Nat.le_of_eq hg.symm)) hb);have jf:=am (hbox);have J4:=am ((by rw [hg];exact (aJ tH):w.heap.size≤j3));have GE117:=am ((by rw [hg];exact (aJ tH):w.heap.size≤j3));replace HB:=am (aG tH hb);have jc:=am ((by rw [hg];exact Nat.ne_of_lt (fO j6.out):j4≠j3));have jT:=am ((by rw [hg];exact Nat.ne_of_gt (fO j6.out):j3≠j4));replace j6:=bbP j6 hb;have jd:=am ((by rw [hg];exact Nat.ne_of_lt (fO j8.out):j5≠j3));have jU:=am ((by rw [hg];exact Nat.ne_of_gt (fO j8.out):j3≠j5));replace j8:=bbP j8 hb;have NB67_117:=am ((by rw [hg];exact Nat.ne_of_lt (aQ.lt (show aQ w _ je jH qe from uE)):je≠j3));have jA:=am ((by rw [hg];exact Nat.ne_of_gt (aQ.lt (show aQ w _ je jH qe from uE)):j3≠je));replace HI67:=am (aQ.below uE hb);clear hb hbox hg;have J5:=jT.out;have J6:=jc.out;have J7:=jU.out;have J8:=jd.out;have J9:=jA.out;have Ja:=NB67_117.out;obtain ⟨qA,qB,qC,qD,qE,qF,qG,qH,qI,qJ,qK,qL,qM,qN,qO,qP⟩:=eX jf.out;obtain ⟨js,jt,zE⟩:=Kd.dD jq.out;subst zE;obtain ⟨jj,jk,zF⟩:=Kd.dD jh.out;subst zF;obtain ⟨jl,jm,zG⟩:=Kd.dD ji.out;subst zG)|((with_reducible refine aN (f:=44) rfl ?_);refine gl_ 25 Try.func44 #[.pointer (some ⟨je,0,none⟩)] ?_;(with_reducible refine (iR.calls qu je jH qe zw zx w _ ?side1 ?side2 Jq.out).mono ?_);(case side1=>exact vP);(case side2=>exact vO);rintro e JJ ⟨rfl,hi,hb,hk⟩;refine ⟨_,rfl,?_⟩;replace ja:=am (Kd.cZ (Kd.mF (aQ.apart (show aQ w _ je jH qe from vP) (iC ((Kd.cZ (Kd.dM (p:=⟨j3,7,none⟩) (Kd.dM (p:=⟨j3,6,none⟩) (Kd.dM (p:=⟨j3,5,none⟩) (Kd.dM (p:=⟨j3,4,none⟩) (Kd.dM (p:=⟨j3,3,none⟩) (Kd.dM (p:=⟨j3,2,none⟩) (Kd.dM (p:=⟨j3,1,none⟩) (Kd.dM (p:=⟨j3,0,none⟩) (Kd.eF ja.out jf.out (by decide)) (fun _ hk=>hk.2) (.int .i64 jK)) (fun _ hk=>hk.2) (.int .i64 jL)) (fun _ hk=>hk.2) (.int .i64 jM)) (fun _ hk=>hk.2) (.int .i64 q4)) (fun _ hk=>hk.2) (.int .i64 jX)) (fun _ hk=>hk.2) (.slice js jE.length jt)) (fun _ hk=>hk.2) (.slice jj jy.length jk)) (fun _ hk=>hk.2) (.slice jl jz.length jm)) (fun _ h_=>h_.1)))) (by decide)) hk (fun _ h=>h.2)) (fun _ h=>h.1));replace jb:=am (Kd.aD (Kd.kM (Kd.aD (ok:=fun k_=>(((((((w.heap.size≤k_))∧(some k_≠(.slice jo jg.length jp:Value).ownBlock∧(k_≠j4∧(k_≠j5∧k_≠je))))∧some k_≠(.slice js jE.length jt:Value).ownBlock)∧some k_≠(.slice jj jy.length jk:Value).ownBlock)∧some k_≠(.slice jl jz.length jm:Value).ownBlock)∧k_≠j3)) (eO ((Kd.aD (Kd.aT (p:=⟨j3,7,none⟩) (Kd.aT (p:=⟨j3,6,none⟩) (Kd.aT (p:=⟨j3,5,none⟩) (Kd.aT (p:=⟨j3,4,none⟩) (Kd.aT (p:=⟨j3,3,none⟩) (Kd.aT (p:=⟨j3,2,none⟩) (Kd.aT (p:=⟨j3,1,none⟩) (Kd.aT (p:=⟨j3,0,none⟩) (Kd.aD jb.out (fun k_ hk=>(⟨hk,hk.2⟩:_∧k_≠j3))) (fun _ hk=>hk.2) (.int .i64 jK)) (fun _ hk=>hk.2) (.int .i64 jL)) (fun _ hk=>hk.2) (.int .i64 jM)) (fun _ hk=>hk.2) (.int .i64 q4)) (fun _ hk=>hk.2) (.int .i64 jX)) (fun _ hk=>hk.2) (.slice js jE.length jt)) (fun _ hk=>hk.2) (.slice jj jy.length jk)) (fun _ hk=>hk.2) (.slice jl jz.length jm)) (fun _ h_=>h_.1)))) (fun k_ hk_=>(⟨hk_,hk_.1.1.1.1.2.2.2.2⟩:_∧k_≠je))) hk (fun _ h=>h.2)) (fun _ h=>h.1));replace j6:=am (aI.blk hk (g':=j4) (o:= .cells #[.slice none 0 0, .slice none 0 0] 46 (0,0)) (aZ (aZ (aZ (aZ (aZ (aZ (aZ (aZ j6.out jc.out _) jc.out _) jc.out _) jc.out _) jc.out _) jc.out _) jc.out _) jc.out _) ju.out (by simp));replace j8:=am (aI.blk hk (g':=j5) (o:= .cells #[.slice jo jg.length jp, .slice j9 jn.length j7] 46 (0,0)) (aZ (aZ (aZ (aZ (aZ (aZ (aZ (aZ j8.out jd.out _) jd.out _) jd.out _) jd.out _) jd.out _) jd.out _) jd.out _) jd.out _) jr.out (by simp));replace jq:=am (Kd.aD (Kd.kM (Kd.aD (ok:=fun k_=>((((w.heap.size≤k_))∧(some k_≠(.slice jj jy.length jk:Value).ownBlock∧(some k_≠(.slice jl jz.length jm:Value).ownBlock∧(some k_≠(.slice jo jg.length jp:Value).ownBlock∧(some k_≠(.slice j9 jn.length j7:Value).ownBlock∧(k_≠j4∧(k_≠j5∧k_≠je)))))))∧k_≠j3)) (eO ((Kd.aD (Kd.aT (p:=⟨j3,7,none⟩) (Kd.aT (p:=⟨j3,6,none⟩) (Kd.aT (p:=⟨j3,5,none⟩) (Kd.aT (p:=⟨j3,4,none⟩) (Kd.aT (p:=⟨j3,3,none⟩) (Kd.aT (p:=⟨j3,2,none⟩) (Kd.aT (p:=⟨j3,1,none⟩) (Kd.aT (p:=⟨j3,0,none⟩) (Kd.aD jq.out (fun k_ hk=>(⟨hk,hk.2⟩:_∧k_≠j3))) (fun _ hk=>hk.2) (.int .i64 jK)) (fun _ hk=>hk.2) (.int .i64 jL)) (fun _ hk=>hk.2) (.int .i64 jM)) (fun _ hk=>hk.2) (.int .i64 q4)) (fun _ hk=>hk.2) (.int .i64 jX)) (fun _ hk=>hk.2) (.slice js jE.length jt)) (fun _ hk=>hk.2) (.slice jj jy.length jk)) (fun _ hk=>hk.2) (.slice jl jz.length jm)) (fun _ h_=>h_.1)))) (fun k_ hk_=>(⟨hk_,hk_.1.2.2.2.2.2.2.2⟩:_∧k_≠je))) hk (fun _ h=>h.2)) (fun _ h=>h.1));replace jh:=am (Kd.aD (Kd.kM (Kd.aD (ok:=fun k_=>((((w.heap.size≤k_))∧(some k_≠(.slice js jE.length jt:Value).ownBlock∧(some k_≠(.slice jl jz.length jm:Value).ownBlock∧(some k_≠(.slice jo jg.length jp:Value).ownBlock∧(some k_≠(.slice j9 jn.length j7:Value).ownBlock∧(k_≠j4∧(k_≠j5∧k_≠je)))))))∧k_≠j3)) (eO ((Kd.aD (Kd.aT (p:=⟨j3,7,none⟩) (Kd.aT (p:=⟨j3,6,none⟩) (Kd.aT (p:=⟨j3,5,none⟩) (Kd.aT (p:=⟨j3,4,none⟩) (Kd.aT (p:=⟨j3,3,none⟩) (Kd.aT (p:=⟨j3,2,none⟩) (Kd.aT (p:=⟨j3,1,none⟩) (Kd.aT (p:=⟨j3,0,none⟩) (Kd.aD jh.out (fun k_ hk=>(⟨hk,hk.2⟩:_∧k_≠j3))) (fun _ hk=>hk.2) (.int .i64 jK)) (fun _ hk=>hk.2) (.int .i64 jL)) (fun _ hk=>hk.2) (.int .i64 jM)) (fun _ hk=>hk.2) (.int .i64 q4)) (fun _ hk=>hk.2) (.int .i64 jX)) (fun _ hk=>hk.2) (.slice js jE.length jt)) (fun _ hk=>hk.2) (.slice jj jy.length jk)) (fun _ hk=>hk.2) (.slice jl jz.length jm)) (fun _ h_=>h_.1)))) (fun k_ hk_=>(⟨hk_,hk_.1.2.2.2.2.2.2.2⟩:_∧k_≠je))) hk (fun _ h=>h.2)) (fun _ h=>h.1));replace ji:=am (Kd.aD (Kd.kM (Kd.aD (ok:=fun k_=>((((w.heap.size≤k_))∧(some k_≠(.slice js jE.length jt:Value).ownBlock∧(some k_≠(.slice jj jy.length jk:Value).ownBlock∧(some k_≠(.slice jo jg.length jp:Value).ownBlock∧(some k_≠(.slice j9 jn.length j7:Value).ownBlock∧(k_≠j4∧(k_≠j5∧k_≠je)))))))∧k_≠j3)) (eO ((Kd.aD (Kd.aT (p:=⟨j3,7,none⟩) (Kd.aT (p:=⟨j3,6,none⟩) (Kd.aT (p:=⟨j3,5,none⟩) (Kd.aT (p:=⟨j3,4,none⟩) (Kd.aT (p:=⟨j3,3,none⟩) (Kd.aT (p:=⟨j3,2,none⟩) (Kd.aT (p:=⟨j3,1,none⟩) (Kd.aT (p:=⟨j3,0,none⟩) (Kd.aD ji.out (fun k_ hk=>(⟨hk,hk.2⟩:_∧k_≠j3))) (fun _ hk=>hk.2) (.int .i64 jK)) (fun _ hk=>hk.2) (.int .i64 jL)) (fun _ hk=>hk.2) (.int .i64 jM)) (fun _ hk=>hk.2) (.int .i64 q4)) (fun _ hk=>hk.2) (.int .i64 jX)) (fun _ hk=>hk.2) (.slice js jE.length jt)) (fun _ hk=>hk.2) (.slice jj jy.length jk)) (fun _ hk=>hk.2) (.slice jl jz.length jm)) (fun _ h_=>h_.1)))) (fun k_ hk_=>(⟨hk_,hk_.1.2.2.2.2.2.2.2⟩:_∧k_≠je))) hk (fun _ h=>h.2)) (fun _ h=>h.1));replace jf:=am (aI.blk hk (g':=j3) (o:= .cells #[.int .i64 jK, .int .i64 jL, .int .i64 jM, .int .i64 q4, .int .i64 jX, .slice js jE.length jt, .slice jj jy.length jk, .slice jl jz.length jm] 35 (0,0)) (aM (aM (aM (aM (aM (aM (aM (aM jf.out 0 _ rfl) 1 _ rfl) 2 _ rfl) 3 _ rfl) 4 _ rfl) 5 _ rfl) 6 _ rfl) 7 _ rfl) jA.out (by simp));replace HB:=am (hb);replace HI67:=am (hi);(try clear hb);(try clear hk);(try clear hi))|((with_reducible refine aN (f:=41) rfl ?_);refine gl_ 27 Try.func41 #[.pointer (some ⟨je,0,none⟩), .int .i64 3] ?_;(with_reducible refine (aH.calls qu je jH zx 3 zy zz w _ ?side1 ?side2 Jr.out).mono ?_);(case side1=>exact vP);(case side2=>exact vO);rintro e JK ⟨rfl,hi,hb,hk⟩;refine ⟨_,rfl,?_⟩;replace ja:=am (Kd.cZ (Kd.mF (aQ.apart (show aQ w _ je jH zx from vP) (aR_ ja.out) (by decide)) hk (fun _ h=>h.2)) (fun _ h=>h.1));replace jb:=am (Kd.aD (Kd.kM (Kd.aD (ok:=fun k_=>(((((((w.heap.size≤k_))∧(some k_≠(.slice jo jg.length jp:Value).ownBlock∧(k_≠j4∧(k_≠j5∧k_≠je))))∧some k_≠(.slice js jE.length jt:Value).ownBlock)∧some k_≠(.slice jj jy.length jk:Value).ownBlock)∧some k_≠(.slice jl jz.length jm:Value).ownBlock)∧k_≠j3)) (aN_ jb.out) (fun k_ hk_=>(⟨hk_,hk_.1.1.1.1.2.2.2.2⟩:_∧k_≠je))) hk (fun _ h=>h.2)) (fun _ h=>h.1));replace j6:=am (aI.blk hk (g':=j4) (o:= .cells #[.slice none 0 0, .slice none 0 0] 46 (0,0)) (aG_ j6.out) ju.out (by simp));replace j8:=am (aI.blk hk (g':=j5) (o:= .cells #[.slice jo jg.length jp, .slice j9 jn.length j7] 46 (0,0)) (aG_ j8.out) jr.out (by simp));replace jq:=am (Kd.aD (Kd.kM (Kd.aD (ok:=fun k_=>((((w.heap.size≤k_))∧(some k_≠(.slice jj jy.length jk:Value).ownBlock∧(some k_≠(.slice jl jz.length jm:Value).ownBlock∧(some k_≠(.slice jo jg.length jp:Value).ownBlock∧(some k_≠(.slice j9 jn.length j7:Value).ownBlock∧(k_≠j4∧(k_≠j5∧k_≠je)))))))∧k_≠j3)) (aN_ jq.out) (fun k_ hk_=>(⟨hk_,hk_.1.2.2.2.2.2.2.2⟩:_∧k_≠je))) hk (fun _ h=>h.2)) (fun _ h=>h.1));replace jh:=am (Kd.aD (Kd.kM (Kd.aD (ok:=fun k_=>((((w.heap.size≤k_))∧(some k_≠(.slice js jE.length jt:Value).ownBlock∧(some k_≠(.slice jl jz.length jm:Value).ownBlock∧(some k_≠(.slice jo jg.length jp:Value).ownBlock∧(some k_≠(.slice j9 jn.length j7:Value).ownBlock∧(k_≠j4∧(k_≠j5∧k_≠je)))))))∧k_≠j3)) (aN_ jh.out) (fun k_ hk_=>(⟨hk_,hk_.1.2.2.2.2.2.2.2⟩:_∧k_≠je))) hk (fun _ h=>h.2)) (fun _ h=>h.1));replace ji:=am (Kd.aD (Kd.kM (Kd.aD (ok:=fun k_=>((((w.heap.size≤k_))∧(some k_≠(.slice js jE.length jt:Value).ownBlock∧(some k_≠(.slice jj jy.length jk:Value).ownBlock∧(some k_≠(.slice jo jg.length jp:Value).ownBlock∧(some k_≠(.slice j9 jn.length j7:Value).ownBlock∧(k_≠j4∧(k_≠j5∧k_≠je)))))))∧k_≠j3)) (aN_ ji.out) (fun k_ hk_=>(⟨hk_,hk_.1.2.2.2.2.2.2.2⟩:_∧k_≠je))) hk (fun _ h=>h.2)) (fun _ h=>h.1));replace jf:=am (aI.blk hk (g':=j3) (o:= .cells #[.int .i64 jK, .int .i64 jL, .int .i64 jM, .int .i64 q4, .int .i64 jX, .slice js jE.length jt, .slice jj jy.length jk, .slice jl jz.length jm] 35 (0,0)) (aG_ jf.out) jA.out (by simp));replace HB:=am (hb);replace HI67:=am (hi);(try clear hb);(try clear hk);(try clear hi))|((with_reducible refine aN (f:=45) rfl ?_);refine gl_ 28 Try.func45 #[.int .i64 0, .int .i64 zy] ?_;(with_reducible refine (fF.calls 0 zy zA qb q5 _ Js.out).mono ?_);rintro e JL ⟨jV,rfl,ho0,hb⟩;refine ⟨_,rfl,?_⟩;have jB:=am (Kd.dH (Kd.aD (ok':=fun k_=>(w.heap.size≤k_)∧some k_≠(.slice jo jg.length jp:Value).ownBlock∧some k_≠(.slice j9 jn.length j7:Value).ownBlock∧some k_≠(.slice js jE.length jt:Value).ownBlock∧some k_≠(.slice jj jy.length jk:Value).ownBlock∧some k_≠(.slice jl jz.length jm:Value).ownBlock∧k_≠j4∧k_≠j5∧k_≠j3∧k_≠je) (Kd.R_N (Kd.mK ho0)) (fun k_ hk_=>⟨(Nat.le_trans (aJ vO) hk_.2.1),(Kd.fresh' (Kd.iY (aR_ ja.out)) k_ hk_.2.1),(Kd.fresh' (Kd.iH (aN_ jb.out)) k_ hk_.2.1),(Kd.fresh' (Kd.iH (aN_ jq.out)) k_ hk_.2.1),(Kd.fresh' (Kd.iH (aN_ jh.out)) k_ hk_.2.1),(Kd.fresh' (Kd.iH (aN_ ji.out)) k_ hk_.2.1),(fG j6.out k_ hk_.2.1),(fG j8.out k_ hk_.2.1),(fG jf.out k_ hk_.2.1),(aQ.fresh vP k_ hk_.2.1)⟩)) (aJ vO));replace ja:=am (Kd.dW (aR_ ja.out) hb);replace jb:=am (Kd.fM (aN_ jb.out) (by first|exact Kd.dL ho0|exact Kd.dL (Kd.R_N ho0)) hb);replace jq:=am (Kd.fM (aN_ jq.out) (by first|exact Kd.dL ho0|exact Kd.dL (Kd.R_N ho0)) hb);replace jh:=am (Kd.fM (aN_ jh.out) (by first|exact Kd.dL ho0|exact Kd.dL (Kd.R_N ho0)) hb);replace ji:=am (Kd.fM (aN_ ji.out) (by first|exact Kd.dL ho0|exact Kd.dL (Kd.R_N ho0)) hb);replace j6:=bbP j6 hb;replace j8:=bbP j8 hb;replace jf:=bbP jf hb;replace HB:=am (aG vO hb);replace HI67:=am (aQ.below vP hb);(try clear hb);(try clear ho0))|((with_reducible refine aN (f:=41) rfl ?_);refine gl_ 30 Try.func41 #[.pointer (some ⟨je,0,none⟩), .int .i64 3] ?_;(with_reducible refine (aH.calls qu je jH zz 3 zB zC w _ ?side1 ?side2 Jt.out).mono ?_);(case side1=>exact vP);(case side2=>exact vO);rintro e JM ⟨rfl,hi,hb,hk⟩;refine ⟨_,rfl,?_⟩;replace ja:=am (Kd.cZ (Kd.mF (aQ.apart (show aQ w _ je jH zz from vP) (aR_ ja.out) (by decide)) hk (fun _ h=>h.2)) (fun _ h=>h.1));replace jb:=am (Kd.aD (Kd.kM (Kd.aD (ok:=fun k_=>((((((((w.heap.size≤k_))∧(some k_≠(.slice jo jg.length jp:Value).ownBlock∧(k_≠j4∧(k_≠j5∧k_≠je))))∧some k_≠(.slice js jE.length jt:Value).ownBlock)∧some k_≠(.slice jj jy.length jk:Value).ownBlock)∧some k_≠(.slice jl jz.length jm:Value).ownBlock)∧k_≠j3)∧some k_≠(jV:Value).ownBlock)) (aN_ jb.out) (fun k_ hk_=>(⟨hk_,hk_.1.1.1.1.1.2.2.2.2⟩:_∧k_≠je))) hk (fun _ h=>h.2)) (fun _ h=>h.1));replace j6:=am (aI.blk hk (g':=j4) (o:= .cells #[.slice none 0 0, .slice none 0 0] 46 (0,0)) (aG_ j6.out) ju.out (by simp));replace j8:=am (aI.blk hk (g':=j5) (o:= .cells #[.slice jo jg.length jp, .slice j9 jn.length j7] 46 (0,0)) (aG_ j8.out) jr.out (by simp));replace jq:=am (Kd.aD (Kd.kM (Kd.aD (ok:=fun k_=>(((((w.heap.size≤k_))∧(some k_≠(.slice jj jy.length jk:Value).ownBlock∧(some k_≠(.slice jl jz.length jm:Value).ownBlock∧(some k_≠(.slice jo jg.length jp:Value).ownBlock∧(some k_≠(.slice j9 jn.length j7:Value).ownBlock∧(k_≠j4∧(k_≠j5∧k_≠je)))))))∧k_≠j3)∧some k_≠(jV:Value).ownBlock)) (aN_ jq.out) (fun k_ hk_=>(⟨hk_,hk_.1.1.2.2.2.2.2.2.2⟩:_∧k_≠je))) hk (fun _ h=>h.2)) (fun _ h=>h.1));replace jh:=am (Kd.aD (Kd.kM (Kd.aD (ok:=fun k_=>(((((w.heap.size≤k_))∧(some k_≠(.slice js jE.length jt:Value).ownBlock∧(some k_≠(.slice jl jz.length jm:Value).ownBlock∧(some k_≠(.slice jo jg.length jp:Value).ownBlock∧(some k_≠(.slice j9 jn.length j7:Value).ownBlock∧(k_≠j4∧(k_≠j5∧k_≠je)))))))∧k_≠j3)∧some k_≠(jV:Value).ownBlock)) (aN_ jh.out) (fun k_ hk_=>(⟨hk_,hk_.1.1.2.2.2.2.2.2.2⟩:_∧k_≠je))) hk (fun _ h=>h.2)) (fun _ h=>h.1));replace ji:=am (Kd.aD (Kd.kM (Kd.aD (ok:=fun k_=>(((((w.heap.size≤k_))∧(some k_≠(.slice js jE.length jt:Value).ownBlock∧(some k_≠(.slice jj jy.length jk:Value).ownBlock∧(some k_≠(.slice jo jg.length jp:Value).ownBlock∧(some k_≠(.slice j9 jn.length j7:Value).ownBlock∧(k_≠j4∧(k_≠j5∧k_≠je)))))))∧k_≠j3)∧some k_≠(jV:Value).ownBlock)) (aN_ ji.out) (fun k_ hk_=>(⟨hk_,hk_.1.1.2.2.2.2.2.2.2⟩:_∧k_≠je))) hk (fun _ h=>h.2)) (fun _ h=>h.1));replace jf:=am (aI.blk hk (g':=j3) (o:= .cells #[.int .i64 jK, .int .i64 jL, .int .i64 jM, .int .i64 q4, .int .i64 jX, .slice js jE.length jt, .slice jj jy.length jk, .slice jl jz.length jm] 35 (0,0)) (aG_ jf.out) jA.out (by simp));replace jB:=am (Kd.aD (Kd.kM (Kd.aD (ok:=fun k_=>(((w.heap.size≤k_))∧(some k_≠(.slice jo jg.length jp:Value).ownBlock∧(some k_≠(.slice j9 jn.length j7:Value).ownBlock∧(some k_≠(.slice js jE.length jt:Value).ownBlock∧(some k_≠(.slice jj jy.length jk:Value).ownBlock∧(some k_≠(.slice jl jz.length jm:Value).ownBlock∧(k_≠j4∧(k_≠j5∧(k_≠j3∧k_≠je)))))))))) (aN_ jB.out) (fun k_ hk_=>(⟨hk_,hk_.2.2.2.2.2.2.2.2.2⟩:_∧k_≠je))) hk (fun _ h=>h.2)) (fun _ h=>h.1));replace HB:=am (hb);replace HI67:=am (hi);(try clear hb);(try clear hk);(try clear hi))|((with_reducible refine aN (f:=45) rfl ?_);refine gl_ 31 Try.func45 #[.int .i64 0, .int .i64 zB] ?_;(with_reducible refine (fF.calls 0 zB zD qc q6 _ Ju.out).mono ?_);rintro e JN ⟨Jw,rfl,ho0,hb⟩;refine ⟨_,rfl,?_⟩;have jQ:=am (Kd.dH (Kd.aD (ok':=fun k_=>(w.heap.size≤k_)∧some k_≠(.slice jo jg.length jp:Value).ownBlock∧some k_≠(.slice j9 jn.length j7:Value).ownBlock∧some k_≠(.slice js jE.length jt:Value).ownBlock∧some k_≠(.slice jj jy.length jk:Value).ownBlock∧some k_≠(.slice jl jz.length jm:Value).ownBlock∧some k_≠(jV:Value).ownBlock∧k_≠j4∧k_≠j5∧k_≠j3∧k_≠je) (Kd.R_N (Kd.mK ho0)) (fun k_ hk_=>⟨(Nat.le_trans (aJ vO) hk_.2.1),(Kd.fresh' (Kd.iY (aR_ ja.out)) k_ hk_.2.1),(Kd.fresh' (Kd.iH (aN_ jb.out)) k_ hk_.2.1),(Kd.fresh' (Kd.iH (aN_ jq.out)) k_ hk_.2.1),(Kd.fresh' (Kd.iH (aN_ jh.out)) k_ hk_.2.1),(Kd.fresh' (Kd.iH (aN_ ji.out)) k_ hk_.2.1),(Kd.fresh' (Kd.iH (aN_ jB.out)) k_ hk_.2.1),(fG j6.out k_ hk_.2.1),(fG j8.out k_ hk_.2.1),(fG jf.out k_ hk_.2.1),(aQ.fresh vP k_ hk_.2.1)⟩)) (aJ vO));replace ja:=am (Kd.dW (aR_ ja.out) hb);replace jb:=am (Kd.fM (aN_ jb.out) (by first|exact Kd.dL ho0|exact Kd.dL (Kd.R_N ho0)) hb);replace jq:=am (Kd.fM (aN_ jq.out) (by first|exact Kd.dL ho0|exact Kd.dL (Kd.R_N ho0)) hb);replace jh:=am (Kd.fM (aN_ jh.out) (by first|exact Kd.dL ho0|exact Kd.dL (Kd.R_N ho0)) hb);replace ji:=am (Kd.fM (aN_ ji.out) (by first|exact Kd.dL ho0|exact Kd.dL (Kd.R_N ho0)) hb);replace jB:=am (Kd.fM (aN_ jB.out) (by first|exact Kd.dL ho0|exact Kd.dL (Kd.R_N ho0)) hb);replace j6:=bbP j6 hb;replace j8:=bbP j8 hb;replace jf:=bbP jf hb;replace HB:=am (aG vO hb);replace HI67:=am (aQ.below vP hb);(try clear hb);(try clear ho0);obtain ⟨ql,qm,zH⟩:=Kd.dD jB.out;subst zH;obtain ⟨qn,qo,zI⟩:=Kd.dD jQ.out;subst zI)|((with_reducible refine aN (f:=43) rfl ?_);refine gl_ 32 Try.func43 #[.int .i64 zw, .agg #[.int .i64 zA, .int .i64 qb, .slice ql q5.length qm], .agg #[.int .i64 zD, .int .i64 qc, .slice qn q6.length qo]] ?_;(with_reducible refine (kD.calls zw zA qb (fun k_=>(((w.heap.size≤k_)∧(some k_≠(.slice jo jg.length jp:Value).ownBlock∧(some k_≠(.slice j9 jn.length j7:Value).ownBlock∧(some k_≠(.slice js jE.length jt:Value).ownBlock∧(some k_≠(.slice jj jy.length jk:Value).ownBlock∧(some k_≠(.slice jl jz.length jm:Value).ownBlock∧(k_≠j4∧(k_≠j5∧(k_≠j3∧k_≠je)))))))))∧some k_≠(.slice qn q6.length qo:Value).ownBlock)) _ _ q5 zD qc (fun k_=>((w.heap.size≤k_)∧(some k_≠(.slice jo jg.length jp:Value).ownBlock∧(some k_≠(.slice j9 jn.length j7:Value).ownBlock∧(some k_≠(.slice js jE.length jt:Value).ownBlock∧(some k_≠(.slice jj jy.length jk:Value).ownBlock∧(some k_≠(.slice jl jz.length jm:Value).ownBlock∧(some k_≠(.slice ql q5.length qm:Value).ownBlock∧(k_≠j4∧(k_≠j5∧(k_≠j3∧k_≠je))))))))))) _ _ q6 jG jw jx _ ?side1 ?side2 Jv.out).mono ?_);(case side1=>exact Kd.N_V (jB.out));(case side2=>exact Kd.N_V (jQ.out));rintro e Jx ⟨Jy,rfl,ho0,hb⟩;refine ⟨_,rfl,?_⟩;replace jB:=am (Kd.fM (aN_ jB.out) (by first|exact Kd.dL ho0|exact Kd.dL (Kd.R_N ho0)) hb);replace jQ:=am (Kd.fM (aN_ jQ.out) (by first|exact Kd.dL ho0|exact Kd.dL (Kd.R_N ho0)) hb);have jW:=am (Kd.dH (Kd.aD (ok':=fun k_=>(w.heap.size≤k_)∧some k_≠(.slice jo jg.length jp:Value).ownBlock∧some k_≠(.slice j9 jn.length j7:Value).ownBlock∧some k_≠(.slice js jE.length jt:Value).ownBlock∧some k_≠(.slice jj jy.length jk:Value).ownBlock∧some k_≠(.slice jl jz.length jm:Value).ownBlock∧k_≠j4∧k_≠j5∧k_≠j3∧k_≠je) ho0 (fun k_ hk_=>⟨Or.elim hk_ (fun hs_=>Or.elim hs_ (fun hs_=>hs_.1.1) (fun hs_=>hs_.1)) (fun hn_=>(Nat.le_trans (aJ vO) hn_)),Or.elim hk_ (fun hs_=>Or.elim hs_ (fun hs_=>hs_.1.2.1) (fun hs_=>hs_.2.1)) (fun hn_=>(Kd.fresh' (Kd.iY (aR_ ja.out)) k_ hn_)),Or.elim hk_ (fun hs_=>Or.elim hs_ (fun hs_=>hs_.1.2.2.1) (fun hs_=>hs_.2.2.1)) (fun hn_=>(Kd.fresh' (Kd.iH (aN_ jb.out)) k_ hn_)),Or.elim hk_ (fun hs_=>Or.elim hs_ (fun hs_=>hs_.1.2.2.2.1) (fun hs_=>hs_.2.2.2.1)) (fun hn_=>(Kd.fresh' (Kd.iH (aN_ jq.out)) k_ hn_)),Or.elim hk_ (fun hs_=>Or.elim hs_ (fun hs_=>hs_.1.2.2.2.2.1) (fun hs_=>hs_.2.2.2.2.1)) (fun hn_=>(Kd.fresh' (Kd.iH (aN_ jh.out)) k_ hn_)),Or.elim hk_ (fun hs_=>Or.elim hs_ (fun hs_=>hs_.1.2.2.2.2.2.1) (fun hs_=>hs_.2.2.2.2.2.1)) (fun hn_=>(Kd.fresh' (Kd.iH (aN_ ji.out)) k_ hn_)),Or.elim hk_ (fun hs_=>Or.elim hs_ (fun hs_=>hs_.1.2.2.2.2.2.2.1) (fun hs_=>hs_.2.2.2.2.2.2.2.1)) (fun hn_=>(fG j6.out k_ hn_)),Or.elim hk_ (fun hs_=>Or.elim hs_ (fun hs_=>hs_.1.2.2.2.2.2.2.2.1) (fun hs_=>hs_.2.2.2.2.2.2.2.2.1)) (fun hn_=>(fG j8.out k_ hn_)),Or.elim hk_ (fun hs_=>Or.elim hs_ (fun hs_=>hs_.1.2.2.2.2.2.2.2.2.1) (fun hs_=>hs_.2.2.2.2.2.2.2.2.2.1)) (fun hn_=>(fG jf.out k_ hn_)),Or.elim hk_ (fun hs_=>Or.elim hs_ (fun hs_=>hs_.1.2.2.2.2.2.2.2.2.2) (fun hs_=>hs_.2.2.2.2.2.2.2.2.2.2)) (fun hn_=>(aQ.fresh vP k_ hn_))⟩)) (aJ vO));replace ja:=am (Kd.dW (aR_ ja.out) hb);replace jb:=am (Kd.fM (aN_ jb.out) (by first|exact Kd.dL ho0|exact Kd.dL (Kd.R_N ho0)) hb);replace jq:=am (Kd.fM (aN_ jq.out) (by first|exact Kd.dL ho0|exact Kd.dL (Kd.R_N ho0)) hb);replace jh:=am (Kd.fM (aN_ jh.out) (by first|exact Kd.dL ho0|exact Kd.dL (Kd.R_N ho0)) hb);replace ji:=am (Kd.fM (aN_ ji.out) (by first|exact Kd.dL ho0|exact Kd.dL (Kd.R_N ho0)) hb);replace j6:=bbP j6 hb;replace j8:=bbP j8 hb;replace jf:=bbP jf hb;replace HB:=am (aG vO hb);replace HI67:=am (aQ.below vP hb);(try clear hb);(try clear ho0);obtain ⟨qQ,qR,qS,qT,qU,qV,qW,qX,qY,qZ,z8,z9,za,zb,zc,zd⟩:=eX jf.out;obtain ⟨jC,jD,zJ⟩:=Kd.dD jW.out;subst zJ;obtain ⟨ze,zf,zg,zh⟩:=fT j8.out;have Jb:=ju.out;have Jc:=NB67_66.out;obtain ⟨zi,zj,zk,zl⟩:=fT j6.out))
    have yX:=am (aM (cs':=#[(.int .i64 jK),(.int .i64 jL),(.int .i64 jM),(.int .i64 jG),(.int .i64 jw),(.slice jC jx.length jD),(.slice jj jy.length jk),(.slice jl jz.length jm)]) (aM (cs':=#[(.int .i64 jK),(.int .i64 jL),(.int .i64 jM),(.int .i64 jG),(.int .i64 jw),(.slice js jE.length jt),(.slice jj jy.length jk),(.slice jl jz.length jm)]) (aM (cs':=#[(.int .i64 jK),(.int .i64 jL),(.int .i64 jM),(.int .i64 jG),(.int .i64 jX),(.slice js jE.length jt),(.slice jj jy.length jk),(.slice jl jz.length jm)]) jf.out 3 (.int .i64 jG) rfl) 4 (.int .i64 jw) rfl) 5 (.slice jC jx.length jD) rfl)
    have yB:=am (below_set (j:=5) (v:=(.slice jC jx.length jD)) (below_set (j:=4) (v:=(.int .i64 jw)) (below_set (j:=3) (v:=(.int .i64 jG)) HB.out GE117.out) GE117.out) GE117.out)
    have yP:=am (aZ (p:=⟨j3,5,none⟩) (aZ (p:=⟨j3,4,none⟩) (aZ (p:=⟨j3,3,none⟩) j8.out jd.out (.int .i64 jG)) jd.out (.int .i64 jw)) jd.out (.slice jC jx.length jD))
    have yR:=am (aZ (p:=⟨j3,5,none⟩) (aZ (p:=⟨j3,4,none⟩) (aZ (p:=⟨j3,3,none⟩) j6.out jc.out (.int .i64 jG)) jc.out (.int .i64 jw)) jc.out (.slice jC jx.length jD))
    have yHR:=am (Kd.cZ (Kd.dM (p:=⟨j3,5,none⟩) (Kd.dM (p:=⟨j3,4,none⟩) (Kd.dM (p:=⟨j3,3,none⟩) (Kd.eF ja.out jf.out (by decide)) (fun _ hk=>hk.2) (.int .i64 jG)) (fun _ hk=>hk.2) (.int .i64 jw)) (fun _ hk=>hk.2) (.slice jC jx.length jD)) (fun _ hk=>hk.1))
    have y_HO_924001:=am (Kd.aD (ok':=fun q=>w.heap.size≤q∧some q≠(.slice jo jg.length jp:Value).ownBlock∧q≠j4) (Kd.aT (p:=⟨j3,5,none⟩) (Kd.aT (p:=⟨j3,4,none⟩) (Kd.aT (p:=⟨j3,3,none⟩) (Kd.aD (ok':=fun q=>(fun q=>w.heap.size≤q∧some q≠(.slice jo jg.length jp:Value).ownBlock∧q≠j4) q∧q≠j3) jb.out (fun q hq=>by (simp only [hq,ne_eq,not_false_eq_true,and_self,true_and,and_true]))) (fun _ hk=>hk.2) (.int .i64 jG)) (fun _ hk=>hk.2) (.int .i64 jw)) (fun _ hk=>hk.2) (.slice jC jx.length jD)) (fun q hq=>by (have hq':=hq.1;simp only [hq',ne_eq,not_false_eq_true,and_self,true_and,and_true])))
    have y_HO962:=am (Kd.aD (ok':=fun q=>(w.heap.size≤q∧some q≠(.slice jo jg.length jp:Value).ownBlock∧q≠j4)∧some q≠(.slice j9 jn.length j7:Value).ownBlock) (Kd.aT (p:=⟨j3,5,none⟩) (Kd.aT (p:=⟨j3,4,none⟩) (Kd.aT (p:=⟨j3,3,none⟩) (Kd.aD (ok':=fun q=>(fun q=>(w.heap.size≤q∧some q≠(.slice jo jg.length jp:Value).ownBlock∧q≠j4)∧some q≠(.slice j9 jn.length j7:Value).ownBlock) q∧q≠j3) jW.out (fun q hq=>by (simp only [hq,ne_eq,not_false_eq_true,and_self,true_and,and_true]))) (fun _ hk=>hk.2) (.int .i64 jG)) (fun _ hk=>hk.2) (.int .i64 jw)) (fun _ hk=>hk.2) (.slice jC jx.length jD)) (fun q hq=>by (have hq':=hq.1;simp only [hq',ne_eq,not_false_eq_true,and_self,true_and,and_true])))
    have y_HO936:=am (Kd.aD (ok':=fun q=>(w.heap.size≤q∧some q≠(.slice jo jg.length jp:Value).ownBlock∧q≠j4)∧some q≠(.slice j9 jn.length j7:Value).ownBlock) (Kd.aT (p:=⟨j3,5,none⟩) (Kd.aT (p:=⟨j3,4,none⟩) (Kd.aT (p:=⟨j3,3,none⟩) (Kd.aD (ok':=fun q=>(fun q=>(w.heap.size≤q∧some q≠(.slice jo jg.length jp:Value).ownBlock∧q≠j4)∧some q≠(.slice j9 jn.length j7:Value).ownBlock) q∧q≠j3) jh.out (fun q hq=>by (simp only [hq,ne_eq,not_false_eq_true,and_self,true_and,and_true]))) (fun _ hk=>hk.2) (.int .i64 jG)) (fun _ hk=>hk.2) (.int .i64 jw)) (fun _ hk=>hk.2) (.slice jC jx.length jD)) (fun q hq=>by (have hq':=hq.1;simp only [hq',ne_eq,not_false_eq_true,and_self,true_and,and_true])))
    have y_HO939:=am (Kd.aD (ok':=fun q=>(w.heap.size≤q∧some q≠(.slice jo jg.length jp:Value).ownBlock∧q≠j4)∧some q≠(.slice j9 jn.length j7:Value).ownBlock) (Kd.aT (p:=⟨j3,5,none⟩) (Kd.aT (p:=⟨j3,4,none⟩) (Kd.aT (p:=⟨j3,3,none⟩) (Kd.aD (ok':=fun q=>(fun q=>(w.heap.size≤q∧some q≠(.slice jo jg.length jp:Value).ownBlock∧q≠j4)∧some q≠(.slice j9 jn.length j7:Value).ownBlock) q∧q≠j3) ji.out (fun q hq=>by (simp only [hq,ne_eq,not_false_eq_true,and_self,true_and,and_true]))) (fun _ hk=>hk.2) (.int .i64 jG)) (fun _ hk=>hk.2) (.int .i64 jw)) (fun _ hk=>hk.2) (.slice jC jx.length jD)) (fun q hq=>by (have hq':=hq.1;simp only [hq',ne_eq,not_false_eq_true,and_self,true_and,and_true])))
    obtain ⟨y6,ey⟩:∃ y6,y6=(((Jx.setCell ⟨j3,3,none⟩ (.int .i64 jG)).setCell ⟨j3,4,none⟩ (.int .i64 jw)).setCell ⟨j3,5,none⟩ (.slice jC jx.length jD)):=⟨_,rfl⟩
    rw [← ey] at yX yB yP yR yHR y_HO_924001 y_HO962 y_HO936 y_HO939 ⊢
    clear ey
    obtain ⟨go_,eA⟩:∃ go_,j9=some ⟨go_,0,none⟩:=by
     obtain ⟨g_,cap_,e_,_⟩:=Kd.IZ y_HO_924001.out LENN.out
     injection e_ with e_
     exact ⟨g_,e_⟩
    subst eA
    clear jf j8 j6 HB ja jb jW jh ji HI67
    obtain ⟨cgo,hgo⟩:=Kd.vB y_HO_924001.out go_ (by simp [Value.ownBlock])
    have yG:=am hgo
    clear hgo
    have z0:y6.cell? ⟨j3,0,none⟩=some (.int .i64 jK):=aA yX.out 0
    have z1:y6.cell? ⟨j3,1,none⟩=some (.int .i64 jL):=aA yX.out 1
    have z2:y6.cell? ⟨j3,2,none⟩=some (.int .i64 jM):=aA yX.out 2
    have z3:y6.cell? ⟨j3,3,none⟩=some (.int .i64 jG):=aA yX.out 3
    have z4:y6.cell? ⟨j3,4,none⟩=some (.int .i64 jw):=aA yX.out 4
    have z5:y6.cell? ⟨j3,5,none⟩=some (.slice jC jx.length jD):=aA yX.out 5
    have z6:y6.cell? ⟨j3,6,none⟩=some (.slice jj jy.length jk):=aA yX.out 6
    have z7:y6.cell? ⟨j3,7,none⟩=some (.slice jl jz.length jm):=aA yX.out 7
    have p3_1:y6.cell? ⟨j5,1,none⟩=some (.slice (some ⟨go_,0,none⟩) jn.length j7):=aA yP.out 1
    have Jz:decide (0 < (jn.length:Int))=true:=decide_eq_true LEN.out
    have JA:decide (0 < jn.length)=true:=decide_eq_true LENN.out
    have JB:(0 < jn.length)=True:=eq_true LENN.out
    go_upto_region 7 with (first|((with_reducible refine bQ (N:=37) rfl ?_);refine Kd.oQ k35 y6.heap.size 35 rfl (N':=37) rfl (w0:=y6) (xs:=[(⟨jK,jL,jM,⟨jG,jw,jx⟩,jy,jz⟩:S35)]) (inner:=[(.int .i64 jK),(.int .i64 jL),(.int .i64 jM),(.int .i64 jG),(.int .i64 jw),(.slice jC jx.length jD),(.slice jj jy.length jk),(.slice jl jz.length jm)]) (ok:=fun q=>(w.heap.size≤q∧some q≠(.slice jo jg.length jp:Value).ownBlock∧q≠j4)∧some q≠(.slice (some ⟨go_,0,none⟩) jn.length j7:Value).ownBlock) (okp:=fun q=>(w.heap.size≤q∧some q≠(.slice jo jg.length jp:Value).ownBlock∧q≠j4)∧some q≠(.slice (some ⟨go_,0,none⟩) jn.length j7:Value).ownBlock) ?hr (eY.c8 (show Kd.FK k35 _ _ (⟨jK,jL,jM,⟨jG,jw,jx⟩,jy,jz⟩:S35) [(.int .i64 jK),(.int .i64 jL),(.int .i64 jM),(.int .i64 jG),(.int .i64 jw),(.slice jC jx.length jD),(.slice jj jy.length jk),(.slice jl jz.length jm)] from kY _ _ (⟨jK,jL,jM,⟨jG,jw,jx⟩,jy,jz⟩:S35) (Kd.bN y_HO962.out).2.1 (Kd.N_F y_HO962.out) (Kd.bN y_HO936.out).2.1 (Kd.N_F y_HO936.out) (Kd.bN y_HO939.out).2.1 (Kd.N_F y_HO939.out)) (eY.none _ _)) (fun _ hq=>hq) ?hf (Below.refl _ _) (Nat.le_refl _) (by simp) ?_;(case hr=>first|(go_simp;done)|(go_simp;rfl));(case hf=>exact ⟨⟨yB.out.size,fun e_=>Nat.lt_irrefl _ (Kd.iY yHR.out _ e_.symm),fun e_=>Nat.lt_irrefl _ (e_ ▸ gQ yR.out)⟩,fun e_=>Nat.lt_irrefl _ (Kd.iH y_HO_924001.out _ e_.symm)⟩);intro v9 y7 hn hb _ _;obtain ⟨B8,d8,rfl⟩:=Kd.dD hn;have N8:=am (Kd.dH hn yB.out.size);replace yX:=am (bY yX.out hb);replace yP:=am (bY yP.out hb);replace yR:=am (bY yR.out hb);replace yG:=am (bY yG.out hb);replace yHR:=am (Kd.dW yHR.out hb);replace y_HO_924001:=am (Kd.dG y_HO_924001.out hb);replace yB:=am (aG yB.out hb);clear hn hb z0 z1 z2 z3 z4 z5 z6 z7 p3_1 y_HO962 y_HO936 y_HO939;have fo_0:=aU yG.out 0)|((with_reducible refine EP (t:=23) (p:=38) (v:= .tmp 37) rfl ?_);refine aBz ?_)|fail)
    refine ⟨?_⟩
    obtain ⟨ce,hcl,zK,hcc,zL⟩:=Kd.EA y_HO_924001.out [] 0 (Int.le_refl 0) LEN.out
    have hcl1:ce.length=1:=hcl
    refine Kd.OX (Kd.slice 35 k35) (w0:=w) w.heap.size rfl rfl 23 (.tmp 38) (.tmp 37) rfl 23 0 0 jn [(⟨jK,jL,jM,⟨jG,jw,jx⟩,jy,jz⟩:S35)] (.slice B8 1 d8) [(.slice B8 1 d8)] ce (fun q=>w.heap.size≤q∧some q≠(.slice jo jg.length jp:Value).ownBlock∧q≠j4) (fun q=>(w.heap.size≤q∧some q≠(.slice jo jg.length jp:Value).ownBlock∧q≠j4)∧some q≠(.slice (some ⟨go_,0,none⟩) jn.length j7:Value).ownBlock) rfl ?hoff rfl rfl (by kernel_rfl) ?h1 y_HO_924001.out (Int.le_refl 0) LEN.out hcl hcc (Nat.le_refl _) ?hM ?hk yB.out ?_
    case hoff=>simp
    case h1=>simp [Value.oneCell']
    case hM=>
     have e_:ce.take 0 ++ ([(.slice B8 1 d8)]:List Value) ++ ce.drop (0 + ([(.slice B8 1 d8)]:List Value).length)=[(.slice B8 1 d8)]:=by simp [List.drop_eq_nil_of_le (show ce.length≤1 by omega)]
     rw [e_]
     exact Kd.lT (Kd.kW (Kd.bN N8.out).2.1 (Kd.N_F N8.out)) (fun _ hq=>hq)
    case hk=>exact fun q hq=>⟨hq.1,fun e_=>hq.2 (by rw [e_];simp [Value.ownBlock])⟩
    intro W5 hn hb hg
    have nR:j4≠go_:=TH yR.out yG.out (by decide)
    have nP:j5≠go_:=TH yP.out yG.out (by decide)
    have bR:=(hg.block _ (gQ yR.out) (by intro e_;injection e_ with e_;exact nR e_)).trans yR.out
    have bP:=(hg.block _ (gQ yP.out) (by intro e_;injection e_ with e_;exact nP e_)).trans yP.out
    have hR5:=Kd.cZ (Kd.aAd (Kd.eF yHR.out yG.out (by decide)) hg (fun q hq e_=>hq.2 (by injection e_))) (fun _ hq=>hq.1)
    have HN5:=am hn
    have JC:=am hb
    have JD:=am hR5
    have BR5:=am bR
    have BP5:=am bP
    clear hn hb hg hR5 bR bP hcc zK zL hcl hcl1 fo_0 Jz JA JB
    clear yX yP yR yG yHR yB y_HO_924001 N8 ce
    have q0:W5.cell? ⟨j5,0,none⟩=some (.slice jo jg.length jp):=aA BP5.out 0
    have q1:W5.cell? ⟨j5,1,none⟩=some (.slice (some ⟨go_,0,none⟩) jn.length j7):=aA BP5.out 1
    have r0:W5.cell? ⟨j4,0,none⟩=some (.slice none 0 0):=aA BR5.out 0
    have s0:=aU BR5.out 0
    have r1:W5.cell? ⟨j4,1,none⟩=some (.slice none 0 0):=aA BR5.out 1
    have s1:=aU BR5.out 1
    go_wp2
    refine bodyPost_ret (results_cell_row rfl _ _ j4 46 #[(.slice jo jg.length jp),(.slice (some ⟨go_,0,none⟩) jn.length j7)] (0,0) _ rfl (aM (cs:=#[(.slice jo jg.length jp), .slice none 0 0]) (aM (cs:=#[.slice none 0 0, .slice none 0 0]) BR5.out 0 _ rfl) 1 _ rfl) Try.underlying46 rfl (by kernel_rfl)) rfl ?_
    exact ⟨_,_,rfl,Kd.cZ (Kd.dM (p:=⟨j4,1,none⟩) (Kd.dM (p:=⟨j4,0,none⟩) (Kd.eF JD.out BR5.out (by decide)) (fun _ hk=>hk.2) (.slice jo jg.length jp)) (fun _ hk=>hk.2) (.slice (some ⟨go_,0,none⟩) jn.length j7)) (fun _ hk=>hk.1),Kd.aD (Kd.aT (p:=⟨j4,1,none⟩) (Kd.aT (p:=⟨j4,0,none⟩) HN5.out (fun _ hk=>hk.2.2) (.slice jo jg.length jp)) (fun _ hk=>hk.2.2) (.slice (some ⟨go_,0,none⟩) jn.length j7)) (fun _ hk=>⟨hk.1,hk.2.1⟩),below_set (j:=1) (v:=(.slice (some ⟨go_,0,none⟩) jn.length j7)) (below_set (j:=0) (v:=(.slice jo jg.length jp)) JC.out GE66.out) GE66.out⟩
   replace qv:=Bool.eq_false_iff.mpr qv
   subst qv
   rw [if_neg (show ¬ (false=true) by decide)] at H
   simp only [Option.some.injEq,Prod.mk.injEq] at H
   obtain ⟨rfl,rfl⟩:=H
   have Jd:=jF.out
   have Je:=jv.out
   have Jf:=jr.out
   have Jg:=NB67_72.out
   obtain ⟨zm,zn,zo,zp⟩:=fT j8.out
   have Jh:=ju.out
   have Ji:=NB67_66.out
   obtain ⟨zq,zr,zs,zt⟩:=fT j6.out
   go_wp2
   refine bodyPost_ret (results_cell_row rfl _ _ j4 46 #[.slice jo jg.length jp, .slice j9 jn.length j7] (0,0) _ rfl (aM (aM j6.out 0 _ rfl) 1 _ rfl) Try.underlying46 rfl (by kernel_rfl)) rfl ?_
   exact ⟨_,_,iM,iC (Kd.cZ (Kd.dM (p:=⟨j4,1,none⟩) (Kd.dM (p:=⟨j4,0,none⟩) (Kd.eF ja.out j6.out (by decide)) (fun _ hk=>hk.2) (.slice jo jg.length jp)) (fun _ hk=>hk.2) (.slice j9 jn.length j7)) (fun _ hk=>hk.1)),eO (Kd.aD (Kd.aT (p:=⟨j4,1,none⟩) (Kd.aT (p:=⟨j4,0,none⟩) (Kd.aD jb.out (fun k_ hk=>(⟨hk,hk.2.2.1⟩:_∧k_≠j4))) (fun _ hk=>hk.2) (.slice jo jg.length jp)) (fun _ hk=>hk.2) (.slice j9 jn.length j7)) (fun _ hk=>⟨hk.1.1,hk.1.2.1⟩)),tH⟩
theorem mG.calls (a0:Bool) (r:Int) (w:World) (h:mG.f a0=some r):
  Calls Try.prog 106 #[.bool a0] w fun e w'=>e= .returned (.int .i64 r)∧iX w w':=by
 have H:(if a0=true then (some 1) else (some 0))=some r:=h
 clear h
 by_cases c2:a0=true
 ·subst c2
  rw [if_pos rfl] at H
  obtain rfl:=Option.some.inj H
  go_enter Try.func106,Try.ntmps106
  go_wp2
  go_ret
  exact ⟨sd_,gM⟩
 replace c2:=Bool.eq_false_iff.mpr c2
 subst c2
 rw [if_neg (show ¬ (false=true) by decide)] at H
 obtain rfl:=Option.some.inj H
 go_enter Try.func106,Try.ntmps106
 go_wp2
 go_ret
 exact ⟨sd_,gM⟩
theorem iK.calls (a0:Int) (r:Int) (w:World) (h:iK.f a0=some r):
  Calls Try.prog 107 #[.int .i64 a0] w fun e w'=>e= .returned (.int .i64 r)∧iX w w':=by
 have H:(some (wrap64 (wrap32 (a0))))=some r:=h
 clear h
 obtain rfl:=Option.some.inj H
 go_enter Try.func107,Try.ntmps107
 go_wp2
 go_ret
 exact ⟨sd_,gM⟩
end Go.Proofs.Ytodhbeeibagiaaa.PA

