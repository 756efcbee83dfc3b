/- Part 5. -/
import Derived.Test.YtjamfkpgmkhbnaaGreatDoorQFnSourceWords3
import Derived.Laws.BitsLemmas
set_option maxHeartbeats 8000000
set_option maxRecDepth 100000
namespace Go.Proofs.YtjamfkpgmkhbnaaGreatDoor.PA
open Go.RowKit Go.Proofs.YtjamfkpgmkhbnaaGreatDoorW.PrintWords Go.Proofs.YtjamfkpgmkhbnaaGreatDoorW.PrintLast Go.Proofs.YtjamfkpgmkhbnaaGreatDoorW.PrintMore
attribute [local go_sem] max2_int min2_int max_two min_two max_three min_three max_four min_four
set_option linter.unusedVariables false
set_option linter.unusedSimpArgs false
theorem aX.mono_l:∀ k,(∀ y0 y1 y2,LeO (aX.j0 k y0 y1 y2) (aX.j0 (k + 1) y0 y1 y2))∧(∀ y0 y1 y2,LeO (aX.l0 k y0 y1 y2) (aX.l0 (k + 1) y0 y1 y2))
 |0=>⟨fun _ _ _ r h=>by simp [aX.j0] at h,fun _ _ _ r h=>by simp [aX.l0] at h⟩
 |k + 1=>by
  obtain ⟨ih0,ih1⟩:=aX.mono_l k
  refine ⟨?_,?_⟩
  ·intro y0 y1 y2
   unfold aX.j0
   have m0:=@fZ.mono
   have m1:=@bO.mono
   have m2:=@dW.mono
   exact mo_
  ·intro y0 y1 y2
   unfold aX.l0
   have m0:=@fZ.mono
   have m1:=@bO.mono
   have m2:=@dW.mono
   exact mo_
theorem aX.mono:∀ a0 a1 k,LeO (aX.f k a0 a1) (aX.f (k + 1) a0 a1):=by
 intro a0 a1 k
 obtain ⟨ih0,ih1⟩:=aX.mono_l k
 unfold aX.f
 have m0:=@fZ.mono
 have m1:=@bO.mono
 have m2:=@dW.mono
 exact mo_
def aX.T6:Bool × List (List Nat × List Nat):=(true,[([],[]),([0],[0]),([],[]),([1,2],[1,2]),([3],[3]),([4],[4]),([5],[5]),([6,5],[6]),([7],[7]),([8,7],[7,8]),([7],[7]),([9,10,7],[7,9,10]),([11,7],[7,11]),([7],[7]),([13,7],[7,13]),([14,7],[7,14]),([12,15,7,7],[7,12,15]),([16,7],[7,16]),([7,17],[7,17])])
def aX.B6:List Nat:=[0,1,0,7,15,31,63,127,255,511,255,2047,4095,255,8447,24831,65535,131071,262143]
theorem aX.PN:lV .any (opsOf Tryz.f23 6)=aX.T6:=by kernel_rfl
theorem aX.CQ:iP aX.T6.2 aX.B6=true:=by kernel_rfl
theorem aX.calls (k:Nat) (je:Option Addr) (jf:Nat) (j8:List Int) (jl:Option Addr) (jh:Nat) (j5:List (List (S58))) (r:Bool) (w:World) (hr0_0:Kd.C (Kd.int .i64) w je j8.length j8) (hc0_0:j8.length≤jf) (hr0_1:Kd.C (Kd.slice 58 k58) w jl j5.length j5) (hc0_1:j5.length≤jh) (h:aX.f k j8 j5=some r):
  Calls Tryz.prog 23 #[.agg #[.slice je j8.length jf, .slice jl j5.length jh]] w fun e w'=>e= .returned (.bool r)∧Below w.heap.size w w':=by
 have hu26:=Tryz.underlying26
 have jq:=am hr0_0
 have jr:=am hc0_0
 clear hr0_0 hc0_0
 have ji:=am hr0_1
 have q2:=am hc0_1
 clear hr0_1 hc0_1
 have HB:=am (Below.refl w.heap.size w)
 unfold aX.f at h
 have H:=h
 clear h
 have jR:=am H
 clear H
 go_enter Tryz.func23,Tryz.ntmps23
 go_upto_region 1 with (first|((with_reducible refine cK (N:=1) rfl ?_);(try (refine pO (by rfl) ?_;dsimp only));refine eO rfl (N:=1) rfl (cs:=#[.slice je j8.length jf, .slice jl j5.length jh]) (t:=26) rn_ ?_;intro jg hg w3 hbox hb;have j3:=am (hbox);have GW43:=am ((by rw [hg];exact (aJ dU):w.heap.size≤jg));have GE43:=am ((by rw [hg];exact (aJ dU):w.heap.size≤jg));replace HB:=am (aA dU hb);clear hb hbox hg))
 (try simp only [Act.put,List.setIfInBounds_toArray,List.set_cons_zero,List.set_cons_succ])
 go_cut [14] (fun qa wc=>∃ (kq:Nat) (jk:Bool),qa= .bool jk∧Aside0 (aX.j0 kq jk j8 j5=some r)∧Aside0 (kq≤k)∧Aside0 (wc.heap[jg]?=some (.cells #[(.slice je j8.length jf),(.slice jl j5.length jh)] 26 (0,0)))∧Aside0 (Below w.heap.size w wc))
 case first=>
  have H:=jR.out
  clear jR
  obtain ⟨qb,A4,H⟩:=bsa H
  (try dsimp only at H)
  by_cases c5:qb=true
  ·subst c5
   rw [if_pos rfl] at H
   obtain ⟨q3,A6,H⟩:=bsa H
   (try dsimp only at H)
   have H':=am H
   clear H
   obtain ⟨jS,jT,jU,jV⟩:=iV j3.out
   go_wp2_with (first|((with_reducible refine aD (f:=45) rfl ?_);refine gl_ 6 Tryz.func45 #[.slice je j8.length jf] ?_;(with_reducible refine (dW.calls k _ _ j8 true _ (aC_ (Kd.aT jq.out HB.out)) jr.out A4.out).mono ?_);rintro e w' ⟨rfl,⟨nd,rfl⟩⟩;refine ⟨_,rfl,?_⟩)|(go_at_call 46;(with_reducible refine (gZ.calls (j5.length:Int) 1 3 q3 _ A6.out).mono ?_);rintro e w' ⟨rfl,⟨nd,rfl⟩⟩))
   go_meet
   case rel=>exact ⟨_,(!q3),sd_,H',⟨by first|omega|exact Nat.le_refl _⟩,⟨by (with_reducible repeat (first|refine dQ ?_ _|refine dA ?_|refine dP ?_ _));exact j3.out⟩,⟨kF⟩⟩
  replace c5:=Bool.eq_false_iff.mpr c5
  subst c5
  rw [if_neg (show ¬ (false=true) by decide)] at H
  have H':=am H
  clear H
  obtain ⟨jW,jX,jY,jZ⟩:=iV j3.out
  go_wp2_with (first|((with_reducible refine aD (f:=45) rfl ?_);refine gl_ 6 Tryz.func45 #[.slice je j8.length jf] ?_;(with_reducible refine (dW.calls k _ _ j8 false _ (aC_ (Kd.aT jq.out HB.out)) jr.out A4.out).mono ?_);rintro e w' ⟨rfl,⟨nd,rfl⟩⟩;refine ⟨_,rfl,?_⟩))
  go_meet
  case rel=>exact ⟨_,(true),sd_,H',⟨by first|omega|exact Nat.le_refl _⟩,⟨by (with_reducible repeat (first|refine dQ ?_ _|refine dA ?_|refine dP ?_ _));exact j3.out⟩,⟨kF⟩⟩
 case rest=>
  clear jR
  obtain ⟨kq,jk,rfl,HA,HJ1,j3,HB⟩:=hcut
  cases kq with
  |zero=>exact absurd HA.out (by simp [aX.j0])
  |succ q4=>
   have H:=HA.out
   clear HA
   simp only [aX.j0] at H
   by_cases c9:jk=true
   ·subst c9
    rw [if_pos rfl] at H
    obtain rfl:=Option.some.inj H
    go_wp2
    go_ret
    exact ⟨rr_,kF⟩
   replace c9:=Bool.eq_false_iff.mpr c9
   subst c9
   rw [if_neg (show ¬ (false=true) by decide)] at H
   have H':=am H
   clear H
   go_wp2
   go_loopg [3] q4 (fun kq v3 w'=>∃ (j4:Int),v3= .int .i64 j4∧Aside0 (aX.l0 kq j4 j8 j5=some r)∧Aside0 (kq≤q4)∧Aside0 (w'.heap[jg]?=some (.cells #[(.slice je j8.length jf),(.slice jl j5.length jh)] 26 (0,0)))∧Aside0 (Below w.heap.size w w'))
   case atStart=>exact ⟨(0),sd_,H',⟨Nat.le_refl _⟩,⟨by (with_reducible repeat (first|refine dQ ?_ _|refine dA ?_|refine dP ?_ _));exact j3.out⟩,⟨kF⟩⟩
   case round=>
    clear H'
    try clear c9
    obtain ⟨j4,rfl,HA,q5,j3,HB⟩:=hrel
    cases gk with
    |zero=>exact absurd HA.out (by simp [aX.l0])
    |succ k2=>
     have H:=HA.out
     clear HA
     simp only [aX.l0] at H
     by_cases c10:j4 < (j5.length:Int)
     ·rw [if_pos c10] at H
      have jw:decide (j4 < (j5.length:Int))=true:=decide_eq_true c10
      clear c10
      by_cases jy:0≤j4
      ·rw [if_pos jy] at H
       have q6:decide (0≤j4)=true:=decide_eq_true jy
       clear jy
       obtain ⟨qc,q7,H⟩:=bsm H
       (try dsimp only at H)
       have q0:=am q7
       clear q7
       by_cases jz:qc=true
       ·subst jz
        rw [if_pos rfl] at H
        obtain ⟨qd,q8,H⟩:=bsm H
        (try dsimp only at H)
        have q9:=am q8
        clear q8
        by_cases jA:qd=true
        ·subst jA
         rw [if_pos rfl] at H
         have H':=am H
         clear H
         obtain ⟨jB,jC,jD,jE⟩:=iV j3.out
         try go_wp2
         replace j3:=am (dA j3.out)
         replace HB:=am (bJ HB.out)
         have jm:0≤(j4:Int):=of_decide_eq_true eB
         have jn:j4 < (j5.length:Int):=of_decide_eq_true eB
         obtain ⟨jd,ja,jb,jx,j6,hl52_0,hi52_0⟩:=uL ji.out j4 jm jn
         have hw52_0:=j6
         cases jx
         replace j6:=(HB.out.cell (World.block_lt_of_cell? w _ j6)).trans j6
         have j9:=am hi52_0
         have jc:=am hl52_0
         clear hi52_0 hl52_0
         replace jm:=eq_true jm
         replace jn:=eq_true jn
         have js:0≤(j4:Int):=of_decide_eq_true eB
         have jt:j4 < (j5.length:Int):=of_decide_eq_true eB
         obtain ⟨ju,jo,jp,q1,j7,hl53_0,hi53_0⟩:=uL ji.out j4 js jt
         have hw53_0:=j7
         obtain rfl:jd=ju:=(by injection q1)
         replace j7:=(HB.out.cell (World.block_lt_of_cell? w _ j7)).trans j7
         have jj:=am hi53_0
         have jv:=am hl53_0
         clear hi53_0 hl53_0
         replace js:=eq_true js
         replace jt:=eq_true jt
         refine kZ (n:=19) (S:=fun w'=>w'.cell? ⟨jg,0,none⟩=some (.slice je j8.length jf)∧w'.cell? ⟨jg,1,none⟩=some (.slice (some jd) j5.length jh)∧w'.cell? (jd.add (j4).toNat)=some (.slice ja (fJ j5 j4).length jb)∧w'.cell? (jd.add (j4).toNat)=some (.slice jo (fJ j5 j4).length jp)) (ds:=[]) (bz 19 0) (by kernel_rfl) rfl rfl ⟨(aN j3.out 0).trans rfl,(aN j3.out 1).trans rfl,((HB.out.cell (World.block_lt_of_cell? w _ hw52_0)).trans hw52_0),((HB.out.cell (World.block_lt_of_cell? w _ hw53_0)).trans hw53_0)⟩ (fun hHeld=>?_);refine iA aX.PN aX.CQ (fun HT_ HW_=>?_)
         generalize wr.drew=qe at j3 HB j9 jj j6 j7 hHeld ⊢
         refine pr_ 0 22 (bz 19 1) HT_ ?_
         refine pr_ 2 24 (bz 19 5) HT_ ?_
         refine MR 1 23 (bz 19 7) HT_ HW_ hHeld ?_
         refine pr_ 3 25 (bz 19 15) HT_ ?_
         refine MR 4 26 (bz 19 31) HT_ HW_ hHeld ?_
         refine gY (i:=5) (N:=some 27) (bz 19 63) rfl rfl (eG HT_.out (by kernel_rfl)) (by decide) (fun K hK=>?_)
         refine iF Tryz.func47 (by kernel_rfl) rfl #[.slice ja (fJ j5 j4).length jb] (by rfl) rfl rfl mD ?_
         with_reducible refine (fZ.calls k2 _ _ (fJ j5 j4) true _ (aC_ (Kd.aT j9.out HB.out)) jc.out q0.out).mono ?_
         rintro e qf ⟨rfl,hb⟩
         refine ⟨_,rfl,?_⟩
         replace j3:=bbP j3 hb
         replace HB:=am (aA kF hb)
         (try clear hb)
         (try clear hb2)
         (try clear hk)
         (try clear hi)
         refine hK.out _ _ ⟨(aN j3.out 0).trans rfl,(aN j3.out 1).trans rfl,((HB.out.cell (World.block_lt_of_cell? w _ hw52_0)).trans hw52_0),((HB.out.cell (World.block_lt_of_cell? w _ hw53_0)).trans hw53_0)⟩ (fun hHeld=>?_)
         clear hK K
         refine eZ (a':=?_) ?_ ?_
         rotate_left
         ·exact ap_ (N:=27)
         refine pr_ 6 28 (bz 19 127) HT_ ?_
         refine pr_ 7 29 (bz 19 255) HT_ ?_
         refine pr_ 8 30 (bz 19 511) HT_ ?_
         refine pr_ 10 32 (bz 19 1535) HT_ ?_
         refine pr_ 13 35 (bz 19 9727) HT_ ?_
         refine MR 9 31 (bz 19 10239) HT_ HW_ hHeld ?_
         refine pr_ 11 33 (bz 19 12287) HT_ ?_
         refine MR 12 34 (bz 19 16383) HT_ HW_ hHeld ?_
         refine MR 14 36 (bz 19 32767) HT_ HW_ hHeld ?_
         refine pr_ 15 37 (bz 19 65535) HT_ ?_
         refine gY (i:=16) (N:=some 38) (bz 19 131071) rfl rfl (eG HT_.out (by kernel_rfl)) (by decide) (fun K hK=>?_)
         refine iF Tryz.func48 (by kernel_rfl) rfl #[.slice ja (fJ j5 j4).length jb, .int .i64 (j8.length:Int)] (by rfl) rfl rfl mD ?_
         with_reducible refine (bO.calls k2 _ _ (fJ j5 j4) (j8.length:Int) true _ (aC_ (Kd.aT j9.out HB.out)) jc.out q9.out).mono ?_
         rintro e qg ⟨rfl,hb⟩
         refine ⟨_,rfl,?_⟩
         replace j3:=bbP j3 hb
         replace HB:=am (aA kF hb)
         (try clear hb)
         (try clear hb2)
         (try clear hk)
         (try clear hi)
         refine hK.out _ _ ⟨(aN j3.out 0).trans rfl,(aN j3.out 1).trans rfl,((HB.out.cell (World.block_lt_of_cell? w _ hw52_0)).trans hw52_0),((HB.out.cell (World.block_lt_of_cell? w _ hw53_0)).trans hw53_0)⟩ (fun hHeld=>?_)
         clear hK K
         refine eZ (a':=?_) ?_ ?_
         rotate_left
         ·exact ap_ (N:=38)
         refine pr_ 17 39 (bz 19 262143) HT_ ?_
         refine pr_ 18 40 (bz 19 524287) HT_ ?_
         refine nA (kS HT_.out (by kernel_rfl)) ?_
         try go_wp2
         go_roundg k2
         case measure=>have:=HJ1.out;have:=q5.out;omega
         case rel=>exact ⟨(wrap64 (j4 + 1)),sd_,H',⟨by have:=HJ1.out;have:=q5.out;omega⟩,⟨by (with_reducible repeat (first|refine dQ ?_ _|refine dA ?_|refine dP ?_ _));exact j3.out⟩,⟨kF⟩⟩
        replace jA:=Bool.eq_false_iff.mpr jA
        subst jA
        rw [if_neg (show ¬ (false=true) by decide)] at H
        obtain rfl:=Option.some.inj H
        obtain ⟨jF,jG,jH,jI⟩:=iV j3.out
        try go_wp2
        replace j3:=am (dA j3.out)
        replace HB:=am (bJ HB.out)
        have jm:0≤(j4:Int):=of_decide_eq_true eB
        have jn:j4 < (j5.length:Int):=of_decide_eq_true eB
        obtain ⟨jd,ja,jb,jx,j6,hl52_0,hi52_0⟩:=uL ji.out j4 jm jn
        have hw52_0:=j6
        cases jx
        replace j6:=(HB.out.cell (World.block_lt_of_cell? w _ j6)).trans j6
        have j9:=am hi52_0
        have jc:=am hl52_0
        clear hi52_0 hl52_0
        replace jm:=eq_true jm
        replace jn:=eq_true jn
        have js:0≤(j4:Int):=of_decide_eq_true eB
        have jt:j4 < (j5.length:Int):=of_decide_eq_true eB
        obtain ⟨ju,jo,jp,q1,j7,hl53_0,hi53_0⟩:=uL ji.out j4 js jt
        have hw53_0:=j7
        obtain rfl:jd=ju:=(by injection q1)
        replace j7:=(HB.out.cell (World.block_lt_of_cell? w _ j7)).trans j7
        have jj:=am hi53_0
        have jv:=am hl53_0
        clear hi53_0 hl53_0
        replace js:=eq_true js
        replace jt:=eq_true jt
        refine kZ (n:=19) (S:=fun w'=>w'.cell? ⟨jg,0,none⟩=some (.slice je j8.length jf)∧w'.cell? ⟨jg,1,none⟩=some (.slice (some jd) j5.length jh)∧w'.cell? (jd.add (j4).toNat)=some (.slice ja (fJ j5 j4).length jb)∧w'.cell? (jd.add (j4).toNat)=some (.slice jo (fJ j5 j4).length jp)) (ds:=[]) (bz 19 0) (by kernel_rfl) rfl rfl ⟨(aN j3.out 0).trans rfl,(aN j3.out 1).trans rfl,((HB.out.cell (World.block_lt_of_cell? w _ hw52_0)).trans hw52_0),((HB.out.cell (World.block_lt_of_cell? w _ hw53_0)).trans hw53_0)⟩ (fun hHeld=>?_);refine iA aX.PN aX.CQ (fun HT_ HW_=>?_)
        generalize wr.drew=qh at j3 HB j9 jj j6 j7 hHeld ⊢
        refine pr_ 0 22 (bz 19 1) HT_ ?_
        refine pr_ 2 24 (bz 19 5) HT_ ?_
        refine MR 1 23 (bz 19 7) HT_ HW_ hHeld ?_
        refine pr_ 3 25 (bz 19 15) HT_ ?_
        refine MR 4 26 (bz 19 31) HT_ HW_ hHeld ?_
        refine gY (i:=5) (N:=some 27) (bz 19 63) rfl rfl (eG HT_.out (by kernel_rfl)) (by decide) (fun K hK=>?_)
        refine iF Tryz.func47 (by kernel_rfl) rfl #[.slice ja (fJ j5 j4).length jb] (by rfl) rfl rfl mD ?_
        with_reducible refine (fZ.calls k2 _ _ (fJ j5 j4) true _ (aC_ (Kd.aT j9.out HB.out)) jc.out q0.out).mono ?_
        rintro e qi ⟨rfl,hb⟩
        refine ⟨_,rfl,?_⟩
        replace j3:=bbP j3 hb
        replace HB:=am (aA kF hb)
        (try clear hb)
        (try clear hb2)
        (try clear hk)
        (try clear hi)
        refine hK.out _ _ ⟨(aN j3.out 0).trans rfl,(aN j3.out 1).trans rfl,((HB.out.cell (World.block_lt_of_cell? w _ hw52_0)).trans hw52_0),((HB.out.cell (World.block_lt_of_cell? w _ hw53_0)).trans hw53_0)⟩ (fun hHeld=>?_)
        clear hK K
        refine eZ (a':=?_) ?_ ?_
        rotate_left
        ·exact ap_ (N:=27)
        refine pr_ 6 28 (bz 19 127) HT_ ?_
        refine pr_ 7 29 (bz 19 255) HT_ ?_
        refine pr_ 8 30 (bz 19 511) HT_ ?_
        refine pr_ 10 32 (bz 19 1535) HT_ ?_
        refine pr_ 13 35 (bz 19 9727) HT_ ?_
        refine MR 9 31 (bz 19 10239) HT_ HW_ hHeld ?_
        refine pr_ 11 33 (bz 19 12287) HT_ ?_
        refine MR 12 34 (bz 19 16383) HT_ HW_ hHeld ?_
        refine MR 14 36 (bz 19 32767) HT_ HW_ hHeld ?_
        refine pr_ 15 37 (bz 19 65535) HT_ ?_
        refine gY (i:=16) (N:=some 38) (bz 19 131071) rfl rfl (eG HT_.out (by kernel_rfl)) (by decide) (fun K hK=>?_)
        refine iF Tryz.func48 (by kernel_rfl) rfl #[.slice ja (fJ j5 j4).length jb, .int .i64 (j8.length:Int)] (by rfl) rfl rfl mD ?_
        with_reducible refine (bO.calls k2 _ _ (fJ j5 j4) (j8.length:Int) false _ (aC_ (Kd.aT j9.out HB.out)) jc.out q9.out).mono ?_
        rintro e qj ⟨rfl,hb⟩
        refine ⟨_,rfl,?_⟩
        replace j3:=bbP j3 hb
        replace HB:=am (aA kF hb)
        (try clear hb)
        (try clear hb2)
        (try clear hk)
        (try clear hi)
        refine hK.out _ _ ⟨(aN j3.out 0).trans rfl,(aN j3.out 1).trans rfl,((HB.out.cell (World.block_lt_of_cell? w _ hw52_0)).trans hw52_0),((HB.out.cell (World.block_lt_of_cell? w _ hw53_0)).trans hw53_0)⟩ (fun hHeld=>?_)
        clear hK K
        refine eZ (a':=?_) ?_ ?_
        rotate_left
        ·exact ap_ (N:=38)
        refine pr_ 17 39 (bz 19 262143) HT_ ?_
        refine pr_ 18 40 (bz 19 524287) HT_ ?_
        refine nA (kS HT_.out (by kernel_rfl)) ?_
        try go_wp2
        go_ret
        exact ⟨rr_,kF⟩
       replace jz:=Bool.eq_false_iff.mpr jz
       subst jz
       rw [if_neg (show ¬ (false=true) by decide)] at H
       obtain rfl:=Option.some.inj H
       obtain ⟨jJ,jK,jL,jM⟩:=iV j3.out
       try go_wp2
       replace j3:=am (dA j3.out)
       replace HB:=am (bJ HB.out)
       have jm:0≤(j4:Int):=of_decide_eq_true eB
       have jn:j4 < (j5.length:Int):=of_decide_eq_true eB
       obtain ⟨jd,ja,jb,jx,j6,hl52_0,hi52_0⟩:=uL ji.out j4 jm jn
       have hw52_0:=j6
       cases jx
       replace j6:=(HB.out.cell (World.block_lt_of_cell? w _ j6)).trans j6
       have j9:=am hi52_0
       have jc:=am hl52_0
       clear hi52_0 hl52_0
       replace jm:=eq_true jm
       replace jn:=eq_true jn
       refine kZ (n:=19) (S:=fun w'=>w'.cell? ⟨jg,0,none⟩=some (.slice je j8.length jf)∧w'.cell? ⟨jg,1,none⟩=some (.slice (some jd) j5.length jh)∧w'.cell? (jd.add (j4).toNat)=some (.slice ja (fJ j5 j4).length jb)) (ds:=[]) (bz 19 0) (by kernel_rfl) rfl rfl ⟨(aN j3.out 0).trans rfl,(aN j3.out 1).trans rfl,((HB.out.cell (World.block_lt_of_cell? w _ hw52_0)).trans hw52_0)⟩ (fun hHeld=>?_);refine iA aX.PN aX.CQ (fun HT_ HW_=>?_)
       generalize wr.drew=qk at j3 HB j9 j6 hHeld ⊢
       refine pr_ 0 22 (bz 19 1) HT_ ?_
       refine pr_ 2 24 (bz 19 5) HT_ ?_
       refine aFw 1 23 (bz 19 7) HT_ HW_ hHeld ?_
       refine pr_ 3 25 (bz 19 15) HT_ ?_
       refine aFw 4 26 (bz 19 31) HT_ HW_ hHeld ?_
       refine gY (i:=5) (N:=some 27) (bz 19 63) rfl rfl (eG HT_.out (by kernel_rfl)) (by decide) (fun K hK=>?_)
       refine iF Tryz.func47 (by kernel_rfl) rfl #[.slice ja (fJ j5 j4).length jb] (by rfl) rfl rfl mD ?_
       with_reducible refine (fZ.calls k2 _ _ (fJ j5 j4) false _ (aC_ (Kd.aT j9.out HB.out)) jc.out q0.out).mono ?_
       rintro e ql ⟨rfl,hb⟩
       refine ⟨_,rfl,?_⟩
       replace j3:=bbP j3 hb
       replace HB:=am (aA kF hb)
       (try clear hb)
       (try clear hb2)
       (try clear hk)
       (try clear hi)
       refine hK.out _ _ ⟨(aN j3.out 0).trans rfl,(aN j3.out 1).trans rfl,((HB.out.cell (World.block_lt_of_cell? w _ hw52_0)).trans hw52_0)⟩ (fun hHeld=>?_)
       clear hK K
       refine eZ (a':=?_) ?_ ?_
       rotate_left
       ·exact ap_ (N:=27)
       refine pr_ 6 28 (bz 19 127) HT_ ?_
       refine pr_ 7 29 (bz 19 255) HT_ ?_
       refine pu_ 8 30 (bz 19 511) HT_ ?_
       refine pu_ 9 31 (bz 19 1023) HT_ ?_
       refine pu_ 10 32 (bz 19 2047) HT_ ?_
       refine pu_ 11 33 (bz 19 4095) HT_ ?_
       refine pu_ 12 34 (bz 19 8191) HT_ ?_
       refine pu_ 13 35 (bz 19 16383) HT_ ?_
       refine pu_ 14 36 (bz 19 32767) HT_ ?_
       refine pu_ 15 37 (bz 19 65535) HT_ ?_
       refine pu_ 16 38 (bz 19 131071) HT_ ?_
       refine pu_ 17 39 (bz 19 262143) HT_ ?_
       refine pr_ 18 40 (bz 19 524287) HT_ ?_
       refine nA (kS HT_.out (by kernel_rfl)) ?_
       try go_wp2
       go_ret
       exact ⟨rr_,kF⟩
      rw [if_neg jy] at H
      exact absurd H (by simp)
     rw [if_neg c10] at H
     have jw:decide (j4 < (j5.length:Int))=false:=decide_eq_false c10
     clear c10
     obtain rfl:=Option.some.inj H
     obtain ⟨jN,jO,jP,jQ⟩:=iV j3.out
     go_wp2
     go_ret
     exact ⟨rr_,kF⟩
theorem dX.mono_l:∀ k,(∀ y0,LeO (dX.f k y0) (dX.f (k + 1) y0))
 |0=>fun _ r h=>by simp [dX.f] at h
 |k + 1=>by
  have ih0:=dX.mono_l k
  ·intro y0
   unfold dX.f
   exact mo_
theorem dX.mono:∀ a0 k,LeO (dX.f k a0) (dX.f (k + 1) a0):=by
 intro a0 k
 have ih0:=dX.mono_l k
 exact ih0 a0
def dX.T7:Bool × List (List Nat × List Nat):=(true,[([],[]),([0],[0]),([1],[1]),([],[]),([3],[3]),([4],[4]),([5],[5]),([6],[6]),([7],[7]),([2,8],[2,8]),([9,2,0,1,2,3,4,5,6,7,8,9],[9])])
def dX.B7:List Nat:=[0,1,3,0,8,24,56,120,248,511,1023]
theorem dX.aFu:lV .any (opsOf Tryz.f24 7)=dX.T7:=by kernel_rfl
theorem dX.aAw:iP dX.T7.2 dX.B7=true:=by kernel_rfl
theorem dX.calls (k:Nat):∀ (a0:Int) (r:ByteArray) (w:World) (h:dX.f k a0=some r),
  Calls Tryz.prog 24 #[.int .i64 a0] w fun e w'=>e= .returned (.string r)∧Below w.heap.size w w':=by
 induction k using Nat.strongRecOn with
 | _ k ih=>
 intro a0 r w h
 cases k with
 |zero=>exact absurd h (by simp [dX.f])
 |succ k=>
 simp only [dX.f] at h
 have HB:=am (Below.refl w.heap.size w)
 have H:=h
 clear h
 by_cases c2:a0 < (-9223372036854775807)
 ·rw [if_pos c2] at H
  have jb:decide (a0 < (-9223372036854775807))=true:=decide_eq_true c2
  clear c2
  obtain rfl:=Option.some.inj H
  go_enter Tryz.func24,Tryz.ntmps24
  go_wp2
  go_ret
  exact ⟨rr_,dU⟩
 rw [if_neg c2] at H
 have jb:decide (a0 < (-9223372036854775807))=false:=decide_eq_false c2
 clear c2
 by_cases c3:a0 < 0
 ·rw [if_pos c3] at H
  have jc:decide (a0 < 0)=true:=decide_eq_true c3
  clear c3
  obtain ⟨ja,A4,H⟩:=bsa H
  (try dsimp only at H)
  by_cases c5:1 + ja.size≤9223372036854775807
  ·rw [if_pos c5] at H
   have jl:=eq_true c5
   have jm:decide (1 + ja.size≤9223372036854775807)=true:=decide_eq_true c5
   try have jn:(9223372036854775807 < 1 + ja.size)=False:=eq_false (Nat.not_lt.2 c5)
   obtain rfl:=Option.some.inj H
   go_enter Tryz.func24,Tryz.ntmps24
   go_wp2_with (first|((with_reducible refine aD (f:=24) rfl ?_);refine gl_ 9 Tryz.func24 #[.int .i64 (wrap64 (-a0))] ?_;(with_reducible refine (ih k (by omega) (wrap64 (-a0)) ja _ A4.out).mono ?_);rintro e w6 ⟨rfl,hb⟩;refine ⟨_,rfl,?_⟩;replace HB:=am (aA dU hb);(try clear hb)))
   go_ret
   exact ⟨rr_,dU⟩
  rw [if_neg c5] at H
  exact absurd H (by simp)
 rw [if_neg c3] at H
 have jc:decide (a0 < 0)=false:=decide_eq_false c3
 clear c3
 by_cases c7:a0 < 10
 ·rw [if_pos c7] at H
  have jd:decide (a0 < 10)=true:=decide_eq_true c7
  clear c7
  obtain ⟨jo,hy_⟩:∃ y_:List Int,y_=(([(wrap64 (48 + a0)) % 256]:List Int)):=⟨_,rfl⟩
  replace H:(some (strOfNums jo))=some r:=rx_
  have j8:=am hy_
  clear hy_
  obtain rfl:=Option.some.inj H
  go_enter Tryz.func24,Tryz.ntmps24
  go_wp2_with (first|((with_reducible refine cK (N:=16) rfl ?_);refine Kd.oP (Kd.int .u8) _ 5 rfl (N:=16) rfl (xs:=([(wrap64 (48 + a0)) % 256]:List Int)) (inner:=[.int .u8 ((wrap64 (48 + a0)) % 256)]) (ok:=fun _=>True) (okp:=fun _=>True) rn_ ?hp (fun _ hk=>hk) trivial (Below.refl _ _) (Nat.le_refl _) (by simp) ?_;(case hp=>exact (dF.one (show Kd.M (Kd.int .u8) _ _ _ ((wrap64 (48 + a0)) % 256) [.int .u8 ((wrap64 (48 + a0)) % 256)] from rfl) (dF.none _ _)));intro jq w8 ho9 hb hg_ hnew_;clear hg_ hnew_;(first|rw [← j8.out] at ho9|(simp only [Int.reduceToNat] at ho9;rw [← j8.out] at ho9));have je:=am (Kd.fG ho9 (aJ dU));replace HB:=am (aA dU hb);clear hb ho9;have hcv10:=uP (P:=Tryz.prog) Tryz.underlying22 Tryz.underlying5 Tryz.underlying9 (Kd.xX je.out)))
  go_ret
  exact ⟨rr_,dU⟩
 rw [if_neg c7] at H
 have jd:decide (a0 < 10)=false:=decide_eq_false c7
 clear c7
 obtain ⟨j4,jg,H⟩:=bsm H
 (try dsimp only at H)
 have jf:=am jg
 clear jg
 obtain ⟨j6,hy_⟩:∃ y_:List Int,y_=(([(wrap64 (48 + (Int.tmod a0 10))) % 256]:List Int)):=⟨_,rfl⟩
 replace H:(if j4.size + (strOfNums j6).size≤9223372036854775807 then (some (j4 ++ (strOfNums j6))) else (none))=some r:=rx_
 have j5:=am hy_
 clear hy_
 by_cases j9:j4.size + (strOfNums j6).size≤9223372036854775807
 ·rw [if_pos j9] at H
  have jh:=eq_true j9
  have ji:decide (j4.size + (strOfNums j6).size≤9223372036854775807)=true:=decide_eq_true j9
  try have jj:(9223372036854775807 < j4.size + (strOfNums j6).size)=False:=eq_false (Nat.not_lt.2 j9)
  obtain rfl:=Option.some.inj H
  go_enter Tryz.func24,Tryz.ntmps24
  try go_wp2
  replace HB:=am (bJ HB.out)
  refine kZ (n:=11) (S:=fun w'=>True) (ds:=[]) (bz 11 0) (by kernel_rfl) rfl rfl trivial (fun hHeld=>?_);refine iA dX.aFu dX.aAw (fun HT_ HW_=>?_)
  generalize w.drew=jr at HB hHeld ⊢
  refine pr_ 0 18 (bz 11 1) HT_ ?_
  refine pr_ 1 19 (bz 11 3) HT_ ?_
  refine pr_ 3 21 (bz 11 11) HT_ ?_
  refine pr_ 4 22 (bz 11 27) HT_ ?_
  refine pr_ 5 23 (bz 11 59) HT_ ?_
  refine pr_ 6 24 (bz 11 123) HT_ ?_
  refine aFy (σ:=Value) 2 (bz 11 511) (fun s_=>[(20, .string j4),(25,s_),(26, .string (strOfNums j6))]) (fun s_ w'=>(Kd.R (Kd.int .u8) 5 w' w.heap.size (fun _=>True) s_ j6)∧(Below w.heap.size w w')) ?_ ?_
  rotate_left
  ·intro hCont
   refine aHf (i:=2) (j:=7) (Ni:=some 20) (Nj:=some 25) (bz 11 127) (bz 11 251) rfl rfl rfl rfl (FB HT_.out (by kernel_rfl)) (by decide) (by decide) (fun K hK=>?_) (fun K hK=>?_)
   ·skip
    refine iF Tryz.func24 (by kernel_rfl) rfl #[.int .i64 (wrap64 (Int.tdiv a0 10))] (by rfl) rfl rfl mD ?_
    with_reducible refine (ih k (by omega) (wrap64 (Int.tdiv a0 10)) j4 _ jf.out).mono ?_
    rintro e jp ⟨rfl,hb⟩
    refine ⟨_,rfl,?_⟩
    replace HB:=am (aA dU hb)
    (try clear hb)
    (try clear hb2)
    (try clear hk)
    (try clear hi)
    refine hK.out _ _ trivial (fun hHeld=>?_)
    clear hK K
    refine eZ (a':=?_) ?_ ?_
    rotate_left
    ·exact ap_ (N:=20)
    refine gY (i:=7) (N:=some 25) (bz 11 255) rfl rfl (eG HT_.out (by kernel_rfl)) (by decide) (fun K hK=>?_)
    refine Kd.mR (Kd.int .u8) _ 5 rfl (N:=25) rfl (xs:=([(wrap64 (48 + (Int.tmod a0 10))) % 256]:List Int)) (inner:=[.int .u8 ((wrap64 (48 + (Int.tmod a0 10))) % 256)]) (ok:=fun _=>True) (okp:=fun _=>True) rn_ ?hp (fun _ hk=>hk) trivial (Below.refl _ _) (Nat.le_refl _) (by simp) ?_;(case hp=>exact (dF.one (show Kd.M (Kd.int .u8) _ _ _ ((wrap64 (48 + (Int.tmod a0 10))) % 256) [.int .u8 ((wrap64 (48 + (Int.tmod a0 10))) % 256)] from rfl) (dF.none _ _)))
    intro j7 js ho16 hb hg_ hnew_
    clear hg_ hnew_
    (first|rw [← j5.out] at ho16|(simp only [Int.reduceToNat] at ho16;rw [← j5.out] at ho16))
    have j3:=am (Kd.fG ho16 (aJ dU))
    replace HB:=am (aA dU hb)
    clear hb ho16
    refine hK.out _ _ trivial (fun hHeld=>?_)
    clear hK K
    refine eZ (a':=?_) ?_ ?_
    rotate_left
    ·exact ap_ (N:=25)
    refine gY (i:=8) (N:=some 26) (bz 11 511) rfl rfl (eG HT_.out (by kernel_rfl)) (by decide) (fun K hK=>?_)
    have hcv17:=uP (P:=Tryz.prog) Tryz.underlying22 Tryz.underlying5 Tryz.underlying9 (Kd.xX j3.out)
    refine sK (w1:=?_) (v:=?_) (by rfl) rfl ?_ ?_
    rotate_left 2
    ·go_simp
     constructor
     ·rfl
     ·rfl
    clear hcv17
    refine hK.out _ _ trivial (fun hHeld=>?_)
    clear hK K
    refine eZ (a':=?_) ?_ ?_
    rotate_left
    ·exact ap_ (N:=26)
    exact eZ (by simp only [vR,Act.put,List.setIfInBounds_toArray,List.set_cons_zero,List.set_cons_succ]) (hCont (j7) _ ⟨(aR_ j3.out),dU⟩)
   ·skip
    refine Kd.mR (Kd.int .u8) _ 5 rfl (N:=25) rfl (xs:=([(wrap64 (48 + (Int.tmod a0 10))) % 256]:List Int)) (inner:=[.int .u8 ((wrap64 (48 + (Int.tmod a0 10))) % 256)]) (ok:=fun _=>True) (okp:=fun _=>True) rn_ ?hp (fun _ hk=>hk) trivial (Below.refl _ _) (Nat.le_refl _) (by simp) ?_;(case hp=>exact (dF.one (show Kd.M (Kd.int .u8) _ _ _ ((wrap64 (48 + (Int.tmod a0 10))) % 256) [.int .u8 ((wrap64 (48 + (Int.tmod a0 10))) % 256)] from rfl) (dF.none _ _)))
    intro j7 jp ho15 hb hg_ hnew_
    clear hg_ hnew_
    (first|rw [← j5.out] at ho15|(simp only [Int.reduceToNat] at ho15;rw [← j5.out] at ho15))
    have j3:=am (Kd.fG ho15 (aJ dU))
    replace HB:=am (aA dU hb)
    clear hb ho15
    refine hK.out _ _ trivial (fun hHeld=>?_)
    clear hK K
    refine eZ (a':=?_) ?_ ?_
    rotate_left
    ·exact ap_ (N:=25)
    refine aHf (i:=2) (j:=8) (Ni:=some 20) (Nj:=some 26) (bz 11 255) (bz 11 507) rfl rfl rfl rfl (FB HT_.out (by kernel_rfl)) (by decide) (by decide) (fun K hK=>?_) (fun K hK=>?_)
    ·skip
     refine iF Tryz.func24 (by kernel_rfl) rfl #[.int .i64 (wrap64 (Int.tdiv a0 10))] (by rfl) rfl rfl mD ?_
     with_reducible refine (ih k (by omega) (wrap64 (Int.tdiv a0 10)) j4 _ jf.out).mono ?_
     rintro e jt ⟨rfl,hb⟩
     refine ⟨_,rfl,?_⟩
     replace j3:=am (Kd.gG (aR_ j3.out) hb)
     replace HB:=am (aA dU hb)
     (try clear hb)
     (try clear hb2)
     (try clear hk)
     (try clear hi)
     refine hK.out _ _ trivial (fun hHeld=>?_)
     clear hK K
     refine eZ (a':=?_) ?_ ?_
     rotate_left
     ·exact ap_ (N:=20)
     refine gY (i:=8) (N:=some 26) (bz 11 511) rfl rfl (eG HT_.out (by kernel_rfl)) (by decide) (fun K hK=>?_)
     have hcv17:=uP (P:=Tryz.prog) Tryz.underlying22 Tryz.underlying5 Tryz.underlying9 (Kd.xX j3.out)
     refine sK (w1:=?_) (v:=?_) (by rfl) rfl ?_ ?_
     rotate_left 2
     ·go_simp
      constructor
      ·rfl
      ·rfl
     clear hcv17
     refine hK.out _ _ trivial (fun hHeld=>?_)
     clear hK K
     refine eZ (a':=?_) ?_ ?_
     rotate_left
     ·exact ap_ (N:=26)
     exact eZ (by simp only [vR,Act.put,List.setIfInBounds_toArray,List.set_cons_zero,List.set_cons_succ]) (hCont (j7) _ ⟨(aR_ j3.out),dU⟩)
    ·skip
     have hcv16:=uP (P:=Tryz.prog) Tryz.underlying22 Tryz.underlying5 Tryz.underlying9 (Kd.xX j3.out)
     refine sK (w1:=?_) (v:=?_) (by rfl) rfl ?_ ?_
     rotate_left 2
     ·go_simp
      constructor
      ·rfl
      ·rfl
     clear hcv16
     refine hK.out _ _ trivial (fun hHeld=>?_)
     clear hK K
     refine eZ (a':=?_) ?_ ?_
     rotate_left
     ·exact ap_ (N:=26)
     refine gY (i:=2) (N:=some 20) (bz 11 511) rfl rfl (eG HT_.out (by kernel_rfl)) (by decide) (fun K hK=>?_)
     refine iF Tryz.func24 (by kernel_rfl) rfl #[.int .i64 (wrap64 (Int.tdiv a0 10))] (by rfl) rfl rfl mD ?_
     with_reducible refine (ih k (by omega) (wrap64 (Int.tdiv a0 10)) j4 _ jf.out).mono ?_
     rintro e ju ⟨rfl,hb⟩
     refine ⟨_,rfl,?_⟩
     replace j3:=am (Kd.gG (aR_ j3.out) hb)
     replace HB:=am (aA dU hb)
     (try clear hb)
     (try clear hb2)
     (try clear hk)
     (try clear hi)
     refine hK.out _ _ trivial (fun hHeld=>?_)
     clear hK K
     refine eZ (a':=?_) ?_ ?_
     rotate_left
     ·exact ap_ (N:=20)
     exact eZ (by simp only [vR,Act.put,List.setIfInBounds_toArray,List.set_cons_zero,List.set_cons_succ]) (hCont (j7) _ ⟨(aR_ j3.out),dU⟩)
  rintro j7 jk ⟨h0_,h1_⟩
  have j3:Aside0 (Kd.R (Kd.int .u8) 5 jk w.heap.size (fun _=>True) j7 j6):=⟨h0_⟩
  replace HB:Aside0 (Below w.heap.size w jk):=⟨h1_⟩
  clear h0_ h1_
  have hHeld:=trivial
  refine eZ (a':=?_) ?_ ?_
  rotate_left
  ·simp only [vR,Act.put,List.setIfInBounds_toArray,List.set_cons_zero,List.set_cons_succ]
   rfl
  refine pr_ 9 27 (bz 11 1023) HT_ ?_
  refine pr_ 10 2 (bz 11 2047) HT_ ?_
  refine nA (kS HT_.out (by kernel_rfl)) ?_
  try go_wp2
  go_ret
  exact ⟨rr_,dU⟩
 rw [if_neg j9] at H
 exact absurd H (by simp)
theorem mO.calls (a0:Int) (r:ByteArray) (w:World) (h:mO.f a0=some r):
  Calls Tryz.prog 73 #[.int .i64 a0] w fun e w'=>e= .returned (.string r)∧Below w.heap.size w w':=by
 have HB:=am (Below.refl w.heap.size w)
 have H:(some (strOfNums (([(wrap64 (97 + a0)) % 256]:List Int))))=some r:=h
 clear h
 obtain ⟨j5,hy_⟩:∃ y_:List Int,y_=(([(wrap64 (97 + a0)) % 256]:List Int)):=⟨_,rfl⟩
 replace H:(some (strOfNums j5))=some r:=rx_
 have j3:=am hy_
 clear hy_
 obtain rfl:=Option.some.inj H
 go_enter Tryz.func73,Tryz.ntmps73
 go_wp2_with (first|((with_reducible refine cK (N:=6) rfl ?_);refine Kd.oP (Kd.int .u8) _ 5 rfl (N:=6) rfl (xs:=([(wrap64 (97 + a0)) % 256]:List Int)) (inner:=[.int .u8 ((wrap64 (97 + a0)) % 256)]) (ok:=fun _=>True) (okp:=fun _=>True) rn_ ?hp (fun _ hk=>hk) trivial (Below.refl _ _) (Nat.le_refl _) (by simp) ?_;(case hp=>exact (dF.one (show Kd.M (Kd.int .u8) _ _ _ ((wrap64 (97 + a0)) % 256) [.int .u8 ((wrap64 (97 + a0)) % 256)] from rfl) (dF.none _ _)));intro j6 w2 ho3 hb hg_ hnew_;clear hg_ hnew_;(first|rw [← j3.out] at ho3|(simp only [Int.reduceToNat] at ho3;rw [← j3.out] at ho3));have j4:=am (Kd.fG ho3 (aJ dU));replace HB:=am (aA dU hb);clear hb ho3;have hcv4:=uP (P:=Tryz.prog) Tryz.underlying22 Tryz.underlying5 Tryz.underlying9 (Kd.xX j4.out)))
 go_ret
 exact ⟨rr_,dU⟩
theorem lS.calls (a0:Int) (r:Int) (w:World) (h:lS.f a0=some r):
  Calls Tryz.prog 94 #[.int .i64 a0] w fun e w'=>e= .returned (.int .i64 r)∧Below w.heap.size w w':=by
 have HB:=am (Below.refl w.heap.size w)
 unfold lS.f at h
 have H:=h
 clear h
 obtain ⟨j9,A2,H⟩:=bsa H
 (try dsimp only at H)
 by_cases c3:j9=true
 ·subst c3
  rw [if_pos rfl] at H
  obtain ⟨j3,hy_⟩:∃ y_:List Int,y_=(([1,2,3,4,5,6,6,7,7,8,8,8]:List Int)):=⟨_,rfl⟩
  replace H:(if 0≤(wrap64 (a0 - 1)) then (if (wrap64 (a0 - 1)) < (j3.length:Int) then (some (rd j3 (wrap64 (a0 - 1)))) else (none)) else (none))=some r:=rx_
  have j4:=am hy_
  clear hy_
  obtain ⟨ji4,hji4⟩:∃ j_:Int,(wrap64 (a0 - 1))=j_:=⟨_,rfl⟩
  replace H:(if 0≤(ji4) then (if (ji4) < (j3.length:Int) then (some (rd j3 (ji4))) else (none)) else (none))=some r:=by first|(rw [hji4] at H;exact H)|(simp only [hji4] at H ⊢;exact H)
  (try rw [hji4] at A2)
  have hji4w:(IntKind.i64.wrap (a0 - 1))=ji4:=(fI _).trans hji4
  by_cases c5:0≤(ji4)
  ·rw [if_pos c5] at H
   have ja:decide (0≤(ji4))=true:=decide_eq_true c5
   clear c5
   by_cases c6:(ji4) < (j3.length:Int)
   ·rw [if_pos c6] at H
    have jb:decide ((ji4) < (j3.length:Int))=true:=decide_eq_true c6
    clear c6
    obtain rfl:=Option.some.inj H
    go_enter Tryz.func94,Tryz.ntmps94
    go_wp2_with (first|((with_reducible refine aD (f:=122) rfl ?_);refine gl_ 4 Tryz.func122 #[.int .i64 a0] ?_;(with_reducible refine (iD.calls a0 true _ A2.out).mono ?_);rintro e w' ⟨rfl,⟨nd,rfl⟩⟩;refine ⟨_,rfl,?_⟩)|((with_reducible refine cK (N:=6) rfl ?_);refine Kd.oP (Kd.int .i64) _ 3 rfl (N:=6) rfl (xs:=([1,2,3,4,5,6,6,7,7,8,8,8]:List Int)) (inner:=[.int .i64 1, .int .i64 2, .int .i64 3, .int .i64 4, .int .i64 5, .int .i64 6, .int .i64 6, .int .i64 7, .int .i64 7, .int .i64 8, .int .i64 8, .int .i64 8]) (ok:=fun _=>True) (okp:=fun _=>True) rn_ ?hp (fun _ hk=>hk) trivial (Below.refl _ _) (Nat.le_refl _) (by simp) ?_;(case hp=>exact (dF.one (show Kd.M (Kd.int .i64) _ _ _ 1 [.int .i64 1] from rfl) (dF.one (show Kd.M (Kd.int .i64) _ _ _ 2 [.int .i64 2] from rfl) (dF.one (show Kd.M (Kd.int .i64) _ _ _ 3 [.int .i64 3] from rfl) (dF.one (show Kd.M (Kd.int .i64) _ _ _ 4 [.int .i64 4] from rfl) (dF.one (show Kd.M (Kd.int .i64) _ _ _ 5 [.int .i64 5] from rfl) (dF.one (show Kd.M (Kd.int .i64) _ _ _ 6 [.int .i64 6] from rfl) (dF.one (show Kd.M (Kd.int .i64) _ _ _ 6 [.int .i64 6] from rfl) (dF.one (show Kd.M (Kd.int .i64) _ _ _ 7 [.int .i64 7] from rfl) (dF.one (show Kd.M (Kd.int .i64) _ _ _ 7 [.int .i64 7] from rfl) (dF.one (show Kd.M (Kd.int .i64) _ _ _ 8 [.int .i64 8] from rfl) (dF.one (show Kd.M (Kd.int .i64) _ _ _ 8 [.int .i64 8] from rfl) (dF.one (show Kd.M (Kd.int .i64) _ _ _ 8 [.int .i64 8] from rfl) (dF.none _ _))))))))))))));intro jf w7 ho8 hb hg_ hnew_;clear hg_ hnew_;(first|rw [← j4.out] at ho8|(simp only [Int.reduceToNat] at ho8;rw [← j4.out] at ho8));have j5:=am (Kd.fG ho8 (aJ dU));replace HB:=am (aA dU hb);clear hb ho8;obtain ⟨jg,jh,jc⟩:=Kd.eY j5.out;subst jc;have j6:0≤((ji4):Int):=of_decide_eq_true eB;have j7:(ji4) < (j3.length:Int):=of_decide_eq_true eB;obtain ⟨jd,je,j8⟩:=Kd.oF (Kd.eH j5.out).2.2 (ji4) j6 j7;cases je;replace j6:=eq_true j6;replace j7:=eq_true j7))
    go_ret
    exact ⟨by first|rfl|(simp [lF,lG] <;> rfl)|(simp only [← hji4];first|rfl|(simp [lF,lG] <;> rfl))|(simp [*,lF,lG] <;> rfl),dU⟩
   rw [if_neg c6] at H
   exact absurd H (by simp)
  rw [if_neg c5] at H
  exact absurd H (by simp)
 replace c3:=Bool.eq_false_iff.mpr c3
 subst c3
 rw [if_neg (show ¬ (false=true) by decide)] at H
 obtain rfl:=Option.some.inj H
 go_enter Tryz.func94,Tryz.ntmps94
 go_wp2_with (first|((with_reducible refine aD (f:=122) rfl ?_);refine gl_ 4 Tryz.func122 #[.int .i64 a0] ?_;(with_reducible refine (iD.calls a0 false _ A2.out).mono ?_);rintro e w' ⟨rfl,⟨nd,rfl⟩⟩;refine ⟨_,rfl,?_⟩))
 go_ret
 exact ⟨rr_,dU⟩
theorem mP.calls (P0_:Nat→Prop) (j5:Value) (l0:List ByteArray) (a1:Bool) (r:List ByteArray) (w0 w:World) (hB:Below w0.heap.size w0 w) (ho0:Kd.R Kd.string 9 w w0.heap.size P0_ j5 l0) (h:mP.f l0 a1=some r):
  Calls Tryz.prog 95 #[j5, .bool a1] w fun e w'=>∃ v0_:Value,e= .returned (v0_)∧Kd.R Kd.string 9 w' w0.heap.size (fun k_=>(P0_ k_∨w.heap.size≤k_)) v0_ r∧Below w0.heap.size w0 w'∧Kept w w' (fun k_=>P0_ k_):=by
 have j3:=am (show Kd.R Kd.string 9 w w0.heap.size (fun k_=>(P0_ k_∨w.heap.size≤k_)) j5 l0 from Kd.bV ho0 (fun k_ hk=>(.inl hk)))
 have HK:=am (Kept.refl w (fun k_=>P0_ k_))
 have HW0:=am hB.size
 have HB:=am hB
 clear hB
 unfold mP.f at h
 have H:=h
 clear h
 by_cases c3:a1=true
 ·subst c3
  rw [if_pos rfl] at H
  obtain ⟨j8,hy_⟩:∃ y_:List ByteArray,y_=(([(⟨#[40]⟩:ByteArray)]:List ByteArray)):=⟨_,rfl⟩
  replace H:(if j8.length + l0.length < 8796093022208 then ((some (j8 ++ l0:List ByteArray)).bind fun j4=>(if j4.length < 8796093022208 then (some (j4 ++ [(⟨#[41]⟩:ByteArray)])) else (none))) else (none))=some r:=rx_
  have j9:=am hy_
  clear hy_
  by_cases c4:j8.length + l0.length < 8796093022208
  ·rw [if_pos c4] at H
   have ja:=am c4
   clear c4
   obtain ⟨j4,hy_⟩:∃ y_:List ByteArray,y_=(j8 ++ l0):=⟨_,rfl⟩
   replace H:(if j4.length < 8796093022208 then (some (j4 ++ [(⟨#[41]⟩:ByteArray)])) else (none))=some r:=rx_
   have jb:=am hy_
   clear hy_
   by_cases c5:j4.length < 8796093022208
   ·rw [if_pos c5] at H
    have jc:=am c5
    clear c5
    obtain ⟨jh,hy_⟩:∃ y_:List ByteArray,y_=(j4 ++ [(⟨#[41]⟩:ByteArray)]):=⟨_,rfl⟩
    replace H:(some jh)=some r:=rx_
    have jd:=am hy_
    clear hy_
    obtain rfl:=Option.some.inj H
    go_enter Tryz.func95,Tryz.ntmps95
    go_wp2_with (first|((with_reducible refine cK (N:=9) rfl ?_);refine Kd.oP Kd.string _ 9 rfl (N:=9) rfl (xs:=([(⟨#[40]⟩:ByteArray)]:List ByteArray)) (inner:=[.string (⟨#[40]⟩:ByteArray)]) (ok:=fun _=>True) (okp:=fun _=>True) rn_ ?hp (fun _ hk=>hk) trivial (Below.refl _ _) (Nat.le_refl _) (by simp) ?_;(case hp=>exact (dF.one (show Kd.M Kd.string _ _ _ (⟨#[40]⟩:ByteArray) [.string (⟨#[40]⟩:ByteArray)] from rfl) (dF.none _ _)));intro ji w6 ho7 hb hg_ hnew_;clear hg_ hnew_;(first|rw [← j9.out] at ho7|(simp only [Int.reduceToNat] at ho7;rw [← j9.out] at ho7));have j6:=am (Kd.fG (Kd.lT (Kd.vO (M:=fun k_=>(P0_ k_∨w.heap.size≤k_)) ho7 (by first|exact HK.out.1|exact (show Kept w _ (fun k_=>P0_ k_) from nE).1) (fun k_ h_=> .inr h_)) (Kd.iN (aR_ j3.out))) (aJ dU));replace j3:=am (Kd.iL (aR_ j3.out) (Kd.iU ho7) hb);replace HK:=am (Kept.below (S:=(fun k_=>P0_ k_)) nE hb);replace HB:=am (aA dU hb);clear hb ho7;obtain ⟨jf,jg,jj⟩:=Kd.eY j3.out;subst jj)|((with_reducible refine dS (b:= .append) (xs:=#[.tmp 9, .tmp 10]) rfl ?_);at_builtin;refine Kd.iI Kd.string (w0:=w0) w0.heap.size rfl (.tmp 9) (.tmp 10) 29 9 (.string ⟨#[]⟩) 16 rfl Tryz.underlying29 kJ rfl (by decide) (by omega) ji j8 l0 _ _ _ (fun k_=>(P0_ k_∨w.heap.size≤k_)∧some k_≠(.slice jf l0.length jg:Value).ownBlock) (fun _=>False) rfl rfl ?aO ?aR (fun _ _ h=>h) (fun _ h=>h.elim) ?aF ?aB ?aS ?aL ?_;(case aR=>repeat (first|exact (Kd.eH j3.out).2.2|(with_reducible refine Kd.iY ?_ _)|(with_reducible refine Kd.iR ?_ _)|(with_reducible refine Kd.kW ?_)));(case aB=>exact dU);(case aF=>exact (fun k_ hk=>⟨(.inr (Nat.le_trans (by first|exact HK.out.1|exact (show Kept w _ (fun k_=>P0_ k_) from nE).1) hk)),Kd.fresh' (Kd.iN (aR_ j3.out)) k_ hk⟩));(case aO=>exact (gH (Kd.bV j6.out (fun _ hk=>⟨hk.1.1,hk.2⟩))));(case aS=>exact (aJ dU));(case aL=>have:=ja.out;omega);intro jk w8 ho hb hg hat;rw [← jb.out] at ho;replace j3:=am (Kd.iM (ok:=(fun k_=>(P0_ k_∨w.heap.size≤k_))) (aR_ j3.out) hg hat);replace HB:=am (hb);replace HK:=am (Kept.fV (S:=(fun k_=>P0_ k_)) hg nE (fun k_ e_=>(j6.out.1 k_ e_).1.1));have j7:=am (ho);clear j6 ho hb hg hat)|((with_reducible refine dS (b:= .append) (xs:=#[.tmp 12, .tmp 13]) rfl ?_);at_builtin;refine Kd.kE Kd.string (w0:=w0) w0.heap.size rfl (.tmp 12) (.tmp 13) 29 9 (.string ⟨#[]⟩) 16 rfl Tryz.underlying29 kJ rfl (by decide) (by omega) jk j4 (⟨#[41]⟩:ByteArray) [.string (⟨#[41]⟩:ByteArray)] (fun k_=>(P0_ k_∨w.heap.size≤k_)∧some k_≠(.slice jf l0.length jg:Value).ownBlock) (fun _=>False) rfl rfl ?aP (fun _ hk=>hk.elim) ?aF ?aO ?aB ?aS ?aL ?_;(case aP=>exact rfl);(case aB=>exact dU);(case aF=>exact (fun k_ hk=>⟨(.inr (Nat.le_trans (by first|exact HK.out.1|exact (show Kept w _ (fun k_=>P0_ k_) from nE).1) hk)),Kd.fresh' (Kd.iN (aR_ j3.out)) k_ hk⟩));(case aO=>exact (aR_ j7.out));(case aS=>exact (aJ dU));(case aL=>have:=jc.out;omega);intro jl jm ho hb hg hat;rw [← jd.out] at ho;replace j3:=am (Kd.iM (ok:=(fun k_=>(P0_ k_∨w.heap.size≤k_))) (aR_ j3.out) hg hat);replace HB:=am (hb);replace HK:=am (Kept.fV (S:=(fun k_=>P0_ k_)) hg nE (fun k_ e_=>(j7.out.1 k_ e_).1));have je:=am (ho);clear j7 ho hb hg hat))
    go_ret
    exact ⟨_,gN,gH (Kd.bV je.out (fun _ hk=>hk.1)),dU,nE⟩
   rw [if_neg c5] at H
   exact absurd H (by simp)
  rw [if_neg c4] at H
  exact absurd H (by simp)
 replace c3:=Bool.eq_false_iff.mpr c3
 subst c3
 rw [if_neg (show ¬ (false=true) by decide)] at H
 obtain rfl:=Option.some.inj H
 go_enter Tryz.func95,Tryz.ntmps95
 go_wp2
 go_ret
 exact ⟨_,gN,gH j3.out,dU,nE⟩
theorem mI.calls (j4:Int) (j5:Int) (j6:Option Addr) (j7:Nat) (j3:List (S56)) (r:Int) (w:World) (hr0_2:Kd.C k56 w j6 j3.length j3) (hc0_2:j3.length≤j7) (h:mI.f j4 j5 j3=some r):
  Calls Tryz.prog 96 #[.agg #[.int .i64 j4, .int .i64 j5, .slice j6 j3.length j7]] w fun e w'=>e= .returned (.int .i64 r)∧Below w.heap.size w w':=by
 have hu56:=Tryz.underlying56
 have jj:=am hr0_2
 have jk:=am hc0_2
 clear hr0_2 hc0_2
 have HB:=am (Below.refl w.heap.size w)
 have H:(if (j3.length:Int)=0 then (some 9) else ((lS.f j4).bind fun ja=>(some ja)))=some r:=h
 clear h
 have HH_:=am H
 clear H
 go_enter Tryz.func96,Tryz.ntmps96
 go_upto_region 1 with (first|((with_reducible refine cK (N:=1) rfl ?_);refine eO rfl (N:=1) rfl (cs:=#[.int .i64 j4, .int .i64 j5, .slice j6 j3.length j7]) (t:=56) rn_ ?_;intro j9 hg w3 hbox hb;have j8:=am (hbox);have jl:=am ((by rw [hg];exact (aJ dU):w.heap.size≤j9));have GE21:=am ((by rw [hg];exact (aJ dU):w.heap.size≤j9));replace HB:=am (aA dU hb);clear hb hbox hg;obtain ⟨jb,jc,jd,je,jf,jg⟩:=lU j8.out))
 have H:=HH_.out
 clear HH_
 by_cases c2:(j3.length:Int)=0
 ·rw [if_pos c2] at H
  have jh:((j3.length:Int) == 0)=true:=beq_iff_eq.mpr c2
  have ji:((j3.length:Int) != 0)=false:=bne_eq_false_iff_eq.mpr c2
  clear c2
  obtain rfl:=Option.some.inj H
  go_wp2
  go_ret
  exact ⟨rr_,vC⟩
 rw [if_neg c2] at H
 have jh:((j3.length:Int) == 0)=false:=beq_eq_false_iff_ne.mpr c2
 have ji:((j3.length:Int) != 0)=true:=bne_iff_ne.mpr c2
 have jm:¬ (j3=[]):=fun h_=>c2 (by rw [h_];rfl)
 obtain ⟨ja,A5,H⟩:=bsa H
 (try dsimp only at H)
 obtain rfl:=Option.some.inj H
 go_wp2_with (first|((with_reducible refine aD (f:=94) rfl ?_);refine gl_ 9 Tryz.func94 #[.int .i64 j4] ?_;(with_reducible refine (lS.calls j4 ja _ A5.out).mono ?_);rintro e w8 ⟨rfl,hb⟩;refine ⟨_,rfl,?_⟩;replace j8:=bbP j8 hb;replace HB:=am (aA vC hb);(try clear hb)))
 go_ret
 exact ⟨rr_,vC⟩
theorem rD.calls (a0:Int) (r:ByteArray) (w:World) (h:rD.f a0=some r):
  Calls Tryz.prog 97 #[.int .i64 a0] w fun e w'=>e= .returned (.string r)∧Below w.heap.size w w':=by
 have HB:=am (Below.refl w.heap.size w)
 unfold rD.f at h
 have H:=h
 clear h
 obtain ⟨j9,A2,H⟩:=bsa H
 (try dsimp only at H)
 by_cases c3:j9=true
 ·subst c3
  rw [if_pos rfl] at H
  obtain ⟨j3,hy_⟩:∃ y_:List ByteArray,y_=(([(⟨#[124]⟩:ByteArray),(⟨#[94]⟩:ByteArray),(⟨#[38]⟩:ByteArray),(⟨#[61,61]⟩:ByteArray),(⟨#[60]⟩:ByteArray),(⟨#[60,60]⟩:ByteArray),(⟨#[62,62]⟩:ByteArray),(⟨#[43]⟩:ByteArray),(⟨#[45]⟩:ByteArray),(⟨#[42]⟩:ByteArray),(⟨#[47]⟩:ByteArray),(⟨#[37]⟩:ByteArray)]:List ByteArray)):=⟨_,rfl⟩
  replace H:(if 0≤(wrap64 (a0 - 1)) then (if (wrap64 (a0 - 1)) < (j3.length:Int) then (some (nL ByteArray.empty j3 (wrap64 (a0 - 1)))) else (none)) else (none))=some r:=rx_
  have j4:=am hy_
  clear hy_
  obtain ⟨ji4,hji4⟩:∃ j_:Int,(wrap64 (a0 - 1))=j_:=⟨_,rfl⟩
  replace H:(if 0≤(ji4) then (if (ji4) < (j3.length:Int) then (some (nL ByteArray.empty j3 (ji4))) else (none)) else (none))=some r:=by first|(rw [hji4] at H;exact H)|(simp only [hji4] at H ⊢;exact H)
  (try rw [hji4] at A2)
  have hji4w:(IntKind.i64.wrap (a0 - 1))=ji4:=(fI _).trans hji4
  by_cases c5:0≤(ji4)
  ·rw [if_pos c5] at H
   have ja:decide (0≤(ji4))=true:=decide_eq_true c5
   clear c5
   by_cases c6:(ji4) < (j3.length:Int)
   ·rw [if_pos c6] at H
    have jb:decide ((ji4) < (j3.length:Int))=true:=decide_eq_true c6
    clear c6
    obtain rfl:=Option.some.inj H
    go_enter Tryz.func97,Tryz.ntmps97
    go_wp2_with (first|((with_reducible refine aD (f:=122) rfl ?_);refine gl_ 4 Tryz.func122 #[.int .i64 a0] ?_;(with_reducible refine (iD.calls a0 true _ A2.out).mono ?_);rintro e w' ⟨rfl,⟨nd,rfl⟩⟩;refine ⟨_,rfl,?_⟩)|((with_reducible refine cK (N:=6) rfl ?_);refine Kd.oP Kd.string _ 9 rfl (N:=6) rfl (xs:=([(⟨#[124]⟩:ByteArray),(⟨#[94]⟩:ByteArray),(⟨#[38]⟩:ByteArray),(⟨#[61,61]⟩:ByteArray),(⟨#[60]⟩:ByteArray),(⟨#[60,60]⟩:ByteArray),(⟨#[62,62]⟩:ByteArray),(⟨#[43]⟩:ByteArray),(⟨#[45]⟩:ByteArray),(⟨#[42]⟩:ByteArray),(⟨#[47]⟩:ByteArray),(⟨#[37]⟩:ByteArray)]:List ByteArray)) (inner:=[.string (⟨#[124]⟩:ByteArray), .string (⟨#[94]⟩:ByteArray), .string (⟨#[38]⟩:ByteArray), .string (⟨#[61,61]⟩:ByteArray), .string (⟨#[60]⟩:ByteArray), .string (⟨#[60,60]⟩:ByteArray), .string (⟨#[62,62]⟩:ByteArray), .string (⟨#[43]⟩:ByteArray), .string (⟨#[45]⟩:ByteArray), .string (⟨#[42]⟩:ByteArray), .string (⟨#[47]⟩:ByteArray), .string (⟨#[37]⟩:ByteArray)]) (ok:=fun _=>True) (okp:=fun _=>True) rn_ ?hp (fun _ hk=>hk) trivial (Below.refl _ _) (Nat.le_refl _) (by simp) ?_;(case hp=>exact (dF.one (show Kd.M Kd.string _ _ _ (⟨#[124]⟩:ByteArray) [.string (⟨#[124]⟩:ByteArray)] from rfl) (dF.one (show Kd.M Kd.string _ _ _ (⟨#[94]⟩:ByteArray) [.string (⟨#[94]⟩:ByteArray)] from rfl) (dF.one (show Kd.M Kd.string _ _ _ (⟨#[38]⟩:ByteArray) [.string (⟨#[38]⟩:ByteArray)] from rfl) (dF.one (show Kd.M Kd.string _ _ _ (⟨#[61,61]⟩:ByteArray) [.string (⟨#[61,61]⟩:ByteArray)] from rfl) (dF.one (show Kd.M Kd.string _ _ _ (⟨#[60]⟩:ByteArray) [.string (⟨#[60]⟩:ByteArray)] from rfl) (dF.one (show Kd.M Kd.string _ _ _ (⟨#[60,60]⟩:ByteArray) [.string (⟨#[60,60]⟩:ByteArray)] from rfl) (dF.one (show Kd.M Kd.string _ _ _ (⟨#[62,62]⟩:ByteArray) [.string (⟨#[62,62]⟩:ByteArray)] from rfl) (dF.one (show Kd.M Kd.string _ _ _ (⟨#[43]⟩:ByteArray) [.string (⟨#[43]⟩:ByteArray)] from rfl) (dF.one (show Kd.M Kd.string _ _ _ (⟨#[45]⟩:ByteArray) [.string (⟨#[45]⟩:ByteArray)] from rfl) (dF.one (show Kd.M Kd.string _ _ _ (⟨#[42]⟩:ByteArray) [.string (⟨#[42]⟩:ByteArray)] from rfl) (dF.one (show Kd.M Kd.string _ _ _ (⟨#[47]⟩:ByteArray) [.string (⟨#[47]⟩:ByteArray)] from rfl) (dF.one (show Kd.M Kd.string _ _ _ (⟨#[37]⟩:ByteArray) [.string (⟨#[37]⟩:ByteArray)] from rfl) (dF.none _ _))))))))))))));intro jf w7 ho8 hb hg_ hnew_;clear hg_ hnew_;(first|rw [← j4.out] at ho8|(simp only [Int.reduceToNat] at ho8;rw [← j4.out] at ho8));have j5:=am (Kd.fG ho8 (aJ dU));replace HB:=am (aA dU hb);clear hb ho8;obtain ⟨jg,jh,jc⟩:=Kd.eY j5.out;subst jc;have j6:0≤((ji4):Int):=of_decide_eq_true eB;have j7:(ji4) < (j3.length:Int):=of_decide_eq_true eB;obtain ⟨jd,je,j8⟩:=Kd.nW (Kd.eH j5.out).2.2 (ji4) j6 j7;cases je;replace j6:=eq_true j6;replace j7:=eq_true j7))
    go_ret
    exact ⟨by first|rfl|(simp [lF,lG] <;> rfl)|(simp only [← hji4];first|rfl|(simp [lF,lG] <;> rfl))|(simp [*,lF,lG] <;> rfl),dU⟩
   rw [if_neg c6] at H
   exact absurd H (by simp)
  rw [if_neg c5] at H
  exact absurd H (by simp)
 replace c3:=Bool.eq_false_iff.mpr c3
 subst c3
 rw [if_neg (show ¬ (false=true) by decide)] at H
 obtain rfl:=Option.some.inj H
 go_enter Tryz.func97,Tryz.ntmps97
 go_wp2_with (first|((with_reducible refine aD (f:=122) rfl ?_);refine gl_ 4 Tryz.func122 #[.int .i64 a0] ?_;(with_reducible refine (iD.calls a0 false _ A2.out).mono ?_);rintro e w' ⟨rfl,⟨nd,rfl⟩⟩;refine ⟨_,rfl,?_⟩))
 go_ret
 exact ⟨rr_,dU⟩
theorem bM.mono_l:∀ k,(∀ y0 y1 y2,LeO (bM.f k y0 y1 y2) (bM.f (k + 1) y0 y1 y2))
 |0=>fun _ _ _ r h=>by simp [bM.f] at h
 |k + 1=>by
  have ih0:=bM.mono_l k
  ·intro y0 y1 y2
   unfold bM.f
   have m0:=@dX.mono
   exact mo_
theorem bM.mono:∀ a0 a1 a2 k,LeO (bM.f k a0 a1 a2) (bM.f (k + 1) a0 a1 a2):=by
 intro a0 a1 a2 k
 have ih0:=bM.mono_l k
 exact ih0 a0 a1 a2
def bM.T6:Bool × List (List Nat × List Nat):=(true,[([],[]),([0],[0]),([1],[1]),([2],[2]),([3],[3]),([],[]),([5],[5]),([6],[6]),([7],[7]),([8,4],[8]),([],[]),([9,10],[9,10]),([4,11,9],[4,11]),([12,12,0,1,2,3,4,5,6,7,8,9,10,11,12],[12])])
def bM.B6:List Nat:=[0,1,3,7,15,0,32,96,224,511,0,2047,4095,8191]
theorem bM.PN:lV .any (opsOf Tryz.f74 6)=bM.T6:=by kernel_rfl
theorem bM.CQ:iP bM.T6.2 bM.B6=true:=by kernel_rfl
def bM.T8:Bool × List (List Nat × List Nat):=(true,[([],[]),([],[]),([1],[1]),([2],[2]),([3],[3]),([4],[4]),([],[]),([6],[6]),([7],[7]),([8],[8]),([9,5],[9]),([],[]),([10,11],[10,11]),([5,12,10],[5,12]),([0,13,13],[0,13]),([14,14,0,1,2,3,4,5,6,7,8,9,10,11,12,13,14],[14])])
def bM.B8:List Nat:=[0,0,2,6,14,30,0,64,192,448,1022,0,4094,8190,16383,32767]
theorem bM.aIf:lV .any (opsOf Tryz.f74 8)=bM.T8:=by kernel_rfl
theorem bM.aHp:iP bM.T8.2 bM.B8=true:=by kernel_rfl
theorem bM.calls (k:Nat):∀ (j8:Int) (jk:Int) (jA:Option Addr) (jp:Nat) (j3:List (S56)) (r:List ByteArray) (w:World) (hr0_2:Kd.C k56 w jA j3.length j3) (hc0_2:j3.length≤jp) (h:bM.f k j8 jk j3=some r),
  Calls Tryz.prog 74 #[.agg #[.int .i64 j8, .int .i64 jk, .slice jA j3.length jp]] w fun e w'=>∃ v0_:Value,e= .returned (v0_)∧Kd.R Kd.string 9 w' w.heap.size (fun _=>True) v0_ r∧Below w.heap.size w w':=by
 induction k using Nat.strongRecOn with
 | _ k ih=>
 intro j8 jk jA jp j3 r w hr0_2 hc0_2 h
 cases k with
 |zero=>exact absurd h (by simp [bM.f])
 |succ k=>
 simp only [bM.f] at h
 have hu56:=Tryz.underlying56
 have jr:=am hr0_2
 have qI:=am hc0_2
 clear hr0_2 hc0_2
 have HB:=am (Below.refl w.heap.size w)
 have H:=h
 clear h
 have HH_:=am H
 clear H
 go_enter Tryz.func74,Tryz.ntmps74
 go_upto_region 1 with (first|((with_reducible refine cK (N:=1) rfl ?_);refine eO rfl (N:=1) rfl (cs:=#[.int .i64 j8, .int .i64 jk, .slice jA j3.length jp]) (t:=56) rn_ ?_;intro jl hg w4 hbox hb;have j4:=am (hbox);have z1:=am ((by rw [hg];exact (aJ dU):w.heap.size≤jl));have GE69:=am ((by rw [hg];exact (aJ dU):w.heap.size≤jl));replace HB:=am (aA dU hb);clear hb hbox hg;obtain ⟨qh,qi,qj,qk,ql,qm⟩:=lU j4.out))
 have H:=HH_.out
 clear HH_
 by_cases c2:j8=0
 ·rw [if_pos c2] at H
  have qn:(j8 == 0)=true:=beq_iff_eq.mpr c2
  have qo:(j8 != 0)=false:=bne_eq_false_iff_eq.mpr c2
  clear c2
  obtain ⟨jP,A3,H⟩:=bsa H
  (try dsimp only at H)
  obtain ⟨z2,hy_⟩:∃ y_:List ByteArray,y_=(([jP]:List ByteArray)):=⟨_,rfl⟩
  replace H:(some z2)=some r:=rx_
  have jS:=am hy_
  clear hy_
  obtain rfl:=Option.some.inj H
  go_wp2_with (first|((with_reducible refine aD (f:=24) rfl ?_);refine gl_ 10 Tryz.func24 #[.int .i64 jk] ?_;(with_reducible refine (dX.calls k jk jP _ A3.out).mono ?_);rintro e w6 ⟨rfl,hb⟩;refine ⟨_,rfl,?_⟩;replace j4:=bbP j4 hb;replace HB:=am (aA oD hb);(try clear hb))|((with_reducible refine cK (N:=11) rfl ?_);refine Kd.oP Kd.string _ 9 rfl (N:=11) rfl (xs:=([jP]:List ByteArray)) (inner:=[.string jP]) (ok:=fun _=>True) (okp:=fun _=>True) rn_ ?hp (fun _ hk=>hk) trivial (Below.refl _ _) (Nat.le_refl _) (by simp) ?_;(case hp=>exact (dF.one (show Kd.M Kd.string _ _ _ jP [.string jP] from rfl) (dF.none _ _)));intro zn w7 ho8 hb hg_ hnew_;clear hg_ hnew_;(first|rw [← jS.out] at ho8|(simp only [Int.reduceToNat] at ho8;rw [← jS.out] at ho8));have qp:=am (Kd.fG ho8 (aJ oD));replace j4:=bbP j4 hb;replace HB:=am (aA oD hb);clear hb ho8))
  go_ret
  exact ⟨_,gN,gH qp.out,oD⟩
 rw [if_neg c2] at H
 have qn:(j8 == 0)=false:=beq_eq_false_iff_ne.mpr c2
 have qo:(j8 != 0)=true:=bne_iff_ne.mpr c2
 by_cases c9:j8=13
 ·rw [if_pos c9] at H
  have qq:(j8 == 13)=true:=beq_iff_eq.mpr c9
  have qr:(j8 != 13)=false:=bne_eq_false_iff_eq.mpr c9
  clear c9
  obtain ⟨jQ,qJ,H⟩:=bsm H
  (try dsimp only at H)
  have z3:=am qJ
  clear qJ
  obtain ⟨z4,hy_⟩:∃ y_:List ByteArray,y_=(([jQ]:List ByteArray)):=⟨_,rfl⟩
  replace H:(some z4)=some r:=rx_
  have jT:=am hy_
  clear hy_
  obtain rfl:=Option.some.inj H
  go_wp2_with (first|((with_reducible refine aD (f:=73) rfl ?_);refine gl_ 17 Tryz.func73 #[.int .i64 jk] ?_;(with_reducible refine (mO.calls jk jQ _ z3.out).mono ?_);rintro e zo ⟨rfl,hb⟩;refine ⟨_,rfl,?_⟩;replace j4:=bbP j4 hb;replace HB:=am (aA oD hb);(try clear hb))|((with_reducible refine cK (N:=18) rfl ?_);refine Kd.oP Kd.string _ 9 rfl (N:=18) rfl (xs:=([jQ]:List ByteArray)) (inner:=[.string jQ]) (ok:=fun _=>True) (okp:=fun _=>True) rn_ ?hp (fun _ hk=>hk) trivial (Below.refl _ _) (Nat.le_refl _) (by simp) ?_;(case hp=>exact (dF.one (show Kd.M Kd.string _ _ _ jQ [.string jQ] from rfl) (dF.none _ _)));intro zp zq ho15 hb hg_ hnew_;clear hg_ hnew_;(first|rw [← jT.out] at ho15|(simp only [Int.reduceToNat] at ho15;rw [← jT.out] at ho15));have qs:=am (Kd.fG ho15 (aJ oD));replace j4:=bbP j4 hb;replace HB:=am (aA oD hb);clear hb ho15))
  go_ret
  exact ⟨_,gN,gH qs.out,oD⟩
 rw [if_neg c9] at H
 have qq:(j8 == 13)=false:=beq_eq_false_iff_ne.mpr c9
 have qr:(j8 != 13)=true:=bne_iff_ne.mpr c9
 obtain ⟨jR,qK,H⟩:=bsm H
 (try dsimp only at H)
 have z5:=am qK
 clear qK
 by_cases q5:0 < (j3.length:Int)
 ·rw [if_pos q5] at H
  have qL:decide (0 < (j3.length:Int))=true:=decide_eq_true q5
  have qM:decide (0 < j3.length)=true:=decide_eq_true (by omega)
  clear q5
  obtain ⟨jU,z6,H⟩:=bsa H
  (try dsimp only at H)
  obtain ⟨qt,qN,H⟩:=bsm H
  (try dsimp only at H)
  have z7:=am qN
  clear qN
  obtain ⟨q6,qO,H⟩:=bsm H
  (try dsimp only at H)
  have z8:=am qO
  clear qO
  obtain ⟨q7,qP,H⟩:=bsm H
  (try dsimp only at H)
  have z9:=am qP
  clear qP
  by_cases q8:q6.length < 8796093022208
  ·rw [if_pos q8] at H
   have jV:=am q8
   clear q8
   obtain ⟨jW,hy_⟩:∃ y_:List ByteArray,y_=(q6 ++ [q7]):=⟨_,rfl⟩
   replace H:(if 1 < (j3.length:Int) then ((bM.f k ((bW j3 1).f0) ((bW j3 1).f1) ((bW j3 1).f2)).bind fun jE=>((mI.f ((bW j3 1).f0) ((bW j3 1).f1) ((bW j3 1).f2)).bind fun jX=>((mP.f jE (decide (jX≤jR))).bind fun jD=>(if jW.length + jD.length < 8796093022208 then (some (jW ++ jD)) else (none))))) else (none))=some r:=rx_
   have qu:=am hy_
   clear hy_
   by_cases q9:1 < (j3.length:Int)
   ·rw [if_pos q9] at H
    have qQ:decide (1 < (j3.length:Int))=true:=decide_eq_true q9
    have qR:decide (1 < j3.length)=true:=decide_eq_true (by omega)
    clear q9
    obtain ⟨jE,qS,H⟩:=bsm H
    (try dsimp only at H)
    have za:=am qS
    clear qS
    obtain ⟨jX,qU,H⟩:=bsm H
    (try dsimp only at H)
    have zb:=am qU
    clear qU
    obtain ⟨jD,qV,H⟩:=bsm H
    (try dsimp only at H)
    have zc:=am qV
    clear qV
    by_cases qa:jW.length + jD.length < 8796093022208
    ·rw [if_pos qa] at H
     have jY:=am qa
     clear qa
     obtain ⟨zd,hy_⟩:∃ y_:List ByteArray,y_=(jW ++ jD):=⟨_,rfl⟩
     replace H:(some zd)=some r:=rx_
     have qv:=am hy_
     clear hy_
     obtain rfl:=Option.some.inj H
     try go_wp2_with (first|((with_reducible refine aD (f:=94) rfl ?_);refine gl_ 21 Tryz.func94 #[.int .i64 j8] ?_;(with_reducible refine (lS.calls j8 jR _ z5.out).mono ?_);rintro e ze ⟨rfl,hb⟩;refine ⟨_,rfl,?_⟩;replace j4:=bbP j4 hb;replace HB:=am (aA oD hb);(try clear hb)))
     replace j4:=am (dA j4.out)
     replace HB:=am (bJ HB.out)
     have qw:0≤(0:Int):=(by omega)
     have qx:0 < (j3.length:Int):=of_decide_eq_true eB
     obtain ⟨j5,js,jt,zf,jf,jg,jd,hl88_2,hi88_2⟩:=sD jr.out 0 qw qx
     have hw88_2:=jd
     (try rw [show ((0:Int)).toNat=0 from rfl] at hw88_2)
     (try rw [show 0 * 3=0 from rfl] at hw88_2)
     (try rw [Addr.add_zero'] at hw88_2)
     have hw88_1:=jg
     (try rw [show ((0:Int)).toNat=0 from rfl] at hw88_1)
     (try rw [show 0 * 3=0 from rfl] at hw88_1)
     (try rw [Addr.add_zero'] at hw88_1)
     have hw88_0:=jf
     (try rw [show ((0:Int)).toNat=0 from rfl] at hw88_0)
     (try rw [show 0 * 3=0 from rfl] at hw88_0)
     (try rw [Addr.add_zero'] at hw88_0)
     cases zf
     have zg:(0 < j3.length)=True:=eq_true (by omega)
     (try rw [show ((0:Int)).toNat=0 from rfl] at jf)
     (try rw [show 0 * 3=0 from rfl] at jf)
     (try rw [Addr.add_zero'] at jf)
     (try rw [show ((0:Int)).toNat=0 from rfl] at jg)
     (try rw [show 0 * 3=0 from rfl] at jg)
     (try rw [Addr.add_zero'] at jg)
     (try rw [show ((0:Int)).toNat=0 from rfl] at jd)
     (try rw [show 0 * 3=0 from rfl] at jd)
     (try rw [Addr.add_zero'] at jd)
     replace jf:=(HB.out.cell (World.block_lt_of_cell? w _ jf)).trans jf
     replace jg:=(HB.out.cell (World.block_lt_of_cell? w _ jg)).trans jg
     replace jd:=(HB.out.cell (World.block_lt_of_cell? w _ jd)).trans jd
     have jx:=am hi88_2
     have jF:=am hl88_2
     clear hi88_2 hl88_2
     replace qw:=eq_true qw
     replace qx:=eq_true qx
     have qy:0≤(0:Int):=(by omega)
     have qz:0 < (j3.length:Int):=of_decide_eq_true eB
     obtain ⟨qA,qW,qX,zh,jh,ji,je,hl89_2,hi89_2⟩:=sD jr.out 0 qy qz
     have hw89_2:=je
     (try rw [show ((0:Int)).toNat=0 from rfl] at hw89_2)
     (try rw [show 0 * 3=0 from rfl] at hw89_2)
     (try rw [Addr.add_zero'] at hw89_2)
     have hw89_1:=ji
     (try rw [show ((0:Int)).toNat=0 from rfl] at hw89_1)
     (try rw [show 0 * 3=0 from rfl] at hw89_1)
     (try rw [Addr.add_zero'] at hw89_1)
     have hw89_0:=jh
     (try rw [show ((0:Int)).toNat=0 from rfl] at hw89_0)
     (try rw [show 0 * 3=0 from rfl] at hw89_0)
     (try rw [Addr.add_zero'] at hw89_0)
     obtain rfl:j5=qA:=(by injection zh)
     have zi:(0 < j3.length)=True:=eq_true (by omega)
     (try rw [show ((0:Int)).toNat=0 from rfl] at jh)
     (try rw [show 0 * 3=0 from rfl] at jh)
     (try rw [Addr.add_zero'] at jh)
     (try rw [show ((0:Int)).toNat=0 from rfl] at ji)
     (try rw [show 0 * 3=0 from rfl] at ji)
     (try rw [Addr.add_zero'] at ji)
     (try rw [show ((0:Int)).toNat=0 from rfl] at je)
     (try rw [show 0 * 3=0 from rfl] at je)
     (try rw [Addr.add_zero'] at je)
     replace jh:=(HB.out.cell (World.block_lt_of_cell? w _ jh)).trans jh
     replace ji:=(HB.out.cell (World.block_lt_of_cell? w _ ji)).trans ji
     replace je:=(HB.out.cell (World.block_lt_of_cell? w _ je)).trans je
     have jy:=am hi89_2
     have jG:=am hl89_2
     clear hi89_2 hl89_2
     replace qy:=eq_true qy
     replace qz:=eq_true qz
     have ea_:=Option.some.inj (jd.symm.trans je)
     injection ea_ with ea_ en_ ec_
     subst ea_
     subst ec_
     clear en_
     refine kZ (n:=14) (S:=fun w'=>w'.cell? ⟨jl,0,none⟩=some (.int .i64 j8)∧w'.cell? ⟨jl,1,none⟩=some (.int .i64 jk)∧w'.cell? ⟨jl,2,none⟩=some (.slice (some j5) j3.length jp)∧w'.cell? j5=some (.int .i64 ((bW j3 0).f0))∧w'.cell? ⟨j5.block,j5.off + 1,none⟩=some (.int .i64 ((bW j3 0).f1))∧w'.cell? ⟨j5.block,j5.off + 2,none⟩=some (.slice js ((bW j3 0).f2).length jt)∧w'.cell? j5=some (.int .i64 ((bW j3 0).f0))∧w'.cell? ⟨j5.block,j5.off + 1,none⟩=some (.int .i64 ((bW j3 0).f1))∧w'.cell? ⟨j5.block,j5.off + 2,none⟩=some (.slice js ((bW j3 0).f2).length jt)) (ds:=[]) (bz 14 0) (by kernel_rfl) rfl rfl ⟨(aN j4.out 0).trans rfl,(aN j4.out 1).trans rfl,(aN j4.out 2).trans rfl,((HB.out.cell (World.block_lt_of_cell? w _ hw88_0)).trans hw88_0),((HB.out.cell (World.block_lt_of_cell? w _ hw88_1)).trans hw88_1),((HB.out.cell (World.block_lt_of_cell? w _ hw88_2)).trans hw88_2),((HB.out.cell (World.block_lt_of_cell? w _ hw89_0)).trans hw89_0),((HB.out.cell (World.block_lt_of_cell? w _ hw89_1)).trans hw89_1),((HB.out.cell (World.block_lt_of_cell? w _ hw89_2)).trans hw89_2)⟩ (fun hHeld=>?_);refine iA bM.PN bM.CQ (fun HT_ HW_=>?_)
     generalize ze.drew=zr at j4 HB jx jy jf jg jd jh ji je hHeld ⊢
     refine pr_ 0 22 (bz 14 1) HT_ ?_
     refine pr_ 5 27 (bz 14 33) HT_ ?_
     refine pr_ 10 32 (bz 14 1057) HT_ ?_
     refine SX 1 23 (bz 14 1059) HT_ HW_ hHeld ?_
     refine pr_ 2 24 (bz 14 1063) HT_ ?_
     refine SX 3 25 (bz 14 1071) HT_ HW_ hHeld ?_
     refine SX 6 28 (bz 14 1135) HT_ HW_ hHeld ?_
     refine pr_ 7 29 (bz 14 1263) HT_ ?_
     refine SX 8 30 (bz 14 1519) HT_ HW_ hHeld ?_
     refine gY (i:=4) (N:=some 26) (bz 14 1535) rfl rfl (eG HT_.out (by kernel_rfl)) (by decide) (fun K hK=>?_)
     refine iF Tryz.func74 (by kernel_rfl) rfl #[.agg #[.int .i64 ((bW j3 0).f0), .int .i64 ((bW j3 0).f1), .slice js ((bW j3 0).f2).length jt]] (by rfl) rfl rfl mD ?_
     with_reducible refine (ih k (by omega) ((bW j3 0).f0) ((bW j3 0).f1) _ _ ((bW j3 0).f2) jU _ (aC_ (Kd.aT jx.out HB.out)) jF.out z6.out).mono ?_
     rintro e zs ⟨zt,rfl,ho0,hb⟩
     refine ⟨_,rfl,?_⟩
     have jw:=am (Kd.fG ho0 (aJ oD))
     replace j4:=bbP j4 hb
     replace HB:=am (aA oD hb)
     (try clear hb)
     (try clear hb2)
     (try clear hk)
     (try clear hi)
     (try clear ho0)
     refine hK.out _ _ ⟨(aN j4.out 0).trans rfl,(aN j4.out 1).trans rfl,(aN j4.out 2).trans rfl,((HB.out.cell (World.block_lt_of_cell? w _ hw88_0)).trans hw88_0),((HB.out.cell (World.block_lt_of_cell? w _ hw88_1)).trans hw88_1),((HB.out.cell (World.block_lt_of_cell? w _ hw88_2)).trans hw88_2),((HB.out.cell (World.block_lt_of_cell? w _ hw89_0)).trans hw89_0),((HB.out.cell (World.block_lt_of_cell? w _ hw89_1)).trans hw89_1),((HB.out.cell (World.block_lt_of_cell? w _ hw89_2)).trans hw89_2)⟩ (fun hHeld=>?_)
     clear hK K
     refine eZ (a':=?_) ?_ ?_
     rotate_left
     ·exact ap_ (N:=26)
     refine gY (i:=9) (N:=some 31) (bz 14 2047) rfl rfl (eG HT_.out (by kernel_rfl)) (by decide) (fun K hK=>?_)
     refine iF Tryz.func96 (by kernel_rfl) rfl #[.agg #[.int .i64 ((bW j3 0).f0), .int .i64 ((bW j3 0).f1), .slice js ((bW j3 0).f2).length jt]] (by rfl) rfl rfl mD ?_
     with_reducible refine (mI.calls ((bW j3 0).f0) ((bW j3 0).f1) _ _ ((bW j3 0).f2) qt _ (aC_ (Kd.aT jy.out HB.out)) jG.out z7.out).mono ?_
     rintro e zu ⟨rfl,hb⟩
     refine ⟨_,rfl,?_⟩
     replace jw:=am (Kd.gG (aR_ jw.out) hb)
     replace j4:=bbP j4 hb
     replace HB:=am (aA oD hb)
     (try clear hb)
     (try clear hb2)
     (try clear hk)
     (try clear hi)
     obtain ⟨jH,jI,jZ⟩:=Kd.eY jw.out
     (first|subst jZ|(injection jZ with f1_ f2_ f3_;have f4_:=f1_.symm;have f5_:=f3_.symm;clear f1_ f2_ f3_;subst f4_;subst f5_))
     refine hK.out _ _ ⟨(aN j4.out 0).trans rfl,(aN j4.out 1).trans rfl,(aN j4.out 2).trans rfl,((HB.out.cell (World.block_lt_of_cell? w _ hw88_0)).trans hw88_0),((HB.out.cell (World.block_lt_of_cell? w _ hw88_1)).trans hw88_1),((HB.out.cell (World.block_lt_of_cell? w _ hw88_2)).trans hw88_2),((HB.out.cell (World.block_lt_of_cell? w _ hw89_0)).trans hw89_0),((HB.out.cell (World.block_lt_of_cell? w _ hw89_1)).trans hw89_1),((HB.out.cell (World.block_lt_of_cell? w _ hw89_2)).trans hw89_2)⟩ (fun hHeld=>?_)
     clear hK K
     refine eZ (a':=?_) ?_ ?_
     rotate_left
     ·exact ap_ (N:=31)
     refine pr_ 11 33 (bz 14 4095) HT_ ?_
     refine gY (i:=12) (N:=some 34) (bz 14 8191) rfl rfl (eG HT_.out (by kernel_rfl)) (by decide) (fun K hK=>?_)
     refine iF Tryz.func95 (by kernel_rfl) rfl #[.slice jH jU.length jI, .bool (decide (qt < jR))] (by rfl) rfl rfl mD ?_
     with_reducible refine (mP.calls (fun k_=>some k_=(.slice jH jU.length jI:Value).ownBlock) (.slice jH jU.length jI) jU (decide (qt < jR)) q6 w _ ?side1 ?side2 z8.out).mono ?_
     (case side1=>exact oD)
     (case side2=>exact Kd.lH rfl jw.out)
     rintro e zv ⟨zj,rfl,ho0,hb,hkp⟩
     refine ⟨_,rfl,?_⟩
     replace j4:=am (kL (aG_ j4.out) hkp (fun hs_=>(fun e_=>(Kd.kT jw.out j4.out (by decide)) e_) hs_))
     have jz:=am (Kd.bV (ok':=fun k_=>True) ho0 (fun k_ hk_=>trivial))
     replace HB:=am (hb)
     clear jw
     (try clear hb)
     (try clear hkp)
     (try clear ho0)
     refine hK.out _ _ ⟨(aN j4.out 0).trans rfl,(aN j4.out 1).trans rfl,(aN j4.out 2).trans rfl,((HB.out.cell (World.block_lt_of_cell? w _ hw88_0)).trans hw88_0),((HB.out.cell (World.block_lt_of_cell? w _ hw88_1)).trans hw88_1),((HB.out.cell (World.block_lt_of_cell? w _ hw88_2)).trans hw88_2),((HB.out.cell (World.block_lt_of_cell? w _ hw89_0)).trans hw89_0),((HB.out.cell (World.block_lt_of_cell? w _ hw89_1)).trans hw89_1),((HB.out.cell (World.block_lt_of_cell? w _ hw89_2)).trans hw89_2)⟩ (fun hHeld=>?_)
     clear hK K
     refine eZ (a':=?_) ?_ ?_
     rotate_left
     ·exact ap_ (N:=34)
     refine pr_ 13 4 (bz 14 16383) HT_ ?_
     refine nA (kS HT_.out (by kernel_rfl)) ?_
     obtain ⟨qb,qc,qd,qe,qf,qg⟩:=lU j4.out
     try go_wp2_with (first|((with_reducible refine aD (f:=97) rfl ?_);refine gl_ 38 Tryz.func97 #[.int .i64 j8] ?_;(with_reducible refine (rD.calls j8 q7 _ z9.out).mono ?_);rintro e zw ⟨rfl,hb⟩;refine ⟨_,rfl,?_⟩;replace jz:=am (Kd.gG (aR_ jz.out) hb);replace j4:=bbP j4 hb;replace HB:=am (aA oD hb);(try clear hb))|((with_reducible refine dS (b:= .append) (xs:=#[.tmp 35, .tmp 39]) rfl ?_);at_builtin;refine Kd.kE Kd.string (w0:=w) w.heap.size rfl (.tmp 35) (.tmp 39) 29 9 (.string ⟨#[]⟩) 16 rfl Tryz.underlying29 kJ rfl (by decide) (by omega) zj q6 q7 [.string q7] (fun _=>True) (fun _=>False) rfl rfl ?aP (fun _ hk=>hk.elim) ?aF ?aO ?aB ?aS ?aL ?_;(case aP=>exact rfl);(case aB=>exact oD);(case aF=>exact (fun _ _=>trivial));(case aO=>exact (aR_ jz.out));(case aS=>exact (aJ oD));(case aL=>have:=jV.out;omega);intro qY zk ho hb hg hat;rw [← qu.out] at ho;replace j4:=am (dZ (g:=jl) (o:= .cells #[.int .i64 j8, .int .i64 jk, .slice (some j5) j3.length jp] 56 (0,0)) (aG_ j4.out) hg (Kd.kT jz.out j4.out (by decide)));replace HB:=am (hb);have jj:=am (ho);clear jz ho hb hg hat))
     replace jj:=am (Kd.oC jj.out)
     replace j4:=am (dA j4.out)
     replace HB:=am (bJ HB.out)
     have jJ:0≤(1:Int):=(by omega)
     have jK:1 < (j3.length:Int):=of_decide_eq_true eB
     obtain ⟨q0,jn,jo,qB,j9,ja,j6,hl101_2,hi101_2⟩:=sD jr.out 1 jJ jK
     have hw101_2:=j6
     (try rw [show ((1:Int)).toNat=1 from rfl] at hw101_2)
     (try rw [show 1 * 3=3 from rfl] at hw101_2)
     (try simp only [Nat.reduceMul,Nat.reduceEqDiff,Go.Addr.add,↓reduceIte] at hw101_2)
     have hw101_1:=ja
     (try rw [show ((1:Int)).toNat=1 from rfl] at hw101_1)
     (try rw [show 1 * 3=3 from rfl] at hw101_1)
     (try simp only [Nat.reduceMul,Nat.reduceEqDiff,Go.Addr.add,↓reduceIte] at hw101_1)
     have hw101_0:=j9
     (try rw [show ((1:Int)).toNat=1 from rfl] at hw101_0)
     (try rw [show 1 * 3=3 from rfl] at hw101_0)
     (try simp only [Nat.reduceMul,Nat.reduceEqDiff,Go.Addr.add,↓reduceIte] at hw101_0)
     obtain rfl:j5=q0:=(by injection qB)
     (try simp only [show (1:Int).toNat=1 from rfl,Nat.reduceMul,Nat.reduceEqDiff,Go.Addr.add,↓reduceIte] at j9)
     (try simp only [show (1:Int).toNat=1 from rfl,Nat.reduceMul,Nat.reduceEqDiff,Go.Addr.add,↓reduceIte] at ja)
     (try simp only [show (1:Int).toNat=1 from rfl,Nat.reduceMul,Nat.reduceEqDiff,Go.Addr.add,↓reduceIte] at j6)
     have qZ:(1 < j3.length)=True:=eq_true (by omega)
     (try rw [show ((1:Int)).toNat=1 from rfl] at j9)
     (try rw [show 1 * 3=3 from rfl] at j9)
     (try rw [show ((1:Int)).toNat=1 from rfl] at ja)
     (try rw [show 1 * 3=3 from rfl] at ja)
     (try rw [show ((1:Int)).toNat=1 from rfl] at j6)
     (try rw [show 1 * 3=3 from rfl] at j6)
     replace j9:=(HB.out.cell (World.block_lt_of_cell? w _ j9)).trans j9
     replace ja:=(HB.out.cell (World.block_lt_of_cell? w _ ja)).trans ja
     replace j6:=(HB.out.cell (World.block_lt_of_cell? w _ j6)).trans j6
     have ju:=am hi101_2
     have jB:=am hl101_2
     clear hi101_2 hl101_2
     replace jJ:=eq_true jJ
     replace jK:=eq_true jK
     have jL:0≤(1:Int):=(by omega)
     have jM:1 < (j3.length:Int):=of_decide_eq_true eB
     obtain ⟨q1,qC,qD,qE,jb,jc,j7,hl102_2,hi102_2⟩:=sD jr.out 1 jL jM
     have hw102_2:=j7
     (try rw [show ((1:Int)).toNat=1 from rfl] at hw102_2)
     (try rw [show 1 * 3=3 from rfl] at hw102_2)
     (try simp only [Nat.reduceMul,Nat.reduceEqDiff,Go.Addr.add,↓reduceIte] at hw102_2)
     have hw102_1:=jc
     (try rw [show ((1:Int)).toNat=1 from rfl] at hw102_1)
     (try rw [show 1 * 3=3 from rfl] at hw102_1)
     (try simp only [Nat.reduceMul,Nat.reduceEqDiff,Go.Addr.add,↓reduceIte] at hw102_1)
     have hw102_0:=jb
     (try rw [show ((1:Int)).toNat=1 from rfl] at hw102_0)
     (try rw [show 1 * 3=3 from rfl] at hw102_0)
     (try simp only [Nat.reduceMul,Nat.reduceEqDiff,Go.Addr.add,↓reduceIte] at hw102_0)
     obtain rfl:j5=q1:=(by injection qE)
     (try simp only [show (1:Int).toNat=1 from rfl,Nat.reduceMul,Nat.reduceEqDiff,Go.Addr.add,↓reduceIte] at jb)
     (try simp only [show (1:Int).toNat=1 from rfl,Nat.reduceMul,Nat.reduceEqDiff,Go.Addr.add,↓reduceIte] at jc)
     (try simp only [show (1:Int).toNat=1 from rfl,Nat.reduceMul,Nat.reduceEqDiff,Go.Addr.add,↓reduceIte] at j7)
     have z0:(1 < j3.length)=True:=eq_true (by omega)
     (try rw [show ((1:Int)).toNat=1 from rfl] at jb)
     (try rw [show 1 * 3=3 from rfl] at jb)
     (try rw [show ((1:Int)).toNat=1 from rfl] at jc)
     (try rw [show 1 * 3=3 from rfl] at jc)
     (try rw [show ((1:Int)).toNat=1 from rfl] at j7)
     (try rw [show 1 * 3=3 from rfl] at j7)
     replace jb:=(HB.out.cell (World.block_lt_of_cell? w _ jb)).trans jb
     replace jc:=(HB.out.cell (World.block_lt_of_cell? w _ jc)).trans jc
     replace j7:=(HB.out.cell (World.block_lt_of_cell? w _ j7)).trans j7
     have jv:=am hi102_2
     have jC:=am hl102_2
     clear hi102_2 hl102_2
     replace jL:=eq_true jL
     replace jM:=eq_true jM
     have ea_:=Option.some.inj (j6.symm.trans j7)
     injection ea_ with ea_ en_ ec_
     subst ea_
     subst ec_
     clear en_
     refine kZ (n:=16) (S:=fun w'=>w'.cell? ⟨jl,0,none⟩=some (.int .i64 j8)∧w'.cell? ⟨jl,1,none⟩=some (.int .i64 jk)∧w'.cell? ⟨jl,2,none⟩=some (.slice (some j5) j3.length jp)∧w'.cell? ⟨j5.block,j5.off + 3,none⟩=some (.int .i64 ((bW j3 1).f0))∧w'.cell? ⟨j5.block,j5.off + 3 + 1,none⟩=some (.int .i64 ((bW j3 1).f1))∧w'.cell? ⟨j5.block,j5.off + 3 + 2,none⟩=some (.slice jn ((bW j3 1).f2).length jo)∧w'.cell? ⟨j5.block,j5.off + 3,none⟩=some (.int .i64 ((bW j3 1).f0))∧w'.cell? ⟨j5.block,j5.off + 3 + 1,none⟩=some (.int .i64 ((bW j3 1).f1))∧w'.cell? ⟨j5.block,j5.off + 3 + 2,none⟩=some (.slice jn ((bW j3 1).f2).length jo)) (ds:=[]) (bz 16 0) (by kernel_rfl) rfl rfl ⟨(aN j4.out 0).trans rfl,(aN j4.out 1).trans rfl,(aN j4.out 2).trans rfl,((HB.out.cell (World.block_lt_of_cell? w _ hw101_0)).trans hw101_0),((HB.out.cell (World.block_lt_of_cell? w _ hw101_1)).trans hw101_1),((HB.out.cell (World.block_lt_of_cell? w _ hw101_2)).trans hw101_2),((HB.out.cell (World.block_lt_of_cell? w _ hw102_0)).trans hw102_0),((HB.out.cell (World.block_lt_of_cell? w _ hw102_1)).trans hw102_1),((HB.out.cell (World.block_lt_of_cell? w _ hw102_2)).trans hw102_2)⟩ (fun hHeld=>?_);refine iA bM.aIf bM.aHp (fun HT_ HW_=>?_)
     generalize zk.drew=zx at jj j4 HB ju jv j9 ja j6 jb jc j7 hHeld ⊢
     refine pr_ 0 41 (bz 16 1) HT_ ?_
     refine pr_ 1 42 (bz 16 3) HT_ ?_
     refine pr_ 6 47 (bz 16 67) HT_ ?_
     refine pr_ 11 52 (bz 16 2115) HT_ ?_
     refine SX 2 43 (bz 16 2119) HT_ HW_ hHeld ?_
     refine pr_ 3 44 (bz 16 2127) HT_ ?_
     refine SX 4 45 (bz 16 2143) HT_ HW_ hHeld ?_
     refine SX 7 48 (bz 16 2271) HT_ HW_ hHeld ?_
     refine pr_ 8 49 (bz 16 2527) HT_ ?_
     refine SX 9 50 (bz 16 3039) HT_ HW_ hHeld ?_
     refine gY (i:=5) (N:=some 46) (bz 16 3071) rfl rfl (eG HT_.out (by kernel_rfl)) (by decide) (fun K hK=>?_)
     refine iF Tryz.func74 (by kernel_rfl) rfl #[.agg #[.int .i64 ((bW j3 1).f0), .int .i64 ((bW j3 1).f1), .slice jn ((bW j3 1).f2).length jo]] (by rfl) rfl rfl mD ?_
     with_reducible refine (ih k (by omega) ((bW j3 1).f0) ((bW j3 1).f1) _ _ ((bW j3 1).f2) jE _ (aC_ (Kd.aT ju.out HB.out)) jB.out za.out).mono ?_
     rintro e zy ⟨zl,rfl,ho0,hb⟩
     refine ⟨_,rfl,?_⟩
     have jm:=am (Kd.fG (Kd.lT ho0 (Kd.iN (aR_ jj.out))) (aJ oD))
     replace jj:=am (Kd.iL (aR_ jj.out) (Kd.iU ho0) hb)
     replace j4:=bbP j4 hb
     replace HB:=am (aA oD hb)
     (try clear hb)
     (try clear hb2)
     (try clear hk)
     (try clear hi)
     (try clear ho0)
     refine hK.out _ _ ⟨(aN j4.out 0).trans rfl,(aN j4.out 1).trans rfl,(aN j4.out 2).trans rfl,((HB.out.cell (World.block_lt_of_cell? w _ hw101_0)).trans hw101_0),((HB.out.cell (World.block_lt_of_cell? w _ hw101_1)).trans hw101_1),((HB.out.cell (World.block_lt_of_cell? w _ hw101_2)).trans hw101_2),((HB.out.cell (World.block_lt_of_cell? w _ hw102_0)).trans hw102_0),((HB.out.cell (World.block_lt_of_cell? w _ hw102_1)).trans hw102_1),((HB.out.cell (World.block_lt_of_cell? w _ hw102_2)).trans hw102_2)⟩ (fun hHeld=>?_)
     clear hK K
     refine eZ (a':=?_) ?_ ?_
     rotate_left
     ·exact ap_ (N:=46)
     refine gY (i:=10) (N:=some 51) (bz 16 4095) rfl rfl (eG HT_.out (by kernel_rfl)) (by decide) (fun K hK=>?_)
     refine iF Tryz.func96 (by kernel_rfl) rfl #[.agg #[.int .i64 ((bW j3 1).f0), .int .i64 ((bW j3 1).f1), .slice jn ((bW j3 1).f2).length jo]] (by rfl) rfl rfl mD ?_
     with_reducible refine (mI.calls ((bW j3 1).f0) ((bW j3 1).f1) _ _ ((bW j3 1).f2) jX _ (aC_ (Kd.aT jv.out HB.out)) jC.out zb.out).mono ?_
     rintro e zz ⟨rfl,hb⟩
     refine ⟨_,rfl,?_⟩
     replace jj:=am (Kd.gG (aR_ jj.out) hb)
     replace jm:=am (Kd.gG (aR_ jm.out) hb)
     replace j4:=bbP j4 hb
     replace HB:=am (aA oD hb)
     (try clear hb)
     (try clear hb2)
     (try clear hk)
     (try clear hi)
     obtain ⟨jN,jO,q2⟩:=Kd.eY jm.out
     (first|subst q2|(injection q2 with f1_ f2_ f3_;have f4_:=f1_.symm;have f5_:=f3_.symm;clear f1_ f2_ f3_;subst f4_;subst f5_))
     refine hK.out _ _ ⟨(aN j4.out 0).trans rfl,(aN j4.out 1).trans rfl,(aN j4.out 2).trans rfl,((HB.out.cell (World.block_lt_of_cell? w _ hw101_0)).trans hw101_0),((HB.out.cell (World.block_lt_of_cell? w _ hw101_1)).trans hw101_1),((HB.out.cell (World.block_lt_of_cell? w _ hw101_2)).trans hw101_2),((HB.out.cell (World.block_lt_of_cell? w _ hw102_0)).trans hw102_0),((HB.out.cell (World.block_lt_of_cell? w _ hw102_1)).trans hw102_1),((HB.out.cell (World.block_lt_of_cell? w _ hw102_2)).trans hw102_2)⟩ (fun hHeld=>?_)
     clear hK K
     refine eZ (a':=?_) ?_ ?_
     rotate_left
     ·exact ap_ (N:=51)
     refine pr_ 12 53 (bz 16 8191) HT_ ?_
     refine gY (i:=13) (N:=some 54) (bz 16 16383) rfl rfl (eG HT_.out (by kernel_rfl)) (by decide) (fun K hK=>?_)
     refine iF Tryz.func95 (by kernel_rfl) rfl #[.slice jN jE.length jO, .bool (decide (jX≤jR))] (by rfl) rfl rfl mD ?_
     with_reducible refine (mP.calls (fun k_=>some k_=(.slice jN jE.length jO:Value).ownBlock) (.slice jN jE.length jO) jE (decide (jX≤jR)) jD w _ ?side1 ?side2 zc.out).mono ?_
     (case side1=>exact oD)
     (case side2=>exact Kd.lH rfl jm.out)
     rintro e zA ⟨qF,rfl,ho0,hb,hkp⟩
     refine ⟨_,rfl,?_⟩
     replace j4:=am (kL (aG_ j4.out) hkp (fun hs_=>(fun e_=>(Kd.kT jm.out j4.out (by decide)) e_) hs_))
     have jq:=am (Kd.bV (ok':=fun k_=>some k_≠(qY:Value).ownBlock) ho0 (fun k_ hk_=>Or.elim hk_ (fun hs_=>fun e_=>(((jj.out).1 k_ e_.symm).2) hs_) (fun hn_=>(Kd.fresh' (Kd.iN (aR_ jj.out)) k_ hn_))))
     replace jj:=am (Kd.bV (ok':=fun k_=>some k_≠(qF:Value).ownBlock) (Kd.OJ (jj.out) hkp (fun k_ hk_ hs_=>(hk_.2) hs_)) (fun k_ hk_=>fun e_=>Or.elim (ho0.1 k_ e_.symm) (fun hs_=>hk_.2.1 hs_) (fun hn_=>Nat.not_le.2 hk_.2.2 hn_)))
     replace HB:=am (hb)
     clear jm
     (try clear hb)
     (try clear hkp)
     (try clear ho0)
     obtain ⟨qG,qH,q3⟩:=Kd.eY jq.out
     (first|subst q3|(injection q3 with f1_ f2_ f3_;have f4_:=f1_.symm;have f5_:=f3_.symm;clear f1_ f2_ f3_;subst f4_;subst f5_))
     refine hK.out _ _ ⟨(aN j4.out 0).trans rfl,(aN j4.out 1).trans rfl,(aN j4.out 2).trans rfl,((HB.out.cell (World.block_lt_of_cell? w _ hw101_0)).trans hw101_0),((HB.out.cell (World.block_lt_of_cell? w _ hw101_1)).trans hw101_1),((HB.out.cell (World.block_lt_of_cell? w _ hw101_2)).trans hw101_2),((HB.out.cell (World.block_lt_of_cell? w _ hw102_0)).trans hw102_0),((HB.out.cell (World.block_lt_of_cell? w _ hw102_1)).trans hw102_1),((HB.out.cell (World.block_lt_of_cell? w _ hw102_2)).trans hw102_2)⟩ (fun hHeld=>?_)
     clear hK K
     refine eZ (a':=?_) ?_ ?_
     rotate_left
     ·exact ap_ (N:=54)
     refine gY (i:=14) (N:=some 55) (bz 16 32767) rfl rfl (eG HT_.out (by kernel_rfl)) (by decide) (fun K hK=>?_)
     refine Kd.mQ Kd.string (w0:=w) w.heap.size (by rfl) (.tmp 41) (.tmp 54) 29 9 (.string ⟨#[]⟩) 16 rfl Tryz.underlying29 kJ rfl (by decide) (by omega) qY jW jD _ _ _ (fun k_=>some k_≠(.slice qG jD.length qH:Value).ownBlock) (fun _=>False) rfl rfl ?aO ?aR (fun _ _ h=>h) (fun _ h=>h.elim) ?aF ?aB ?aS ?aL ?_
     (case aR=>repeat (first|exact (Kd.eH jq.out).2.2|(with_reducible refine Kd.iY ?_ _)|(with_reducible refine Kd.iR ?_ _)|(with_reducible refine Kd.kW ?_)))
     (case aB=>exact oD)
     (case aF=>exact (fun k_ hk=>Kd.fresh' (Kd.iN (aR_ jq.out)) k_ hk))
     (case aO=>exact (aR_ jj.out))
     (case aS=>exact (aJ oD))
     (case aL=>have:=jY.out;omega)
     intro zm zB ho hb hg hat
     rw [← qv.out] at ho
     replace j4:=am (dZ (g:=jl) (o:= .cells #[.int .i64 j8, .int .i64 jk, .slice (some j5) j3.length jp] 56 (0,0)) (aG_ j4.out) hg (Kd.kT jj.out j4.out (by decide)))
     replace jq:=am (Kd.iM (ok:=(fun _=>True)) (gH (Kd.bV jq.out (fun _ hk=>⟨trivial,hk⟩))) hg hat)
     replace HB:=am (hb)
     have q4:=am (ho)
     clear jj
     clear ho hb hg hat
     refine hK.out _ _ ⟨(aN j4.out 0).trans rfl,(aN j4.out 1).trans rfl,(aN j4.out 2).trans rfl,((HB.out.cell (World.block_lt_of_cell? w _ hw101_0)).trans hw101_0),((HB.out.cell (World.block_lt_of_cell? w _ hw101_1)).trans hw101_1),((HB.out.cell (World.block_lt_of_cell? w _ hw101_2)).trans hw101_2),((HB.out.cell (World.block_lt_of_cell? w _ hw102_0)).trans hw102_0),((HB.out.cell (World.block_lt_of_cell? w _ hw102_1)).trans hw102_1),((HB.out.cell (World.block_lt_of_cell? w _ hw102_2)).trans hw102_2)⟩ (fun hHeld=>?_)
     clear hK K
     refine eZ (a':=?_) ?_ ?_
     rotate_left
     ·exact ap_ (N:=55)
     refine pr_ 15 2 (bz 16 65535) HT_ ?_
     refine nA (kS HT_.out (by kernel_rfl)) ?_
     try go_wp2
     go_ret
     exact ⟨_,gN,gH (Kd.bV q4.out (fun _ hk=>trivial)),oD⟩
    rw [if_neg qa] at H
    exact absurd H (by simp)
   rw [if_neg q9] at H
   exact absurd H (by simp)
  rw [if_neg q8] at H
  exact absurd H (by simp)
 rw [if_neg q5] at H
 exact absurd H (by simp)
theorem gB.mono:∀ a0 a1 a2 a3 k,LeO (gB.f k a0 a1 a2 a3) (gB.f (k + 1) a0 a1 a2 a3):=by
 intro a0 a1 a2 a3 k
 unfold gB.f
 have m0:=@bM.mono
 exact mo_
theorem gB.calls (k:Nat) (P0_:Nat→Prop) (ja:Value) (l0:List ByteArray) (j6:Int) (j7:Int) (j8:Option Addr) (j9:Nat) (j3:List (S56)) (r:List ByteArray) (w0 w:World) (hB:Below w0.heap.size w0 w) (ho0:Kd.R Kd.string 9 w w0.heap.size P0_ ja l0) (hr1_2:∀ W_,Kept w W_ (fun k_=>P0_ k_)→Kd.C k56 W_ j8 j3.length j3) (hc1_2:j3.length≤j9) (h:gB.f k l0 j6 j7 j3=some r):
  Calls Tryz.prog 72 #[ja, .agg #[.int .i64 j6, .int .i64 j7, .slice j8 j3.length j9]] w fun e w'=>∃ v0_:Value,e= .returned (v0_)∧Kd.R Kd.string 9 w' w0.heap.size (fun k_=>(P0_ k_∨w.heap.size≤k_)) v0_ r∧Below w0.heap.size w0 w'∧Kept w w' (fun k_=>P0_ k_):=by
 have hu56:=Tryz.underlying56
 have jb:=am (show Kd.R Kd.string 9 w w0.heap.size (fun k_=>(P0_ k_∨w.heap.size≤k_)) ja l0 from Kd.bV ho0 (fun k_ hk=>(.inl hk)))
 have jf:=am hr1_2
 have jg:=am hc1_2
 clear hr1_2 hc1_2
 have HK:=am (Kept.refl w (fun k_=>P0_ k_))
 have HW0:=am hB.size
 have HB:=am hB
 clear hB
 unfold gB.f at h
 have H:=h
 clear h
 obtain ⟨je,A3,H⟩:=bsa H
 (try dsimp only at H)
 by_cases c4:l0.length + je.length < 8796093022208
 ·rw [if_pos c4] at H
  have jk:=am c4
  clear c4
  obtain ⟨jh,hy_⟩:∃ y_:List ByteArray,y_=(l0 ++ je):=⟨_,rfl⟩
  replace H:(if jh.length < 8796093022208 then (some (jh ++ [(⟨#[59]⟩:ByteArray)])) else (none))=some r:=rx_
  have jl:=am hy_
  clear hy_
  by_cases c5:jh.length < 8796093022208
  ·rw [if_pos c5] at H
   have jm:=am c5
   clear c5
   obtain ⟨jw,hy_⟩:∃ y_:List ByteArray,y_=(jh ++ [(⟨#[59]⟩:ByteArray)]):=⟨_,rfl⟩
   replace H:(some jw)=some r:=rx_
   have jn:=am hy_
   clear hy_
   obtain rfl:=Option.some.inj H
   go_enter Tryz.func72,Tryz.ntmps72
   go_wp2_with (first|((with_reducible refine cK (N:=3) rfl ?_);refine eO rfl (N:=3) rfl (cs:=#[.int .i64 j6, .int .i64 j7, .slice j8 j3.length j9]) (t:=56) rn_ ?_;intro jc hg w6 hbox hb;replace jb:=am (Kd.gG (aR_ jb.out) hb);have j4:=am (hbox);have GW24:=am ((by rw [hg];exact (by first|exact HK.out.1|exact (show Kept w _ (fun k_=>P0_ k_) from nE).1):w.heap.size≤jc));replace HK:=am (Kept.below (S:=(fun k_=>P0_ k_)) nE hb);have GE24:=am ((by rw [hg];exact (aJ dU):w0.heap.size≤jc));replace HB:=am (aA dU hb);clear hb hbox hg;obtain ⟨jo,jp,jq,jr,js,jt⟩:=lU j4.out)|((with_reducible refine aD (f:=74) rfl ?_);refine gl_ 8 Tryz.func74 #[.agg #[.int .i64 j6, .int .i64 j7, .slice j8 j3.length j9]] ?_;(with_reducible refine (bM.calls k j6 j7 _ _ j3 je _ ?side1 jg.out A3.out).mono ?_);(case side1=>exact Kd.wD jf.out FM);rintro e w8 ⟨jy,rfl,ho0,hb⟩;refine ⟨_,rfl,?_⟩;have j5:=am (Kd.fG (Kd.lT (Kd.vO (M:=fun k_=>(P0_ k_∨w.heap.size≤k_)) ho0 (by first|exact HK.out.1|exact (show Kept w _ (fun k_=>P0_ k_) from FM).1) (fun k_ h_=> .inr h_)) (Kd.iN (aR_ jb.out))) (aJ KF));replace jb:=am (Kd.iL (aR_ jb.out) (Kd.iU ho0) hb);replace j4:=bbP j4 hb;replace HK:=am (Kept.below (S:=(fun k_=>P0_ k_)) FM hb);replace HB:=am (aA KF hb);(try clear hb);(try clear ho0);obtain ⟨ji,jj,ju⟩:=Kd.eY j5.out;subst ju)|((with_reducible refine dS (b:= .append) (xs:=#[.tmp 6, .tmp 8]) rfl ?_);at_builtin;refine Kd.iI Kd.string (w0:=w0) w0.heap.size rfl (.tmp 6) (.tmp 8) 29 9 (.string ⟨#[]⟩) 16 rfl Tryz.underlying29 kJ rfl (by decide) (by omega) ja l0 je _ _ _ (fun k_=>(P0_ k_∨w.heap.size≤k_)∧some k_≠(.slice ji je.length jj:Value).ownBlock) (fun _=>False) rfl rfl ?aO ?aR (fun _ _ h=>h) (fun _ h=>h.elim) ?aF ?aB ?aS ?aL ?_;(case aR=>repeat (first|exact (Kd.eH j5.out).2.2|(with_reducible refine Kd.iY ?_ _)|(with_reducible refine Kd.iR ?_ _)|(with_reducible refine Kd.kW ?_)));(case aB=>exact KF);(case aF=>exact (fun k_ hk=>⟨(.inr (Nat.le_trans (by first|exact HK.out.1|exact (show Kept w _ (fun k_=>P0_ k_) from FM).1) hk)),Kd.fresh' (Kd.iN (aR_ j5.out)) k_ hk⟩));(case aO=>exact (aR_ jb.out));(case aS=>exact (aJ KF));(case aL=>have:=jk.out;omega);intro jx w9 ho hb hg hat;rw [← jl.out] at ho;replace j4:=am (dZ (g:=jc) (o:= .cells #[.int .i64 j6, .int .i64 j7, .slice j8 j3.length j9] 56 (0,0)) (aG_ j4.out) hg (Kd.kT jb.out j4.out (by decide)));replace j5:=am (Kd.iM (ok:=(fun k_=>(P0_ k_∨w.heap.size≤k_))) (gH (Kd.bV j5.out (fun _ hk=>⟨hk.1.1,hk.2⟩))) hg hat);replace HB:=am (hb);replace HK:=am (Kept.fV (S:=(fun k_=>P0_ k_)) hg FM (fun k_ e_=>(jb.out.1 k_ e_).1));have jd:=am (ho);clear jb ho hb hg hat)|((with_reducible refine dS (b:= .append) (xs:=#[.tmp 10, .tmp 11]) rfl ?_);at_builtin;refine Kd.kE Kd.string (w0:=w0) w0.heap.size rfl (.tmp 10) (.tmp 11) 29 9 (.string ⟨#[]⟩) 16 rfl Tryz.underlying29 kJ rfl (by decide) (by omega) jx jh (⟨#[59]⟩:ByteArray) [.string (⟨#[59]⟩:ByteArray)] (fun k_=>(P0_ k_∨w.heap.size≤k_)∧some k_≠(.slice ji je.length jj:Value).ownBlock) (fun _=>False) rfl rfl ?aP (fun _ hk=>hk.elim) ?aF ?aO ?aB ?aS ?aL ?_;(case aP=>exact rfl);(case aB=>exact KF);(case aF=>exact (fun k_ hk=>⟨(.inr (Nat.le_trans (by first|exact HK.out.1|exact (show Kept w _ (fun k_=>P0_ k_) from FM).1) hk)),Kd.fresh' (Kd.iN (aR_ j5.out)) k_ hk⟩));(case aO=>exact (aR_ jd.out));(case aS=>exact (aJ KF));(case aL=>have:=jm.out;omega);intro jz jA ho hb hg hat;rw [← jn.out] at ho;replace j4:=am (dZ (g:=jc) (o:= .cells #[.int .i64 j6, .int .i64 j7, .slice j8 j3.length j9] 56 (0,0)) (aG_ j4.out) hg (Kd.kT jd.out j4.out (by decide)));replace j5:=am (Kd.iM (ok:=(fun k_=>(P0_ k_∨w.heap.size≤k_))) (aR_ j5.out) hg hat);replace HB:=am (hb);replace HK:=am (Kept.fV (S:=(fun k_=>P0_ k_)) hg FM (fun k_ e_=>(jd.out.1 k_ e_).1));have jv:=am (ho);clear jd ho hb hg hat))
   go_ret
   exact ⟨_,gN,gH (Kd.bV jv.out (fun _ hk=>hk.1)),KF,FM⟩
  rw [if_neg c5] at H
  exact absurd H (by simp)
 rw [if_neg c4] at H
 exact absurd H (by simp)
theorem bP.mono_all:∀ k,(∀ y0 y1 y2 y3 y4 y5 y6 y7,LeO (bP.f k y0 y1 y2 y3 y4 y5 y6 y7) (bP.f (k + 1) y0 y1 y2 y3 y4 y5 y6 y7))∧(∀ y0,LeO (bL.f k y0) (bL.f (k + 1) y0))∧(∀ y0 y1 y2,LeO (bL.l0 k y0 y1 y2) (bL.l0 (k + 1) y0 y1 y2))
 |0=>⟨fun _ _ _ _ _ _ _ _ r h=>by simp [bP.f] at h,fun _ r h=>by simp [bL.f] at h,fun _ _ _ r h=>by simp [bL.l0] at h⟩
 |k + 1=>by
  obtain ⟨ih0,ih1,ih2⟩:=bP.mono_all k
  refine ⟨?_,?_,?_⟩
  ·intro y0 y1 y2 y3 y4 y5 y6 y7
   unfold bP.f
   have m0:=@gB.mono
   have m1:=@bM.mono
   have m2:=@dX.mono
   exact mo_
  ·intro y0
   unfold bL.f
   have m0:=@gB.mono
   have m1:=@bM.mono
   have m2:=@dX.mono
   exact mo_
  ·intro y0 y1 y2
   unfold bL.l0
   have m0:=@gB.mono
   have m1:=@bM.mono
   have m2:=@dX.mono
   exact mo_
theorem bP.mono:∀ a0 a1 a2 a3 a4 a5 a6 a7 k,LeO (bP.f k a0 a1 a2 a3 a4 a5 a6 a7) (bP.f (k + 1) a0 a1 a2 a3 a4 a5 a6 a7):=by
 intro a0 a1 a2 a3 a4 a5 a6 a7 k
 obtain ⟨ih0,ih1,ih2⟩:=bP.mono_all k
 exact ih0 a0 a1 a2 a3 a4 a5 a6 a7
theorem bL.mono:∀ a0 k,LeO (bL.f k a0) (bL.f (k + 1) a0):=by
 intro a0 k
 obtain ⟨ih0,ih1,ih2⟩:=bP.mono_all k
 exact ih1 a0
abbrev bP.dJ (k:Nat):Prop:=∀ (a0_0:Int) (a0_1:Int) (a0_2:Int) (a0_3:Int) (a0_4:Int) (A0_5:Option Addr) (c0_5:Nat) (l0_5:List (S56)) (A0_6:Option Addr) (c0_6:Nat) (l0_6:List (S58)) (A0_7:Option Addr) (c0_7:Nat) (l0_7:List (S58)) (r:List ByteArray) (w:World) (hr0_5:Kd.C k56 w A0_5 l0_5.length l0_5) (hc0_5:l0_5.length≤c0_5) (hr0_6:Kd.C k58 w A0_6 l0_6.length l0_6) (hc0_6:l0_6.length≤c0_6) (hr0_7:Kd.C k58 w A0_7 l0_7.length l0_7) (hc0_7:l0_7.length≤c0_7) (h:bP.f k a0_0 a0_1 a0_2 a0_3 a0_4 l0_5 l0_6 l0_7=some r),
  Calls Tryz.prog 49 #[.agg #[.int .i64 a0_0, .int .i64 a0_1, .int .i64 a0_2, .int .i64 a0_3, .int .i64 a0_4, .slice A0_5 l0_5.length c0_5, .slice A0_6 l0_6.length c0_6, .slice A0_7 l0_7.length c0_7]] w fun e w'=>∃ v0_:Value,e= .returned (v0_)∧Kd.R Kd.string 9 w' w.heap.size (fun _=>True) v0_ r∧Below w.heap.size w w'
abbrev bL.dJ (k:Nat):Prop:=∀ (A0:Option Addr) (c0:Nat) (l0:List (S58)) (r:List ByteArray) (w:World) (hr0:Kd.C k58 w A0 l0.length l0) (hc0:l0.length≤c0) (h:bL.f k l0=some r),
  Calls Tryz.prog 25 #[.slice A0 l0.length c0] w fun e w'=>∃ v0_:Value,e= .returned (v0_)∧Kd.R Kd.string 9 w' w.heap.size (fun _=>True) v0_ r∧Below w.heap.size w w'
def bP.T3:Bool × List (List Nat × List Nat):=(true,[([],[]),([0],[0]),([1],[1]),([2],[2]),([],[]),([4],[4]),([3,5,2],[3,5]),([6,6,0,1,2,3,4,5,6],[6])])
def bP.B3:List Nat:=[0,1,3,7,0,16,63,127]
theorem bP.aEc:lV .any (opsOf Tryz.f49 3)=bP.T3:=by kernel_rfl
theorem bP.PZ:iP bP.T3.2 bP.B3=true:=by kernel_rfl
def bP.T5:Bool × List (List Nat × List Nat):=(true,[([],[]),([0],[0]),([1],[1]),([2],[2]),([],[]),([4],[4]),([3,5,2],[3,5]),([6,6,0,1,2,3,4,5,6],[6])])
def bP.B5:List Nat:=[0,1,3,7,0,16,63,127]
theorem bP.SS:lV .any (opsOf Tryz.f49 5)=bP.T5:=by kernel_rfl
theorem bP.FN:iP bP.T5.2 bP.B5=true:=by kernel_rfl
def bP.T9:Bool × List (List Nat × List Nat):=(true,[([],[]),([0],[0]),([1],[1]),([],[]),([3],[3]),([4,2],[4]),([2,5],[2,5]),([6,5,0,1,2,3,4,5,6],[6])])
def bP.B9:List Nat:=[0,1,3,0,8,31,63,127]
theorem bP.aIg:lV .any (opsOf Tryz.f49 9)=bP.T9:=by kernel_rfl
theorem bP.aHq:iP bP.T9.2 bP.B9=true:=by kernel_rfl
theorem bP.step (k:Nat) (ih_spec_l13Stmt:∀ m,m < k→bP.dJ m) (ih_spec_l13Block:∀ m,m < k→bL.dJ m):bP.dJ k:=by
 intro j6 jl jm j8 j9 ji jj ja jn jo jc jr js jb r w hr0_5 hc0_5 hr0_6 hc0_6 hr0_7 hc0_7 h
 cases k with
 |zero=>exact absurd h (by simp [bP.f])
 |succ k=>
 simp only [bP.f] at h
 have hu58:=Tryz.underlying58
 have hu56:=Tryz.underlying56
 have jv:=am hr0_5
 have jw:=am hc0_5
 clear hr0_5 hc0_5
 have jQ:=am hr0_6
 have jR:=am hc0_6
 clear hr0_6 hc0_6
 have qs:=am hr0_7
 have qt:=am hc0_7
 clear hr0_7 hc0_7
 have HB:=am (Below.refl w.heap.size w)
 have H:=h
 clear h
 have HH_:=am H
 clear H
 go_enter Tryz.func49,Tryz.ntmps49
 go_upto_region 1 with (first|((with_reducible refine cK (N:=1) rfl ?_);refine eO rfl (N:=1) rfl (cs:=#[.int .i64 j6, .int .i64 jl, .int .i64 jm, .int .i64 j8, .int .i64 j9, .slice ji ja.length jj, .slice jn jc.length jo, .slice jr jb.length js]) (t:=58) rn_ ?_;intro j4 hg w5 hbox hb;have j3:=am (hbox);have Zv:=am ((by rw [hg];exact (aJ dU):w.heap.size≤j4));have GE129:=am ((by rw [hg];exact (aJ dU):w.heap.size≤j4));replace HB:=am (aA dU hb);clear hb hbox hg;obtain ⟨QU,QV,QW,QX,QY,QZ,Z0,Z1,Z2,Z3,Z4,Z5,Z6,Z7,Z8,Z9⟩:=fH j3.out))
 have H:=HH_.out
 clear HH_
 by_cases c2:j6=1
 ·rw [if_pos c2] at H
  have Za:(j6 == 1)=true:=beq_iff_eq.mpr c2
  have Zb:(j6 != 1)=false:=bne_eq_false_iff_eq.mpr c2
  clear c2
  obtain ⟨qq,A3,H⟩:=bsa H
  (try dsimp only at H)
  obtain ⟨jS,hy_⟩:∃ y_:List ByteArray,y_=(([qq,(⟨#[61]⟩:ByteArray)]:List ByteArray)):=⟨_,rfl⟩
  replace H:((gB.f k jS j8 j9 ja).bind fun Zc=>(some Zc))=some r:=rx_
  have jY:=am hy_
  clear hy_
  obtain ⟨Zc,A4,H⟩:=bsa H
  (try dsimp only at H)
  obtain rfl:=Option.some.inj H
  try go_wp2
  replace j3:=am (dA j3.out)
  replace HB:=am (bJ HB.out)
  refine kZ (n:=8) (S:=fun w'=>w'.cell? ⟨j4,0,none⟩=some (.int .i64 j6)∧w'.cell? ⟨j4,1,none⟩=some (.int .i64 jl)∧w'.cell? ⟨j4,2,none⟩=some (.int .i64 jm)∧w'.cell? ⟨j4,3,none⟩=some (.int .i64 j8)∧w'.cell? ⟨j4,4,none⟩=some (.int .i64 j9)∧w'.cell? ⟨j4,5,none⟩=some (.slice ji ja.length jj)∧w'.cell? ⟨j4,6,none⟩=some (.slice jn jc.length jo)∧w'.cell? ⟨j4,7,none⟩=some (.slice jr jb.length js)) (ds:=[]) (bz 8 0) (by kernel_rfl) rfl rfl (mE j3.out) (fun hHeld=>?_);refine iA bP.aEc bP.PZ (fun HT_ HW_=>?_)
  generalize w5.drew=w7 at j3 HB hHeld ⊢
  refine pr_ 0 9 (bz 8 1) HT_ ?_
  refine pr_ 4 13 (bz 8 17) HT_ ?_
  refine xC 1 10 (bz 8 19) HT_ HW_ hHeld ?_
  refine xC 5 14 (bz 8 51) HT_ HW_ hHeld ?_
  refine gY (i:=2) (N:=some 11) (bz 8 55) rfl rfl (eG HT_.out (by kernel_rfl)) (by decide) (fun K hK=>?_)
  refine iF Tryz.func73 (by kernel_rfl) rfl #[.int .i64 jl] (by rfl) rfl rfl mD ?_
  with_reducible refine (mO.calls jl qq _ A3.out).mono ?_
  rintro e w8 ⟨rfl,hb⟩
  refine ⟨_,rfl,?_⟩
  replace j3:=bbP j3 hb
  replace HB:=am (aA kM hb)
  (try clear hb)
  (try clear hb2)
  (try clear hk)
  (try clear hi)
  refine hK.out _ _ (mE j3.out) (fun hHeld=>?_)
  clear hK K
  refine eZ (a':=?_) ?_ ?_
  rotate_left
  ·exact ap_ (N:=11)
  refine gY (i:=3) (N:=some 12) (bz 8 63) rfl rfl (eG HT_.out (by kernel_rfl)) (by decide) (fun K hK=>?_)
  refine Kd.mR Kd.string _ 9 rfl (N:=12) rfl (xs:=([qq,(⟨#[61]⟩:ByteArray)]:List ByteArray)) (inner:=[.string qq, .string (⟨#[61]⟩:ByteArray)]) (ok:=fun _=>True) (okp:=fun _=>True) rn_ ?hp (fun _ hk=>hk) trivial (Below.refl _ _) (Nat.le_refl _) (by simp) ?_;(case hp=>exact (dF.one (show Kd.M Kd.string _ _ _ qq [.string qq] from rfl) (dF.one (show Kd.M Kd.string _ _ _ (⟨#[61]⟩:ByteArray) [.string (⟨#[61]⟩:ByteArray)] from rfl) (dF.none _ _))))
  intro Zz w9 ho10 hb hg_ hnew_
  clear hg_ hnew_
  (first|rw [← jY.out] at ho10|(simp only [Int.reduceToNat] at ho10;rw [← jY.out] at ho10))
  have jB:=am (Kd.fG ho10 (aJ kM))
  replace j3:=bbP j3 hb
  replace HB:=am (aA kM hb)
  clear hb ho10
  obtain ⟨q9,qa,qu⟩:=Kd.eY jB.out
  (first|subst qu|(injection qu with f1_ f2_ f3_;have f4_:=f1_.symm;have f5_:=f3_.symm;clear f1_ f2_ f3_;subst f4_;subst f5_))
  refine hK.out _ _ (mE j3.out) (fun hHeld=>?_)
  clear hK K
  refine eZ (a':=?_) ?_ ?_
  rotate_left
  ·exact ap_ (N:=12)
  refine gY (i:=6) (N:=some 15) (bz 8 127) rfl rfl (eG HT_.out (by kernel_rfl)) (by decide) (fun K hK=>?_)
  refine iF Tryz.func72 (by kernel_rfl) rfl #[.slice q9 jS.length qa, .agg #[.int .i64 j8, .int .i64 j9, .slice ji ja.length jj]] (by rfl) rfl rfl mD ?_
  with_reducible refine (gB.calls k (fun k_=>some k_=(.slice q9 jS.length qa:Value).ownBlock) (.slice q9 jS.length qa) jS j8 j9 _ _ ja Zc w _ ?side1 ?side2 ?side3 jw.out A4.out).mono ?_
  (case side1=>exact kM)
  (case side2=>exact Kd.lH rfl jB.out)
  (case side3=>exact Kd.uZ DF jv.out kM (fun k_ hs_=>(fun e_=>Kd.iU jB.out k_ e_.symm) hs_))
  rintro e ZW ⟨ZA,rfl,ho0,hb,hkp⟩
  refine ⟨_,rfl,?_⟩
  replace j3:=am (kL (aG_ j3.out) hkp (fun hs_=>(fun e_=>(Kd.kT jB.out j3.out (by decide)) e_) hs_))
  have qv:=am (Kd.bV (ok':=fun k_=>True) ho0 (fun k_ hk_=>trivial))
  replace HB:=am (hb)
  clear jB
  (try clear hb)
  (try clear hkp)
  (try clear ho0)
  refine hK.out _ _ (mE j3.out) (fun hHeld=>?_)
  clear hK K
  refine eZ (a':=?_) ?_ ?_
  rotate_left
  ·exact ap_ (N:=15)
  refine pr_ 7 2 (bz 8 255) HT_ ?_
  refine nA (kS HT_.out (by kernel_rfl)) ?_
  try go_wp2
  go_ret
  exact ⟨_,gN,gH qv.out,kM⟩
 rw [if_neg c2] at H
 have Za:(j6 == 1)=false:=beq_eq_false_iff_ne.mpr c2
 have Zb:(j6 != 1)=true:=bne_iff_ne.mpr c2
 by_cases qb:j6=4
 ·rw [if_pos qb] at H
  have qw:(j6 == 4)=true:=beq_iff_eq.mpr qb
  have qx:(j6 != 4)=false:=bne_eq_false_iff_eq.mpr qb
  clear qb
  obtain ⟨qr,qy,H⟩:=bsm H
  (try dsimp only at H)
  have ZB:=am qy
  clear qy
  obtain ⟨jT,hy_⟩:∃ y_:List ByteArray,y_=(([(⟨#[115,101,110,100]⟩:ByteArray),qr]:List ByteArray)):=⟨_,rfl⟩
  replace H:((gB.f k jT j8 j9 ja).bind fun Zd=>(some Zd))=some r:=rx_
  have jZ:=am hy_
  clear hy_
  obtain ⟨Zd,qz,H⟩:=bsm H
  (try dsimp only at H)
  have ZC:=am qz
  clear qz
  obtain rfl:=Option.some.inj H
  try go_wp2
  replace j3:=am (dA j3.out)
  replace HB:=am (bJ HB.out)
  refine kZ (n:=8) (S:=fun w'=>w'.cell? ⟨j4,0,none⟩=some (.int .i64 j6)∧w'.cell? ⟨j4,1,none⟩=some (.int .i64 jl)∧w'.cell? ⟨j4,2,none⟩=some (.int .i64 jm)∧w'.cell? ⟨j4,3,none⟩=some (.int .i64 j8)∧w'.cell? ⟨j4,4,none⟩=some (.int .i64 j9)∧w'.cell? ⟨j4,5,none⟩=some (.slice ji ja.length jj)∧w'.cell? ⟨j4,6,none⟩=some (.slice jn jc.length jo)∧w'.cell? ⟨j4,7,none⟩=some (.slice jr jb.length js)) (ds:=[]) (bz 8 0) (by kernel_rfl) rfl rfl (mE j3.out) (fun hHeld=>?_);refine iA bP.SS bP.FN (fun HT_ HW_=>?_)
  generalize w5.drew=ZX at j3 HB hHeld ⊢
  refine pr_ 0 18 (bz 8 1) HT_ ?_
  refine pr_ 4 22 (bz 8 17) HT_ ?_
  refine xC 1 19 (bz 8 19) HT_ HW_ hHeld ?_
  refine xC 5 23 (bz 8 51) HT_ HW_ hHeld ?_
  refine gY (i:=2) (N:=some 20) (bz 8 55) rfl rfl (eG HT_.out (by kernel_rfl)) (by decide) (fun K hK=>?_)
  refine iF Tryz.func24 (by kernel_rfl) rfl #[.int .i64 jm] (by rfl) rfl rfl mD ?_
  with_reducible refine (dX.calls k jm qr _ ZB.out).mono ?_
  rintro e ZY ⟨rfl,hb⟩
  refine ⟨_,rfl,?_⟩
  replace j3:=bbP j3 hb
  replace HB:=am (aA kM hb)
  (try clear hb)
  (try clear hb2)
  (try clear hk)
  (try clear hi)
  refine hK.out _ _ (mE j3.out) (fun hHeld=>?_)
  clear hK K
  refine eZ (a':=?_) ?_ ?_
  rotate_left
  ·exact ap_ (N:=20)
  refine gY (i:=3) (N:=some 21) (bz 8 63) rfl rfl (eG HT_.out (by kernel_rfl)) (by decide) (fun K hK=>?_)
  refine Kd.mR Kd.string _ 9 rfl (N:=21) rfl (xs:=([(⟨#[115,101,110,100]⟩:ByteArray),qr]:List ByteArray)) (inner:=[.string (⟨#[115,101,110,100]⟩:ByteArray), .string qr]) (ok:=fun _=>True) (okp:=fun _=>True) rn_ ?hp (fun _ hk=>hk) trivial (Below.refl _ _) (Nat.le_refl _) (by simp) ?_;(case hp=>exact (dF.one (show Kd.M Kd.string _ _ _ (⟨#[115,101,110,100]⟩:ByteArray) [.string (⟨#[115,101,110,100]⟩:ByteArray)] from rfl) (dF.one (show Kd.M Kd.string _ _ _ qr [.string qr] from rfl) (dF.none _ _))))
  intro ZD ZZ ho21 hb hg_ hnew_
  clear hg_ hnew_
  (first|rw [← jZ.out] at ho21|(simp only [Int.reduceToNat] at ho21;rw [← jZ.out] at ho21))
  have jC:=am (Kd.fG ho21 (aJ kM))
  replace j3:=bbP j3 hb
  replace HB:=am (aA kM hb)
  clear hb ho21
  obtain ⟨qc,qd,qA⟩:=Kd.eY jC.out
  (first|subst qA|(injection qA with f1_ f2_ f3_;have f4_:=f1_.symm;have f5_:=f3_.symm;clear f1_ f2_ f3_;subst f4_;subst f5_))
  refine hK.out _ _ (mE j3.out) (fun hHeld=>?_)
  clear hK K
  refine eZ (a':=?_) ?_ ?_
  rotate_left
  ·exact ap_ (N:=21)
  refine gY (i:=6) (N:=some 24) (bz 8 127) rfl rfl (eG HT_.out (by kernel_rfl)) (by decide) (fun K hK=>?_)
  refine iF Tryz.func72 (by kernel_rfl) rfl #[.slice qc jT.length qd, .agg #[.int .i64 j8, .int .i64 j9, .slice ji ja.length jj]] (by rfl) rfl rfl mD ?_
  with_reducible refine (gB.calls k (fun k_=>some k_=(.slice qc jT.length qd:Value).ownBlock) (.slice qc jT.length qd) jT j8 j9 _ _ ja Zd w _ ?side1 ?side2 ?side3 jw.out ZC.out).mono ?_
  (case side1=>exact kM)
  (case side2=>exact Kd.lH rfl jC.out)
  (case side3=>exact Kd.uZ DF jv.out kM (fun k_ hs_=>(fun e_=>Kd.iU jC.out k_ e_.symm) hs_))
  rintro e Y0 ⟨ZE,rfl,ho0,hb,hkp⟩
  refine ⟨_,rfl,?_⟩
  replace j3:=am (kL (aG_ j3.out) hkp (fun hs_=>(fun e_=>(Kd.kT jC.out j3.out (by decide)) e_) hs_))
  have qB:=am (Kd.bV (ok':=fun k_=>True) ho0 (fun k_ hk_=>trivial))
  replace HB:=am (hb)
  clear jC
  (try clear hb)
  (try clear hkp)
  (try clear ho0)
  refine hK.out _ _ (mE j3.out) (fun hHeld=>?_)
  clear hK K
  refine eZ (a':=?_) ?_ ?_
  rotate_left
  ·exact ap_ (N:=24)
  refine pr_ 7 2 (bz 8 255) HT_ ?_
  refine nA (kS HT_.out (by kernel_rfl)) ?_
  try go_wp2
  go_ret
  exact ⟨_,gN,gH qB.out,kM⟩
 rw [if_neg qb] at H
 have qw:(j6 == 4)=false:=beq_eq_false_iff_ne.mpr qb
 have qx:(j6 != 4)=true:=bne_iff_ne.mpr qb
 by_cases qe:j6=7
 ·rw [if_pos qe] at H
  have qC:(j6 == 7)=true:=beq_iff_eq.mpr qe
  have qD:(j6 != 7)=false:=bne_eq_false_iff_eq.mpr qe
  clear qe
  obtain ⟨jU,hy_⟩:∃ y_:List ByteArray,y_=(([(⟨#[112,114,105,110,116]⟩:ByteArray)]:List ByteArray)):=⟨_,rfl⟩
  replace H:((gB.f k jU j8 j9 ja).bind fun Ze=>(some Ze))=some r:=rx_
  have q0:=am hy_
  clear hy_
  obtain ⟨Ze,qE,H⟩:=bsm H
  (try dsimp only at H)
  have ZF:=am qE
  clear qE
  obtain rfl:=Option.some.inj H
  go_wp2_with (first|((with_reducible refine cK (N:=27) rfl ?_);refine Kd.oP Kd.string _ 9 rfl (N:=27) rfl (xs:=([(⟨#[112,114,105,110,116]⟩:ByteArray)]:List ByteArray)) (inner:=[.string (⟨#[112,114,105,110,116]⟩:ByteArray)]) (ok:=fun _=>True) (okp:=fun _=>True) rn_ ?hp (fun _ hk=>hk) trivial (Below.refl _ _) (Nat.le_refl _) (by simp) ?_;(case hp=>exact (dF.one (show Kd.M Kd.string _ _ _ (⟨#[112,114,105,110,116]⟩:ByteArray) [.string (⟨#[112,114,105,110,116]⟩:ByteArray)] from rfl) (dF.none _ _)));intro ZG Y1 ho29 hb hg_ hnew_;clear hg_ hnew_;(first|rw [← q0.out] at ho29|(simp only [Int.reduceToNat] at ho29;rw [← q0.out] at ho29));have jD:=am (Kd.fG ho29 (aJ kM));replace j3:=bbP j3 hb;replace HB:=am (aA kM hb);clear hb ho29;obtain ⟨zu,zv,zw,zx,zy,zz,zA,zB,zC,zD,zE,zF,zG,zH,zI,zJ⟩:=fH j3.out;obtain ⟨qf,qg,Zf⟩:=Kd.eY jD.out;subst Zf)|((with_reducible refine aD (f:=72) rfl ?_);refine gl_ 30 Tryz.func72 #[.slice qf jU.length qg, .agg #[.int .i64 j8, .int .i64 j9, .slice ji ja.length jj]] ?_;(with_reducible refine (gB.calls k (fun k_=>some k_=(.slice qf jU.length qg:Value).ownBlock) (.slice qf jU.length qg) jU j8 j9 _ _ ja Ze w _ ?side1 ?side2 ?side3 jw.out ZF.out).mono ?_);(case side1=>exact kM);(case side2=>exact Kd.lH rfl jD.out);(case side3=>exact Kd.uZ DF jv.out kM (fun k_ hs_=>(fun e_=>Kd.iU jD.out k_ e_.symm) hs_));rintro e Y2 ⟨ZH,rfl,ho0,hb,hkp⟩;refine ⟨_,rfl,?_⟩;replace j3:=am (kL (aG_ j3.out) hkp (fun hs_=>(fun e_=>(Kd.kT jD.out j3.out (by decide)) e_) hs_));have qF:=am (Kd.bV (ok':=fun k_=>True) ho0 (fun k_ hk_=>trivial));replace HB:=am (hb);clear jD;(try clear hb);(try clear hkp);(try clear ho0)))
  go_ret
  exact ⟨_,gN,gH qF.out,kM⟩
 rw [if_neg qe] at H
 have qC:(j6 == 7)=false:=beq_eq_false_iff_ne.mpr qe
 have qD:(j6 != 7)=true:=bne_iff_ne.mpr qe
 by_cases qh:j6=5
 ·rw [if_pos qh] at H
  have qG:(j6 == 5)=true:=beq_iff_eq.mpr qh
  have qH:(j6 != 5)=false:=bne_eq_false_iff_eq.mpr qh
  clear qh
  obtain ⟨jN,qI,H⟩:=bsm H
  (try dsimp only at H)
  have ZI:=am qI
  clear qI
  obtain ⟨jO,qJ,H⟩:=bsm H
  (try dsimp only at H)
  have ZJ:=am qJ
  clear qJ
  obtain ⟨Zg,hy_⟩:∃ y_:List ByteArray,y_=(([(⟨#[114,101,99,118]⟩:ByteArray),jN,jO,(⟨#[59]⟩:ByteArray)]:List ByteArray)):=⟨_,rfl⟩
  replace H:(some Zg)=some r:=rx_
  have q1:=am hy_
  clear hy_
  obtain rfl:=Option.some.inj H
  try go_wp2
  replace j3:=am (dA j3.out)
  replace HB:=am (bJ HB.out)
  refine kZ (n:=8) (S:=fun w'=>w'.cell? ⟨j4,0,none⟩=some (.int .i64 j6)∧w'.cell? ⟨j4,1,none⟩=some (.int .i64 jl)∧w'.cell? ⟨j4,2,none⟩=some (.int .i64 jm)∧w'.cell? ⟨j4,3,none⟩=some (.int .i64 j8)∧w'.cell? ⟨j4,4,none⟩=some (.int .i64 j9)∧w'.cell? ⟨j4,5,none⟩=some (.slice ji ja.length jj)∧w'.cell? ⟨j4,6,none⟩=some (.slice jn jc.length jo)∧w'.cell? ⟨j4,7,none⟩=some (.slice jr jb.length js)) (ds:=[]) (bz 8 0) (by kernel_rfl) rfl rfl (mE j3.out) (fun hHeld=>?_);refine iA bP.aIg bP.aHq (fun HT_ HW_=>?_)
  generalize w5.drew=Y3 at j3 HB hHeld ⊢
  refine pr_ 0 33 (bz 8 1) HT_ ?_
  refine pr_ 3 36 (bz 8 9) HT_ ?_
  refine xC 1 34 (bz 8 11) HT_ HW_ hHeld ?_
  refine xC 4 37 (bz 8 27) HT_ HW_ hHeld ?_
  refine gY (i:=2) (N:=some 35) (bz 8 31) rfl rfl (eG HT_.out (by kernel_rfl)) (by decide) (fun K hK=>?_)
  refine iF Tryz.func24 (by kernel_rfl) rfl #[.int .i64 jm] (by rfl) rfl rfl mD ?_
  with_reducible refine (dX.calls k jm jN _ ZI.out).mono ?_
  rintro e Y4 ⟨rfl,hb⟩
  refine ⟨_,rfl,?_⟩
  replace j3:=bbP j3 hb
  replace HB:=am (aA kM hb)
  (try clear hb)
  (try clear hb2)
  (try clear hk)
  (try clear hi)
  refine hK.out _ _ (mE j3.out) (fun hHeld=>?_)
  clear hK K
  refine eZ (a':=?_) ?_ ?_
  rotate_left
  ·exact ap_ (N:=35)
  refine gY (i:=5) (N:=some 38) (bz 8 63) rfl rfl (eG HT_.out (by kernel_rfl)) (by decide) (fun K hK=>?_)
  refine iF Tryz.func73 (by kernel_rfl) rfl #[.int .i64 jl] (by rfl) rfl rfl mD ?_
  with_reducible refine (mO.calls jl jO _ ZJ.out).mono ?_
  rintro e Y5 ⟨rfl,hb⟩
  refine ⟨_,rfl,?_⟩
  replace j3:=bbP j3 hb
  replace HB:=am (aA kM hb)
  (try clear hb)
  (try clear hb2)
  (try clear hk)
  (try clear hi)
  refine hK.out _ _ (mE j3.out) (fun hHeld=>?_)
  clear hK K
  refine eZ (a':=?_) ?_ ?_
  rotate_left
  ·exact ap_ (N:=38)
  refine gY (i:=6) (N:=some 39) (bz 8 127) rfl rfl (eG HT_.out (by kernel_rfl)) (by decide) (fun K hK=>?_)
  refine Kd.mR Kd.string _ 9 rfl (N:=39) rfl (xs:=([(⟨#[114,101,99,118]⟩:ByteArray),jN,jO,(⟨#[59]⟩:ByteArray)]:List ByteArray)) (inner:=[.string (⟨#[114,101,99,118]⟩:ByteArray), .string jN, .string jO, .string (⟨#[59]⟩:ByteArray)]) (ok:=fun _=>True) (okp:=fun _=>True) rn_ ?hp (fun _ hk=>hk) trivial (Below.refl _ _) (Nat.le_refl _) (by simp) ?_;(case hp=>exact (dF.one (show Kd.M Kd.string _ _ _ (⟨#[114,101,99,118]⟩:ByteArray) [.string (⟨#[114,101,99,118]⟩:ByteArray)] from rfl) (dF.one (show Kd.M Kd.string _ _ _ jN [.string jN] from rfl) (dF.one (show Kd.M Kd.string _ _ _ jO [.string jO] from rfl) (dF.one (show Kd.M Kd.string _ _ _ (⟨#[59]⟩:ByteArray) [.string (⟨#[59]⟩:ByteArray)] from rfl) (dF.none _ _))))))
  intro ZK Y6 ho42 hb hg_ hnew_
  clear hg_ hnew_
  (first|rw [← q1.out] at ho42|(simp only [Int.reduceToNat] at ho42;rw [← q1.out] at ho42))
  have qK:=am (Kd.fG ho42 (aJ kM))
  replace j3:=bbP j3 hb
  replace HB:=am (aA kM hb)
  clear hb ho42
  refine hK.out _ _ (mE j3.out) (fun hHeld=>?_)
  clear hK K
  refine eZ (a':=?_) ?_ ?_
  rotate_left
  ·exact ap_ (N:=39)
  refine pr_ 7 2 (bz 8 255) HT_ ?_
  refine nA (kS HT_.out (by kernel_rfl)) ?_
  try go_wp2
  go_ret
  exact ⟨_,gN,gH qK.out,kM⟩
 rw [if_neg qh] at H
 have qG:(j6 == 5)=false:=beq_eq_false_iff_ne.mpr qh
 have qH:(j6 != 5)=true:=bne_iff_ne.mpr qh
 by_cases qi:j6=6
 ·rw [if_pos qi] at H
  have qL:(j6 == 6)=true:=beq_iff_eq.mpr qi
  have qM:(j6 != 6)=false:=bne_eq_false_iff_eq.mpr qi
  clear qi
  obtain ⟨Zh,hy_⟩:∃ y_:List ByteArray,y_=(([(⟨#[121,105,101,108,100]⟩:ByteArray),(⟨#[59]⟩:ByteArray)]:List ByteArray)):=⟨_,rfl⟩
  replace H:(some Zh)=some r:=rx_
  have q2:=am hy_
  clear hy_
  obtain rfl:=Option.some.inj H
  go_wp2_with (first|((with_reducible refine cK (N:=42) rfl ?_);refine Kd.oP Kd.string _ 9 rfl (N:=42) rfl (xs:=([(⟨#[121,105,101,108,100]⟩:ByteArray),(⟨#[59]⟩:ByteArray)]:List ByteArray)) (inner:=[.string (⟨#[121,105,101,108,100]⟩:ByteArray), .string (⟨#[59]⟩:ByteArray)]) (ok:=fun _=>True) (okp:=fun _=>True) rn_ ?hp (fun _ hk=>hk) trivial (Below.refl _ _) (Nat.le_refl _) (by simp) ?_;(case hp=>exact (dF.one (show Kd.M Kd.string _ _ _ (⟨#[121,105,101,108,100]⟩:ByteArray) [.string (⟨#[121,105,101,108,100]⟩:ByteArray)] from rfl) (dF.one (show Kd.M Kd.string _ _ _ (⟨#[59]⟩:ByteArray) [.string (⟨#[59]⟩:ByteArray)] from rfl) (dF.none _ _))));intro ZL Y7 ho47 hb hg_ hnew_;clear hg_ hnew_;(first|rw [← q2.out] at ho47|(simp only [Int.reduceToNat] at ho47;rw [← q2.out] at ho47));have qN:=am (Kd.fG ho47 (aJ kM));replace j3:=bbP j3 hb;replace HB:=am (aA kM hb);clear hb ho47))
  go_ret
  exact ⟨_,gN,gH qN.out,kM⟩
 rw [if_neg qi] at H
 have qL:(j6 == 6)=false:=beq_eq_false_iff_ne.mpr qi
 have qM:(j6 != 6)=true:=bne_iff_ne.mpr qi
 by_cases qj:j6=3
 ·rw [if_pos qj] at H
  have qO:(j6 == 3)=true:=beq_iff_eq.mpr qj
  have qP:(j6 != 3)=false:=bne_eq_false_iff_eq.mpr qj
  clear qj
  obtain ⟨jV,hy_⟩:∃ y_:List ByteArray,y_=(([(⟨#[119,104,105,108,101]⟩:ByteArray)]:List ByteArray)):=⟨_,rfl⟩
  replace H:((bM.f k j8 j9 ja).bind fun ju=>(if jV.length + ju.length < 8796093022208 then ((some (jV ++ ju:List ByteArray)).bind fun jE=>((bL.f k jc).bind fun jt=>(if jE.length + jt.length < 8796093022208 then (some (jE ++ jt)) else (none)))) else (none)))=some r:=rx_
  have q3:=am hy_
  clear hy_
  obtain ⟨ju,qQ,H⟩:=bsm H
  (try dsimp only at H)
  have ZM:=am qQ
  clear qQ
  by_cases zK:jV.length + ju.length < 8796093022208
  ·rw [if_pos zK] at H
   have qR:=am zK
   clear zK
   obtain ⟨jE,hy_⟩:∃ y_:List ByteArray,y_=(jV ++ ju):=⟨_,rfl⟩
   replace H:((bL.f k jc).bind fun jt=>(if jE.length + jt.length < 8796093022208 then (some (jE ++ jt)) else (none)))=some r:=rx_
   have qS:=am hy_
   clear hy_
   obtain ⟨jt,qU,H⟩:=bsm H
   (try dsimp only at H)
   have ZN:=am qU
   clear qU
   by_cases zL:jE.length + jt.length < 8796093022208
   ·rw [if_pos zL] at H
    have qV:=am zL
    clear zL
    obtain ⟨Zi,hy_⟩:∃ y_:List ByteArray,y_=(jE ++ jt):=⟨_,rfl⟩
    replace H:(some Zi)=some r:=rx_
    have qW:=am hy_
    clear hy_
    obtain rfl:=Option.some.inj H
    go_wp2_with (first|((with_reducible refine cK (N:=45) rfl ?_);refine Kd.oP Kd.string _ 9 rfl (N:=45) rfl (xs:=([(⟨#[119,104,105,108,101]⟩:ByteArray)]:List ByteArray)) (inner:=[.string (⟨#[119,104,105,108,101]⟩:ByteArray)]) (ok:=fun _=>True) (okp:=fun _=>True) rn_ ?hp (fun _ hk=>hk) trivial (Below.refl _ _) (Nat.le_refl _) (by simp) ?_;(case hp=>exact (dF.one (show Kd.M Kd.string _ _ _ (⟨#[119,104,105,108,101]⟩:ByteArray) [.string (⟨#[119,104,105,108,101]⟩:ByteArray)] from rfl) (dF.none _ _)));intro Zj Y8 ho56 hb hg_ hnew_;clear hg_ hnew_;(first|rw [← q3.out] at ho56|(simp only [Int.reduceToNat] at ho56;rw [← q3.out] at ho56));have jx:=am (Kd.fG ho56 (aJ kM));replace j3:=bbP j3 hb;replace HB:=am (aA kM hb);clear hb ho56;obtain ⟨zM,zN,zO,zP,zQ,zR,zS,zT,zU,zV,zW,zX,zY,zZ,J0,J1⟩:=fH j3.out)|((with_reducible refine aD (f:=74) rfl ?_);refine gl_ 48 Tryz.func74 #[.agg #[.int .i64 j8, .int .i64 j9, .slice ji ja.length jj]] ?_;(with_reducible refine (bM.calls k j8 j9 _ _ ja ju _ (aC_ (Kd.aT jv.out HB.out)) jw.out ZM.out).mono ?_);rintro e Y9 ⟨ZO,rfl,ho0,hb⟩;refine ⟨_,rfl,?_⟩;have jk:=am (Kd.fG (Kd.lT ho0 (Kd.iN (aR_ jx.out))) (aJ kM));replace jx:=am (Kd.iL (aR_ jx.out) (Kd.iU ho0) hb);replace j3:=bbP j3 hb;replace HB:=am (aA kM hb);(try clear hb);(try clear ho0);obtain ⟨qk,ql,Zk⟩:=Kd.eY jk.out;subst Zk)|((with_reducible refine dS (b:= .append) (xs:=#[.tmp 45, .tmp 48]) rfl ?_);at_builtin;refine Kd.iI Kd.string (w0:=w) w.heap.size rfl (.tmp 45) (.tmp 48) 29 9 (.string ⟨#[]⟩) 16 rfl Tryz.underlying29 kJ rfl (by decide) (by omega) Zj jV ju _ _ _ (fun k_=>some k_≠(.slice qk ju.length ql:Value).ownBlock) (fun _=>False) rfl rfl ?aO ?aR (fun _ _ h=>h) (fun _ h=>h.elim) ?aF ?aB ?aS ?aL ?_;(case aR=>repeat (first|exact (Kd.eH jk.out).2.2|(with_reducible refine Kd.iY ?_ _)|(with_reducible refine Kd.iR ?_ _)|(with_reducible refine Kd.kW ?_)));(case aB=>exact kM);(case aF=>exact (fun k_ hk=>Kd.fresh' (Kd.iN (aR_ jk.out)) k_ hk));(case aO=>exact (gH (Kd.bV jx.out (fun _ hk=>hk.2))));(case aS=>exact (aJ kM));(case aL=>have:=qR.out;omega);intro Zl Ya ho hb hg hat;rw [← qS.out] at ho;replace j3:=am (dZ (g:=j4) (o:= .cells #[.int .i64 j6, .int .i64 jl, .int .i64 jm, .int .i64 j8, .int .i64 j9, .slice ji ja.length jj, .slice jn jc.length jo, .slice jr jb.length js] 58 (0,0)) (aG_ j3.out) hg (Kd.kT jx.out j3.out (by decide)));replace jk:=am (Kd.iM (ok:=(fun _=>True)) (aR_ jk.out) hg hat);replace HB:=am (hb);have jy:=am (ho);clear jx ho hb hg hat;obtain ⟨J2,J3,J4,J5,J6,J7,J8,J9,Ja,Jb,Jc,Jd,Je,Jf,Jg,Jh⟩:=fH j3.out)|((with_reducible refine aD (f:=25) rfl ?_);refine gl_ 53 Tryz.func25 #[.slice jn jc.length jo] ?_;(with_reducible refine (ih_spec_l13Block k (by omega) _ _ jc jt _ (aC_ (Kd.aT jQ.out HB.out)) jR.out ZN.out).mono ?_);rintro e Yb ⟨ZP,rfl,ho0,hb⟩;refine ⟨_,rfl,?_⟩;have jF:=am (Kd.fG (Kd.lT (Kd.lT ho0 (Kd.iN (aR_ jk.out))) (Kd.iN (aR_ jy.out))) (aJ kM));replace jk:=am (Kd.iL (aR_ jk.out) (Kd.iU ho0) hb);replace jy:=am (Kd.iL (aR_ jy.out) (Kd.iU ho0) hb);replace j3:=bbP j3 hb;replace HB:=am (aA kM hb);(try clear hb);(try clear ho0);obtain ⟨qX,qY,Zm⟩:=Kd.eY jF.out;subst Zm)|((with_reducible refine dS (b:= .append) (xs:=#[.tmp 50, .tmp 53]) rfl ?_);at_builtin;refine Kd.iI Kd.string (w0:=w) w.heap.size rfl (.tmp 50) (.tmp 53) 29 9 (.string ⟨#[]⟩) 16 rfl Tryz.underlying29 kJ rfl (by decide) (by omega) Zl jE jt _ _ _ (fun k_=>some k_≠(.slice qk ju.length ql:Value).ownBlock∧some k_≠(.slice qX jt.length qY:Value).ownBlock) (fun _=>False) rfl rfl ?aO ?aR (fun _ _ h=>h) (fun _ h=>h.elim) ?aF ?aB ?aS ?aL ?_;(case aR=>repeat (first|exact (Kd.eH jF.out).2.2|(with_reducible refine Kd.iY ?_ _)|(with_reducible refine Kd.iR ?_ _)|(with_reducible refine Kd.kW ?_)));(case aB=>exact kM);(case aF=>exact (fun k_ hk=>⟨Kd.fresh' (Kd.iN (aR_ jk.out)) k_ hk,Kd.fresh' (Kd.iN (aR_ jF.out)) k_ hk⟩));(case aO=>exact (aR_ jy.out));(case aS=>exact (aJ kM));(case aL=>have:=qV.out;omega);intro ZQ Yc ho hb hg hat;rw [← qW.out] at ho;replace j3:=am (dZ (g:=j4) (o:= .cells #[.int .i64 j6, .int .i64 jl, .int .i64 jm, .int .i64 j8, .int .i64 j9, .slice ji ja.length jj, .slice jn jc.length jo, .slice jr jb.length js] 58 (0,0)) (aG_ j3.out) hg (Kd.kT jy.out j3.out (by decide)));replace jk:=am (Kd.iM (ok:=(fun k_=>some k_≠(.slice qX jt.length qY:Value).ownBlock)) (gH (Kd.bV jk.out (fun _ hk=>⟨hk.2,hk.1.2⟩))) hg hat);replace jF:=am (Kd.iM (ok:=(fun k_=>some k_≠(.slice qk ju.length ql:Value).ownBlock)) (gH (Kd.bV jF.out (fun _ hk=>⟨hk.1.2,hk.2⟩))) hg hat);replace HB:=am (hb);have qZ:=am (ho);clear jy ho hb hg hat))
    go_ret
    exact ⟨_,gN,gH (Kd.bV qZ.out (fun _ hk=>trivial)),kM⟩
   rw [if_neg zL] at H
   exact absurd H (by simp)
  rw [if_neg zK] at H
  exact absurd H (by simp)
 rw [if_neg qj] at H
 have qO:(j6 == 3)=false:=beq_eq_false_iff_ne.mpr qj
 have qP:(j6 != 3)=true:=bne_iff_ne.mpr qj
 obtain ⟨jP,hy_⟩:∃ y_:List ByteArray,y_=(([(⟨#[105,102]⟩:ByteArray)]:List ByteArray)):=⟨_,rfl⟩
 replace H:((bM.f k j8 j9 ja).bind fun je=>(if jP.length + je.length < 8796093022208 then ((some (jP ++ je:List ByteArray)).bind fun jA=>((bL.f k jc).bind fun jd=>(if jA.length + jd.length < 8796093022208 then ((some (jA ++ jd:List ByteArray)).bind fun jp=>(if (jb.length:Int)=0 then (some jp) else (if jp.length < 8796093022208 then ((some (jp ++ [(⟨#[101,108,115,101]⟩:ByteArray)]:List ByteArray)).bind fun jq=>((bL.f k jb).bind fun jh=>(if jq.length + jh.length < 8796093022208 then (some (jq ++ jh)) else (none)))) else (none)))) else (none)))) else (none)))=some r:=rx_
 have jM:=am hy_
 clear hy_
 obtain ⟨je,z0,H⟩:=bsm H
 (try dsimp only at H)
 have Zw:=am z0
 clear z0
 by_cases Ji:jP.length + je.length < 8796093022208
 ·rw [if_pos Ji] at H
  have q4:=am Ji
  clear Ji
  obtain ⟨jA,hy_⟩:∃ y_:List ByteArray,y_=(jP ++ je):=⟨_,rfl⟩
  replace H:((bL.f k jc).bind fun jd=>(if jA.length + jd.length < 8796093022208 then ((some (jA ++ jd:List ByteArray)).bind fun jp=>(if (jb.length:Int)=0 then (some jp) else (if jp.length < 8796093022208 then ((some (jp ++ [(⟨#[101,108,115,101]⟩:ByteArray)]:List ByteArray)).bind fun jq=>((bL.f k jb).bind fun jh=>(if jq.length + jh.length < 8796093022208 then (some (jq ++ jh)) else (none)))) else (none)))) else (none)))=some r:=rx_
  have q5:=am hy_
  clear hy_
  obtain ⟨jd,z1,H⟩:=bsm H
  (try dsimp only at H)
  have Zx:=am z1
  clear z1
  by_cases Jj:jA.length + jd.length < 8796093022208
  ·rw [if_pos Jj] at H
   have q6:=am Jj
   clear Jj
   obtain ⟨jp,hy_⟩:∃ y_:List ByteArray,y_=(jA ++ jd):=⟨_,rfl⟩
   replace H:(if (jb.length:Int)=0 then (some jp) else (if jp.length < 8796093022208 then ((some (jp ++ [(⟨#[101,108,115,101]⟩:ByteArray)]:List ByteArray)).bind fun jq=>((bL.f k jb).bind fun jh=>(if jq.length + jh.length < 8796093022208 then (some (jq ++ jh)) else (none)))) else (none)))=some r:=rx_
   have q7:=am hy_
   clear hy_
   by_cases q8:(jb.length:Int)=0
   ·rw [if_pos q8] at H
    have z2:((jb.length:Int) == 0)=true:=beq_iff_eq.mpr q8
    have z3:((jb.length:Int) != 0)=false:=bne_eq_false_iff_eq.mpr q8
    clear q8
    obtain rfl:=Option.some.inj H
    go_wp2_with (first|((with_reducible refine cK (N:=55) rfl ?_);refine Kd.oP Kd.string _ 9 rfl (N:=55) rfl (xs:=([(⟨#[105,102]⟩:ByteArray)]:List ByteArray)) (inner:=[.string (⟨#[105,102]⟩:ByteArray)]) (ok:=fun _=>True) (okp:=fun _=>True) rn_ ?hp (fun _ hk=>hk) trivial (Below.refl _ _) (Nat.le_refl _) (by simp) ?_;(case hp=>exact (dF.one (show Kd.M Kd.string _ _ _ (⟨#[105,102]⟩:ByteArray) [.string (⟨#[105,102]⟩:ByteArray)] from rfl) (dF.none _ _)));intro qm Yd ho73 hb hg_ hnew_;clear hg_ hnew_;(first|rw [← jM.out] at ho73|(simp only [Int.reduceToNat] at ho73;rw [← jM.out] at ho73));have jf:=am (Kd.fG ho73 (aJ kM));replace j3:=bbP j3 hb;replace HB:=am (aA kM hb);clear hb ho73;obtain ⟨Jk,Jl,Jm,Jn,Jo,Jp,Jq,Jr,Js,Jt,Ju,Jv,Jw,Jx,Jy,Jz⟩:=fH j3.out)|((with_reducible refine aD (f:=74) rfl ?_);refine gl_ 58 Tryz.func74 #[.agg #[.int .i64 j8, .int .i64 j9, .slice ji ja.length jj]] ?_;(with_reducible refine (bM.calls k j8 j9 _ _ ja je _ (aC_ (Kd.aT jv.out HB.out)) jw.out Zw.out).mono ?_);rintro e Ye ⟨Zn,rfl,ho0,hb⟩;refine ⟨_,rfl,?_⟩;have j5:=am (Kd.fG (Kd.lT ho0 (Kd.iN (aR_ jf.out))) (aJ kM));replace jf:=am (Kd.iL (aR_ jf.out) (Kd.iU ho0) hb);replace j3:=bbP j3 hb;replace HB:=am (aA kM hb);(try clear hb);(try clear ho0);obtain ⟨qn,qo,Zo⟩:=Kd.eY j5.out;subst Zo)|((with_reducible refine dS (b:= .append) (xs:=#[.tmp 55, .tmp 58]) rfl ?_);at_builtin;refine Kd.iI Kd.string (w0:=w) w.heap.size rfl (.tmp 55) (.tmp 58) 29 9 (.string ⟨#[]⟩) 16 rfl Tryz.underlying29 kJ rfl (by decide) (by omega) qm jP je _ _ _ (fun k_=>some k_≠(.slice qn je.length qo:Value).ownBlock) (fun _=>False) rfl rfl ?aO ?aR (fun _ _ h=>h) (fun _ h=>h.elim) ?aF ?aB ?aS ?aL ?_;(case aR=>repeat (first|exact (Kd.eH j5.out).2.2|(with_reducible refine Kd.iY ?_ _)|(with_reducible refine Kd.iR ?_ _)|(with_reducible refine Kd.kW ?_)));(case aB=>exact kM);(case aF=>exact (fun k_ hk=>Kd.fresh' (Kd.iN (aR_ j5.out)) k_ hk));(case aO=>exact (gH (Kd.bV jf.out (fun _ hk=>hk.2))));(case aS=>exact (aJ kM));(case aL=>have:=q4.out;omega);intro qp Yf ho hb hg hat;rw [← q5.out] at ho;replace j3:=am (dZ (g:=j4) (o:= .cells #[.int .i64 j6, .int .i64 jl, .int .i64 jm, .int .i64 j8, .int .i64 j9, .slice ji ja.length jj, .slice jn jc.length jo, .slice jr jb.length js] 58 (0,0)) (aG_ j3.out) hg (Kd.kT jf.out j3.out (by decide)));replace j5:=am (Kd.iM (ok:=(fun _=>True)) (aR_ j5.out) hg hat);replace HB:=am (hb);have jg:=am (ho);clear jf ho hb hg hat;obtain ⟨JA,JB,JC,JD,JE,JF,JG,JH,JI,JJ,JK,JL,JM,JN,JO,JP⟩:=fH j3.out)|((with_reducible refine aD (f:=25) rfl ?_);refine gl_ 63 Tryz.func25 #[.slice jn jc.length jo] ?_;(with_reducible refine (ih_spec_l13Block k (by omega) _ _ jc jd _ (aC_ (Kd.aT jQ.out HB.out)) jR.out Zx.out).mono ?_);rintro e Yg ⟨Zp,rfl,ho0,hb⟩;refine ⟨_,rfl,?_⟩;have j7:=am (Kd.fG (Kd.lT (Kd.lT ho0 (Kd.iN (aR_ j5.out))) (Kd.iN (aR_ jg.out))) (aJ kM));replace j5:=am (Kd.iL (aR_ j5.out) (Kd.iU ho0) hb);replace jg:=am (Kd.iL (aR_ jg.out) (Kd.iU ho0) hb);replace j3:=bbP j3 hb;replace HB:=am (aA kM hb);(try clear hb);(try clear ho0);obtain ⟨z4,z5,Zq⟩:=Kd.eY j7.out;subst Zq)|((with_reducible refine dS (b:= .append) (xs:=#[.tmp 60, .tmp 63]) rfl ?_);at_builtin;refine Kd.iI Kd.string (w0:=w) w.heap.size rfl (.tmp 60) (.tmp 63) 29 9 (.string ⟨#[]⟩) 16 rfl Tryz.underlying29 kJ rfl (by decide) (by omega) qp jA jd _ _ _ (fun k_=>some k_≠(.slice qn je.length qo:Value).ownBlock∧some k_≠(.slice z4 jd.length z5:Value).ownBlock) (fun _=>False) rfl rfl ?aO ?aR (fun _ _ h=>h) (fun _ h=>h.elim) ?aF ?aB ?aS ?aL ?_;(case aR=>repeat (first|exact (Kd.eH j7.out).2.2|(with_reducible refine Kd.iY ?_ _)|(with_reducible refine Kd.iR ?_ _)|(with_reducible refine Kd.kW ?_)));(case aB=>exact kM);(case aF=>exact (fun k_ hk=>⟨Kd.fresh' (Kd.iN (aR_ j5.out)) k_ hk,Kd.fresh' (Kd.iN (aR_ j7.out)) k_ hk⟩));(case aO=>exact (aR_ jg.out));(case aS=>exact (aJ kM));(case aL=>have:=q6.out;omega);intro z6 Yh ho hb hg hat;rw [← q7.out] at ho;replace j3:=am (dZ (g:=j4) (o:= .cells #[.int .i64 j6, .int .i64 jl, .int .i64 jm, .int .i64 j8, .int .i64 j9, .slice ji ja.length jj, .slice jn jc.length jo, .slice jr jb.length js] 58 (0,0)) (aG_ j3.out) hg (Kd.kT jg.out j3.out (by decide)));replace j5:=am (Kd.iM (ok:=(fun k_=>some k_≠(.slice z4 jd.length z5:Value).ownBlock)) (gH (Kd.bV j5.out (fun _ hk=>⟨hk.2,hk.1.2⟩))) hg hat);replace j7:=am (Kd.iM (ok:=(fun k_=>some k_≠(.slice qn je.length qo:Value).ownBlock)) (gH (Kd.bV j7.out (fun _ hk=>⟨hk.1.2,hk.2⟩))) hg hat);replace HB:=am (hb);have jG:=am (ho);clear jg ho hb hg hat;obtain ⟨JQ,JR,JS,JT,JU,JV,JW,JX,JY,JZ,Q0,Q1,Q2,Q3,Q4,Q5⟩:=fH j3.out))
    go_ret
    exact ⟨_,gN,gH (Kd.bV jG.out (fun _ hk=>trivial)),kM⟩
   rw [if_neg q8] at H
   have z2:((jb.length:Int) == 0)=false:=beq_eq_false_iff_ne.mpr q8
   have z3:((jb.length:Int) != 0)=true:=bne_iff_ne.mpr q8
   have Zy:¬ (jb=[]):=fun h_=>q8 (by rw [h_];rfl)
   by_cases Q6:jp.length < 8796093022208
   ·rw [if_pos Q6] at H
    have z7:=am Q6
    clear Q6
    obtain ⟨jq,hy_⟩:∃ y_:List ByteArray,y_=(jp ++ [(⟨#[101,108,115,101]⟩:ByteArray)]):=⟨_,rfl⟩
    replace H:((bL.f k jb).bind fun jh=>(if jq.length + jh.length < 8796093022208 then (some (jq ++ jh)) else (none)))=some r:=rx_
    have z8:=am hy_
    clear hy_
    obtain ⟨jh,z9,H⟩:=bsm H
    (try dsimp only at H)
    have ZR:=am z9
    clear z9
    by_cases Q7:jq.length + jh.length < 8796093022208
    ·rw [if_pos Q7] at H
     have za:=am Q7
     clear Q7
     obtain ⟨Zr,hy_⟩:∃ y_:List ByteArray,y_=(jq ++ jh):=⟨_,rfl⟩
     replace H:(some Zr)=some r:=rx_
     have zb:=am hy_
     clear hy_
     obtain rfl:=Option.some.inj H
     go_wp2_with (first|((with_reducible refine cK (N:=55) rfl ?_);refine Kd.oP Kd.string _ 9 rfl (N:=55) rfl (xs:=([(⟨#[105,102]⟩:ByteArray)]:List ByteArray)) (inner:=[.string (⟨#[105,102]⟩:ByteArray)]) (ok:=fun _=>True) (okp:=fun _=>True) rn_ ?hp (fun _ hk=>hk) trivial (Below.refl _ _) (Nat.le_refl _) (by simp) ?_;(case hp=>exact (dF.one (show Kd.M Kd.string _ _ _ (⟨#[105,102]⟩:ByteArray) [.string (⟨#[105,102]⟩:ByteArray)] from rfl) (dF.none _ _)));intro qm Yi ho89 hb hg_ hnew_;clear hg_ hnew_;(first|rw [← jM.out] at ho89|(simp only [Int.reduceToNat] at ho89;rw [← jM.out] at ho89));have jf:=am (Kd.fG ho89 (aJ kM));replace j3:=bbP j3 hb;replace HB:=am (aA kM hb);clear hb ho89;obtain ⟨Q8,Q9,Qa,Qb,Qc,Qd,Qe,Qf,Qg,Qh,Qi,Qj,Qk,Ql,Qm,Qn⟩:=fH j3.out)|((with_reducible refine aD (f:=74) rfl ?_);refine gl_ 58 Tryz.func74 #[.agg #[.int .i64 j8, .int .i64 j9, .slice ji ja.length jj]] ?_;(with_reducible refine (bM.calls k j8 j9 _ _ ja je _ (aC_ (Kd.aT jv.out HB.out)) jw.out Zw.out).mono ?_);rintro e Yj ⟨Zn,rfl,ho0,hb⟩;refine ⟨_,rfl,?_⟩;have j5:=am (Kd.fG (Kd.lT ho0 (Kd.iN (aR_ jf.out))) (aJ kM));replace jf:=am (Kd.iL (aR_ jf.out) (Kd.iU ho0) hb);replace j3:=bbP j3 hb;replace HB:=am (aA kM hb);(try clear hb);(try clear ho0);obtain ⟨jH,jI,Zs⟩:=Kd.eY j5.out;subst Zs)|((with_reducible refine dS (b:= .append) (xs:=#[.tmp 55, .tmp 58]) rfl ?_);at_builtin;refine Kd.iI Kd.string (w0:=w) w.heap.size rfl (.tmp 55) (.tmp 58) 29 9 (.string ⟨#[]⟩) 16 rfl Tryz.underlying29 kJ rfl (by decide) (by omega) qm jP je _ _ _ (fun k_=>some k_≠(.slice jH je.length jI:Value).ownBlock) (fun _=>False) rfl rfl ?aO ?aR (fun _ _ h=>h) (fun _ h=>h.elim) ?aF ?aB ?aS ?aL ?_;(case aR=>repeat (first|exact (Kd.eH j5.out).2.2|(with_reducible refine Kd.iY ?_ _)|(with_reducible refine Kd.iR ?_ _)|(with_reducible refine Kd.kW ?_)));(case aB=>exact kM);(case aF=>exact (fun k_ hk=>Kd.fresh' (Kd.iN (aR_ j5.out)) k_ hk));(case aO=>exact (gH (Kd.bV jf.out (fun _ hk=>hk.2))));(case aS=>exact (aJ kM));(case aL=>have:=q4.out;omega);intro qp Yk ho hb hg hat;rw [← q5.out] at ho;replace j3:=am (dZ (g:=j4) (o:= .cells #[.int .i64 j6, .int .i64 jl, .int .i64 jm, .int .i64 j8, .int .i64 j9, .slice ji ja.length jj, .slice jn jc.length jo, .slice jr jb.length js] 58 (0,0)) (aG_ j3.out) hg (Kd.kT jf.out j3.out (by decide)));replace j5:=am (Kd.iM (ok:=(fun _=>True)) (aR_ j5.out) hg hat);replace HB:=am (hb);have jg:=am (ho);clear jf ho hb hg hat;obtain ⟨Qo,Qp,Qq,Qr,Qs,Qt,Qu,Qv,Qw,Qx,Qy,Qz,QA,QB,QC,QD⟩:=fH j3.out)|((with_reducible refine aD (f:=25) rfl ?_);refine gl_ 63 Tryz.func25 #[.slice jn jc.length jo] ?_;(with_reducible refine (ih_spec_l13Block k (by omega) _ _ jc jd _ (aC_ (Kd.aT jQ.out HB.out)) jR.out Zx.out).mono ?_);rintro e Yl ⟨Zp,rfl,ho0,hb⟩;refine ⟨_,rfl,?_⟩;have j7:=am (Kd.fG (Kd.lT (Kd.lT ho0 (Kd.iN (aR_ j5.out))) (Kd.iN (aR_ jg.out))) (aJ kM));replace j5:=am (Kd.iL (aR_ j5.out) (Kd.iU ho0) hb);replace jg:=am (Kd.iL (aR_ jg.out) (Kd.iU ho0) hb);replace j3:=bbP j3 hb;replace HB:=am (aA kM hb);(try clear hb);(try clear ho0);obtain ⟨jK,jL,Zt⟩:=Kd.eY j7.out;subst Zt)|((with_reducible refine dS (b:= .append) (xs:=#[.tmp 60, .tmp 63]) rfl ?_);at_builtin;refine Kd.iI Kd.string (w0:=w) w.heap.size rfl (.tmp 60) (.tmp 63) 29 9 (.string ⟨#[]⟩) 16 rfl Tryz.underlying29 kJ rfl (by decide) (by omega) qp jA jd _ _ _ (fun k_=>some k_≠(.slice jH je.length jI:Value).ownBlock∧some k_≠(.slice jK jd.length jL:Value).ownBlock) (fun _=>False) rfl rfl ?aO ?aR (fun _ _ h=>h) (fun _ h=>h.elim) ?aF ?aB ?aS ?aL ?_;(case aR=>repeat (first|exact (Kd.eH j7.out).2.2|(with_reducible refine Kd.iY ?_ _)|(with_reducible refine Kd.iR ?_ _)|(with_reducible refine Kd.kW ?_)));(case aB=>exact kM);(case aF=>exact (fun k_ hk=>⟨Kd.fresh' (Kd.iN (aR_ j5.out)) k_ hk,Kd.fresh' (Kd.iN (aR_ j7.out)) k_ hk⟩));(case aO=>exact (aR_ jg.out));(case aS=>exact (aJ kM));(case aL=>have:=q6.out;omega);intro z6 Ym ho hb hg hat;rw [← q7.out] at ho;replace j3:=am (dZ (g:=j4) (o:= .cells #[.int .i64 j6, .int .i64 jl, .int .i64 jm, .int .i64 j8, .int .i64 j9, .slice ji ja.length jj, .slice jn jc.length jo, .slice jr jb.length js] 58 (0,0)) (aG_ j3.out) hg (Kd.kT jg.out j3.out (by decide)));replace j5:=am (Kd.iM (ok:=(fun k_=>some k_≠(.slice jK jd.length jL:Value).ownBlock)) (gH (Kd.bV j5.out (fun _ hk=>⟨hk.2,hk.1.2⟩))) hg hat);replace j7:=am (Kd.iM (ok:=(fun k_=>some k_≠(.slice jH je.length jI:Value).ownBlock)) (gH (Kd.bV j7.out (fun _ hk=>⟨hk.1.2,hk.2⟩))) hg hat);replace HB:=am (hb);have jG:=am (ho);clear jg ho hb hg hat;obtain ⟨QE,QF,QG,QH,QI,QJ,QK,QL,QM,QN,QO,QP,QQ,QR,QS,QT⟩:=fH j3.out)|((with_reducible refine dS (b:= .append) (xs:=#[.tmp 70, .tmp 71]) rfl ?_);at_builtin;refine Kd.kE Kd.string (w0:=w) w.heap.size rfl (.tmp 70) (.tmp 71) 29 9 (.string ⟨#[]⟩) 16 rfl Tryz.underlying29 kJ rfl (by decide) (by omega) z6 jp (⟨#[101,108,115,101]⟩:ByteArray) [.string (⟨#[101,108,115,101]⟩:ByteArray)] (fun k_=>some k_≠(.slice jH je.length jI:Value).ownBlock∧some k_≠(.slice jK jd.length jL:Value).ownBlock) (fun _=>False) rfl rfl ?aP (fun _ hk=>hk.elim) ?aF ?aO ?aB ?aS ?aL ?_;(case aP=>exact rfl);(case aB=>exact kM);(case aF=>exact (fun k_ hk=>⟨Kd.fresh' (Kd.iN (aR_ j5.out)) k_ hk,Kd.fresh' (Kd.iN (aR_ j7.out)) k_ hk⟩));(case aO=>exact (aR_ jG.out));(case aS=>exact (aJ kM));(case aL=>have:=z7.out;omega);intro Zu Yn ho hb hg hat;rw [← z8.out] at ho;replace j3:=am (dZ (g:=j4) (o:= .cells #[.int .i64 j6, .int .i64 jl, .int .i64 jm, .int .i64 j8, .int .i64 j9, .slice ji ja.length jj, .slice jn jc.length jo, .slice jr jb.length js] 58 (0,0)) (aG_ j3.out) hg (Kd.kT jG.out j3.out (by decide)));replace j5:=am (Kd.iM (ok:=(fun k_=>some k_≠(.slice jK jd.length jL:Value).ownBlock)) (aR_ j5.out) hg hat);replace j7:=am (Kd.iM (ok:=(fun k_=>some k_≠(.slice jH je.length jI:Value).ownBlock)) (aR_ j7.out) hg hat);replace HB:=am (hb);have jz:=am (ho);clear jG ho hb hg hat;obtain ⟨zc,zd,ze,zf,zg,zh,zi,zj,zk,zl,zm,zn,zo,zp,zq,zr⟩:=fH j3.out)|((with_reducible refine aD (f:=25) rfl ?_);refine gl_ 76 Tryz.func25 #[.slice jr jb.length js] ?_;(with_reducible refine (ih_spec_l13Block k (by omega) _ _ jb jh _ (aC_ (Kd.aT qs.out HB.out)) qt.out ZR.out).mono ?_);rintro e ZS ⟨ZT,rfl,ho0,hb⟩;refine ⟨_,rfl,?_⟩;have jJ:=am (Kd.fG (Kd.lT (Kd.lT (Kd.lT ho0 (Kd.iN (aR_ j5.out))) (Kd.iN (aR_ j7.out))) (Kd.iN (aR_ jz.out))) (aJ kM));replace j5:=am (Kd.iL (aR_ j5.out) (Kd.iU ho0) hb);replace j7:=am (Kd.iL (aR_ j7.out) (Kd.iU ho0) hb);replace jz:=am (Kd.iL (aR_ jz.out) (Kd.iU ho0) hb);replace j3:=bbP j3 hb;replace HB:=am (aA kM hb);(try clear hb);(try clear ho0);obtain ⟨jW,jX,zs⟩:=Kd.eY jJ.out;subst zs)|((with_reducible refine dS (b:= .append) (xs:=#[.tmp 73, .tmp 76]) rfl ?_);at_builtin;refine Kd.iI Kd.string (w0:=w) w.heap.size rfl (.tmp 73) (.tmp 76) 29 9 (.string ⟨#[]⟩) 16 rfl Tryz.underlying29 kJ rfl (by decide) (by omega) Zu jq jh _ _ _ (fun k_=>some k_≠(.slice jH je.length jI:Value).ownBlock∧some k_≠(.slice jK jd.length jL:Value).ownBlock∧some k_≠(.slice jW jh.length jX:Value).ownBlock) (fun _=>False) rfl rfl ?aO ?aR (fun _ _ h=>h) (fun _ h=>h.elim) ?aF ?aB ?aS ?aL ?_;(case aR=>repeat (first|exact (Kd.eH jJ.out).2.2|(with_reducible refine Kd.iY ?_ _)|(with_reducible refine Kd.iR ?_ _)|(with_reducible refine Kd.kW ?_)));(case aB=>exact kM);(case aF=>exact (fun k_ hk=>⟨Kd.fresh' (Kd.iN (aR_ j5.out)) k_ hk,Kd.fresh' (Kd.iN (aR_ j7.out)) k_ hk,Kd.fresh' (Kd.iN (aR_ jJ.out)) k_ hk⟩));(case aO=>exact (gH (Kd.bV jz.out (fun _ hk=>⟨hk.1.1,⟨hk.1.2,hk.2⟩⟩))));(case aS=>exact (aJ kM));(case aL=>have:=za.out;omega);intro ZU ZV ho hb hg hat;rw [← zb.out] at ho;replace j3:=am (dZ (g:=j4) (o:= .cells #[.int .i64 j6, .int .i64 jl, .int .i64 jm, .int .i64 j8, .int .i64 j9, .slice ji ja.length jj, .slice jn jc.length jo, .slice jr jb.length js] 58 (0,0)) (aG_ j3.out) hg (Kd.kT jz.out j3.out (by decide)));replace j5:=am (Kd.iM (ok:=(fun k_=>some k_≠(.slice jK jd.length jL:Value).ownBlock∧some k_≠(.slice jW jh.length jX:Value).ownBlock)) (gH (Kd.bV j5.out (fun _ hk=>⟨⟨hk.1.1,hk.2⟩,hk.1.2⟩))) hg hat);replace j7:=am (Kd.iM (ok:=(fun k_=>some k_≠(.slice jH je.length jI:Value).ownBlock∧some k_≠(.slice jW jh.length jX:Value).ownBlock)) (gH (Kd.bV j7.out (fun _ hk=>⟨⟨hk.1.1,hk.2⟩,hk.1.2⟩))) hg hat);replace jJ:=am (Kd.iM (ok:=(fun k_=>some k_≠(.slice jH je.length jI:Value).ownBlock∧some k_≠(.slice jK jd.length jL:Value).ownBlock)) (gH (Kd.bV jJ.out (fun _ hk=>⟨⟨hk.1.1.2,hk.1.2⟩,hk.2⟩))) hg hat);replace HB:=am (hb);have zt:=am (ho);clear jz ho hb hg hat))
     go_ret
     exact ⟨_,gN,gH (Kd.bV zt.out (fun _ hk=>trivial)),kM⟩
    rw [if_neg Q7] at H
    exact absurd H (by simp)
   rw [if_neg Q6] at H
   exact absurd H (by simp)
  rw [if_neg Jj] at H
  exact absurd H (by simp)
 rw [if_neg Ji] at H
 exact absurd H (by simp)
theorem bL.step (k:Nat) (ih_spec_l13Stmt:∀ m,m < k→bP.dJ m) (ih_spec_l13Block:∀ m,m < k→bL.dJ m):bL.dJ k:=by
 intro A0 c0 l0 r w hr0 hc0 h
 cases k with
 |zero=>exact absurd h (by simp [bL.f])
 |succ k=>
 simp only [bL.f] at h
 have hu58:=Tryz.underlying58
 have jK:=am hr0
 have jP:=am hc0
 clear hr0 hc0
 have HB:=am (Below.refl w.heap.size w)
 have H:(bL.l0 k l0 (([(⟨#[123]⟩:ByteArray)]:List ByteArray)) 0)=some r:=h
 clear h
 obtain ⟨jI,hy_⟩:∃ y_:List ByteArray,y_=(([(⟨#[123]⟩:ByteArray)]:List ByteArray)):=⟨_,rfl⟩
 replace H:(bL.l0 k l0 jI 0)=some r:=rx_
 have jl:=am hy_
 clear hy_
 have H':=am H
 clear H
 go_enter Tryz.func25,Tryz.ntmps25
 go_wp2_with (first|((with_reducible refine cK (N:=5) rfl ?_);refine Kd.oP Kd.string _ 9 rfl (N:=5) rfl (xs:=([(⟨#[123]⟩:ByteArray)]:List ByteArray)) (inner:=[.string (⟨#[123]⟩:ByteArray)]) (ok:=fun _=>True) (okp:=fun _=>True) rn_ ?hp (fun _ hk=>hk) trivial (Below.refl _ _) (Nat.le_refl _) (by simp) ?_;(case hp=>exact (dF.one (show Kd.M Kd.string _ _ _ (⟨#[123]⟩:ByteArray) [.string (⟨#[123]⟩:ByteArray)] from rfl) (dF.none _ _)));intro jQ w2 ho3 hb hg_ hnew_;clear hg_ hnew_;(first|rw [← jl.out] at ho3|(simp only [Int.reduceToNat] at ho3;rw [← jl.out] at ho3));have jv:=am (Kd.fG ho3 (aJ dU));replace HB:=am (aA dU hb);clear hb ho3))
 go_loopg [3,4] k (fun kq v3 v4 w'=>∃ (j4:List ByteArray) (j3:Int),v4= .int .i64 j3∧Aside0 (bL.l0 kq l0 j4 j3=some r)∧Aside0 (kq≤k)∧Aside0 (Kd.R Kd.string 9 w' w.heap.size (fun _=>True) v3 j4)∧Aside0 (Below w.heap.size w w'))
 case atStart=>exact ⟨(jI),(0),sd_,H',⟨Nat.le_refl _⟩,⟨gH jv.out⟩,⟨dU⟩⟩
 case round=>
  clear H'
  obtain ⟨j4,j3,rfl,HA,jw,j5,HB⟩:=hrel
  cases gk with
  |zero=>exact absurd HA.out (by simp [bL.l0])
  |succ k1=>
   have H:=HA.out
   clear HA
   simp only [bL.l0] at H
   by_cases c4:j3 < (l0.length:Int)
   ·rw [if_pos c4] at H
    have jx:decide (j3 < (l0.length:Int))=true:=decide_eq_true c4
    clear c4
    by_cases c5:0≤j3
    ·rw [if_pos c5] at H
     have jL:decide (0≤j3)=true:=decide_eq_true c5
     clear c5
     obtain ⟨jm,A6,H⟩:=bsa H
     (try dsimp only at H)
     by_cases c7:j4.length + jm.length < 8796093022208
     ·rw [if_pos c7] at H
      have jy:=am c7
      clear c7
      obtain ⟨jJ,hy_⟩:∃ y_:List ByteArray,y_=(j4 ++ jm):=⟨_,rfl⟩
      replace H:(bL.l0 k1 l0 jJ (wrap64 (j3 + 1)))=some r:=rx_
      have jz:=am hy_
      clear hy_
      have H':=am H
      clear H
      have jA:0≤(j3:Int):=of_decide_eq_true eB
      have jB:j3 < (l0.length:Int):=of_decide_eq_true eB
      obtain ⟨jM,jn,jo,jp,jq,jr,js,jN,j6,j7,j8,j9,ja,jb,jc,jd,hl27_5,hi27_5,hl27_6,hi27_6,hl27_7,hi27_7⟩:=oQ jK.out j3 jA jB
      cases jN
      replace j6:=(HB.out.cell (World.block_lt_of_cell? w _ j6)).trans j6
      replace j7:=(HB.out.cell (World.block_lt_of_cell? w _ j7)).trans j7
      replace j8:=(HB.out.cell (World.block_lt_of_cell? w _ j8)).trans j8
      replace j9:=(HB.out.cell (World.block_lt_of_cell? w _ j9)).trans j9
      replace ja:=(HB.out.cell (World.block_lt_of_cell? w _ ja)).trans ja
      replace jb:=(HB.out.cell (World.block_lt_of_cell? w _ jb)).trans jb
      replace jc:=(HB.out.cell (World.block_lt_of_cell? w _ jc)).trans jc
      replace jd:=(HB.out.cell (World.block_lt_of_cell? w _ jd)).trans jd
      have jf:=am hi27_5
      have jg:=am hl27_5
      clear hi27_5 hl27_5
      have jh:=am hi27_6
      have ji:=am hl27_6
      clear hi27_6 hl27_6
      have jj:=am hi27_7
      have jk:=am hl27_7
      clear hi27_7 hl27_7
      replace jA:=eq_true jA
      replace jB:=eq_true jB
      go_wp2_with (first|((with_reducible refine aD (f:=49) rfl ?_);refine gl_ 17 Tryz.func49 #[.agg #[.int .i64 ((aH l0 j3).f0), .int .i64 ((aH l0 j3).f1), .int .i64 ((aH l0 j3).f2), .int .i64 ((aH l0 j3).f3.f0), .int .i64 ((aH l0 j3).f3.f1), .slice jn ((aH l0 j3).f3.f2).length jo, .slice jp ((aH l0 j3).f4).length jq, .slice jr ((aH l0 j3).f5).length js]] ?_;(with_reducible refine (ih_spec_l13Stmt k1 (by have:=jw.out;omega) ((aH l0 j3).f0) ((aH l0 j3).f1) ((aH l0 j3).f2) ((aH l0 j3).f3.f0) ((aH l0 j3).f3.f1) _ _ ((aH l0 j3).f3.f2) _ _ ((aH l0 j3).f4) _ _ ((aH l0 j3).f5) jm _ (aC_ (Kd.aT jf.out HB.out)) jg.out (aC_ (Kd.aT jh.out HB.out)) ji.out (aC_ (Kd.aT jj.out HB.out)) jk.out A6.out).mono ?_);rintro e w8 ⟨jR,rfl,ho0,hb⟩;refine ⟨_,rfl,?_⟩;have je:=am (Kd.fG (Kd.lT ho0 (Kd.iN (aR_ j5.out))) (aJ dU));replace j5:=am (Kd.iL (aR_ j5.out) (Kd.iU ho0) hb);replace HB:=am (aA dU hb);(try clear hb);(try clear ho0);obtain ⟨jC,jD,jE⟩:=Kd.eY je.out;subst jE)|((with_reducible refine dS (b:= .append) (xs:=#[.tmp 12, .tmp 17]) rfl ?_);at_builtin;refine Kd.iI Kd.string (w0:=w) w.heap.size rfl (.tmp 12) (.tmp 17) 29 9 (.string ⟨#[]⟩) 16 rfl Tryz.underlying29 kJ rfl (by decide) (by omega) u3 j4 jm _ _ _ (fun k_=>some k_≠(.slice jC jm.length jD:Value).ownBlock) (fun _=>False) rfl rfl ?aO ?aR (fun _ _ h=>h) (fun _ h=>h.elim) ?aF ?aB ?aS ?aL ?_;(case aR=>repeat (first|exact (Kd.eH je.out).2.2|(with_reducible refine Kd.iY ?_ _)|(with_reducible refine Kd.iR ?_ _)|(with_reducible refine Kd.kW ?_)));(case aB=>exact dU);(case aF=>exact (fun k_ hk=>Kd.fresh' (Kd.iN (aR_ je.out)) k_ hk));(case aO=>exact (gH (Kd.bV j5.out (fun _ hk=>hk.2))));(case aS=>exact (aJ dU));(case aL=>have:=jy.out;omega);intro jS w9 ho hb hg hat;rw [← jz.out] at ho;replace je:=am (Kd.iM (ok:=(fun _=>True)) (aR_ je.out) hg hat);replace HB:=am (hb);have jF:=am (ho);clear j5 ho hb hg hat))
      go_roundg k1
      case measure=>have:=jw.out;omega
      case rel=>exact ⟨(jJ),(wrap64 (j3 + 1)),sd_,H',⟨by have:=jw.out;omega⟩,⟨gH (Kd.bV jF.out (fun _ hk=>trivial))⟩,⟨dU⟩⟩
     rw [if_neg c7] at H
     exact absurd H (by simp)
    rw [if_neg c5] at H
    exact absurd H (by simp)
   rw [if_neg c4] at H
   have jx:decide (j3 < (l0.length:Int))=false:=decide_eq_false c4
   clear c4
   by_cases ju:j4.length < 8796093022208
   ·rw [if_pos ju] at H
    have jt:=am ju
    clear ju
    obtain ⟨jO,hy_⟩:∃ y_:List ByteArray,y_=(j4 ++ [(⟨#[125]⟩:ByteArray)]):=⟨_,rfl⟩
    replace H:(some jO)=some r:=rx_
    have jG:=am hy_
    clear hy_
    obtain rfl:=Option.some.inj H
    go_wp2_with (first|((with_reducible refine dS (b:= .append) (xs:=#[.tmp 19, .tmp 20]) rfl ?_);at_builtin;refine Kd.kE Kd.string (w0:=w) w.heap.size rfl (.tmp 19) (.tmp 20) 29 9 (.string ⟨#[]⟩) 16 rfl Tryz.underlying29 kJ rfl (by decide) (by omega) u3 j4 (⟨#[125]⟩:ByteArray) [.string (⟨#[125]⟩:ByteArray)] (fun _=>True) (fun _=>False) rfl rfl ?aP (fun _ hk=>hk.elim) ?aF ?aO ?aB ?aS ?aL ?_;(case aP=>exact rfl);(case aB=>exact dU);(case aF=>exact (fun _ _=>trivial));(case aO=>exact (aR_ j5.out));(case aS=>exact (aJ dU));(case aL=>have:=jt.out;omega);intro jT jU ho hb hg hat;rw [← jG.out] at ho;replace HB:=am (hb);have jH:=am (ho);clear j5 ho hb hg hat))
    go_ret
    exact ⟨_,gN,gH jH.out,dU⟩
   rw [if_neg ju] at H
   exact absurd H (by simp)
theorem bP.calls_all (k:Nat):bP.dJ k∧bL.dJ k:=by
 induction k using Nat.strongRecOn with
 | _ k ih=>exact ⟨bP.step k (ih_spec_l13Stmt:=fun m hm=>(ih m hm).1) (ih_spec_l13Block:=fun m hm=>(ih m hm).2),bL.step k (ih_spec_l13Stmt:=fun m hm=>(ih m hm).1) (ih_spec_l13Block:=fun m hm=>(ih m hm).2)⟩
theorem bP.calls (k:Nat):bP.dJ k:=(bP.calls_all k).1
theorem bL.calls (k:Nat):bL.dJ k:=(bP.calls_all k).2
theorem bK.mono_l:∀ k,(∀ y0 y1,LeO (bK.j0 k y0 y1) (bK.j0 (k + 1) y0 y1))∧(∀ y0 y1,LeO (bK.j1 k y0 y1) (bK.j1 (k + 1) y0 y1))∧(∀ y0 y1 y2,LeO (bK.l0 k y0 y1 y2) (bK.l0 (k + 1) y0 y1 y2))
 |0=>⟨fun _ _ r h=>by simp [bK.j0] at h,fun _ _ r h=>by simp [bK.j1] at h,fun _ _ _ r h=>by simp [bK.l0] at h⟩
 |k + 1=>by
  obtain ⟨ih0,ih1,ih2⟩:=bK.mono_l k
  refine ⟨?_,?_,?_⟩
  ·intro y0 y1
   unfold bK.j0
   exact mo_
  ·intro y0 y1
   unfold bK.j1
   exact mo_
  ·intro y0 y1 y2
   unfold bK.l0
   exact mo_
theorem bK.mono:∀ a0 k,LeO (bK.f k a0) (bK.f (k + 1) a0):=by
 intro a0 k
 obtain ⟨ih0,ih1,ih2⟩:=bK.mono_l k
 unfold bK.f
 exact mo_
theorem bK.calls (k:Nat) (a0:Int) (r:Int) (w:World) (h:bK.f k a0=some r):
  Calls Tryz.prog 98 #[.int .u8 a0] w fun e w'=>e= .returned (.int .i64 r)∧gQ w w':=by
 have H:(if a0≥48 then (bK.j0 k a0 (decide (a0≤57))) else (bK.j0 k a0 false))=some r:=h
 clear h
 have jk:=am H
 clear H
 go_enter Tryz.func98,Tryz.ntmps98
 go_upto_region 1 with (fail)
 go_cut [5] (fun v5 wc=>∃ (kq:Nat) (j7:Bool),v5= .bool j7∧Aside0 (bK.j0 kq a0 j7=some r)∧Aside0 (kq≤k)∧gQ w wc)
 case first=>
  have H:=jk.out
  clear jk
  by_cases c3:a0≥48
  ·rw [if_pos c3] at H
   have j5:decide (48≤a0)=true:=decide_eq_true c3
   clear c3
   (first|rw [j5]|(simp only [fI,fO];rw [j5])|skip)
   have H':=am H
   clear H
   go_wp2
   go_meet
   case rel=>exact ⟨_,(decide (a0≤57)),sd_,H',⟨by first|omega|exact Nat.le_refl _⟩,fK⟩
  rw [if_neg c3] at H
  have j5:decide (48≤a0)=false:=decide_eq_false c3
  clear c3
  (first|rw [j5]|(simp only [fI,fO];rw [j5])|skip)
  have H':=am H
  clear H
  go_wp2
  go_meet
  case rel=>exact ⟨_,(false),sd_,H',⟨by first|omega|exact Nat.le_refl _⟩,fK⟩
 case rest=>
  clear jk
  obtain ⟨kq,j7,rfl,HA,HJ1,⟨mc1,rfl⟩⟩:=hcut
  cases kq with
  |zero=>exact absurd HA.out (by simp [bK.j0])
  |succ jq=>
   have H:=HA.out
   clear HA
   simp only [bK.j0] at H
   by_cases c4:j7=true
   ·subst c4
    rw [if_pos rfl] at H
    obtain rfl:=Option.some.inj H
    go_wp2
    go_ret
    exact ⟨sd_,fK⟩
   replace c4:=Bool.eq_false_iff.mpr c4
   subst c4
   rw [if_neg (show ¬ (false=true) by decide)] at H
   have jl:=am H
   clear H
   go_upto_region 3 with (fail)
   go_cut [12] (fun jr wc=>∃ (kq:Nat) (j4:Bool),jr= .bool j4∧Aside0 (bK.j1 kq a0 j4=some r)∧Aside0 (kq≤jq)∧gQ w wc)
   case first=>
    have H:=jl.out
    clear jl
    by_cases c6:a0≥97
    ·rw [if_pos c6] at H
     have j6:decide (97≤a0)=true:=decide_eq_true c6
     clear c6
     (first|rw [j6]|(simp only [fI,fO];rw [j6])|skip)
     have H':=am H
     clear H
     go_wp2
     go_meet
     case rel=>exact ⟨_,(decide (a0≤122)),sd_,H',⟨by have:=HJ1.out;first|omega|exact Nat.le_refl _⟩,fK⟩
    rw [if_neg c6] at H
    have j6:decide (97≤a0)=false:=decide_eq_false c6
    clear c6
    (first|rw [j6]|(simp only [fI,fO];rw [j6])|skip)
    have H':=am H
    clear H
    go_wp2
    go_meet
    case rel=>exact ⟨_,(false),sd_,H',⟨by have:=HJ1.out;first|omega|exact Nat.le_refl _⟩,fK⟩
   case rest=>
    clear jl
    try clear c4
    obtain ⟨kq,j4,rfl,HA,HJ4,⟨mc4,rfl⟩⟩:=hcut
    cases kq with
    |zero=>exact absurd HA.out (by simp [bK.j1])
    |succ jn=>
     have H:=HA.out
     clear HA
     simp only [bK.j1] at H
     by_cases c7:j4=true
     ·subst c7
      rw [if_pos rfl] at H
      obtain rfl:=Option.some.inj H
      go_wp2
      go_ret
      exact ⟨sd_,fK⟩
     replace c7:=Bool.eq_false_iff.mpr c7
     subst c7
     rw [if_neg (show ¬ (false=true) by decide)] at H
     by_cases c8:a0=32
     ·rw [if_pos c8] at H
      have j9:(a0 == 32)=true:=beq_iff_eq.mpr c8
      have ja:(a0 != 32)=false:=bne_eq_false_iff_eq.mpr c8
      clear c8
      obtain rfl:=Option.some.inj H
      go_wp2
      go_ret
      exact ⟨sd_,fK⟩
     rw [if_neg c8] at H
     have j9:(a0 == 32)=false:=beq_eq_false_iff_ne.mpr c8
     have ja:(a0 != 32)=true:=bne_iff_ne.mpr c8
     by_cases c9:a0=10
     ·rw [if_pos c9] at H
      have jb:(a0 == 10)=true:=beq_iff_eq.mpr c9
      have jc:(a0 != 10)=false:=bne_eq_false_iff_eq.mpr c9
      clear c9
      obtain rfl:=Option.some.inj H
      go_wp2
      go_ret
      exact ⟨sd_,fK⟩
     rw [if_neg c9] at H
     have jb:(a0 == 10)=false:=beq_eq_false_iff_ne.mpr c9
     have jc:(a0 != 10)=true:=bne_iff_ne.mpr c9
     have H':=am H
     clear H
     go_wp2
     go_loopg [4] jn (fun kq v4 w'=>∃ (j3:Int),v4= .int .i64 j3∧Aside0 (bK.l0 kq a0 (⟨#[43,45,42,47,37,38,124,94,60,62,40,41,123,125,61,59]⟩:ByteArray) j3=some r)∧Aside0 (kq≤jn)∧gQ w w')
     case atStart=>exact ⟨(0),sd_,H',⟨Nat.le_refl _⟩,fK⟩
     case round=>
      clear H'
      try clear c4
      try clear c7
      try clear c8
      try clear j9
      try clear ja
      try clear c9
      try clear jb
      try clear jc
      obtain ⟨j3,rfl,HA,jo,⟨m3,rfl⟩⟩:=hrel
      cases gk with
      |zero=>exact absurd HA.out (by simp [bK.l0])
      |succ k3=>
       have H:=HA.out
       clear HA
       simp only [bK.l0] at H
       by_cases c10:j3 < ((⟨#[43,45,42,47,37,38,124,94,60,62,40,41,123,125,61,59]⟩:ByteArray).size:Int)
       ·rw [if_pos c10] at H
        have jd:decide (j3 < ((⟨#[43,45,42,47,37,38,124,94,60,62,40,41,123,125,61,59]⟩:ByteArray).size:Int))=true:=decide_eq_true c10
        have je:(j3 < 16)=True:=eq_true (show j3 < 16 from c10)
        clear c10
        by_cases jj:0≤j3
        ·rw [if_pos jj] at H
         have jp:decide (0≤j3)=true:=decide_eq_true jj
         clear jj
         by_cases j8:(bt (⟨#[43,45,42,47,37,38,124,94,60,62,40,41,123,125,61,59]⟩:ByteArray) j3)=a0
         ·rw [if_pos j8] at H
          have jf:((bt (⟨#[43,45,42,47,37,38,124,94,60,62,40,41,123,125,61,59]⟩:ByteArray) j3) == a0)=true:=beq_iff_eq.mpr j8
          have jg:((bt (⟨#[43,45,42,47,37,38,124,94,60,62,40,41,123,125,61,59]⟩:ByteArray) j3) != a0)=false:=bne_eq_false_iff_eq.mpr j8
          clear j8
          obtain rfl:=Option.some.inj H
          have jh:0≤(j3:Int):=of_decide_eq_true eB
          have ji:j3 < (16:Int):=of_decide_eq_true eB
          have jm:=rQ (⟨#[43,45,42,47,37,38,124,94,60,62,40,41,123,125,61,59]⟩:ByteArray) j3
          replace jh:=eq_true jh
          replace ji:=eq_true ji
          go_wp2
          go_ret
          exact ⟨sd_,fK⟩
         rw [if_neg j8] at H
         have jf:((bt (⟨#[43,45,42,47,37,38,124,94,60,62,40,41,123,125,61,59]⟩:ByteArray) j3) == a0)=false:=beq_eq_false_iff_ne.mpr j8
         have jg:((bt (⟨#[43,45,42,47,37,38,124,94,60,62,40,41,123,125,61,59]⟩:ByteArray) j3) != a0)=true:=bne_iff_ne.mpr j8
         have H':=am H
         clear H
         have jh:0≤(j3:Int):=of_decide_eq_true eB
         have ji:j3 < (16:Int):=of_decide_eq_true eB
         have jm:=rQ (⟨#[43,45,42,47,37,38,124,94,60,62,40,41,123,125,61,59]⟩:ByteArray) j3
         replace jh:=eq_true jh
         replace ji:=eq_true ji
         go_wp2
         go_roundg k3
         case measure=>have:=HJ1.out;have:=HJ4.out;have:=jo.out;omega
         case rel=>exact ⟨(wrap64 (j3 + 1)),sd_,H',⟨by have:=HJ1.out;have:=HJ4.out;have:=jo.out;omega⟩,fK⟩
        rw [if_neg jj] at H
        exact absurd H (by simp)
       rw [if_neg c10] at H
       have jd:decide (j3 < ((⟨#[43,45,42,47,37,38,124,94,60,62,40,41,123,125,61,59]⟩:ByteArray).size:Int))=false:=decide_eq_false c10
       have je:(j3 < 16)=False:=eq_false (show ¬ (j3 < 16) from c10)
       clear c10
       obtain rfl:=Option.some.inj H
       go_wp2
       go_ret
       exact ⟨sd_,fK⟩
theorem fP.mono_l:∀ k,(∀ y0 y1 y2,LeO (fP.l0 k y0 y1 y2) (fP.l0 (k + 1) y0 y1 y2))
 |0=>fun _ _ _ r h=>by simp [fP.l0] at h
 |k + 1=>by
  have ih0:=fP.mono_l k
  ·intro y0 y1 y2
   unfold fP.l0
   have m0:=@bK.mono
   exact mo_
theorem fP.mono:∀ a0 a1 k,LeO (fP.f k a0 a1) (fP.f (k + 1) a0 a1):=by
 intro a0 a1 k
 have ih0:=fP.mono_l k
 unfold fP.f
 have m0:=@bK.mono
 exact mo_
theorem fP.calls (k:Nat) (a0:ByteArray) (a1:Int) (r:Int) (w:World) (h:fP.f k a0 a1=some r):
  Calls Tryz.prog 99 #[.string a0, .int .i64 a1] w fun e w'=>e= .returned (.int .i64 r)∧gQ w w':=by
 have H:(fP.l0 k a0 a1 a1)=some r:=h
 clear h
 have H':=am H
 clear H
 go_enter Tryz.func99,Tryz.ntmps99
 go_wp2
 repeat (go_quiet (fail);try go_wp2)
 go_loopg [5] k (fun kq v5 w'=>∃ (j3:Int),v5= .int .i64 j3∧Aside0 (fP.l0 kq a0 a1 j3=some r)∧Aside0 (kq≤k)∧gQ w w')
 case atStart=>exact ⟨(a1),sd_,H',⟨Nat.le_refl _⟩,fK⟩
 case round=>
  clear H'
  obtain ⟨j3,rfl,HA,jc,⟨m1,rfl⟩⟩:=hrel
  cases gk with
  |zero=>exact absurd HA.out (by simp [fP.l0])
  |succ k1=>
   have H:=HA.out
   clear HA
   simp only [fP.l0] at H
   by_cases c3:j3 < (a0.size:Int)
   ·rw [if_pos c3] at H
    have jb:decide (j3 < (a0.size:Int))=true:=decide_eq_true c3
    clear c3
    by_cases c4:0≤j3
    ·rw [if_pos c4] at H
     have je:decide (0≤j3)=true:=decide_eq_true c4
     clear c4
     obtain ⟨j4,A6,H⟩:=bsa H
     (try dsimp only at H)
     by_cases c7:0≤a1
     ·rw [if_pos c7] at H
      have jf:decide (0≤a1)=true:=decide_eq_true c7
      clear c7
      by_cases c8:a1 < (a0.size:Int)
      ·rw [if_pos c8] at H
       have jg:decide (a1 < (a0.size:Int))=true:=decide_eq_true c8
       clear c8
       obtain ⟨j5,jd,H⟩:=bsm H
       (try dsimp only at H)
       have j7:=am jd
       clear jd
       by_cases j6:j4=j5
       ·rw [if_pos j6] at H
        have j8:(j4 == j5)=true:=beq_iff_eq.mpr j6
        have j9:(j4 != j5)=false:=bne_eq_false_iff_eq.mpr j6
        clear j6
        have H':=am H
        clear H
        have p5:0≤(j3:Int):=of_decide_eq_true eB
        have q5:j3 < (a0.size:Int):=of_decide_eq_true eB
        have jh:=rQ a0 j3
        replace p5:=eq_true p5
        replace q5:=eq_true q5
        go_wp2_with (first|(go_at_call 98;(with_reducible refine (bK.calls k1 (bt a0 j3) j4 _ A6.out).mono ?_);rintro e w' ⟨rfl,⟨nd,rfl⟩⟩;(try first|exact ⟨rfl,_,World.drewN_drewN _ _ _⟩|exact ⟨rfl,_,Eq.trans (World.drewN_drewN _ _ _) (congrArg (World.drewN _) (Nat.add_assoc _ _ _))⟩);have p9:0≤(a1:Int):=of_decide_eq_true eB;have q9:a1 < (a0.size:Int):=of_decide_eq_true eB;have ja:=rQ a0 a1;replace p9:=eq_true p9;replace q9:=eq_true q9)|(go_at_call 98;(with_reducible refine (bK.calls k1 (bt a0 a1) j5 _ j7.out).mono ?_);rintro e w' ⟨rfl,⟨nd,rfl⟩⟩;(try first|exact ⟨rfl,_,World.drewN_drewN _ _ _⟩|exact ⟨rfl,_,Eq.trans (World.drewN_drewN _ _ _) (congrArg (World.drewN _) (Nat.add_assoc _ _ _))⟩)))
        repeat (go_quiet (first|(go_at_call 98;(with_reducible refine (bK.calls k1 (bt a0 j3) j4 _ A6.out).mono ?_);rintro e w' ⟨rfl,⟨nd,rfl⟩⟩;(try first|exact ⟨rfl,_,World.drewN_drewN _ _ _⟩|exact ⟨rfl,_,Eq.trans (World.drewN_drewN _ _ _) (congrArg (World.drewN _) (Nat.add_assoc _ _ _))⟩);have p9:0≤(a1:Int):=of_decide_eq_true eB;have q9:a1 < (a0.size:Int):=of_decide_eq_true eB;have ja:=rQ a0 a1;replace p9:=eq_true p9;replace q9:=eq_true q9)|(go_at_call 98;(with_reducible refine (bK.calls k1 (bt a0 a1) j5 _ j7.out).mono ?_);rintro e w' ⟨rfl,⟨nd,rfl⟩⟩;(try first|exact ⟨rfl,_,World.drewN_drewN _ _ _⟩|exact ⟨rfl,_,Eq.trans (World.drewN_drewN _ _ _) (congrArg (World.drewN _) (Nat.add_assoc _ _ _))⟩)));try go_wp2_with (first|(go_at_call 98;(with_reducible refine (bK.calls k1 (bt a0 j3) j4 _ A6.out).mono ?_);rintro e w' ⟨rfl,⟨nd,rfl⟩⟩;(try first|exact ⟨rfl,_,World.drewN_drewN _ _ _⟩|exact ⟨rfl,_,Eq.trans (World.drewN_drewN _ _ _) (congrArg (World.drewN _) (Nat.add_assoc _ _ _))⟩);have p9:0≤(a1:Int):=of_decide_eq_true eB;have q9:a1 < (a0.size:Int):=of_decide_eq_true eB;have ja:=rQ a0 a1;replace p9:=eq_true p9;replace q9:=eq_true q9)|(go_at_call 98;(with_reducible refine (bK.calls k1 (bt a0 a1) j5 _ j7.out).mono ?_);rintro e w' ⟨rfl,⟨nd,rfl⟩⟩;(try first|exact ⟨rfl,_,World.drewN_drewN _ _ _⟩|exact ⟨rfl,_,Eq.trans (World.drewN_drewN _ _ _) (congrArg (World.drewN _) (Nat.add_assoc _ _ _))⟩))))
        go_roundg k1
        case measure=>have:=jc.out;omega
        case rel=>exact ⟨(wrap64 (j3 + 1)),sd_,H',⟨by have:=jc.out;omega⟩,fK⟩
       rw [if_neg j6] at H
       have j8:(j4 == j5)=false:=beq_eq_false_iff_ne.mpr j6
       have j9:(j4 != j5)=true:=bne_iff_ne.mpr j6
       obtain rfl:=Option.some.inj H
       have p5:0≤(j3:Int):=of_decide_eq_true eB
       have q5:j3 < (a0.size:Int):=of_decide_eq_true eB
       have jh:=rQ a0 j3
       replace p5:=eq_true p5
       replace q5:=eq_true q5
       go_wp2_with (first|(go_at_call 98;(with_reducible refine (bK.calls k1 (bt a0 j3) j4 _ A6.out).mono ?_);rintro e w' ⟨rfl,⟨nd,rfl⟩⟩;(try first|exact ⟨rfl,_,World.drewN_drewN _ _ _⟩|exact ⟨rfl,_,Eq.trans (World.drewN_drewN _ _ _) (congrArg (World.drewN _) (Nat.add_assoc _ _ _))⟩);have p9:0≤(a1:Int):=of_decide_eq_true eB;have q9:a1 < (a0.size:Int):=of_decide_eq_true eB;have ja:=rQ a0 a1;replace p9:=eq_true p9;replace q9:=eq_true q9)|(go_at_call 98;(with_reducible refine (bK.calls k1 (bt a0 a1) j5 _ j7.out).mono ?_);rintro e w' ⟨rfl,⟨nd,rfl⟩⟩;(try first|exact ⟨rfl,_,World.drewN_drewN _ _ _⟩|exact ⟨rfl,_,Eq.trans (World.drewN_drewN _ _ _) (congrArg (World.drewN _) (Nat.add_assoc _ _ _))⟩)))
       repeat (go_quiet (first|(go_at_call 98;(with_reducible refine (bK.calls k1 (bt a0 j3) j4 _ A6.out).mono ?_);rintro e w' ⟨rfl,⟨nd,rfl⟩⟩;(try first|exact ⟨rfl,_,World.drewN_drewN _ _ _⟩|exact ⟨rfl,_,Eq.trans (World.drewN_drewN _ _ _) (congrArg (World.drewN _) (Nat.add_assoc _ _ _))⟩);have p9:0≤(a1:Int):=of_decide_eq_true eB;have q9:a1 < (a0.size:Int):=of_decide_eq_true eB;have ja:=rQ a0 a1;replace p9:=eq_true p9;replace q9:=eq_true q9)|(go_at_call 98;(with_reducible refine (bK.calls k1 (bt a0 a1) j5 _ j7.out).mono ?_);rintro e w' ⟨rfl,⟨nd,rfl⟩⟩;(try first|exact ⟨rfl,_,World.drewN_drewN _ _ _⟩|exact ⟨rfl,_,Eq.trans (World.drewN_drewN _ _ _) (congrArg (World.drewN _) (Nat.add_assoc _ _ _))⟩)));try go_wp2_with (first|(go_at_call 98;(with_reducible refine (bK.calls k1 (bt a0 j3) j4 _ A6.out).mono ?_);rintro e w' ⟨rfl,⟨nd,rfl⟩⟩;(try first|exact ⟨rfl,_,World.drewN_drewN _ _ _⟩|exact ⟨rfl,_,Eq.trans (World.drewN_drewN _ _ _) (congrArg (World.drewN _) (Nat.add_assoc _ _ _))⟩);have p9:0≤(a1:Int):=of_decide_eq_true eB;have q9:a1 < (a0.size:Int):=of_decide_eq_true eB;have ja:=rQ a0 a1;replace p9:=eq_true p9;replace q9:=eq_true q9)|(go_at_call 98;(with_reducible refine (bK.calls k1 (bt a0 a1) j5 _ j7.out).mono ?_);rintro e w' ⟨rfl,⟨nd,rfl⟩⟩;(try first|exact ⟨rfl,_,World.drewN_drewN _ _ _⟩|exact ⟨rfl,_,Eq.trans (World.drewN_drewN _ _ _) (congrArg (World.drewN _) (Nat.add_assoc _ _ _))⟩))))
       go_ret
       exact ⟨sd_,fK⟩
      rw [if_neg c8] at H
      exact absurd H (by simp)
     rw [if_neg c7] at H
     exact absurd H (by simp)
    rw [if_neg c4] at H
    exact absurd H (by simp)
   rw [if_neg c3] at H
   have jb:decide (j3 < (a0.size:Int))=false:=decide_eq_false c3
   clear c3
   obtain rfl:=Option.some.inj H
   go_wp2
   repeat (go_quiet (fail);try go_wp2)
   go_ret
   exact ⟨sd_,fK⟩
theorem uS.calls (a0:ByteArray) (r:Bool) (w:World) (h:uS.f a0=some r):
  Calls Tryz.prog 100 #[.string a0] w fun e w'=>e= .returned (.bool r)∧gQ w w':=by
 unfold uS.f at h
 have H:=h
 clear h
 by_cases c2:a0.toList=([60,60]:List UInt8)
 ·rw [if_pos c2] at H
  have j3:(a0.toList == ([60,60]:List UInt8))=true:=beq_iff_eq.mpr c2
  have j4:(a0.toList != ([60,60]:List UInt8))=false:=bne_eq_false_iff_eq.mpr c2
  clear c2
  obtain rfl:=Option.some.inj H
  go_enter Tryz.func100,Tryz.ntmps100
  go_wp2
  go_ret
  exact ⟨sd_,fK⟩
 rw [if_neg c2] at H
 have j3:(a0.toList == ([60,60]:List UInt8))=false:=beq_eq_false_iff_ne.mpr c2
 have j4:(a0.toList != ([60,60]:List UInt8))=true:=bne_iff_ne.mpr c2
 by_cases c3:a0.toList=([62,62]:List UInt8)
 ·rw [if_pos c3] at H
  have j5:(a0.toList == ([62,62]:List UInt8))=true:=beq_iff_eq.mpr c3
  have j6:(a0.toList != ([62,62]:List UInt8))=false:=bne_eq_false_iff_eq.mpr c3
  clear c3
  obtain rfl:=Option.some.inj H
  go_enter Tryz.func100,Tryz.ntmps100
  go_wp2
  go_ret
  exact ⟨sd_,fK⟩
 rw [if_neg c3] at H
 have j5:(a0.toList == ([62,62]:List UInt8))=false:=beq_eq_false_iff_ne.mpr c3
 have j6:(a0.toList != ([62,62]:List UInt8))=true:=bne_iff_ne.mpr c3
 obtain rfl:=Option.some.inj H
 go_enter Tryz.func100,Tryz.ntmps100
 go_wp2
 go_ret
 exact ⟨sd_,fK⟩
theorem eD.mono_l:∀ k,(∀ y0 y1 y2 y3,LeO (eD.j0 k y0 y1 y2 y3) (eD.j0 (k + 1) y0 y1 y2 y3))∧(∀ y0 y1 y2,LeO (eD.j1 k y0 y1 y2) (eD.j1 (k + 1) y0 y1 y2))
 |0=>⟨fun _ _ _ _ r h=>by simp [eD.j0] at h,fun _ _ _ r h=>by simp [eD.j1] at h⟩
 |k + 1=>by
  obtain ⟨ih0,ih1⟩:=eD.mono_l k
  refine ⟨?_,?_⟩
  ·intro y0 y1 y2 y3
   unfold eD.j0
   have m0:=@bK.mono
   have m1:=@fP.mono
   exact mo_
  ·intro y0 y1 y2
   unfold eD.j1
   have m0:=@bK.mono
   have m1:=@fP.mono
   exact mo_
theorem eD.mono:∀ a0 a1 k,LeO (eD.f k a0 a1) (eD.f (k + 1) a0 a1):=by
 intro a0 a1 k
 obtain ⟨ih0,ih1⟩:=eD.mono_l k
 unfold eD.f
 have m0:=@bK.mono
 have m1:=@fP.mono
 exact mo_
theorem eD.calls (k:Nat) (a0:ByteArray) (a1:Int) (r:Int) (w:World) (h:eD.f k a0 a1=some r):
  Calls Tryz.prog 75 #[.string a0, .int .i64 a1] w fun e w'=>e= .returned (.int .i64 r)∧gQ w w':=by
 unfold eD.f at h
 have H:=h
 clear h
 by_cases c3:0≤a1
 ·rw [if_pos c3] at H
  have je:decide (0≤a1)=true:=decide_eq_true c3
  clear c3
  by_cases c4:a1 < (a0.size:Int)
  ·rw [if_pos c4] at H
   have jf:decide (a1 < (a0.size:Int))=true:=decide_eq_true c4
   clear c4
   obtain ⟨j6,A6,H⟩:=bsa H
   (try dsimp only at H)
   have jp:=am H
   clear H
   have p5:0≤(a1:Int):=of_decide_eq_true eB
   have q5:a1 < (a0.size:Int):=of_decide_eq_true eB
   have js:=rQ a0 a1
   replace p5:=eq_true p5
   replace q5:=eq_true q5
   go_enter Tryz.func75,Tryz.ntmps75
   go_upto_region 2 with (first|((with_reducible refine aD (f:=98) rfl ?_);refine gl_ 9 Tryz.func98 #[.int .u8 (bt a0 a1)] ?_;(with_reducible refine (bK.calls k (bt a0 a1) j6 _ A6.out).mono ?_);rintro e w' ⟨rfl,⟨nd,rfl⟩⟩;refine ⟨_,rfl,?_⟩))
   (try simp only [Act.put,List.setIfInBounds_toArray,List.set_cons_zero,List.set_cons_succ])
   go_cut [15] (fun jE wc=>∃ (kq:Nat) (j5:Bool),jE= .bool j5∧Aside0 (eD.j0 kq a0 a1 j6 j5=some r)∧Aside0 (kq≤k)∧gQ w wc)
   case first=>
    have H:=jp.out
    clear jp
    by_cases c8:j6=1
    ·rw [if_pos c8] at H
     have j7:(j6 == 1)=true:=beq_iff_eq.mpr c8
     have jq:(j6 != 1)=false:=bne_eq_false_iff_eq.mpr c8
     clear c8
     (first|rw [j7]|(simp only [fI,fO];rw [j7])|skip)
     have H':=am H
     clear H
     go_wp2
     go_meet
     case rel=>exact ⟨_,(true),sd_,H',⟨by first|omega|exact Nat.le_refl _⟩,fK⟩
    rw [if_neg c8] at H
    have j7:(j6 == 1)=false:=beq_eq_false_iff_ne.mpr c8
    have jq:(j6 != 1)=true:=bne_iff_ne.mpr c8
    (first|rw [j7]|(simp only [fI,fO];rw [j7])|skip)
    have H':=am H
    clear H
    go_wp2
    go_meet
    case rel=>exact ⟨_,((j6 == 2)),sd_,H',⟨by first|omega|exact Nat.le_refl _⟩,fK⟩
   case rest=>
    clear jp
    try clear c3
    try clear je
    try clear c4
    try clear jf
    try clear p5
    try clear q5
    try clear js
    try clear p5
    try clear q5
    obtain ⟨kq,j5,rfl,HA,HJ6,⟨mc6,rfl⟩⟩:=hcut
    cases kq with
    |zero=>exact absurd HA.out (by simp [eD.j0])
    |succ jt=>
     have H:=HA.out
     clear HA
     simp only [eD.j0] at H
     by_cases c9:j5=true
     ·subst c9
      rw [if_pos rfl] at H
      obtain ⟨jF,ju,H⟩:=bsm H
      (try dsimp only at H)
      have jG:=am ju
      clear ju
      obtain rfl:=Option.some.inj H
      go_wp2_with (first|((with_reducible refine aD (f:=99) rfl ?_);refine gl_ 18 Tryz.func99 #[.string a0, .int .i64 a1] ?_;(with_reducible refine (fP.calls jt a0 a1 jF _ jG.out).mono ?_);rintro e w' ⟨rfl,⟨nd,rfl⟩⟩;refine ⟨_,rfl,?_⟩))
      go_ret
      exact ⟨sd_,fK⟩
     replace c9:=Bool.eq_false_iff.mpr c9
     subst c9
     rw [if_neg (show ¬ (false=true) by decide)] at H
     by_cases j8:j6=4
     ·rw [if_pos j8] at H
      have j9:(j6 == 4)=true:=beq_iff_eq.mpr j8
      have ja:(j6 != 4)=false:=bne_eq_false_iff_eq.mpr j8
      clear j8
      have jb:=am H
      clear H
      go_upto_region 6 with (fail)
      go_cut [33] (fun jH wc=>∃ (kq:Nat) (j3:Bool),jH= .bool j3∧Aside0 (eD.j1 kq a0 a1 j3=some r)∧Aside0 (kq≤jt)∧gQ w wc)
      case first=>
       have H:=jb.out
       clear jb
       by_cases jd:(wrap64 (a1 + 2))≤(a0.size:Int)
       ·rw [if_pos jd] at H
        have j4:decide ((wrap64 (a1 + 2))≤(a0.size:Int))=true:=decide_eq_true jd
        clear jd
        (first|rw [j4]|(simp only [fI,fO];rw [j4])|skip)
        by_cases jg:0≤a1
        ·rw [if_pos jg] at H
         have jv:=eq_true jg
         have jw:decide (0≤a1)=true:=decide_eq_true jg
         clear jg
         by_cases jl:a1≤(wrap64 (a1 + 2))
         ·rw [if_pos jl] at H
          have jx:=eq_true jl
          have jy:decide (a1≤(wrap64 (a1 + 2)))=true:=decide_eq_true jl
          have jz:=eq_true (of_decide_eq_true eB:(wrap64 (a1 + 2))≤(a0.size:Int))
          obtain ⟨jA,jB,H⟩:=bsm H
          (try dsimp only at H)
          have jI:=am jB
          clear jB
          have H':=am H
          clear H
          go_wp2_with (first|(go_at_call 100;(with_reducible refine (uS.calls (a0.extract (a1:Int).toNat ((wrap64 (a1 + 2)):Int).toNat) jA _ jI.out).mono ?_);rintro e w' ⟨rfl,⟨nd,rfl⟩⟩))
          go_meet
          case rel=>exact ⟨_,(jA),sd_,H',⟨by have:=HJ6.out;first|omega|exact Nat.le_refl _⟩,fK⟩
         rw [if_neg jl] at H
         exact absurd H (by simp)
        rw [if_neg jg] at H
        exact absurd H (by simp)
       rw [if_neg jd] at H
       have j4:decide ((wrap64 (a1 + 2))≤(a0.size:Int))=false:=decide_eq_false jd
       clear jd
       (first|rw [j4]|(simp only [fI,fO];rw [j4])|skip)
       have H':=am H
       clear H
       go_wp2
       go_meet
       case rel=>exact ⟨_,(false),sd_,H',⟨by have:=HJ6.out;first|omega|exact Nat.le_refl _⟩,fK⟩
      case rest=>
       clear jb
       try clear c3
       try clear je
       try clear c4
       try clear jf
       try clear p5
       try clear q5
       try clear js
       try clear c9
       try clear j8
       try clear j9
       try clear ja
       try clear p5
       try clear q5
       obtain ⟨kq,j3,rfl,HA,HJ11,⟨mc11,rfl⟩⟩:=hcut
       cases kq with
       |zero=>exact absurd HA.out (by simp [eD.j1])
       |succ jJ=>
        have H:=HA.out
        clear HA
        simp only [eD.j1] at H
        by_cases jm:j3=true
        ·subst jm
         rw [if_pos rfl] at H
         obtain rfl:=Option.some.inj H
         go_wp2
         go_ret
         exact ⟨sd_,fK⟩
        replace jm:=Bool.eq_false_iff.mpr jm
        subst jm
        rw [if_neg (show ¬ (false=true) by decide)] at H
        by_cases jn:0≤a1
        ·rw [if_pos jn] at H
         have jC:decide (0≤a1)=true:=decide_eq_true jn
         clear jn
         by_cases jo:a1 < (a0.size:Int)
         ·rw [if_pos jo] at H
          have jD:decide (a1 < (a0.size:Int))=true:=decide_eq_true jo
          clear jo
          by_cases jc:(bt a0 a1)=62
          ·rw [if_pos jc] at H
           have jh:((bt a0 a1) == 62)=true:=beq_iff_eq.mpr jc
           have ji:((bt a0 a1) != 62)=false:=bne_eq_false_iff_eq.mpr jc
           clear jc
           obtain rfl:=Option.some.inj H
           have jj:0≤(a1:Int):=of_decide_eq_true eB
           have jk:a1 < (a0.size:Int):=of_decide_eq_true eB
           have jr:=rQ a0 a1
           replace jj:=eq_true jj
           replace jk:=eq_true jk
           go_wp2
           go_ret
           exact ⟨sd_,fK⟩
          rw [if_neg jc] at H
          have jh:((bt a0 a1) == 62)=false:=beq_eq_false_iff_ne.mpr jc
          have ji:((bt a0 a1) != 62)=true:=bne_iff_ne.mpr jc
          obtain rfl:=Option.some.inj H
          have jj:0≤(a1:Int):=of_decide_eq_true eB
          have jk:a1 < (a0.size:Int):=of_decide_eq_true eB
          have jr:=rQ a0 a1
          replace jj:=eq_true jj
          replace jk:=eq_true jk
          go_wp2
          go_ret
          exact ⟨sd_,fK⟩
         rw [if_neg jo] at H
         exact absurd H (by simp)
        rw [if_neg jn] at H
        exact absurd H (by simp)
     rw [if_neg j8] at H
     have j9:(j6 == 4)=false:=beq_eq_false_iff_ne.mpr j8
     have ja:(j6 != 4)=true:=bne_iff_ne.mpr j8
     obtain rfl:=Option.some.inj H
     go_wp2
     go_ret
     exact ⟨sd_,fK⟩
  rw [if_neg c4] at H
  exact absurd H (by simp)
 rw [if_neg c3] at H
 exact absurd H (by simp)
theorem gK.mono:∀ a0 k,LeO (gK.f k a0) (gK.f (k + 1) a0):=by
 intro a0 k
 unfold gK.f
 have m0:=@eD.mono
 exact mo_
theorem gK.calls (k:Nat) (a0:ByteArray) (r:Bool) (w:World) (h:gK.f k a0=some r):
  Calls Tryz.prog 50 #[.string a0] w fun e w'=>e= .returned (.bool r)∧gQ w w':=by
 unfold gK.f at h
 have H:=h
 clear h
 by_cases c2:a0.toList=([]:List UInt8)
 ·rw [if_pos c2] at H
  have j3:(a0.toList == ([]:List UInt8))=true:=beq_iff_eq.mpr c2
  have j4:(a0.toList != ([]:List UInt8))=false:=bne_eq_false_iff_eq.mpr c2
  clear c2
  obtain rfl:=Option.some.inj H
  go_enter Tryz.func50,Tryz.ntmps50
  go_wp2
  go_ret
  exact ⟨sd_,fK⟩
 rw [if_neg c2] at H
 have j3:(a0.toList == ([]:List UInt8))=false:=beq_eq_false_iff_ne.mpr c2
 have j4:(a0.toList != ([]:List UInt8))=true:=bne_iff_ne.mpr c2
 obtain ⟨j5,A3,H⟩:=bsa H
 (try dsimp only at H)
 obtain rfl:=Option.some.inj H
 go_enter Tryz.func50,Tryz.ntmps50
 go_wp2_with (first|(go_at_call 75;(with_reducible refine (eD.calls k a0 0 j5 _ A3.out).mono ?_);rintro e w' ⟨rfl,⟨nd,rfl⟩⟩))
 go_ret
 exact ⟨sd_,fK⟩
theorem dI.mono_l:∀ k,(∀ y0 y1 y2,LeO (dI.l0 k y0 y1 y2) (dI.l0 (k + 1) y0 y1 y2))
 |0=>fun _ _ _ r h=>by simp [dI.l0] at h
 |k + 1=>by
  have ih0:=dI.mono_l k
  ·intro y0 y1 y2
   unfold dI.l0
   have m0:=@gK.mono
   exact mo_
theorem dI.mono:∀ a0 k,LeO (dI.f k a0) (dI.f (k + 1) a0):=by
 intro a0 k
 have ih0:=dI.mono_l k
 unfold dI.f
 have m0:=@gK.mono
 exact mo_
theorem dI.calls (k:Nat) (A0:Option Addr) (c0:Nat) (l0:List ByteArray) (r:ByteArray) (w:World) (hr0:Kd.C Kd.string w A0 l0.length l0) (hc0:l0.length≤c0) (h:dI.f k l0=some r):
  Calls Tryz.prog 26 #[.slice A0 l0.length c0] w fun e w'=>e= .returned (.string r)∧gQ w w':=by
 have j9:=am hr0
 have jB:=am hc0
 clear hr0 hc0
 have H:(dI.l0 k l0 (⟨#[]⟩:ByteArray) 0)=some r:=h
 clear h
 have H':=am H
 clear H
 go_enter Tryz.func26,Tryz.ntmps26
 go_wp2
 go_loopg [3,4] k (fun kq v3 v4 w'=>∃ (j4:ByteArray) (j3:Int),v3= .string j4∧v4= .int .i64 j3∧Aside0 (dI.l0 kq l0 j4 j3=some r)∧Aside0 (kq≤k)∧gQ w w')
 case atStart=>exact ⟨((⟨#[]⟩:ByteArray)),(0),sd_,sd_,H',⟨Nat.le_refl _⟩,fK⟩
 case round=>
  clear H'
  obtain ⟨j4,j3,rfl,rfl,HA,jb,⟨m1,rfl⟩⟩:=hrel
  cases gk with
  |zero=>exact absurd HA.out (by simp [dI.l0])
  |succ k1=>
   have H:=HA.out
   clear HA
   simp only [dI.l0] at H
   by_cases c2:j3 < (l0.length:Int)
   ·rw [if_pos c2] at H
    have jc:decide (j3 < (l0.length:Int))=true:=decide_eq_true c2
    clear c2
    by_cases c3:0≤j3
    ·rw [if_pos c3] at H
     have jm:decide (0≤j3)=true:=decide_eq_true c3
     clear c3
     obtain ⟨jn,A4,H⟩:=bsa H
     (try dsimp only at H)
     by_cases c5:jn=true
     ·subst c5
      rw [if_pos rfl] at H
      by_cases c6:j3 > 0
      ·rw [if_pos c6] at H
       have jd:decide (0 < j3)=true:=decide_eq_true c6
       clear c6
       by_cases c7:j4.size + 1≤9223372036854775807
       ·rw [if_pos c7] at H
        have jo:=eq_true c7
        have jp:decide (j4.size + 1≤9223372036854775807)=true:=decide_eq_true c7
        try have jq:(9223372036854775807 < j4.size + 1)=False:=eq_false (Nat.not_lt.2 c7)
        by_cases c8:(j4 ++ (⟨#[32]⟩:ByteArray)).size + (nL ByteArray.empty l0 j3).size≤9223372036854775807
        ·rw [if_pos c8] at H
         have jr:=eq_true c8
         have js:decide ((j4 ++ (⟨#[32]⟩:ByteArray)).size + (nL ByteArray.empty l0 j3).size≤9223372036854775807)=true:=decide_eq_true c8
         try have jt:(9223372036854775807 < (j4 ++ (⟨#[32]⟩:ByteArray)).size + (nL ByteArray.empty l0 j3).size)=False:=eq_false (Nat.not_lt.2 c8)
         have jC:j4.size + 1 + (nL ByteArray.empty l0 j3).size≤9223372036854775807:=by have h_:=c8;simp only [ByteArray.size_append] at h_;exact h_
         have ju:(9223372036854775807 < j4.size + 1 + (nL ByteArray.empty l0 j3).size)=False:=eq_false (by omega)
         have jv:(j4.size + 1 + (nL ByteArray.empty l0 j3).size≤9223372036854775807)=True:=eq_true (by omega)
         have H':=am H
         clear H
         have j5:0≤(j3:Int):=of_decide_eq_true eB
         have j6:j3 < (l0.length:Int):=of_decide_eq_true eB
         obtain ⟨j8,ja,j7⟩:=Kd.nW j9.out j3 j5 j6
         cases ja
         replace j5:=eq_true j5
         replace j6:=eq_true j6
         go_wp2_with (first|((with_reducible refine aD (f:=50) rfl ?_);refine gl_ 15 Tryz.func50 #[.string (nL ByteArray.empty l0 j3)] ?_;(with_reducible refine (gK.calls k1 (nL ByteArray.empty l0 j3) true _ A4.out).mono ?_);rintro e w' ⟨rfl,⟨nd,rfl⟩⟩;refine ⟨_,rfl,?_⟩;have je:0≤(j3:Int):=of_decide_eq_true eB;have jf:j3 < (l0.length:Int):=of_decide_eq_true eB;obtain ⟨jg,jw,jh⟩:=Kd.nW j9.out j3 je jf;obtain rfl:j8=jg:=(by injection jw);replace je:=eq_true je;replace jf:=eq_true jf))
         go_roundg k1
         case measure=>have:=jb.out;omega
         case rel=>exact ⟨((j4 ++ (⟨#[32]⟩:ByteArray)) ++ (nL ByteArray.empty l0 j3)),(wrap64 (j3 + 1)),sd_,sd_,H',⟨by have:=jb.out;omega⟩,fK⟩
        rw [if_neg c8] at H
        exact absurd H (by simp)
       rw [if_neg c7] at H
       exact absurd H (by simp)
      rw [if_neg c6] at H
      have jd:decide (0 < j3)=false:=decide_eq_false c6
      clear c6
      by_cases c9:j4.size + (nL ByteArray.empty l0 j3).size≤9223372036854775807
      ·rw [if_pos c9] at H
       have jx:=eq_true c9
       have jy:decide (j4.size + (nL ByteArray.empty l0 j3).size≤9223372036854775807)=true:=decide_eq_true c9
       try have jz:(9223372036854775807 < j4.size + (nL ByteArray.empty l0 j3).size)=False:=eq_false (Nat.not_lt.2 c9)
       have H':=am H
       clear H
       have j5:0≤(j3:Int):=of_decide_eq_true eB
       have j6:j3 < (l0.length:Int):=of_decide_eq_true eB
       obtain ⟨j8,ja,j7⟩:=Kd.nW j9.out j3 j5 j6
       cases ja
       replace j5:=eq_true j5
       replace j6:=eq_true j6
       go_wp2_with (first|((with_reducible refine aD (f:=50) rfl ?_);refine gl_ 15 Tryz.func50 #[.string (nL ByteArray.empty l0 j3)] ?_;(with_reducible refine (gK.calls k1 (nL ByteArray.empty l0 j3) true _ A4.out).mono ?_);rintro e w' ⟨rfl,⟨nd,rfl⟩⟩;refine ⟨_,rfl,?_⟩;have ji:0≤(j3:Int):=of_decide_eq_true eB;have jj:j3 < (l0.length:Int):=of_decide_eq_true eB;obtain ⟨jk,jA,jl⟩:=Kd.nW j9.out j3 ji jj;obtain rfl:j8=jk:=(by injection jA);replace ji:=eq_true ji;replace jj:=eq_true jj))
       go_roundg k1
       case measure=>have:=jb.out;omega
       case rel=>exact ⟨(j4 ++ (nL ByteArray.empty l0 j3)),(wrap64 (j3 + 1)),sd_,sd_,H',⟨by have:=jb.out;omega⟩,fK⟩
      rw [if_neg c9] at H
      exact absurd H (by simp)
     replace c5:=Bool.eq_false_iff.mpr c5
     subst c5
     rw [if_neg (show ¬ (false=true) by decide)] at H
     obtain rfl:=Option.some.inj H
     have j5:0≤(j3:Int):=of_decide_eq_true eB
     have j6:j3 < (l0.length:Int):=of_decide_eq_true eB
     obtain ⟨j8,ja,j7⟩:=Kd.nW j9.out j3 j5 j6
     cases ja
     replace j5:=eq_true j5
     replace j6:=eq_true j6
     go_wp2_with (first|((with_reducible refine aD (f:=50) rfl ?_);refine gl_ 15 Tryz.func50 #[.string (nL ByteArray.empty l0 j3)] ?_;(with_reducible refine (gK.calls k1 (nL ByteArray.empty l0 j3) false _ A4.out).mono ?_);rintro e w' ⟨rfl,⟨nd,rfl⟩⟩;refine ⟨_,rfl,?_⟩))
     go_ret
     exact ⟨sd_,fK⟩
    rw [if_neg c3] at H
    exact absurd H (by simp)
   rw [if_neg c2] at H
   have jc:decide (j3 < (l0.length:Int))=false:=decide_eq_false c2
   clear c2
   obtain rfl:=Option.some.inj H
   go_wp2
   go_ret
   exact ⟨sd_,fK⟩
theorem bB.mono_l:∀ k,(∀ y0 y1 y2 y3,LeO (bB.l0 k y0 y1 y2 y3) (bB.l0 (k + 1) y0 y1 y2 y3))∧(∀ y0 y1 y2 y3,LeO (bB.l1 k y0 y1 y2 y3) (bB.l1 (k + 1) y0 y1 y2 y3))
 |0=>⟨fun _ _ _ _ r h=>by simp [bB.l0] at h,fun _ _ _ _ r h=>by simp [bB.l1] at h⟩
 |k + 1=>by
  obtain ⟨ih0,ih1⟩:=bB.mono_l k
  refine ⟨?_,?_⟩
  ·intro y0 y1 y2 y3
   unfold bB.l0
   have m0:=@aX.mono
   have m1:=@dI.mono
   have m2:=@bL.mono
   have m3:=@dX.mono
   exact mo_
  ·intro y0 y1 y2 y3
   unfold bB.l1
   have m0:=@aX.mono
   have m1:=@dI.mono
   have m2:=@bL.mono
   have m3:=@dX.mono
   exact mo_
theorem bB.mono:∀ a0 a1 k,LeO (bB.f k a0 a1) (bB.f (k + 1) a0 a1):=by
 intro a0 a1 k
 obtain ⟨ih0,ih1⟩:=bB.mono_l k
 unfold bB.f
 have m0:=@aX.mono
 have m1:=@dI.mono
 have m2:=@bL.mono
 have m3:=@dX.mono
 exact mo_
theorem bB.calls (k:Nat) (jb:Option Addr) (j9:Nat) (j5:List Int) (jc:Option Addr) (ja:Nat) (j4:List (List (S58))) (r:ByteArray) (w:World) (hr0_0:Kd.C (Kd.int .i64) w jb j5.length j5) (hc0_0:j5.length≤j9) (hr0_1:Kd.C (Kd.slice 58 k58) w jc j4.length j4) (hc0_1:j4.length≤ja) (h:bB.f k j5 j4=some r):
  Calls Tryz.prog 9 #[.agg #[.slice jb j5.length j9, .slice jc j4.length ja]] w fun e w'=>e= .returned (.string r)∧Below w.heap.size w w':=by
 have hu26:=Tryz.underlying26
 have jj:=am hr0_0
 have jv:=am hc0_0
 clear hr0_0 hc0_0
 have jk:=am hr0_1
 have jw:=am hc0_1
 clear hr0_1 hc0_1
 have HB:=am (Below.refl w.heap.size w)
 unfold bB.f at h
 have H:=h
 clear h
 obtain ⟨qC,A2,H⟩:=bsa H
 (try dsimp only at H)
 have HH_:=am H
 clear H
 go_enter Tryz.func9,Tryz.ntmps9
 go_upto_region 1 with (first|((with_reducible refine cK (N:=1) rfl ?_);refine eO rfl (N:=1) rfl (cs:=#[.slice jb j5.length j9, .slice jc j4.length ja]) (t:=26) rn_ ?_;intro jf hg w4 hbox hb;have j3:=am (hbox);have qD:=am ((by rw [hg];exact (aJ dU):w.heap.size≤jf));have GE37:=am ((by rw [hg];exact (aJ dU):w.heap.size≤jf));replace HB:=am (aA dU hb);clear hb hbox hg;obtain ⟨jl,jm,jn,jo⟩:=iV j3.out))
 have H:=HH_.out
 clear HH_
 by_cases c3:qC=true
 ·subst c3
  rw [if_pos rfl] at H
  obtain ⟨qt,hy_⟩:∃ y_:List ByteArray,y_=(([]:List ByteArray)):=⟨_,rfl⟩
  replace H:(bB.l0 k qt 0 j5 j4)=some r:=rx_
  have jD:=am hy_
  clear hy_
  have H':=am H
  clear H
  go_wp2_with (first|((with_reducible refine aD (f:=23) rfl ?_);refine gl_ 7 Tryz.func23 #[.agg #[.slice jb j5.length j9, .slice jc j4.length ja]] ?_;(with_reducible refine (aX.calls k _ _ j5 _ _ j4 true _ (aC_ (Kd.aT jj.out HB.out)) jv.out (aC_ (Kd.aT jk.out HB.out)) jw.out A2.out).mono ?_);rintro e w6 ⟨rfl,hb⟩;refine ⟨_,rfl,?_⟩;replace j3:=bbP j3 hb;replace HB:=am (aA oU hb);(try clear hb))|((with_reducible refine cK (N:=9) rfl ?_);refine Kd.oP Kd.string _ 9 rfl (N:=9) rfl (xs:=([]:List ByteArray)) (inner:=[]) (ok:=fun _=>True) (okp:=fun _=>True) rn_ ?hp (fun _ hk=>hk) trivial (Below.refl _ _) (Nat.le_refl _) (by simp) ?_;(case hp=>exact (dF.none _ _));intro qL w7 ho8 hb hg_ hnew_;clear hg_ hnew_;(first|rw [← jD.out] at ho8|(simp only [Int.reduceToNat] at ho8;rw [← jD.out] at ho8));have q8:=am (Kd.fG ho8 (aJ oU));replace j3:=bbP j3 hb;replace HB:=am (aA oU hb);clear hb ho8))
  go_loopg [3,4] k (fun kq v3 v4 w'=>∃ (jd:List ByteArray) (j7:Int),v4= .int .i64 j7∧Aside0 (bB.l0 kq jd j7 j5 j4=some r)∧Aside0 (kq≤k)∧Aside0 (Kd.R Kd.string 9 w' w.heap.size (fun _=>True) v3 jd)∧Aside0 (w'.heap[jf]?=some (.cells #[(.slice jb j5.length j9),(.slice jc j4.length ja)] 26 (0,0)))∧Aside0 (Below w.heap.size w w'))
  case atStart=>exact ⟨(qt),(0),sd_,H',⟨Nat.le_refl _⟩,⟨gH q8.out⟩,⟨by (with_reducible repeat (first|refine dQ ?_ _|refine dA ?_|refine dP ?_ _));exact j3.out⟩,⟨oU⟩⟩
  case round=>
   clear H'
   try clear c3
   try clear jl
   try clear jm
   try clear jn
   try clear jo
   obtain ⟨jd,j7,rfl,HA,jN,j8,j3,HB⟩:=hrel
   cases gk with
   |zero=>exact absurd HA.out (by simp [bB.l0])
   |succ k1=>
    have H:=HA.out
    clear HA
    simp only [bB.l0] at H
    by_cases c9:j7 < (j5.length:Int)
    ·rw [if_pos c9] at H
     have jE:decide (j7 < (j5.length:Int))=true:=decide_eq_true c9
     clear c9
     by_cases c10:0≤j7
     ·rw [if_pos c10] at H
      have qu:decide (0≤j7)=true:=decide_eq_true c10
      clear c10
      obtain ⟨jA,qv,H⟩:=bsm H
      (try dsimp only at H)
      have qE:=am qv
      clear qv
      obtain ⟨jB,hy_⟩:∃ y_:List ByteArray,y_=(([(⟨#[98,111,120]⟩:ByteArray),jA,(⟨#[59]⟩:ByteArray)]:List ByteArray)):=⟨_,rfl⟩
      replace H:(if jd.length + jB.length < 8796093022208 then (bB.l0 k1 (jd ++ jB) (wrap64 (j7 + 1)) j5 j4) else (none))=some r:=rx_
      have jF:=am hy_
      clear hy_
      by_cases jO:jd.length + jB.length < 8796093022208
      ·rw [if_pos jO] at H
       have jG:=am jO
       clear jO
       obtain ⟨qw,hy_⟩:∃ y_:List ByteArray,y_=(jd ++ jB):=⟨_,rfl⟩
       replace H:(bB.l0 k1 qw (wrap64 (j7 + 1)) j5 j4)=some r:=rx_
       have q9:=am hy_
       clear hy_
       have H':=am H
       clear H
       obtain ⟨jP,jQ,jR,jS⟩:=iV j3.out
       have qa:0≤(j7:Int):=of_decide_eq_true eB
       have qb:j7 < (j5.length:Int):=of_decide_eq_true eB
       obtain ⟨qc,qF,jg⟩:=Kd.oF jj.out j7 qa qb
       cases qF
       replace jg:=(HB.out.cell (World.block_lt_of_cell? w _ jg)).trans jg
       replace qa:=eq_true qa
       replace qb:=eq_true qb
       go_wp2_with (first|((with_reducible refine aD (f:=24) rfl ?_);refine gl_ 23 Tryz.func24 #[.int .i64 (rd j5 j7)] ?_;(with_reducible refine (dX.calls k1 (rd j5 j7) jA _ qE.out).mono ?_);rintro e qM ⟨rfl,hb⟩;refine ⟨_,rfl,?_⟩;replace j8:=am (Kd.gG (aR_ j8.out) hb);replace j3:=bbP j3 hb;replace HB:=am (aA oU hb);(try clear hb))|((with_reducible refine cK (N:=24) rfl ?_);refine Kd.oP Kd.string _ 9 rfl (N:=24) rfl (xs:=([(⟨#[98,111,120]⟩:ByteArray),jA,(⟨#[59]⟩:ByteArray)]:List ByteArray)) (inner:=[.string (⟨#[98,111,120]⟩:ByteArray), .string jA, .string (⟨#[59]⟩:ByteArray)]) (ok:=fun _=>True) (okp:=fun _=>True) rn_ ?hp (fun _ hk=>hk) trivial (Below.refl _ _) (Nat.le_refl _) (by simp) ?_;(case hp=>exact (dF.one (show Kd.M Kd.string _ _ _ (⟨#[98,111,120]⟩:ByteArray) [.string (⟨#[98,111,120]⟩:ByteArray)] from rfl) (dF.one (show Kd.M Kd.string _ _ _ jA [.string jA] from rfl) (dF.one (show Kd.M Kd.string _ _ _ (⟨#[59]⟩:ByteArray) [.string (⟨#[59]⟩:ByteArray)] from rfl) (dF.none _ _)))));intro qN qO ho16 hb hg_ hnew_;clear hg_ hnew_;(first|rw [← jF.out] at ho16|(simp only [Int.reduceToNat] at ho16;rw [← jF.out] at ho16));have jp:=am (Kd.fG (Kd.lT ho16 (Kd.iN (aR_ j8.out))) (aJ oU));replace j8:=am (Kd.iL (aR_ j8.out) (Kd.iU ho16) hb);replace j3:=bbP j3 hb;replace HB:=am (aA oU hb);clear hb ho16;obtain ⟨qd,qe,qf⟩:=Kd.eY jp.out;subst qf)|((with_reducible refine dS (b:= .append) (xs:=#[.tmp 17, .tmp 24]) rfl ?_);at_builtin;refine Kd.iI Kd.string (w0:=w) w.heap.size rfl (.tmp 17) (.tmp 24) 29 9 (.string ⟨#[]⟩) 16 rfl Tryz.underlying29 kJ rfl (by decide) (by omega) u3 jd jB _ _ _ (fun k_=>some k_≠(.slice qd jB.length qe:Value).ownBlock) (fun _=>False) rfl rfl ?aO ?aR (fun _ _ h=>h) (fun _ h=>h.elim) ?aF ?aB ?aS ?aL ?_;(case aR=>repeat (first|exact (Kd.eH jp.out).2.2|(with_reducible refine Kd.iY ?_ _)|(with_reducible refine Kd.iR ?_ _)|(with_reducible refine Kd.kW ?_)));(case aB=>exact oU);(case aF=>exact (fun k_ hk=>Kd.fresh' (Kd.iN (aR_ jp.out)) k_ hk));(case aO=>exact (gH (Kd.bV j8.out (fun _ hk=>hk.2))));(case aS=>exact (aJ oU));(case aL=>have:=jG.out;omega);intro qP qQ ho hb hg hat;rw [← q9.out] at ho;replace j3:=am (dZ (g:=jf) (o:= .cells #[.slice (some qc) j5.length j9, .slice jc j4.length ja] 26 (0,0)) (aG_ j3.out) hg (Kd.kT j8.out j3.out (by decide)));replace jp:=am (Kd.iM (ok:=(fun _=>True)) (aR_ jp.out) hg hat);replace HB:=am (hb);have qg:=am (ho);clear j8 ho hb hg hat))
       go_roundg k1
       case measure=>have:=jN.out;omega
       case rel=>exact ⟨(qw),(wrap64 (j7 + 1)),sd_,H',⟨by have:=jN.out;omega⟩,⟨gH (Kd.bV qg.out (fun _ hk=>trivial))⟩,⟨by (with_reducible repeat (first|refine dQ ?_ _|refine dA ?_|refine dP ?_ _));exact j3.out⟩,⟨oU⟩⟩
      rw [if_neg jO] at H
      exact absurd H (by simp)
     rw [if_neg c10] at H
     exact absurd H (by simp)
    rw [if_neg c9] at H
    have jE:decide (j7 < (j5.length:Int))=false:=decide_eq_false c9
    clear c9
    have H':=am H
    clear H
    obtain ⟨jr,js,jt,ju⟩:=iV j3.out
    go_wp2
    go_loopg [3,5] k1 (fun kq v3 v5 w'=>∃ (je:List ByteArray) (j6:Int),v5= .int .i64 j6∧Aside0 (bB.l1 kq je j6 j5 j4=some r)∧Aside0 (kq≤k1)∧Aside0 (Kd.R Kd.string 9 w' w.heap.size (fun _=>True) v3 je)∧Aside0 (w'.heap[jf]?=some (.cells #[(.slice jb j5.length j9),(.slice jc j4.length ja)] 26 (0,0)))∧Aside0 (Below w.heap.size w w'))
    case atStart=>exact ⟨(jd),(0),sd_,H',⟨Nat.le_refl _⟩,⟨gH j8.out⟩,⟨by (with_reducible repeat (first|refine dQ ?_ _|refine dA ?_|refine dP ?_ _));exact j3.out⟩,⟨oU⟩⟩
    case round=>
     clear H'
     try clear c3
     try clear c9
     try clear jE
     try clear jr
     try clear js
     try clear jl
     try clear jm
     try clear jt
     try clear ju
     try clear jn
     try clear jo
     obtain ⟨je,j6,rfl,HA,qx,j8,j3,HB⟩:=hrel
     cases gk with
     |zero=>exact absurd HA.out (by simp [bB.l1])
     |succ k2=>
      have H:=HA.out
      clear HA
      simp only [bB.l1] at H
      by_cases jC:j6 < (j4.length:Int)
      ·rw [if_pos jC] at H
       have jH:decide (j6 < (j4.length:Int))=true:=decide_eq_true jC
       clear jC
       by_cases jT:je.length < 8796093022208
       ·rw [if_pos jT] at H
        have jI:=am jT
        clear jT
        obtain ⟨jJ,hy_⟩:∃ y_:List ByteArray,y_=(je ++ [(⟨#[116,97,115,107]⟩:ByteArray)]):=⟨_,rfl⟩
        replace H:(if 0≤j6 then ((bL.f k2 (fJ j4 j6)).bind fun jx=>(if jJ.length + jx.length < 8796093022208 then (bB.l1 k2 (jJ ++ jx) (wrap64 (j6 + 1)) j5 j4) else (none))) else (none))=some r:=rx_
        have qh:=am hy_
        clear hy_
        by_cases jU:0≤j6
        ·rw [if_pos jU] at H
         have qy:decide (0≤j6)=true:=decide_eq_true jU
         clear jU
         obtain ⟨jx,qz,H⟩:=bsm H
         (try dsimp only at H)
         have qG:=am qz
         clear qz
         by_cases jV:jJ.length + jx.length < 8796093022208
         ·rw [if_pos jV] at H
          have jK:=am jV
          clear jV
          obtain ⟨qA,hy_⟩:∃ y_:List ByteArray,y_=(jJ ++ jx):=⟨_,rfl⟩
          replace H:(bB.l1 k2 qA (wrap64 (j6 + 1)) j5 j4)=some r:=rx_
          have qi:=am hy_
          clear hy_
          have H':=am H
          clear H
          obtain ⟨jW,jX,jY,jZ⟩:=iV j3.out
          go_wp2_with (first|((with_reducible refine dS (b:= .append) (xs:=#[.tmp 33, .tmp 34]) rfl ?_);at_builtin;refine Kd.kE Kd.string (w0:=w) w.heap.size rfl (.tmp 33) (.tmp 34) 29 9 (.string ⟨#[]⟩) 16 rfl Tryz.underlying29 kJ rfl (by decide) (by omega) u3 je (⟨#[116,97,115,107]⟩:ByteArray) [.string (⟨#[116,97,115,107]⟩:ByteArray)] (fun _=>True) (fun _=>False) rfl rfl ?aP (fun _ hk=>hk.elim) ?aF ?aO ?aB ?aS ?aL ?_;(case aP=>exact rfl);(case aB=>exact oU);(case aF=>exact (fun _ _=>trivial));(case aO=>exact (aR_ j8.out));(case aS=>exact (aJ oU));(case aL=>have:=jI.out;omega);intro qH qR ho hb hg hat;rw [← qh.out] at ho;replace j3:=am (dZ (g:=jf) (o:= .cells #[.slice jb j5.length j9, .slice jc j4.length ja] 26 (0,0)) (aG_ j3.out) hg (Kd.kT j8.out j3.out (by decide)));replace HB:=am (hb);have ji:=am (ho);clear j8 ho hb hg hat;obtain ⟨q0,q1,q2,q3⟩:=iV j3.out;have qj:0≤(j6:Int):=of_decide_eq_true eB;have qk:j6 < (j4.length:Int):=of_decide_eq_true eB;obtain ⟨ql,jL,jM,qI,jh,hl60_0,hi60_0⟩:=uL jk.out j6 qj qk;cases qI;replace jh:=(HB.out.cell (World.block_lt_of_cell? w _ jh)).trans jh;have jy:=am hi60_0;have jz:=am hl60_0;clear hi60_0 hl60_0;replace qj:=eq_true qj;replace qk:=eq_true qk)|((with_reducible refine aD (f:=25) rfl ?_);refine gl_ 42 Tryz.func25 #[.slice jL (fJ j4 j6).length jM] ?_;(with_reducible refine (bL.calls k2 _ _ (fJ j4 j6) jx _ (aC_ (Kd.aT jy.out HB.out)) jz.out qG.out).mono ?_);rintro e qS ⟨qU,rfl,ho0,hb⟩;refine ⟨_,rfl,?_⟩;have jq:=am (Kd.fG (Kd.lT ho0 (Kd.iN (aR_ ji.out))) (aJ oU));replace ji:=am (Kd.iL (aR_ ji.out) (Kd.iU ho0) hb);replace j3:=bbP j3 hb;replace HB:=am (aA oU hb);(try clear hb);(try clear ho0);obtain ⟨qm,qn,qo⟩:=Kd.eY jq.out;subst qo)|((with_reducible refine dS (b:= .append) (xs:=#[.tmp 36, .tmp 42]) rfl ?_);at_builtin;refine Kd.iI Kd.string (w0:=w) w.heap.size rfl (.tmp 36) (.tmp 42) 29 9 (.string ⟨#[]⟩) 16 rfl Tryz.underlying29 kJ rfl (by decide) (by omega) qH jJ jx _ _ _ (fun k_=>some k_≠(.slice qm jx.length qn:Value).ownBlock) (fun _=>False) rfl rfl ?aO ?aR (fun _ _ h=>h) (fun _ h=>h.elim) ?aF ?aB ?aS ?aL ?_;(case aR=>repeat (first|exact (Kd.eH jq.out).2.2|(with_reducible refine Kd.iY ?_ _)|(with_reducible refine Kd.iR ?_ _)|(with_reducible refine Kd.kW ?_)));(case aB=>exact oU);(case aF=>exact (fun k_ hk=>Kd.fresh' (Kd.iN (aR_ jq.out)) k_ hk));(case aO=>exact (gH (Kd.bV ji.out (fun _ hk=>hk.2))));(case aS=>exact (aJ oU));(case aL=>have:=jK.out;omega);intro qV qW ho hb hg hat;rw [← qi.out] at ho;replace j3:=am (dZ (g:=jf) (o:= .cells #[.slice jb j5.length j9, .slice (some ql) j4.length ja] 26 (0,0)) (aG_ j3.out) hg (Kd.kT ji.out j3.out (by decide)));replace jq:=am (Kd.iM (ok:=(fun _=>True)) (aR_ jq.out) hg hat);replace HB:=am (hb);have qp:=am (ho);clear ji ho hb hg hat))
          go_roundg k2
          case measure=>have:=jN.out;have:=qx.out;omega
          case rel=>exact ⟨(qA),(wrap64 (j6 + 1)),sd_,H',⟨by have:=jN.out;have:=qx.out;omega⟩,⟨gH (Kd.bV qp.out (fun _ hk=>trivial))⟩,⟨by (with_reducible repeat (first|refine dQ ?_ _|refine dA ?_|refine dP ?_ _));exact j3.out⟩,⟨oU⟩⟩
         rw [if_neg jV] at H
         exact absurd H (by simp)
        rw [if_neg jU] at H
        exact absurd H (by simp)
       rw [if_neg jT] at H
       exact absurd H (by simp)
      rw [if_neg jC] at H
      have jH:decide (j6 < (j4.length:Int))=false:=decide_eq_false jC
      clear jC
      obtain ⟨qJ,qB,H⟩:=bsm H
      (try dsimp only at H)
      have qK:=am qB
      clear qB
      obtain rfl:=Option.some.inj H
      obtain ⟨q4,q5,q6,q7⟩:=iV j3.out
      obtain ⟨qq,qr,qs⟩:=Kd.eY j8.out
      subst qs
      go_wp2_with (first|((with_reducible refine aD (f:=26) rfl ?_);refine gl_ 45 Tryz.func26 #[.slice qq je.length qr] ?_;(with_reducible refine (dI.calls k2 _ _ je qJ _ (aC_ (Kd.eH j8.out).2.2) (Kd.eH j8.out).2.1 qK.out).mono ?_);rintro e w' ⟨rfl,⟨nd,rfl⟩⟩;refine ⟨_,rfl,?_⟩))
      go_ret
      exact ⟨rr_,oU⟩
 replace c3:=Bool.eq_false_iff.mpr c3
 subst c3
 rw [if_neg (show ¬ (false=true) by decide)] at H
 obtain rfl:=Option.some.inj H
 go_wp2_with (first|((with_reducible refine aD (f:=23) rfl ?_);refine gl_ 7 Tryz.func23 #[.agg #[.slice jb j5.length j9, .slice jc j4.length ja]] ?_;(with_reducible refine (aX.calls k _ _ j5 _ _ j4 false _ (aC_ (Kd.aT jj.out HB.out)) jv.out (aC_ (Kd.aT jk.out HB.out)) jw.out A2.out).mono ?_);rintro e qX ⟨rfl,hb⟩;refine ⟨_,rfl,?_⟩;replace j3:=bbP j3 hb;replace HB:=am (aA oU hb);(try clear hb)))
 go_ret
 exact ⟨rr_,oU⟩
theorem dH.mono_l:∀ k,(∀ y0 y1 y2,LeO (dH.l0 k y0 y1 y2) (dH.l0 (k + 1) y0 y1 y2))∧(∀ y0 y1 y2 y3,LeO (dH.j1 k y0 y1 y2 y3) (dH.j1 (k + 1) y0 y1 y2 y3))
 |0=>⟨fun _ _ _ r h=>by simp [dH.l0] at h,fun _ _ _ _ r h=>by simp [dH.j1] at h⟩
 |k + 1=>by
  obtain ⟨ih0,ih1⟩:=dH.mono_l k
  refine ⟨?_,?_⟩
  ·intro y0 y1 y2
   unfold dH.l0
   have m0:=@aV.mono
   exact mo_
  ·intro y0 y1 y2 y3
   unfold dH.j1
   have m0:=@aV.mono
   exact mo_
theorem dH.mono:∀ a0 k,LeO (dH.f k a0) (dH.f (k + 1) a0):=by
 intro a0 k
 obtain ⟨ih0,ih1⟩:=dH.mono_l k
 unfold dH.f
 have m0:=@aV.mono
 exact mo_
theorem dH.calls (k:Nat) (a0:ByteArray) (r1:List ByteArray) (r2:Bool) (w:World) (h:dH.f k a0=some (r1,r2)):
  Calls Tryz.prog 10 #[.string a0] w fun e w'=>∃ v0_:Value,e= .returned (.tuple #[v0_, .bool r2])∧Kd.R Kd.string 9 w' w.heap.size (fun _=>True) v0_ r1∧Below w.heap.size w w':=by
 have HB:=am (Below.refl w.heap.size w)
 unfold dH.f at h
 have H:=h
 clear h
 by_cases c2:(a0.size:Int) > 20000
 ·rw [if_pos c2] at H
  have j8:decide (20000 < (a0.size:Int))=true:=decide_eq_true c2
  have j9:decide (20000 < a0.size)=true:=decide_eq_true (by omega)
  clear c2
  simp only [Option.some.injEq,Prod.mk.injEq] at H
  obtain ⟨rfl,rfl⟩:=H
  go_enter Tryz.func10,Tryz.ntmps10
  go_wp2
  go_ret2
  exact ⟨_,gN,by first|exact Kd.uI _ _ _ _ _|exact Kd.wP _ _ _ _ _|exact Kd.wS _ _ _ _ _|exact Kd.wQ _ _ _ _ _|exact Kd.wR _ _ _ _ _,dU⟩
 rw [if_neg c2] at H
 have j8:decide (20000 < (a0.size:Int))=false:=decide_eq_false c2
 have j9:decide (20000 < a0.size)=false:=decide_eq_false (by omega)
 clear c2
 have H':=am H
 clear H
 go_enter Tryz.func10,Tryz.ntmps10
 go_wp2
 go_loopg [4,5] k (fun kq v4 v5 w'=>∃ (j5:List ByteArray) (j3:Int),v5= .int .i64 j3∧Aside0 (dH.l0 kq a0 j5 j3=some (r1,r2))∧Aside0 (kq≤k)∧Aside0 (Kd.R Kd.string 9 w' w.heap.size (fun _=>True) v4 j5)∧Aside0 (Below w.heap.size w w'))
 case atStart=>exact ⟨(([]:List ByteArray)),(0),sd_,H',⟨Nat.le_refl _⟩,⟨by first|exact Kd.uI _ _ _ _ _|exact Kd.wP _ _ _ _ _|exact Kd.wS _ _ _ _ _|exact Kd.wQ _ _ _ _ _|exact Kd.wR _ _ _ _ _⟩,⟨dU⟩⟩
 case round=>
  clear H'
  try clear c2
  try clear j8
  try clear j9
  obtain ⟨j5,j3,rfl,HA,jb,j4,HB⟩:=hrel
  cases gk with
  |zero=>exact absurd HA.out (by simp [dH.l0])
  |succ k1=>
   have H:=HA.out
   clear HA
   simp only [dH.l0] at H
   by_cases c3:j3 < (a0.size:Int)
   ·rw [if_pos c3] at H
    have jc:decide (j3 < (a0.size:Int))=true:=decide_eq_true c3
    clear c3
    have jm:=am H
    clear H
    go_upto_region 6 with (fail)
    go_cut [23] (fun jD wc=>∃ (kq:Nat) (j7:Bool),jD= .bool j7∧Aside0 (dH.j1 kq a0 j5 j3 j7=some (r1,r2))∧Aside0 (kq≤k1)∧Aside0 (Kd.R Kd.string 9 wc w.heap.size (fun _=>True) u4 j5)∧Aside0 (Below w.heap.size w wc))
    case first=>
     have H:=jm.out
     clear jm
     by_cases c5:0≤j3
     ·rw [if_pos c5] at H
      have jd:decide (0≤j3)=true:=decide_eq_true c5
      clear c5
      (first|rw [jd]|(simp only [fI,fO];rw [jd])|skip)
      by_cases c7:(bt a0 j3)=32
      ·rw [if_pos c7] at H
       have jn:((bt a0 j3) == 32)=true:=beq_iff_eq.mpr c7
       have jo:((bt a0 j3) != 32)=false:=bne_eq_false_iff_eq.mpr c7
       clear c7
       have H':=am H
       clear H
       have p6:0≤(j3:Int):=of_decide_eq_true eB
       have q6:j3 < (a0.size:Int):=of_decide_eq_true eB
       have jE:=rQ a0 j3
       replace p6:=eq_true p6
       replace q6:=eq_true q6
       go_wp2
       go_meet
       case rel=>exact ⟨_,(true),sd_,H',⟨by have:=jb.out;first|omega|exact Nat.le_refl _⟩,⟨gH j4.out⟩,⟨dU⟩⟩
      rw [if_neg c7] at H
      have jn:((bt a0 j3) == 32)=false:=beq_eq_false_iff_ne.mpr c7
      have jo:((bt a0 j3) != 32)=true:=bne_iff_ne.mpr c7
      have H':=am H
      clear H
      have p6:0≤(j3:Int):=of_decide_eq_true eB
      have q6:j3 < (a0.size:Int):=of_decide_eq_true eB
      have jE:=rQ a0 j3
      replace p6:=eq_true p6
      replace q6:=eq_true q6
      have p8:0≤(j3:Int):=of_decide_eq_true eB
      have q8:j3 < (a0.size:Int):=of_decide_eq_true eB
      have jF:=rQ a0 j3
      replace p8:=eq_true p8
      replace q8:=eq_true q8
      go_wp2
      go_meet
      case rel=>exact ⟨_,(((bt a0 j3) == 10)),sd_,H',⟨by have:=jb.out;first|omega|exact Nat.le_refl _⟩,⟨gH j4.out⟩,⟨dU⟩⟩
     rw [if_neg c5] at H
     exact absurd H (by simp)
    case rest=>
     clear jm
     try clear c2
     try clear j8
     try clear j9
     try clear c3
     try clear jc
     obtain ⟨kq,j7,rfl,HA,HJ3,j4,HB⟩:=hcut
     cases kq with
     |zero=>exact absurd HA.out (by simp [dH.j1])
     |succ je=>
      have H:=HA.out
      clear HA
      simp only [dH.j1] at H
      by_cases c9:j7=true
      ·subst c9
       rw [if_pos rfl] at H
       have H':=am H
       clear H
       go_wp2
       go_roundg je
       case measure=>have:=jb.out;have:=HJ3.out;omega
       case rel=>exact ⟨(j5),(wrap64 (j3 + 1)),sd_,H',⟨by have:=jb.out;have:=HJ3.out;omega⟩,⟨gH j4.out⟩,⟨dU⟩⟩
      replace c9:=Bool.eq_false_iff.mpr c9
      subst c9
      rw [if_neg (show ¬ (false=true) by decide)] at H
      by_cases c10:0≤j3
      ·rw [if_pos c10] at H
       have jr:=eq_true c10
       have js:decide (0≤j3)=true:=decide_eq_true c10
       clear c10
       by_cases jf:j3≤(a0.size:Int)
       ·rw [if_pos jf] at H
        have jt:=eq_true jf
        have ju:decide (j3≤(a0.size:Int))=true:=decide_eq_true jf
        clear jf
        obtain ⟨j6,jv,H⟩:=bsm H
        (try dsimp only at H)
        have jw:=am jv
        clear jv
        by_cases ja:j6=0
        ·rw [if_pos ja] at H
         have jg:(j6 == 0)=true:=beq_iff_eq.mpr ja
         have jh:(j6 != 0)=false:=bne_eq_false_iff_eq.mpr ja
         clear ja
         simp only [Option.some.injEq,Prod.mk.injEq] at H
         obtain ⟨rfl,rfl⟩:=H
         go_wp2_with (first|((with_reducible refine aD (f:=27) rfl ?_);refine gl_ 29 Tryz.func27 #[.string (a0.extract (j3:Int).toNat a0.size)] ?_;(with_reducible refine (aV.calls je (a0.extract (j3:Int).toNat a0.size) j6 _ jw.out).mono ?_);rintro e jG ⟨rfl,hb⟩;refine ⟨_,rfl,?_⟩;replace j4:=am (Kd.gG (aR_ j4.out) hb);replace HB:=am (aA dU hb);(try clear hb)))
         go_ret2
         exact ⟨_,gN,by first|exact Kd.uI _ _ _ _ _|exact Kd.wP _ _ _ _ _|exact Kd.wS _ _ _ _ _|exact Kd.wQ _ _ _ _ _|exact Kd.wR _ _ _ _ _,dU⟩
        rw [if_neg ja] at H
        have jg:(j6 == 0)=false:=beq_eq_false_iff_ne.mpr ja
        have jh:(j6 != 0)=true:=bne_iff_ne.mpr ja
        have jx:=eq_true (of_decide_eq_true eB:0≤j3)
        by_cases jj:j3≤(wrap64 (j3 + j6))
        ·rw [if_pos jj] at H
         have jy:=eq_true jj
         have jz:decide (j3≤(wrap64 (j3 + j6)))=true:=decide_eq_true jj
         by_cases jk:(wrap64 (j3 + j6))≤(a0.size:Int)
         ·rw [if_pos jk] at H
          have jA:=eq_true jk
          have jB:decide ((wrap64 (j3 + j6))≤(a0.size:Int))=true:=decide_eq_true jk
          by_cases jl:j5.length < 8796093022208
          ·rw [if_pos jl] at H
           have ji:=am jl
           clear jl
           obtain ⟨jC,hy_⟩:∃ y_:List ByteArray,y_=(j5 ++ [a0.extract (j3:Int).toNat ((wrap64 (j3 + j6)):Int).toNat]):=⟨_,rfl⟩
           replace H:(dH.l0 je a0 jC (wrap64 (j3 + j6)))=some (r1,r2):=rx_
           have jp:=am hy_
           clear hy_
           have H':=am H
           clear H
           go_wp2_with (first|((with_reducible refine aD (f:=27) rfl ?_);refine gl_ 29 Tryz.func27 #[.string (a0.extract (j3:Int).toNat a0.size)] ?_;(with_reducible refine (aV.calls je (a0.extract (j3:Int).toNat a0.size) j6 _ jw.out).mono ?_);rintro e jH ⟨rfl,hb⟩;refine ⟨_,rfl,?_⟩;replace j4:=am (Kd.gG (aR_ j4.out) hb);replace HB:=am (aA dU hb);(try clear hb))|((with_reducible refine dS (b:= .append) (xs:=#[.tmp 32, .tmp 39]) rfl ?_);at_builtin;refine Kd.kE Kd.string (w0:=w) w.heap.size rfl (.tmp 32) (.tmp 39) 29 9 (.string ⟨#[]⟩) 16 rfl Tryz.underlying29 kJ rfl (by decide) (by omega) u4 j5 (a0.extract (j3:Int).toNat ((wrap64 (j3 + j6)):Int).toNat) [.string (a0.extract (j3:Int).toNat ((wrap64 (j3 + j6)):Int).toNat)] (fun _=>True) (fun _=>False) rfl rfl ?aP (fun _ hk=>hk.elim) ?aF ?aO ?aB ?aS ?aL ?_;(case aP=>exact rfl);(case aB=>exact dU);(case aF=>exact (fun _ _=>trivial));(case aO=>exact (aR_ j4.out));(case aS=>exact (aJ dU));(case aL=>have:=ji.out;omega);intro jI jJ ho hb hg hat;rw [← jp.out] at ho;replace HB:=am (hb);have jq:=am (ho);clear j4 ho hb hg hat))
           go_roundg je
           case measure=>have:=jb.out;have:=HJ3.out;omega
           case rel=>exact ⟨(jC),(wrap64 (j3 + j6)),sd_,H',⟨by have:=jb.out;have:=HJ3.out;omega⟩,⟨gH jq.out⟩,⟨dU⟩⟩
          rw [if_neg jl] at H
          exact absurd H (by simp)
         rw [if_neg jk] at H
         exact absurd H (by simp)
        rw [if_neg jj] at H
        exact absurd H (by simp)
       rw [if_neg jf] at H
       exact absurd H (by simp)
      rw [if_neg c10] at H
      exact absurd H (by simp)
   rw [if_neg c3] at H
   have jc:decide (j3 < (a0.size:Int))=false:=decide_eq_false c3
   clear c3
   simp only [Option.some.injEq,Prod.mk.injEq] at H
   obtain ⟨rfl,rfl⟩:=H
   go_wp2
   go_ret2
   exact ⟨_,gN,gH j4.out,dU⟩
theorem bF.mono_l:∀ k,(∀ y0 y1,LeO (bF.f k y0 y1) (bF.f (k + 1) y0 y1))∧(∀ y0 y1 y2 y3,LeO (bF.l0 k y0 y1 y2 y3) (bF.l0 (k + 1) y0 y1 y2 y3))
 |0=>⟨fun _ _ r h=>by simp [bF.f] at h,fun _ _ _ _ r h=>by simp [bF.l0] at h⟩
 |k + 1=>by
  obtain ⟨ih0,ih1⟩:=bF.mono_l k
  refine ⟨?_,?_⟩
  ·intro y0 y1
   unfold bF.f
   exact mo_
  ·intro y0 y1 y2 y3
   unfold bF.l0
   exact mo_
theorem bF.mono:∀ a0 a1 k,LeO (bF.f k a0 a1) (bF.f (k + 1) a0 a1):=by
 intro a0 a1 k
 obtain ⟨ih0,ih1⟩:=bF.mono_l k
 exact ih0 a0 a1
def bF.T7:Bool × List (List Nat × List Nat):=(true,[([],[]),([],[]),([],[]),([1,2],[1,2]),([3],[3]),([4],[4]),([],[]),([5,6],[5,6]),([0,7],[0,7]),([],[]),([],[]),([9,10],[9,10]),([11],[11]),([12],[12]),([],[]),([13,14,7],[13,14]),([8,15],[8,15]),([16,15,0,1,2,3,4,5,6,7,8,9,10,11,12,13,14,15,16],[0,16])])
def bF.B7:List Nat:=[0,0,0,6,14,30,0,126,255,0,0,1536,3584,7680,0,32510,65535,131071]
theorem bF.aFu:lV .any (opsOf Tryz.f11 7)=bF.T7:=by kernel_rfl
theorem bF.aAw:iP bF.T7.2 bF.B7=true:=by kernel_rfl
theorem bF.calls (k:Nat):∀ (A0:Option Addr) (c0:Nat) (l0:List (S58)) (a1:Int) (r:Int) (w:World) (hr0:Kd.C k58 w A0 l0.length l0) (hc0:l0.length≤c0) (h:bF.f k l0 a1=some r),
  Calls Tryz.prog 11 #[.slice A0 l0.length c0, .int .i64 a1] w fun e w'=>e= .returned (.int .i64 r)∧Below w.heap.size w w':=by
 induction k using Nat.strongRecOn with
 | _ k ih=>
 intro A0 c0 l0 a1 r w hr0 hc0 h
 cases k with
 |zero=>exact absurd h (by simp [bF.f])
 |succ k=>
 simp only [bF.f] at h
 have ql:=am hr0
 have zg:=am hc0
 clear hr0 hc0
 have HB:=am (Below.refl w.heap.size w)
 have H:(bF.l0 k l0 a1 0 0)=some r:=h
 clear h
 have H':=am H
 clear H
 go_enter Tryz.func11,Tryz.ntmps11
 go_wp2
 go_loopg [5,6] k (fun kq v5 v6 w'=>∃ (jJ:Int) (j3:Int),v5= .int .i64 jJ∧v6= .int .i64 j3∧Aside0 (bF.l0 kq l0 a1 jJ j3=some r)∧Aside0 (kq≤k)∧Aside0 (Below w.heap.size w w'))
 case atStart=>exact ⟨(0),(0),sd_,sd_,H',⟨Nat.le_refl _⟩,⟨dU⟩⟩
 case round=>
  clear H'
  obtain ⟨jJ,j3,rfl,rfl,HA,jW,HB⟩:=hrel
  cases gk with
  |zero=>exact absurd HA.out (by simp [bF.l0])
  |succ k1=>
   have H:=HA.out
   clear HA
   simp only [bF.l0] at H
   by_cases c3:j3 < (l0.length:Int)
   ·rw [if_pos c3] at H
    have qs:decide (j3 < (l0.length:Int))=true:=decide_eq_true c3
    clear c3
    by_cases c4:0≤j3
    ·rw [if_pos c4] at H
     have z9:decide (0≤j3)=true:=decide_eq_true c4
     clear c4
     by_cases c5:((aH l0 j3).f0)=a1
     ·rw [if_pos c5] at H
      have qt:(((aH l0 j3).f0) == a1)=true:=beq_iff_eq.mpr c5
      have qu:(((aH l0 j3).f0) != a1)=false:=bne_eq_false_iff_eq.mpr c5
      clear c5
      obtain ⟨qQ,A6,H⟩:=bsa H
      (try dsimp only at H)
      obtain ⟨qR,A7,H⟩:=bsa H
      (try dsimp only at H)
      have H':=am H
      clear H
      have q1:0≤(j3:Int):=of_decide_eq_true eB
      have q2:j3 < (l0.length:Int):=of_decide_eq_true eB
      obtain ⟨j4,qm,qn,qo,qp,qq,qr,qv,j5,j6,j7,j8,j9,ja,jb,jc,hl39_5,hi39_5,hl39_6,hi39_6,hl39_7,hi39_7⟩:=oQ ql.out j3 q1 q2
      cases qv
      replace j5:=(HB.out.cell (World.block_lt_of_cell? w _ j5)).trans j5
      replace j6:=(HB.out.cell (World.block_lt_of_cell? w _ j6)).trans j6
      replace j7:=(HB.out.cell (World.block_lt_of_cell? w _ j7)).trans j7
      replace j8:=(HB.out.cell (World.block_lt_of_cell? w _ j8)).trans j8
      replace j9:=(HB.out.cell (World.block_lt_of_cell? w _ j9)).trans j9
      replace ja:=(HB.out.cell (World.block_lt_of_cell? w _ ja)).trans ja
      replace jb:=(HB.out.cell (World.block_lt_of_cell? w _ jb)).trans jb
      replace jc:=(HB.out.cell (World.block_lt_of_cell? w _ jc)).trans jc
      have q3:=am hi39_5
      have q4:=am hl39_5
      clear hi39_5 hl39_5
      have q5:=am hi39_6
      have q6:=am hl39_6
      clear hi39_6 hl39_6
      have q7:=am hi39_7
      have q8:=am hl39_7
      clear hi39_7 hl39_7
      replace q1:=eq_true q1
      replace q2:=eq_true q2
      try go_wp2
      replace HB:=am (bJ HB.out)
      have qw:0≤(j3:Int):=of_decide_eq_true eB
      have qx:j3 < (l0.length:Int):=of_decide_eq_true eB
      obtain ⟨qy,jX,jY,jK,jL,jM,jN,za,jp,jq,jr,js,jt,jd,je,jf,hl40_5,hi40_5,hl40_6,hi40_6,hl40_7,hi40_7⟩:=oQ ql.out j3 qw qx
      have hw40_7:=jf
      have hw40_6:=je
      have hw40_5:=jd
      have hw40_4:=jt
      have hw40_3:=js
      have hw40_2:=jr
      have hw40_1:=jq
      have hw40_0:=jp
      obtain rfl:j4=qy:=(by injection za)
      replace jp:=(HB.out.cell (World.block_lt_of_cell? w _ jp)).trans jp
      replace jq:=(HB.out.cell (World.block_lt_of_cell? w _ jq)).trans jq
      replace jr:=(HB.out.cell (World.block_lt_of_cell? w _ jr)).trans jr
      replace js:=(HB.out.cell (World.block_lt_of_cell? w _ js)).trans js
      replace jt:=(HB.out.cell (World.block_lt_of_cell? w _ jt)).trans jt
      replace jd:=(HB.out.cell (World.block_lt_of_cell? w _ jd)).trans jd
      replace je:=(HB.out.cell (World.block_lt_of_cell? w _ je)).trans je
      replace jf:=(HB.out.cell (World.block_lt_of_cell? w _ jf)).trans jf
      have q9:=am hi40_5
      have qz:=am hl40_5
      clear hi40_5 hl40_5
      have jO:=am hi40_6
      have qa:=am hl40_6
      clear hi40_6 hl40_6
      have qb:=am hi40_7
      have qA:=am hl40_7
      clear hi40_7 hl40_7
      replace qw:=eq_true qw
      replace qx:=eq_true qx
      have qB:0≤(j3:Int):=of_decide_eq_true eB
      have qC:j3 < (l0.length:Int):=of_decide_eq_true eB
      obtain ⟨qD,qS,qU,qV,qW,qX,qY,zb,ju,jv,jw,jx,jy,jg,jh,ji,hl41_5,hi41_5,hl41_6,hi41_6,hl41_7,hi41_7⟩:=oQ ql.out j3 qB qC
      have hw41_7:=ji
      have hw41_6:=jh
      have hw41_5:=jg
      have hw41_4:=jy
      have hw41_3:=jx
      have hw41_2:=jw
      have hw41_1:=jv
      have hw41_0:=ju
      obtain rfl:j4=qD:=(by injection zb)
      replace ju:=(HB.out.cell (World.block_lt_of_cell? w _ ju)).trans ju
      replace jv:=(HB.out.cell (World.block_lt_of_cell? w _ jv)).trans jv
      replace jw:=(HB.out.cell (World.block_lt_of_cell? w _ jw)).trans jw
      replace jx:=(HB.out.cell (World.block_lt_of_cell? w _ jx)).trans jx
      replace jy:=(HB.out.cell (World.block_lt_of_cell? w _ jy)).trans jy
      replace jg:=(HB.out.cell (World.block_lt_of_cell? w _ jg)).trans jg
      replace jh:=(HB.out.cell (World.block_lt_of_cell? w _ jh)).trans jh
      replace ji:=(HB.out.cell (World.block_lt_of_cell? w _ ji)).trans ji
      have qc:=am hi41_5
      have qE:=am hl41_5
      clear hi41_5 hl41_5
      have qd:=am hi41_6
      have qF:=am hl41_6
      clear hi41_6 hl41_6
      have jP:=am hi41_7
      have qe:=am hl41_7
      clear hi41_7 hl41_7
      replace qB:=eq_true qB
      replace qC:=eq_true qC
      have ea_:=Option.some.inj (jd.symm.trans jg)
      injection ea_ with ea_ en_ ec_
      subst ea_
      subst ec_
      clear en_
      have ea_:=Option.some.inj (je.symm.trans jh)
      injection ea_ with ea_ en_ ec_
      subst ea_
      subst ec_
      clear en_
      have ea_:=Option.some.inj (jf.symm.trans ji)
      injection ea_ with ea_ en_ ec_
      subst ea_
      subst ec_
      clear en_
      refine kZ (n:=18) (S:=fun w'=>w'.cell? (j4.add ((j3).toNat * 8))=some (.int .i64 ((aH l0 j3).f0))∧w'.cell? ⟨(j4.add ((j3).toNat * 8)).block,(j4.add ((j3).toNat * 8)).off + 1,none⟩=some (.int .i64 ((aH l0 j3).f1))∧w'.cell? ⟨(j4.add ((j3).toNat * 8)).block,(j4.add ((j3).toNat * 8)).off + 2,none⟩=some (.int .i64 ((aH l0 j3).f2))∧w'.cell? ⟨(j4.add ((j3).toNat * 8)).block,(j4.add ((j3).toNat * 8)).off + 3,none⟩=some (.int .i64 ((aH l0 j3).f3.f0))∧w'.cell? ⟨(j4.add ((j3).toNat * 8)).block,(j4.add ((j3).toNat * 8)).off + 4,none⟩=some (.int .i64 ((aH l0 j3).f3.f1))∧w'.cell? ⟨(j4.add ((j3).toNat * 8)).block,(j4.add ((j3).toNat * 8)).off + 5,none⟩=some (.slice jX ((aH l0 j3).f3.f2).length jY)∧w'.cell? ⟨(j4.add ((j3).toNat * 8)).block,(j4.add ((j3).toNat * 8)).off + 6,none⟩=some (.slice jK ((aH l0 j3).f4).length jL)∧w'.cell? ⟨(j4.add ((j3).toNat * 8)).block,(j4.add ((j3).toNat * 8)).off + 7,none⟩=some (.slice jM ((aH l0 j3).f5).length jN)∧w'.cell? (j4.add ((j3).toNat * 8))=some (.int .i64 ((aH l0 j3).f0))∧w'.cell? ⟨(j4.add ((j3).toNat * 8)).block,(j4.add ((j3).toNat * 8)).off + 1,none⟩=some (.int .i64 ((aH l0 j3).f1))∧w'.cell? ⟨(j4.add ((j3).toNat * 8)).block,(j4.add ((j3).toNat * 8)).off + 2,none⟩=some (.int .i64 ((aH l0 j3).f2))∧w'.cell? ⟨(j4.add ((j3).toNat * 8)).block,(j4.add ((j3).toNat * 8)).off + 3,none⟩=some (.int .i64 ((aH l0 j3).f3.f0))∧w'.cell? ⟨(j4.add ((j3).toNat * 8)).block,(j4.add ((j3).toNat * 8)).off + 4,none⟩=some (.int .i64 ((aH l0 j3).f3.f1))∧w'.cell? ⟨(j4.add ((j3).toNat * 8)).block,(j4.add ((j3).toNat * 8)).off + 5,none⟩=some (.slice jX ((aH l0 j3).f3.f2).length jY)∧w'.cell? ⟨(j4.add ((j3).toNat * 8)).block,(j4.add ((j3).toNat * 8)).off + 6,none⟩=some (.slice jK ((aH l0 j3).f4).length jL)∧w'.cell? ⟨(j4.add ((j3).toNat * 8)).block,(j4.add ((j3).toNat * 8)).off + 7,none⟩=some (.slice jM ((aH l0 j3).f5).length jN)) (ds:=[]) (bz 18 0) (by kernel_rfl) rfl rfl ⟨((HB.out.cell (World.block_lt_of_cell? w _ hw40_0)).trans hw40_0),((HB.out.cell (World.block_lt_of_cell? w _ hw40_1)).trans hw40_1),((HB.out.cell (World.block_lt_of_cell? w _ hw40_2)).trans hw40_2),((HB.out.cell (World.block_lt_of_cell? w _ hw40_3)).trans hw40_3),((HB.out.cell (World.block_lt_of_cell? w _ hw40_4)).trans hw40_4),((HB.out.cell (World.block_lt_of_cell? w _ hw40_5)).trans hw40_5),((HB.out.cell (World.block_lt_of_cell? w _ hw40_6)).trans hw40_6),((HB.out.cell (World.block_lt_of_cell? w _ hw40_7)).trans hw40_7),((HB.out.cell (World.block_lt_of_cell? w _ hw41_0)).trans hw41_0),((HB.out.cell (World.block_lt_of_cell? w _ hw41_1)).trans hw41_1),((HB.out.cell (World.block_lt_of_cell? w _ hw41_2)).trans hw41_2),((HB.out.cell (World.block_lt_of_cell? w _ hw41_3)).trans hw41_3),((HB.out.cell (World.block_lt_of_cell? w _ hw41_4)).trans hw41_4),((HB.out.cell (World.block_lt_of_cell? w _ hw41_5)).trans hw41_5),((HB.out.cell (World.block_lt_of_cell? w _ hw41_6)).trans hw41_6),((HB.out.cell (World.block_lt_of_cell? w _ hw41_7)).trans hw41_7)⟩ (fun hHeld=>?_);refine iA bF.aFu bF.aAw (fun HT_ HW_=>?_)
      generalize wr.drew=w8 at HB q9 jO qb qc qd jP jp jq jr js jt jd je jf ju jv jw jx jy jg jh ji hHeld ⊢
      refine pr_ 0 22 (bz 18 1) HT_ ?_
      refine pr_ 1 23 (bz 18 3) HT_ ?_
      refine pr_ 2 24 (bz 18 7) HT_ ?_
      refine pr_ 3 25 (bz 18 15) HT_ ?_
      refine pr_ 4 26 (bz 18 31) HT_ ?_
      refine pr_ 6 28 (bz 18 95) HT_ ?_
      refine pr_ 9 31 (bz 18 607) HT_ ?_
      refine pr_ 10 32 (bz 18 1631) HT_ ?_
      refine pr_ 11 33 (bz 18 3679) HT_ ?_
      refine pr_ 12 34 (bz 18 7775) HT_ ?_
      refine pr_ 14 36 (bz 18 24159) HT_ ?_
      refine NY 5 27 (bz 18 24191) HT_ HW_ hHeld ?_
      refine NY 13 35 (bz 18 32383) HT_ HW_ hHeld ?_
      refine gY (i:=7) (N:=some 29) (bz 18 32511) rfl rfl (eG HT_.out (by kernel_rfl)) (by decide) (fun K hK=>?_)
      refine iF Tryz.func11 (by kernel_rfl) rfl #[.slice jK ((aH l0 j3).f4).length jL, .int .i64 a1] (by rfl) rfl rfl mD ?_
      with_reducible refine (ih k1 (by have:=jW.out;omega) _ _ ((aH l0 j3).f4) a1 qQ _ (aC_ (Kd.aT jO.out HB.out)) qa.out A6.out).mono ?_
      rintro e w9 ⟨rfl,hb⟩
      refine ⟨_,rfl,?_⟩
      replace HB:=am (aA dU hb)
      (try clear hb)
      (try clear hb2)
      (try clear hk)
      (try clear hi)
      refine hK.out _ _ ⟨((HB.out.cell (World.block_lt_of_cell? w _ hw40_0)).trans hw40_0),((HB.out.cell (World.block_lt_of_cell? w _ hw40_1)).trans hw40_1),((HB.out.cell (World.block_lt_of_cell? w _ hw40_2)).trans hw40_2),((HB.out.cell (World.block_lt_of_cell? w _ hw40_3)).trans hw40_3),((HB.out.cell (World.block_lt_of_cell? w _ hw40_4)).trans hw40_4),((HB.out.cell (World.block_lt_of_cell? w _ hw40_5)).trans hw40_5),((HB.out.cell (World.block_lt_of_cell? w _ hw40_6)).trans hw40_6),((HB.out.cell (World.block_lt_of_cell? w _ hw40_7)).trans hw40_7),((HB.out.cell (World.block_lt_of_cell? w _ hw41_0)).trans hw41_0),((HB.out.cell (World.block_lt_of_cell? w _ hw41_1)).trans hw41_1),((HB.out.cell (World.block_lt_of_cell? w _ hw41_2)).trans hw41_2),((HB.out.cell (World.block_lt_of_cell? w _ hw41_3)).trans hw41_3),((HB.out.cell (World.block_lt_of_cell? w _ hw41_4)).trans hw41_4),((HB.out.cell (World.block_lt_of_cell? w _ hw41_5)).trans hw41_5),((HB.out.cell (World.block_lt_of_cell? w _ hw41_6)).trans hw41_6),((HB.out.cell (World.block_lt_of_cell? w _ hw41_7)).trans hw41_7)⟩ (fun hHeld=>?_)
      clear hK K
      refine eZ (a':=?_) ?_ ?_
      rotate_left
      ·exact ap_ (N:=29)
      refine pr_ 8 30 (bz 18 32767) HT_ ?_
      refine gY (i:=15) (N:=some 37) (bz 18 65535) rfl rfl (eG HT_.out (by kernel_rfl)) (by decide) (fun K hK=>?_)
      refine iF Tryz.func11 (by kernel_rfl) rfl #[.slice jM ((aH l0 j3).f5).length jN, .int .i64 a1] (by rfl) rfl rfl mD ?_
      with_reducible refine (ih k1 (by have:=jW.out;omega) _ _ ((aH l0 j3).f5) a1 qR _ (aC_ (Kd.aT jP.out HB.out)) qe.out A7.out).mono ?_
      rintro e zh ⟨rfl,hb⟩
      refine ⟨_,rfl,?_⟩
      replace HB:=am (aA dU hb)
      (try clear hb)
      (try clear hb2)
      (try clear hk)
      (try clear hi)
      refine hK.out _ _ ⟨((HB.out.cell (World.block_lt_of_cell? w _ hw40_0)).trans hw40_0),((HB.out.cell (World.block_lt_of_cell? w _ hw40_1)).trans hw40_1),((HB.out.cell (World.block_lt_of_cell? w _ hw40_2)).trans hw40_2),((HB.out.cell (World.block_lt_of_cell? w _ hw40_3)).trans hw40_3),((HB.out.cell (World.block_lt_of_cell? w _ hw40_4)).trans hw40_4),((HB.out.cell (World.block_lt_of_cell? w _ hw40_5)).trans hw40_5),((HB.out.cell (World.block_lt_of_cell? w _ hw40_6)).trans hw40_6),((HB.out.cell (World.block_lt_of_cell? w _ hw40_7)).trans hw40_7),((HB.out.cell (World.block_lt_of_cell? w _ hw41_0)).trans hw41_0),((HB.out.cell (World.block_lt_of_cell? w _ hw41_1)).trans hw41_1),((HB.out.cell (World.block_lt_of_cell? w _ hw41_2)).trans hw41_2),((HB.out.cell (World.block_lt_of_cell? w _ hw41_3)).trans hw41_3),((HB.out.cell (World.block_lt_of_cell? w _ hw41_4)).trans hw41_4),((HB.out.cell (World.block_lt_of_cell? w _ hw41_5)).trans hw41_5),((HB.out.cell (World.block_lt_of_cell? w _ hw41_6)).trans hw41_6),((HB.out.cell (World.block_lt_of_cell? w _ hw41_7)).trans hw41_7)⟩ (fun hHeld=>?_)
      clear hK K
      refine eZ (a':=?_) ?_ ?_
      rotate_left
      ·exact ap_ (N:=37)
      refine pr_ 16 38 (bz 18 131071) HT_ ?_
      refine pr_ 17 5 (bz 18 262143) HT_ ?_
      refine nA (kS HT_.out (by kernel_rfl)) ?_
      try go_wp2
      go_roundg k1
      case measure=>have:=jW.out;omega
      case rel=>exact ⟨(wrap64 ((wrap64 ((wrap64 (jJ + 1)) + qQ)) + qR)),(wrap64 (j3 + 1)),sd_,sd_,H',⟨by have:=jW.out;omega⟩,⟨dU⟩⟩
     rw [if_neg c5] at H
     have qt:(((aH l0 j3).f0) == a1)=false:=beq_eq_false_iff_ne.mpr c5
     have qu:(((aH l0 j3).f0) != a1)=true:=bne_iff_ne.mpr c5
     obtain ⟨qZ,z0,H⟩:=bsm H
     (try dsimp only at H)
     have zc:=am z0
     clear z0
     obtain ⟨z1,z2,H⟩:=bsm H
     (try dsimp only at H)
     have zd:=am z2
     clear z2
     have H':=am H
     clear H
     have q1:0≤(j3:Int):=of_decide_eq_true eB
     have q2:j3 < (l0.length:Int):=of_decide_eq_true eB
     obtain ⟨j4,qm,qn,qo,qp,qq,qr,qv,j5,j6,j7,j8,j9,ja,jb,jc,hl39_5,hi39_5,hl39_6,hi39_6,hl39_7,hi39_7⟩:=oQ ql.out j3 q1 q2
     cases qv
     replace j5:=(HB.out.cell (World.block_lt_of_cell? w _ j5)).trans j5
     replace j6:=(HB.out.cell (World.block_lt_of_cell? w _ j6)).trans j6
     replace j7:=(HB.out.cell (World.block_lt_of_cell? w _ j7)).trans j7
     replace j8:=(HB.out.cell (World.block_lt_of_cell? w _ j8)).trans j8
     replace j9:=(HB.out.cell (World.block_lt_of_cell? w _ j9)).trans j9
     replace ja:=(HB.out.cell (World.block_lt_of_cell? w _ ja)).trans ja
     replace jb:=(HB.out.cell (World.block_lt_of_cell? w _ jb)).trans jb
     replace jc:=(HB.out.cell (World.block_lt_of_cell? w _ jc)).trans jc
     have q3:=am hi39_5
     have q4:=am hl39_5
     clear hi39_5 hl39_5
     have q5:=am hi39_6
     have q6:=am hl39_6
     clear hi39_6 hl39_6
     have q7:=am hi39_7
     have q8:=am hl39_7
     clear hi39_7 hl39_7
     replace q1:=eq_true q1
     replace q2:=eq_true q2
     try go_wp2
     replace HB:=am (bJ HB.out)
     have qG:0≤(j3:Int):=of_decide_eq_true eB
     have qH:j3 < (l0.length:Int):=of_decide_eq_true eB
     obtain ⟨qI,jZ,q0,jQ,jR,jS,jT,ze,jz,jA,jB,jC,jD,jj,jk,jl,hl46_5,hi46_5,hl46_6,hi46_6,hl46_7,hi46_7⟩:=oQ ql.out j3 qG qH
     have hw46_7:=jl
     have hw46_6:=jk
     have hw46_5:=jj
     have hw46_4:=jD
     have hw46_3:=jC
     have hw46_2:=jB
     have hw46_1:=jA
     have hw46_0:=jz
     obtain rfl:j4=qI:=(by injection ze)
     replace jz:=(HB.out.cell (World.block_lt_of_cell? w _ jz)).trans jz
     replace jA:=(HB.out.cell (World.block_lt_of_cell? w _ jA)).trans jA
     replace jB:=(HB.out.cell (World.block_lt_of_cell? w _ jB)).trans jB
     replace jC:=(HB.out.cell (World.block_lt_of_cell? w _ jC)).trans jC
     replace jD:=(HB.out.cell (World.block_lt_of_cell? w _ jD)).trans jD
     replace jj:=(HB.out.cell (World.block_lt_of_cell? w _ jj)).trans jj
     replace jk:=(HB.out.cell (World.block_lt_of_cell? w _ jk)).trans jk
     replace jl:=(HB.out.cell (World.block_lt_of_cell? w _ jl)).trans jl
     have qf:=am hi46_5
     have qJ:=am hl46_5
     clear hi46_5 hl46_5
     have jU:=am hi46_6
     have qg:=am hl46_6
     clear hi46_6 hl46_6
     have qh:=am hi46_7
     have qK:=am hl46_7
     clear hi46_7 hl46_7
     replace qG:=eq_true qG
     replace qH:=eq_true qH
     have qL:0≤(j3:Int):=of_decide_eq_true eB
     have qM:j3 < (l0.length:Int):=of_decide_eq_true eB
     obtain ⟨qN,z3,z4,z5,z6,z7,z8,zf,jE,jF,jG,jH,jI,jm,jn,jo,hl47_5,hi47_5,hl47_6,hi47_6,hl47_7,hi47_7⟩:=oQ ql.out j3 qL qM
     have hw47_7:=jo
     have hw47_6:=jn
     have hw47_5:=jm
     have hw47_4:=jI
     have hw47_3:=jH
     have hw47_2:=jG
     have hw47_1:=jF
     have hw47_0:=jE
     obtain rfl:j4=qN:=(by injection zf)
     replace jE:=(HB.out.cell (World.block_lt_of_cell? w _ jE)).trans jE
     replace jF:=(HB.out.cell (World.block_lt_of_cell? w _ jF)).trans jF
     replace jG:=(HB.out.cell (World.block_lt_of_cell? w _ jG)).trans jG
     replace jH:=(HB.out.cell (World.block_lt_of_cell? w _ jH)).trans jH
     replace jI:=(HB.out.cell (World.block_lt_of_cell? w _ jI)).trans jI
     replace jm:=(HB.out.cell (World.block_lt_of_cell? w _ jm)).trans jm
     replace jn:=(HB.out.cell (World.block_lt_of_cell? w _ jn)).trans jn
     replace jo:=(HB.out.cell (World.block_lt_of_cell? w _ jo)).trans jo
     have qi:=am hi47_5
     have qO:=am hl47_5
     clear hi47_5 hl47_5
     have qj:=am hi47_6
     have qP:=am hl47_6
     clear hi47_6 hl47_6
     have jV:=am hi47_7
     have qk:=am hl47_7
     clear hi47_7 hl47_7
     replace qL:=eq_true qL
     replace qM:=eq_true qM
     have ea_:=Option.some.inj (jj.symm.trans jm)
     injection ea_ with ea_ en_ ec_
     subst ea_
     subst ec_
     clear en_
     have ea_:=Option.some.inj (jk.symm.trans jn)
     injection ea_ with ea_ en_ ec_
     subst ea_
     subst ec_
     clear en_
     have ea_:=Option.some.inj (jl.symm.trans jo)
     injection ea_ with ea_ en_ ec_
     subst ea_
     subst ec_
     clear en_
     refine kZ (n:=18) (S:=fun w'=>w'.cell? (j4.add ((j3).toNat * 8))=some (.int .i64 ((aH l0 j3).f0))∧w'.cell? ⟨(j4.add ((j3).toNat * 8)).block,(j4.add ((j3).toNat * 8)).off + 1,none⟩=some (.int .i64 ((aH l0 j3).f1))∧w'.cell? ⟨(j4.add ((j3).toNat * 8)).block,(j4.add ((j3).toNat * 8)).off + 2,none⟩=some (.int .i64 ((aH l0 j3).f2))∧w'.cell? ⟨(j4.add ((j3).toNat * 8)).block,(j4.add ((j3).toNat * 8)).off + 3,none⟩=some (.int .i64 ((aH l0 j3).f3.f0))∧w'.cell? ⟨(j4.add ((j3).toNat * 8)).block,(j4.add ((j3).toNat * 8)).off + 4,none⟩=some (.int .i64 ((aH l0 j3).f3.f1))∧w'.cell? ⟨(j4.add ((j3).toNat * 8)).block,(j4.add ((j3).toNat * 8)).off + 5,none⟩=some (.slice jZ ((aH l0 j3).f3.f2).length q0)∧w'.cell? ⟨(j4.add ((j3).toNat * 8)).block,(j4.add ((j3).toNat * 8)).off + 6,none⟩=some (.slice jQ ((aH l0 j3).f4).length jR)∧w'.cell? ⟨(j4.add ((j3).toNat * 8)).block,(j4.add ((j3).toNat * 8)).off + 7,none⟩=some (.slice jS ((aH l0 j3).f5).length jT)∧w'.cell? (j4.add ((j3).toNat * 8))=some (.int .i64 ((aH l0 j3).f0))∧w'.cell? ⟨(j4.add ((j3).toNat * 8)).block,(j4.add ((j3).toNat * 8)).off + 1,none⟩=some (.int .i64 ((aH l0 j3).f1))∧w'.cell? ⟨(j4.add ((j3).toNat * 8)).block,(j4.add ((j3).toNat * 8)).off + 2,none⟩=some (.int .i64 ((aH l0 j3).f2))∧w'.cell? ⟨(j4.add ((j3).toNat * 8)).block,(j4.add ((j3).toNat * 8)).off + 3,none⟩=some (.int .i64 ((aH l0 j3).f3.f0))∧w'.cell? ⟨(j4.add ((j3).toNat * 8)).block,(j4.add ((j3).toNat * 8)).off + 4,none⟩=some (.int .i64 ((aH l0 j3).f3.f1))∧w'.cell? ⟨(j4.add ((j3).toNat * 8)).block,(j4.add ((j3).toNat * 8)).off + 5,none⟩=some (.slice jZ ((aH l0 j3).f3.f2).length q0)∧w'.cell? ⟨(j4.add ((j3).toNat * 8)).block,(j4.add ((j3).toNat * 8)).off + 6,none⟩=some (.slice jQ ((aH l0 j3).f4).length jR)∧w'.cell? ⟨(j4.add ((j3).toNat * 8)).block,(j4.add ((j3).toNat * 8)).off + 7,none⟩=some (.slice jS ((aH l0 j3).f5).length jT)) (ds:=[]) (bz 18 0) (by kernel_rfl) rfl rfl ⟨((HB.out.cell (World.block_lt_of_cell? w _ hw46_0)).trans hw46_0),((HB.out.cell (World.block_lt_of_cell? w _ hw46_1)).trans hw46_1),((HB.out.cell (World.block_lt_of_cell? w _ hw46_2)).trans hw46_2),((HB.out.cell (World.block_lt_of_cell? w _ hw46_3)).trans hw46_3),((HB.out.cell (World.block_lt_of_cell? w _ hw46_4)).trans hw46_4),((HB.out.cell (World.block_lt_of_cell? w _ hw46_5)).trans hw46_5),((HB.out.cell (World.block_lt_of_cell? w _ hw46_6)).trans hw46_6),((HB.out.cell (World.block_lt_of_cell? w _ hw46_7)).trans hw46_7),((HB.out.cell (World.block_lt_of_cell? w _ hw47_0)).trans hw47_0),((HB.out.cell (World.block_lt_of_cell? w _ hw47_1)).trans hw47_1),((HB.out.cell (World.block_lt_of_cell? w _ hw47_2)).trans hw47_2),((HB.out.cell (World.block_lt_of_cell? w _ hw47_3)).trans hw47_3),((HB.out.cell (World.block_lt_of_cell? w _ hw47_4)).trans hw47_4),((HB.out.cell (World.block_lt_of_cell? w _ hw47_5)).trans hw47_5),((HB.out.cell (World.block_lt_of_cell? w _ hw47_6)).trans hw47_6),((HB.out.cell (World.block_lt_of_cell? w _ hw47_7)).trans hw47_7)⟩ (fun hHeld=>?_);refine iA bF.aFu bF.aAw (fun HT_ HW_=>?_)
     generalize wr.drew=zi at HB qf jU qh qi qj jV jz jA jB jC jD jj jk jl jE jF jG jH jI jm jn jo hHeld ⊢
     refine pr_ 0 22 (bz 18 1) HT_ ?_
     refine pr_ 1 23 (bz 18 3) HT_ ?_
     refine pr_ 2 24 (bz 18 7) HT_ ?_
     refine pr_ 3 25 (bz 18 15) HT_ ?_
     refine pr_ 4 26 (bz 18 31) HT_ ?_
     refine pr_ 6 28 (bz 18 95) HT_ ?_
     refine pr_ 9 31 (bz 18 607) HT_ ?_
     refine pr_ 10 32 (bz 18 1631) HT_ ?_
     refine pr_ 11 33 (bz 18 3679) HT_ ?_
     refine pr_ 12 34 (bz 18 7775) HT_ ?_
     refine pr_ 14 36 (bz 18 24159) HT_ ?_
     refine NY 5 27 (bz 18 24191) HT_ HW_ hHeld ?_
     refine NY 13 35 (bz 18 32383) HT_ HW_ hHeld ?_
     refine gY (i:=7) (N:=some 29) (bz 18 32511) rfl rfl (eG HT_.out (by kernel_rfl)) (by decide) (fun K hK=>?_)
     refine iF Tryz.func11 (by kernel_rfl) rfl #[.slice jQ ((aH l0 j3).f4).length jR, .int .i64 a1] (by rfl) rfl rfl mD ?_
     with_reducible refine (ih k1 (by have:=jW.out;omega) _ _ ((aH l0 j3).f4) a1 qZ _ (aC_ (Kd.aT jU.out HB.out)) qg.out zc.out).mono ?_
     rintro e zj ⟨rfl,hb⟩
     refine ⟨_,rfl,?_⟩
     replace HB:=am (aA dU hb)
     (try clear hb)
     (try clear hb2)
     (try clear hk)
     (try clear hi)
     refine hK.out _ _ ⟨((HB.out.cell (World.block_lt_of_cell? w _ hw46_0)).trans hw46_0),((HB.out.cell (World.block_lt_of_cell? w _ hw46_1)).trans hw46_1),((HB.out.cell (World.block_lt_of_cell? w _ hw46_2)).trans hw46_2),((HB.out.cell (World.block_lt_of_cell? w _ hw46_3)).trans hw46_3),((HB.out.cell (World.block_lt_of_cell? w _ hw46_4)).trans hw46_4),((HB.out.cell (World.block_lt_of_cell? w _ hw46_5)).trans hw46_5),((HB.out.cell (World.block_lt_of_cell? w _ hw46_6)).trans hw46_6),((HB.out.cell (World.block_lt_of_cell? w _ hw46_7)).trans hw46_7),((HB.out.cell (World.block_lt_of_cell? w _ hw47_0)).trans hw47_0),((HB.out.cell (World.block_lt_of_cell? w _ hw47_1)).trans hw47_1),((HB.out.cell (World.block_lt_of_cell? w _ hw47_2)).trans hw47_2),((HB.out.cell (World.block_lt_of_cell? w _ hw47_3)).trans hw47_3),((HB.out.cell (World.block_lt_of_cell? w _ hw47_4)).trans hw47_4),((HB.out.cell (World.block_lt_of_cell? w _ hw47_5)).trans hw47_5),((HB.out.cell (World.block_lt_of_cell? w _ hw47_6)).trans hw47_6),((HB.out.cell (World.block_lt_of_cell? w _ hw47_7)).trans hw47_7)⟩ (fun hHeld=>?_)
     clear hK K
     refine eZ (a':=?_) ?_ ?_
     rotate_left
     ·exact ap_ (N:=29)
     refine pr_ 8 30 (bz 18 32767) HT_ ?_
     refine gY (i:=15) (N:=some 37) (bz 18 65535) rfl rfl (eG HT_.out (by kernel_rfl)) (by decide) (fun K hK=>?_)
     refine iF Tryz.func11 (by kernel_rfl) rfl #[.slice jS ((aH l0 j3).f5).length jT, .int .i64 a1] (by rfl) rfl rfl mD ?_
     with_reducible refine (ih k1 (by have:=jW.out;omega) _ _ ((aH l0 j3).f5) a1 z1 _ (aC_ (Kd.aT jV.out HB.out)) qk.out zd.out).mono ?_
     rintro e zk ⟨rfl,hb⟩
     refine ⟨_,rfl,?_⟩
     replace HB:=am (aA dU hb)
     (try clear hb)
     (try clear hb2)
     (try clear hk)
     (try clear hi)
     refine hK.out _ _ ⟨((HB.out.cell (World.block_lt_of_cell? w _ hw46_0)).trans hw46_0),((HB.out.cell (World.block_lt_of_cell? w _ hw46_1)).trans hw46_1),((HB.out.cell (World.block_lt_of_cell? w _ hw46_2)).trans hw46_2),((HB.out.cell (World.block_lt_of_cell? w _ hw46_3)).trans hw46_3),((HB.out.cell (World.block_lt_of_cell? w _ hw46_4)).trans hw46_4),((HB.out.cell (World.block_lt_of_cell? w _ hw46_5)).trans hw46_5),((HB.out.cell (World.block_lt_of_cell? w _ hw46_6)).trans hw46_6),((HB.out.cell (World.block_lt_of_cell? w _ hw46_7)).trans hw46_7),((HB.out.cell (World.block_lt_of_cell? w _ hw47_0)).trans hw47_0),((HB.out.cell (World.block_lt_of_cell? w _ hw47_1)).trans hw47_1),((HB.out.cell (World.block_lt_of_cell? w _ hw47_2)).trans hw47_2),((HB.out.cell (World.block_lt_of_cell? w _ hw47_3)).trans hw47_3),((HB.out.cell (World.block_lt_of_cell? w _ hw47_4)).trans hw47_4),((HB.out.cell (World.block_lt_of_cell? w _ hw47_5)).trans hw47_5),((HB.out.cell (World.block_lt_of_cell? w _ hw47_6)).trans hw47_6),((HB.out.cell (World.block_lt_of_cell? w _ hw47_7)).trans hw47_7)⟩ (fun hHeld=>?_)
     clear hK K
     refine eZ (a':=?_) ?_ ?_
     rotate_left
     ·exact ap_ (N:=37)
     refine pr_ 16 38 (bz 18 131071) HT_ ?_
     refine pr_ 17 5 (bz 18 262143) HT_ ?_
     refine nA (kS HT_.out (by kernel_rfl)) ?_
     try go_wp2
     go_roundg k1
     case measure=>have:=jW.out;omega
     case rel=>exact ⟨(wrap64 ((wrap64 (jJ + qZ)) + z1)),(wrap64 (j3 + 1)),sd_,sd_,H',⟨by have:=jW.out;omega⟩,⟨dU⟩⟩
    rw [if_neg c4] at H
    exact absurd H (by simp)
   rw [if_neg c3] at H
   have qs:decide (j3 < (l0.length:Int))=false:=decide_eq_false c3
   clear c3
   obtain rfl:=Option.some.inj H
   go_wp2
   go_ret
   exact ⟨rr_,dU⟩
theorem bX.mono_l:∀ k,(∀ y0 y1 y2 y3,LeO (bX.l0 k y0 y1 y2 y3) (bX.l0 (k + 1) y0 y1 y2 y3))
 |0=>fun _ _ _ _ r h=>by simp [bX.l0] at h
 |k + 1=>by
  have ih0:=bX.mono_l k
  ·intro y0 y1 y2 y3
   unfold bX.l0
   exact mo_
theorem bX.mono:∀ a0 a1 k,LeO (bX.f k a0 a1) (bX.f (k + 1) a0 a1):=by
 intro a0 a1 k
 have ih0:=bX.mono_l k
 unfold bX.f
 exact mo_
theorem bX.calls (k:Nat) (A0:Option Addr) (c0:Nat) (l0:List ByteArray) (a1:ByteArray) (r:Int) (w:World) (hr0:Kd.C Kd.string w A0 l0.length l0) (hc0:l0.length≤c0) (h:bX.f k l0 a1=some r):
  Calls Tryz.prog 12 #[.slice A0 l0.length c0, .string a1] w fun e w'=>e= .returned (.int .i64 r)∧gQ w w':=by
 have je:=am hr0
 have jg:=am hc0
 clear hr0 hc0
 have H:(bX.l0 k l0 a1 0 0)=some r:=h
 clear h
 have H':=am H
 clear H
 go_enter Tryz.func12,Tryz.ntmps12
 go_wp2
 go_loopg [5,6] k (fun kq v5 v6 w'=>∃ (j4:Int) (j3:Int),v5= .int .i64 j4∧v6= .int .i64 j3∧Aside0 (bX.l0 kq l0 a1 j4 j3=some r)∧Aside0 (kq≤k)∧gQ w w')
 case atStart=>exact ⟨(0),(0),sd_,sd_,H',⟨Nat.le_refl _⟩,fK⟩
 case round=>
  clear H'
  obtain ⟨j4,j3,rfl,rfl,HA,j8,⟨m1,rfl⟩⟩:=hrel
  cases gk with
  |zero=>exact absurd HA.out (by simp [bX.l0])
  |succ k1=>
   have H:=HA.out
   clear HA
   simp only [bX.l0] at H
   by_cases c3:j3 < (l0.length:Int)
   ·rw [if_pos c3] at H
    have j9:decide (j3 < (l0.length:Int))=true:=decide_eq_true c3
    clear c3
    by_cases c4:0≤j3
    ·rw [if_pos c4] at H
     have jf:decide (0≤j3)=true:=decide_eq_true c4
     clear c4
     by_cases c5:(nL ByteArray.empty l0 j3).toList=a1.toList
     ·rw [if_pos c5] at H
      have ja:((nL ByteArray.empty l0 j3).toList == a1.toList)=true:=beq_iff_eq.mpr c5
      have jb:((nL ByteArray.empty l0 j3).toList != a1.toList)=false:=bne_eq_false_iff_eq.mpr c5
      clear c5
      have H':=am H
      clear H
      have j5:0≤(j3:Int):=of_decide_eq_true eB
      have j6:j3 < (l0.length:Int):=of_decide_eq_true eB
      obtain ⟨jc,jd,j7⟩:=Kd.nW je.out j3 j5 j6
      cases jd
      replace j5:=eq_true j5
      replace j6:=eq_true j6
      go_wp2
      go_roundg k1
      case measure=>have:=j8.out;omega
      case rel=>exact ⟨(wrap64 (j4 + 1)),(wrap64 (j3 + 1)),sd_,sd_,H',⟨by have:=j8.out;omega⟩,fK⟩
     rw [if_neg c5] at H
     have ja:((nL ByteArray.empty l0 j3).toList == a1.toList)=false:=beq_eq_false_iff_ne.mpr c5
     have jb:((nL ByteArray.empty l0 j3).toList != a1.toList)=true:=bne_iff_ne.mpr c5
     have H':=am H
     clear H
     have j5:0≤(j3:Int):=of_decide_eq_true eB
     have j6:j3 < (l0.length:Int):=of_decide_eq_true eB
     obtain ⟨jc,jd,j7⟩:=Kd.nW je.out j3 j5 j6
     cases jd
     replace j5:=eq_true j5
     replace j6:=eq_true j6
     go_wp2
     go_roundg k1
     case measure=>have:=j8.out;omega
     case rel=>exact ⟨(j4),(wrap64 (j3 + 1)),sd_,sd_,H',⟨by have:=j8.out;omega⟩,fK⟩
    rw [if_neg c4] at H
    exact absurd H (by simp)
   rw [if_neg c3] at H
   have j9:decide (j3 < (l0.length:Int))=false:=decide_eq_false c3
   clear c3
   obtain rfl:=Option.some.inj H
   go_wp2
   go_ret
   exact ⟨sd_,fK⟩
theorem bE.mono_l:∀ k,(∀ y0 y1 y2 y3 y4,LeO (bE.j0 k y0 y1 y2 y3 y4) (bE.j0 (k + 1) y0 y1 y2 y3 y4))∧(∀ y0 y1 y2 y3 y4 y5 y6 y7,LeO (bE.l0 k y0 y1 y2 y3 y4 y5 y6 y7) (bE.l0 (k + 1) y0 y1 y2 y3 y4 y5 y6 y7))
 |0=>⟨fun _ _ _ _ _ r h=>by simp [bE.j0] at h,fun _ _ _ _ _ _ _ _ r h=>by simp [bE.l0] at h⟩
 |k + 1=>by
  obtain ⟨ih0,ih1⟩:=bE.mono_l k
  refine ⟨?_,?_⟩
  ·intro y0 y1 y2 y3 y4
   unfold bE.j0
   have m0:=@bC.mono
   have m1:=@dH.mono
   have m2:=@bF.mono
   have m3:=@bX.mono
   have m4:=@fD.mono
   have m5:=@bB.mono
   exact mo_
  ·intro y0 y1 y2 y3 y4 y5 y6 y7
   unfold bE.l0
   have m0:=@bC.mono
   have m1:=@dH.mono
   have m2:=@bF.mono
   have m3:=@bX.mono
   have m4:=@fD.mono
   have m5:=@bB.mono
   exact mo_
theorem bE.mono:∀ a0 k,LeO (bE.f k a0) (bE.f (k + 1) a0):=by
 intro a0 k
 obtain ⟨ih0,ih1⟩:=bE.mono_l k
 unfold bE.f
 have m0:=@bC.mono
 have m1:=@dH.mono
 have m2:=@bF.mono
 have m3:=@bX.mono
 have m4:=@fD.mono
 have m5:=@bB.mono
 exact mo_
theorem bE.calls (k:Nat) (A0:Option Addr) (c0:Nat) (l0:List Int) (r:Bool) (w:World) (hr0:Kd.C (Kd.int .u8) w A0 l0.length l0) (hc0:l0.length≤c0) (ht_:Tab w) (h:bE.f k l0=some r):
  Calls Tryz.prog 3 #[.slice A0 l0.length c0] w fun e w'=>e= .returned (.bool r)∧Below w.heap.size w w':=by
 have hu26:=Tryz.underlying26
 have z0:=am hr0
 have z1:=am hc0
 clear hr0 hc0
 have HB:=am (Below.refl w.heap.size w)
 unfold bE.f at h
 have H:=h
 clear h
 by_cases c2:(l0.length:Int) > 1048576
 ·rw [if_pos c2] at H
  have jA:decide (1048576 < (l0.length:Int))=true:=decide_eq_true c2
  have jB:decide (1048576 < l0.length)=true:=decide_eq_true (by omega)
  clear c2
  obtain rfl:=Option.some.inj H
  go_enter Tryz.func3,Tryz.ntmps3
  go_wp2
  go_ret
  exact ⟨rr_,dU⟩
 rw [if_neg c2] at H
 have jA:decide (1048576 < (l0.length:Int))=false:=decide_eq_false c2
 have jB:decide (1048576 < l0.length)=false:=decide_eq_false (by omega)
 clear c2
 obtain ⟨⟨jg,j9⟩,A3,H⟩:=bsa H
 (try dsimp only at H)
 obtain ⟨jx,A4,H⟩:=bsa H
 (try dsimp only at H)
 obtain ⟨jC,A5,H⟩:=bsa H
 (try dsimp only at H)
 have qC:=am H
 clear H
 go_enter Tryz.func3,Tryz.ntmps3
 go_upto_region 6 with (first|((with_reducible refine aD (f:=7) rfl ?_);refine gl_ 16 Tryz.func7 #[.slice A0 l0.length c0] ?_;(with_reducible refine (fD.calls k _ _ l0 jg j9 _ (aC_ z0.out) z1.out A3.out).mono ?_);rintro e w7 ⟨z2,zn,rfl,ho0,ho1,hb⟩;refine ⟨_,rfl,?_⟩;have jb:=am (Kd.fG (Kd.bV (ok':=fun k_=>True) ho0 (fun _ hk_=>trivial)) (aJ dU));have jc:=am (Kd.eU (Kd.aW (ok':=fun k_=>some k_≠(z2:Value).ownBlock) ho1 (fun k_ hk_=>hk_.2)) (aJ dU));replace HB:=am (aA dU hb);(try clear hb);(try clear ho0);(try clear ho1))|((with_reducible refine cK (N:=3) rfl ?_);refine eO rfl (N:=3) rfl (cs:=#[.slice none 0 0, .slice none 0 0]) (t:=26) rn_ ?_;intro j7 hg w8 hbox hb;replace jb:=am (Kd.gG (aR_ jb.out) hb);replace jc:=am (Kd.kH (Kd.CK (aN_ jc.out) j7 (Nat.le_of_eq hg.symm)) hb);have j5:=am (hbox);have z3:=am ((by rw [hg];exact (aJ dU):w.heap.size≤j7));have GE53:=am ((by rw [hg];exact (aJ dU):w.heap.size≤j7));replace HB:=am (aA dU hb);clear hb hbox hg;obtain ⟨jl,jk,z4⟩:=Kd.eY jb.out;subst z4;obtain ⟨jm,jn,jo,jp⟩:=iV j5.out;obtain ⟨jf,jd,qD⟩:=Kd.eF jc.out;subst qD)|((with_reducible refine aD (f:=8) rfl ?_);refine gl_ 18 Tryz.func8 #[.agg #[.slice jl jg.length jk, .slice jf j9.length jd]] ?_;(with_reducible refine (bC.calls k _ _ jg _ _ j9 jx _ ?side1 (Kd.eH jb.out).2.1 ?side3 (Kd.eP jc.out).2.1 ?sideT A4.out).mono ?_);(case sideT=>first|exact ht_|exact Tab.below ht_ HB.out|exact Tab.below ht_ sV);(case side1=>refine (Kd.eH (e:=3) (base:=w.heap.size) (ok:=fun k_=>True) (n:=jg.length) (c:=jk) ?_).2.2;exact (gH ((Kd.bV (Kd.kI (p:=⟨j7,1,none⟩) (Kd.kI (p:=⟨j7,0,none⟩) (Kd.lW jb.out j5.out (by decide)) (fun _ hk=>hk.2) (.slice jl jg.length jk)) (fun _ hk=>hk.2) (.slice jf j9.length jd)) (fun _ h_=>h_.1)))));(case side3=>refine (Kd.eP (e:=33) (base:=w.heap.size) (ok:=fun k_=>(some k_≠(.slice jl jg.length jk:Value).ownBlock∧k_≠j7)) (n:=j9.length) (c:=jd) ?_).2.2;exact (lN ((Kd.aW (Kd.dB (p:=⟨j7,1,none⟩) (Kd.dB (p:=⟨j7,0,none⟩) (Kd.aW jc.out (fun k_ hk=>(⟨hk,hk.2⟩:_∧k_≠j7))) (fun _ hk=>hk.2) (.slice jl jg.length jk)) (fun _ hk=>hk.2) (.slice jf j9.length jd)) (fun _ h_=>h_.1)))));rintro e zo ⟨rfl,hb⟩;refine ⟨_,rfl,?_⟩;replace jb:=am (Kd.gG (gH ((Kd.bV (Kd.kI (p:=⟨j7,1,none⟩) (Kd.kI (p:=⟨j7,0,none⟩) (Kd.lW jb.out j5.out (by decide)) (fun _ hk=>hk.2) (.slice jl jg.length jk)) (fun _ hk=>hk.2) (.slice jf j9.length jd)) (fun _ h_=>h_.1)))) hb);replace jc:=am (Kd.kH (lN ((Kd.aW (Kd.dB (p:=⟨j7,1,none⟩) (Kd.dB (p:=⟨j7,0,none⟩) (Kd.aW jc.out (fun k_ hk=>(⟨hk,hk.2⟩:_∧k_≠j7))) (fun _ hk=>hk.2) (.slice jl jg.length jk)) (fun _ hk=>hk.2) (.slice jf j9.length jd)) (fun _ h_=>h_.1)))) hb);replace j5:=am (kK (g:=j7) (o:= .cells #[.slice jl jg.length jk, .slice jf j9.length jd] 26 (0,0)) (aY (aY j5.out 0 _ rfl) 1 _ rfl) hb);replace HB:=am (aA sV hb);(try clear hb);obtain ⟨jq,jr,js,jt⟩:=iV j5.out)|((with_reducible refine aD (f:=9) rfl ?_);refine gl_ 20 Tryz.func9 #[.agg #[.slice jl jg.length jk, .slice jf j9.length jd]] ?_;(with_reducible refine (bB.calls k _ _ jg _ _ j9 jC _ (aC_ (Kd.eH jb.out).2.2) (Kd.eH jb.out).2.1 (aC_ (Kd.eP jc.out).2.2) (Kd.eP jc.out).2.1 A5.out).mono ?_);rintro e zp ⟨rfl,hb⟩;refine ⟨_,rfl,?_⟩;replace jb:=am (Kd.gG (aR_ jb.out) hb);replace jc:=am (Kd.kH (aN_ jc.out) hb);replace j5:=bbP j5 hb;replace HB:=am (aA sV hb);(try clear hb)))
 (try simp only [Act.put,List.setIfInBounds_toArray,List.set_cons_zero,List.set_cons_succ])
 go_cut [27] (fun z5 wc=>∃ (kq:Nat) (ju:Bool),z5= .bool ju∧Aside0 (bE.j0 kq jx jC ju jg j9=some r)∧Aside0 (kq≤k)∧Aside0 (Kd.R (Kd.int .i64) 3 wc w.heap.size (fun _=>True) (.slice jl jg.length jk) jg)∧Aside0 (Kd.N (Kd.slice 58 k58) 33 wc w.heap.size (fun k_=>some k_≠((.slice jl jg.length jk):Value).ownBlock∧k_≠j7) (.slice jf j9.length jd) j9)∧Aside0 (wc.heap[j7]?=some (.cells #[(.slice jl jg.length jk),(.slice jf j9.length jd)] 26 (0,0)))∧Aside0 (Below w.heap.size w wc))
 case first=>
  have H:=qC.out
  clear qC
  by_cases jD:jx.toList=jC.toList
  ·rw [if_pos jD] at H
   have jj:(jx.toList == jC.toList)=true:=beq_iff_eq.mpr jD
   have jO:(jx.toList != jC.toList)=false:=bne_eq_false_iff_eq.mpr jD
   clear jD
   (first|rw [jj]|(simp only [fI,fO];rw [jj])|skip)
   have H':=am H
   clear H
   go_wp2
   go_meet
   case rel=>exact ⟨_,((jx.toList == ([]:List UInt8))),sd_,H',⟨by first|omega|exact Nat.le_refl _⟩,⟨gH jb.out⟩,⟨lN jc.out⟩,⟨by (with_reducible repeat (first|refine dQ ?_ _|refine dA ?_|refine dP ?_ _));exact j5.out⟩,⟨sV⟩⟩
  rw [if_neg jD] at H
  have jj:(jx.toList == jC.toList)=false:=beq_eq_false_iff_ne.mpr jD
  have jO:(jx.toList != jC.toList)=true:=bne_iff_ne.mpr jD
  (first|rw [jj]|(simp only [fI,fO];rw [jj])|skip)
  have H':=am H
  clear H
  go_wp2
  go_meet
  case rel=>exact ⟨_,(true),sd_,H',⟨by first|omega|exact Nat.le_refl _⟩,⟨gH jb.out⟩,⟨lN jc.out⟩,⟨by (with_reducible repeat (first|refine dQ ?_ _|refine dA ?_|refine dP ?_ _));exact j5.out⟩,⟨sV⟩⟩
 case rest=>
  clear qC
  try clear c2
  try clear jA
  try clear jB
  try clear jm
  try clear jn
  try clear jq
  try clear jr
  try clear jo
  try clear jp
  try clear js
  try clear jt
  obtain ⟨kq,ju,rfl,HA,HJ5,j8,j4,j5,HB⟩:=hcut
  cases kq with
  |zero=>exact absurd HA.out (by simp [bE.j0])
  |succ qE=>
   have H:=HA.out
   clear HA
   simp only [bE.j0] at H
   by_cases jP:ju=true
   ·subst jP
    rw [if_pos rfl] at H
    obtain rfl:=Option.some.inj H
    go_wp2
    go_ret
    exact ⟨rr_,sV⟩
   replace jP:=Bool.eq_false_iff.mpr jP
   subst jP
   rw [if_neg (show ¬ (false=true) by decide)] at H
   obtain ⟨⟨jy,qF⟩,z6,H⟩:=bsa H
   (try dsimp only at H)
   have H':=am H
   clear H
   go_wp2_with (first|((with_reducible refine aD (f:=10) rfl ?_);refine gl_ 33 Tryz.func10 #[.string jx] ?_;(with_reducible refine (dH.calls qE jx jy qF _ z6.out).mono ?_);rintro e zq ⟨qN,rfl,ho0,hb⟩;refine ⟨_,rfl,?_⟩;replace j8:=am (Kd.gG (aR_ j8.out) hb);replace j4:=am (Kd.rG (aN_ j4.out) (Kd.iU ho0) hb);have qG:=am (Kd.fG ho0 (aJ sV));replace j5:=bbP j5 hb;replace HB:=am (aA sV hb);(try clear hb);(try clear ho0)))
   go_loopg [8,9,10,11] qE (fun kq v8 v9 z7 z8 w'=>∃ (jh:Int) (ji:Int) (jv:Int) (j3:Int),v8= .int .i64 jh∧v9= .int .i64 ji∧z7= .int .i64 jv∧z8= .int .i64 j3∧Aside0 (bE.l0 kq jy qF jh ji jv j3 jg j9=some r)∧Aside0 (kq≤qE)∧Aside0 (Kd.R Kd.string 9 w' w.heap.size (fun _=>True) qN jy)∧Aside0 (Kd.R (Kd.int .i64) 3 w' w.heap.size (fun _=>True) (.slice jl jg.length jk) jg)∧Aside0 (Kd.N (Kd.slice 58 k58) 33 w' w.heap.size (fun k_=>some k_≠(qN:Value).ownBlock∧some k_≠((.slice jl jg.length jk):Value).ownBlock∧k_≠j7) (.slice jf j9.length jd) j9)∧Aside0 (w'.heap[j7]?=some (.cells #[(.slice jl jg.length jk),(.slice jf j9.length jd)] 26 (0,0)))∧Aside0 (Below w.heap.size w w'))
   case atStart=>exact ⟨(0),(0),(0),(0),sd_,sd_,sd_,sd_,H',⟨Nat.le_refl _⟩,⟨gH qG.out⟩,⟨gH j8.out⟩,⟨lN (Kd.aW j4.out (fun _ hk=>⟨hk.2,⟨hk.1.1,hk.1.2⟩⟩))⟩,⟨by (with_reducible repeat (first|refine dQ ?_ _|refine dA ?_|refine dP ?_ _));exact j5.out⟩,⟨sV⟩⟩
   case round=>
    clear H'
    try clear c2
    try clear jA
    try clear jB
    try clear jP
    try clear jm
    try clear jn
    try clear jq
    try clear jr
    try clear jo
    try clear jp
    try clear js
    try clear jt
    obtain ⟨jh,ji,jv,j3,rfl,rfl,rfl,rfl,HA,qO,j6,j8,j4,j5,HB⟩:=hrel
    cases gk with
    |zero=>exact absurd HA.out (by simp [bE.l0])
    |succ k2=>
     have H:=HA.out
     clear HA
     simp only [bE.l0] at H
     by_cases jN:j3 < (j9.length:Int)
     ·rw [if_pos jN] at H
      have jQ:decide (j3 < (j9.length:Int))=true:=decide_eq_true jN
      clear jN
      by_cases q2:0≤j3
      ·rw [if_pos q2] at H
       have qP:decide (0≤j3)=true:=decide_eq_true q2
       clear q2
       obtain ⟨qQ,qR,H⟩:=bsm H
       (try dsimp only at H)
       have z9:=am qR
       clear qR
       obtain ⟨qS,qU,H⟩:=bsm H
       (try dsimp only at H)
       have za:=am qU
       clear qU
       obtain ⟨qV,zb,H⟩:=bsa H
       (try dsimp only at H)
       have H':=am H
       clear H
       obtain ⟨q3,q4,q5,q6⟩:=iV j5.out
       have q7:0≤(j3:Int):=of_decide_eq_true eB
       have q8:j3 < (j9.length:Int):=of_decide_eq_true eB
       obtain ⟨jR,jS,jT,zc,jE,hl71_0,hi71_0⟩:=uL (Kd.eP j4.out).2.2 j3 q7 q8
       cases zc
       obtain ⟨ce994,hce994,hMe994,hcc994⟩:=Kd.MW j4.out [] j3 q7 (by first|exact q8|exact of_decide_eq_true eB|(have e_:=(Kd.eP j4.out).1;omega))
       obtain ⟨ua994_0,uc994_0,rfl,ul994_0,ge994_0⟩:=Kd.mJ hMe994
       have hv994_0:=hcc994 0 _ rfl
       rw [Nat.add_zero,show ((Kd.slice 58 k58)).sz=1 from rfl,Nat.mul_one] at hv994_0
       replace hv994_0:=Option.some.inj (hv994_0.symm.trans jE)
       injection hv994_0 with hva_ hvn_ hvc_
       rw [hva_] at ge994_0
       rw [hvc_] at ul994_0
       have ja:=am (show Kd.V k58 58 _ w.heap.size _ _ (fJ j9 j3) from Kd.aBr ul994_0 ge994_0)
       clear hva_ hvn_ hvc_ ge994_0 ul994_0
       clear hcc994 hce994
       have HR71_0:=am hi71_0
       have jF:=am hl71_0
       clear hi71_0 hl71_0
       replace q7:=eq_true q7
       replace q8:=eq_true q8
       go_wp2_with (first|((with_reducible refine aD (f:=11) rfl ?_);refine gl_ 49 Tryz.func11 #[.slice jS (fJ j9 j3).length jT, .int .i64 3] ?_;(with_reducible refine (bF.calls k2 _ _ (fJ j9 j3) 3 qQ _ ?side1 jF.out z9.out).mono ?_);(case side1=>repeat (first|exact aAu|(with_reducible refine Kd.iY ?_ _)|(with_reducible refine Kd.iR ?_ _)|(with_reducible refine Kd.kW ?_)));rintro e zr ⟨rfl,hb⟩;refine ⟨_,rfl,?_⟩;replace j6:=am (Kd.gG (aR_ j6.out) hb);replace j8:=am (Kd.gG (aR_ j8.out) hb);replace j4:=am (Kd.kH (aN_ j4.out) hb);replace ja:=am (Kd.oW (by (with_reducible repeat (first|apply Kd.lX|apply Kd.lY|apply Kd.nG));exact ja.out) hb);replace j5:=bbP j5 hb;replace HR71_0:=am (Kd.aT aAu hb);replace HB:=am (aA sV hb);(try clear hb);obtain ⟨q9,qa,qb,qc⟩:=iV j5.out;have qd:0≤(j3:Int):=of_decide_eq_true eB;have qe:j3 < (j9.length:Int):=of_decide_eq_true eB;obtain ⟨qH,jU,jV,zd,jG,hl72_0,hi72_0⟩:=uL (Kd.eP j4.out).2.2 j3 qd qe;obtain rfl:jR=qH:=(by injection zd);obtain ⟨ce996,hce996,hMe996,hcc996⟩:=Kd.MW j4.out [] j3 qd (by first|exact qe|exact of_decide_eq_true eB|(have e_:=(Kd.eP j4.out).1;omega));obtain ⟨ua996_0,uc996_0,rfl,ul996_0,ge996_0⟩:=Kd.mJ hMe996;have hv996_0:=hcc996 0 _ rfl;rw [Nat.add_zero,show ((Kd.slice 58 k58)).sz=1 from rfl,Nat.mul_one] at hv996_0;replace hv996_0:=Option.some.inj (hv996_0.symm.trans jG);injection hv996_0 with hva_ hvn_ hvc_;rw [hva_] at ge996_0;rw [hvc_] at ul996_0;have je:=am (show Kd.V k58 58 _ w.heap.size _ _ (fJ j9 j3) from Kd.aBr ul996_0 ge996_0);clear hva_ hvn_ hvc_ ge996_0 ul996_0 hcc996 hce996;have HR72_0:=am hi72_0;have jH:=am hl72_0;clear hi72_0 hl72_0;replace qd:=eq_true qd;replace qe:=eq_true qe)|((with_reducible refine aD (f:=11) rfl ?_);refine gl_ 57 Tryz.func11 #[.slice jU (fJ j9 j3).length jV, .int .i64 4] ?_;(with_reducible refine (bF.calls k2 _ _ (fJ j9 j3) 4 qS _ ?side1 jH.out za.out).mono ?_);(case side1=>repeat (first|exact TN|(with_reducible refine Kd.iY ?_ _)|(with_reducible refine Kd.iR ?_ _)|(with_reducible refine Kd.kW ?_)));rintro e zs ⟨rfl,hb⟩;refine ⟨_,rfl,?_⟩;replace j6:=am (Kd.gG (aR_ j6.out) hb);replace j8:=am (Kd.gG (aR_ j8.out) hb);replace j4:=am (Kd.kH (aN_ j4.out) hb);replace ja:=am (Kd.oW (by (with_reducible repeat (first|apply Kd.lX|apply Kd.lY|apply Kd.nG));exact ja.out) hb);replace je:=am (Kd.oW (by (with_reducible repeat (first|apply Kd.lX|apply Kd.lY|apply Kd.nG));exact je.out) hb);replace j5:=bbP j5 hb;replace HR71_0:=am (Kd.aT aAu hb);replace HR72_0:=am (Kd.aT TN hb);replace HB:=am (aA sV hb);(try clear hb);obtain ⟨qf,qg,qh,qi⟩:=iV j5.out;have qj:0≤(j3:Int):=of_decide_eq_true eB;have qk:j3 < (j9.length:Int):=of_decide_eq_true eB;obtain ⟨qI,jW,jX,ze,jI,hl73_0,hi73_0⟩:=uL (Kd.eP j4.out).2.2 j3 qj qk;obtain rfl:jR=qI:=(by injection ze);obtain ⟨ce998,hce998,hMe998,hcc998⟩:=Kd.MW j4.out [] j3 qj (by first|exact qk|exact of_decide_eq_true eB|(have e_:=(Kd.eP j4.out).1;omega));obtain ⟨ua998_0,uc998_0,rfl,ul998_0,ge998_0⟩:=Kd.mJ hMe998;have hv998_0:=hcc998 0 _ rfl;rw [Nat.add_zero,show ((Kd.slice 58 k58)).sz=1 from rfl,Nat.mul_one] at hv998_0;replace hv998_0:=Option.some.inj (hv998_0.symm.trans jI);injection hv998_0 with hva_ hvn_ hvc_;rw [hva_] at ge998_0;rw [hvc_] at ul998_0;have jw:=am (show Kd.V k58 58 _ w.heap.size _ _ (fJ j9 j3) from Kd.aBr ul998_0 ge998_0);clear hva_ hvn_ hvc_ ge998_0 ul998_0 hcc998 hce998;have HR73_0:=am hi73_0;have jJ:=am hl73_0;clear hi73_0 hl73_0;replace qj:=eq_true qj;replace qk:=eq_true qk)|((with_reducible refine aD (f:=11) rfl ?_);refine gl_ 65 Tryz.func11 #[.slice jW (fJ j9 j3).length jX, .int .i64 6] ?_;(with_reducible refine (bF.calls k2 _ _ (fJ j9 j3) 6 qV _ ?side1 jJ.out zb.out).mono ?_);(case side1=>repeat (first|exact aCs|(with_reducible refine Kd.iY ?_ _)|(with_reducible refine Kd.iR ?_ _)|(with_reducible refine Kd.kW ?_)));rintro e zt ⟨rfl,hb⟩;refine ⟨_,rfl,?_⟩;replace j6:=am (Kd.gG (aR_ j6.out) hb);replace j8:=am (Kd.gG (aR_ j8.out) hb);replace j4:=am (Kd.kH (aN_ j4.out) hb);replace ja:=am (Kd.oW (by (with_reducible repeat (first|apply Kd.lX|apply Kd.lY|apply Kd.nG));exact ja.out) hb);replace je:=am (Kd.oW (by (with_reducible repeat (first|apply Kd.lX|apply Kd.lY|apply Kd.nG));exact je.out) hb);replace jw:=am (Kd.oW (by (with_reducible repeat (first|apply Kd.lX|apply Kd.lY|apply Kd.nG));exact jw.out) hb);replace j5:=bbP j5 hb;replace HR71_0:=am (Kd.aT aAu hb);replace HR72_0:=am (Kd.aT TN hb);replace HR73_0:=am (Kd.aT aCs hb);replace HB:=am (aA sV hb);(try clear hb)))
       go_roundg k2
       case measure=>have:=HJ5.out;have:=qO.out;omega
       case rel=>exact ⟨(wrap64 (jh + qQ)),(wrap64 (ji + qS)),(wrap64 (jv + qV)),(wrap64 (j3 + 1)),sd_,sd_,sd_,sd_,H',⟨by have:=HJ5.out;have:=qO.out;omega⟩,⟨gH j6.out⟩,⟨gH j8.out⟩,⟨lN j4.out⟩,⟨by (with_reducible repeat (first|refine dQ ?_ _|refine dA ?_|refine dP ?_ _));exact j5.out⟩,⟨sV⟩⟩
      rw [if_neg q2] at H
      exact absurd H (by simp)
     rw [if_neg jN] at H
     have jQ:decide (j3 < (j9.length:Int))=false:=decide_eq_false jN
     clear jN
     by_cases ql:qF=true
     ·subst ql
      rw [if_pos rfl] at H
      obtain ⟨jz,qW,H⟩:=bsm H
      (try dsimp only at H)
      have qJ:=am qW
      clear qW
      by_cases jK:jz=jh
      ·rw [if_pos jK] at H
       have jY:(jz == jh)=true:=beq_iff_eq.mpr jK
       have jZ:(jz != jh)=false:=bne_eq_false_iff_eq.mpr jK
       clear jK
       obtain ⟨jL,qX,H⟩:=bsm H
       (try dsimp only at H)
       have qY:=am qX
       clear qX
       by_cases jM:jL=ji
       ·rw [if_pos jM] at H
        have q0:(jL == ji)=true:=beq_iff_eq.mpr jM
        have q1:(jL != ji)=false:=bne_eq_false_iff_eq.mpr jM
        clear jM
        obtain ⟨zf,qZ,H⟩:=bsm H
        (try dsimp only at H)
        have zg:=am qZ
        clear qZ
        obtain rfl:=Option.some.inj H
        obtain ⟨qm,qn,qo,qp⟩:=iV j5.out
        obtain ⟨zh,zi,qK⟩:=Kd.eY j6.out
        subst qK
        go_wp2_with (first|(go_at_call 12;(with_reducible refine (bX.calls k2 _ _ jy (⟨#[119,104,105,108,101]⟩:ByteArray) jz _ (aC_ (Kd.eH j6.out).2.2) (Kd.eH j6.out).2.1 qJ.out).mono ?_);rintro e w' ⟨rfl,⟨nd,rfl⟩⟩)|(go_at_call 12;(with_reducible refine (bX.calls k2 _ _ jy (⟨#[115,101,110,100]⟩:ByteArray) jL _ (aC_ (Kd.eH j6.out).2.2) (Kd.eH j6.out).2.1 qY.out).mono ?_);rintro e w' ⟨rfl,⟨nd,rfl⟩⟩)|(go_at_call 12;(with_reducible refine (bX.calls k2 _ _ jy (⟨#[121,105,101,108,100]⟩:ByteArray) zf _ (aC_ (Kd.eH j6.out).2.2) (Kd.eH j6.out).2.1 zg.out).mono ?_);rintro e w' ⟨rfl,⟨nd,rfl⟩⟩))
        go_ret
        exact ⟨rr_,sV⟩
       rw [if_neg jM] at H
       have q0:(jL == ji)=false:=beq_eq_false_iff_ne.mpr jM
       have q1:(jL != ji)=true:=bne_iff_ne.mpr jM
       obtain rfl:=Option.some.inj H
       obtain ⟨qq,qr,qs,qt⟩:=iV j5.out
       obtain ⟨zj,zk,qL⟩:=Kd.eY j6.out
       subst qL
       go_wp2_with (first|(go_at_call 12;(with_reducible refine (bX.calls k2 _ _ jy (⟨#[119,104,105,108,101]⟩:ByteArray) jz _ (aC_ (Kd.eH j6.out).2.2) (Kd.eH j6.out).2.1 qJ.out).mono ?_);rintro e w' ⟨rfl,⟨nd,rfl⟩⟩)|(go_at_call 12;(with_reducible refine (bX.calls k2 _ _ jy (⟨#[115,101,110,100]⟩:ByteArray) jL _ (aC_ (Kd.eH j6.out).2.2) (Kd.eH j6.out).2.1 qY.out).mono ?_);rintro e w' ⟨rfl,⟨nd,rfl⟩⟩))
       go_ret
       exact ⟨rr_,sV⟩
      rw [if_neg jK] at H
      have jY:(jz == jh)=false:=beq_eq_false_iff_ne.mpr jK
      have jZ:(jz != jh)=true:=bne_iff_ne.mpr jK
      obtain rfl:=Option.some.inj H
      obtain ⟨qu,qv,qw,qx⟩:=iV j5.out
      obtain ⟨zl,zm,qM⟩:=Kd.eY j6.out
      subst qM
      go_wp2_with (first|(go_at_call 12;(with_reducible refine (bX.calls k2 _ _ jy (⟨#[119,104,105,108,101]⟩:ByteArray) jz _ (aC_ (Kd.eH j6.out).2.2) (Kd.eH j6.out).2.1 qJ.out).mono ?_);rintro e w' ⟨rfl,⟨nd,rfl⟩⟩))
      go_ret
      exact ⟨rr_,sV⟩
     replace ql:=Bool.eq_false_iff.mpr ql
     subst ql
     rw [if_neg (show ¬ (false=true) by decide)] at H
     obtain rfl:=Option.some.inj H
     obtain ⟨qy,qz,qA,qB⟩:=iV j5.out
     go_wp2
     go_ret
     exact ⟨rr_,sV⟩
def bE.Pure:Prop:=∀ (l0:List Int),l0.length≤maxLen→l0.length * 1≤140737488351232→(∀ x ∈ l0,(Lit.int .u8 x).wf=true)→∃ k,bE.f k l0=some true
theorem bE.walk (P:bE.Pure) (a0:Option Addr) (len0 cap0:Nat) (z0:List Int) (w:World) (w0:(a0=none∧len0=0∧cap0=0∧z0=[])∨∃ x,a0=some x∧len0≤cap0∧cap0≤maxLen∧z0.length=cap0∧(∀ i,i < z0.length→w.cell? (x.add i)=some (.int .u8 (z0.getD i 0)))∧∀ n ∈ z0,(Lit.int .u8 n).wf=true) (y0:len0 * 1≤140737488351232) (ht_:Tab w):
  Calls Tryz.prog 3 #[.slice a0 len0 cap0] w fun e w'=>e= .returned (.bool true)∧Below w.heap.size w w':=by
 obtain ⟨l0,rfl,hr0,hm0,hw0,hc0⟩:=kQ.aHa w0
 obtain ⟨k,h⟩:=P l0 hm0 y0 hw0
 refine (bE.calls k _ _ l0 true w (Kd.IQ (d:=(0:Int)) (h1:=fun _=>rfl) hr0) hc0 ht_ h).mono ?_
 rintro e w' ⟨rfl,hd⟩
 exact ⟨rfl,hd⟩
end Go.Proofs.YtjamfkpgmkhbnaaGreatDoor.PA

namespace Go.Proofs.YtjamfkpgmkhbnaaGreatDoor.Core
open Go.RowKit Go.Proofs.YtjamfkpgmkhbnaaGreatDoorW.PrintWords Go.Proofs.YtjamfkpgmkhbnaaGreatDoorW.PrintMore
section
variable {α β:Type} {g h:Nat→Option α} {P Q:α→Prop}
def EvP (g:Nat→Option α) (P:α→Prop):Prop:=∃ r,Ev g r∧P r
theorem EvP.ret {r:α} (h:P r):EvP (fun _=>some r) P:=⟨r,Ev.now r,h⟩
theorem EvP.mono (h:EvP g P) (k:∀ a,P a→Q a):EvP g Q:=by
 obtain ⟨r,h1,h2⟩:=h
 exact ⟨r,h1,k r h2⟩
theorem EvP.bind {f:Nat→α→Option β} {R:β→Prop} (h:EvP g P) (k:∀ a,P a→EvP (fun n=>f n a) R):EvP (fun n=>(g n).bind (f n)) R:=by
 obtain ⟨a,h1,h2⟩:=h
 obtain ⟨r,k1,k2⟩:=k a h2
 exact ⟨r,Ev.bind h1 k1,k2⟩
theorem EvP.fM {o:Option α} {a:α} {f:Nat→α→Option β} {R:β→Prop} (h:o=some a) (k:EvP (fun n=>f n a) R):EvP (fun n=>o.bind (f n)) R:=by
 subst h
 exact k
theorem EvP.ite {c:Prop} [Decidable c] (h1:c→EvP g P) (h2:¬ c→EvP h P):EvP (fun n=>if c then g n else h n) P:=by
 by_cases hc:c
 ·simp only [if_pos hc]
  exact h1 hc
 ·simp only [if_neg hc]
  exact h2 hc
theorem EvP.yes {c:Prop} [Decidable c] (hc:c) (h1:EvP g P):EvP (fun n=>if c then g n else h n) P:=by
 simp only [if_pos hc]
 exact h1
theorem EvP.no {c:Prop} [Decidable c] (hc:¬ c) (h1:EvP h P):EvP (fun n=>if c then g n else h n) P:=by
 simp only [if_neg hc]
 exact h1
theorem EvP.step {f:Nat→Option α} (h:∀ k,g (k + 1)=f k) (k:EvP f P):EvP g P:=by
 obtain ⟨r,h1,h2⟩:=k
 exact ⟨r,Ev.step h h1,h2⟩
theorem EvP.ends {r:α} (h:EvP g (·=r)):∃ k,g k=some r:=by
  obtain ⟨a,h1,h2⟩:=h
  subst h2
  exact h1.rounds
theorem Ev.evp {r:α} (h:Ev g r):EvP g (·=r):=⟨r,h,rfl⟩
theorem EvP.congr {f:Nat→Option α} (h:∀ k,g k=f k) (k:EvP f P):EvP g P:=by
 obtain ⟨r,h1,h2⟩:=k
 exact ⟨r,Ev.congr h h1,h2⟩
theorem EvP.of {o:Option α} {r:α} (h:o=some r) (hp:P r):EvP (fun _=>o) P:=by
 subst h
 exact EvP.ret hp
theorem EvP.dK {f:Nat→α→Option β} {R:β→Prop} {a:α} (h:EvP g (·=a)) (k:EvP (fun n=>f n a) R):EvP (fun n=>(g n).bind (f n)) R:=
  EvP.bind h (fun b hb=>by subst hb;exact k)
end
theorem w64 {n:Int} (h1:-9223372036854775808≤n) (h2:n≤9223372036854775807):wrap64 n=n:=by
 unfold wrap64
 omega
theorem PK (xs:List Int) (i:Nat) (h:i < xs.length):rd xs (i:Int)=xs[i]:=by
 unfold rd
 rw [Int.toNat_natCast,List.getD_eq_getElem?_getD,List.getElem?_eq_getElem h]
 rfl
theorem aDz (xs:List Int) (i:Int) (h0:0≤i) (h:i < xs.length):rd xs i ∈ xs:=by
 unfold rd
 rw [List.getD_eq_getElem?_getD,List.getElem?_eq_getElem (by omega)]
 exact List.getElem_mem _
theorem EA {a b:Int} (h0:0≤a) (hb:0 < b):0≤Int.tmod a b∧Int.tmod a b < b:=by
 rw [Int.tmod_eq_emod_of_nonneg h0]
 exact ⟨Int.emod_nonneg _ (by omega),Int.emod_lt_of_pos _ hb⟩
end Go.Proofs.YtjamfkpgmkhbnaaGreatDoor.Core

namespace Go.Proofs.YtjamfkpgmkhbnaaGreatDoor.PA
open Go.RowKit Go.Proofs.YtjamfkpgmkhbnaaGreatDoorW.PrintWords Go.Proofs.YtjamfkpgmkhbnaaGreatDoorW.PrintMore Go.Proofs.YtjamfkpgmkhbnaaGreatDoor.Core
def ap (op a b:Int):Int:=
 if op=1 then Go.bits .or .i64 a b else if op=2 then Go.bits .xor .i64 a b else if op=3 then Go.bits .and .i64 a b
 else if op=4 then (if a=b then 1 else 0) else if op=5 then (if a < b then 1 else 0)
 else if op=6 then wrap32 (shl .i64 a (Go.bits .and .i64 b 31)) else if op=7 then shr .i64 a (Go.bits .and .i64 b 31)
 else if op=8 then wrap32 (a + b) else if op=9 then wrap32 (a - b) else if op=10 then wrap32 (a * b)
 else if op=11 then (if b=0 then -1 else wrap32 (Int.tdiv a b)) else if b=0 then a else Int.tmod a b
theorem wI (a b c:Int):gZ.f a b c=some (decide (b≤a) && decide (a≤c)):=by
 unfold gZ.f
 by_cases h:a≥b
 ·rw [if_pos h,decide_eq_true h,Bool.true_and]
 ·rw [if_neg h,decide_eq_false h,Bool.false_and]
inductive X where
 |num (n:Int)
 |var (v:Int)
 |bin (op:Int) (a b:X)
namespace X
def ok:X→Prop
 |num n=>0≤n∧n≤99999
 |var v=>0≤v∧v < 4
 |bin op a b=>(1≤op∧op≤12)∧a.ok∧b.ok
def depth:X→Nat
 |num _=>1
 |var _=>1
 |bin _ a b=>max a.depth b.depth + 1
def size:X→Nat
 |num _=>1
 |var _=>1
 |bin _ a b=>a.size + b.size + 1
def eval (g:Int→Int):X→Int
 |num n=>n
 |var v=>g v
 |bin op a b=>ap op (a.eval g) (b.eval g)
theorem BX:∀ x:X,x.size + 1≤2 ^ x.depth
 |num _|var _=>by simp [size,depth]
 |bin _ a b=>by
  have ha:=BX a
  have hb:=BX b
  have h1:2 ^ a.depth≤2 ^ max a.depth b.depth:=Nat.pow_le_pow_right (by omega) (Nat.le_max_left _ _)
  have h2:2 ^ b.depth≤2 ^ max a.depth b.depth:=Nat.pow_le_pow_right (by omega) (Nat.le_max_right _ _)
  simp only [size,depth,Nat.pow_succ]
  omega
end X
def emb:X→S56
 | .num n=>⟨0,n,[]⟩
 | .var v=>⟨13,v,[]⟩
 | .bin op a b=>⟨op,0,[emb a,emb b]⟩
theorem aGe (a b:S56):bW [a,b] 0=a:=rfl
theorem aGf (a b:S56):bW [a,b] 1=b:=rfl
theorem aFa (a:S56):(⟨a.f0,a.f1,a.f2⟩:S56)=a:=by
 cases a
 rfl
def vx:Nat→Int→Int→List S56→Bool
 |0,_,_,_=>false
 |d + 1,op,n,l=>
  if op=0 then decide (0≤n) && (decide (n≤99999) && decide (l.length=0))
  else if op=13 then decide (0≤n) && (decide (n < 4) && decide (l.length=0))
  else decide (1≤op) && (decide (op≤12) && (decide (n=0) && (match l with
   |[a,b]=>vx d a.f0 a.f1 a.f2 && vx d b.f0 b.f1 b.f2
   | _=>false)))
theorem FB {α:Type} {l:List α} (h:l.length=2):∃ a b,l=[a,b]:=by
 match l,h with
 |[a,b],_=>exact ⟨a,b,rfl⟩
theorem PO:∀ (d:Nat) (op n:Int) (l:List S56),vx d op n l=true→∃ x:X,x.ok∧x.depth≤d∧emb x=⟨op,n,l⟩
 |0,_,_,_,h=>by cases h
 |d + 1,op,n,l,h=>by
  unfold vx at h
  by_cases h0:op=0
  ·rw [if_pos h0] at h
   simp only [Bool.and_eq_true,decide_eq_true_eq] at h
   subst h0
   exact ⟨.num n,⟨h.1,h.2.1⟩,by simp [X.depth],by rw [emb,List.eq_nil_of_length_eq_zero h.2.2]⟩
  ·rw [if_neg h0] at h
   by_cases j3:op=13
   ·rw [if_pos j3] at h
    simp only [Bool.and_eq_true,decide_eq_true_eq] at h
    subst j3
    exact ⟨.var n,⟨h.1,h.2.1⟩,by simp [X.depth],by rw [emb,List.eq_nil_of_length_eq_zero h.2.2]⟩
   ·rw [if_neg j3] at h
    simp only [Bool.and_eq_true,decide_eq_true_eq] at h
    obtain ⟨h1,h2,h3,h4⟩:=h
    split at h4
    ·rename_i a b
     simp only [Bool.and_eq_true] at h4
     obtain ⟨x,x1,x2,x3⟩:=PO d a.f0 a.f1 a.f2 h4.1
     obtain ⟨y,y1,y2,y3⟩:=PO d b.f0 b.f1 b.f2 h4.2
     exact ⟨.bin op x y,⟨⟨h1,h2⟩,x1,y1⟩,by simp only [X.depth];omega,by rw [emb,x3,y3,h3,aFa,aFa]⟩
    ·cases h4
theorem nV (a:Int):gW.f a=some (decide (1≤a) && decide (a≤12)):=by
 unfold gW.f
 by_cases h:a≥1
 ·rw [if_pos h,decide_eq_true h,Bool.true_and]
 ·rw [if_neg h,decide_eq_false h,Bool.false_and]
theorem GX (a:Int):iD.f a=some (decide (1≤a) && decide (a≤12)):=by
 unfold iD.f
 rw [wI]
 rfl
theorem rR:∀ (d:Nat) (op n:Int) (l:List S56),d≤1000→EvP (fun k=>fB.f k op n l (d:Int)) (·=vx d op n l)
  |0,op,n,l,hd=>by
    refine EvP.step (fun k=>fB.f.eq_2 (k:=k) ..) ?_
    refine EvP.ite (fun h=>?_) (fun h=>?_)
    · refine EvP.ite (fun _=>EvP.ite (fun _=>EvP.ite (fun _=>EvP.ret ?_) (fun _=>EvP.ret ?_)) (fun _=>EvP.ret ?_)) (fun _=>EvP.ret ?_) <;> simp [vx]
    · refine EvP.ite (fun h=>?_) (fun h=>?_)
      · refine EvP.ite (fun _=>EvP.ite (fun _=>EvP.ite (fun _=>EvP.ret ?_) (fun _=>EvP.ret ?_)) (fun _=>EvP.ret ?_)) (fun _=>EvP.ret ?_) <;> simp [vx]
      · refine EvP.fM (nV op) (EvP.ite (fun _=>EvP.ite (fun _=>EvP.ite (fun _=>EvP.no (by omega) (EvP.ret ?_)) (fun _=>EvP.ret ?_)) (fun _=>EvP.ret ?_)) (fun _=>EvP.ret ?_)) <;> simp [vx]
  |d + 1,op,n,l,hd=>by
    refine EvP.step (fun k=>fB.f.eq_2 (k:=k) ..) ?_
    unfold vx
    refine EvP.ite (fun h=>?_) (fun h=>?_)
    · rw [if_pos h]
      refine EvP.ite (fun h1=>EvP.ite (fun h2=>EvP.ite (fun h3=>EvP.ret ?_) (fun h3=>EvP.ret ?_)) (fun h2=>EvP.ret ?_)) (fun h1=>EvP.ret ?_)
      · rw [decide_eq_true (show 0≤n from h1),decide_eq_true h2,decide_eq_true (show l.length=0 by omega)]
        simp
      · rw [decide_eq_false (p:=l.length=0) (by omega)]
        simp
      · rw [decide_eq_false h2]
        simp
      · rw [decide_eq_false (p:=0≤n) h1]
        simp
    · rw [if_neg h]
      refine EvP.ite (fun h=>?_) (fun j3=>?_)
      · rw [if_pos h]
        refine EvP.ite (fun h1=>EvP.ite (fun h2=>EvP.ite (fun h3=>EvP.ret ?_) (fun h3=>EvP.ret ?_)) (fun h2=>EvP.ret ?_)) (fun h1=>EvP.ret ?_)
        · rw [decide_eq_true (show 0≤n from h1),decide_eq_true h2,decide_eq_true (show l.length=0 by omega)]
          simp
        · rw [decide_eq_false (p:=l.length=0) (by omega)]
          simp
        · rw [decide_eq_false h2]
          simp
        · rw [decide_eq_false (p:=0≤n) h1]
          simp
      · rw [if_neg j3]
        refine EvP.fM (nV op) (EvP.ite (fun h1=>?_) (fun h1=>EvP.ret ?_))
        · simp only [Bool.and_eq_true,decide_eq_true_eq] at h1
          rw [decide_eq_true h1.1,decide_eq_true h1.2]
          refine EvP.ite (fun h2=>?_) (fun h2=>EvP.ret (by rw [decide_eq_false h2];rfl))
          rw [decide_eq_true h2]
          refine EvP.ite (fun h3=>?_) (fun h3=>EvP.ret ?_)
          · obtain ⟨a,b,rfl⟩:=FB (show l.length=2 by omega)
            refine EvP.ite (fun h4=>?_) (fun h4=>EvP.ret ?_)
            · rw [w64 (by omega) (by omega),show ((d + 1:Nat):Int) - 1=(d:Int) by omega,aGe,aGf]
              refine EvP.yes (by simp) (EvP.dK (rR d _ _ _ (by omega)) (EvP.ite (fun h5=>?_) (fun h5=>EvP.ret ?_)))
              · refine EvP.yes (by simp) (EvP.dK (rR d _ _ _ (by omega)) (EvP.ret ?_))
                simp [h5]
              · simp [h5]
            · have hd0:d=0:=by omega
              subst hd0
              rfl
          · split
            · simp at h3
            · rfl
        · symm
          rw [Bool.eq_false_iff]
          intro e
          simp only [Bool.and_eq_true,decide_eq_true_eq] at e h1
          exact h1 ⟨e.1,e.2.1⟩
theorem wL:∀ (d:Nat) (op n:Int) (l:List S56),d≤1000→EvP (fun k=>iH.f k op n l (d:Int)) (·=vx d op n l)
  |0,op,n,l,hd=>EvP.step (fun k=>iH.f.eq_2 (k:=k) ..) (EvP.yes (by omega) (EvP.ret rfl))
  |d + 1,op,n,l,hd=>by
    have hlen:((l.length:Int) == 0)=decide (l.length=0):=by
      rw [Bool.eq_iff_iff,beq_iff_eq,decide_eq_true_eq]
      omega
    refine EvP.step (fun k=>iH.f.eq_2 (k:=k) ..) (EvP.no (by omega) ?_)
    unfold vx
    refine EvP.ite (fun h=>?_) (fun h=>?_)
    · rw [if_pos h,wI]
      refine EvP.fM rfl (EvP.ite (fun h1=>EvP.ret ?_) (fun h1=>EvP.ret ?_))
      · rw [hlen]
        simp only [Bool.and_eq_true,decide_eq_true_eq] at h1
        rw [decide_eq_true h1.1,decide_eq_true h1.2]
        rfl
      · rw [← Bool.and_assoc,Bool.eq_false_iff.mpr h1]
        rfl
    · rw [if_neg h]
      refine EvP.ite (fun h=>?_) (fun j3=>?_)
      · rw [if_pos h,wI]
        have e3:decide (n < 4)=decide (n≤3):=decide_eq_decide.mpr (by omega)
        rw [e3]
        refine EvP.fM rfl (EvP.ite (fun h1=>EvP.ret ?_) (fun h1=>EvP.ret ?_))
        · rw [hlen]
          simp only [Bool.and_eq_true,decide_eq_true_eq] at h1
          rw [decide_eq_true h1.1,decide_eq_true h1.2]
          rfl
        · rw [← Bool.and_assoc,Bool.eq_false_iff.mpr h1]
          rfl
      · rw [if_neg j3]
        refine EvP.fM (GX op) (EvP.ite (fun h1=>?_) (fun h1=>EvP.ret ?_))
        · simp only [Bool.and_eq_true,decide_eq_true_eq] at h1
          rw [decide_eq_true h1.1,decide_eq_true h1.2]
          refine EvP.ite (fun h2=>?_) (fun h2=>EvP.ret (by rw [decide_eq_false h2];rfl))
          rw [decide_eq_true h2]
          refine EvP.ite (fun h3=>?_) (fun h3=>EvP.ret ?_)
          · obtain ⟨a,b,rfl⟩:=FB (show l.length=2 by omega)
            rw [w64 (by omega) (by omega),show ((d + 1:Nat):Int) - 1=(d:Int) by omega,aGe,aGf]
            refine EvP.yes (by simp) (EvP.dK (wL d _ _ _ (by omega)) (EvP.ite (fun h5=>?_) (fun h5=>EvP.ret ?_)))
            · refine EvP.yes (by simp) (EvP.dK (wL d _ _ _ (by omega)) (EvP.ret ?_))
              simp [h5]
            · simp [h5]
          · split
            · simp at h3
            · rfl
        · rw [← Bool.and_assoc,Bool.eq_false_iff.mpr h1]
          rfl
theorem nZ (op n:Int) (l:List S56):EvP (fun k=>eT.f k op n l) (·=vx 5 op n l):=by
  unfold eT.f
  exact EvP.dK (wL 5 op n l (by omega)) (EvP.ret rfl)
theorem CZ (op n:Int) (l:List S56):EvP (fun k=>iG.f k op n l) (·=vx 5 op n l):=by
  unfold iG.f
  exact EvP.dK (rR 5 op n l (by omega)) (EvP.ret rfl)
mutual
def cS:S58→Nat
 |⟨_,_,_,_,b,e⟩=>cSs b + cSs e
def cSs:List S58→Nat
 |[]=>0
 |x :: xs=>cS x + 1 + cSs xs
end
theorem OV (x:S58):cS x=cSs x.f4 + cSs x.f5:=by
 cases x
 rw [cS]
theorem gI:∀ l:List S58,l.length≤cSs l
 |[]=>Nat.zero_le _
 |x :: xs=>by
  have:=gI xs
  rw [cSs,List.length_cons]
  omega
theorem sF:∀ l m:List S58,cSs (l ++ m)=cSs l + cSs m
 |[],m=>by rw [cSs];simp
 |x :: xs,m=>by
  rw [List.cons_append,cSs,cSs,sF xs m]
  omega
theorem yK:∀ (l:List S58) (x:S58),x ∈ l→cS x < cSs l
 |y :: ys,x,h=>by
  rw [cSs]
  rcases List.mem_cons.1 h with rfl|h
  ·omega
  ·have:=yK ys x h
   omega
theorem RD (l:List S58) (i:Nat) (h:i < l.length):cSs (l.drop i)=cS l[i] + 1 + cSs (l.drop (i + 1)):=by
 rw [List.drop_eq_getElem_cons h,cSs]
theorem aEy (x:S58):cSs [x]=cS x + 1:=by
 rw [cSs,cSs]
theorem sM:cSs []=0:=by rw [cSs]
theorem LZ (l:List S58) (n:Nat):cSs (l.take n) + cSs (l.drop n)=cSs l:=by
 rw [← sF,List.take_append_drop]
theorem DN (l:List S58) (i:Nat) (h:i < l.length):aH l (i:Int)=l[i]:=by
 unfold aH
 rw [Int.toNat_natCast,List.getD_eq_getElem?_getD,List.getElem?_eq_getElem h]
 rfl
def GQ (use:Bool) (va:Int):Bool:=if use=true then decide (0≤va) && decide (va≤3) else va == 0
def xM (boxes:Int) (use:Bool) (bx:Int):Bool:=if use=true then decide (0≤bx) && decide (bx≤boxes - 1) else bx == 0
def yQ (op n:Int) (la:List S56):Bool:=op == 0 && (n == 0 && la.length == 0)
def mU (boxes:Int) (nv nb ne nd no:Bool) (va bx op n:Int) (la:List S56) (lb le:Nat):Bool:=
 GQ nv va && (xM boxes nb bx && ((if ne=true then vx 5 op n la else yQ op n la) && ((nd || lb == 0) && (no || le == 0))))
def yD (boxes kd va bx op n:Int) (la:List S56) (lb le:Nat):Bool:=
 if kd=1 then mU boxes true false true false false va bx op n la lb le
 else if kd=2 then mU boxes false false true true true va bx op n la lb le
 else if kd=3 then mU boxes false false true true false va bx op n la lb le
 else if kd=4 then mU boxes false true true false false va bx op n la lb le
 else if kd=5 then mU boxes true true false false false va bx op n la lb le
 else if kd=7 then mU boxes false false true false false va bx op n la lb le
 else if kd=6 then mU boxes false false false false false va bx op n la lb le
 else false
def stS (boxes:Int) (s:S58):Bool:=yD boxes s.f0 s.f1 s.f2 s.f3.f0 s.f3.f1 s.f3.f2 s.f4.length s.f5.length
def rY (s:S58):Bool:=s.f0 == 2 || s.f0 == 3
def kU (boxes:Int):Nat→S58→Bool
 |0,s=>stS boxes s && !rY s
 |d + 1,s=>stS boxes s && (!rY s || (s.f4.all (kU boxes d) && s.f5.all (kU boxes d)))
def okL (boxes:Int) (d:Nat) (l:List S58):Bool:=l.all (kU boxes d)
theorem aDs {boxes:Int} {d:Nat} {s:S58} (h:kU boxes d s=true):stS boxes s=true:=by
 cases d <;> (simp only [kU,Bool.and_eq_true] at h;exact h.1)
theorem EX {boxes kd va bx op n:Int} {la:List S56} {lb le:Nat} (h:yD boxes kd va bx op n la lb le=true) (h2:kd≠2) (h3:kd≠3):lb=0∧le=0:=by
 unfold yD at h
 rw [if_neg h2,if_neg h3] at h
 repeat' split at h
 all_goals first
  |(cases h;done)
  |(simp only [mU,Bool.and_eq_true,Bool.false_or,beq_iff_eq] at h;exact h.2.2.2)
theorem IJ {boxes:Int} {s:S58} (h:stS boxes s=true) (h2:¬ (s.f0=2∨s.f0=3)):cS s=0:=by
 obtain ⟨h4,h5⟩:=EX h (fun e=>h2 (.inl e)) (fun e=>h2 (.inr e))
 rw [OV,List.eq_nil_of_length_eq_zero h4,List.eq_nil_of_length_eq_zero h5,cSs]
theorem oL (s:S58):rY s=true ↔ s.f0=2∨s.f0=3:=by
 unfold rY
 simp
theorem aFd (use:Bool) (va:Int):inr va 4 use=GQ use va:=by
 rw [Bool.eq_iff_iff]
 cases use
 ·simp [inr,GQ]
 ·simp [inr,GQ]
  omega
theorem SQ (nv nb ne nd no:Bool) (va bx op n:Int) (la:List S56) (lb le:Nat) (boxes:Int):
    EvP (fun k=>mF k nv nb ne nd no va bx op n la lb le boxes) (·=mU boxes nv nb ne nd no va bx op n la lb le):=by
  unfold mF mU
  rw [aFd]
  refine EvP.ite (fun h1=>?_) (fun h1=>EvP.ret (by rw [Bool.eq_false_iff.mpr h1];rfl))
  rw [h1,Bool.true_and]
  have hb:(inr bx boxes nb=true∧¬ (nb=true∧boxes≤bx)) ↔ xM boxes nb bx=true:=by
    cases nb
    · simp [inr,xM]
    · simp [inr,xM]
      omega
  refine EvP.ite (fun h2=>EvP.ite (fun h3=>EvP.ret ?_) (fun h3=>?_)) (fun h2=>EvP.ret ?_)
  · have:xM boxes nb bx=false:=Bool.eq_false_iff.mpr (fun e=>(hb.mpr e).2 h3)
    rw [this]
    rfl
  · rw [hb.mp ⟨h2,h3⟩,Bool.true_and]
    refine EvP.ite (fun h4=>?_) (fun h4=>?_)
    · rw [if_pos h4]
      refine EvP.dK (CZ op n la) (EvP.ite (fun h5=>EvP.ret (by rw [h5,Bool.true_and])) (fun h5=>EvP.ret (by rw [Bool.eq_false_iff.mpr h5];rfl)))
    · rw [if_neg h4]
      unfold yQ
      refine EvP.ite (fun h5=>EvP.ite (fun h6=>EvP.ite (fun h7=>EvP.ret ?_) (fun h7=>EvP.ret ?_)) (fun h6=>EvP.ret ?_)) (fun h5=>EvP.ret ?_)
      · rw [beq_eq_false_iff_ne.mpr (show la.length≠0 by omega)]
        simp
      · rw [h5,h6,beq_iff_eq.mpr (show la.length=0 by omega)]
        simp
      · rw [beq_eq_false_iff_ne.mpr h6]
        simp
      · rw [beq_eq_false_iff_ne.mpr h5]
        simp
  · have:xM boxes nb bx=false:=Bool.eq_false_iff.mpr (fun e=>h2 (hb.mpr e).1)
    rw [this]
    rfl
theorem DC (kd va bx op n:Int) (la:List S56) (lb le:Nat) (boxes:Int):
    EvP (fun k=>fC.f k kd va bx op n la lb le boxes) (·=yD boxes kd va bx op n la lb le):=by
  unfold fC.f yD
  have hr:=fun nv nb ne nd no=>SQ nv nb ne nd no va bx op n la lb le boxes
  repeat (refine EvP.ite (fun h=>?_) (fun h=>?_);· rw [if_pos h];exact hr _ _ _ _ _
          rw [if_neg h])
  exact EvP.ret rfl
def aAf (boxes:Int) (d:Nat) (l:List S58) (cnt:Int) (p:Bool × Int):Prop:=
 p.1=(okL boxes d l && decide (cnt + cSs l≤16))∧(p.1=true→p.2=cnt + cSs l)
theorem AO (boxes blocks:Int) (d:Nat) (hd:d≤3) (hb:blocks=3 - d) (l:List S58) (hl:cSs l≤1000000000)
  (sub:∀ d',d=d' + 1→∀ (m:List S58) (cnt:Int),cSs m≤1000000000→0≤cnt→cnt≤16→EvP (fun k=>bZ.f k m boxes (wrap64 (blocks + 1)) cnt) (aAf boxes d' m cnt)):
  ∀ (r j:Nat) (cnt:Int),j + r=l.length→0≤cnt→cnt≤16→
   EvP (fun k=>bZ.l0 k l boxes blocks (j:Int) cnt) (fun p=>p.1=(okL boxes d (l.drop j) && decide (cnt + cSs (l.drop j) - r≤16))∧(p.1=true→p.2=cnt + cSs (l.drop j) - r)):=by
 intro r
 have hlen:=gI l
 induction r with
 |zero=>
  intro j cnt hj h0 h1
  refine EvP.step (fun k=>bZ.l0.eq_2 (k:=k) ..) (EvP.no (by omega) (EvP.ret ?_))
  rw [List.drop_eq_nil_of_le (by omega),sM]
  constructor
  ·simp [okL]
   omega
  ·intro _
   simp
 |succ r ih=>
  intro j cnt hj h0 h1
  have hlt:j < l.length:=by omega
  have hc:=RD l j hlt
  have hr:r≤cSs (l.drop (j + 1)):=by
   have:=gI (l.drop (j + 1))
   rw [List.length_drop] at this
   omega
  have hm:=yK l _ (List.getElem_mem hlt)
  have hcs:=OV l[j]
  have hall:okL boxes d (l.drop j)=(kU boxes d l[j] && okL boxes d (l.drop (j + 1))):=by
   rw [List.drop_eq_getElem_cons hlt]
   rfl
  rw [hall]
  refine EvP.step (fun k=>bZ.l0.eq_2 (k:=k) ..) (EvP.yes (by omega) (EvP.yes (by omega) ?_))
  rw [DN l j hlt,w64 (n:=(j:Int) + 1) (by omega) (by omega)]
  refine EvP.dK (DC _ _ _ _ _ _ _ _ _) (EvP.ite (fun hs=>?_) (fun hs=>EvP.ret ?_))
  ·have hs:stS boxes l[j]=true:=hs
   refine EvP.no (by omega) (EvP.ite (fun hk=>?_) (fun hk=>?_))
   ·have hbk:rY l[j]=true:=(oL _).mpr hk
    cases d with
    |zero=>
     refine EvP.yes (by omega) (EvP.ret ?_)
     have:kU boxes 0 l[j]=false:=by simp [kU,hbk]
     rw [this]
     exact ⟨rfl,fun h=>by cases h⟩
    |succ d'=>
     have ho:kU boxes (d' + 1) l[j]=(okL boxes d' l[j].f4 && okL boxes d' l[j].f5):=by
      simp only [kU,hs,hbk,okL]
      rfl
     rw [ho]
     refine EvP.no (by omega) (EvP.bind (sub d' rfl _ cnt (by omega) h0 h1) fun p hp=>?_)
     obtain ⟨hp1,hp2⟩:=hp
     refine EvP.ite (fun hy=>?_) (fun hy=>EvP.ret ?_)
     ·have e2:=hp2 hy
      rw [hy] at hp1
      have hq:=hp1.symm
      rw [Bool.and_eq_true,decide_eq_true_eq] at hq
      rw [e2]
      refine EvP.bind (sub d' rfl _ _ (by omega) (by omega) hq.2) fun q hq'=>?_
      obtain ⟨hq1,hq2⟩:=hq'
      refine EvP.ite (fun hz=>?_) (fun hz=>EvP.ret ?_)
      ·have e3:=hq2 hz
       rw [hz] at hq1
       have hq3:=hq1.symm
       rw [Bool.and_eq_true,decide_eq_true_eq] at hq3
       rw [e3]
       refine (ih (j + 1) _ (by omega) (by omega) hq3.2).mono fun a ha=>?_
       rw [hq.1,hq3.1,Bool.true_and,Bool.true_and]
       refine ⟨ha.1.trans ?_,fun h=>(ha.2 h).trans ?_⟩
       ·congr 1
        exact decide_eq_decide.mpr (by omega)
       ·omega
      ·have hz':=Bool.eq_false_iff.mpr hz
       rw [hz'] at hq1
       refine ⟨?_,fun h=>by cases h⟩
       show false=_
       symm
       rw [Bool.eq_false_iff]
       intro e
       simp only [Bool.and_eq_true,decide_eq_true_eq] at e
       have:(okL boxes d' l[j].f5 && decide (cnt + ↑(cSs l[j].f4) + ↑(cSs l[j].f5)≤16))=true:=by
        rw [e.1.1.2,decide_eq_true (by omega)]
        rfl
       rw [this] at hq1
       cases hq1
     ·have hy':=Bool.eq_false_iff.mpr hy
      rw [hy'] at hp1
      refine ⟨?_,fun h=>by cases h⟩
      show false=_
      symm
      rw [Bool.eq_false_iff]
      intro e
      simp only [Bool.and_eq_true,decide_eq_true_eq] at e
      have:(okL boxes d' l[j].f4 && decide (cnt + ↑(cSs l[j].f4)≤16))=true:=by
       rw [e.1.1.1,decide_eq_true (by omega)]
       rfl
      rw [this] at hp1
      cases hp1
   ·have hbk:rY l[j]=false:=Bool.eq_false_iff.mpr (fun e=>hk ((oL _).mp e))
    have ho:kU boxes d l[j]=true:=by
     cases d <;> simp [kU,hs,hbk]
    have hz:=IJ hs hk
    rw [ho,Bool.true_and]
    refine (ih (j + 1) cnt (by omega) h0 h1).mono fun a ha=>?_
    refine ⟨ha.1.trans ?_,fun h=>(ha.2 h).trans ?_⟩
    ·congr 1
     exact decide_eq_decide.mpr (by omega)
    ·omega
  ·have hs:stS boxes l[j]=false:=Bool.eq_false_iff.mpr hs
   have ho:kU boxes d l[j]=false:=Bool.eq_false_iff.mpr (fun e=>by rw [aDs e] at hs;cases hs)
   rw [ho]
   exact ⟨rfl,fun h=>by cases h⟩
theorem BO (boxes:Int):∀ (d:Nat) (blocks:Int) (l:List S58) (cnt:Int),d≤3→blocks=3 - d→cSs l≤1000000000→0≤cnt→cnt≤16→
  EvP (fun k=>bZ.f k l boxes blocks cnt) (aAf boxes d l cnt):=by
 intro d
 induction d with
 |zero=>
  intro blocks l cnt hd hb hl h0 h1
  have hlen:=gI l
  refine EvP.step (fun k=>bZ.f.eq_2 (k:=k) ..) ?_
  rw [w64 (n:=cnt + (l.length:Int)) (by omega) (by omega)]
  refine EvP.ite (fun h=>EvP.ret ?_) (fun h=>?_)
  ·refine ⟨?_,fun h=>by cases h⟩
   rw [decide_eq_false (by omega)]
   simp
  ·refine (AO boxes blocks 0 hd hb l hl (fun d' e=>by omega) l.length 0 _ (by omega) (by omega) (by omega)).mono fun a ha=>?_
   rw [List.drop_zero] at ha
   refine ⟨ha.1.trans ?_,fun h=>(ha.2 h).trans ?_⟩
   ·congr 1
    exact decide_eq_decide.mpr (by omega)
   ·omega
 |succ d ih=>
  intro blocks l cnt hd hb hl h0 h1
  have hlen:=gI l
  refine EvP.step (fun k=>bZ.f.eq_2 (k:=k) ..) ?_
  rw [w64 (n:=cnt + (l.length:Int)) (by omega) (by omega)]
  refine EvP.ite (fun h=>EvP.ret ?_) (fun h=>?_)
  ·refine ⟨?_,fun h=>by cases h⟩
   rw [decide_eq_false (by omega)]
   simp
  ·refine (AO boxes blocks (d + 1) hd hb l hl (fun d' e m cnt hm h0 h1=>?_) l.length 0 _ (by omega) (by omega) (by omega)).mono fun a ha=>?_
   ·have e':d=d':=by omega
    subst e'
    rw [w64 (by omega) (by omega)]
    exact ih _ m cnt (by omega) (by omega) hm h0 h1
   ·rw [List.drop_zero] at ha
    refine ⟨ha.1.trans ?_,fun h=>(ha.2 h).trans ?_⟩
    ·congr 1
     exact decide_eq_decide.mpr (by omega)
    ·omega
def okT (boxes:Int) (l:List S58):Bool:=okL boxes 3 l && decide (cSs l≤16)
theorem BQ (boxes:Int) (l:List S58) (hl:cSs l≤1000000000):EvP (fun k=>gJ.f k l boxes) (·=okT boxes l):=by
  unfold gJ.f
  refine EvP.bind (BO boxes 3 0 l 0 (by omega) (by omega) hl (by omega) (by omega)) fun p hp=>EvP.ret ?_
  rw [hp.1]
  unfold okT
  congr 1
  exact decide_eq_decide.mpr (by omega)
theorem nI (a b c d e:Int) (l:List S56) (m n:List S58) (u:Bool):fE.f a b c d e l m n u=some (GQ u b):=by
 unfold fE.f GQ
 rw [wI]
 cases u <;> rfl
theorem nH (a b c d e:Int) (l:List S56) (m n:List S58) (u:Bool):fU.f a b c d e l m n u=some (xM 3 u c):=by
 unfold fU.f xM
 rw [wI]
 cases u <;> rfl
theorem vY (op n:Int) (l:List S56):mM.f op n l=some (yQ op n l):=by
 unfold mM.f yQ
 have hlen:((l.length:Int) == 0)=(l.length == 0):=by
  rw [Bool.eq_iff_iff,beq_iff_eq,beq_iff_eq]
  omega
 by_cases h:op=0
 ·rw [if_pos h,h]
  by_cases h2:n=0
  ·rw [if_pos h2,h2,hlen]
   rfl
  ·rw [if_neg h2,beq_eq_false_iff_ne.mpr h2]
   rfl
 ·rw [if_neg h,beq_eq_false_iff_ne.mpr h]
  rfl
theorem vM (kd va bx op n:Int) (la:List S56) (m1 m2:List S58) (h2:kd≠2) (h3:kd≠3):
    EvP (fun k=>dO.f k kd va bx op n la m1 m2) (·=yD 3 kd va bx op n la m1.length m2.length):=by
  unfold dO.f
  have yes:∀ b:Bool,((m1.length == 0 && m2.length == 0)=!b)→EvP (fun k=>dO.j0 k b kd va bx op n la m1 m2) (·=yD 3 kd va bx op n la m1.length m2.length):=by
    intro b hb
    refine EvP.step (fun k=>dO.j0.eq_2 (k:=k) ..) ?_
    refine EvP.ite (fun h=>EvP.ret ?_) (fun h=>?_)
    · symm
      rw [Bool.eq_false_iff]
      intro e
      obtain ⟨z1,z2⟩:=EX e h2 h3
      rw [z1,z2,h] at hb
      cases hb
    · have hb':(m1.length == 0 && m2.length == 0)=true:=by
        rw [hb,Bool.eq_false_iff.mpr h]
        rfl
      unfold yD
      have hT:∀ a b c:Bool,(a && (b && (c && ((false || m1.length == 0) && (false || m2.length == 0)))))=(a && (b && c)):=by
        intro a b c
        rw [Bool.false_or,Bool.false_or,hb',Bool.and_true]
      refine EvP.ite (fun h1=>?_) (fun h1=>?_)
      · rw [if_pos h1]
        unfold mU
        rw [hT]
        refine EvP.fM (nI ..) (EvP.ite (fun hv=>EvP.fM (nH ..) (EvP.ite (fun hx=>EvP.dK (nZ ..) (EvP.ret ?_)) (fun hx=>EvP.ret ?_))) (fun hv=>EvP.ret ?_)) <;> simp [*]
      · rw [if_neg h1,if_neg h2,if_neg h3]
        refine EvP.ite (fun h1=>?_) (fun h1=>?_)
        · rw [if_pos h1]
          unfold mU
          rw [hT]
          refine EvP.fM (nI ..) (EvP.ite (fun hv=>EvP.fM (nH ..) (EvP.ite (fun hx=>EvP.dK (nZ ..) (EvP.ret ?_)) (fun hx=>EvP.ret ?_))) (fun hv=>EvP.ret ?_)) <;> simp [*]
        · rw [if_neg h1]
          refine EvP.ite (fun h1=>?_) (fun h1=>?_)
          · rw [if_pos h1]
            unfold mU
            rw [hT]
            refine EvP.fM (nI ..) (EvP.ite (fun hv=>EvP.fM (nH ..) (EvP.ite (fun hx=>EvP.fM (vY ..) (EvP.ret ?_)) (fun hx=>EvP.ret ?_))) (fun hv=>EvP.ret ?_)) <;> simp [*]
          · rw [if_neg h1]
            refine EvP.ite (fun h6=>?_) (fun h6=>?_)
            · rw [if_neg (by omega),if_pos h6]
              unfold mU
              rw [hT]
              refine EvP.fM (nI ..) (EvP.ite (fun hv=>EvP.fM (nH ..) (EvP.ite (fun hx=>EvP.fM (vY ..) (EvP.ret ?_)) (fun hx=>EvP.ret ?_))) (fun hv=>EvP.ret ?_)) <;> simp [*]
            · refine EvP.ite (fun h7=>?_) (fun h7=>?_)
              · rw [if_pos h7]
                unfold mU
                rw [hT]
                refine EvP.fM (nI ..) (EvP.ite (fun hv=>EvP.fM (nH ..) (EvP.ite (fun hx=>EvP.dK (nZ ..) (EvP.ret ?_)) (fun hx=>EvP.ret ?_))) (fun hv=>EvP.ret ?_)) <;> simp [*]
              · rw [if_neg h7,if_neg h6]
                exact EvP.ret rfl
  refine EvP.ite (fun h=>yes true ?_) (fun h=>yes _ ?_)
  · rw [beq_eq_false_iff_ne.mpr (show m1.length≠0 by omega)]
    rfl
  · rw [beq_iff_eq.mpr (show m1.length=0 by omega),Bool.true_and,← decide_not,Bool.eq_iff_iff,beq_iff_eq,decide_eq_true_eq]
    omega
theorem DW (l:List S58) (hl:l.length≤1000000000) (x1:Int) (d:Nat) (sub:∀ x ∈ l,EvP (fun k=>bY.f k x.f0 x.f1 x.f2 x.f3.f0 x.f3.f1 x.f3.f2 x.f4 x.f5 x1) (·=kU 3 d x)):
    ∀ (r j:Nat),j + r=l.length→EvP (fun k=>bU.l0 k l x1 (j:Int)) (·=okL 3 d (l.drop j)):=by
  intro r
  induction r with
  |zero=>
    intro j hj
    refine EvP.step (fun k=>bU.l0.eq_2 (k:=k) ..) (EvP.no (by omega) (EvP.ret ?_))
    rw [List.drop_eq_nil_of_le (by omega)]
    rfl
  |succ r ih=>
    intro j hj
    have hlt:j < l.length:=by omega
    refine EvP.step (fun k=>bU.l0.eq_2 (k:=k) ..) (EvP.yes (by omega) (EvP.yes (by omega) ?_))
    rw [DN l j hlt,w64 (n:=(j:Int) + 1) (by omega) (by omega)]
    have hall:okL 3 d (l.drop j)=(kU 3 d l[j] && okL 3 d (l.drop (j + 1))):=by
      rw [List.drop_eq_getElem_cons hlt]
      rfl
    rw [hall]
    refine EvP.dK (sub _ (List.getElem_mem hlt)) (EvP.ite (fun h=>?_) (fun h=>EvP.ret ?_))
    · rw [h,Bool.true_and]
      exact ih (j + 1) (by omega)
    · rw [Bool.eq_false_iff.mpr h]
      rfl
theorem vL (l:List S58) (hl:l.length≤1000000000) (x1:Int) (d:Nat) (sub:∀ x ∈ l,EvP (fun k=>bY.f k x.f0 x.f1 x.f2 x.f3.f0 x.f3.f1 x.f3.f2 x.f4 x.f5 x1) (·=kU 3 d x)):
    EvP (fun k=>bU.f k l x1) (·=okL 3 d l):=
  EvP.step (fun k=>bU.f.eq_2 (k:=k) ..) (DW l hl x1 d sub l.length 0 (by omega))
theorem MO:∀ (d:Nat) (x1:Int) (x:S58),d≤3→x1=d→cS x≤1000000000→EvP (fun k=>bY.f k x.f0 x.f1 x.f2 x.f3.f0 x.f3.f1 x.f3.f2 x.f4 x.f5 x1) (·=kU 3 d x):=by
  intro d
  induction d with
  |zero=>
    intro x1 x hd h1 hc
    have j1:EvP (fun k=>bY.j1 k x1 true x.f0 x.f1 x.f2 x.f3.f0 x.f3.f1 x.f3.f2 x.f4 x.f5) (·=false):=
      EvP.step (fun k=>bY.j1.eq_2 (k:=k) ..) (EvP.yes rfl (EvP.ret rfl))
    refine EvP.step (fun k=>bY.f.eq_2 (k:=k) ..) (EvP.ite (fun h2=>?_) (fun h2=>?_))
    · have:kU 3 0 x=false:=by simp [kU,rY,h2]
      rw [this]
      refine EvP.step (fun k=>bY.j0.eq_2 (k:=k) ..) (EvP.no Bool.false_ne_true (EvP.yes (by omega) j1))
    · refine EvP.step (fun k=>bY.j0.eq_2 (k:=k) ..) (EvP.ite (fun h3=>?_) (fun h3=>EvP.yes (by omega) ?_))
      · have h3:x.f0≠3:=bne_iff_ne.mp h3
        refine EvP.dK (vM _ _ _ _ _ _ _ _ h2 h3) (EvP.ret ?_)
        simp [kU,rY,h2,h3,stS]
      · have h3:x.f0=3:=by simpa using h3
        have:kU 3 0 x=false:=by simp [kU,rY,h3]
        rw [this]
        exact j1
  |succ d ih=>
    intro x1 x hd h1 hc
    have hcs:=OV x
    have e1:wrap64 (x1 - 1)=(d:Int):=by
      rw [w64 (by omega) (by omega)]
      omega
    have len4:=gI x.f4
    have len5:=gI x.f5
    have sub:∀ m:List S58,cSs m≤1000000000→EvP (fun k=>bU.f k m (wrap64 (x1 - 1))) (·=okL 3 d m):=by
      intro m hm
      have:=gI m
      refine vL m (by omega) _ d (fun y hy=>ih _ y (by omega) e1 ?_)
      have:=yK m y hy
      omega
    have j1:∀ b:Bool,rY x=true→(b=(x.f0 == 3 && decide ((x.f5.length:Int) > 0)))→EvP (fun k=>bY.j1 k x1 b x.f0 x.f1 x.f2 x.f3.f0 x.f3.f1 x.f3.f2 x.f4 x.f5) (·=kU 3 (d + 1) x):=by
      intro b hb hbb
      have ho:kU 3 (d + 1) x=(stS 3 x && (okL 3 d x.f4 && okL 3 d x.f5)):=by
        simp only [kU,hb,okL]
        rfl
      rw [ho]
      refine EvP.step (fun k=>bY.j1.eq_2 (k:=k) ..) (EvP.ite (fun h=>EvP.ret ?_) (fun h=>?_))
      · rw [h] at hbb
        have h4:=hbb.symm
        simp only [Bool.and_eq_true,beq_iff_eq,decide_eq_true_eq] at h4
        have:stS 3 x=false:=by
          have hne:(x.f5.length == 0)=false:=beq_eq_false_iff_ne.mpr (by omega)
          simp [stS,yD,h4.1,mU,hne]
        rw [this]
        rfl
      · have hst:stS 3 x=(GQ false x.f1 && (xM 3 false x.f2 && vx 5 x.f3.f0 x.f3.f1 x.f3.f2)):=by
          rcases (oL x).mp hb with h2|h2
          · simp [stS,yD,h2,mU]
          · have h5:x.f5.length=0:=by
              rw [Bool.eq_false_iff.mpr h,h2] at hbb
              have:=hbb.symm
              simp only [beq_self_eq_true,Bool.true_and,decide_eq_false_iff_not] at this
              omega
            simp [stS,yD,h2,mU,h5]
        rw [hst]
        refine EvP.fM (nI ..) (EvP.ite (fun hv=>EvP.fM (nH ..) (EvP.ite (fun hx=>EvP.dK (nZ ..) (EvP.ite (fun he=>?_) (fun he=>EvP.ret ?_))) (fun hx=>EvP.ret ?_))) (fun hv=>EvP.ret ?_))
        · refine EvP.dK (sub x.f4 (by omega)) (EvP.ite (fun h4=>EvP.dK (sub x.f5 (by omega)) (EvP.ret ?_)) (fun h4=>EvP.ret ?_)) <;> simp [*]
        all_goals simp [*]
    refine EvP.step (fun k=>bY.f.eq_2 (k:=k) ..) (EvP.ite (fun h2=>?_) (fun h2=>?_))
    · refine EvP.step (fun k=>bY.j0.eq_2 (k:=k) ..) (EvP.no Bool.false_ne_true (EvP.no (by omega) (EvP.no (by omega) (j1 false ?_ ?_))))
      · simp [rY,h2]
      · simp [h2]
    · refine EvP.step (fun k=>bY.j0.eq_2 (k:=k) ..) (EvP.ite (fun h3=>?_) (fun h3=>EvP.no (by omega) ?_))
      · have h3:x.f0≠3:=bne_iff_ne.mp h3
        refine EvP.dK (vM _ _ _ _ _ _ _ _ h2 h3) (EvP.ret ?_)
        simp [kU,rY,h2,h3,stS]
      · have h3:x.f0=3:=by simpa using h3
        refine EvP.yes h3 (j1 _ ?_ ?_)
        · simp [rY,h3]
        · simp [h3]
theorem DV (l:List S58) (hl:cSs l≤1000000000):EvP (fun k=>bU.f k l 3) (·=okL 3 3 l):=by
  have:=gI l
  refine vL l (by omega) _ 3 (fun y hy=>MO 3 3 y (by omega) (by omega) ?_)
  have:=yK l y hy
  omega
theorem sJ:∀ (c:Nat) (l:List S58),cSs l≤c→c≤1000000000→EvP (fun k=>bQ.f k l) (·=(cSs l:Int)):=by
  intro c
  induction c with
  |zero=>
    intro l hl hc
    have:=gI l
    refine EvP.step (fun k=>bQ.f.eq_2 (k:=k) ..) (EvP.step (fun k=>bQ.l0.eq_2 (k:=k) ..) (EvP.no (by omega) (EvP.ret ?_)))
    omega
  |succ c ih=>
    intro l hl hc
    have hlen:=gI l
    have loop:∀ (r j:Nat) (a:Int),j + r=l.length→0≤a→a + cSs (l.drop j)≤1000000000→EvP (fun k=>bQ.l0 k l a (j:Int)) (·=a + cSs (l.drop j)):=by
      intro r
      induction r with
      |zero=>
        intro j a hj h0 h1
        refine EvP.step (fun k=>bQ.l0.eq_2 (k:=k) ..) (EvP.no (by omega) (EvP.ret ?_))
        rw [List.drop_eq_nil_of_le (by omega),sM]
        omega
      |succ r ih2=>
        intro j a hj h0 h1
        have hlt:j < l.length:=by omega
        have hd:=RD l j hlt
        have hm:=yK l _ (List.getElem_mem hlt)
        have hcs:=OV l[j]
        refine EvP.step (fun k=>bQ.l0.eq_2 (k:=k) ..) (EvP.yes (by omega) (EvP.yes (by omega) ?_))
        rw [DN l j hlt,w64 (n:=(j:Int) + 1) (by omega) (by omega)]
        refine EvP.dK (ih _ (by omega) (by omega)) (EvP.dK (ih _ (by omega) (by omega)) ?_)
        rw [w64 (n:=a + 1) (by omega) (by omega),w64 (n:=a + 1 + (cSs l[j].f4:Int)) (by omega) (by omega),w64 (by omega) (by omega)]
        refine (ih2 (j + 1) _ (by omega) (by omega) (by omega)).mono fun b hb=>?_
        omega
    refine EvP.step (fun k=>bQ.f.eq_2 (k:=k) ..) ((loop l.length 0 0 (by omega) (by omega) (by rw [List.drop_zero];omega)).mono fun b hb=>?_)
    rw [List.drop_zero] at hb
    omega
theorem BZ (l:List S58) (hl:cSs l≤1000000000):EvP (fun k=>fZ.f k l) (·=okT 3 l):=by
  unfold fZ.f okT
  refine EvP.dK (DV l hl) (EvP.ite (fun h=>EvP.dK (sJ _ l hl (by omega)) (EvP.ret ?_)) (fun h=>EvP.ret ?_))
  · rw [h,Bool.true_and]
    exact decide_eq_decide.mpr (by omega)
  · rw [Bool.eq_false_iff.mpr h]
    rfl
theorem DI {boxes:Int} {l:List S58}:okT boxes l=true ↔ okL boxes 3 l=true∧cSs l≤16:=by
 unfold okT
 rw [Bool.and_eq_true,decide_eq_true_eq]
theorem aId (a:S58):(⟨a.f0,a.f1,a.f2,a.f3,a.f4,a.f5⟩:S58)=a:=by
 cases a
 rfl
inductive ST where
 |mk (kd va bx:Int) (x:X) (b e:List ST)
namespace ST
def kd:ST→Int|⟨a,_,_,_,_,_⟩=>a
def va:ST→Int|⟨_,a,_,_,_,_⟩=>a
def bx:ST→Int|⟨_,_,a,_,_,_⟩=>a
def x:ST→X|⟨_,_,_,a,_,_⟩=>a
def b:ST→List ST|⟨_,_,_,_,a,_⟩=>a
def e:ST→List ST|⟨_,_,_,_,_,a⟩=>a
end ST
mutual
def oG:ST→S58
 |⟨kd,va,bx,x,b,e⟩=>⟨kd,va,bx,emb x,gF b,gF e⟩
def gF:List ST→List S58
 |[]=>[]
 |s :: ss=>oG s :: gF ss
end
theorem sH (t:ST):oG t=⟨t.kd,t.va,t.bx,emb t.x,gF t.b,gF t.e⟩:=by
 cases t
 rw [oG]
 rfl
theorem iO:∀ l:List ST,(gF l).length=l.length
 |[]=>by rw [gF];rfl
 |x :: xs=>by rw [gF,List.length_cons,List.length_cons,iO xs]
theorem CV:∀ l m:List ST,gF (l ++ m)=gF l ++ gF m
 |[],m=>by rw [gF];rfl
 |x :: xs,m=>by rw [List.cons_append,gF,gF,CV xs m];rfl
theorem NJ:∀ (l:List ST) (i:Nat) (h:i < l.length),(gF l)[i]'(by rw [iO];exact h)=oG l[i]
 |x :: xs,0,_=>by simp [gF]
 |x :: xs,i + 1,h=>by
  have h2:=NJ xs i (by simpa using h)
  simp only [gF,List.getElem_cons_succ]
  exact h2
theorem KN {P:ST→Prop} (h:∀ t:ST,(∀ y ∈ t.b,P y)→(∀ y ∈ t.e,P y)→P t) (t:ST):P t:=
 @ST.rec (motive_1:=P) (motive_2:=fun l=>∀ y ∈ l,P y) (fun a b c d m n i1 i2=>h ⟨a,b,c,d,m,n⟩ i1 i2) (fun y hy=>by simp at hy) (fun y ys h1 h2 z hz=>by
  rcases List.mem_cons.1 hz with rfl|hz
  ·exact h1
  ·exact h2 z hz) t
inductive AX:ST→Prop
 |mk (t:ST) (h1:t.x.ok) (h2:t.x.depth≤5) (hb:∀ y ∈ t.b,AX y) (he:∀ y ∈ t.e,AX y):AX t
theorem aDr (boxes:Int):∀ (d:Nat) (s:S58),kU boxes d s=true→∃ t,oG t=s∧AX t:=by
 have ex:∀ s:S58,stS boxes s=true→∃ x:X,emb x=s.f3∧x.ok∧x.depth≤5:=by
  intro s h
  have hv:vx 5 s.f3.f0 s.f3.f1 s.f3.f2=true∨yQ s.f3.f0 s.f3.f1 s.f3.f2=true:=by
   unfold stS yD mU at h
   repeat' split at h
   all_goals first
    |(cases h;done)
    |(simp only [Bool.and_eq_true] at h;first|exact .inl h.2.2.1|exact .inr h.2.2.1)
    |skip
   all_goals simp_all
  rcases hv with hv|hv
  ·obtain ⟨x,h1,h2,h3⟩:=PO 5 _ _ _ hv
   exact ⟨x,h3.trans (aFa _),h1,h2⟩
  ·unfold yQ at hv
   simp only [Bool.and_eq_true,beq_iff_eq] at hv
   refine ⟨.num 0,?_,⟨by omega,by omega⟩,by simp [X.depth]⟩
   rw [emb,← aFa s.f3,hv.1,hv.2.1,List.eq_nil_of_length_eq_zero hv.2.2]
 have mk:∀ (s:S58),stS boxes s=true→(∃ l,gF l=s.f4∧∀ y ∈ l,AX y)→(∃ l,gF l=s.f5∧∀ y ∈ l,AX y)→∃ t,oG t=s∧AX t:=by
  rintro s h ⟨l,h4,a4⟩ ⟨m,h5,a5⟩
  obtain ⟨x,hx,hok,hd⟩:=ex s h
  refine ⟨⟨s.f0,s.f1,s.f2,x,l,m⟩,?_, .mk _ hok hd a4 a5⟩
  rw [oG,hx,h4,h5]
  exact aId s
 have nils:∀ s:S58,stS boxes s=true→rY s=false→(∃ l,gF l=s.f4∧∀ y ∈ l,AX y)∧(∃ l,gF l=s.f5∧∀ y ∈ l,AX y):=by
  intro s h hb
  have hf:=IJ h (fun e=>by rw [(oL s).mpr e] at hb;cases hb)
  rw [OV] at hf
  have l4:=gI s.f4
  have l5:=gI s.f5
  rw [List.eq_nil_of_length_eq_zero (show s.f4.length=0 by omega),List.eq_nil_of_length_eq_zero (show s.f5.length=0 by omega)]
  exact ⟨⟨[],by rw [gF],by simp⟩,⟨[],by rw [gF],by simp⟩⟩
 intro d
 induction d with
 |zero=>
  intro s h
  simp only [kU,Bool.and_eq_true] at h
  obtain ⟨n4,n5⟩:=nils s h.1 (by simpa using h.2)
  exact mk s h.1 n4 n5
 |succ d ih=>
  intro s h
  have lists:∀ l:List S58,l.all (kU boxes d)=true→∃ m,gF m=l∧∀ y ∈ m,AX y:=by
   intro l
   induction l with
   |nil=>exact fun _=>⟨[],by rw [gF],by simp⟩
   |cons y ys ihl=>
    intro h
    rw [List.all_cons,Bool.and_eq_true] at h
    obtain ⟨t,ht,at_⟩:=ih y h.1
    obtain ⟨m,hm,am⟩:=ihl h.2
    refine ⟨t :: m,by rw [gF,ht,hm],fun z hz=>?_⟩
    rcases List.mem_cons.1 hz with rfl|hz
    ·exact at_
    ·exact am z hz
  simp only [kU,Bool.and_eq_true,Bool.or_eq_true] at h
  cases hb:rY s with
  |false=>
   obtain ⟨n4,n5⟩:=nils s h.1 hb
   exact mk s h.1 n4 n5
  |true=>
   rw [hb] at h
   rcases h.2 with h2|h2
   ·cases h2
   ·exact mk s h.1 (lists _ h2.1) (lists _ h2.2)
theorem aDq (boxes:Int) (d:Nat):∀ l:List S58,okL boxes d l=true→∃ m,gF m=l∧∀ y ∈ m,AX y
 |[],_=>⟨[],by rw [gF],by simp⟩
 |y :: ys,h=>by
  have h':(kU boxes d y && okL boxes d ys)=true:=h
  rw [Bool.and_eq_true] at h'
  obtain ⟨t,ht,at_⟩:=aDr boxes d y h'.1
  obtain ⟨m,hm,am⟩:=aDq boxes d ys h'.2
  refine ⟨t :: m,by rw [gF,ht,hm],fun z hz=>?_⟩
  rcases List.mem_cons.1 hz with rfl|hz
  ·exact at_
  ·exact am z hz
def cT (l:List ST):Nat:=cSs (gF l)
theorem yL (l m:List ST):cT (l ++ m)=cT l + cT m:=by
 unfold cT
 rw [CV,sF]
theorem pK (t:ST):cT [t]=cT t.b + cT t.e + 1:=by
 unfold cT
 rw [gF,gF,aEy,sH,OV]
theorem vF (t:ST) (l:List ST):cT (t :: l)=cT t.b + cT t.e + 1 + cT l:=by
 rw [show t :: l=[t] ++ l from rfl,yL,pK]
end Go.Proofs.YtjamfkpgmkhbnaaGreatDoor.PA

