/- Part 5. -/
import Derived.Test.YtjamfkpgmkhbnaaGreatDoorQFnSourceParts3
import Derived.Laws.BitsLemmas
import Derived.Lib.Join
import Derived.Lib.ItoaNum
import Derived.Lib.Bytealg
import Derived.KernelRfl
set_option maxHeartbeats 8000000
set_option maxRecDepth 100000
namespace Go.Proofs.YtjamfkpgmkhbnaaGreatDoor.PA
open Go.RowKit Go.Proofs.YtjamfkpgmkhbnaaGreatDoorW.PrintWords Go.Proofs.YtjamfkpgmkhbnaaGreatDoorW.PrintLast Go.Proofs.YtjamfkpgmkhbnaaGreatDoorW.PrintMore
attribute [local go_sem] max2_int min2_int max_two min_two max_three min_three max_four min_four
set_option linter.unusedVariables false
set_option linter.unusedSimpArgs false
theorem aX.mono_l:∀ k,(∀ y0 y1 y2,LeO (aX.j0 k y0 y1 y2) (aX.j0 (k + 1) y0 y1 y2))∧(∀ y0 y1 y2,LeO (aX.l0 k y0 y1 y2) (aX.l0 (k + 1) y0 y1 y2))
 |0=>⟨fun _ _ _ r h=>by simp [aX.j0] at h,fun _ _ _ r h=>by simp [aX.l0] at h⟩
 |k + 1=>by
  obtain ⟨ih0,ih1⟩:=aX.mono_l k
  refine ⟨?_,?_⟩
  ·intro y0 y1 y2
   unfold aX.j0
   have m0:=@fZ.mono
   have m1:=@bN.mono
   have m2:=@dW.mono
   exact mo_
  ·intro y0 y1 y2
   unfold aX.l0
   have m0:=@fZ.mono
   have m1:=@bN.mono
   have m2:=@dW.mono
   exact mo_
theorem aX.mono:∀ a0 a1 k,LeO (aX.f k a0 a1) (aX.f (k + 1) a0 a1):=by
 intro a0 a1 k
 obtain ⟨ih0,ih1⟩:=aX.mono_l k
 unfold aX.f
 have m0:=@fZ.mono
 have m1:=@bN.mono
 have m2:=@dW.mono
 exact mo_
def aX.T6:Bool × List (List Nat × List Nat):=(true,[([],[]),([0],[0]),([],[]),([1,2],[1,2]),([3],[3]),([4],[4]),([5],[5]),([6,5],[6]),([7],[7]),([8,7],[7,8]),([7],[7]),([9,10,7],[7,9,10]),([11,7],[7,11]),([7],[7]),([13,7],[7,13]),([14,7],[7,14]),([12,15,7,7],[7,12,15]),([16,7],[7,16]),([7,17],[7,17])])
def aX.B6:List Nat:=[0,1,0,7,15,31,63,127,255,511,255,2047,4095,255,8447,24831,65535,131071,262143]
theorem aX.OX:lZ .any (opsOf Tryz.f23 6)=aX.T6:=by kernel_rfl
theorem aX.CJ:iR aX.T6.2 aX.B6=true:=by kernel_rfl
theorem aX.calls (k:Nat) (je:Option Addr) (jf:Nat) (j8:List Int) (jl:Option Addr) (jh:Nat) (j5:List (List (S58))) (r:Bool) (w:World) (hr0_0:Kd.C (Kd.int .i64) w je j8.length j8) (hc0_0:j8.length≤jf) (hr0_1:Kd.C (Kd.slice 58 k58) w jl j5.length j5) (hc0_1:j5.length≤jh) (h:aX.f k j8 j5=some r):
  Calls Tryz.prog 23 #[.agg #[.slice je j8.length jf, .slice jl j5.length jh]] w fun e w'=>e= .returned (.bool r)∧Below w.heap.size w w':=by
 have hu26:=Tryz.underlying26
 have jq:=am hr0_0
 have jr:=am hc0_0
 clear hr0_0 hc0_0
 have ji:=am hr0_1
 have q2:=am hc0_1
 clear hr0_1 hc0_1
 have HB:=am (Below.refl w.heap.size w)
 unfold aX.f at h
 have H:=h
 clear h
 have jR:=am H
 clear H
 go_enter Tryz.func23,Tryz.ntmps23
 go_upto_region 1 with (first|((with_reducible refine bY (N:=1) rfl ?_);(try (refine nC (by rfl) ?_;dsimp only));refine eH rfl (N:=1) rfl (cs:=#[.slice je j8.length jf, .slice jl j5.length jh]) (t:=26) rn_ ?_;intro jg hg w3 hbox hb;have j3:=am (hbox);have GW43:=am ((by rw [hg];exact (aH dQ):w.heap.size≤jg));have GE43:=am ((by rw [hg];exact (aH dQ):w.heap.size≤jg));replace HB:=am (aA dQ hb);clear hb hbox hg))
 (try simp only [Act.put,List.setIfInBounds_toArray,List.set_cons_zero,List.set_cons_succ])
 go_cut [14] (fun qa wc=>∃ (kq:Nat) (jk:Bool),qa= .bool jk∧Aside0 (aX.j0 kq jk j8 j5=some r)∧Aside0 (kq≤k)∧Aside0 (wc.heap[jg]?=some (.cells #[(.slice je j8.length jf),(.slice jl j5.length jh)] 26 (0,0)))∧Aside0 (Below w.heap.size w wc))
 case first=>
  have H:=jR.out
  clear jR
  obtain ⟨qb,A4,H⟩:=bsa H
  (try dsimp only at H)
  by_cases c5:qb=true
  ·subst c5
   rw [if_pos rfl] at H
   obtain ⟨q3,A6,H⟩:=bsa H
   (try dsimp only at H)
   have H':=am H
   clear H
   obtain ⟨jS,jT,jU,jV⟩:=iK j3.out
   go_wp2_with (first|((with_reducible refine aD (f:=45) rfl ?_);refine gl_ 6 Tryz.func45 #[.slice je j8.length jf] ?_;(with_reducible refine (dW.calls k _ _ j8 true _ (aC_ (Kd.aU jq.out HB.out)) jr.out A4.out).mono ?_);rintro e w' ⟨rfl,⟨nd,rfl⟩⟩;refine ⟨_,rfl,?_⟩)|(go_at_call 46;(with_reducible refine (gY.calls (j5.length:Int) 1 3 q3 _ A6.out).mono ?_);rintro e w' ⟨rfl,⟨nd,rfl⟩⟩))
   go_meet
   case rel=>exact ⟨_,(!q3),sd_,H',⟨by first|omega|exact Nat.le_refl _⟩,⟨by (with_reducible repeat (first|refine dU ?_ _|refine dD ?_|refine dS ?_ _));exact j3.out⟩,⟨kG⟩⟩
  replace c5:=Bool.eq_false_iff.mpr c5
  subst c5
  rw [if_neg (show ¬ (false=true) by decide)] at H
  have H':=am H
  clear H
  obtain ⟨jW,jX,jY,jZ⟩:=iK j3.out
  go_wp2_with (first|((with_reducible refine aD (f:=45) rfl ?_);refine gl_ 6 Tryz.func45 #[.slice je j8.length jf] ?_;(with_reducible refine (dW.calls k _ _ j8 false _ (aC_ (Kd.aU jq.out HB.out)) jr.out A4.out).mono ?_);rintro e w' ⟨rfl,⟨nd,rfl⟩⟩;refine ⟨_,rfl,?_⟩))
  go_meet
  case rel=>exact ⟨_,(true),sd_,H',⟨by first|omega|exact Nat.le_refl _⟩,⟨by (with_reducible repeat (first|refine dU ?_ _|refine dD ?_|refine dS ?_ _));exact j3.out⟩,⟨kG⟩⟩
 case rest=>
  clear jR
  obtain ⟨kq,jk,rfl,HA,HJ1,j3,HB⟩:=hcut
  cases kq with
  |zero=>exact absurd HA.out (by simp [aX.j0])
  |succ q4=>
   have H:=HA.out
   clear HA
   simp only [aX.j0] at H
   by_cases c9:jk=true
   ·subst c9
    rw [if_pos rfl] at H
    obtain rfl:=Option.some.inj H
    go_wp2
    go_ret
    exact ⟨rr_,kG⟩
   replace c9:=Bool.eq_false_iff.mpr c9
   subst c9
   rw [if_neg (show ¬ (false=true) by decide)] at H
   have H':=am H
   clear H
   go_wp2
   go_loopg [3] q4 (fun kq v3 w'=>∃ (j4:Int),v3= .int .i64 j4∧Aside0 (aX.l0 kq j4 j8 j5=some r)∧Aside0 (kq≤q4)∧Aside0 (w'.heap[jg]?=some (.cells #[(.slice je j8.length jf),(.slice jl j5.length jh)] 26 (0,0)))∧Aside0 (Below w.heap.size w w'))
   case atStart=>exact ⟨(0),sd_,H',⟨Nat.le_refl _⟩,⟨by (with_reducible repeat (first|refine dU ?_ _|refine dD ?_|refine dS ?_ _));exact j3.out⟩,⟨kG⟩⟩
   case round=>
    clear H'
    try clear c9
    obtain ⟨j4,rfl,HA,q5,j3,HB⟩:=hrel
    cases gk with
    |zero=>exact absurd HA.out (by simp [aX.l0])
    |succ k2=>
     have H:=HA.out
     clear HA
     simp only [aX.l0] at H
     by_cases c10:j4 < (j5.length:Int)
     ·rw [if_pos c10] at H
      have jw:decide (j4 < (j5.length:Int))=true:=decide_eq_true c10
      clear c10
      by_cases jy:0≤j4
      ·rw [if_pos jy] at H
       have q6:decide (0≤j4)=true:=decide_eq_true jy
       clear jy
       obtain ⟨qc,q7,H⟩:=bsm H
       (try dsimp only at H)
       have q0:=am q7
       clear q7
       by_cases jz:qc=true
       ·subst jz
        rw [if_pos rfl] at H
        obtain ⟨qd,q8,H⟩:=bsm H
        (try dsimp only at H)
        have q9:=am q8
        clear q8
        by_cases jA:qd=true
        ·subst jA
         rw [if_pos rfl] at H
         have H':=am H
         clear H
         obtain ⟨jB,jC,jD,jE⟩:=iK j3.out
         try go_wp2
         replace j3:=am (dD j3.out)
         replace HB:=am (bJ HB.out)
         have jm:0≤(j4:Int):=of_decide_eq_true fA
         have jn:j4 < (j5.length:Int):=of_decide_eq_true fA
         obtain ⟨jd,ja,jb,jx,j6,hl52_0,hi52_0⟩:=wP ji.out j4 jm jn
         have hw52_0:=j6
         cases jx
         replace j6:=(HB.out.cell (World.block_lt_of_cell? w _ j6)).trans j6
         have j9:=am hi52_0
         have jc:=am hl52_0
         clear hi52_0 hl52_0
         replace jm:=eq_true jm
         replace jn:=eq_true jn
         have js:0≤(j4:Int):=of_decide_eq_true fA
         have jt:j4 < (j5.length:Int):=of_decide_eq_true fA
         obtain ⟨ju,jo,jp,q1,j7,hl53_0,hi53_0⟩:=wP ji.out j4 js jt
         have hw53_0:=j7
         obtain rfl:jd=ju:=(by injection q1)
         replace j7:=(HB.out.cell (World.block_lt_of_cell? w _ j7)).trans j7
         have jj:=am hi53_0
         have jv:=am hl53_0
         clear hi53_0 hl53_0
         replace js:=eq_true js
         replace jt:=eq_true jt
         refine lQ (n:=19) (S:=fun w'=>w'.cell? ⟨jg,0,none⟩=some (.slice je j8.length jf)∧w'.cell? ⟨jg,1,none⟩=some (.slice (some jd) j5.length jh)∧w'.cell? (jd.add (j4).toNat)=some (.slice ja (fV j5 j4).length jb)∧w'.cell? (jd.add (j4).toNat)=some (.slice jo (fV j5 j4).length jp)) (ds:=[]) (bz 19 0) (by kernel_rfl) rfl rfl ⟨(aN j3.out 0).trans rfl,(aN j3.out 1).trans rfl,((HB.out.cell (World.block_lt_of_cell? w _ hw52_0)).trans hw52_0),((HB.out.cell (World.block_lt_of_cell? w _ hw53_0)).trans hw53_0)⟩ (fun hHeld=>?_);refine iL aX.OX aX.CJ (fun HT_ HW_=>?_)
         generalize wr.drew=qe at j3 HB j9 jj j6 j7 hHeld ⊢
         refine pr_ 0 22 (bz 19 1) HT_ ?_
         refine pr_ 2 24 (bz 19 5) HT_ ?_
         refine ML 1 23 (bz 19 7) HT_ HW_ hHeld ?_
         refine pr_ 3 25 (bz 19 15) HT_ ?_
         refine ML 4 26 (bz 19 31) HT_ HW_ hHeld ?_
         refine iE (i:=5) (N:=some 27) (bz 19 63) rfl rfl (eY HT_.out (by kernel_rfl)) (by decide) (fun K hK=>?_)
         refine iQ Tryz.func47 (by kernel_rfl) rfl #[.slice ja (fV j5 j4).length jb] (by rfl) rfl rfl mV ?_
         with_reducible refine (fZ.calls k2 _ _ (fV j5 j4) true _ (aC_ (Kd.aU j9.out HB.out)) jc.out q0.out).mono ?_
         rintro e qf ⟨rfl,hb⟩
         refine ⟨_,rfl,?_⟩
         replace j3:=bbP j3 hb
         replace HB:=am (aA kG hb)
         (try clear hb)
         (try clear hb2)
         (try clear hk)
         (try clear hi)
         refine hK.out _ _ ⟨(aN j3.out 0).trans rfl,(aN j3.out 1).trans rfl,((HB.out.cell (World.block_lt_of_cell? w _ hw52_0)).trans hw52_0),((HB.out.cell (World.block_lt_of_cell? w _ hw53_0)).trans hw53_0)⟩ (fun hHeld=>?_)
         clear hK K
         refine fD (a':=?_) ?_ ?_
         rotate_left
         ·exact ap_ (N:=27)
         refine pr_ 6 28 (bz 19 127) HT_ ?_
         refine pr_ 7 29 (bz 19 255) HT_ ?_
         refine pr_ 8 30 (bz 19 511) HT_ ?_
         refine pr_ 10 32 (bz 19 1535) HT_ ?_
         refine pr_ 13 35 (bz 19 9727) HT_ ?_
         refine ML 9 31 (bz 19 10239) HT_ HW_ hHeld ?_
         refine pr_ 11 33 (bz 19 12287) HT_ ?_
         refine ML 12 34 (bz 19 16383) HT_ HW_ hHeld ?_
         refine ML 14 36 (bz 19 32767) HT_ HW_ hHeld ?_
         refine pr_ 15 37 (bz 19 65535) HT_ ?_
         refine iE (i:=16) (N:=some 38) (bz 19 131071) rfl rfl (eY HT_.out (by kernel_rfl)) (by decide) (fun K hK=>?_)
         refine iQ Tryz.func48 (by kernel_rfl) rfl #[.slice ja (fV j5 j4).length jb, .int .i64 (j8.length:Int)] (by rfl) rfl rfl mV ?_
         with_reducible refine (bN.calls k2 _ _ (fV j5 j4) (j8.length:Int) true _ (aC_ (Kd.aU j9.out HB.out)) jc.out q9.out).mono ?_
         rintro e qg ⟨rfl,hb⟩
         refine ⟨_,rfl,?_⟩
         replace j3:=bbP j3 hb
         replace HB:=am (aA kG hb)
         (try clear hb)
         (try clear hb2)
         (try clear hk)
         (try clear hi)
         refine hK.out _ _ ⟨(aN j3.out 0).trans rfl,(aN j3.out 1).trans rfl,((HB.out.cell (World.block_lt_of_cell? w _ hw52_0)).trans hw52_0),((HB.out.cell (World.block_lt_of_cell? w _ hw53_0)).trans hw53_0)⟩ (fun hHeld=>?_)
         clear hK K
         refine fD (a':=?_) ?_ ?_
         rotate_left
         ·exact ap_ (N:=38)
         refine pr_ 17 39 (bz 19 262143) HT_ ?_
         refine pr_ 18 40 (bz 19 524287) HT_ ?_
         refine nG (lH HT_.out (by kernel_rfl)) ?_
         try go_wp2
         go_roundg k2
         case measure=>have:=HJ1.out;have:=q5.out;omega
         case rel=>exact ⟨(wrap64 (j4 + 1)),sd_,H',⟨by have:=HJ1.out;have:=q5.out;omega⟩,⟨by (with_reducible repeat (first|refine dU ?_ _|refine dD ?_|refine dS ?_ _));exact j3.out⟩,⟨kG⟩⟩
        replace jA:=Bool.eq_false_iff.mpr jA
        subst jA
        rw [if_neg (show ¬ (false=true) by decide)] at H
        obtain rfl:=Option.some.inj H
        obtain ⟨jF,jG,jH,jI⟩:=iK j3.out
        try go_wp2
        replace j3:=am (dD j3.out)
        replace HB:=am (bJ HB.out)
        have jm:0≤(j4:Int):=of_decide_eq_true fA
        have jn:j4 < (j5.length:Int):=of_decide_eq_true fA
        obtain ⟨jd,ja,jb,jx,j6,hl52_0,hi52_0⟩:=wP ji.out j4 jm jn
        have hw52_0:=j6
        cases jx
        replace j6:=(HB.out.cell (World.block_lt_of_cell? w _ j6)).trans j6
        have j9:=am hi52_0
        have jc:=am hl52_0
        clear hi52_0 hl52_0
        replace jm:=eq_true jm
        replace jn:=eq_true jn
        have js:0≤(j4:Int):=of_decide_eq_true fA
        have jt:j4 < (j5.length:Int):=of_decide_eq_true fA
        obtain ⟨ju,jo,jp,q1,j7,hl53_0,hi53_0⟩:=wP ji.out j4 js jt
        have hw53_0:=j7
        obtain rfl:jd=ju:=(by injection q1)
        replace j7:=(HB.out.cell (World.block_lt_of_cell? w _ j7)).trans j7
        have jj:=am hi53_0
        have jv:=am hl53_0
        clear hi53_0 hl53_0
        replace js:=eq_true js
        replace jt:=eq_true jt
        refine lQ (n:=19) (S:=fun w'=>w'.cell? ⟨jg,0,none⟩=some (.slice je j8.length jf)∧w'.cell? ⟨jg,1,none⟩=some (.slice (some jd) j5.length jh)∧w'.cell? (jd.add (j4).toNat)=some (.slice ja (fV j5 j4).length jb)∧w'.cell? (jd.add (j4).toNat)=some (.slice jo (fV j5 j4).length jp)) (ds:=[]) (bz 19 0) (by kernel_rfl) rfl rfl ⟨(aN j3.out 0).trans rfl,(aN j3.out 1).trans rfl,((HB.out.cell (World.block_lt_of_cell? w _ hw52_0)).trans hw52_0),((HB.out.cell (World.block_lt_of_cell? w _ hw53_0)).trans hw53_0)⟩ (fun hHeld=>?_);refine iL aX.OX aX.CJ (fun HT_ HW_=>?_)
        generalize wr.drew=qh at j3 HB j9 jj j6 j7 hHeld ⊢
        refine pr_ 0 22 (bz 19 1) HT_ ?_
        refine pr_ 2 24 (bz 19 5) HT_ ?_
        refine ML 1 23 (bz 19 7) HT_ HW_ hHeld ?_
        refine pr_ 3 25 (bz 19 15) HT_ ?_
        refine ML 4 26 (bz 19 31) HT_ HW_ hHeld ?_
        refine iE (i:=5) (N:=some 27) (bz 19 63) rfl rfl (eY HT_.out (by kernel_rfl)) (by decide) (fun K hK=>?_)
        refine iQ Tryz.func47 (by kernel_rfl) rfl #[.slice ja (fV j5 j4).length jb] (by rfl) rfl rfl mV ?_
        with_reducible refine (fZ.calls k2 _ _ (fV j5 j4) true _ (aC_ (Kd.aU j9.out HB.out)) jc.out q0.out).mono ?_
        rintro e qi ⟨rfl,hb⟩
        refine ⟨_,rfl,?_⟩
        replace j3:=bbP j3 hb
        replace HB:=am (aA kG hb)
        (try clear hb)
        (try clear hb2)
        (try clear hk)
        (try clear hi)
        refine hK.out _ _ ⟨(aN j3.out 0).trans rfl,(aN j3.out 1).trans rfl,((HB.out.cell (World.block_lt_of_cell? w _ hw52_0)).trans hw52_0),((HB.out.cell (World.block_lt_of_cell? w _ hw53_0)).trans hw53_0)⟩ (fun hHeld=>?_)
        clear hK K
        refine fD (a':=?_) ?_ ?_
        rotate_left
        ·exact ap_ (N:=27)
        refine pr_ 6 28 (bz 19 127) HT_ ?_
        refine pr_ 7 29 (bz 19 255) HT_ ?_
        refine pr_ 8 30 (bz 19 511) HT_ ?_
        refine pr_ 10 32 (bz 19 1535) HT_ ?_
        refine pr_ 13 35 (bz 19 9727) HT_ ?_
        refine ML 9 31 (bz 19 10239) HT_ HW_ hHeld ?_
        refine pr_ 11 33 (bz 19 12287) HT_ ?_
        refine ML 12 34 (bz 19 16383) HT_ HW_ hHeld ?_
        refine ML 14 36 (bz 19 32767) HT_ HW_ hHeld ?_
        refine pr_ 15 37 (bz 19 65535) HT_ ?_
        refine iE (i:=16) (N:=some 38) (bz 19 131071) rfl rfl (eY HT_.out (by kernel_rfl)) (by decide) (fun K hK=>?_)
        refine iQ Tryz.func48 (by kernel_rfl) rfl #[.slice ja (fV j5 j4).length jb, .int .i64 (j8.length:Int)] (by rfl) rfl rfl mV ?_
        with_reducible refine (bN.calls k2 _ _ (fV j5 j4) (j8.length:Int) false _ (aC_ (Kd.aU j9.out HB.out)) jc.out q9.out).mono ?_
        rintro e qj ⟨rfl,hb⟩
        refine ⟨_,rfl,?_⟩
        replace j3:=bbP j3 hb
        replace HB:=am (aA kG hb)
        (try clear hb)
        (try clear hb2)
        (try clear hk)
        (try clear hi)
        refine hK.out _ _ ⟨(aN j3.out 0).trans rfl,(aN j3.out 1).trans rfl,((HB.out.cell (World.block_lt_of_cell? w _ hw52_0)).trans hw52_0),((HB.out.cell (World.block_lt_of_cell? w _ hw53_0)).trans hw53_0)⟩ (fun hHeld=>?_)
        clear hK K
        refine fD (a':=?_) ?_ ?_
        rotate_left
        ·exact ap_ (N:=38)
        refine pr_ 17 39 (bz 19 262143) HT_ ?_
        refine pr_ 18 40 (bz 19 524287) HT_ ?_
        refine nG (lH HT_.out (by kernel_rfl)) ?_
        try go_wp2
        go_ret
        exact ⟨rr_,kG⟩
       replace jz:=Bool.eq_false_iff.mpr jz
       subst jz
       rw [if_neg (show ¬ (false=true) by decide)] at H
       obtain rfl:=Option.some.inj H
       obtain ⟨jJ,jK,jL,jM⟩:=iK j3.out
       try go_wp2
       replace j3:=am (dD j3.out)
       replace HB:=am (bJ HB.out)
       have jm:0≤(j4:Int):=of_decide_eq_true fA
       have jn:j4 < (j5.length:Int):=of_decide_eq_true fA
       obtain ⟨jd,ja,jb,jx,j6,hl52_0,hi52_0⟩:=wP ji.out j4 jm jn
       have hw52_0:=j6
       cases jx
       replace j6:=(HB.out.cell (World.block_lt_of_cell? w _ j6)).trans j6
       have j9:=am hi52_0
       have jc:=am hl52_0
       clear hi52_0 hl52_0
       replace jm:=eq_true jm
       replace jn:=eq_true jn
       refine lQ (n:=19) (S:=fun w'=>w'.cell? ⟨jg,0,none⟩=some (.slice je j8.length jf)∧w'.cell? ⟨jg,1,none⟩=some (.slice (some jd) j5.length jh)∧w'.cell? (jd.add (j4).toNat)=some (.slice ja (fV j5 j4).length jb)) (ds:=[]) (bz 19 0) (by kernel_rfl) rfl rfl ⟨(aN j3.out 0).trans rfl,(aN j3.out 1).trans rfl,((HB.out.cell (World.block_lt_of_cell? w _ hw52_0)).trans hw52_0)⟩ (fun hHeld=>?_);refine iL aX.OX aX.CJ (fun HT_ HW_=>?_)
       generalize wr.drew=qk at j3 HB j9 j6 hHeld ⊢
       refine pr_ 0 22 (bz 19 1) HT_ ?_
       refine pr_ 2 24 (bz 19 5) HT_ ?_
       refine aFg 1 23 (bz 19 7) HT_ HW_ hHeld ?_
       refine pr_ 3 25 (bz 19 15) HT_ ?_
       refine aFg 4 26 (bz 19 31) HT_ HW_ hHeld ?_
       refine iE (i:=5) (N:=some 27) (bz 19 63) rfl rfl (eY HT_.out (by kernel_rfl)) (by decide) (fun K hK=>?_)
       refine iQ Tryz.func47 (by kernel_rfl) rfl #[.slice ja (fV j5 j4).length jb] (by rfl) rfl rfl mV ?_
       with_reducible refine (fZ.calls k2 _ _ (fV j5 j4) false _ (aC_ (Kd.aU j9.out HB.out)) jc.out q0.out).mono ?_
       rintro e ql ⟨rfl,hb⟩
       refine ⟨_,rfl,?_⟩
       replace j3:=bbP j3 hb
       replace HB:=am (aA kG hb)
       (try clear hb)
       (try clear hb2)
       (try clear hk)
       (try clear hi)
       refine hK.out _ _ ⟨(aN j3.out 0).trans rfl,(aN j3.out 1).trans rfl,((HB.out.cell (World.block_lt_of_cell? w _ hw52_0)).trans hw52_0)⟩ (fun hHeld=>?_)
       clear hK K
       refine fD (a':=?_) ?_ ?_
       rotate_left
       ·exact ap_ (N:=27)
       refine pr_ 6 28 (bz 19 127) HT_ ?_
       refine pr_ 7 29 (bz 19 255) HT_ ?_
       refine pu_ 8 30 (bz 19 511) HT_ ?_
       refine pu_ 9 31 (bz 19 1023) HT_ ?_
       refine pu_ 10 32 (bz 19 2047) HT_ ?_
       refine pu_ 11 33 (bz 19 4095) HT_ ?_
       refine pu_ 12 34 (bz 19 8191) HT_ ?_
       refine pu_ 13 35 (bz 19 16383) HT_ ?_
       refine pu_ 14 36 (bz 19 32767) HT_ ?_
       refine pu_ 15 37 (bz 19 65535) HT_ ?_
       refine pu_ 16 38 (bz 19 131071) HT_ ?_
       refine pu_ 17 39 (bz 19 262143) HT_ ?_
       refine pr_ 18 40 (bz 19 524287) HT_ ?_
       refine nG (lH HT_.out (by kernel_rfl)) ?_
       try go_wp2
       go_ret
       exact ⟨rr_,kG⟩
      rw [if_neg jy] at H
      exact absurd H (by simp)
     rw [if_neg c10] at H
     have jw:decide (j4 < (j5.length:Int))=false:=decide_eq_false c10
     clear c10
     obtain rfl:=Option.some.inj H
     obtain ⟨jN,jO,jP,jQ⟩:=iK j3.out
     go_wp2
     go_ret
     exact ⟨rr_,kG⟩
theorem dX.mono_l:∀ k,(∀ y0,LeO (dX.f k y0) (dX.f (k + 1) y0))
 |0=>fun _ r h=>by simp [dX.f] at h
 |k + 1=>by
  have ih0:=dX.mono_l k
  ·intro y0
   unfold dX.f
   exact mo_
theorem dX.mono:∀ a0 k,LeO (dX.f k a0) (dX.f (k + 1) a0):=by
 intro a0 k
 have ih0:=dX.mono_l k
 exact ih0 a0
def dX.T7:Bool × List (List Nat × List Nat):=(true,[([],[]),([0],[0]),([1],[1]),([],[]),([3],[3]),([4],[4]),([5],[5]),([6],[6]),([7],[7]),([2,8],[2,8]),([9,2,0,1,2,3,4,5,6,7,8,9],[9])])
def dX.B7:List Nat:=[0,1,3,0,8,24,56,120,248,511,1023]
theorem dX.aHt:lZ .any (opsOf Tryz.f24 7)=dX.T7:=by kernel_rfl
theorem dX.aHd:iR dX.T7.2 dX.B7=true:=by kernel_rfl
theorem dX.calls (k:Nat):∀ (a0:Int) (r:ByteArray) (w:World) (h:dX.f k a0=some r),
  Calls Tryz.prog 24 #[.int .i64 a0] w fun e w'=>e= .returned (.string r)∧Below w.heap.size w w':=by
 induction k using Nat.strongRecOn with
 | _ k ih=>
 intro a0 r w h
 cases k with
 |zero=>exact absurd h (by simp [dX.f])
 |succ k=>
 simp only [dX.f] at h
 have HB:=am (Below.refl w.heap.size w)
 have H:=h
 clear h
 by_cases c2:a0 < (-9223372036854775807)
 ·rw [if_pos c2] at H
  have jb:decide (a0 < (-9223372036854775807))=true:=decide_eq_true c2
  clear c2
  obtain rfl:=Option.some.inj H
  go_enter Tryz.func24,Tryz.ntmps24
  go_wp2
  go_ret
  exact ⟨rr_,dQ⟩
 rw [if_neg c2] at H
 have jb:decide (a0 < (-9223372036854775807))=false:=decide_eq_false c2
 clear c2
 by_cases c3:a0 < 0
 ·rw [if_pos c3] at H
  have jc:decide (a0 < 0)=true:=decide_eq_true c3
  clear c3
  obtain ⟨ja,A4,H⟩:=bsa H
  (try dsimp only at H)
  by_cases c5:1 + ja.size≤9223372036854775807
  ·rw [if_pos c5] at H
   have jl:=eq_true c5
   have jm:decide (1 + ja.size≤9223372036854775807)=true:=decide_eq_true c5
   try have jn:(9223372036854775807 < 1 + ja.size)=False:=eq_false (Nat.not_lt.2 c5)
   obtain rfl:=Option.some.inj H
   go_enter Tryz.func24,Tryz.ntmps24
   go_wp2_with (first|((with_reducible refine aD (f:=24) rfl ?_);refine gl_ 9 Tryz.func24 #[.int .i64 (wrap64 (-a0))] ?_;(with_reducible refine (ih k (by omega) (wrap64 (-a0)) ja _ A4.out).mono ?_);rintro e w6 ⟨rfl,hb⟩;refine ⟨_,rfl,?_⟩;replace HB:=am (aA dQ hb);(try clear hb)))
   go_ret
   exact ⟨rr_,dQ⟩
  rw [if_neg c5] at H
  exact absurd H (by simp)
 rw [if_neg c3] at H
 have jc:decide (a0 < 0)=false:=decide_eq_false c3
 clear c3
 by_cases c7:a0 < 10
 ·rw [if_pos c7] at H
  have jd:decide (a0 < 10)=true:=decide_eq_true c7
  clear c7
  obtain ⟨jo,hy_⟩:∃ y_:List Int,y_=(([(wrap64 (48 + a0)) % 256]:List Int)):=⟨_,rfl⟩
  replace H:(some (strOfNums jo))=some r:=rx_
  have j8:=am hy_
  clear hy_
  obtain rfl:=Option.some.inj H
  go_enter Tryz.func24,Tryz.ntmps24
  go_wp2_with (first|((with_reducible refine bY (N:=16) rfl ?_);refine Kd.oQ (Kd.int .u8) _ 5 rfl (N:=16) rfl (xs:=([(wrap64 (48 + a0)) % 256]:List Int)) (inner:=[.int .u8 ((wrap64 (48 + a0)) % 256)]) (ok:=fun _=>True) (okp:=fun _=>True) rn_ ?hp (fun _ hk=>hk) trivial (Below.refl _ _) (Nat.le_refl _) (by simp) ?_;(case hp=>exact (dG.one (show Kd.M (Kd.int .u8) _ _ _ ((wrap64 (48 + a0)) % 256) [.int .u8 ((wrap64 (48 + a0)) % 256)] from rfl) (dG.none _ _)));intro jq w8 ho9 hb hg_ hnew_;clear hg_ hnew_;(first|rw [← j8.out] at ho9|(simp only [Int.reduceToNat] at ho9;rw [← j8.out] at ho9));have je:=am (Kd.eD ho9 (aH dQ));replace HB:=am (aA dQ hb);clear hb ho9;have hcv10:=uM (P:=Tryz.prog) Tryz.underlying22 Tryz.underlying5 Tryz.underlying9 (Kd.xO je.out)))
  go_ret
  exact ⟨rr_,dQ⟩
 rw [if_neg c7] at H
 have jd:decide (a0 < 10)=false:=decide_eq_false c7
 clear c7
 obtain ⟨j4,jg,H⟩:=bsm H
 (try dsimp only at H)
 have jf:=am jg
 clear jg
 obtain ⟨j6,hy_⟩:∃ y_:List Int,y_=(([(wrap64 (48 + (Int.tmod a0 10))) % 256]:List Int)):=⟨_,rfl⟩
 replace H:(if j4.size + (strOfNums j6).size≤9223372036854775807 then (some (j4 ++ (strOfNums j6))) else (none))=some r:=rx_
 have j5:=am hy_
 clear hy_
 by_cases j9:j4.size + (strOfNums j6).size≤9223372036854775807
 ·rw [if_pos j9] at H
  have jh:=eq_true j9
  have ji:decide (j4.size + (strOfNums j6).size≤9223372036854775807)=true:=decide_eq_true j9
  try have jj:(9223372036854775807 < j4.size + (strOfNums j6).size)=False:=eq_false (Nat.not_lt.2 j9)
  obtain rfl:=Option.some.inj H
  go_enter Tryz.func24,Tryz.ntmps24
  try go_wp2
  replace HB:=am (bJ HB.out)
  refine lQ (n:=11) (S:=fun w'=>True) (ds:=[]) (bz 11 0) (by kernel_rfl) rfl rfl trivial (fun hHeld=>?_);refine iL dX.aHt dX.aHd (fun HT_ HW_=>?_)
  generalize w.drew=jr at HB hHeld ⊢
  refine pr_ 0 18 (bz 11 1) HT_ ?_
  refine pr_ 1 19 (bz 11 3) HT_ ?_
  refine pr_ 3 21 (bz 11 11) HT_ ?_
  refine pr_ 4 22 (bz 11 27) HT_ ?_
  refine pr_ 5 23 (bz 11 59) HT_ ?_
  refine pr_ 6 24 (bz 11 123) HT_ ?_
  refine aFi (σ:=Value) 2 (bz 11 511) (fun s_=>[(20, .string j4),(25,s_),(26, .string (strOfNums j6))]) (fun s_ w'=>(Kd.R (Kd.int .u8) 5 w' w.heap.size (fun _=>True) s_ j6)∧(Below w.heap.size w w')) ?_ ?_
  rotate_left
  ·intro hCont
   refine aGt (i:=2) (j:=7) (Ni:=some 20) (Nj:=some 25) (bz 11 127) (bz 11 251) rfl rfl rfl rfl (ES HT_.out (by kernel_rfl)) (by decide) (by decide) (fun K hK=>?_) (fun K hK=>?_)
   ·skip
    refine iQ Tryz.func24 (by kernel_rfl) rfl #[.int .i64 (wrap64 (Int.tdiv a0 10))] (by rfl) rfl rfl mV ?_
    with_reducible refine (ih k (by omega) (wrap64 (Int.tdiv a0 10)) j4 _ jf.out).mono ?_
    rintro e jp ⟨rfl,hb⟩
    refine ⟨_,rfl,?_⟩
    replace HB:=am (aA dQ hb)
    (try clear hb)
    (try clear hb2)
    (try clear hk)
    (try clear hi)
    refine hK.out _ _ trivial (fun hHeld=>?_)
    clear hK K
    refine fD (a':=?_) ?_ ?_
    rotate_left
    ·exact ap_ (N:=20)
    refine iE (i:=7) (N:=some 25) (bz 11 255) rfl rfl (eY HT_.out (by kernel_rfl)) (by decide) (fun K hK=>?_)
    refine Kd.mR (Kd.int .u8) _ 5 rfl (N:=25) rfl (xs:=([(wrap64 (48 + (Int.tmod a0 10))) % 256]:List Int)) (inner:=[.int .u8 ((wrap64 (48 + (Int.tmod a0 10))) % 256)]) (ok:=fun _=>True) (okp:=fun _=>True) rn_ ?hp (fun _ hk=>hk) trivial (Below.refl _ _) (Nat.le_refl _) (by simp) ?_;(case hp=>exact (dG.one (show Kd.M (Kd.int .u8) _ _ _ ((wrap64 (48 + (Int.tmod a0 10))) % 256) [.int .u8 ((wrap64 (48 + (Int.tmod a0 10))) % 256)] from rfl) (dG.none _ _)))
    intro j7 js ho16 hb hg_ hnew_
    clear hg_ hnew_
    (first|rw [← j5.out] at ho16|(simp only [Int.reduceToNat] at ho16;rw [← j5.out] at ho16))
    have j3:=am (Kd.eD ho16 (aH dQ))
    replace HB:=am (aA dQ hb)
    clear hb ho16
    refine hK.out _ _ trivial (fun hHeld=>?_)
    clear hK K
    refine fD (a':=?_) ?_ ?_
    rotate_left
    ·exact ap_ (N:=25)
    refine iE (i:=8) (N:=some 26) (bz 11 511) rfl rfl (eY HT_.out (by kernel_rfl)) (by decide) (fun K hK=>?_)
    have hcv17:=uM (P:=Tryz.prog) Tryz.underlying22 Tryz.underlying5 Tryz.underlying9 (Kd.xO j3.out)
    refine sJ (w1:=?_) (v:=?_) (by rfl) rfl ?_ ?_
    rotate_left 2
    ·go_simp
     constructor
     ·rfl
     ·rfl
    clear hcv17
    refine hK.out _ _ trivial (fun hHeld=>?_)
    clear hK K
    refine fD (a':=?_) ?_ ?_
    rotate_left
    ·exact ap_ (N:=26)
    exact fD (by simp only [vL,Act.put,List.setIfInBounds_toArray,List.set_cons_zero,List.set_cons_succ]) (hCont (j7) _ ⟨(aR_ j3.out),dQ⟩)
   ·skip
    refine Kd.mR (Kd.int .u8) _ 5 rfl (N:=25) rfl (xs:=([(wrap64 (48 + (Int.tmod a0 10))) % 256]:List Int)) (inner:=[.int .u8 ((wrap64 (48 + (Int.tmod a0 10))) % 256)]) (ok:=fun _=>True) (okp:=fun _=>True) rn_ ?hp (fun _ hk=>hk) trivial (Below.refl _ _) (Nat.le_refl _) (by simp) ?_;(case hp=>exact (dG.one (show Kd.M (Kd.int .u8) _ _ _ ((wrap64 (48 + (Int.tmod a0 10))) % 256) [.int .u8 ((wrap64 (48 + (Int.tmod a0 10))) % 256)] from rfl) (dG.none _ _)))
    intro j7 jp ho15 hb hg_ hnew_
    clear hg_ hnew_
    (first|rw [← j5.out] at ho15|(simp only [Int.reduceToNat] at ho15;rw [← j5.out] at ho15))
    have j3:=am (Kd.eD ho15 (aH dQ))
    replace HB:=am (aA dQ hb)
    clear hb ho15
    refine hK.out _ _ trivial (fun hHeld=>?_)
    clear hK K
    refine fD (a':=?_) ?_ ?_
    rotate_left
    ·exact ap_ (N:=25)
    refine aGt (i:=2) (j:=8) (Ni:=some 20) (Nj:=some 26) (bz 11 255) (bz 11 507) rfl rfl rfl rfl (ES HT_.out (by kernel_rfl)) (by decide) (by decide) (fun K hK=>?_) (fun K hK=>?_)
    ·skip
     refine iQ Tryz.func24 (by kernel_rfl) rfl #[.int .i64 (wrap64 (Int.tdiv a0 10))] (by rfl) rfl rfl mV ?_
     with_reducible refine (ih k (by omega) (wrap64 (Int.tdiv a0 10)) j4 _ jf.out).mono ?_
     rintro e jt ⟨rfl,hb⟩
     refine ⟨_,rfl,?_⟩
     replace j3:=am (Kd.fG (aR_ j3.out) hb)
     replace HB:=am (aA dQ hb)
     (try clear hb)
     (try clear hb2)
     (try clear hk)
     (try clear hi)
     refine hK.out _ _ trivial (fun hHeld=>?_)
     clear hK K
     refine fD (a':=?_) ?_ ?_
     rotate_left
     ·exact ap_ (N:=20)
     refine iE (i:=8) (N:=some 26) (bz 11 511) rfl rfl (eY HT_.out (by kernel_rfl)) (by decide) (fun K hK=>?_)
     have hcv17:=uM (P:=Tryz.prog) Tryz.underlying22 Tryz.underlying5 Tryz.underlying9 (Kd.xO j3.out)
     refine sJ (w1:=?_) (v:=?_) (by rfl) rfl ?_ ?_
     rotate_left 2
     ·go_simp
      constructor
      ·rfl
      ·rfl
     clear hcv17
     refine hK.out _ _ trivial (fun hHeld=>?_)
     clear hK K
     refine fD (a':=?_) ?_ ?_
     rotate_left
     ·exact ap_ (N:=26)
     exact fD (by simp only [vL,Act.put,List.setIfInBounds_toArray,List.set_cons_zero,List.set_cons_succ]) (hCont (j7) _ ⟨(aR_ j3.out),dQ⟩)
    ·skip
     have hcv16:=uM (P:=Tryz.prog) Tryz.underlying22 Tryz.underlying5 Tryz.underlying9 (Kd.xO j3.out)
     refine sJ (w1:=?_) (v:=?_) (by rfl) rfl ?_ ?_
     rotate_left 2
     ·go_simp
      constructor
      ·rfl
      ·rfl
     clear hcv16
     refine hK.out _ _ trivial (fun hHeld=>?_)
     clear hK K
     refine fD (a':=?_) ?_ ?_
     rotate_left
     ·exact ap_ (N:=26)
     refine iE (i:=2) (N:=some 20) (bz 11 511) rfl rfl (eY HT_.out (by kernel_rfl)) (by decide) (fun K hK=>?_)
     refine iQ Tryz.func24 (by kernel_rfl) rfl #[.int .i64 (wrap64 (Int.tdiv a0 10))] (by rfl) rfl rfl mV ?_
     with_reducible refine (ih k (by omega) (wrap64 (Int.tdiv a0 10)) j4 _ jf.out).mono ?_
     rintro e ju ⟨rfl,hb⟩
     refine ⟨_,rfl,?_⟩
     replace j3:=am (Kd.fG (aR_ j3.out) hb)
     replace HB:=am (aA dQ hb)
     (try clear hb)
     (try clear hb2)
     (try clear hk)
     (try clear hi)
     refine hK.out _ _ trivial (fun hHeld=>?_)
     clear hK K
     refine fD (a':=?_) ?_ ?_
     rotate_left
     ·exact ap_ (N:=20)
     exact fD (by simp only [vL,Act.put,List.setIfInBounds_toArray,List.set_cons_zero,List.set_cons_succ]) (hCont (j7) _ ⟨(aR_ j3.out),dQ⟩)
  rintro j7 jk ⟨h0_,h1_⟩
  have j3:Aside0 (Kd.R (Kd.int .u8) 5 jk w.heap.size (fun _=>True) j7 j6):=⟨h0_⟩
  replace HB:Aside0 (Below w.heap.size w jk):=⟨h1_⟩
  clear h0_ h1_
  have hHeld:=trivial
  refine fD (a':=?_) ?_ ?_
  rotate_left
  ·simp only [vL,Act.put,List.setIfInBounds_toArray,List.set_cons_zero,List.set_cons_succ]
   rfl
  refine pr_ 9 27 (bz 11 1023) HT_ ?_
  refine pr_ 10 2 (bz 11 2047) HT_ ?_
  refine nG (lH HT_.out (by kernel_rfl)) ?_
  try go_wp2
  go_ret
  exact ⟨rr_,dQ⟩
 rw [if_neg j9] at H
 exact absurd H (by simp)
theorem mM.calls (a0:Int) (r:ByteArray) (w:World) (h:mM.f a0=some r):
  Calls Tryz.prog 73 #[.int .i64 a0] w fun e w'=>e= .returned (.string r)∧Below w.heap.size w w':=by
 have HB:=am (Below.refl w.heap.size w)
 have H:(some (strOfNums (([(wrap64 (97 + a0)) % 256]:List Int))))=some r:=h
 clear h
 obtain ⟨j5,hy_⟩:∃ y_:List Int,y_=(([(wrap64 (97 + a0)) % 256]:List Int)):=⟨_,rfl⟩
 replace H:(some (strOfNums j5))=some r:=rx_
 have j3:=am hy_
 clear hy_
 obtain rfl:=Option.some.inj H
 go_enter Tryz.func73,Tryz.ntmps73
 go_wp2_with (first|((with_reducible refine bY (N:=6) rfl ?_);refine Kd.oQ (Kd.int .u8) _ 5 rfl (N:=6) rfl (xs:=([(wrap64 (97 + a0)) % 256]:List Int)) (inner:=[.int .u8 ((wrap64 (97 + a0)) % 256)]) (ok:=fun _=>True) (okp:=fun _=>True) rn_ ?hp (fun _ hk=>hk) trivial (Below.refl _ _) (Nat.le_refl _) (by simp) ?_;(case hp=>exact (dG.one (show Kd.M (Kd.int .u8) _ _ _ ((wrap64 (97 + a0)) % 256) [.int .u8 ((wrap64 (97 + a0)) % 256)] from rfl) (dG.none _ _)));intro j6 w2 ho3 hb hg_ hnew_;clear hg_ hnew_;(first|rw [← j3.out] at ho3|(simp only [Int.reduceToNat] at ho3;rw [← j3.out] at ho3));have j4:=am (Kd.eD ho3 (aH dQ));replace HB:=am (aA dQ hb);clear hb ho3;have hcv4:=uM (P:=Tryz.prog) Tryz.underlying22 Tryz.underlying5 Tryz.underlying9 (Kd.xO j4.out)))
 go_ret
 exact ⟨rr_,dQ⟩
theorem lV.calls (a0:Int) (r:Int) (w:World) (h:lV.f a0=some r):
  Calls Tryz.prog 94 #[.int .i64 a0] w fun e w'=>e= .returned (.int .i64 r)∧Below w.heap.size w w':=by
 have HB:=am (Below.refl w.heap.size w)
 unfold lV.f at h
 have H:=h
 clear h
 obtain ⟨j9,A2,H⟩:=bsa H
 (try dsimp only at H)
 by_cases c3:j9=true
 ·subst c3
  rw [if_pos rfl] at H
  obtain ⟨j3,hy_⟩:∃ y_:List Int,y_=(([1,2,3,4,5,6,6,7,7,8,8,8]:List Int)):=⟨_,rfl⟩
  replace H:(if 0≤(wrap64 (a0 - 1)) then (if (wrap64 (a0 - 1)) < (j3.length:Int) then (some (rd j3 (wrap64 (a0 - 1)))) else (none)) else (none))=some r:=rx_
  have j4:=am hy_
  clear hy_
  obtain ⟨ji4,hji4⟩:∃ j_:Int,(wrap64 (a0 - 1))=j_:=⟨_,rfl⟩
  replace H:(if 0≤(ji4) then (if (ji4) < (j3.length:Int) then (some (rd j3 (ji4))) else (none)) else (none))=some r:=by first|(rw [hji4] at H;exact H)|(simp only [hji4] at H ⊢;exact H)
  (try rw [hji4] at A2)
  have hji4w:(IntKind.i64.wrap (a0 - 1))=ji4:=(fI _).trans hji4
  by_cases c5:0≤(ji4)
  ·rw [if_pos c5] at H
   have ja:decide (0≤(ji4))=true:=decide_eq_true c5
   clear c5
   by_cases c6:(ji4) < (j3.length:Int)
   ·rw [if_pos c6] at H
    have jb:decide ((ji4) < (j3.length:Int))=true:=decide_eq_true c6
    clear c6
    obtain rfl:=Option.some.inj H
    go_enter Tryz.func94,Tryz.ntmps94
    go_wp2_with (first|((with_reducible refine aD (f:=122) rfl ?_);refine gl_ 4 Tryz.func122 #[.int .i64 a0] ?_;(with_reducible refine (iB.calls a0 true _ A2.out).mono ?_);rintro e w' ⟨rfl,⟨nd,rfl⟩⟩;refine ⟨_,rfl,?_⟩)|((with_reducible refine bY (N:=6) rfl ?_);refine Kd.oQ (Kd.int .i64) _ 3 rfl (N:=6) rfl (xs:=([1,2,3,4,5,6,6,7,7,8,8,8]:List Int)) (inner:=[.int .i64 1, .int .i64 2, .int .i64 3, .int .i64 4, .int .i64 5, .int .i64 6, .int .i64 6, .int .i64 7, .int .i64 7, .int .i64 8, .int .i64 8, .int .i64 8]) (ok:=fun _=>True) (okp:=fun _=>True) rn_ ?hp (fun _ hk=>hk) trivial (Below.refl _ _) (Nat.le_refl _) (by simp) ?_;(case hp=>exact (dG.one (show Kd.M (Kd.int .i64) _ _ _ 1 [.int .i64 1] from rfl) (dG.one (show Kd.M (Kd.int .i64) _ _ _ 2 [.int .i64 2] from rfl) (dG.one (show Kd.M (Kd.int .i64) _ _ _ 3 [.int .i64 3] from rfl) (dG.one (show Kd.M (Kd.int .i64) _ _ _ 4 [.int .i64 4] from rfl) (dG.one (show Kd.M (Kd.int .i64) _ _ _ 5 [.int .i64 5] from rfl) (dG.one (show Kd.M (Kd.int .i64) _ _ _ 6 [.int .i64 6] from rfl) (dG.one (show Kd.M (Kd.int .i64) _ _ _ 6 [.int .i64 6] from rfl) (dG.one (show Kd.M (Kd.int .i64) _ _ _ 7 [.int .i64 7] from rfl) (dG.one (show Kd.M (Kd.int .i64) _ _ _ 7 [.int .i64 7] from rfl) (dG.one (show Kd.M (Kd.int .i64) _ _ _ 8 [.int .i64 8] from rfl) (dG.one (show Kd.M (Kd.int .i64) _ _ _ 8 [.int .i64 8] from rfl) (dG.one (show Kd.M (Kd.int .i64) _ _ _ 8 [.int .i64 8] from rfl) (dG.none _ _))))))))))))));intro jf w7 ho8 hb hg_ hnew_;clear hg_ hnew_;(first|rw [← j4.out] at ho8|(simp only [Int.reduceToNat] at ho8;rw [← j4.out] at ho8));have j5:=am (Kd.eD ho8 (aH dQ));replace HB:=am (aA dQ hb);clear hb ho8;obtain ⟨jg,jh,jc⟩:=Kd.eB j5.out;subst jc;have j6:0≤((ji4):Int):=of_decide_eq_true fA;have j7:(ji4) < (j3.length:Int):=of_decide_eq_true fA;obtain ⟨jd,je,j8⟩:=Kd.oG (Kd.bT j5.out).2.2 (ji4) j6 j7;cases je;replace j6:=eq_true j6;replace j7:=eq_true j7))
    go_ret
    exact ⟨by first|rfl|(simp [lD,lF] <;> rfl)|(simp only [← hji4];first|rfl|(simp [lD,lF] <;> rfl))|(simp [*,lD,lF] <;> rfl),dQ⟩
   rw [if_neg c6] at H
   exact absurd H (by simp)
  rw [if_neg c5] at H
  exact absurd H (by simp)
 replace c3:=Bool.eq_false_iff.mpr c3
 subst c3
 rw [if_neg (show ¬ (false=true) by decide)] at H
 obtain rfl:=Option.some.inj H
 go_enter Tryz.func94,Tryz.ntmps94
 go_wp2_with (first|((with_reducible refine aD (f:=122) rfl ?_);refine gl_ 4 Tryz.func122 #[.int .i64 a0] ?_;(with_reducible refine (iB.calls a0 false _ A2.out).mono ?_);rintro e w' ⟨rfl,⟨nd,rfl⟩⟩;refine ⟨_,rfl,?_⟩))
 go_ret
 exact ⟨rr_,dQ⟩
theorem mO.calls (P0_:Nat→Prop) (j5:Value) (l0:List ByteArray) (a1:Bool) (r:List ByteArray) (w0 w:World) (hB:Below w0.heap.size w0 w) (ho0:Kd.R Kd.string 9 w w0.heap.size P0_ j5 l0) (h:mO.f l0 a1=some r):
  Calls Tryz.prog 95 #[j5, .bool a1] w fun e w'=>∃ v0_:Value,e= .returned (v0_)∧Kd.R Kd.string 9 w' w0.heap.size (fun k_=>(P0_ k_∨w.heap.size≤k_)) v0_ r∧Below w0.heap.size w0 w'∧Kept w w' (fun k_=>P0_ k_):=by
 have j3:=am (show Kd.R Kd.string 9 w w0.heap.size (fun k_=>(P0_ k_∨w.heap.size≤k_)) j5 l0 from Kd.bS ho0 (fun k_ hk=>(.inl hk)))
 have HK:=am (Kept.refl w (fun k_=>P0_ k_))
 have HW0:=am hB.size
 have HB:=am hB
 clear hB
 unfold mO.f at h
 have H:=h
 clear h
 by_cases c3:a1=true
 ·subst c3
  rw [if_pos rfl] at H
  obtain ⟨j8,hy_⟩:∃ y_:List ByteArray,y_=(([(⟨#[40]⟩:ByteArray)]:List ByteArray)):=⟨_,rfl⟩
  replace H:(if j8.length + l0.length < 8796093022208 then ((some (j8 ++ l0:List ByteArray)).bind fun j4=>(if j4.length < 8796093022208 then (some (j4 ++ [(⟨#[41]⟩:ByteArray)])) else (none))) else (none))=some r:=rx_
  have j9:=am hy_
  clear hy_
  by_cases c4:j8.length + l0.length < 8796093022208
  ·rw [if_pos c4] at H
   have ja:=am c4
   clear c4
   obtain ⟨j4,hy_⟩:∃ y_:List ByteArray,y_=(j8 ++ l0):=⟨_,rfl⟩
   replace H:(if j4.length < 8796093022208 then (some (j4 ++ [(⟨#[41]⟩:ByteArray)])) else (none))=some r:=rx_
   have jb:=am hy_
   clear hy_
   by_cases c5:j4.length < 8796093022208
   ·rw [if_pos c5] at H
    have jc:=am c5
    clear c5
    obtain ⟨jh,hy_⟩:∃ y_:List ByteArray,y_=(j4 ++ [(⟨#[41]⟩:ByteArray)]):=⟨_,rfl⟩
    replace H:(some jh)=some r:=rx_
    have jd:=am hy_
    clear hy_
    obtain rfl:=Option.some.inj H
    go_enter Tryz.func95,Tryz.ntmps95
    go_wp2_with (first|((with_reducible refine bY (N:=9) rfl ?_);refine Kd.oQ Kd.string _ 9 rfl (N:=9) rfl (xs:=([(⟨#[40]⟩:ByteArray)]:List ByteArray)) (inner:=[.string (⟨#[40]⟩:ByteArray)]) (ok:=fun _=>True) (okp:=fun _=>True) rn_ ?hp (fun _ hk=>hk) trivial (Below.refl _ _) (Nat.le_refl _) (by simp) ?_;(case hp=>exact (dG.one (show Kd.M Kd.string _ _ _ (⟨#[40]⟩:ByteArray) [.string (⟨#[40]⟩:ByteArray)] from rfl) (dG.none _ _)));intro ji w6 ho7 hb hg_ hnew_;clear hg_ hnew_;(first|rw [← j9.out] at ho7|(simp only [Int.reduceToNat] at ho7;rw [← j9.out] at ho7));have j6:=am (Kd.eD (Kd.lW (Kd.vI (M:=fun k_=>(P0_ k_∨w.heap.size≤k_)) ho7 (by first|exact HK.out.1|exact (show Kept w _ (fun k_=>P0_ k_) from nE).1) (fun k_ h_=> .inr h_)) (Kd.iN (aR_ j3.out))) (aH dQ));replace j3:=am (Kd.iJ (aR_ j3.out) (Kd.gP ho7) hb);replace HK:=am (Kept.below (S:=(fun k_=>P0_ k_)) nE hb);replace HB:=am (aA dQ hb);clear hb ho7;obtain ⟨jf,jg,jj⟩:=Kd.eB j3.out;subst jj)|((with_reducible refine dR (b:= .append) (xs:=#[.tmp 9, .tmp 10]) rfl ?_);at_builtin;refine Kd.iG Kd.string (w0:=w0) w0.heap.size rfl (.tmp 9) (.tmp 10) 29 9 (.string ⟨#[]⟩) 16 rfl Tryz.underlying29 kI rfl (by decide) (by omega) ji j8 l0 _ _ _ (fun k_=>(P0_ k_∨w.heap.size≤k_)∧some k_≠(.slice jf l0.length jg:Value).ownBlock) (fun _=>False) rfl rfl ?aO ?aR (fun _ _ h=>h) (fun _ h=>h.elim) ?aF ?aB ?aS ?aL ?_;(case aR=>repeat (first|exact (Kd.bT j3.out).2.2|(with_reducible refine Kd.lS ?_ _)|(with_reducible refine Kd.kW ?_ _)|(with_reducible refine Kd.mP ?_)));(case aB=>exact dQ);(case aF=>exact (fun k_ hk=>⟨(.inr (Nat.le_trans (by first|exact HK.out.1|exact (show Kept w _ (fun k_=>P0_ k_) from nE).1) hk)),Kd.fresh' (Kd.iN (aR_ j3.out)) k_ hk⟩));(case aO=>exact (gF (Kd.bS j6.out (fun _ hk=>⟨hk.1.1,hk.2⟩))));(case aS=>exact (aH dQ));(case aL=>have:=ja.out;omega);intro jk w8 ho hb hg hat;rw [← jb.out] at ho;replace j3:=am (Kd.iM (ok:=(fun k_=>(P0_ k_∨w.heap.size≤k_))) (aR_ j3.out) hg hat);replace HB:=am (hb);replace HK:=am (Kept.fU (S:=(fun k_=>P0_ k_)) hg nE (fun k_ e_=>(j6.out.1 k_ e_).1.1));have j7:=am (ho);clear j6 ho hb hg hat)|((with_reducible refine dR (b:= .append) (xs:=#[.tmp 12, .tmp 13]) rfl ?_);at_builtin;refine Kd.kF Kd.string (w0:=w0) w0.heap.size rfl (.tmp 12) (.tmp 13) 29 9 (.string ⟨#[]⟩) 16 rfl Tryz.underlying29 kI rfl (by decide) (by omega) jk j4 (⟨#[41]⟩:ByteArray) [.string (⟨#[41]⟩:ByteArray)] (fun k_=>(P0_ k_∨w.heap.size≤k_)∧some k_≠(.slice jf l0.length jg:Value).ownBlock) (fun _=>False) rfl rfl ?aP (fun _ hk=>hk.elim) ?aF ?aO ?aB ?aS ?aL ?_;(case aP=>exact rfl);(case aB=>exact dQ);(case aF=>exact (fun k_ hk=>⟨(.inr (Nat.le_trans (by first|exact HK.out.1|exact (show Kept w _ (fun k_=>P0_ k_) from nE).1) hk)),Kd.fresh' (Kd.iN (aR_ j3.out)) k_ hk⟩));(case aO=>exact (aR_ j7.out));(case aS=>exact (aH dQ));(case aL=>have:=jc.out;omega);intro jl jm ho hb hg hat;rw [← jd.out] at ho;replace j3:=am (Kd.iM (ok:=(fun k_=>(P0_ k_∨w.heap.size≤k_))) (aR_ j3.out) hg hat);replace HB:=am (hb);replace HK:=am (Kept.fU (S:=(fun k_=>P0_ k_)) hg nE (fun k_ e_=>(j7.out.1 k_ e_).1));have je:=am (ho);clear j7 ho hb hg hat))
    go_ret
    exact ⟨_,gM,gF (Kd.bS je.out (fun _ hk=>hk.1)),dQ,nE⟩
   rw [if_neg c5] at H
   exact absurd H (by simp)
  rw [if_neg c4] at H
  exact absurd H (by simp)
 replace c3:=Bool.eq_false_iff.mpr c3
 subst c3
 rw [if_neg (show ¬ (false=true) by decide)] at H
 obtain rfl:=Option.some.inj H
 go_enter Tryz.func95,Tryz.ntmps95
 go_wp2
 go_ret
 exact ⟨_,gM,gF j3.out,dQ,nE⟩
theorem mI.calls (j4:Int) (j5:Int) (j6:Option Addr) (j7:Nat) (j3:List (S56)) (r:Int) (w:World) (hr0_2:Kd.C k56 w j6 j3.length j3) (hc0_2:j3.length≤j7) (h:mI.f j4 j5 j3=some r):
  Calls Tryz.prog 96 #[.agg #[.int .i64 j4, .int .i64 j5, .slice j6 j3.length j7]] w fun e w'=>e= .returned (.int .i64 r)∧Below w.heap.size w w':=by
 have hu56:=Tryz.underlying56
 have jj:=am hr0_2
 have jk:=am hc0_2
 clear hr0_2 hc0_2
 have HB:=am (Below.refl w.heap.size w)
 have H:(if (j3.length:Int)=0 then (some 9) else ((lV.f j4).bind fun ja=>(some ja)))=some r:=h
 clear h
 have HH_:=am H
 clear H
 go_enter Tryz.func96,Tryz.ntmps96
 go_upto_region 1 with (first|((with_reducible refine bY (N:=1) rfl ?_);refine eH rfl (N:=1) rfl (cs:=#[.int .i64 j4, .int .i64 j5, .slice j6 j3.length j7]) (t:=56) rn_ ?_;intro j9 hg w3 hbox hb;have j8:=am (hbox);have jl:=am ((by rw [hg];exact (aH dQ):w.heap.size≤j9));have GE21:=am ((by rw [hg];exact (aH dQ):w.heap.size≤j9));replace HB:=am (aA dQ hb);clear hb hbox hg;obtain ⟨jb,jc,jd,je,jf,jg⟩:=lX j8.out))
 have H:=HH_.out
 clear HH_
 by_cases c2:(j3.length:Int)=0
 ·rw [if_pos c2] at H
  have jh:((j3.length:Int) == 0)=true:=beq_iff_eq.mpr c2
  have ji:((j3.length:Int) != 0)=false:=bne_eq_false_iff_eq.mpr c2
  clear c2
  obtain rfl:=Option.some.inj H
  go_wp2
  go_ret
  exact ⟨rr_,uY⟩
 rw [if_neg c2] at H
 have jh:((j3.length:Int) == 0)=false:=beq_eq_false_iff_ne.mpr c2
 have ji:((j3.length:Int) != 0)=true:=bne_iff_ne.mpr c2
 have jm:¬ (j3=[]):=fun h_=>c2 (by rw [h_];rfl)
 obtain ⟨ja,A5,H⟩:=bsa H
 (try dsimp only at H)
 obtain rfl:=Option.some.inj H
 go_wp2_with (first|((with_reducible refine aD (f:=94) rfl ?_);refine gl_ 9 Tryz.func94 #[.int .i64 j4] ?_;(with_reducible refine (lV.calls j4 ja _ A5.out).mono ?_);rintro e w8 ⟨rfl,hb⟩;refine ⟨_,rfl,?_⟩;replace j8:=bbP j8 hb;replace HB:=am (aA uY hb);(try clear hb)))
 go_ret
 exact ⟨rr_,uY⟩
theorem pY.calls (a0:Int) (r:ByteArray) (w:World) (h:pY.f a0=some r):
  Calls Tryz.prog 97 #[.int .i64 a0] w fun e w'=>e= .returned (.string r)∧Below w.heap.size w w':=by
 have HB:=am (Below.refl w.heap.size w)
 unfold pY.f at h
 have H:=h
 clear h
 obtain ⟨j9,A2,H⟩:=bsa H
 (try dsimp only at H)
 by_cases c3:j9=true
 ·subst c3
  rw [if_pos rfl] at H
  obtain ⟨j3,hy_⟩:∃ y_:List ByteArray,y_=(([(⟨#[124]⟩:ByteArray),(⟨#[94]⟩:ByteArray),(⟨#[38]⟩:ByteArray),(⟨#[61,61]⟩:ByteArray),(⟨#[60]⟩:ByteArray),(⟨#[60,60]⟩:ByteArray),(⟨#[62,62]⟩:ByteArray),(⟨#[43]⟩:ByteArray),(⟨#[45]⟩:ByteArray),(⟨#[42]⟩:ByteArray),(⟨#[47]⟩:ByteArray),(⟨#[37]⟩:ByteArray)]:List ByteArray)):=⟨_,rfl⟩
  replace H:(if 0≤(wrap64 (a0 - 1)) then (if (wrap64 (a0 - 1)) < (j3.length:Int) then (some (nL ByteArray.empty j3 (wrap64 (a0 - 1)))) else (none)) else (none))=some r:=rx_
  have j4:=am hy_
  clear hy_
  obtain ⟨ji4,hji4⟩:∃ j_:Int,(wrap64 (a0 - 1))=j_:=⟨_,rfl⟩
  replace H:(if 0≤(ji4) then (if (ji4) < (j3.length:Int) then (some (nL ByteArray.empty j3 (ji4))) else (none)) else (none))=some r:=by first|(rw [hji4] at H;exact H)|(simp only [hji4] at H ⊢;exact H)
  (try rw [hji4] at A2)
  have hji4w:(IntKind.i64.wrap (a0 - 1))=ji4:=(fI _).trans hji4
  by_cases c5:0≤(ji4)
  ·rw [if_pos c5] at H
   have ja:decide (0≤(ji4))=true:=decide_eq_true c5
   clear c5
   by_cases c6:(ji4) < (j3.length:Int)
   ·rw [if_pos c6] at H
    have jb:decide ((ji4) < (j3.length:Int))=true:=decide_eq_true c6
    clear c6
    obtain rfl:=Option.some.inj H
    go_enter Tryz.func97,Tryz.ntmps97
    go_wp2_with (first|((with_reducible refine aD (f:=122) rfl ?_);refine gl_ 4 Tryz.func122 #[.int .i64 a0] ?_;(with_reducible refine (iB.calls a0 true _ A2.out).mono ?_);rintro e w' ⟨rfl,⟨nd,rfl⟩⟩;refine ⟨_,rfl,?_⟩)|((with_reducible refine bY (N:=6) rfl ?_);refine Kd.oQ Kd.string _ 9 rfl (N:=6) rfl (xs:=([(⟨#[124]⟩:ByteArray),(⟨#[94]⟩:ByteArray),(⟨#[38]⟩:ByteArray),(⟨#[61,61]⟩:ByteArray),(⟨#[60]⟩:ByteArray),(⟨#[60,60]⟩:ByteArray),(⟨#[62,62]⟩:ByteArray),(⟨#[43]⟩:ByteArray),(⟨#[45]⟩:ByteArray),(⟨#[42]⟩:ByteArray),(⟨#[47]⟩:ByteArray),(⟨#[37]⟩:ByteArray)]:List ByteArray)) (inner:=[.string (⟨#[124]⟩:ByteArray), .string (⟨#[94]⟩:ByteArray), .string (⟨#[38]⟩:ByteArray), .string (⟨#[61,61]⟩:ByteArray), .string (⟨#[60]⟩:ByteArray), .string (⟨#[60,60]⟩:ByteArray), .string (⟨#[62,62]⟩:ByteArray), .string (⟨#[43]⟩:ByteArray), .string (⟨#[45]⟩:ByteArray), .string (⟨#[42]⟩:ByteArray), .string (⟨#[47]⟩:ByteArray), .string (⟨#[37]⟩:ByteArray)]) (ok:=fun _=>True) (okp:=fun _=>True) rn_ ?hp (fun _ hk=>hk) trivial (Below.refl _ _) (Nat.le_refl _) (by simp) ?_;(case hp=>exact (dG.one (show Kd.M Kd.string _ _ _ (⟨#[124]⟩:ByteArray) [.string (⟨#[124]⟩:ByteArray)] from rfl) (dG.one (show Kd.M Kd.string _ _ _ (⟨#[94]⟩:ByteArray) [.string (⟨#[94]⟩:ByteArray)] from rfl) (dG.one (show Kd.M Kd.string _ _ _ (⟨#[38]⟩:ByteArray) [.string (⟨#[38]⟩:ByteArray)] from rfl) (dG.one (show Kd.M Kd.string _ _ _ (⟨#[61,61]⟩:ByteArray) [.string (⟨#[61,61]⟩:ByteArray)] from rfl) (dG.one (show Kd.M Kd.string _ _ _ (⟨#[60]⟩:ByteArray) [.string (⟨#[60]⟩:ByteArray)] from rfl) (dG.one (show Kd.M Kd.string _ _ _ (⟨#[60,60]⟩:ByteArray) [.string (⟨#[60,60]⟩:ByteArray)] from rfl) (dG.one (show Kd.M Kd.string _ _ _ (⟨#[62,62]⟩:ByteArray) [.string (⟨#[62,62]⟩:ByteArray)] from rfl) (dG.one (show Kd.M Kd.string _ _ _ (⟨#[43]⟩:ByteArray) [.string (⟨#[43]⟩:ByteArray)] from rfl) (dG.one (show Kd.M Kd.string _ _ _ (⟨#[45]⟩:ByteArray) [.string (⟨#[45]⟩:ByteArray)] from rfl) (dG.one (show Kd.M Kd.string _ _ _ (⟨#[42]⟩:ByteArray) [.string (⟨#[42]⟩:ByteArray)] from rfl) (dG.one (show Kd.M Kd.string _ _ _ (⟨#[47]⟩:ByteArray) [.string (⟨#[47]⟩:ByteArray)] from rfl) (dG.one (show Kd.M Kd.string _ _ _ (⟨#[37]⟩:ByteArray) [.string (⟨#[37]⟩:ByteArray)] from rfl) (dG.none _ _))))))))))))));intro jf w7 ho8 hb hg_ hnew_;clear hg_ hnew_;(first|rw [← j4.out] at ho8|(simp only [Int.reduceToNat] at ho8;rw [← j4.out] at ho8));have j5:=am (Kd.eD ho8 (aH dQ));replace HB:=am (aA dQ hb);clear hb ho8;obtain ⟨jg,jh,jc⟩:=Kd.eB j5.out;subst jc;have j6:0≤((ji4):Int):=of_decide_eq_true fA;have j7:(ji4) < (j3.length:Int):=of_decide_eq_true fA;obtain ⟨jd,je,j8⟩:=Kd.nV (Kd.bT j5.out).2.2 (ji4) j6 j7;cases je;replace j6:=eq_true j6;replace j7:=eq_true j7))
    go_ret
    exact ⟨by first|rfl|(simp [lD,lF] <;> rfl)|(simp only [← hji4];first|rfl|(simp [lD,lF] <;> rfl))|(simp [*,lD,lF] <;> rfl),dQ⟩
   rw [if_neg c6] at H
   exact absurd H (by simp)
  rw [if_neg c5] at H
  exact absurd H (by simp)
 replace c3:=Bool.eq_false_iff.mpr c3
 subst c3
 rw [if_neg (show ¬ (false=true) by decide)] at H
 obtain rfl:=Option.some.inj H
 go_enter Tryz.func97,Tryz.ntmps97
 go_wp2_with (first|((with_reducible refine aD (f:=122) rfl ?_);refine gl_ 4 Tryz.func122 #[.int .i64 a0] ?_;(with_reducible refine (iB.calls a0 false _ A2.out).mono ?_);rintro e w' ⟨rfl,⟨nd,rfl⟩⟩;refine ⟨_,rfl,?_⟩))
 go_ret
 exact ⟨rr_,dQ⟩
theorem bL.mono_l:∀ k,(∀ y0 y1 y2,LeO (bL.f k y0 y1 y2) (bL.f (k + 1) y0 y1 y2))
 |0=>fun _ _ _ r h=>by simp [bL.f] at h
 |k + 1=>by
  have ih0:=bL.mono_l k
  ·intro y0 y1 y2
   unfold bL.f
   have m0:=@dX.mono
   exact mo_
theorem bL.mono:∀ a0 a1 a2 k,LeO (bL.f k a0 a1 a2) (bL.f (k + 1) a0 a1 a2):=by
 intro a0 a1 a2 k
 have ih0:=bL.mono_l k
 exact ih0 a0 a1 a2
def bL.T6:Bool × List (List Nat × List Nat):=(true,[([],[]),([0],[0]),([1],[1]),([2],[2]),([3],[3]),([],[]),([5],[5]),([6],[6]),([7],[7]),([8,4],[8]),([],[]),([9,10],[9,10]),([4,11,9],[4,11]),([12,12,0,1,2,3,4,5,6,7,8,9,10,11,12],[12])])
def bL.B6:List Nat:=[0,1,3,7,15,0,32,96,224,511,0,2047,4095,8191]
theorem bL.OX:lZ .any (opsOf Tryz.f74 6)=bL.T6:=by kernel_rfl
theorem bL.CJ:iR bL.T6.2 bL.B6=true:=by kernel_rfl
def bL.T8:Bool × List (List Nat × List Nat):=(true,[([],[]),([],[]),([1],[1]),([2],[2]),([3],[3]),([4],[4]),([],[]),([6],[6]),([7],[7]),([8],[8]),([9,5],[9]),([],[]),([10,11],[10,11]),([5,12,10],[5,12]),([0,13,13],[0,13]),([14,14,0,1,2,3,4,5,6,7,8,9,10,11,12,13,14],[14])])
def bL.B8:List Nat:=[0,0,2,6,14,30,0,64,192,448,1022,0,4094,8190,16383,32767]
theorem bL.aHu:lZ .any (opsOf Tryz.f74 8)=bL.T8:=by kernel_rfl
theorem bL.aHe:iR bL.T8.2 bL.B8=true:=by kernel_rfl
theorem bL.calls (k:Nat):∀ (j8:Int) (jk:Int) (jA:Option Addr) (jp:Nat) (j3:List (S56)) (r:List ByteArray) (w:World) (hr0_2:Kd.C k56 w jA j3.length j3) (hc0_2:j3.length≤jp) (h:bL.f k j8 jk j3=some r),
  Calls Tryz.prog 74 #[.agg #[.int .i64 j8, .int .i64 jk, .slice jA j3.length jp]] w fun e w'=>∃ v0_:Value,e= .returned (v0_)∧Kd.R Kd.string 9 w' w.heap.size (fun _=>True) v0_ r∧Below w.heap.size w w':=by
 induction k using Nat.strongRecOn with
 | _ k ih=>
 intro j8 jk jA jp j3 r w hr0_2 hc0_2 h
 cases k with
 |zero=>exact absurd h (by simp [bL.f])
 |succ k=>
 simp only [bL.f] at h
 have hu56:=Tryz.underlying56
 have jr:=am hr0_2
 have qI:=am hc0_2
 clear hr0_2 hc0_2
 have HB:=am (Below.refl w.heap.size w)
 have H:=h
 clear h
 have HH_:=am H
 clear H
 go_enter Tryz.func74,Tryz.ntmps74
 go_upto_region 1 with (first|((with_reducible refine bY (N:=1) rfl ?_);refine eH rfl (N:=1) rfl (cs:=#[.int .i64 j8, .int .i64 jk, .slice jA j3.length jp]) (t:=56) rn_ ?_;intro jl hg w4 hbox hb;have j4:=am (hbox);have z1:=am ((by rw [hg];exact (aH dQ):w.heap.size≤jl));have GE69:=am ((by rw [hg];exact (aH dQ):w.heap.size≤jl));replace HB:=am (aA dQ hb);clear hb hbox hg;obtain ⟨qh,qi,qj,qk,ql,qm⟩:=lX j4.out))
 have H:=HH_.out
 clear HH_
 by_cases c2:j8=0
 ·rw [if_pos c2] at H
  have qn:(j8 == 0)=true:=beq_iff_eq.mpr c2
  have qo:(j8 != 0)=false:=bne_eq_false_iff_eq.mpr c2
  clear c2
  obtain ⟨jP,A3,H⟩:=bsa H
  (try dsimp only at H)
  obtain ⟨z2,hy_⟩:∃ y_:List ByteArray,y_=(([jP]:List ByteArray)):=⟨_,rfl⟩
  replace H:(some z2)=some r:=rx_
  have jS:=am hy_
  clear hy_
  obtain rfl:=Option.some.inj H
  go_wp2_with (first|((with_reducible refine aD (f:=24) rfl ?_);refine gl_ 10 Tryz.func24 #[.int .i64 jk] ?_;(with_reducible refine (dX.calls k jk jP _ A3.out).mono ?_);rintro e w6 ⟨rfl,hb⟩;refine ⟨_,rfl,?_⟩;replace j4:=bbP j4 hb;replace HB:=am (aA oF hb);(try clear hb))|((with_reducible refine bY (N:=11) rfl ?_);refine Kd.oQ Kd.string _ 9 rfl (N:=11) rfl (xs:=([jP]:List ByteArray)) (inner:=[.string jP]) (ok:=fun _=>True) (okp:=fun _=>True) rn_ ?hp (fun _ hk=>hk) trivial (Below.refl _ _) (Nat.le_refl _) (by simp) ?_;(case hp=>exact (dG.one (show Kd.M Kd.string _ _ _ jP [.string jP] from rfl) (dG.none _ _)));intro zn w7 ho8 hb hg_ hnew_;clear hg_ hnew_;(first|rw [← jS.out] at ho8|(simp only [Int.reduceToNat] at ho8;rw [← jS.out] at ho8));have qp:=am (Kd.eD ho8 (aH oF));replace j4:=bbP j4 hb;replace HB:=am (aA oF hb);clear hb ho8))
  go_ret
  exact ⟨_,gM,gF qp.out,oF⟩
 rw [if_neg c2] at H
 have qn:(j8 == 0)=false:=beq_eq_false_iff_ne.mpr c2
 have qo:(j8 != 0)=true:=bne_iff_ne.mpr c2
 by_cases c9:j8=13
 ·rw [if_pos c9] at H
  have qq:(j8 == 13)=true:=beq_iff_eq.mpr c9
  have qr:(j8 != 13)=false:=bne_eq_false_iff_eq.mpr c9
  clear c9
  obtain ⟨jQ,qJ,H⟩:=bsm H
  (try dsimp only at H)
  have z3:=am qJ
  clear qJ
  obtain ⟨z4,hy_⟩:∃ y_:List ByteArray,y_=(([jQ]:List ByteArray)):=⟨_,rfl⟩
  replace H:(some z4)=some r:=rx_
  have jT:=am hy_
  clear hy_
  obtain rfl:=Option.some.inj H
  go_wp2_with (first|((with_reducible refine aD (f:=73) rfl ?_);refine gl_ 17 Tryz.func73 #[.int .i64 jk] ?_;(with_reducible refine (mM.calls jk jQ _ z3.out).mono ?_);rintro e zo ⟨rfl,hb⟩;refine ⟨_,rfl,?_⟩;replace j4:=bbP j4 hb;replace HB:=am (aA oF hb);(try clear hb))|((with_reducible refine bY (N:=18) rfl ?_);refine Kd.oQ Kd.string _ 9 rfl (N:=18) rfl (xs:=([jQ]:List ByteArray)) (inner:=[.string jQ]) (ok:=fun _=>True) (okp:=fun _=>True) rn_ ?hp (fun _ hk=>hk) trivial (Below.refl _ _) (Nat.le_refl _) (by simp) ?_;(case hp=>exact (dG.one (show Kd.M Kd.string _ _ _ jQ [.string jQ] from rfl) (dG.none _ _)));intro zp zq ho15 hb hg_ hnew_;clear hg_ hnew_;(first|rw [← jT.out] at ho15|(simp only [Int.reduceToNat] at ho15;rw [← jT.out] at ho15));have qs:=am (Kd.eD ho15 (aH oF));replace j4:=bbP j4 hb;replace HB:=am (aA oF hb);clear hb ho15))
  go_ret
  exact ⟨_,gM,gF qs.out,oF⟩
 rw [if_neg c9] at H
 have qq:(j8 == 13)=false:=beq_eq_false_iff_ne.mpr c9
 have qr:(j8 != 13)=true:=bne_iff_ne.mpr c9
 obtain ⟨jR,qK,H⟩:=bsm H
 (try dsimp only at H)
 have z5:=am qK
 clear qK
 by_cases q5:0 < (j3.length:Int)
 ·rw [if_pos q5] at H
  have qL:decide (0 < (j3.length:Int))=true:=decide_eq_true q5
  have qM:decide (0 < j3.length)=true:=decide_eq_true (by omega)
  clear q5
  obtain ⟨jU,z6,H⟩:=bsa H
  (try dsimp only at H)
  obtain ⟨qt,qN,H⟩:=bsm H
  (try dsimp only at H)
  have z7:=am qN
  clear qN
  obtain ⟨q6,qO,H⟩:=bsm H
  (try dsimp only at H)
  have z8:=am qO
  clear qO
  obtain ⟨q7,qP,H⟩:=bsm H
  (try dsimp only at H)
  have z9:=am qP
  clear qP
  by_cases q8:q6.length < 8796093022208
  ·rw [if_pos q8] at H
   have jV:=am q8
   clear q8
   obtain ⟨jW,hy_⟩:∃ y_:List ByteArray,y_=(q6 ++ [q7]):=⟨_,rfl⟩
   replace H:(if 1 < (j3.length:Int) then ((bL.f k ((bW j3 1).f0) ((bW j3 1).f1) ((bW j3 1).f2)).bind fun jE=>((mI.f ((bW j3 1).f0) ((bW j3 1).f1) ((bW j3 1).f2)).bind fun jX=>((mO.f jE (decide (jX≤jR))).bind fun jD=>(if jW.length + jD.length < 8796093022208 then (some (jW ++ jD)) else (none))))) else (none))=some r:=rx_
   have qu:=am hy_
   clear hy_
   by_cases q9:1 < (j3.length:Int)
   ·rw [if_pos q9] at H
    have qQ:decide (1 < (j3.length:Int))=true:=decide_eq_true q9
    have qR:decide (1 < j3.length)=true:=decide_eq_true (by omega)
    clear q9
    obtain ⟨jE,qS,H⟩:=bsm H
    (try dsimp only at H)
    have za:=am qS
    clear qS
    obtain ⟨jX,qU,H⟩:=bsm H
    (try dsimp only at H)
    have zb:=am qU
    clear qU
    obtain ⟨jD,qV,H⟩:=bsm H
    (try dsimp only at H)
    have zc:=am qV
    clear qV
    by_cases qa:jW.length + jD.length < 8796093022208
    ·rw [if_pos qa] at H
     have jY:=am qa
     clear qa
     obtain ⟨zd,hy_⟩:∃ y_:List ByteArray,y_=(jW ++ jD):=⟨_,rfl⟩
     replace H:(some zd)=some r:=rx_
     have qv:=am hy_
     clear hy_
     obtain rfl:=Option.some.inj H
     try go_wp2_with (first|((with_reducible refine aD (f:=94) rfl ?_);refine gl_ 21 Tryz.func94 #[.int .i64 j8] ?_;(with_reducible refine (lV.calls j8 jR _ z5.out).mono ?_);rintro e ze ⟨rfl,hb⟩;refine ⟨_,rfl,?_⟩;replace j4:=bbP j4 hb;replace HB:=am (aA oF hb);(try clear hb)))
     replace j4:=am (dD j4.out)
     replace HB:=am (bJ HB.out)
     have qw:0≤(0:Int):=(by omega)
     have qx:0 < (j3.length:Int):=of_decide_eq_true fA
     obtain ⟨j5,js,jt,zf,jf,jg,jd,hl88_2,hi88_2⟩:=rY jr.out 0 qw qx
     have hw88_2:=jd
     (try rw [show ((0:Int)).toNat=0 from rfl] at hw88_2)
     (try rw [show 0 * 3=0 from rfl] at hw88_2)
     (try rw [Addr.add_zero'] at hw88_2)
     have hw88_1:=jg
     (try rw [show ((0:Int)).toNat=0 from rfl] at hw88_1)
     (try rw [show 0 * 3=0 from rfl] at hw88_1)
     (try rw [Addr.add_zero'] at hw88_1)
     have hw88_0:=jf
     (try rw [show ((0:Int)).toNat=0 from rfl] at hw88_0)
     (try rw [show 0 * 3=0 from rfl] at hw88_0)
     (try rw [Addr.add_zero'] at hw88_0)
     cases zf
     have zg:(0 < j3.length)=True:=eq_true (by omega)
     (try rw [show ((0:Int)).toNat=0 from rfl] at jf)
     (try rw [show 0 * 3=0 from rfl] at jf)
     (try rw [Addr.add_zero'] at jf)
     (try rw [show ((0:Int)).toNat=0 from rfl] at jg)
     (try rw [show 0 * 3=0 from rfl] at jg)
     (try rw [Addr.add_zero'] at jg)
     (try rw [show ((0:Int)).toNat=0 from rfl] at jd)
     (try rw [show 0 * 3=0 from rfl] at jd)
     (try rw [Addr.add_zero'] at jd)
     replace jf:=(HB.out.cell (World.block_lt_of_cell? w _ jf)).trans jf
     replace jg:=(HB.out.cell (World.block_lt_of_cell? w _ jg)).trans jg
     replace jd:=(HB.out.cell (World.block_lt_of_cell? w _ jd)).trans jd
     have jx:=am hi88_2
     have jF:=am hl88_2
     clear hi88_2 hl88_2
     replace qw:=eq_true qw
     replace qx:=eq_true qx
     have qy:0≤(0:Int):=(by omega)
     have qz:0 < (j3.length:Int):=of_decide_eq_true fA
     obtain ⟨qA,qW,qX,zh,jh,ji,je,hl89_2,hi89_2⟩:=rY jr.out 0 qy qz
     have hw89_2:=je
     (try rw [show ((0:Int)).toNat=0 from rfl] at hw89_2)
     (try rw [show 0 * 3=0 from rfl] at hw89_2)
     (try rw [Addr.add_zero'] at hw89_2)
     have hw89_1:=ji
     (try rw [show ((0:Int)).toNat=0 from rfl] at hw89_1)
     (try rw [show 0 * 3=0 from rfl] at hw89_1)
     (try rw [Addr.add_zero'] at hw89_1)
     have hw89_0:=jh
     (try rw [show ((0:Int)).toNat=0 from rfl] at hw89_0)
     (try rw [show 0 * 3=0 from rfl] at hw89_0)
     (try rw [Addr.add_zero'] at hw89_0)
     obtain rfl:j5=qA:=(by injection zh)
     have zi:(0 < j3.length)=True:=eq_true (by omega)
     (try rw [show ((0:Int)).toNat=0 from rfl] at jh)
     (try rw [show 0 * 3=0 from rfl] at jh)
     (try rw [Addr.add_zero'] at jh)
     (try rw [show ((0:Int)).toNat=0 from rfl] at ji)
     (try rw [show 0 * 3=0 from rfl] at ji)
     (try rw [Addr.add_zero'] at ji)
     (try rw [show ((0:Int)).toNat=0 from rfl] at je)
     (try rw [show 0 * 3=0 from rfl] at je)
     (try rw [Addr.add_zero'] at je)
     replace jh:=(HB.out.cell (World.block_lt_of_cell? w _ jh)).trans jh
     replace ji:=(HB.out.cell (World.block_lt_of_cell? w _ ji)).trans ji
     replace je:=(HB.out.cell (World.block_lt_of_cell? w _ je)).trans je
     have jy:=am hi89_2
     have jG:=am hl89_2
     clear hi89_2 hl89_2
     replace qy:=eq_true qy
     replace qz:=eq_true qz
     have ea_:=Option.some.inj (jd.symm.trans je)
     injection ea_ with ea_ en_ ec_
     subst ea_
     subst ec_
     clear en_
     refine lQ (n:=14) (S:=fun w'=>w'.cell? ⟨jl,0,none⟩=some (.int .i64 j8)∧w'.cell? ⟨jl,1,none⟩=some (.int .i64 jk)∧w'.cell? ⟨jl,2,none⟩=some (.slice (some j5) j3.length jp)∧w'.cell? j5=some (.int .i64 ((bW j3 0).f0))∧w'.cell? ⟨j5.block,j5.off + 1,none⟩=some (.int .i64 ((bW j3 0).f1))∧w'.cell? ⟨j5.block,j5.off + 2,none⟩=some (.slice js ((bW j3 0).f2).length jt)∧w'.cell? j5=some (.int .i64 ((bW j3 0).f0))∧w'.cell? ⟨j5.block,j5.off + 1,none⟩=some (.int .i64 ((bW j3 0).f1))∧w'.cell? ⟨j5.block,j5.off + 2,none⟩=some (.slice js ((bW j3 0).f2).length jt)) (ds:=[]) (bz 14 0) (by kernel_rfl) rfl rfl ⟨(aN j4.out 0).trans rfl,(aN j4.out 1).trans rfl,(aN j4.out 2).trans rfl,((HB.out.cell (World.block_lt_of_cell? w _ hw88_0)).trans hw88_0),((HB.out.cell (World.block_lt_of_cell? w _ hw88_1)).trans hw88_1),((HB.out.cell (World.block_lt_of_cell? w _ hw88_2)).trans hw88_2),((HB.out.cell (World.block_lt_of_cell? w _ hw89_0)).trans hw89_0),((HB.out.cell (World.block_lt_of_cell? w _ hw89_1)).trans hw89_1),((HB.out.cell (World.block_lt_of_cell? w _ hw89_2)).trans hw89_2)⟩ (fun hHeld=>?_);refine iL bL.OX bL.CJ (fun HT_ HW_=>?_)
     generalize ze.drew=zr at j4 HB jx jy jf jg jd jh ji je hHeld ⊢
     refine pr_ 0 22 (bz 14 1) HT_ ?_
     refine pr_ 5 27 (bz 14 33) HT_ ?_
     refine pr_ 10 32 (bz 14 1057) HT_ ?_
     refine SF 1 23 (bz 14 1059) HT_ HW_ hHeld ?_
     refine pr_ 2 24 (bz 14 1063) HT_ ?_
     refine SF 3 25 (bz 14 1071) HT_ HW_ hHeld ?_
     refine SF 6 28 (bz 14 1135) HT_ HW_ hHeld ?_
     refine pr_ 7 29 (bz 14 1263) HT_ ?_
     refine SF 8 30 (bz 14 1519) HT_ HW_ hHeld ?_
     refine iE (i:=4) (N:=some 26) (bz 14 1535) rfl rfl (eY HT_.out (by kernel_rfl)) (by decide) (fun K hK=>?_)
     refine iQ Tryz.func74 (by kernel_rfl) rfl #[.agg #[.int .i64 ((bW j3 0).f0), .int .i64 ((bW j3 0).f1), .slice js ((bW j3 0).f2).length jt]] (by rfl) rfl rfl mV ?_
     with_reducible refine (ih k (by omega) ((bW j3 0).f0) ((bW j3 0).f1) _ _ ((bW j3 0).f2) jU _ (aC_ (Kd.aU jx.out HB.out)) jF.out z6.out).mono ?_
     rintro e zs ⟨zt,rfl,ho0,hb⟩
     refine ⟨_,rfl,?_⟩
     have jw:=am (Kd.eD ho0 (aH oF))
     replace j4:=bbP j4 hb
     replace HB:=am (aA oF hb)
     (try clear hb)
     (try clear hb2)
     (try clear hk)
     (try clear hi)
     (try clear ho0)
     refine hK.out _ _ ⟨(aN j4.out 0).trans rfl,(aN j4.out 1).trans rfl,(aN j4.out 2).trans rfl,((HB.out.cell (World.block_lt_of_cell? w _ hw88_0)).trans hw88_0),((HB.out.cell (World.block_lt_of_cell? w _ hw88_1)).trans hw88_1),((HB.out.cell (World.block_lt_of_cell? w _ hw88_2)).trans hw88_2),((HB.out.cell (World.block_lt_of_cell? w _ hw89_0)).trans hw89_0),((HB.out.cell (World.block_lt_of_cell? w _ hw89_1)).trans hw89_1),((HB.out.cell (World.block_lt_of_cell? w _ hw89_2)).trans hw89_2)⟩ (fun hHeld=>?_)
     clear hK K
     refine fD (a':=?_) ?_ ?_
     rotate_left
     ·exact ap_ (N:=26)
     refine iE (i:=9) (N:=some 31) (bz 14 2047) rfl rfl (eY HT_.out (by kernel_rfl)) (by decide) (fun K hK=>?_)
     refine iQ Tryz.func96 (by kernel_rfl) rfl #[.agg #[.int .i64 ((bW j3 0).f0), .int .i64 ((bW j3 0).f1), .slice js ((bW j3 0).f2).length jt]] (by rfl) rfl rfl mV ?_
     with_reducible refine (mI.calls ((bW j3 0).f0) ((bW j3 0).f1) _ _ ((bW j3 0).f2) qt _ (aC_ (Kd.aU jy.out HB.out)) jG.out z7.out).mono ?_
     rintro e zu ⟨rfl,hb⟩
     refine ⟨_,rfl,?_⟩
     replace jw:=am (Kd.fG (aR_ jw.out) hb)
     replace j4:=bbP j4 hb
     replace HB:=am (aA oF hb)
     (try clear hb)
     (try clear hb2)
     (try clear hk)
     (try clear hi)
     obtain ⟨jH,jI,jZ⟩:=Kd.eB jw.out
     (first|subst jZ|(injection jZ with f1_ f2_ f3_;have f4_:=f1_.symm;have f5_:=f3_.symm;clear f1_ f2_ f3_;subst f4_;subst f5_))
     refine hK.out _ _ ⟨(aN j4.out 0).trans rfl,(aN j4.out 1).trans rfl,(aN j4.out 2).trans rfl,((HB.out.cell (World.block_lt_of_cell? w _ hw88_0)).trans hw88_0),((HB.out.cell (World.block_lt_of_cell? w _ hw88_1)).trans hw88_1),((HB.out.cell (World.block_lt_of_cell? w _ hw88_2)).trans hw88_2),((HB.out.cell (World.block_lt_of_cell? w _ hw89_0)).trans hw89_0),((HB.out.cell (World.block_lt_of_cell? w _ hw89_1)).trans hw89_1),((HB.out.cell (World.block_lt_of_cell? w _ hw89_2)).trans hw89_2)⟩ (fun hHeld=>?_)
     clear hK K
     refine fD (a':=?_) ?_ ?_
     rotate_left
     ·exact ap_ (N:=31)
     refine pr_ 11 33 (bz 14 4095) HT_ ?_
     refine iE (i:=12) (N:=some 34) (bz 14 8191) rfl rfl (eY HT_.out (by kernel_rfl)) (by decide) (fun K hK=>?_)
     refine iQ Tryz.func95 (by kernel_rfl) rfl #[.slice jH jU.length jI, .bool (decide (qt < jR))] (by rfl) rfl rfl mV ?_
     with_reducible refine (mO.calls (fun k_=>some k_=(.slice jH jU.length jI:Value).ownBlock) (.slice jH jU.length jI) jU (decide (qt < jR)) q6 w _ ?side1 ?side2 z8.out).mono ?_
     (case side1=>exact oF)
     (case side2=>exact Kd.lG rfl jw.out)
     rintro e zv ⟨zj,rfl,ho0,hb,hkp⟩
     refine ⟨_,rfl,?_⟩
     replace j4:=am (kJ (aG_ j4.out) hkp (fun hs_=>(fun e_=>(Kd.kS jw.out j4.out (by decide)) e_) hs_))
     have jz:=am (Kd.bS (ok':=fun k_=>True) ho0 (fun k_ hk_=>trivial))
     replace HB:=am (hb)
     clear jw
     (try clear hb)
     (try clear hkp)
     (try clear ho0)
     refine hK.out _ _ ⟨(aN j4.out 0).trans rfl,(aN j4.out 1).trans rfl,(aN j4.out 2).trans rfl,((HB.out.cell (World.block_lt_of_cell? w _ hw88_0)).trans hw88_0),((HB.out.cell (World.block_lt_of_cell? w _ hw88_1)).trans hw88_1),((HB.out.cell (World.block_lt_of_cell? w _ hw88_2)).trans hw88_2),((HB.out.cell (World.block_lt_of_cell? w _ hw89_0)).trans hw89_0),((HB.out.cell (World.block_lt_of_cell? w _ hw89_1)).trans hw89_1),((HB.out.cell (World.block_lt_of_cell? w _ hw89_2)).trans hw89_2)⟩ (fun hHeld=>?_)
     clear hK K
     refine fD (a':=?_) ?_ ?_
     rotate_left
     ·exact ap_ (N:=34)
     refine pr_ 13 4 (bz 14 16383) HT_ ?_
     refine nG (lH HT_.out (by kernel_rfl)) ?_
     obtain ⟨qb,qc,qd,qe,qf,qg⟩:=lX j4.out
     try go_wp2_with (first|((with_reducible refine aD (f:=97) rfl ?_);refine gl_ 38 Tryz.func97 #[.int .i64 j8] ?_;(with_reducible refine (pY.calls j8 q7 _ z9.out).mono ?_);rintro e zw ⟨rfl,hb⟩;refine ⟨_,rfl,?_⟩;replace jz:=am (Kd.fG (aR_ jz.out) hb);replace j4:=bbP j4 hb;replace HB:=am (aA oF hb);(try clear hb))|((with_reducible refine dR (b:= .append) (xs:=#[.tmp 35, .tmp 39]) rfl ?_);at_builtin;refine Kd.kF Kd.string (w0:=w) w.heap.size rfl (.tmp 35) (.tmp 39) 29 9 (.string ⟨#[]⟩) 16 rfl Tryz.underlying29 kI rfl (by decide) (by omega) zj q6 q7 [.string q7] (fun _=>True) (fun _=>False) rfl rfl ?aP (fun _ hk=>hk.elim) ?aF ?aO ?aB ?aS ?aL ?_;(case aP=>exact rfl);(case aB=>exact oF);(case aF=>exact (fun _ _=>trivial));(case aO=>exact (aR_ jz.out));(case aS=>exact (aH oF));(case aL=>have:=jV.out;omega);intro qY zk ho hb hg hat;rw [← qu.out] at ho;replace j4:=am (dZ (g:=jl) (o:= .cells #[.int .i64 j8, .int .i64 jk, .slice (some j5) j3.length jp] 56 (0,0)) (aG_ j4.out) hg (Kd.kS jz.out j4.out (by decide)));replace HB:=am (hb);have jj:=am (ho);clear jz ho hb hg hat))
     replace jj:=am (Kd.oD jj.out)
     replace j4:=am (dD j4.out)
     replace HB:=am (bJ HB.out)
     have jJ:0≤(1:Int):=(by omega)
     have jK:1 < (j3.length:Int):=of_decide_eq_true fA
     obtain ⟨q0,jn,jo,qB,j9,ja,j6,hl101_2,hi101_2⟩:=rY jr.out 1 jJ jK
     have hw101_2:=j6
     (try rw [show ((1:Int)).toNat=1 from rfl] at hw101_2)
     (try rw [show 1 * 3=3 from rfl] at hw101_2)
     (try simp only [Nat.reduceMul,Nat.reduceEqDiff,Go.Addr.add,↓reduceIte] at hw101_2)
     have hw101_1:=ja
     (try rw [show ((1:Int)).toNat=1 from rfl] at hw101_1)
     (try rw [show 1 * 3=3 from rfl] at hw101_1)
     (try simp only [Nat.reduceMul,Nat.reduceEqDiff,Go.Addr.add,↓reduceIte] at hw101_1)
     have hw101_0:=j9
     (try rw [show ((1:Int)).toNat=1 from rfl] at hw101_0)
     (try rw [show 1 * 3=3 from rfl] at hw101_0)
     (try simp only [Nat.reduceMul,Nat.reduceEqDiff,Go.Addr.add,↓reduceIte] at hw101_0)
     obtain rfl:j5=q0:=(by injection qB)
     (try simp only [show (1:Int).toNat=1 from rfl,Nat.reduceMul,Nat.reduceEqDiff,Go.Addr.add,↓reduceIte] at j9)
     (try simp only [show (1:Int).toNat=1 from rfl,Nat.reduceMul,Nat.reduceEqDiff,Go.Addr.add,↓reduceIte] at ja)
     (try simp only [show (1:Int).toNat=1 from rfl,Nat.reduceMul,Nat.reduceEqDiff,Go.Addr.add,↓reduceIte] at j6)
     have qZ:(1 < j3.length)=True:=eq_true (by omega)
     (try rw [show ((1:Int)).toNat=1 from rfl] at j9)
     (try rw [show 1 * 3=3 from rfl] at j9)
     (try rw [show ((1:Int)).toNat=1 from rfl] at ja)
     (try rw [show 1 * 3=3 from rfl] at ja)
     (try rw [show ((1:Int)).toNat=1 from rfl] at j6)
     (try rw [show 1 * 3=3 from rfl] at j6)
     replace j9:=(HB.out.cell (World.block_lt_of_cell? w _ j9)).trans j9
     replace ja:=(HB.out.cell (World.block_lt_of_cell? w _ ja)).trans ja
     replace j6:=(HB.out.cell (World.block_lt_of_cell? w _ j6)).trans j6
     have ju:=am hi101_2
     have jB:=am hl101_2
     clear hi101_2 hl101_2
     replace jJ:=eq_true jJ
     replace jK:=eq_true jK
     have jL:0≤(1:Int):=(by omega)
     have jM:1 < (j3.length:Int):=of_decide_eq_true fA
     obtain ⟨q1,qC,qD,qE,jb,jc,j7,hl102_2,hi102_2⟩:=rY jr.out 1 jL jM
     have hw102_2:=j7
     (try rw [show ((1:Int)).toNat=1 from rfl] at hw102_2)
     (try rw [show 1 * 3=3 from rfl] at hw102_2)
     (try simp only [Nat.reduceMul,Nat.reduceEqDiff,Go.Addr.add,↓reduceIte] at hw102_2)
     have hw102_1:=jc
     (try rw [show ((1:Int)).toNat=1 from rfl] at hw102_1)
     (try rw [show 1 * 3=3 from rfl] at hw102_1)
     (try simp only [Nat.reduceMul,Nat.reduceEqDiff,Go.Addr.add,↓reduceIte] at hw102_1)
     have hw102_0:=jb
     (try rw [show ((1:Int)).toNat=1 from rfl] at hw102_0)
     (try rw [show 1 * 3=3 from rfl] at hw102_0)
     (try simp only [Nat.reduceMul,Nat.reduceEqDiff,Go.Addr.add,↓reduceIte] at hw102_0)
     obtain rfl:j5=q1:=(by injection qE)
     (try simp only [show (1:Int).toNat=1 from rfl,Nat.reduceMul,Nat.reduceEqDiff,Go.Addr.add,↓reduceIte] at jb)
     (try simp only [show (1:Int).toNat=1 from rfl,Nat.reduceMul,Nat.reduceEqDiff,Go.Addr.add,↓reduceIte] at jc)
     (try simp only [show (1:Int).toNat=1 from rfl,Nat.reduceMul,Nat.reduceEqDiff,Go.Addr.add,↓reduceIte] at j7)
     have z0:(1 < j3.length)=True:=eq_true (by omega)
     (try rw [show ((1:Int)).toNat=1 from rfl] at jb)
     (try rw [show 1 * 3=3 from rfl] at jb)
     (try rw [show ((1:Int)).toNat=1 from rfl] at jc)
     (try rw [show 1 * 3=3 from rfl] at jc)
     (try rw [show ((1:Int)).toNat=1 from rfl] at j7)
     (try rw [show 1 * 3=3 from rfl] at j7)
     replace jb:=(HB.out.cell (World.block_lt_of_cell? w _ jb)).trans jb
     replace jc:=(HB.out.cell (World.block_lt_of_cell? w _ jc)).trans jc
     replace j7:=(HB.out.cell (World.block_lt_of_cell? w _ j7)).trans j7
     have jv:=am hi102_2
     have jC:=am hl102_2
     clear hi102_2 hl102_2
     replace jL:=eq_true jL
     replace jM:=eq_true jM
     have ea_:=Option.some.inj (j6.symm.trans j7)
     injection ea_ with ea_ en_ ec_
     subst ea_
     subst ec_
     clear en_
     refine lQ (n:=16) (S:=fun w'=>w'.cell? ⟨jl,0,none⟩=some (.int .i64 j8)∧w'.cell? ⟨jl,1,none⟩=some (.int .i64 jk)∧w'.cell? ⟨jl,2,none⟩=some (.slice (some j5) j3.length jp)∧w'.cell? ⟨j5.block,j5.off + 3,none⟩=some (.int .i64 ((bW j3 1).f0))∧w'.cell? ⟨j5.block,j5.off + 3 + 1,none⟩=some (.int .i64 ((bW j3 1).f1))∧w'.cell? ⟨j5.block,j5.off + 3 + 2,none⟩=some (.slice jn ((bW j3 1).f2).length jo)∧w'.cell? ⟨j5.block,j5.off + 3,none⟩=some (.int .i64 ((bW j3 1).f0))∧w'.cell? ⟨j5.block,j5.off + 3 + 1,none⟩=some (.int .i64 ((bW j3 1).f1))∧w'.cell? ⟨j5.block,j5.off + 3 + 2,none⟩=some (.slice jn ((bW j3 1).f2).length jo)) (ds:=[]) (bz 16 0) (by kernel_rfl) rfl rfl ⟨(aN j4.out 0).trans rfl,(aN j4.out 1).trans rfl,(aN j4.out 2).trans rfl,((HB.out.cell (World.block_lt_of_cell? w _ hw101_0)).trans hw101_0),((HB.out.cell (World.block_lt_of_cell? w _ hw101_1)).trans hw101_1),((HB.out.cell (World.block_lt_of_cell? w _ hw101_2)).trans hw101_2),((HB.out.cell (World.block_lt_of_cell? w _ hw102_0)).trans hw102_0),((HB.out.cell (World.block_lt_of_cell? w _ hw102_1)).trans hw102_1),((HB.out.cell (World.block_lt_of_cell? w _ hw102_2)).trans hw102_2)⟩ (fun hHeld=>?_);refine iL bL.aHu bL.aHe (fun HT_ HW_=>?_)
     generalize zk.drew=zx at jj j4 HB ju jv j9 ja j6 jb jc j7 hHeld ⊢
     refine pr_ 0 41 (bz 16 1) HT_ ?_
     refine pr_ 1 42 (bz 16 3) HT_ ?_
     refine pr_ 6 47 (bz 16 67) HT_ ?_
     refine pr_ 11 52 (bz 16 2115) HT_ ?_
     refine SF 2 43 (bz 16 2119) HT_ HW_ hHeld ?_
     refine pr_ 3 44 (bz 16 2127) HT_ ?_
     refine SF 4 45 (bz 16 2143) HT_ HW_ hHeld ?_
     refine SF 7 48 (bz 16 2271) HT_ HW_ hHeld ?_
     refine pr_ 8 49 (bz 16 2527) HT_ ?_
     refine SF 9 50 (bz 16 3039) HT_ HW_ hHeld ?_
     refine iE (i:=5) (N:=some 46) (bz 16 3071) rfl rfl (eY HT_.out (by kernel_rfl)) (by decide) (fun K hK=>?_)
     refine iQ Tryz.func74 (by kernel_rfl) rfl #[.agg #[.int .i64 ((bW j3 1).f0), .int .i64 ((bW j3 1).f1), .slice jn ((bW j3 1).f2).length jo]] (by rfl) rfl rfl mV ?_
     with_reducible refine (ih k (by omega) ((bW j3 1).f0) ((bW j3 1).f1) _ _ ((bW j3 1).f2) jE _ (aC_ (Kd.aU ju.out HB.out)) jB.out za.out).mono ?_
     rintro e zy ⟨zl,rfl,ho0,hb⟩
     refine ⟨_,rfl,?_⟩
     have jm:=am (Kd.eD (Kd.lW ho0 (Kd.iN (aR_ jj.out))) (aH oF))
     replace jj:=am (Kd.iJ (aR_ jj.out) (Kd.gP ho0) hb)
     replace j4:=bbP j4 hb
     replace HB:=am (aA oF hb)
     (try clear hb)
     (try clear hb2)
     (try clear hk)
     (try clear hi)
     (try clear ho0)
     refine hK.out _ _ ⟨(aN j4.out 0).trans rfl,(aN j4.out 1).trans rfl,(aN j4.out 2).trans rfl,((HB.out.cell (World.block_lt_of_cell? w _ hw101_0)).trans hw101_0),((HB.out.cell (World.block_lt_of_cell? w _ hw101_1)).trans hw101_1),((HB.out.cell (World.block_lt_of_cell? w _ hw101_2)).trans hw101_2),((HB.out.cell (World.block_lt_of_cell? w _ hw102_0)).trans hw102_0),((HB.out.cell (World.block_lt_of_cell? w _ hw102_1)).trans hw102_1),((HB.out.cell (World.block_lt_of_cell? w _ hw102_2)).trans hw102_2)⟩ (fun hHeld=>?_)
     clear hK K
     refine fD (a':=?_) ?_ ?_
     rotate_left
     ·exact ap_ (N:=46)
     refine iE (i:=10) (N:=some 51) (bz 16 4095) rfl rfl (eY HT_.out (by kernel_rfl)) (by decide) (fun K hK=>?_)
     refine iQ Tryz.func96 (by kernel_rfl) rfl #[.agg #[.int .i64 ((bW j3 1).f0), .int .i64 ((bW j3 1).f1), .slice jn ((bW j3 1).f2).length jo]] (by rfl) rfl rfl mV ?_
     with_reducible refine (mI.calls ((bW j3 1).f0) ((bW j3 1).f1) _ _ ((bW j3 1).f2) jX _ (aC_ (Kd.aU jv.out HB.out)) jC.out zb.out).mono ?_
     rintro e zz ⟨rfl,hb⟩
     refine ⟨_,rfl,?_⟩
     replace jj:=am (Kd.fG (aR_ jj.out) hb)
     replace jm:=am (Kd.fG (aR_ jm.out) hb)
     replace j4:=bbP j4 hb
     replace HB:=am (aA oF hb)
     (try clear hb)
     (try clear hb2)
     (try clear hk)
     (try clear hi)
     obtain ⟨jN,jO,q2⟩:=Kd.eB jm.out
     (first|subst q2|(injection q2 with f1_ f2_ f3_;have f4_:=f1_.symm;have f5_:=f3_.symm;clear f1_ f2_ f3_;subst f4_;subst f5_))
     refine hK.out _ _ ⟨(aN j4.out 0).trans rfl,(aN j4.out 1).trans rfl,(aN j4.out 2).trans rfl,((HB.out.cell (World.block_lt_of_cell? w _ hw101_0)).trans hw101_0),((HB.out.cell (World.block_lt_of_cell? w _ hw101_1)).trans hw101_1),((HB.out.cell (World.block_lt_of_cell? w _ hw101_2)).trans hw101_2),((HB.out.cell (World.block_lt_of_cell? w _ hw102_0)).trans hw102_0),((HB.out.cell (World.block_lt_of_cell? w _ hw102_1)).trans hw102_1),((HB.out.cell (World.block_lt_of_cell? w _ hw102_2)).trans hw102_2)⟩ (fun hHeld=>?_)
     clear hK K
     refine fD (a':=?_) ?_ ?_
     rotate_left
     ·exact ap_ (N:=51)
     refine pr_ 12 53 (bz 16 8191) HT_ ?_
     refine iE (i:=13) (N:=some 54) (bz 16 16383) rfl rfl (eY HT_.out (by kernel_rfl)) (by decide) (fun K hK=>?_)
     refine iQ Tryz.func95 (by kernel_rfl) rfl #[.slice jN jE.length jO, .bool (decide (jX≤jR))] (by rfl) rfl rfl mV ?_
     with_reducible refine (mO.calls (fun k_=>some k_=(.slice jN jE.length jO:Value).ownBlock) (.slice jN jE.length jO) jE (decide (jX≤jR)) jD w _ ?side1 ?side2 zc.out).mono ?_
     (case side1=>exact oF)
     (case side2=>exact Kd.lG rfl jm.out)
     rintro e zA ⟨qF,rfl,ho0,hb,hkp⟩
     refine ⟨_,rfl,?_⟩
     replace j4:=am (kJ (aG_ j4.out) hkp (fun hs_=>(fun e_=>(Kd.kS jm.out j4.out (by decide)) e_) hs_))
     have jq:=am (Kd.bS (ok':=fun k_=>some k_≠(qY:Value).ownBlock) ho0 (fun k_ hk_=>Or.elim hk_ (fun hs_=>fun e_=>(((jj.out).1 k_ e_.symm).2) hs_) (fun hn_=>(Kd.fresh' (Kd.iN (aR_ jj.out)) k_ hn_))))
     replace jj:=am (Kd.bS (ok':=fun k_=>some k_≠(qF:Value).ownBlock) (Kd.OA (jj.out) hkp (fun k_ hk_ hs_=>(hk_.2) hs_)) (fun k_ hk_=>fun e_=>Or.elim (ho0.1 k_ e_.symm) (fun hs_=>hk_.2.1 hs_) (fun hn_=>Nat.not_le.2 hk_.2.2 hn_)))
     replace HB:=am (hb)
     clear jm
     (try clear hb)
     (try clear hkp)
     (try clear ho0)
     obtain ⟨qG,qH,q3⟩:=Kd.eB jq.out
     (first|subst q3|(injection q3 with f1_ f2_ f3_;have f4_:=f1_.symm;have f5_:=f3_.symm;clear f1_ f2_ f3_;subst f4_;subst f5_))
     refine hK.out _ _ ⟨(aN j4.out 0).trans rfl,(aN j4.out 1).trans rfl,(aN j4.out 2).trans rfl,((HB.out.cell (World.block_lt_of_cell? w _ hw101_0)).trans hw101_0),((HB.out.cell (World.block_lt_of_cell? w _ hw101_1)).trans hw101_1),((HB.out.cell (World.block_lt_of_cell? w _ hw101_2)).trans hw101_2),((HB.out.cell (World.block_lt_of_cell? w _ hw102_0)).trans hw102_0),((HB.out.cell (World.block_lt_of_cell? w _ hw102_1)).trans hw102_1),((HB.out.cell (World.block_lt_of_cell? w _ hw102_2)).trans hw102_2)⟩ (fun hHeld=>?_)
     clear hK K
     refine fD (a':=?_) ?_ ?_
     rotate_left
     ·exact ap_ (N:=54)
     refine iE (i:=14) (N:=some 55) (bz 16 32767) rfl rfl (eY HT_.out (by kernel_rfl)) (by decide) (fun K hK=>?_)
     refine Kd.mQ Kd.string (w0:=w) w.heap.size (by rfl) (.tmp 41) (.tmp 54) 29 9 (.string ⟨#[]⟩) 16 rfl Tryz.underlying29 kI rfl (by decide) (by omega) qY jW jD _ _ _ (fun k_=>some k_≠(.slice qG jD.length qH:Value).ownBlock) (fun _=>False) rfl rfl ?aO ?aR (fun _ _ h=>h) (fun _ h=>h.elim) ?aF ?aB ?aS ?aL ?_
     (case aR=>repeat (first|exact (Kd.bT jq.out).2.2|(with_reducible refine Kd.lS ?_ _)|(with_reducible refine Kd.kW ?_ _)|(with_reducible refine Kd.mP ?_)))
     (case aB=>exact oF)
     (case aF=>exact (fun k_ hk=>Kd.fresh' (Kd.iN (aR_ jq.out)) k_ hk))
     (case aO=>exact (aR_ jj.out))
     (case aS=>exact (aH oF))
     (case aL=>have:=jY.out;omega)
     intro zm zB ho hb hg hat
     rw [← qv.out] at ho
     replace j4:=am (dZ (g:=jl) (o:= .cells #[.int .i64 j8, .int .i64 jk, .slice (some j5) j3.length jp] 56 (0,0)) (aG_ j4.out) hg (Kd.kS jj.out j4.out (by decide)))
     replace jq:=am (Kd.iM (ok:=(fun _=>True)) (gF (Kd.bS jq.out (fun _ hk=>⟨trivial,hk⟩))) hg hat)
     replace HB:=am (hb)
     have q4:=am (ho)
     clear jj
     clear ho hb hg hat
     refine hK.out _ _ ⟨(aN j4.out 0).trans rfl,(aN j4.out 1).trans rfl,(aN j4.out 2).trans rfl,((HB.out.cell (World.block_lt_of_cell? w _ hw101_0)).trans hw101_0),((HB.out.cell (World.block_lt_of_cell? w _ hw101_1)).trans hw101_1),((HB.out.cell (World.block_lt_of_cell? w _ hw101_2)).trans hw101_2),((HB.out.cell (World.block_lt_of_cell? w _ hw102_0)).trans hw102_0),((HB.out.cell (World.block_lt_of_cell? w _ hw102_1)).trans hw102_1),((HB.out.cell (World.block_lt_of_cell? w _ hw102_2)).trans hw102_2)⟩ (fun hHeld=>?_)
     clear hK K
     refine fD (a':=?_) ?_ ?_
     rotate_left
     ·exact ap_ (N:=55)
     refine pr_ 15 2 (bz 16 65535) HT_ ?_
     refine nG (lH HT_.out (by kernel_rfl)) ?_
     try go_wp2
     go_ret
     exact ⟨_,gM,gF (Kd.bS q4.out (fun _ hk=>trivial)),oF⟩
    rw [if_neg qa] at H
    exact absurd H (by simp)
   rw [if_neg q9] at H
   exact absurd H (by simp)
  rw [if_neg q8] at H
  exact absurd H (by simp)
 rw [if_neg q5] at H
 exact absurd H (by simp)
theorem gB.mono:∀ a0 a1 a2 a3 k,LeO (gB.f k a0 a1 a2 a3) (gB.f (k + 1) a0 a1 a2 a3):=by
 intro a0 a1 a2 a3 k
 unfold gB.f
 have m0:=@bL.mono
 exact mo_
theorem gB.calls (k:Nat) (P0_:Nat→Prop) (ja:Value) (l0:List ByteArray) (j6:Int) (j7:Int) (j8:Option Addr) (j9:Nat) (j3:List (S56)) (r:List ByteArray) (w0 w:World) (hB:Below w0.heap.size w0 w) (ho0:Kd.R Kd.string 9 w w0.heap.size P0_ ja l0) (hr1_2:∀ W_,Kept w W_ (fun k_=>P0_ k_)→Kd.C k56 W_ j8 j3.length j3) (hc1_2:j3.length≤j9) (h:gB.f k l0 j6 j7 j3=some r):
  Calls Tryz.prog 72 #[ja, .agg #[.int .i64 j6, .int .i64 j7, .slice j8 j3.length j9]] w fun e w'=>∃ v0_:Value,e= .returned (v0_)∧Kd.R Kd.string 9 w' w0.heap.size (fun k_=>(P0_ k_∨w.heap.size≤k_)) v0_ r∧Below w0.heap.size w0 w'∧Kept w w' (fun k_=>P0_ k_):=by
 have hu56:=Tryz.underlying56
 have jb:=am (show Kd.R Kd.string 9 w w0.heap.size (fun k_=>(P0_ k_∨w.heap.size≤k_)) ja l0 from Kd.bS ho0 (fun k_ hk=>(.inl hk)))
 have jf:=am hr1_2
 have jg:=am hc1_2
 clear hr1_2 hc1_2
 have HK:=am (Kept.refl w (fun k_=>P0_ k_))
 have HW0:=am hB.size
 have HB:=am hB
 clear hB
 unfold gB.f at h
 have H:=h
 clear h
 obtain ⟨je,A3,H⟩:=bsa H
 (try dsimp only at H)
 by_cases c4:l0.length + je.length < 8796093022208
 ·rw [if_pos c4] at H
  have jk:=am c4
  clear c4
  obtain ⟨jh,hy_⟩:∃ y_:List ByteArray,y_=(l0 ++ je):=⟨_,rfl⟩
  replace H:(if jh.length < 8796093022208 then (some (jh ++ [(⟨#[59]⟩:ByteArray)])) else (none))=some r:=rx_
  have jl:=am hy_
  clear hy_
  by_cases c5:jh.length < 8796093022208
  ·rw [if_pos c5] at H
   have jm:=am c5
   clear c5
   obtain ⟨jw,hy_⟩:∃ y_:List ByteArray,y_=(jh ++ [(⟨#[59]⟩:ByteArray)]):=⟨_,rfl⟩
   replace H:(some jw)=some r:=rx_
   have jn:=am hy_
   clear hy_
   obtain rfl:=Option.some.inj H
   go_enter Tryz.func72,Tryz.ntmps72
   go_wp2_with (first|((with_reducible refine bY (N:=3) rfl ?_);refine eH rfl (N:=3) rfl (cs:=#[.int .i64 j6, .int .i64 j7, .slice j8 j3.length j9]) (t:=56) rn_ ?_;intro jc hg w6 hbox hb;replace jb:=am (Kd.fG (aR_ jb.out) hb);have j4:=am (hbox);have GW24:=am ((by rw [hg];exact (by first|exact HK.out.1|exact (show Kept w _ (fun k_=>P0_ k_) from nE).1):w.heap.size≤jc));replace HK:=am (Kept.below (S:=(fun k_=>P0_ k_)) nE hb);have GE24:=am ((by rw [hg];exact (aH dQ):w0.heap.size≤jc));replace HB:=am (aA dQ hb);clear hb hbox hg;obtain ⟨jo,jp,jq,jr,js,jt⟩:=lX j4.out)|((with_reducible refine aD (f:=74) rfl ?_);refine gl_ 8 Tryz.func74 #[.agg #[.int .i64 j6, .int .i64 j7, .slice j8 j3.length j9]] ?_;(with_reducible refine (bL.calls k j6 j7 _ _ j3 je _ ?side1 jg.out A3.out).mono ?_);(case side1=>exact Kd.vU jf.out FC);rintro e w8 ⟨jy,rfl,ho0,hb⟩;refine ⟨_,rfl,?_⟩;have j5:=am (Kd.eD (Kd.lW (Kd.vI (M:=fun k_=>(P0_ k_∨w.heap.size≤k_)) ho0 (by first|exact HK.out.1|exact (show Kept w _ (fun k_=>P0_ k_) from FC).1) (fun k_ h_=> .inr h_)) (Kd.iN (aR_ jb.out))) (aH IV));replace jb:=am (Kd.iJ (aR_ jb.out) (Kd.gP ho0) hb);replace j4:=bbP j4 hb;replace HK:=am (Kept.below (S:=(fun k_=>P0_ k_)) FC hb);replace HB:=am (aA IV hb);(try clear hb);(try clear ho0);obtain ⟨ji,jj,ju⟩:=Kd.eB j5.out;subst ju)|((with_reducible refine dR (b:= .append) (xs:=#[.tmp 6, .tmp 8]) rfl ?_);at_builtin;refine Kd.iG Kd.string (w0:=w0) w0.heap.size rfl (.tmp 6) (.tmp 8) 29 9 (.string ⟨#[]⟩) 16 rfl Tryz.underlying29 kI rfl (by decide) (by omega) ja l0 je _ _ _ (fun k_=>(P0_ k_∨w.heap.size≤k_)∧some k_≠(.slice ji je.length jj:Value).ownBlock) (fun _=>False) rfl rfl ?aO ?aR (fun _ _ h=>h) (fun _ h=>h.elim) ?aF ?aB ?aS ?aL ?_;(case aR=>repeat (first|exact (Kd.bT j5.out).2.2|(with_reducible refine Kd.lS ?_ _)|(with_reducible refine Kd.kW ?_ _)|(with_reducible refine Kd.mP ?_)));(case aB=>exact IV);(case aF=>exact (fun k_ hk=>⟨(.inr (Nat.le_trans (by first|exact HK.out.1|exact (show Kept w _ (fun k_=>P0_ k_) from FC).1) hk)),Kd.fresh' (Kd.iN (aR_ j5.out)) k_ hk⟩));(case aO=>exact (aR_ jb.out));(case aS=>exact (aH IV));(case aL=>have:=jk.out;omega);intro jx w9 ho hb hg hat;rw [← jl.out] at ho;replace j4:=am (dZ (g:=jc) (o:= .cells #[.int .i64 j6, .int .i64 j7, .slice j8 j3.length j9] 56 (0,0)) (aG_ j4.out) hg (Kd.kS jb.out j4.out (by decide)));replace j5:=am (Kd.iM (ok:=(fun k_=>(P0_ k_∨w.heap.size≤k_))) (gF (Kd.bS j5.out (fun _ hk=>⟨hk.1.1,hk.2⟩))) hg hat);replace HB:=am (hb);replace HK:=am (Kept.fU (S:=(fun k_=>P0_ k_)) hg FC (fun k_ e_=>(jb.out.1 k_ e_).1));have jd:=am (ho);clear jb ho hb hg hat)|((with_reducible refine dR (b:= .append) (xs:=#[.tmp 10, .tmp 11]) rfl ?_);at_builtin;refine Kd.kF Kd.string (w0:=w0) w0.heap.size rfl (.tmp 10) (.tmp 11) 29 9 (.string ⟨#[]⟩) 16 rfl Tryz.underlying29 kI rfl (by decide) (by omega) jx jh (⟨#[59]⟩:ByteArray) [.string (⟨#[59]⟩:ByteArray)] (fun k_=>(P0_ k_∨w.heap.size≤k_)∧some k_≠(.slice ji je.length jj:Value).ownBlock) (fun _=>False) rfl rfl ?aP (fun _ hk=>hk.elim) ?aF ?aO ?aB ?aS ?aL ?_;(case aP=>exact rfl);(case aB=>exact IV);(case aF=>exact (fun k_ hk=>⟨(.inr (Nat.le_trans (by first|exact HK.out.1|exact (show Kept w _ (fun k_=>P0_ k_) from FC).1) hk)),Kd.fresh' (Kd.iN (aR_ j5.out)) k_ hk⟩));(case aO=>exact (aR_ jd.out));(case aS=>exact (aH IV));(case aL=>have:=jm.out;omega);intro jz jA ho hb hg hat;rw [← jn.out] at ho;replace j4:=am (dZ (g:=jc) (o:= .cells #[.int .i64 j6, .int .i64 j7, .slice j8 j3.length j9] 56 (0,0)) (aG_ j4.out) hg (Kd.kS jd.out j4.out (by decide)));replace j5:=am (Kd.iM (ok:=(fun k_=>(P0_ k_∨w.heap.size≤k_))) (aR_ j5.out) hg hat);replace HB:=am (hb);replace HK:=am (Kept.fU (S:=(fun k_=>P0_ k_)) hg FC (fun k_ e_=>(jd.out.1 k_ e_).1));have jv:=am (ho);clear jd ho hb hg hat))
   go_ret
   exact ⟨_,gM,gF (Kd.bS jv.out (fun _ hk=>hk.1)),IV,FC⟩
  rw [if_neg c5] at H
  exact absurd H (by simp)
 rw [if_neg c4] at H
 exact absurd H (by simp)
theorem bO.mono_all:∀ k,(∀ y0 y1 y2 y3 y4 y5 y6 y7,LeO (bO.f k y0 y1 y2 y3 y4 y5 y6 y7) (bO.f (k + 1) y0 y1 y2 y3 y4 y5 y6 y7))∧(∀ y0,LeO (bK.f k y0) (bK.f (k + 1) y0))∧(∀ y0 y1 y2,LeO (bK.l0 k y0 y1 y2) (bK.l0 (k + 1) y0 y1 y2))
 |0=>⟨fun _ _ _ _ _ _ _ _ r h=>by simp [bO.f] at h,fun _ r h=>by simp [bK.f] at h,fun _ _ _ r h=>by simp [bK.l0] at h⟩
 |k + 1=>by
  obtain ⟨ih0,ih1,ih2⟩:=bO.mono_all k
  refine ⟨?_,?_,?_⟩
  ·intro y0 y1 y2 y3 y4 y5 y6 y7
   unfold bO.f
   have m0:=@gB.mono
   have m1:=@bL.mono
   have m2:=@dX.mono
   exact mo_
  ·intro y0
   unfold bK.f
   have m0:=@gB.mono
   have m1:=@bL.mono
   have m2:=@dX.mono
   exact mo_
  ·intro y0 y1 y2
   unfold bK.l0
   have m0:=@gB.mono
   have m1:=@bL.mono
   have m2:=@dX.mono
   exact mo_
theorem bO.mono:∀ a0 a1 a2 a3 a4 a5 a6 a7 k,LeO (bO.f k a0 a1 a2 a3 a4 a5 a6 a7) (bO.f (k + 1) a0 a1 a2 a3 a4 a5 a6 a7):=by
 intro a0 a1 a2 a3 a4 a5 a6 a7 k
 obtain ⟨ih0,ih1,ih2⟩:=bO.mono_all k
 exact ih0 a0 a1 a2 a3 a4 a5 a6 a7
theorem bK.mono:∀ a0 k,LeO (bK.f k a0) (bK.f (k + 1) a0):=by
 intro a0 k
 obtain ⟨ih0,ih1,ih2⟩:=bO.mono_all k
 exact ih1 a0
abbrev bO.dJ (k:Nat):Prop:=∀ (a0_0:Int) (a0_1:Int) (a0_2:Int) (a0_3:Int) (a0_4:Int) (A0_5:Option Addr) (c0_5:Nat) (l0_5:List (S56)) (A0_6:Option Addr) (c0_6:Nat) (l0_6:List (S58)) (A0_7:Option Addr) (c0_7:Nat) (l0_7:List (S58)) (r:List ByteArray) (w:World) (hr0_5:Kd.C k56 w A0_5 l0_5.length l0_5) (hc0_5:l0_5.length≤c0_5) (hr0_6:Kd.C k58 w A0_6 l0_6.length l0_6) (hc0_6:l0_6.length≤c0_6) (hr0_7:Kd.C k58 w A0_7 l0_7.length l0_7) (hc0_7:l0_7.length≤c0_7) (h:bO.f k a0_0 a0_1 a0_2 a0_3 a0_4 l0_5 l0_6 l0_7=some r),
  Calls Tryz.prog 49 #[.agg #[.int .i64 a0_0, .int .i64 a0_1, .int .i64 a0_2, .int .i64 a0_3, .int .i64 a0_4, .slice A0_5 l0_5.length c0_5, .slice A0_6 l0_6.length c0_6, .slice A0_7 l0_7.length c0_7]] w fun e w'=>∃ v0_:Value,e= .returned (v0_)∧Kd.R Kd.string 9 w' w.heap.size (fun _=>True) v0_ r∧Below w.heap.size w w'
abbrev bK.dJ (k:Nat):Prop:=∀ (A0:Option Addr) (c0:Nat) (l0:List (S58)) (r:List ByteArray) (w:World) (hr0:Kd.C k58 w A0 l0.length l0) (hc0:l0.length≤c0) (h:bK.f k l0=some r),
  Calls Tryz.prog 25 #[.slice A0 l0.length c0] w fun e w'=>∃ v0_:Value,e= .returned (v0_)∧Kd.R Kd.string 9 w' w.heap.size (fun _=>True) v0_ r∧Below w.heap.size w w'
def bO.T3:Bool × List (List Nat × List Nat):=(true,[([],[]),([0],[0]),([1],[1]),([2],[2]),([],[]),([4],[4]),([3,5,2],[3,5]),([6,6,0,1,2,3,4,5,6],[6])])
def bO.B3:List Nat:=[0,1,3,7,0,16,63,127]
theorem bO.aDo:lZ .any (opsOf Tryz.f49 3)=bO.T3:=by kernel_rfl
theorem bO.PK:iR bO.T3.2 bO.B3=true:=by kernel_rfl
def bO.T5:Bool × List (List Nat × List Nat):=(true,[([],[]),([0],[0]),([1],[1]),([2],[2]),([],[]),([4],[4]),([3,5,2],[3,5]),([6,6,0,1,2,3,4,5,6],[6])])
def bO.B5:List Nat:=[0,1,3,7,0,16,63,127]
theorem bO.SC:lZ .any (opsOf Tryz.f49 5)=bO.T5:=by kernel_rfl
theorem bO.FD:iR bO.T5.2 bO.B5=true:=by kernel_rfl
def bO.T9:Bool × List (List Nat × List Nat):=(true,[([],[]),([0],[0]),([1],[1]),([],[]),([3],[3]),([4,2],[4]),([2,5],[2,5]),([6,5,0,1,2,3,4,5,6],[6])])
def bO.B9:List Nat:=[0,1,3,0,8,31,63,127]
theorem bO.aHv:lZ .any (opsOf Tryz.f49 9)=bO.T9:=by kernel_rfl
theorem bO.aHf:iR bO.T9.2 bO.B9=true:=by kernel_rfl
theorem bO.step (k:Nat) (ih_spec_l13Stmt:∀ m,m < k→bO.dJ m) (ih_spec_l13Block:∀ m,m < k→bK.dJ m):bO.dJ k:=by
 intro j6 jl jm j8 j9 ji jj ja jn jo jc jr js jb r w hr0_5 hc0_5 hr0_6 hc0_6 hr0_7 hc0_7 h
 cases k with
 |zero=>exact absurd h (by simp [bO.f])
 |succ k=>
 simp only [bO.f] at h
 have hu58:=Tryz.underlying58
 have hu56:=Tryz.underlying56
 have jv:=am hr0_5
 have jw:=am hc0_5
 clear hr0_5 hc0_5
 have jQ:=am hr0_6
 have jR:=am hc0_6
 clear hr0_6 hc0_6
 have qs:=am hr0_7
 have qt:=am hc0_7
 clear hr0_7 hc0_7
 have HB:=am (Below.refl w.heap.size w)
 have H:=h
 clear h
 have HH_:=am H
 clear H
 go_enter Tryz.func49,Tryz.ntmps49
 go_upto_region 1 with (first|((with_reducible refine bY (N:=1) rfl ?_);refine eH rfl (N:=1) rfl (cs:=#[.int .i64 j6, .int .i64 jl, .int .i64 jm, .int .i64 j8, .int .i64 j9, .slice ji ja.length jj, .slice jn jc.length jo, .slice jr jb.length js]) (t:=58) rn_ ?_;intro j4 hg w5 hbox hb;have j3:=am (hbox);have Zv:=am ((by rw [hg];exact (aH dQ):w.heap.size≤j4));have GE129:=am ((by rw [hg];exact (aH dQ):w.heap.size≤j4));replace HB:=am (aA dQ hb);clear hb hbox hg;obtain ⟨QU,QV,QW,QX,QY,QZ,Z0,Z1,Z2,Z3,Z4,Z5,Z6,Z7,Z8,Z9⟩:=fH j3.out))
 have H:=HH_.out
 clear HH_
 by_cases c2:j6=1
 ·rw [if_pos c2] at H
  have Za:(j6 == 1)=true:=beq_iff_eq.mpr c2
  have Zb:(j6 != 1)=false:=bne_eq_false_iff_eq.mpr c2
  clear c2
  obtain ⟨qq,A3,H⟩:=bsa H
  (try dsimp only at H)
  obtain ⟨jS,hy_⟩:∃ y_:List ByteArray,y_=(([qq,(⟨#[61]⟩:ByteArray)]:List ByteArray)):=⟨_,rfl⟩
  replace H:((gB.f k jS j8 j9 ja).bind fun Zc=>(some Zc))=some r:=rx_
  have jY:=am hy_
  clear hy_
  obtain ⟨Zc,A4,H⟩:=bsa H
  (try dsimp only at H)
  obtain rfl:=Option.some.inj H
  try go_wp2
  replace j3:=am (dD j3.out)
  replace HB:=am (bJ HB.out)
  refine lQ (n:=8) (S:=fun w'=>w'.cell? ⟨j4,0,none⟩=some (.int .i64 j6)∧w'.cell? ⟨j4,1,none⟩=some (.int .i64 jl)∧w'.cell? ⟨j4,2,none⟩=some (.int .i64 jm)∧w'.cell? ⟨j4,3,none⟩=some (.int .i64 j8)∧w'.cell? ⟨j4,4,none⟩=some (.int .i64 j9)∧w'.cell? ⟨j4,5,none⟩=some (.slice ji ja.length jj)∧w'.cell? ⟨j4,6,none⟩=some (.slice jn jc.length jo)∧w'.cell? ⟨j4,7,none⟩=some (.slice jr jb.length js)) (ds:=[]) (bz 8 0) (by kernel_rfl) rfl rfl (mE j3.out) (fun hHeld=>?_);refine iL bO.aDo bO.PK (fun HT_ HW_=>?_)
  generalize w5.drew=w7 at j3 HB hHeld ⊢
  refine pr_ 0 9 (bz 8 1) HT_ ?_
  refine pr_ 4 13 (bz 8 17) HT_ ?_
  refine wU 1 10 (bz 8 19) HT_ HW_ hHeld ?_
  refine wU 5 14 (bz 8 51) HT_ HW_ hHeld ?_
  refine iE (i:=2) (N:=some 11) (bz 8 55) rfl rfl (eY HT_.out (by kernel_rfl)) (by decide) (fun K hK=>?_)
  refine iQ Tryz.func73 (by kernel_rfl) rfl #[.int .i64 jl] (by rfl) rfl rfl mV ?_
  with_reducible refine (mM.calls jl qq _ A3.out).mono ?_
  rintro e w8 ⟨rfl,hb⟩
  refine ⟨_,rfl,?_⟩
  replace j3:=bbP j3 hb
  replace HB:=am (aA kK hb)
  (try clear hb)
  (try clear hb2)
  (try clear hk)
  (try clear hi)
  refine hK.out _ _ (mE j3.out) (fun hHeld=>?_)
  clear hK K
  refine fD (a':=?_) ?_ ?_
  rotate_left
  ·exact ap_ (N:=11)
  refine iE (i:=3) (N:=some 12) (bz 8 63) rfl rfl (eY HT_.out (by kernel_rfl)) (by decide) (fun K hK=>?_)
  refine Kd.mR Kd.string _ 9 rfl (N:=12) rfl (xs:=([qq,(⟨#[61]⟩:ByteArray)]:List ByteArray)) (inner:=[.string qq, .string (⟨#[61]⟩:ByteArray)]) (ok:=fun _=>True) (okp:=fun _=>True) rn_ ?hp (fun _ hk=>hk) trivial (Below.refl _ _) (Nat.le_refl _) (by simp) ?_;(case hp=>exact (dG.one (show Kd.M Kd.string _ _ _ qq [.string qq] from rfl) (dG.one (show Kd.M Kd.string _ _ _ (⟨#[61]⟩:ByteArray) [.string (⟨#[61]⟩:ByteArray)] from rfl) (dG.none _ _))))
  intro Zz w9 ho10 hb hg_ hnew_
  clear hg_ hnew_
  (first|rw [← jY.out] at ho10|(simp only [Int.reduceToNat] at ho10;rw [← jY.out] at ho10))
  have jB:=am (Kd.eD ho10 (aH kK))
  replace j3:=bbP j3 hb
  replace HB:=am (aA kK hb)
  clear hb ho10
  obtain ⟨q9,qa,qu⟩:=Kd.eB jB.out
  (first|subst qu|(injection qu with f1_ f2_ f3_;have f4_:=f1_.symm;have f5_:=f3_.symm;clear f1_ f2_ f3_;subst f4_;subst f5_))
  refine hK.out _ _ (mE j3.out) (fun hHeld=>?_)
  clear hK K
  refine fD (a':=?_) ?_ ?_
  rotate_left
  ·exact ap_ (N:=12)
  refine iE (i:=6) (N:=some 15) (bz 8 127) rfl rfl (eY HT_.out (by kernel_rfl)) (by decide) (fun K hK=>?_)
  refine iQ Tryz.func72 (by kernel_rfl) rfl #[.slice q9 jS.length qa, .agg #[.int .i64 j8, .int .i64 j9, .slice ji ja.length jj]] (by rfl) rfl rfl mV ?_
  with_reducible refine (gB.calls k (fun k_=>some k_=(.slice q9 jS.length qa:Value).ownBlock) (.slice q9 jS.length qa) jS j8 j9 _ _ ja Zc w _ ?side1 ?side2 ?side3 jw.out A4.out).mono ?_
  (case side1=>exact kK)
  (case side2=>exact Kd.lG rfl jB.out)
  (case side3=>exact Kd.uW CY jv.out kK (fun k_ hs_=>(fun e_=>Kd.gP jB.out k_ e_.symm) hs_))
  rintro e ZW ⟨ZA,rfl,ho0,hb,hkp⟩
  refine ⟨_,rfl,?_⟩
  replace j3:=am (kJ (aG_ j3.out) hkp (fun hs_=>(fun e_=>(Kd.kS jB.out j3.out (by decide)) e_) hs_))
  have qv:=am (Kd.bS (ok':=fun k_=>True) ho0 (fun k_ hk_=>trivial))
  replace HB:=am (hb)
  clear jB
  (try clear hb)
  (try clear hkp)
  (try clear ho0)
  refine hK.out _ _ (mE j3.out) (fun hHeld=>?_)
  clear hK K
  refine fD (a':=?_) ?_ ?_
  rotate_left
  ·exact ap_ (N:=15)
  refine pr_ 7 2 (bz 8 255) HT_ ?_
  refine nG (lH HT_.out (by kernel_rfl)) ?_
  try go_wp2
  go_ret
  exact ⟨_,gM,gF qv.out,kK⟩
 rw [if_neg c2] at H
 have Za:(j6 == 1)=false:=beq_eq_false_iff_ne.mpr c2
 have Zb:(j6 != 1)=true:=bne_iff_ne.mpr c2
 by_cases qb:j6=4
 ·rw [if_pos qb] at H
  have qw:(j6 == 4)=true:=beq_iff_eq.mpr qb
  have qx:(j6 != 4)=false:=bne_eq_false_iff_eq.mpr qb
  clear qb
  obtain ⟨qr,qy,H⟩:=bsm H
  (try dsimp only at H)
  have ZB:=am qy
  clear qy
  obtain ⟨jT,hy_⟩:∃ y_:List ByteArray,y_=(([(⟨#[115,101,110,100]⟩:ByteArray),qr]:List ByteArray)):=⟨_,rfl⟩
  replace H:((gB.f k jT j8 j9 ja).bind fun Zd=>(some Zd))=some r:=rx_
  have jZ:=am hy_
  clear hy_
  obtain ⟨Zd,qz,H⟩:=bsm H
  (try dsimp only at H)
  have ZC:=am qz
  clear qz
  obtain rfl:=Option.some.inj H
  try go_wp2
  replace j3:=am (dD j3.out)
  replace HB:=am (bJ HB.out)
  refine lQ (n:=8) (S:=fun w'=>w'.cell? ⟨j4,0,none⟩=some (.int .i64 j6)∧w'.cell? ⟨j4,1,none⟩=some (.int .i64 jl)∧w'.cell? ⟨j4,2,none⟩=some (.int .i64 jm)∧w'.cell? ⟨j4,3,none⟩=some (.int .i64 j8)∧w'.cell? ⟨j4,4,none⟩=some (.int .i64 j9)∧w'.cell? ⟨j4,5,none⟩=some (.slice ji ja.length jj)∧w'.cell? ⟨j4,6,none⟩=some (.slice jn jc.length jo)∧w'.cell? ⟨j4,7,none⟩=some (.slice jr jb.length js)) (ds:=[]) (bz 8 0) (by kernel_rfl) rfl rfl (mE j3.out) (fun hHeld=>?_);refine iL bO.SC bO.FD (fun HT_ HW_=>?_)
  generalize w5.drew=ZX at j3 HB hHeld ⊢
  refine pr_ 0 18 (bz 8 1) HT_ ?_
  refine pr_ 4 22 (bz 8 17) HT_ ?_
  refine wU 1 19 (bz 8 19) HT_ HW_ hHeld ?_
  refine wU 5 23 (bz 8 51) HT_ HW_ hHeld ?_
  refine iE (i:=2) (N:=some 20) (bz 8 55) rfl rfl (eY HT_.out (by kernel_rfl)) (by decide) (fun K hK=>?_)
  refine iQ Tryz.func24 (by kernel_rfl) rfl #[.int .i64 jm] (by rfl) rfl rfl mV ?_
  with_reducible refine (dX.calls k jm qr _ ZB.out).mono ?_
  rintro e ZY ⟨rfl,hb⟩
  refine ⟨_,rfl,?_⟩
  replace j3:=bbP j3 hb
  replace HB:=am (aA kK hb)
  (try clear hb)
  (try clear hb2)
  (try clear hk)
  (try clear hi)
  refine hK.out _ _ (mE j3.out) (fun hHeld=>?_)
  clear hK K
  refine fD (a':=?_) ?_ ?_
  rotate_left
  ·exact ap_ (N:=20)
  refine iE (i:=3) (N:=some 21) (bz 8 63) rfl rfl (eY HT_.out (by kernel_rfl)) (by decide) (fun K hK=>?_)
  refine Kd.mR Kd.string _ 9 rfl (N:=21) rfl (xs:=([(⟨#[115,101,110,100]⟩:ByteArray),qr]:List ByteArray)) (inner:=[.string (⟨#[115,101,110,100]⟩:ByteArray), .string qr]) (ok:=fun _=>True) (okp:=fun _=>True) rn_ ?hp (fun _ hk=>hk) trivial (Below.refl _ _) (Nat.le_refl _) (by simp) ?_;(case hp=>exact (dG.one (show Kd.M Kd.string _ _ _ (⟨#[115,101,110,100]⟩:ByteArray) [.string (⟨#[115,101,110,100]⟩:ByteArray)] from rfl) (dG.one (show Kd.M Kd.string _ _ _ qr [.string qr] from rfl) (dG.none _ _))))
  intro ZD ZZ ho21 hb hg_ hnew_
  clear hg_ hnew_
  (first|rw [← jZ.out] at ho21|(simp only [Int.reduceToNat] at ho21;rw [← jZ.out] at ho21))
  have jC:=am (Kd.eD ho21 (aH kK))
  replace j3:=bbP j3 hb
  replace HB:=am (aA kK hb)
  clear hb ho21
  obtain ⟨qc,qd,qA⟩:=Kd.eB jC.out
  (first|subst qA|(injection qA with f1_ f2_ f3_;have f4_:=f1_.symm;have f5_:=f3_.symm;clear f1_ f2_ f3_;subst f4_;subst f5_))
  refine hK.out _ _ (mE j3.out) (fun hHeld=>?_)
  clear hK K
  refine fD (a':=?_) ?_ ?_
  rotate_left
  ·exact ap_ (N:=21)
  refine iE (i:=6) (N:=some 24) (bz 8 127) rfl rfl (eY HT_.out (by kernel_rfl)) (by decide) (fun K hK=>?_)
  refine iQ Tryz.func72 (by kernel_rfl) rfl #[.slice qc jT.length qd, .agg #[.int .i64 j8, .int .i64 j9, .slice ji ja.length jj]] (by rfl) rfl rfl mV ?_
  with_reducible refine (gB.calls k (fun k_=>some k_=(.slice qc jT.length qd:Value).ownBlock) (.slice qc jT.length qd) jT j8 j9 _ _ ja Zd w _ ?side1 ?side2 ?side3 jw.out ZC.out).mono ?_
  (case side1=>exact kK)
  (case side2=>exact Kd.lG rfl jC.out)
  (case side3=>exact Kd.uW CY jv.out kK (fun k_ hs_=>(fun e_=>Kd.gP jC.out k_ e_.symm) hs_))
  rintro e Y0 ⟨ZE,rfl,ho0,hb,hkp⟩
  refine ⟨_,rfl,?_⟩
  replace j3:=am (kJ (aG_ j3.out) hkp (fun hs_=>(fun e_=>(Kd.kS jC.out j3.out (by decide)) e_) hs_))
  have qB:=am (Kd.bS (ok':=fun k_=>True) ho0 (fun k_ hk_=>trivial))
  replace HB:=am (hb)
  clear jC
  (try clear hb)
  (try clear hkp)
  (try clear ho0)
  refine hK.out _ _ (mE j3.out) (fun hHeld=>?_)
  clear hK K
  refine fD (a':=?_) ?_ ?_
  rotate_left
  ·exact ap_ (N:=24)
  refine pr_ 7 2 (bz 8 255) HT_ ?_
  refine nG (lH HT_.out (by kernel_rfl)) ?_
  try go_wp2
  go_ret
  exact ⟨_,gM,gF qB.out,kK⟩
 rw [if_neg qb] at H
 have qw:(j6 == 4)=false:=beq_eq_false_iff_ne.mpr qb
 have qx:(j6 != 4)=true:=bne_iff_ne.mpr qb
 by_cases qe:j6=7
 ·rw [if_pos qe] at H
  have qC:(j6 == 7)=true:=beq_iff_eq.mpr qe
  have qD:(j6 != 7)=false:=bne_eq_false_iff_eq.mpr qe
  clear qe
  obtain ⟨jU,hy_⟩:∃ y_:List ByteArray,y_=(([(⟨#[112,114,105,110,116]⟩:ByteArray)]:List ByteArray)):=⟨_,rfl⟩
  replace H:((gB.f k jU j8 j9 ja).bind fun Ze=>(some Ze))=some r:=rx_
  have q0:=am hy_
  clear hy_
  obtain ⟨Ze,qE,H⟩:=bsm H
  (try dsimp only at H)
  have ZF:=am qE
  clear qE
  obtain rfl:=Option.some.inj H
  go_wp2_with (first|((with_reducible refine bY (N:=27) rfl ?_);refine Kd.oQ Kd.string _ 9 rfl (N:=27) rfl (xs:=([(⟨#[112,114,105,110,116]⟩:ByteArray)]:List ByteArray)) (inner:=[.string (⟨#[112,114,105,110,116]⟩:ByteArray)]) (ok:=fun _=>True) (okp:=fun _=>True) rn_ ?hp (fun _ hk=>hk) trivial (Below.refl _ _) (Nat.le_refl _) (by simp) ?_;(case hp=>exact (dG.one (show Kd.M Kd.string _ _ _ (⟨#[112,114,105,110,116]⟩:ByteArray) [.string (⟨#[112,114,105,110,116]⟩:ByteArray)] from rfl) (dG.none _ _)));intro ZG Y1 ho29 hb hg_ hnew_;clear hg_ hnew_;(first|rw [← q0.out] at ho29|(simp only [Int.reduceToNat] at ho29;rw [← q0.out] at ho29));have jD:=am (Kd.eD ho29 (aH kK));replace j3:=bbP j3 hb;replace HB:=am (aA kK hb);clear hb ho29;obtain ⟨zu,zv,zw,zx,zy,zz,zA,zB,zC,zD,zE,zF,zG,zH,zI,zJ⟩:=fH j3.out;obtain ⟨qf,qg,Zf⟩:=Kd.eB jD.out;subst Zf)|((with_reducible refine aD (f:=72) rfl ?_);refine gl_ 30 Tryz.func72 #[.slice qf jU.length qg, .agg #[.int .i64 j8, .int .i64 j9, .slice ji ja.length jj]] ?_;(with_reducible refine (gB.calls k (fun k_=>some k_=(.slice qf jU.length qg:Value).ownBlock) (.slice qf jU.length qg) jU j8 j9 _ _ ja Ze w _ ?side1 ?side2 ?side3 jw.out ZF.out).mono ?_);(case side1=>exact kK);(case side2=>exact Kd.lG rfl jD.out);(case side3=>exact Kd.uW CY jv.out kK (fun k_ hs_=>(fun e_=>Kd.gP jD.out k_ e_.symm) hs_));rintro e Y2 ⟨ZH,rfl,ho0,hb,hkp⟩;refine ⟨_,rfl,?_⟩;replace j3:=am (kJ (aG_ j3.out) hkp (fun hs_=>(fun e_=>(Kd.kS jD.out j3.out (by decide)) e_) hs_));have qF:=am (Kd.bS (ok':=fun k_=>True) ho0 (fun k_ hk_=>trivial));replace HB:=am (hb);clear jD;(try clear hb);(try clear hkp);(try clear ho0)))
  go_ret
  exact ⟨_,gM,gF qF.out,kK⟩
 rw [if_neg qe] at H
 have qC:(j6 == 7)=false:=beq_eq_false_iff_ne.mpr qe
 have qD:(j6 != 7)=true:=bne_iff_ne.mpr qe
 by_cases qh:j6=5
 ·rw [if_pos qh] at H
  have qG:(j6 == 5)=true:=beq_iff_eq.mpr qh
  have qH:(j6 != 5)=false:=bne_eq_false_iff_eq.mpr qh
  clear qh
  obtain ⟨jN,qI,H⟩:=bsm H
  (try dsimp only at H)
  have ZI:=am qI
  clear qI
  obtain ⟨jO,qJ,H⟩:=bsm H
  (try dsimp only at H)
  have ZJ:=am qJ
  clear qJ
  obtain ⟨Zg,hy_⟩:∃ y_:List ByteArray,y_=(([(⟨#[114,101,99,118]⟩:ByteArray),jN,jO,(⟨#[59]⟩:ByteArray)]:List ByteArray)):=⟨_,rfl⟩
  replace H:(some Zg)=some r:=rx_
  have q1:=am hy_
  clear hy_
  obtain rfl:=Option.some.inj H
  try go_wp2
  replace j3:=am (dD j3.out)
  replace HB:=am (bJ HB.out)
  refine lQ (n:=8) (S:=fun w'=>w'.cell? ⟨j4,0,none⟩=some (.int .i64 j6)∧w'.cell? ⟨j4,1,none⟩=some (.int .i64 jl)∧w'.cell? ⟨j4,2,none⟩=some (.int .i64 jm)∧w'.cell? ⟨j4,3,none⟩=some (.int .i64 j8)∧w'.cell? ⟨j4,4,none⟩=some (.int .i64 j9)∧w'.cell? ⟨j4,5,none⟩=some (.slice ji ja.length jj)∧w'.cell? ⟨j4,6,none⟩=some (.slice jn jc.length jo)∧w'.cell? ⟨j4,7,none⟩=some (.slice jr jb.length js)) (ds:=[]) (bz 8 0) (by kernel_rfl) rfl rfl (mE j3.out) (fun hHeld=>?_);refine iL bO.aHv bO.aHf (fun HT_ HW_=>?_)
  generalize w5.drew=Y3 at j3 HB hHeld ⊢
  refine pr_ 0 33 (bz 8 1) HT_ ?_
  refine pr_ 3 36 (bz 8 9) HT_ ?_
  refine wU 1 34 (bz 8 11) HT_ HW_ hHeld ?_
  refine wU 4 37 (bz 8 27) HT_ HW_ hHeld ?_
  refine iE (i:=2) (N:=some 35) (bz 8 31) rfl rfl (eY HT_.out (by kernel_rfl)) (by decide) (fun K hK=>?_)
  refine iQ Tryz.func24 (by kernel_rfl) rfl #[.int .i64 jm] (by rfl) rfl rfl mV ?_
  with_reducible refine (dX.calls k jm jN _ ZI.out).mono ?_
  rintro e Y4 ⟨rfl,hb⟩
  refine ⟨_,rfl,?_⟩
  replace j3:=bbP j3 hb
  replace HB:=am (aA kK hb)
  (try clear hb)
  (try clear hb2)
  (try clear hk)
  (try clear hi)
  refine hK.out _ _ (mE j3.out) (fun hHeld=>?_)
  clear hK K
  refine fD (a':=?_) ?_ ?_
  rotate_left
  ·exact ap_ (N:=35)
  refine iE (i:=5) (N:=some 38) (bz 8 63) rfl rfl (eY HT_.out (by kernel_rfl)) (by decide) (fun K hK=>?_)
  refine iQ Tryz.func73 (by kernel_rfl) rfl #[.int .i64 jl] (by rfl) rfl rfl mV ?_
  with_reducible refine (mM.calls jl jO _ ZJ.out).mono ?_
  rintro e Y5 ⟨rfl,hb⟩
  refine ⟨_,rfl,?_⟩
  replace j3:=bbP j3 hb
  replace HB:=am (aA kK hb)
  (try clear hb)
  (try clear hb2)
  (try clear hk)
  (try clear hi)
  refine hK.out _ _ (mE j3.out) (fun hHeld=>?_)
  clear hK K
  refine fD (a':=?_) ?_ ?_
  rotate_left
  ·exact ap_ (N:=38)
  refine iE (i:=6) (N:=some 39) (bz 8 127) rfl rfl (eY HT_.out (by kernel_rfl)) (by decide) (fun K hK=>?_)
  refine Kd.mR Kd.string _ 9 rfl (N:=39) rfl (xs:=([(⟨#[114,101,99,118]⟩:ByteArray),jN,jO,(⟨#[59]⟩:ByteArray)]:List ByteArray)) (inner:=[.string (⟨#[114,101,99,118]⟩:ByteArray), .string jN, .string jO, .string (⟨#[59]⟩:ByteArray)]) (ok:=fun _=>True) (okp:=fun _=>True) rn_ ?hp (fun _ hk=>hk) trivial (Below.refl _ _) (Nat.le_refl _) (by simp) ?_;(case hp=>exact (dG.one (show Kd.M Kd.string _ _ _ (⟨#[114,101,99,118]⟩:ByteArray) [.string (⟨#[114,101,99,118]⟩:ByteArray)] from rfl) (dG.one (show Kd.M Kd.string _ _ _ jN [.string jN] from rfl) (dG.one (show Kd.M Kd.string _ _ _ jO [.string jO] from rfl) (dG.one (show Kd.M Kd.string _ _ _ (⟨#[59]⟩:ByteArray) [.string (⟨#[59]⟩:ByteArray)] from rfl) (dG.none _ _))))))
  intro ZK Y6 ho42 hb hg_ hnew_
  clear hg_ hnew_
  (first|rw [← q1.out] at ho42|(simp only [Int.reduceToNat] at ho42;rw [← q1.out] at ho42))
  have qK:=am (Kd.eD ho42 (aH kK))
  replace j3:=bbP j3 hb
  replace HB:=am (aA kK hb)
  clear hb ho42
  refine hK.out _ _ (mE j3.out) (fun hHeld=>?_)
  clear hK K
  refine fD (a':=?_) ?_ ?_
  rotate_left
  ·exact ap_ (N:=39)
  refine pr_ 7 2 (bz 8 255) HT_ ?_
  refine nG (lH HT_.out (by kernel_rfl)) ?_
  try go_wp2
  go_ret
  exact ⟨_,gM,gF qK.out,kK⟩
 rw [if_neg qh] at H
 have qG:(j6 == 5)=false:=beq_eq_false_iff_ne.mpr qh
 have qH:(j6 != 5)=true:=bne_iff_ne.mpr qh
 by_cases qi:j6=6
 ·rw [if_pos qi] at H
  have qL:(j6 == 6)=true:=beq_iff_eq.mpr qi
  have qM:(j6 != 6)=false:=bne_eq_false_iff_eq.mpr qi
  clear qi
  obtain ⟨Zh,hy_⟩:∃ y_:List ByteArray,y_=(([(⟨#[121,105,101,108,100]⟩:ByteArray),(⟨#[59]⟩:ByteArray)]:List ByteArray)):=⟨_,rfl⟩
  replace H:(some Zh)=some r:=rx_
  have q2:=am hy_
  clear hy_
  obtain rfl:=Option.some.inj H
  go_wp2_with (first|((with_reducible refine bY (N:=42) rfl ?_);refine Kd.oQ Kd.string _ 9 rfl (N:=42) rfl (xs:=([(⟨#[121,105,101,108,100]⟩:ByteArray),(⟨#[59]⟩:ByteArray)]:List ByteArray)) (inner:=[.string (⟨#[121,105,101,108,100]⟩:ByteArray), .string (⟨#[59]⟩:ByteArray)]) (ok:=fun _=>True) (okp:=fun _=>True) rn_ ?hp (fun _ hk=>hk) trivial (Below.refl _ _) (Nat.le_refl _) (by simp) ?_;(case hp=>exact (dG.one (show Kd.M Kd.string _ _ _ (⟨#[121,105,101,108,100]⟩:ByteArray) [.string (⟨#[121,105,101,108,100]⟩:ByteArray)] from rfl) (dG.one (show Kd.M Kd.string _ _ _ (⟨#[59]⟩:ByteArray) [.string (⟨#[59]⟩:ByteArray)] from rfl) (dG.none _ _))));intro ZL Y7 ho47 hb hg_ hnew_;clear hg_ hnew_;(first|rw [← q2.out] at ho47|(simp only [Int.reduceToNat] at ho47;rw [← q2.out] at ho47));have qN:=am (Kd.eD ho47 (aH kK));replace j3:=bbP j3 hb;replace HB:=am (aA kK hb);clear hb ho47))
  go_ret
  exact ⟨_,gM,gF qN.out,kK⟩
 rw [if_neg qi] at H
 have qL:(j6 == 6)=false:=beq_eq_false_iff_ne.mpr qi
 have qM:(j6 != 6)=true:=bne_iff_ne.mpr qi
 by_cases qj:j6=3
 ·rw [if_pos qj] at H
  have qO:(j6 == 3)=true:=beq_iff_eq.mpr qj
  have qP:(j6 != 3)=false:=bne_eq_false_iff_eq.mpr qj
  clear qj
  obtain ⟨jV,hy_⟩:∃ y_:List ByteArray,y_=(([(⟨#[119,104,105,108,101]⟩:ByteArray)]:List ByteArray)):=⟨_,rfl⟩
  replace H:((bL.f k j8 j9 ja).bind fun ju=>(if jV.length + ju.length < 8796093022208 then ((some (jV ++ ju:List ByteArray)).bind fun jE=>((bK.f k jc).bind fun jt=>(if jE.length + jt.length < 8796093022208 then (some (jE ++ jt)) else (none)))) else (none)))=some r:=rx_
  have q3:=am hy_
  clear hy_
  obtain ⟨ju,qQ,H⟩:=bsm H
  (try dsimp only at H)
  have ZM:=am qQ
  clear qQ
  by_cases zK:jV.length + ju.length < 8796093022208
  ·rw [if_pos zK] at H
   have qR:=am zK
   clear zK
   obtain ⟨jE,hy_⟩:∃ y_:List ByteArray,y_=(jV ++ ju):=⟨_,rfl⟩
   replace H:((bK.f k jc).bind fun jt=>(if jE.length + jt.length < 8796093022208 then (some (jE ++ jt)) else (none)))=some r:=rx_
   have qS:=am hy_
   clear hy_
   obtain ⟨jt,qU,H⟩:=bsm H
   (try dsimp only at H)
   have ZN:=am qU
   clear qU
   by_cases zL:jE.length + jt.length < 8796093022208
   ·rw [if_pos zL] at H
    have qV:=am zL
    clear zL
    obtain ⟨Zi,hy_⟩:∃ y_:List ByteArray,y_=(jE ++ jt):=⟨_,rfl⟩
    replace H:(some Zi)=some r:=rx_
    have qW:=am hy_
    clear hy_
    obtain rfl:=Option.some.inj H
    go_wp2_with (first|((with_reducible refine bY (N:=45) rfl ?_);refine Kd.oQ Kd.string _ 9 rfl (N:=45) rfl (xs:=([(⟨#[119,104,105,108,101]⟩:ByteArray)]:List ByteArray)) (inner:=[.string (⟨#[119,104,105,108,101]⟩:ByteArray)]) (ok:=fun _=>True) (okp:=fun _=>True) rn_ ?hp (fun _ hk=>hk) trivial (Below.refl _ _) (Nat.le_refl _) (by simp) ?_;(case hp=>exact (dG.one (show Kd.M Kd.string _ _ _ (⟨#[119,104,105,108,101]⟩:ByteArray) [.string (⟨#[119,104,105,108,101]⟩:ByteArray)] from rfl) (dG.none _ _)));intro Zj Y8 ho56 hb hg_ hnew_;clear hg_ hnew_;(first|rw [← q3.out] at ho56|(simp only [Int.reduceToNat] at ho56;rw [← q3.out] at ho56));have jx:=am (Kd.eD ho56 (aH kK));replace j3:=bbP j3 hb;replace HB:=am (aA kK hb);clear hb ho56;obtain ⟨zM,zN,zO,zP,zQ,zR,zS,zT,zU,zV,zW,zX,zY,zZ,J0,J1⟩:=fH j3.out)|((with_reducible refine aD (f:=74) rfl ?_);refine gl_ 48 Tryz.func74 #[.agg #[.int .i64 j8, .int .i64 j9, .slice ji ja.length jj]] ?_;(with_reducible refine (bL.calls k j8 j9 _ _ ja ju _ (aC_ (Kd.aU jv.out HB.out)) jw.out ZM.out).mono ?_);rintro e Y9 ⟨ZO,rfl,ho0,hb⟩;refine ⟨_,rfl,?_⟩;have jk:=am (Kd.eD (Kd.lW ho0 (Kd.iN (aR_ jx.out))) (aH kK));replace jx:=am (Kd.iJ (aR_ jx.out) (Kd.gP ho0) hb);replace j3:=bbP j3 hb;replace HB:=am (aA kK hb);(try clear hb);(try clear ho0);obtain ⟨qk,ql,Zk⟩:=Kd.eB jk.out;subst Zk)|((with_reducible refine dR (b:= .append) (xs:=#[.tmp 45, .tmp 48]) rfl ?_);at_builtin;refine Kd.iG Kd.string (w0:=w) w.heap.size rfl (.tmp 45) (.tmp 48) 29 9 (.string ⟨#[]⟩) 16 rfl Tryz.underlying29 kI rfl (by decide) (by omega) Zj jV ju _ _ _ (fun k_=>some k_≠(.slice qk ju.length ql:Value).ownBlock) (fun _=>False) rfl rfl ?aO ?aR (fun _ _ h=>h) (fun _ h=>h.elim) ?aF ?aB ?aS ?aL ?_;(case aR=>repeat (first|exact (Kd.bT jk.out).2.2|(with_reducible refine Kd.lS ?_ _)|(with_reducible refine Kd.kW ?_ _)|(with_reducible refine Kd.mP ?_)));(case aB=>exact kK);(case aF=>exact (fun k_ hk=>Kd.fresh' (Kd.iN (aR_ jk.out)) k_ hk));(case aO=>exact (gF (Kd.bS jx.out (fun _ hk=>hk.2))));(case aS=>exact (aH kK));(case aL=>have:=qR.out;omega);intro Zl Ya ho hb hg hat;rw [← qS.out] at ho;replace j3:=am (dZ (g:=j4) (o:= .cells #[.int .i64 j6, .int .i64 jl, .int .i64 jm, .int .i64 j8, .int .i64 j9, .slice ji ja.length jj, .slice jn jc.length jo, .slice jr jb.length js] 58 (0,0)) (aG_ j3.out) hg (Kd.kS jx.out j3.out (by decide)));replace jk:=am (Kd.iM (ok:=(fun _=>True)) (aR_ jk.out) hg hat);replace HB:=am (hb);have jy:=am (ho);clear jx ho hb hg hat;obtain ⟨J2,J3,J4,J5,J6,J7,J8,J9,Ja,Jb,Jc,Jd,Je,Jf,Jg,Jh⟩:=fH j3.out)|((with_reducible refine aD (f:=25) rfl ?_);refine gl_ 53 Tryz.func25 #[.slice jn jc.length jo] ?_;(with_reducible refine (ih_spec_l13Block k (by omega) _ _ jc jt _ (aC_ (Kd.aU jQ.out HB.out)) jR.out ZN.out).mono ?_);rintro e Yb ⟨ZP,rfl,ho0,hb⟩;refine ⟨_,rfl,?_⟩;have jF:=am (Kd.eD (Kd.lW (Kd.lW ho0 (Kd.iN (aR_ jk.out))) (Kd.iN (aR_ jy.out))) (aH kK));replace jk:=am (Kd.iJ (aR_ jk.out) (Kd.gP ho0) hb);replace jy:=am (Kd.iJ (aR_ jy.out) (Kd.gP ho0) hb);replace j3:=bbP j3 hb;replace HB:=am (aA kK hb);(try clear hb);(try clear ho0);obtain ⟨qX,qY,Zm⟩:=Kd.eB jF.out;subst Zm)|((with_reducible refine dR (b:= .append) (xs:=#[.tmp 50, .tmp 53]) rfl ?_);at_builtin;refine Kd.iG Kd.string (w0:=w) w.heap.size rfl (.tmp 50) (.tmp 53) 29 9 (.string ⟨#[]⟩) 16 rfl Tryz.underlying29 kI rfl (by decide) (by omega) Zl jE jt _ _ _ (fun k_=>some k_≠(.slice qk ju.length ql:Value).ownBlock∧some k_≠(.slice qX jt.length qY:Value).ownBlock) (fun _=>False) rfl rfl ?aO ?aR (fun _ _ h=>h) (fun _ h=>h.elim) ?aF ?aB ?aS ?aL ?_;(case aR=>repeat (first|exact (Kd.bT jF.out).2.2|(with_reducible refine Kd.lS ?_ _)|(with_reducible refine Kd.kW ?_ _)|(with_reducible refine Kd.mP ?_)));(case aB=>exact kK);(case aF=>exact (fun k_ hk=>⟨Kd.fresh' (Kd.iN (aR_ jk.out)) k_ hk,Kd.fresh' (Kd.iN (aR_ jF.out)) k_ hk⟩));(case aO=>exact (aR_ jy.out));(case aS=>exact (aH kK));(case aL=>have:=qV.out;omega);intro ZQ Yc ho hb hg hat;rw [← qW.out] at ho;replace j3:=am (dZ (g:=j4) (o:= .cells #[.int .i64 j6, .int .i64 jl, .int .i64 jm, .int .i64 j8, .int .i64 j9, .slice ji ja.length jj, .slice jn jc.length jo, .slice jr jb.length js] 58 (0,0)) (aG_ j3.out) hg (Kd.kS jy.out j3.out (by decide)));replace jk:=am (Kd.iM (ok:=(fun k_=>some k_≠(.slice qX jt.length qY:Value).ownBlock)) (gF (Kd.bS jk.out (fun _ hk=>⟨hk.2,hk.1.2⟩))) hg hat);replace jF:=am (Kd.iM (ok:=(fun k_=>some k_≠(.slice qk ju.length ql:Value).ownBlock)) (gF (Kd.bS jF.out (fun _ hk=>⟨hk.1.2,hk.2⟩))) hg hat);replace HB:=am (hb);have qZ:=am (ho);clear jy ho hb hg hat))
    go_ret
    exact ⟨_,gM,gF (Kd.bS qZ.out (fun _ hk=>trivial)),kK⟩
   rw [if_neg zL] at H
   exact absurd H (by simp)
  rw [if_neg zK] at H
  exact absurd H (by simp)
 rw [if_neg qj] at H
 have qO:(j6 == 3)=false:=beq_eq_false_iff_ne.mpr qj
 have qP:(j6 != 3)=true:=bne_iff_ne.mpr qj
 obtain ⟨jP,hy_⟩:∃ y_:List ByteArray,y_=(([(⟨#[105,102]⟩:ByteArray)]:List ByteArray)):=⟨_,rfl⟩
 replace H:((bL.f k j8 j9 ja).bind fun je=>(if jP.length + je.length < 8796093022208 then ((some (jP ++ je:List ByteArray)).bind fun jA=>((bK.f k jc).bind fun jd=>(if jA.length + jd.length < 8796093022208 then ((some (jA ++ jd:List ByteArray)).bind fun jp=>(if (jb.length:Int)=0 then (some jp) else (if jp.length < 8796093022208 then ((some (jp ++ [(⟨#[101,108,115,101]⟩:ByteArray)]:List ByteArray)).bind fun jq=>((bK.f k jb).bind fun jh=>(if jq.length + jh.length < 8796093022208 then (some (jq ++ jh)) else (none)))) else (none)))) else (none)))) else (none)))=some r:=rx_
 have jM:=am hy_
 clear hy_
 obtain ⟨je,z0,H⟩:=bsm H
 (try dsimp only at H)
 have Zw:=am z0
 clear z0
 by_cases Ji:jP.length + je.length < 8796093022208
 ·rw [if_pos Ji] at H
  have q4:=am Ji
  clear Ji
  obtain ⟨jA,hy_⟩:∃ y_:List ByteArray,y_=(jP ++ je):=⟨_,rfl⟩
  replace H:((bK.f k jc).bind fun jd=>(if jA.length + jd.length < 8796093022208 then ((some (jA ++ jd:List ByteArray)).bind fun jp=>(if (jb.length:Int)=0 then (some jp) else (if jp.length < 8796093022208 then ((some (jp ++ [(⟨#[101,108,115,101]⟩:ByteArray)]:List ByteArray)).bind fun jq=>((bK.f k jb).bind fun jh=>(if jq.length + jh.length < 8796093022208 then (some (jq ++ jh)) else (none)))) else (none)))) else (none)))=some r:=rx_
  have q5:=am hy_
  clear hy_
  obtain ⟨jd,z1,H⟩:=bsm H
  (try dsimp only at H)
  have Zx:=am z1
  clear z1
  by_cases Jj:jA.length + jd.length < 8796093022208
  ·rw [if_pos Jj] at H
   have q6:=am Jj
   clear Jj
   obtain ⟨jp,hy_⟩:∃ y_:List ByteArray,y_=(jA ++ jd):=⟨_,rfl⟩
   replace H:(if (jb.length:Int)=0 then (some jp) else (if jp.length < 8796093022208 then ((some (jp ++ [(⟨#[101,108,115,101]⟩:ByteArray)]:List ByteArray)).bind fun jq=>((bK.f k jb).bind fun jh=>(if jq.length + jh.length < 8796093022208 then (some (jq ++ jh)) else (none)))) else (none)))=some r:=rx_
   have q7:=am hy_
   clear hy_
   by_cases q8:(jb.length:Int)=0
   ·rw [if_pos q8] at H
    have z2:((jb.length:Int) == 0)=true:=beq_iff_eq.mpr q8
    have z3:((jb.length:Int) != 0)=false:=bne_eq_false_iff_eq.mpr q8
    clear q8
    obtain rfl:=Option.some.inj H
    go_wp2_with (first|((with_reducible refine bY (N:=55) rfl ?_);refine Kd.oQ Kd.string _ 9 rfl (N:=55) rfl (xs:=([(⟨#[105,102]⟩:ByteArray)]:List ByteArray)) (inner:=[.string (⟨#[105,102]⟩:ByteArray)]) (ok:=fun _=>True) (okp:=fun _=>True) rn_ ?hp (fun _ hk=>hk) trivial (Below.refl _ _) (Nat.le_refl _) (by simp) ?_;(case hp=>exact (dG.one (show Kd.M Kd.string _ _ _ (⟨#[105,102]⟩:ByteArray) [.string (⟨#[105,102]⟩:ByteArray)] from rfl) (dG.none _ _)));intro qm Yd ho73 hb hg_ hnew_;clear hg_ hnew_;(first|rw [← jM.out] at ho73|(simp only [Int.reduceToNat] at ho73;rw [← jM.out] at ho73));have jf:=am (Kd.eD ho73 (aH kK));replace j3:=bbP j3 hb;replace HB:=am (aA kK hb);clear hb ho73;obtain ⟨Jk,Jl,Jm,Jn,Jo,Jp,Jq,Jr,Js,Jt,Ju,Jv,Jw,Jx,Jy,Jz⟩:=fH j3.out)|((with_reducible refine aD (f:=74) rfl ?_);refine gl_ 58 Tryz.func74 #[.agg #[.int .i64 j8, .int .i64 j9, .slice ji ja.length jj]] ?_;(with_reducible refine (bL.calls k j8 j9 _ _ ja je _ (aC_ (Kd.aU jv.out HB.out)) jw.out Zw.out).mono ?_);rintro e Ye ⟨Zn,rfl,ho0,hb⟩;refine ⟨_,rfl,?_⟩;have j5:=am (Kd.eD (Kd.lW ho0 (Kd.iN (aR_ jf.out))) (aH kK));replace jf:=am (Kd.iJ (aR_ jf.out) (Kd.gP ho0) hb);replace j3:=bbP j3 hb;replace HB:=am (aA kK hb);(try clear hb);(try clear ho0);obtain ⟨qn,qo,Zo⟩:=Kd.eB j5.out;subst Zo)|((with_reducible refine dR (b:= .append) (xs:=#[.tmp 55, .tmp 58]) rfl ?_);at_builtin;refine Kd.iG Kd.string (w0:=w) w.heap.size rfl (.tmp 55) (.tmp 58) 29 9 (.string ⟨#[]⟩) 16 rfl Tryz.underlying29 kI rfl (by decide) (by omega) qm jP je _ _ _ (fun k_=>some k_≠(.slice qn je.length qo:Value).ownBlock) (fun _=>False) rfl rfl ?aO ?aR (fun _ _ h=>h) (fun _ h=>h.elim) ?aF ?aB ?aS ?aL ?_;(case aR=>repeat (first|exact (Kd.bT j5.out).2.2|(with_reducible refine Kd.lS ?_ _)|(with_reducible refine Kd.kW ?_ _)|(with_reducible refine Kd.mP ?_)));(case aB=>exact kK);(case aF=>exact (fun k_ hk=>Kd.fresh' (Kd.iN (aR_ j5.out)) k_ hk));(case aO=>exact (gF (Kd.bS jf.out (fun _ hk=>hk.2))));(case aS=>exact (aH kK));(case aL=>have:=q4.out;omega);intro qp Yf ho hb hg hat;rw [← q5.out] at ho;replace j3:=am (dZ (g:=j4) (o:= .cells #[.int .i64 j6, .int .i64 jl, .int .i64 jm, .int .i64 j8, .int .i64 j9, .slice ji ja.length jj, .slice jn jc.length jo, .slice jr jb.length js] 58 (0,0)) (aG_ j3.out) hg (Kd.kS jf.out j3.out (by decide)));replace j5:=am (Kd.iM (ok:=(fun _=>True)) (aR_ j5.out) hg hat);replace HB:=am (hb);have jg:=am (ho);clear jf ho hb hg hat;obtain ⟨JA,JB,JC,JD,JE,JF,JG,JH,JI,JJ,JK,JL,JM,JN,JO,JP⟩:=fH j3.out)|((with_reducible refine aD (f:=25) rfl ?_);refine gl_ 63 Tryz.func25 #[.slice jn jc.length jo] ?_;(with_reducible refine (ih_spec_l13Block k (by omega) _ _ jc jd _ (aC_ (Kd.aU jQ.out HB.out)) jR.out Zx.out).mono ?_);rintro e Yg ⟨Zp,rfl,ho0,hb⟩;refine ⟨_,rfl,?_⟩;have j7:=am (Kd.eD (Kd.lW (Kd.lW ho0 (Kd.iN (aR_ j5.out))) (Kd.iN (aR_ jg.out))) (aH kK));replace j5:=am (Kd.iJ (aR_ j5.out) (Kd.gP ho0) hb);replace jg:=am (Kd.iJ (aR_ jg.out) (Kd.gP ho0) hb);replace j3:=bbP j3 hb;replace HB:=am (aA kK hb);(try clear hb);(try clear ho0);obtain ⟨z4,z5,Zq⟩:=Kd.eB j7.out;subst Zq)|((with_reducible refine dR (b:= .append) (xs:=#[.tmp 60, .tmp 63]) rfl ?_);at_builtin;refine Kd.iG Kd.string (w0:=w) w.heap.size rfl (.tmp 60) (.tmp 63) 29 9 (.string ⟨#[]⟩) 16 rfl Tryz.underlying29 kI rfl (by decide) (by omega) qp jA jd _ _ _ (fun k_=>some k_≠(.slice qn je.length qo:Value).ownBlock∧some k_≠(.slice z4 jd.length z5:Value).ownBlock) (fun _=>False) rfl rfl ?aO ?aR (fun _ _ h=>h) (fun _ h=>h.elim) ?aF ?aB ?aS ?aL ?_;(case aR=>repeat (first|exact (Kd.bT j7.out).2.2|(with_reducible refine Kd.lS ?_ _)|(with_reducible refine Kd.kW ?_ _)|(with_reducible refine Kd.mP ?_)));(case aB=>exact kK);(case aF=>exact (fun k_ hk=>⟨Kd.fresh' (Kd.iN (aR_ j5.out)) k_ hk,Kd.fresh' (Kd.iN (aR_ j7.out)) k_ hk⟩));(case aO=>exact (aR_ jg.out));(case aS=>exact (aH kK));(case aL=>have:=q6.out;omega);intro z6 Yh ho hb hg hat;rw [← q7.out] at ho;replace j3:=am (dZ (g:=j4) (o:= .cells #[.int .i64 j6, .int .i64 jl, .int .i64 jm, .int .i64 j8, .int .i64 j9, .slice ji ja.length jj, .slice jn jc.length jo, .slice jr jb.length js] 58 (0,0)) (aG_ j3.out) hg (Kd.kS jg.out j3.out (by decide)));replace j5:=am (Kd.iM (ok:=(fun k_=>some k_≠(.slice z4 jd.length z5:Value).ownBlock)) (gF (Kd.bS j5.out (fun _ hk=>⟨hk.2,hk.1.2⟩))) hg hat);replace j7:=am (Kd.iM (ok:=(fun k_=>some k_≠(.slice qn je.length qo:Value).ownBlock)) (gF (Kd.bS j7.out (fun _ hk=>⟨hk.1.2,hk.2⟩))) hg hat);replace HB:=am (hb);have jG:=am (ho);clear jg ho hb hg hat;obtain ⟨JQ,JR,JS,JT,JU,JV,JW,JX,JY,JZ,Q0,Q1,Q2,Q3,Q4,Q5⟩:=fH j3.out))
    go_ret
    exact ⟨_,gM,gF (Kd.bS jG.out (fun _ hk=>trivial)),kK⟩
   rw [if_neg q8] at H
   have z2:((jb.length:Int) == 0)=false:=beq_eq_false_iff_ne.mpr q8
   have z3:((jb.length:Int) != 0)=true:=bne_iff_ne.mpr q8
   have Zy:¬ (jb=[]):=fun h_=>q8 (by rw [h_];rfl)
   by_cases Q6:jp.length < 8796093022208
   ·rw [if_pos Q6] at H
    have z7:=am Q6
    clear Q6
    obtain ⟨jq,hy_⟩:∃ y_:List ByteArray,y_=(jp ++ [(⟨#[101,108,115,101]⟩:ByteArray)]):=⟨_,rfl⟩
    replace H:((bK.f k jb).bind fun jh=>(if jq.length + jh.length < 8796093022208 then (some (jq ++ jh)) else (none)))=some r:=rx_
    have z8:=am hy_
    clear hy_
    obtain ⟨jh,z9,H⟩:=bsm H
    (try dsimp only at H)
    have ZR:=am z9
    clear z9
    by_cases Q7:jq.length + jh.length < 8796093022208
    ·rw [if_pos Q7] at H
     have za:=am Q7
     clear Q7
     obtain ⟨Zr,hy_⟩:∃ y_:List ByteArray,y_=(jq ++ jh):=⟨_,rfl⟩
     replace H:(some Zr)=some r:=rx_
     have zb:=am hy_
     clear hy_
     obtain rfl:=Option.some.inj H
     go_wp2_with (first|((with_reducible refine bY (N:=55) rfl ?_);refine Kd.oQ Kd.string _ 9 rfl (N:=55) rfl (xs:=([(⟨#[105,102]⟩:ByteArray)]:List ByteArray)) (inner:=[.string (⟨#[105,102]⟩:ByteArray)]) (ok:=fun _=>True) (okp:=fun _=>True) rn_ ?hp (fun _ hk=>hk) trivial (Below.refl _ _) (Nat.le_refl _) (by simp) ?_;(case hp=>exact (dG.one (show Kd.M Kd.string _ _ _ (⟨#[105,102]⟩:ByteArray) [.string (⟨#[105,102]⟩:ByteArray)] from rfl) (dG.none _ _)));intro qm Yi ho89 hb hg_ hnew_;clear hg_ hnew_;(first|rw [← jM.out] at ho89|(simp only [Int.reduceToNat] at ho89;rw [← jM.out] at ho89));have jf:=am (Kd.eD ho89 (aH kK));replace j3:=bbP j3 hb;replace HB:=am (aA kK hb);clear hb ho89;obtain ⟨Q8,Q9,Qa,Qb,Qc,Qd,Qe,Qf,Qg,Qh,Qi,Qj,Qk,Ql,Qm,Qn⟩:=fH j3.out)|((with_reducible refine aD (f:=74) rfl ?_);refine gl_ 58 Tryz.func74 #[.agg #[.int .i64 j8, .int .i64 j9, .slice ji ja.length jj]] ?_;(with_reducible refine (bL.calls k j8 j9 _ _ ja je _ (aC_ (Kd.aU jv.out HB.out)) jw.out Zw.out).mono ?_);rintro e Yj ⟨Zn,rfl,ho0,hb⟩;refine ⟨_,rfl,?_⟩;have j5:=am (Kd.eD (Kd.lW ho0 (Kd.iN (aR_ jf.out))) (aH kK));replace jf:=am (Kd.iJ (aR_ jf.out) (Kd.gP ho0) hb);replace j3:=bbP j3 hb;replace HB:=am (aA kK hb);(try clear hb);(try clear ho0);obtain ⟨jH,jI,Zs⟩:=Kd.eB j5.out;subst Zs)|((with_reducible refine dR (b:= .append) (xs:=#[.tmp 55, .tmp 58]) rfl ?_);at_builtin;refine Kd.iG Kd.string (w0:=w) w.heap.size rfl (.tmp 55) (.tmp 58) 29 9 (.string ⟨#[]⟩) 16 rfl Tryz.underlying29 kI rfl (by decide) (by omega) qm jP je _ _ _ (fun k_=>some k_≠(.slice jH je.length jI:Value).ownBlock) (fun _=>False) rfl rfl ?aO ?aR (fun _ _ h=>h) (fun _ h=>h.elim) ?aF ?aB ?aS ?aL ?_;(case aR=>repeat (first|exact (Kd.bT j5.out).2.2|(with_reducible refine Kd.lS ?_ _)|(with_reducible refine Kd.kW ?_ _)|(with_reducible refine Kd.mP ?_)));(case aB=>exact kK);(case aF=>exact (fun k_ hk=>Kd.fresh' (Kd.iN (aR_ j5.out)) k_ hk));(case aO=>exact (gF (Kd.bS jf.out (fun _ hk=>hk.2))));(case aS=>exact (aH kK));(case aL=>have:=q4.out;omega);intro qp Yk ho hb hg hat;rw [← q5.out] at ho;replace j3:=am (dZ (g:=j4) (o:= .cells #[.int .i64 j6, .int .i64 jl, .int .i64 jm, .int .i64 j8, .int .i64 j9, .slice ji ja.length jj, .slice jn jc.length jo, .slice jr jb.length js] 58 (0,0)) (aG_ j3.out) hg (Kd.kS jf.out j3.out (by decide)));replace j5:=am (Kd.iM (ok:=(fun _=>True)) (aR_ j5.out) hg hat);replace HB:=am (hb);have jg:=am (ho);clear jf ho hb hg hat;obtain ⟨Qo,Qp,Qq,Qr,Qs,Qt,Qu,Qv,Qw,Qx,Qy,Qz,QA,QB,QC,QD⟩:=fH j3.out)|((with_reducible refine aD (f:=25) rfl ?_);refine gl_ 63 Tryz.func25 #[.slice jn jc.length jo] ?_;(with_reducible refine (ih_spec_l13Block k (by omega) _ _ jc jd _ (aC_ (Kd.aU jQ.out HB.out)) jR.out Zx.out).mono ?_);rintro e Yl ⟨Zp,rfl,ho0,hb⟩;refine ⟨_,rfl,?_⟩;have j7:=am (Kd.eD (Kd.lW (Kd.lW ho0 (Kd.iN (aR_ j5.out))) (Kd.iN (aR_ jg.out))) (aH kK));replace j5:=am (Kd.iJ (aR_ j5.out) (Kd.gP ho0) hb);replace jg:=am (Kd.iJ (aR_ jg.out) (Kd.gP ho0) hb);replace j3:=bbP j3 hb;replace HB:=am (aA kK hb);(try clear hb);(try clear ho0);obtain ⟨jK,jL,Zt⟩:=Kd.eB j7.out;subst Zt)|((with_reducible refine dR (b:= .append) (xs:=#[.tmp 60, .tmp 63]) rfl ?_);at_builtin;refine Kd.iG Kd.string (w0:=w) w.heap.size rfl (.tmp 60) (.tmp 63) 29 9 (.string ⟨#[]⟩) 16 rfl Tryz.underlying29 kI rfl (by decide) (by omega) qp jA jd _ _ _ (fun k_=>some k_≠(.slice jH je.length jI:Value).ownBlock∧some k_≠(.slice jK jd.length jL:Value).ownBlock) (fun _=>False) rfl rfl ?aO ?aR (fun _ _ h=>h) (fun _ h=>h.elim) ?aF ?aB ?aS ?aL ?_;(case aR=>repeat (first|exact (Kd.bT j7.out).2.2|(with_reducible refine Kd.lS ?_ _)|(with_reducible refine Kd.kW ?_ _)|(with_reducible refine Kd.mP ?_)));(case aB=>exact kK);(case aF=>exact (fun k_ hk=>⟨Kd.fresh' (Kd.iN (aR_ j5.out)) k_ hk,Kd.fresh' (Kd.iN (aR_ j7.out)) k_ hk⟩));(case aO=>exact (aR_ jg.out));(case aS=>exact (aH kK));(case aL=>have:=q6.out;omega);intro z6 Ym ho hb hg hat;rw [← q7.out] at ho;replace j3:=am (dZ (g:=j4) (o:= .cells #[.int .i64 j6, .int .i64 jl, .int .i64 jm, .int .i64 j8, .int .i64 j9, .slice ji ja.length jj, .slice jn jc.length jo, .slice jr jb.length js] 58 (0,0)) (aG_ j3.out) hg (Kd.kS jg.out j3.out (by decide)));replace j5:=am (Kd.iM (ok:=(fun k_=>some k_≠(.slice jK jd.length jL:Value).ownBlock)) (gF (Kd.bS j5.out (fun _ hk=>⟨hk.2,hk.1.2⟩))) hg hat);replace j7:=am (Kd.iM (ok:=(fun k_=>some k_≠(.slice jH je.length jI:Value).ownBlock)) (gF (Kd.bS j7.out (fun _ hk=>⟨hk.1.2,hk.2⟩))) hg hat);replace HB:=am (hb);have jG:=am (ho);clear jg ho hb hg hat;obtain ⟨QE,QF,QG,QH,QI,QJ,QK,QL,QM,QN,QO,QP,QQ,QR,QS,QT⟩:=fH j3.out)|((with_reducible refine dR (b:= .append) (xs:=#[.tmp 70, .tmp 71]) rfl ?_);at_builtin;refine Kd.kF Kd.string (w0:=w) w.heap.size rfl (.tmp 70) (.tmp 71) 29 9 (.string ⟨#[]⟩) 16 rfl Tryz.underlying29 kI rfl (by decide) (by omega) z6 jp (⟨#[101,108,115,101]⟩:ByteArray) [.string (⟨#[101,108,115,101]⟩:ByteArray)] (fun k_=>some k_≠(.slice jH je.length jI:Value).ownBlock∧some k_≠(.slice jK jd.length jL:Value).ownBlock) (fun _=>False) rfl rfl ?aP (fun _ hk=>hk.elim) ?aF ?aO ?aB ?aS ?aL ?_;(case aP=>exact rfl);(case aB=>exact kK);(case aF=>exact (fun k_ hk=>⟨Kd.fresh' (Kd.iN (aR_ j5.out)) k_ hk,Kd.fresh' (Kd.iN (aR_ j7.out)) k_ hk⟩));(case aO=>exact (aR_ jG.out));(case aS=>exact (aH kK));(case aL=>have:=z7.out;omega);intro Zu Yn ho hb hg hat;rw [← z8.out] at ho;replace j3:=am (dZ (g:=j4) (o:= .cells #[.int .i64 j6, .int .i64 jl, .int .i64 jm, .int .i64 j8, .int .i64 j9, .slice ji ja.length jj, .slice jn jc.length jo, .slice jr jb.length js] 58 (0,0)) (aG_ j3.out) hg (Kd.kS jG.out j3.out (by decide)));replace j5:=am (Kd.iM (ok:=(fun k_=>some k_≠(.slice jK jd.length jL:Value).ownBlock)) (aR_ j5.out) hg hat);replace j7:=am (Kd.iM (ok:=(fun k_=>some k_≠(.slice jH je.length jI:Value).ownBlock)) (aR_ j7.out) hg hat);replace HB:=am (hb);have jz:=am (ho);clear jG ho hb hg hat;obtain ⟨zc,zd,ze,zf,zg,zh,zi,zj,zk,zl,zm,zn,zo,zp,zq,zr⟩:=fH j3.out)|((with_reducible refine aD (f:=25) rfl ?_);refine gl_ 76 Tryz.func25 #[.slice jr jb.length js] ?_;(with_reducible refine (ih_spec_l13Block k (by omega) _ _ jb jh _ (aC_ (Kd.aU qs.out HB.out)) qt.out ZR.out).mono ?_);rintro e ZS ⟨ZT,rfl,ho0,hb⟩;refine ⟨_,rfl,?_⟩;have jJ:=am (Kd.eD (Kd.lW (Kd.lW (Kd.lW ho0 (Kd.iN (aR_ j5.out))) (Kd.iN (aR_ j7.out))) (Kd.iN (aR_ jz.out))) (aH kK));replace j5:=am (Kd.iJ (aR_ j5.out) (Kd.gP ho0) hb);replace j7:=am (Kd.iJ (aR_ j7.out) (Kd.gP ho0) hb);replace jz:=am (Kd.iJ (aR_ jz.out) (Kd.gP ho0) hb);replace j3:=bbP j3 hb;replace HB:=am (aA kK hb);(try clear hb);(try clear ho0);obtain ⟨jW,jX,zs⟩:=Kd.eB jJ.out;subst zs)|((with_reducible refine dR (b:= .append) (xs:=#[.tmp 73, .tmp 76]) rfl ?_);at_builtin;refine Kd.iG Kd.string (w0:=w) w.heap.size rfl (.tmp 73) (.tmp 76) 29 9 (.string ⟨#[]⟩) 16 rfl Tryz.underlying29 kI rfl (by decide) (by omega) Zu jq jh _ _ _ (fun k_=>some k_≠(.slice jH je.length jI:Value).ownBlock∧some k_≠(.slice jK jd.length jL:Value).ownBlock∧some k_≠(.slice jW jh.length jX:Value).ownBlock) (fun _=>False) rfl rfl ?aO ?aR (fun _ _ h=>h) (fun _ h=>h.elim) ?aF ?aB ?aS ?aL ?_;(case aR=>repeat (first|exact (Kd.bT jJ.out).2.2|(with_reducible refine Kd.lS ?_ _)|(with_reducible refine Kd.kW ?_ _)|(with_reducible refine Kd.mP ?_)));(case aB=>exact kK);(case aF=>exact (fun k_ hk=>⟨Kd.fresh' (Kd.iN (aR_ j5.out)) k_ hk,Kd.fresh' (Kd.iN (aR_ j7.out)) k_ hk,Kd.fresh' (Kd.iN (aR_ jJ.out)) k_ hk⟩));(case aO=>exact (gF (Kd.bS jz.out (fun _ hk=>⟨hk.1.1,⟨hk.1.2,hk.2⟩⟩))));(case aS=>exact (aH kK));(case aL=>have:=za.out;omega);intro ZU ZV ho hb hg hat;rw [← zb.out] at ho;replace j3:=am (dZ (g:=j4) (o:= .cells #[.int .i64 j6, .int .i64 jl, .int .i64 jm, .int .i64 j8, .int .i64 j9, .slice ji ja.length jj, .slice jn jc.length jo, .slice jr jb.length js] 58 (0,0)) (aG_ j3.out) hg (Kd.kS jz.out j3.out (by decide)));replace j5:=am (Kd.iM (ok:=(fun k_=>some k_≠(.slice jK jd.length jL:Value).ownBlock∧some k_≠(.slice jW jh.length jX:Value).ownBlock)) (gF (Kd.bS j5.out (fun _ hk=>⟨⟨hk.1.1,hk.2⟩,hk.1.2⟩))) hg hat);replace j7:=am (Kd.iM (ok:=(fun k_=>some k_≠(.slice jH je.length jI:Value).ownBlock∧some k_≠(.slice jW jh.length jX:Value).ownBlock)) (gF (Kd.bS j7.out (fun _ hk=>⟨⟨hk.1.1,hk.2⟩,hk.1.2⟩))) hg hat);replace jJ:=am (Kd.iM (ok:=(fun k_=>some k_≠(.slice jH je.length jI:Value).ownBlock∧some k_≠(.slice jK jd.length jL:Value).ownBlock)) (gF (Kd.bS jJ.out (fun _ hk=>⟨⟨hk.1.1.2,hk.1.2⟩,hk.2⟩))) hg hat);replace HB:=am (hb);have zt:=am (ho);clear jz ho hb hg hat))
     go_ret
     exact ⟨_,gM,gF (Kd.bS zt.out (fun _ hk=>trivial)),kK⟩
    rw [if_neg Q7] at H
    exact absurd H (by simp)
   rw [if_neg Q6] at H
   exact absurd H (by simp)
  rw [if_neg Jj] at H
  exact absurd H (by simp)
 rw [if_neg Ji] at H
 exact absurd H (by simp)
theorem bK.step (k:Nat) (ih_spec_l13Stmt:∀ m,m < k→bO.dJ m) (ih_spec_l13Block:∀ m,m < k→bK.dJ m):bK.dJ k:=by
 intro A0 c0 l0 r w hr0 hc0 h
 cases k with
 |zero=>exact absurd h (by simp [bK.f])
 |succ k=>
 simp only [bK.f] at h
 have hu58:=Tryz.underlying58
 have jK:=am hr0
 have jP:=am hc0
 clear hr0 hc0
 have HB:=am (Below.refl w.heap.size w)
 have H:(bK.l0 k l0 (([(⟨#[123]⟩:ByteArray)]:List ByteArray)) 0)=some r:=h
 clear h
 obtain ⟨jI,hy_⟩:∃ y_:List ByteArray,y_=(([(⟨#[123]⟩:ByteArray)]:List ByteArray)):=⟨_,rfl⟩
 replace H:(bK.l0 k l0 jI 0)=some r:=rx_
 have jl:=am hy_
 clear hy_
 have H':=am H
 clear H
 go_enter Tryz.func25,Tryz.ntmps25
 go_wp2_with (first|((with_reducible refine bY (N:=5) rfl ?_);refine Kd.oQ Kd.string _ 9 rfl (N:=5) rfl (xs:=([(⟨#[123]⟩:ByteArray)]:List ByteArray)) (inner:=[.string (⟨#[123]⟩:ByteArray)]) (ok:=fun _=>True) (okp:=fun _=>True) rn_ ?hp (fun _ hk=>hk) trivial (Below.refl _ _) (Nat.le_refl _) (by simp) ?_;(case hp=>exact (dG.one (show Kd.M Kd.string _ _ _ (⟨#[123]⟩:ByteArray) [.string (⟨#[123]⟩:ByteArray)] from rfl) (dG.none _ _)));intro jQ w2 ho3 hb hg_ hnew_;clear hg_ hnew_;(first|rw [← jl.out] at ho3|(simp only [Int.reduceToNat] at ho3;rw [← jl.out] at ho3));have jv:=am (Kd.eD ho3 (aH dQ));replace HB:=am (aA dQ hb);clear hb ho3))
 go_loopg [3,4] k (fun kq v3 v4 w'=>∃ (j4:List ByteArray) (j3:Int),v4= .int .i64 j3∧Aside0 (bK.l0 kq l0 j4 j3=some r)∧Aside0 (kq≤k)∧Aside0 (Kd.R Kd.string 9 w' w.heap.size (fun _=>True) v3 j4)∧Aside0 (Below w.heap.size w w'))
 case atStart=>exact ⟨(jI),(0),sd_,H',⟨Nat.le_refl _⟩,⟨gF jv.out⟩,⟨dQ⟩⟩
 case round=>
  clear H'
  obtain ⟨j4,j3,rfl,HA,jw,j5,HB⟩:=hrel
  cases gk with
  |zero=>exact absurd HA.out (by simp [bK.l0])
  |succ k1=>
   have H:=HA.out
   clear HA
   simp only [bK.l0] at H
   by_cases c4:j3 < (l0.length:Int)
   ·rw [if_pos c4] at H
    have jx:decide (j3 < (l0.length:Int))=true:=decide_eq_true c4
    clear c4
    by_cases c5:0≤j3
    ·rw [if_pos c5] at H
     have jL:decide (0≤j3)=true:=decide_eq_true c5
     clear c5
     obtain ⟨jm,A6,H⟩:=bsa H
     (try dsimp only at H)
     by_cases c7:j4.length + jm.length < 8796093022208
     ·rw [if_pos c7] at H
      have jy:=am c7
      clear c7
      obtain ⟨jJ,hy_⟩:∃ y_:List ByteArray,y_=(j4 ++ jm):=⟨_,rfl⟩
      replace H:(bK.l0 k1 l0 jJ (wrap64 (j3 + 1)))=some r:=rx_
      have jz:=am hy_
      clear hy_
      have H':=am H
      clear H
      have jA:0≤(j3:Int):=of_decide_eq_true fA
      have jB:j3 < (l0.length:Int):=of_decide_eq_true fA
      obtain ⟨jM,jn,jo,jp,jq,jr,js,jN,j6,j7,j8,j9,ja,jb,jc,jd,hl27_5,hi27_5,hl27_6,hi27_6,hl27_7,hi27_7⟩:=vJ jK.out j3 jA jB
      cases jN
      replace j6:=(HB.out.cell (World.block_lt_of_cell? w _ j6)).trans j6
      replace j7:=(HB.out.cell (World.block_lt_of_cell? w _ j7)).trans j7
      replace j8:=(HB.out.cell (World.block_lt_of_cell? w _ j8)).trans j8
      replace j9:=(HB.out.cell (World.block_lt_of_cell? w _ j9)).trans j9
      replace ja:=(HB.out.cell (World.block_lt_of_cell? w _ ja)).trans ja
      replace jb:=(HB.out.cell (World.block_lt_of_cell? w _ jb)).trans jb
      replace jc:=(HB.out.cell (World.block_lt_of_cell? w _ jc)).trans jc
      replace jd:=(HB.out.cell (World.block_lt_of_cell? w _ jd)).trans jd
      have jf:=am hi27_5
      have jg:=am hl27_5
      clear hi27_5 hl27_5
      have jh:=am hi27_6
      have ji:=am hl27_6
      clear hi27_6 hl27_6
      have jj:=am hi27_7
      have jk:=am hl27_7
      clear hi27_7 hl27_7
      replace jA:=eq_true jA
      replace jB:=eq_true jB
      go_wp2_with (first|((with_reducible refine aD (f:=49) rfl ?_);refine gl_ 17 Tryz.func49 #[.agg #[.int .i64 ((aJ l0 j3).f0), .int .i64 ((aJ l0 j3).f1), .int .i64 ((aJ l0 j3).f2), .int .i64 ((aJ l0 j3).f3.f0), .int .i64 ((aJ l0 j3).f3.f1), .slice jn ((aJ l0 j3).f3.f2).length jo, .slice jp ((aJ l0 j3).f4).length jq, .slice jr ((aJ l0 j3).f5).length js]] ?_;(with_reducible refine (ih_spec_l13Stmt k1 (by have:=jw.out;omega) ((aJ l0 j3).f0) ((aJ l0 j3).f1) ((aJ l0 j3).f2) ((aJ l0 j3).f3.f0) ((aJ l0 j3).f3.f1) _ _ ((aJ l0 j3).f3.f2) _ _ ((aJ l0 j3).f4) _ _ ((aJ l0 j3).f5) jm _ (aC_ (Kd.aU jf.out HB.out)) jg.out (aC_ (Kd.aU jh.out HB.out)) ji.out (aC_ (Kd.aU jj.out HB.out)) jk.out A6.out).mono ?_);rintro e w8 ⟨jR,rfl,ho0,hb⟩;refine ⟨_,rfl,?_⟩;have je:=am (Kd.eD (Kd.lW ho0 (Kd.iN (aR_ j5.out))) (aH dQ));replace j5:=am (Kd.iJ (aR_ j5.out) (Kd.gP ho0) hb);replace HB:=am (aA dQ hb);(try clear hb);(try clear ho0);obtain ⟨jC,jD,jE⟩:=Kd.eB je.out;subst jE)|((with_reducible refine dR (b:= .append) (xs:=#[.tmp 12, .tmp 17]) rfl ?_);at_builtin;refine Kd.iG Kd.string (w0:=w) w.heap.size rfl (.tmp 12) (.tmp 17) 29 9 (.string ⟨#[]⟩) 16 rfl Tryz.underlying29 kI rfl (by decide) (by omega) u3 j4 jm _ _ _ (fun k_=>some k_≠(.slice jC jm.length jD:Value).ownBlock) (fun _=>False) rfl rfl ?aO ?aR (fun _ _ h=>h) (fun _ h=>h.elim) ?aF ?aB ?aS ?aL ?_;(case aR=>repeat (first|exact (Kd.bT je.out).2.2|(with_reducible refine Kd.lS ?_ _)|(with_reducible refine Kd.kW ?_ _)|(with_reducible refine Kd.mP ?_)));(case aB=>exact dQ);(case aF=>exact (fun k_ hk=>Kd.fresh' (Kd.iN (aR_ je.out)) k_ hk));(case aO=>exact (gF (Kd.bS j5.out (fun _ hk=>hk.2))));(case aS=>exact (aH dQ));(case aL=>have:=jy.out;omega);intro jS w9 ho hb hg hat;rw [← jz.out] at ho;replace je:=am (Kd.iM (ok:=(fun _=>True)) (aR_ je.out) hg hat);replace HB:=am (hb);have jF:=am (ho);clear j5 ho hb hg hat))
      go_roundg k1
      case measure=>have:=jw.out;omega
      case rel=>exact ⟨(jJ),(wrap64 (j3 + 1)),sd_,H',⟨by have:=jw.out;omega⟩,⟨gF (Kd.bS jF.out (fun _ hk=>trivial))⟩,⟨dQ⟩⟩
     rw [if_neg c7] at H
     exact absurd H (by simp)
    rw [if_neg c5] at H
    exact absurd H (by simp)
   rw [if_neg c4] at H
   have jx:decide (j3 < (l0.length:Int))=false:=decide_eq_false c4
   clear c4
   by_cases ju:j4.length < 8796093022208
   ·rw [if_pos ju] at H
    have jt:=am ju
    clear ju
    obtain ⟨jO,hy_⟩:∃ y_:List ByteArray,y_=(j4 ++ [(⟨#[125]⟩:ByteArray)]):=⟨_,rfl⟩
    replace H:(some jO)=some r:=rx_
    have jG:=am hy_
    clear hy_
    obtain rfl:=Option.some.inj H
    go_wp2_with (first|((with_reducible refine dR (b:= .append) (xs:=#[.tmp 19, .tmp 20]) rfl ?_);at_builtin;refine Kd.kF Kd.string (w0:=w) w.heap.size rfl (.tmp 19) (.tmp 20) 29 9 (.string ⟨#[]⟩) 16 rfl Tryz.underlying29 kI rfl (by decide) (by omega) u3 j4 (⟨#[125]⟩:ByteArray) [.string (⟨#[125]⟩:ByteArray)] (fun _=>True) (fun _=>False) rfl rfl ?aP (fun _ hk=>hk.elim) ?aF ?aO ?aB ?aS ?aL ?_;(case aP=>exact rfl);(case aB=>exact dQ);(case aF=>exact (fun _ _=>trivial));(case aO=>exact (aR_ j5.out));(case aS=>exact (aH dQ));(case aL=>have:=jt.out;omega);intro jT jU ho hb hg hat;rw [← jG.out] at ho;replace HB:=am (hb);have jH:=am (ho);clear j5 ho hb hg hat))
    go_ret
    exact ⟨_,gM,gF jH.out,dQ⟩
   rw [if_neg ju] at H
   exact absurd H (by simp)
theorem bO.calls_all (k:Nat):bO.dJ k∧bK.dJ k:=by
 induction k using Nat.strongRecOn with
 | _ k ih=>exact ⟨bO.step k (ih_spec_l13Stmt:=fun m hm=>(ih m hm).1) (ih_spec_l13Block:=fun m hm=>(ih m hm).2),bK.step k (ih_spec_l13Stmt:=fun m hm=>(ih m hm).1) (ih_spec_l13Block:=fun m hm=>(ih m hm).2)⟩
theorem bO.calls (k:Nat):bO.dJ k:=(bO.calls_all k).1
theorem bK.calls (k:Nat):bK.dJ k:=(bO.calls_all k).2
theorem bI.mono_l:∀ k,(∀ y0 y1,LeO (bI.j0 k y0 y1) (bI.j0 (k + 1) y0 y1))∧(∀ y0 y1,LeO (bI.j1 k y0 y1) (bI.j1 (k + 1) y0 y1))∧(∀ y0 y1 y2,LeO (bI.l0 k y0 y1 y2) (bI.l0 (k + 1) y0 y1 y2))
 |0=>⟨fun _ _ r h=>by simp [bI.j0] at h,fun _ _ r h=>by simp [bI.j1] at h,fun _ _ _ r h=>by simp [bI.l0] at h⟩
 |k + 1=>by
  obtain ⟨ih0,ih1,ih2⟩:=bI.mono_l k
  refine ⟨?_,?_,?_⟩
  ·intro y0 y1
   unfold bI.j0
   exact mo_
  ·intro y0 y1
   unfold bI.j1
   exact mo_
  ·intro y0 y1 y2
   unfold bI.l0
   exact mo_
theorem bI.mono:∀ a0 k,LeO (bI.f k a0) (bI.f (k + 1) a0):=by
 intro a0 k
 obtain ⟨ih0,ih1,ih2⟩:=bI.mono_l k
 unfold bI.f
 exact mo_
theorem bI.calls (k:Nat) (a0:Int) (r:Int) (w:World) (h:bI.f k a0=some r):
  Calls Tryz.prog 98 #[.int .u8 a0] w fun e w'=>e= .returned (.int .i64 r)∧gQ w w':=by
 have H:(if a0≥48 then (bI.j0 k a0 (decide (a0≤57))) else (bI.j0 k a0 false))=some r:=h
 clear h
 have jk:=am H
 clear H
 go_enter Tryz.func98,Tryz.ntmps98
 go_upto_region 1 with (fail)
 go_cut [5] (fun v5 wc=>∃ (kq:Nat) (j7:Bool),v5= .bool j7∧Aside0 (bI.j0 kq a0 j7=some r)∧Aside0 (kq≤k)∧gQ w wc)
 case first=>
  have H:=jk.out
  clear jk
  by_cases c3:a0≥48
  ·rw [if_pos c3] at H
   have j5:decide (48≤a0)=true:=decide_eq_true c3
   clear c3
   (first|rw [j5]|(simp only [fI,fM];rw [j5])|skip)
   have H':=am H
   clear H
   go_wp2
   go_meet
   case rel=>exact ⟨_,(decide (a0≤57)),sd_,H',⟨by first|omega|exact Nat.le_refl _⟩,fJ⟩
  rw [if_neg c3] at H
  have j5:decide (48≤a0)=false:=decide_eq_false c3
  clear c3
  (first|rw [j5]|(simp only [fI,fM];rw [j5])|skip)
  have H':=am H
  clear H
  go_wp2
  go_meet
  case rel=>exact ⟨_,(false),sd_,H',⟨by first|omega|exact Nat.le_refl _⟩,fJ⟩
 case rest=>
  clear jk
  obtain ⟨kq,j7,rfl,HA,HJ1,⟨mc1,rfl⟩⟩:=hcut
  cases kq with
  |zero=>exact absurd HA.out (by simp [bI.j0])
  |succ jq=>
   have H:=HA.out
   clear HA
   simp only [bI.j0] at H
   by_cases c4:j7=true
   ·subst c4
    rw [if_pos rfl] at H
    obtain rfl:=Option.some.inj H
    go_wp2
    go_ret
    exact ⟨sd_,fJ⟩
   replace c4:=Bool.eq_false_iff.mpr c4
   subst c4
   rw [if_neg (show ¬ (false=true) by decide)] at H
   have jl:=am H
   clear H
   go_upto_region 3 with (fail)
   go_cut [12] (fun jr wc=>∃ (kq:Nat) (j4:Bool),jr= .bool j4∧Aside0 (bI.j1 kq a0 j4=some r)∧Aside0 (kq≤jq)∧gQ w wc)
   case first=>
    have H:=jl.out
    clear jl
    by_cases c6:a0≥97
    ·rw [if_pos c6] at H
     have j6:decide (97≤a0)=true:=decide_eq_true c6
     clear c6
     (first|rw [j6]|(simp only [fI,fM];rw [j6])|skip)
     have H':=am H
     clear H
     go_wp2
     go_meet
     case rel=>exact ⟨_,(decide (a0≤122)),sd_,H',⟨by have:=HJ1.out;first|omega|exact Nat.le_refl _⟩,fJ⟩
    rw [if_neg c6] at H
    have j6:decide (97≤a0)=false:=decide_eq_false c6
    clear c6
    (first|rw [j6]|(simp only [fI,fM];rw [j6])|skip)
    have H':=am H
    clear H
    go_wp2
    go_meet
    case rel=>exact ⟨_,(false),sd_,H',⟨by have:=HJ1.out;first|omega|exact Nat.le_refl _⟩,fJ⟩
   case rest=>
    clear jl
    try clear c4
    obtain ⟨kq,j4,rfl,HA,HJ4,⟨mc4,rfl⟩⟩:=hcut
    cases kq with
    |zero=>exact absurd HA.out (by simp [bI.j1])
    |succ jn=>
     have H:=HA.out
     clear HA
     simp only [bI.j1] at H
     by_cases c7:j4=true
     ·subst c7
      rw [if_pos rfl] at H
      obtain rfl:=Option.some.inj H
      go_wp2
      go_ret
      exact ⟨sd_,fJ⟩
     replace c7:=Bool.eq_false_iff.mpr c7
     subst c7
     rw [if_neg (show ¬ (false=true) by decide)] at H
     by_cases c8:a0=32
     ·rw [if_pos c8] at H
      have j9:(a0 == 32)=true:=beq_iff_eq.mpr c8
      have ja:(a0 != 32)=false:=bne_eq_false_iff_eq.mpr c8
      clear c8
      obtain rfl:=Option.some.inj H
      go_wp2
      go_ret
      exact ⟨sd_,fJ⟩
     rw [if_neg c8] at H
     have j9:(a0 == 32)=false:=beq_eq_false_iff_ne.mpr c8
     have ja:(a0 != 32)=true:=bne_iff_ne.mpr c8
     by_cases c9:a0=10
     ·rw [if_pos c9] at H
      have jb:(a0 == 10)=true:=beq_iff_eq.mpr c9
      have jc:(a0 != 10)=false:=bne_eq_false_iff_eq.mpr c9
      clear c9
      obtain rfl:=Option.some.inj H
      go_wp2
      go_ret
      exact ⟨sd_,fJ⟩
     rw [if_neg c9] at H
     have jb:(a0 == 10)=false:=beq_eq_false_iff_ne.mpr c9
     have jc:(a0 != 10)=true:=bne_iff_ne.mpr c9
     have H':=am H
     clear H
     go_wp2
     go_loopg [4] jn (fun kq v4 w'=>∃ (j3:Int),v4= .int .i64 j3∧Aside0 (bI.l0 kq a0 (⟨#[43,45,42,47,37,38,124,94,60,62,40,41,123,125,61,59]⟩:ByteArray) j3=some r)∧Aside0 (kq≤jn)∧gQ w w')
     case atStart=>exact ⟨(0),sd_,H',⟨Nat.le_refl _⟩,fJ⟩
     case round=>
      clear H'
      try clear c4
      try clear c7
      try clear c8
      try clear j9
      try clear ja
      try clear c9
      try clear jb
      try clear jc
      obtain ⟨j3,rfl,HA,jo,⟨m3,rfl⟩⟩:=hrel
      cases gk with
      |zero=>exact absurd HA.out (by simp [bI.l0])
      |succ k3=>
       have H:=HA.out
       clear HA
       simp only [bI.l0] at H
       by_cases c10:j3 < ((⟨#[43,45,42,47,37,38,124,94,60,62,40,41,123,125,61,59]⟩:ByteArray).size:Int)
       ·rw [if_pos c10] at H
        have jd:decide (j3 < ((⟨#[43,45,42,47,37,38,124,94,60,62,40,41,123,125,61,59]⟩:ByteArray).size:Int))=true:=decide_eq_true c10
        have je:(j3 < 16)=True:=eq_true (show j3 < 16 from c10)
        clear c10
        by_cases jj:0≤j3
        ·rw [if_pos jj] at H
         have jp:decide (0≤j3)=true:=decide_eq_true jj
         clear jj
         by_cases j8:(bt (⟨#[43,45,42,47,37,38,124,94,60,62,40,41,123,125,61,59]⟩:ByteArray) j3)=a0
         ·rw [if_pos j8] at H
          have jf:((bt (⟨#[43,45,42,47,37,38,124,94,60,62,40,41,123,125,61,59]⟩:ByteArray) j3) == a0)=true:=beq_iff_eq.mpr j8
          have jg:((bt (⟨#[43,45,42,47,37,38,124,94,60,62,40,41,123,125,61,59]⟩:ByteArray) j3) != a0)=false:=bne_eq_false_iff_eq.mpr j8
          clear j8
          obtain rfl:=Option.some.inj H
          have jh:0≤(j3:Int):=of_decide_eq_true fA
          have ji:j3 < (16:Int):=of_decide_eq_true fA
          have jm:=rM (⟨#[43,45,42,47,37,38,124,94,60,62,40,41,123,125,61,59]⟩:ByteArray) j3
          replace jh:=eq_true jh
          replace ji:=eq_true ji
          go_wp2
          go_ret
          exact ⟨sd_,fJ⟩
         rw [if_neg j8] at H
         have jf:((bt (⟨#[43,45,42,47,37,38,124,94,60,62,40,41,123,125,61,59]⟩:ByteArray) j3) == a0)=false:=beq_eq_false_iff_ne.mpr j8
         have jg:((bt (⟨#[43,45,42,47,37,38,124,94,60,62,40,41,123,125,61,59]⟩:ByteArray) j3) != a0)=true:=bne_iff_ne.mpr j8
         have H':=am H
         clear H
         have jh:0≤(j3:Int):=of_decide_eq_true fA
         have ji:j3 < (16:Int):=of_decide_eq_true fA
         have jm:=rM (⟨#[43,45,42,47,37,38,124,94,60,62,40,41,123,125,61,59]⟩:ByteArray) j3
         replace jh:=eq_true jh
         replace ji:=eq_true ji
         go_wp2
         go_roundg k3
         case measure=>have:=HJ1.out;have:=HJ4.out;have:=jo.out;omega
         case rel=>exact ⟨(wrap64 (j3 + 1)),sd_,H',⟨by have:=HJ1.out;have:=HJ4.out;have:=jo.out;omega⟩,fJ⟩
        rw [if_neg jj] at H
        exact absurd H (by simp)
       rw [if_neg c10] at H
       have jd:decide (j3 < ((⟨#[43,45,42,47,37,38,124,94,60,62,40,41,123,125,61,59]⟩:ByteArray).size:Int))=false:=decide_eq_false c10
       have je:(j3 < 16)=False:=eq_false (show ¬ (j3 < 16) from c10)
       clear c10
       obtain rfl:=Option.some.inj H
       go_wp2
       go_ret
       exact ⟨sd_,fJ⟩
theorem fO.mono_l:∀ k,(∀ y0 y1 y2,LeO (fO.l0 k y0 y1 y2) (fO.l0 (k + 1) y0 y1 y2))
 |0=>fun _ _ _ r h=>by simp [fO.l0] at h
 |k + 1=>by
  have ih0:=fO.mono_l k
  ·intro y0 y1 y2
   unfold fO.l0
   have m0:=@bI.mono
   exact mo_
theorem fO.mono:∀ a0 a1 k,LeO (fO.f k a0 a1) (fO.f (k + 1) a0 a1):=by
 intro a0 a1 k
 have ih0:=fO.mono_l k
 unfold fO.f
 have m0:=@bI.mono
 exact mo_
theorem fO.calls (k:Nat) (a0:ByteArray) (a1:Int) (r:Int) (w:World) (h:fO.f k a0 a1=some r):
  Calls Tryz.prog 99 #[.string a0, .int .i64 a1] w fun e w'=>e= .returned (.int .i64 r)∧gQ w w':=by
 have H:(fO.l0 k a0 a1 a1)=some r:=h
 clear h
 have H':=am H
 clear H
 go_enter Tryz.func99,Tryz.ntmps99
 go_wp2
 repeat (go_quiet (fail);try go_wp2)
 go_loopg [5] k (fun kq v5 w'=>∃ (j3:Int),v5= .int .i64 j3∧Aside0 (fO.l0 kq a0 a1 j3=some r)∧Aside0 (kq≤k)∧gQ w w')
 case atStart=>exact ⟨(a1),sd_,H',⟨Nat.le_refl _⟩,fJ⟩
 case round=>
  clear H'
  obtain ⟨j3,rfl,HA,jc,⟨m1,rfl⟩⟩:=hrel
  cases gk with
  |zero=>exact absurd HA.out (by simp [fO.l0])
  |succ k1=>
   have H:=HA.out
   clear HA
   simp only [fO.l0] at H
   by_cases c3:j3 < (a0.size:Int)
   ·rw [if_pos c3] at H
    have jb:decide (j3 < (a0.size:Int))=true:=decide_eq_true c3
    clear c3
    by_cases c4:0≤j3
    ·rw [if_pos c4] at H
     have je:decide (0≤j3)=true:=decide_eq_true c4
     clear c4
     obtain ⟨j4,A6,H⟩:=bsa H
     (try dsimp only at H)
     by_cases c7:0≤a1
     ·rw [if_pos c7] at H
      have jf:decide (0≤a1)=true:=decide_eq_true c7
      clear c7
      by_cases c8:a1 < (a0.size:Int)
      ·rw [if_pos c8] at H
       have jg:decide (a1 < (a0.size:Int))=true:=decide_eq_true c8
       clear c8
       obtain ⟨j5,jd,H⟩:=bsm H
       (try dsimp only at H)
       have j7:=am jd
       clear jd
       by_cases j6:j4=j5
       ·rw [if_pos j6] at H
        have j8:(j4 == j5)=true:=beq_iff_eq.mpr j6
        have j9:(j4 != j5)=false:=bne_eq_false_iff_eq.mpr j6
        clear j6
        have H':=am H
        clear H
        have p5:0≤(j3:Int):=of_decide_eq_true fA
        have q5:j3 < (a0.size:Int):=of_decide_eq_true fA
        have jh:=rM a0 j3
        replace p5:=eq_true p5
        replace q5:=eq_true q5
        go_wp2_with (first|(go_at_call 98;(with_reducible refine (bI.calls k1 (bt a0 j3) j4 _ A6.out).mono ?_);rintro e w' ⟨rfl,⟨nd,rfl⟩⟩;(try first|exact ⟨rfl,_,World.drewN_drewN _ _ _⟩|exact ⟨rfl,_,Eq.trans (World.drewN_drewN _ _ _) (congrArg (World.drewN _) (Nat.add_assoc _ _ _))⟩);have p9:0≤(a1:Int):=of_decide_eq_true fA;have q9:a1 < (a0.size:Int):=of_decide_eq_true fA;have ja:=rM a0 a1;replace p9:=eq_true p9;replace q9:=eq_true q9)|(go_at_call 98;(with_reducible refine (bI.calls k1 (bt a0 a1) j5 _ j7.out).mono ?_);rintro e w' ⟨rfl,⟨nd,rfl⟩⟩;(try first|exact ⟨rfl,_,World.drewN_drewN _ _ _⟩|exact ⟨rfl,_,Eq.trans (World.drewN_drewN _ _ _) (congrArg (World.drewN _) (Nat.add_assoc _ _ _))⟩)))
        repeat (go_quiet (first|(go_at_call 98;(with_reducible refine (bI.calls k1 (bt a0 j3) j4 _ A6.out).mono ?_);rintro e w' ⟨rfl,⟨nd,rfl⟩⟩;(try first|exact ⟨rfl,_,World.drewN_drewN _ _ _⟩|exact ⟨rfl,_,Eq.trans (World.drewN_drewN _ _ _) (congrArg (World.drewN _) (Nat.add_assoc _ _ _))⟩);have p9:0≤(a1:Int):=of_decide_eq_true fA;have q9:a1 < (a0.size:Int):=of_decide_eq_true fA;have ja:=rM a0 a1;replace p9:=eq_true p9;replace q9:=eq_true q9)|(go_at_call 98;(with_reducible refine (bI.calls k1 (bt a0 a1) j5 _ j7.out).mono ?_);rintro e w' ⟨rfl,⟨nd,rfl⟩⟩;(try first|exact ⟨rfl,_,World.drewN_drewN _ _ _⟩|exact ⟨rfl,_,Eq.trans (World.drewN_drewN _ _ _) (congrArg (World.drewN _) (Nat.add_assoc _ _ _))⟩)));try go_wp2_with (first|(go_at_call 98;(with_reducible refine (bI.calls k1 (bt a0 j3) j4 _ A6.out).mono ?_);rintro e w' ⟨rfl,⟨nd,rfl⟩⟩;(try first|exact ⟨rfl,_,World.drewN_drewN _ _ _⟩|exact ⟨rfl,_,Eq.trans (World.drewN_drewN _ _ _) (congrArg (World.drewN _) (Nat.add_assoc _ _ _))⟩);have p9:0≤(a1:Int):=of_decide_eq_true fA;have q9:a1 < (a0.size:Int):=of_decide_eq_true fA;have ja:=rM a0 a1;replace p9:=eq_true p9;replace q9:=eq_true q9)|(go_at_call 98;(with_reducible refine (bI.calls k1 (bt a0 a1) j5 _ j7.out).mono ?_);rintro e w' ⟨rfl,⟨nd,rfl⟩⟩;(try first|exact ⟨rfl,_,World.drewN_drewN _ _ _⟩|exact ⟨rfl,_,Eq.trans (World.drewN_drewN _ _ _) (congrArg (World.drewN _) (Nat.add_assoc _ _ _))⟩))))
        go_roundg k1
        case measure=>have:=jc.out;omega
        case rel=>exact ⟨(wrap64 (j3 + 1)),sd_,H',⟨by have:=jc.out;omega⟩,fJ⟩
       rw [if_neg j6] at H
       have j8:(j4 == j5)=false:=beq_eq_false_iff_ne.mpr j6
       have j9:(j4 != j5)=true:=bne_iff_ne.mpr j6
       obtain rfl:=Option.some.inj H
       have p5:0≤(j3:Int):=of_decide_eq_true fA
       have q5:j3 < (a0.size:Int):=of_decide_eq_true fA
       have jh:=rM a0 j3
       replace p5:=eq_true p5
       replace q5:=eq_true q5
       go_wp2_with (first|(go_at_call 98;(with_reducible refine (bI.calls k1 (bt a0 j3) j4 _ A6.out).mono ?_);rintro e w' ⟨rfl,⟨nd,rfl⟩⟩;(try first|exact ⟨rfl,_,World.drewN_drewN _ _ _⟩|exact ⟨rfl,_,Eq.trans (World.drewN_drewN _ _ _) (congrArg (World.drewN _) (Nat.add_assoc _ _ _))⟩);have p9:0≤(a1:Int):=of_decide_eq_true fA;have q9:a1 < (a0.size:Int):=of_decide_eq_true fA;have ja:=rM a0 a1;replace p9:=eq_true p9;replace q9:=eq_true q9)|(go_at_call 98;(with_reducible refine (bI.calls k1 (bt a0 a1) j5 _ j7.out).mono ?_);rintro e w' ⟨rfl,⟨nd,rfl⟩⟩;(try first|exact ⟨rfl,_,World.drewN_drewN _ _ _⟩|exact ⟨rfl,_,Eq.trans (World.drewN_drewN _ _ _) (congrArg (World.drewN _) (Nat.add_assoc _ _ _))⟩)))
       repeat (go_quiet (first|(go_at_call 98;(with_reducible refine (bI.calls k1 (bt a0 j3) j4 _ A6.out).mono ?_);rintro e w' ⟨rfl,⟨nd,rfl⟩⟩;(try first|exact ⟨rfl,_,World.drewN_drewN _ _ _⟩|exact ⟨rfl,_,Eq.trans (World.drewN_drewN _ _ _) (congrArg (World.drewN _) (Nat.add_assoc _ _ _))⟩);have p9:0≤(a1:Int):=of_decide_eq_true fA;have q9:a1 < (a0.size:Int):=of_decide_eq_true fA;have ja:=rM a0 a1;replace p9:=eq_true p9;replace q9:=eq_true q9)|(go_at_call 98;(with_reducible refine (bI.calls k1 (bt a0 a1) j5 _ j7.out).mono ?_);rintro e w' ⟨rfl,⟨nd,rfl⟩⟩;(try first|exact ⟨rfl,_,World.drewN_drewN _ _ _⟩|exact ⟨rfl,_,Eq.trans (World.drewN_drewN _ _ _) (congrArg (World.drewN _) (Nat.add_assoc _ _ _))⟩)));try go_wp2_with (first|(go_at_call 98;(with_reducible refine (bI.calls k1 (bt a0 j3) j4 _ A6.out).mono ?_);rintro e w' ⟨rfl,⟨nd,rfl⟩⟩;(try first|exact ⟨rfl,_,World.drewN_drewN _ _ _⟩|exact ⟨rfl,_,Eq.trans (World.drewN_drewN _ _ _) (congrArg (World.drewN _) (Nat.add_assoc _ _ _))⟩);have p9:0≤(a1:Int):=of_decide_eq_true fA;have q9:a1 < (a0.size:Int):=of_decide_eq_true fA;have ja:=rM a0 a1;replace p9:=eq_true p9;replace q9:=eq_true q9)|(go_at_call 98;(with_reducible refine (bI.calls k1 (bt a0 a1) j5 _ j7.out).mono ?_);rintro e w' ⟨rfl,⟨nd,rfl⟩⟩;(try first|exact ⟨rfl,_,World.drewN_drewN _ _ _⟩|exact ⟨rfl,_,Eq.trans (World.drewN_drewN _ _ _) (congrArg (World.drewN _) (Nat.add_assoc _ _ _))⟩))))
       go_ret
       exact ⟨sd_,fJ⟩
      rw [if_neg c8] at H
      exact absurd H (by simp)
     rw [if_neg c7] at H
     exact absurd H (by simp)
    rw [if_neg c4] at H
    exact absurd H (by simp)
   rw [if_neg c3] at H
   have jb:decide (j3 < (a0.size:Int))=false:=decide_eq_false c3
   clear c3
   obtain rfl:=Option.some.inj H
   go_wp2
   repeat (go_quiet (fail);try go_wp2)
   go_ret
   exact ⟨sd_,fJ⟩
theorem uP.calls (a0:ByteArray) (r:Bool) (w:World) (h:uP.f a0=some r):
  Calls Tryz.prog 100 #[.string a0] w fun e w'=>e= .returned (.bool r)∧gQ w w':=by
 unfold uP.f at h
 have H:=h
 clear h
 by_cases c2:a0.toList=([60,60]:List UInt8)
 ·rw [if_pos c2] at H
  have j3:(a0.toList == ([60,60]:List UInt8))=true:=beq_iff_eq.mpr c2
  have j4:(a0.toList != ([60,60]:List UInt8))=false:=bne_eq_false_iff_eq.mpr c2
  clear c2
  obtain rfl:=Option.some.inj H
  go_enter Tryz.func100,Tryz.ntmps100
  go_wp2
  go_ret
  exact ⟨sd_,fJ⟩
 rw [if_neg c2] at H
 have j3:(a0.toList == ([60,60]:List UInt8))=false:=beq_eq_false_iff_ne.mpr c2
 have j4:(a0.toList != ([60,60]:List UInt8))=true:=bne_iff_ne.mpr c2
 by_cases c3:a0.toList=([62,62]:List UInt8)
 ·rw [if_pos c3] at H
  have j5:(a0.toList == ([62,62]:List UInt8))=true:=beq_iff_eq.mpr c3
  have j6:(a0.toList != ([62,62]:List UInt8))=false:=bne_eq_false_iff_eq.mpr c3
  clear c3
  obtain rfl:=Option.some.inj H
  go_enter Tryz.func100,Tryz.ntmps100
  go_wp2
  go_ret
  exact ⟨sd_,fJ⟩
 rw [if_neg c3] at H
 have j5:(a0.toList == ([62,62]:List UInt8))=false:=beq_eq_false_iff_ne.mpr c3
 have j6:(a0.toList != ([62,62]:List UInt8))=true:=bne_iff_ne.mpr c3
 obtain rfl:=Option.some.inj H
 go_enter Tryz.func100,Tryz.ntmps100
 go_wp2
 go_ret
 exact ⟨sd_,fJ⟩
theorem eO.mono_l:∀ k,(∀ y0 y1 y2 y3,LeO (eO.j0 k y0 y1 y2 y3) (eO.j0 (k + 1) y0 y1 y2 y3))∧(∀ y0 y1 y2,LeO (eO.j1 k y0 y1 y2) (eO.j1 (k + 1) y0 y1 y2))
 |0=>⟨fun _ _ _ _ r h=>by simp [eO.j0] at h,fun _ _ _ r h=>by simp [eO.j1] at h⟩
 |k + 1=>by
  obtain ⟨ih0,ih1⟩:=eO.mono_l k
  refine ⟨?_,?_⟩
  ·intro y0 y1 y2 y3
   unfold eO.j0
   have m0:=@bI.mono
   have m1:=@fO.mono
   exact mo_
  ·intro y0 y1 y2
   unfold eO.j1
   have m0:=@bI.mono
   have m1:=@fO.mono
   exact mo_
theorem eO.mono:∀ a0 a1 k,LeO (eO.f k a0 a1) (eO.f (k + 1) a0 a1):=by
 intro a0 a1 k
 obtain ⟨ih0,ih1⟩:=eO.mono_l k
 unfold eO.f
 have m0:=@bI.mono
 have m1:=@fO.mono
 exact mo_
theorem eO.calls (k:Nat) (a0:ByteArray) (a1:Int) (r:Int) (w:World) (h:eO.f k a0 a1=some r):
  Calls Tryz.prog 75 #[.string a0, .int .i64 a1] w fun e w'=>e= .returned (.int .i64 r)∧gQ w w':=by
 unfold eO.f at h
 have H:=h
 clear h
 by_cases c3:0≤a1
 ·rw [if_pos c3] at H
  have je:decide (0≤a1)=true:=decide_eq_true c3
  clear c3
  by_cases c4:a1 < (a0.size:Int)
  ·rw [if_pos c4] at H
   have jf:decide (a1 < (a0.size:Int))=true:=decide_eq_true c4
   clear c4
   obtain ⟨j6,A6,H⟩:=bsa H
   (try dsimp only at H)
   have jp:=am H
   clear H
   have p5:0≤(a1:Int):=of_decide_eq_true fA
   have q5:a1 < (a0.size:Int):=of_decide_eq_true fA
   have js:=rM a0 a1
   replace p5:=eq_true p5
   replace q5:=eq_true q5
   go_enter Tryz.func75,Tryz.ntmps75
   go_upto_region 2 with (first|((with_reducible refine aD (f:=98) rfl ?_);refine gl_ 9 Tryz.func98 #[.int .u8 (bt a0 a1)] ?_;(with_reducible refine (bI.calls k (bt a0 a1) j6 _ A6.out).mono ?_);rintro e w' ⟨rfl,⟨nd,rfl⟩⟩;refine ⟨_,rfl,?_⟩))
   (try simp only [Act.put,List.setIfInBounds_toArray,List.set_cons_zero,List.set_cons_succ])
   go_cut [15] (fun jE wc=>∃ (kq:Nat) (j5:Bool),jE= .bool j5∧Aside0 (eO.j0 kq a0 a1 j6 j5=some r)∧Aside0 (kq≤k)∧gQ w wc)
   case first=>
    have H:=jp.out
    clear jp
    by_cases c8:j6=1
    ·rw [if_pos c8] at H
     have j7:(j6 == 1)=true:=beq_iff_eq.mpr c8
     have jq:(j6 != 1)=false:=bne_eq_false_iff_eq.mpr c8
     clear c8
     (first|rw [j7]|(simp only [fI,fM];rw [j7])|skip)
     have H':=am H
     clear H
     go_wp2
     go_meet
     case rel=>exact ⟨_,(true),sd_,H',⟨by first|omega|exact Nat.le_refl _⟩,fJ⟩
    rw [if_neg c8] at H
    have j7:(j6 == 1)=false:=beq_eq_false_iff_ne.mpr c8
    have jq:(j6 != 1)=true:=bne_iff_ne.mpr c8
    (first|rw [j7]|(simp only [fI,fM];rw [j7])|skip)
    have H':=am H
    clear H
    go_wp2
    go_meet
    case rel=>exact ⟨_,((j6 == 2)),sd_,H',⟨by first|omega|exact Nat.le_refl _⟩,fJ⟩
   case rest=>
    clear jp
    try clear c3
    try clear je
    try clear c4
    try clear jf
    try clear p5
    try clear q5
    try clear js
    try clear p5
    try clear q5
    obtain ⟨kq,j5,rfl,HA,HJ6,⟨mc6,rfl⟩⟩:=hcut
    cases kq with
    |zero=>exact absurd HA.out (by simp [eO.j0])
    |succ jt=>
     have H:=HA.out
     clear HA
     simp only [eO.j0] at H
     by_cases c9:j5=true
     ·subst c9
      rw [if_pos rfl] at H
      obtain ⟨jF,ju,H⟩:=bsm H
      (try dsimp only at H)
      have jG:=am ju
      clear ju
      obtain rfl:=Option.some.inj H
      go_wp2_with (first|((with_reducible refine aD (f:=99) rfl ?_);refine gl_ 18 Tryz.func99 #[.string a0, .int .i64 a1] ?_;(with_reducible refine (fO.calls jt a0 a1 jF _ jG.out).mono ?_);rintro e w' ⟨rfl,⟨nd,rfl⟩⟩;refine ⟨_,rfl,?_⟩))
      go_ret
      exact ⟨sd_,fJ⟩
     replace c9:=Bool.eq_false_iff.mpr c9
     subst c9
     rw [if_neg (show ¬ (false=true) by decide)] at H
     by_cases j8:j6=4
     ·rw [if_pos j8] at H
      have j9:(j6 == 4)=true:=beq_iff_eq.mpr j8
      have ja:(j6 != 4)=false:=bne_eq_false_iff_eq.mpr j8
      clear j8
      have jb:=am H
      clear H
      go_upto_region 6 with (fail)
      go_cut [33] (fun jH wc=>∃ (kq:Nat) (j3:Bool),jH= .bool j3∧Aside0 (eO.j1 kq a0 a1 j3=some r)∧Aside0 (kq≤jt)∧gQ w wc)
      case first=>
       have H:=jb.out
       clear jb
       by_cases jd:(wrap64 (a1 + 2))≤(a0.size:Int)
       ·rw [if_pos jd] at H
        have j4:decide ((wrap64 (a1 + 2))≤(a0.size:Int))=true:=decide_eq_true jd
        clear jd
        (first|rw [j4]|(simp only [fI,fM];rw [j4])|skip)
        by_cases jg:0≤a1
        ·rw [if_pos jg] at H
         have jv:=eq_true jg
         have jw:decide (0≤a1)=true:=decide_eq_true jg
         clear jg
         by_cases jl:a1≤(wrap64 (a1 + 2))
         ·rw [if_pos jl] at H
          have jx:=eq_true jl
          have jy:decide (a1≤(wrap64 (a1 + 2)))=true:=decide_eq_true jl
          have jz:=eq_true (of_decide_eq_true fA:(wrap64 (a1 + 2))≤(a0.size:Int))
          obtain ⟨jA,jB,H⟩:=bsm H
          (try dsimp only at H)
          have jI:=am jB
          clear jB
          have H':=am H
          clear H
          go_wp2_with (first|(go_at_call 100;(with_reducible refine (uP.calls (a0.extract (a1:Int).toNat ((wrap64 (a1 + 2)):Int).toNat) jA _ jI.out).mono ?_);rintro e w' ⟨rfl,⟨nd,rfl⟩⟩))
          go_meet
          case rel=>exact ⟨_,(jA),sd_,H',⟨by have:=HJ6.out;first|omega|exact Nat.le_refl _⟩,fJ⟩
         rw [if_neg jl] at H
         exact absurd H (by simp)
        rw [if_neg jg] at H
        exact absurd H (by simp)
       rw [if_neg jd] at H
       have j4:decide ((wrap64 (a1 + 2))≤(a0.size:Int))=false:=decide_eq_false jd
       clear jd
       (first|rw [j4]|(simp only [fI,fM];rw [j4])|skip)
       have H':=am H
       clear H
       go_wp2
       go_meet
       case rel=>exact ⟨_,(false),sd_,H',⟨by have:=HJ6.out;first|omega|exact Nat.le_refl _⟩,fJ⟩
      case rest=>
       clear jb
       try clear c3
       try clear je
       try clear c4
       try clear jf
       try clear p5
       try clear q5
       try clear js
       try clear c9
       try clear j8
       try clear j9
       try clear ja
       try clear p5
       try clear q5
       obtain ⟨kq,j3,rfl,HA,HJ11,⟨mc11,rfl⟩⟩:=hcut
       cases kq with
       |zero=>exact absurd HA.out (by simp [eO.j1])
       |succ jJ=>
        have H:=HA.out
        clear HA
        simp only [eO.j1] at H
        by_cases jm:j3=true
        ·subst jm
         rw [if_pos rfl] at H
         obtain rfl:=Option.some.inj H
         go_wp2
         go_ret
         exact ⟨sd_,fJ⟩
        replace jm:=Bool.eq_false_iff.mpr jm
        subst jm
        rw [if_neg (show ¬ (false=true) by decide)] at H
        by_cases jn:0≤a1
        ·rw [if_pos jn] at H
         have jC:decide (0≤a1)=true:=decide_eq_true jn
         clear jn
         by_cases jo:a1 < (a0.size:Int)
         ·rw [if_pos jo] at H
          have jD:decide (a1 < (a0.size:Int))=true:=decide_eq_true jo
          clear jo
          by_cases jc:(bt a0 a1)=62
          ·rw [if_pos jc] at H
           have jh:((bt a0 a1) == 62)=true:=beq_iff_eq.mpr jc
           have ji:((bt a0 a1) != 62)=false:=bne_eq_false_iff_eq.mpr jc
           clear jc
           obtain rfl:=Option.some.inj H
           have jj:0≤(a1:Int):=of_decide_eq_true fA
           have jk:a1 < (a0.size:Int):=of_decide_eq_true fA
           have jr:=rM a0 a1
           replace jj:=eq_true jj
           replace jk:=eq_true jk
           go_wp2
           go_ret
           exact ⟨sd_,fJ⟩
          rw [if_neg jc] at H
          have jh:((bt a0 a1) == 62)=false:=beq_eq_false_iff_ne.mpr jc
          have ji:((bt a0 a1) != 62)=true:=bne_iff_ne.mpr jc
          obtain rfl:=Option.some.inj H
          have jj:0≤(a1:Int):=of_decide_eq_true fA
          have jk:a1 < (a0.size:Int):=of_decide_eq_true fA
          have jr:=rM a0 a1
          replace jj:=eq_true jj
          replace jk:=eq_true jk
          go_wp2
          go_ret
          exact ⟨sd_,fJ⟩
         rw [if_neg jo] at H
         exact absurd H (by simp)
        rw [if_neg jn] at H
        exact absurd H (by simp)
     rw [if_neg j8] at H
     have j9:(j6 == 4)=false:=beq_eq_false_iff_ne.mpr j8
     have ja:(j6 != 4)=true:=bne_iff_ne.mpr j8
     obtain rfl:=Option.some.inj H
     go_wp2
     go_ret
     exact ⟨sd_,fJ⟩
  rw [if_neg c4] at H
  exact absurd H (by simp)
 rw [if_neg c3] at H
 exact absurd H (by simp)
theorem gI.mono:∀ a0 k,LeO (gI.f k a0) (gI.f (k + 1) a0):=by
 intro a0 k
 unfold gI.f
 have m0:=@eO.mono
 exact mo_
theorem gI.calls (k:Nat) (a0:ByteArray) (r:Bool) (w:World) (h:gI.f k a0=some r):
  Calls Tryz.prog 50 #[.string a0] w fun e w'=>e= .returned (.bool r)∧gQ w w':=by
 unfold gI.f at h
 have H:=h
 clear h
 by_cases c2:a0.toList=([]:List UInt8)
 ·rw [if_pos c2] at H
  have j3:(a0.toList == ([]:List UInt8))=true:=beq_iff_eq.mpr c2
  have j4:(a0.toList != ([]:List UInt8))=false:=bne_eq_false_iff_eq.mpr c2
  clear c2
  obtain rfl:=Option.some.inj H
  go_enter Tryz.func50,Tryz.ntmps50
  go_wp2
  go_ret
  exact ⟨sd_,fJ⟩
 rw [if_neg c2] at H
 have j3:(a0.toList == ([]:List UInt8))=false:=beq_eq_false_iff_ne.mpr c2
 have j4:(a0.toList != ([]:List UInt8))=true:=bne_iff_ne.mpr c2
 obtain ⟨j5,A3,H⟩:=bsa H
 (try dsimp only at H)
 obtain rfl:=Option.some.inj H
 go_enter Tryz.func50,Tryz.ntmps50
 go_wp2_with (first|(go_at_call 75;(with_reducible refine (eO.calls k a0 0 j5 _ A3.out).mono ?_);rintro e w' ⟨rfl,⟨nd,rfl⟩⟩))
 go_ret
 exact ⟨sd_,fJ⟩
theorem dI.mono_l:∀ k,(∀ y0 y1 y2,LeO (dI.l0 k y0 y1 y2) (dI.l0 (k + 1) y0 y1 y2))
 |0=>fun _ _ _ r h=>by simp [dI.l0] at h
 |k + 1=>by
  have ih0:=dI.mono_l k
  ·intro y0 y1 y2
   unfold dI.l0
   have m0:=@gI.mono
   exact mo_
theorem dI.mono:∀ a0 k,LeO (dI.f k a0) (dI.f (k + 1) a0):=by
 intro a0 k
 have ih0:=dI.mono_l k
 unfold dI.f
 have m0:=@gI.mono
 exact mo_
theorem dI.calls (k:Nat) (A0:Option Addr) (c0:Nat) (l0:List ByteArray) (r:ByteArray) (w:World) (hr0:Kd.C Kd.string w A0 l0.length l0) (hc0:l0.length≤c0) (h:dI.f k l0=some r):
  Calls Tryz.prog 26 #[.slice A0 l0.length c0] w fun e w'=>e= .returned (.string r)∧gQ w w':=by
 have j9:=am hr0
 have jB:=am hc0
 clear hr0 hc0
 have H:(dI.l0 k l0 (⟨#[]⟩:ByteArray) 0)=some r:=h
 clear h
 have H':=am H
 clear H
 go_enter Tryz.func26,Tryz.ntmps26
 go_wp2
 go_loopg [3,4] k (fun kq v3 v4 w'=>∃ (j4:ByteArray) (j3:Int),v3= .string j4∧v4= .int .i64 j3∧Aside0 (dI.l0 kq l0 j4 j3=some r)∧Aside0 (kq≤k)∧gQ w w')
 case atStart=>exact ⟨((⟨#[]⟩:ByteArray)),(0),sd_,sd_,H',⟨Nat.le_refl _⟩,fJ⟩
 case round=>
  clear H'
  obtain ⟨j4,j3,rfl,rfl,HA,jb,⟨m1,rfl⟩⟩:=hrel
  cases gk with
  |zero=>exact absurd HA.out (by simp [dI.l0])
  |succ k1=>
   have H:=HA.out
   clear HA
   simp only [dI.l0] at H
   by_cases c2:j3 < (l0.length:Int)
   ·rw [if_pos c2] at H
    have jc:decide (j3 < (l0.length:Int))=true:=decide_eq_true c2
    clear c2
    by_cases c3:0≤j3
    ·rw [if_pos c3] at H
     have jm:decide (0≤j3)=true:=decide_eq_true c3
     clear c3
     obtain ⟨jn,A4,H⟩:=bsa H
     (try dsimp only at H)
     by_cases c5:jn=true
     ·subst c5
      rw [if_pos rfl] at H
      by_cases c6:j3 > 0
      ·rw [if_pos c6] at H
       have jd:decide (0 < j3)=true:=decide_eq_true c6
       clear c6
       by_cases c7:j4.size + 1≤9223372036854775807
       ·rw [if_pos c7] at H
        have jo:=eq_true c7
        have jp:decide (j4.size + 1≤9223372036854775807)=true:=decide_eq_true c7
        try have jq:(9223372036854775807 < j4.size + 1)=False:=eq_false (Nat.not_lt.2 c7)
        by_cases c8:(j4 ++ (⟨#[32]⟩:ByteArray)).size + (nL ByteArray.empty l0 j3).size≤9223372036854775807
        ·rw [if_pos c8] at H
         have jr:=eq_true c8
         have js:decide ((j4 ++ (⟨#[32]⟩:ByteArray)).size + (nL ByteArray.empty l0 j3).size≤9223372036854775807)=true:=decide_eq_true c8
         try have jt:(9223372036854775807 < (j4 ++ (⟨#[32]⟩:ByteArray)).size + (nL ByteArray.empty l0 j3).size)=False:=eq_false (Nat.not_lt.2 c8)
         have jC:j4.size + 1 + (nL ByteArray.empty l0 j3).size≤9223372036854775807:=by have h_:=c8;simp only [ByteArray.size_append] at h_;exact h_
         have ju:(9223372036854775807 < j4.size + 1 + (nL ByteArray.empty l0 j3).size)=False:=eq_false (by omega)
         have jv:(j4.size + 1 + (nL ByteArray.empty l0 j3).size≤9223372036854775807)=True:=eq_true (by omega)
         have H':=am H
         clear H
         have j5:0≤(j3:Int):=of_decide_eq_true fA
         have j6:j3 < (l0.length:Int):=of_decide_eq_true fA
         obtain ⟨j8,ja,j7⟩:=Kd.nV j9.out j3 j5 j6
         cases ja
         replace j5:=eq_true j5
         replace j6:=eq_true j6
         go_wp2_with (first|((with_reducible refine aD (f:=50) rfl ?_);refine gl_ 15 Tryz.func50 #[.string (nL ByteArray.empty l0 j3)] ?_;(with_reducible refine (gI.calls k1 (nL ByteArray.empty l0 j3) true _ A4.out).mono ?_);rintro e w' ⟨rfl,⟨nd,rfl⟩⟩;refine ⟨_,rfl,?_⟩;have je:0≤(j3:Int):=of_decide_eq_true fA;have jf:j3 < (l0.length:Int):=of_decide_eq_true fA;obtain ⟨jg,jw,jh⟩:=Kd.nV j9.out j3 je jf;obtain rfl:j8=jg:=(by injection jw);replace je:=eq_true je;replace jf:=eq_true jf))
         go_roundg k1
         case measure=>have:=jb.out;omega
         case rel=>exact ⟨((j4 ++ (⟨#[32]⟩:ByteArray)) ++ (nL ByteArray.empty l0 j3)),(wrap64 (j3 + 1)),sd_,sd_,H',⟨by have:=jb.out;omega⟩,fJ⟩
        rw [if_neg c8] at H
        exact absurd H (by simp)
       rw [if_neg c7] at H
       exact absurd H (by simp)
      rw [if_neg c6] at H
      have jd:decide (0 < j3)=false:=decide_eq_false c6
      clear c6
      by_cases c9:j4.size + (nL ByteArray.empty l0 j3).size≤9223372036854775807
      ·rw [if_pos c9] at H
       have jx:=eq_true c9
       have jy:decide (j4.size + (nL ByteArray.empty l0 j3).size≤9223372036854775807)=true:=decide_eq_true c9
       try have jz:(9223372036854775807 < j4.size + (nL ByteArray.empty l0 j3).size)=False:=eq_false (Nat.not_lt.2 c9)
       have H':=am H
       clear H
       have j5:0≤(j3:Int):=of_decide_eq_true fA
       have j6:j3 < (l0.length:Int):=of_decide_eq_true fA
       obtain ⟨j8,ja,j7⟩:=Kd.nV j9.out j3 j5 j6
       cases ja
       replace j5:=eq_true j5
       replace j6:=eq_true j6
       go_wp2_with (first|((with_reducible refine aD (f:=50) rfl ?_);refine gl_ 15 Tryz.func50 #[.string (nL ByteArray.empty l0 j3)] ?_;(with_reducible refine (gI.calls k1 (nL ByteArray.empty l0 j3) true _ A4.out).mono ?_);rintro e w' ⟨rfl,⟨nd,rfl⟩⟩;refine ⟨_,rfl,?_⟩;have ji:0≤(j3:Int):=of_decide_eq_true fA;have jj:j3 < (l0.length:Int):=of_decide_eq_true fA;obtain ⟨jk,jA,jl⟩:=Kd.nV j9.out j3 ji jj;obtain rfl:j8=jk:=(by injection jA);replace ji:=eq_true ji;replace jj:=eq_true jj))
       go_roundg k1
       case measure=>have:=jb.out;omega
       case rel=>exact ⟨(j4 ++ (nL ByteArray.empty l0 j3)),(wrap64 (j3 + 1)),sd_,sd_,H',⟨by have:=jb.out;omega⟩,fJ⟩
      rw [if_neg c9] at H
      exact absurd H (by simp)
     replace c5:=Bool.eq_false_iff.mpr c5
     subst c5
     rw [if_neg (show ¬ (false=true) by decide)] at H
     obtain rfl:=Option.some.inj H
     have j5:0≤(j3:Int):=of_decide_eq_true fA
     have j6:j3 < (l0.length:Int):=of_decide_eq_true fA
     obtain ⟨j8,ja,j7⟩:=Kd.nV j9.out j3 j5 j6
     cases ja
     replace j5:=eq_true j5
     replace j6:=eq_true j6
     go_wp2_with (first|((with_reducible refine aD (f:=50) rfl ?_);refine gl_ 15 Tryz.func50 #[.string (nL ByteArray.empty l0 j3)] ?_;(with_reducible refine (gI.calls k1 (nL ByteArray.empty l0 j3) false _ A4.out).mono ?_);rintro e w' ⟨rfl,⟨nd,rfl⟩⟩;refine ⟨_,rfl,?_⟩))
     go_ret
     exact ⟨sd_,fJ⟩
    rw [if_neg c3] at H
    exact absurd H (by simp)
   rw [if_neg c2] at H
   have jc:decide (j3 < (l0.length:Int))=false:=decide_eq_false c2
   clear c2
   obtain rfl:=Option.some.inj H
   go_wp2
   go_ret
   exact ⟨sd_,fJ⟩
theorem bA.mono_l:∀ k,(∀ y0 y1 y2 y3,LeO (bA.l0 k y0 y1 y2 y3) (bA.l0 (k + 1) y0 y1 y2 y3))∧(∀ y0 y1 y2 y3,LeO (bA.l1 k y0 y1 y2 y3) (bA.l1 (k + 1) y0 y1 y2 y3))
 |0=>⟨fun _ _ _ _ r h=>by simp [bA.l0] at h,fun _ _ _ _ r h=>by simp [bA.l1] at h⟩
 |k + 1=>by
  obtain ⟨ih0,ih1⟩:=bA.mono_l k
  refine ⟨?_,?_⟩
  ·intro y0 y1 y2 y3
   unfold bA.l0
   have m0:=@aX.mono
   have m1:=@dI.mono
   have m2:=@bK.mono
   have m3:=@dX.mono
   exact mo_
  ·intro y0 y1 y2 y3
   unfold bA.l1
   have m0:=@aX.mono
   have m1:=@dI.mono
   have m2:=@bK.mono
   have m3:=@dX.mono
   exact mo_
theorem bA.mono:∀ a0 a1 k,LeO (bA.f k a0 a1) (bA.f (k + 1) a0 a1):=by
 intro a0 a1 k
 obtain ⟨ih0,ih1⟩:=bA.mono_l k
 unfold bA.f
 have m0:=@aX.mono
 have m1:=@dI.mono
 have m2:=@bK.mono
 have m3:=@dX.mono
 exact mo_
theorem bA.calls (k:Nat) (jb:Option Addr) (j9:Nat) (j5:List Int) (jc:Option Addr) (ja:Nat) (j4:List (List (S58))) (r:ByteArray) (w:World) (hr0_0:Kd.C (Kd.int .i64) w jb j5.length j5) (hc0_0:j5.length≤j9) (hr0_1:Kd.C (Kd.slice 58 k58) w jc j4.length j4) (hc0_1:j4.length≤ja) (h:bA.f k j5 j4=some r):
  Calls Tryz.prog 9 #[.agg #[.slice jb j5.length j9, .slice jc j4.length ja]] w fun e w'=>e= .returned (.string r)∧Below w.heap.size w w':=by
 have hu26:=Tryz.underlying26
 have jj:=am hr0_0
 have jv:=am hc0_0
 clear hr0_0 hc0_0
 have jk:=am hr0_1
 have jw:=am hc0_1
 clear hr0_1 hc0_1
 have HB:=am (Below.refl w.heap.size w)
 unfold bA.f at h
 have H:=h
 clear h
 obtain ⟨qC,A2,H⟩:=bsa H
 (try dsimp only at H)
 have HH_:=am H
 clear H
 go_enter Tryz.func9,Tryz.ntmps9
 go_upto_region 1 with (first|((with_reducible refine bY (N:=1) rfl ?_);refine eH rfl (N:=1) rfl (cs:=#[.slice jb j5.length j9, .slice jc j4.length ja]) (t:=26) rn_ ?_;intro jf hg w4 hbox hb;have j3:=am (hbox);have qD:=am ((by rw [hg];exact (aH dQ):w.heap.size≤jf));have GE37:=am ((by rw [hg];exact (aH dQ):w.heap.size≤jf));replace HB:=am (aA dQ hb);clear hb hbox hg;obtain ⟨jl,jm,jn,jo⟩:=iK j3.out))
 have H:=HH_.out
 clear HH_
 by_cases c3:qC=true
 ·subst c3
  rw [if_pos rfl] at H
  obtain ⟨qt,hy_⟩:∃ y_:List ByteArray,y_=(([]:List ByteArray)):=⟨_,rfl⟩
  replace H:(bA.l0 k qt 0 j5 j4)=some r:=rx_
  have jD:=am hy_
  clear hy_
  have H':=am H
  clear H
  go_wp2_with (first|((with_reducible refine aD (f:=23) rfl ?_);refine gl_ 7 Tryz.func23 #[.agg #[.slice jb j5.length j9, .slice jc j4.length ja]] ?_;(with_reducible refine (aX.calls k _ _ j5 _ _ j4 true _ (aC_ (Kd.aU jj.out HB.out)) jv.out (aC_ (Kd.aU jk.out HB.out)) jw.out A2.out).mono ?_);rintro e w6 ⟨rfl,hb⟩;refine ⟨_,rfl,?_⟩;replace j3:=bbP j3 hb;replace HB:=am (aA oV hb);(try clear hb))|((with_reducible refine bY (N:=9) rfl ?_);refine Kd.oQ Kd.string _ 9 rfl (N:=9) rfl (xs:=([]:List ByteArray)) (inner:=[]) (ok:=fun _=>True) (okp:=fun _=>True) rn_ ?hp (fun _ hk=>hk) trivial (Below.refl _ _) (Nat.le_refl _) (by simp) ?_;(case hp=>exact (dG.none _ _));intro qL w7 ho8 hb hg_ hnew_;clear hg_ hnew_;(first|rw [← jD.out] at ho8|(simp only [Int.reduceToNat] at ho8;rw [← jD.out] at ho8));have q8:=am (Kd.eD ho8 (aH oV));replace j3:=bbP j3 hb;replace HB:=am (aA oV hb);clear hb ho8))
  go_loopg [3,4] k (fun kq v3 v4 w'=>∃ (jd:List ByteArray) (j7:Int),v4= .int .i64 j7∧Aside0 (bA.l0 kq jd j7 j5 j4=some r)∧Aside0 (kq≤k)∧Aside0 (Kd.R Kd.string 9 w' w.heap.size (fun _=>True) v3 jd)∧Aside0 (w'.heap[jf]?=some (.cells #[(.slice jb j5.length j9),(.slice jc j4.length ja)] 26 (0,0)))∧Aside0 (Below w.heap.size w w'))
  case atStart=>exact ⟨(qt),(0),sd_,H',⟨Nat.le_refl _⟩,⟨gF q8.out⟩,⟨by (with_reducible repeat (first|refine dU ?_ _|refine dD ?_|refine dS ?_ _));exact j3.out⟩,⟨oV⟩⟩
  case round=>
   clear H'
   try clear c3
   try clear jl
   try clear jm
   try clear jn
   try clear jo
   obtain ⟨jd,j7,rfl,HA,jN,j8,j3,HB⟩:=hrel
   cases gk with
   |zero=>exact absurd HA.out (by simp [bA.l0])
   |succ k1=>
    have H:=HA.out
    clear HA
    simp only [bA.l0] at H
    by_cases c9:j7 < (j5.length:Int)
    ·rw [if_pos c9] at H
     have jE:decide (j7 < (j5.length:Int))=true:=decide_eq_true c9
     clear c9
     by_cases c10:0≤j7
     ·rw [if_pos c10] at H
      have qu:decide (0≤j7)=true:=decide_eq_true c10
      clear c10
      obtain ⟨jA,qv,H⟩:=bsm H
      (try dsimp only at H)
      have qE:=am qv
      clear qv
      obtain ⟨jB,hy_⟩:∃ y_:List ByteArray,y_=(([(⟨#[98,111,120]⟩:ByteArray),jA,(⟨#[59]⟩:ByteArray)]:List ByteArray)):=⟨_,rfl⟩
      replace H:(if jd.length + jB.length < 8796093022208 then (bA.l0 k1 (jd ++ jB) (wrap64 (j7 + 1)) j5 j4) else (none))=some r:=rx_
      have jF:=am hy_
      clear hy_
      by_cases jO:jd.length + jB.length < 8796093022208
      ·rw [if_pos jO] at H
       have jG:=am jO
       clear jO
       obtain ⟨qw,hy_⟩:∃ y_:List ByteArray,y_=(jd ++ jB):=⟨_,rfl⟩
       replace H:(bA.l0 k1 qw (wrap64 (j7 + 1)) j5 j4)=some r:=rx_
       have q9:=am hy_
       clear hy_
       have H':=am H
       clear H
       obtain ⟨jP,jQ,jR,jS⟩:=iK j3.out
       have qa:0≤(j7:Int):=of_decide_eq_true fA
       have qb:j7 < (j5.length:Int):=of_decide_eq_true fA
       obtain ⟨qc,qF,jg⟩:=Kd.oG jj.out j7 qa qb
       cases qF
       replace jg:=(HB.out.cell (World.block_lt_of_cell? w _ jg)).trans jg
       replace qa:=eq_true qa
       replace qb:=eq_true qb
       go_wp2_with (first|((with_reducible refine aD (f:=24) rfl ?_);refine gl_ 23 Tryz.func24 #[.int .i64 (rd j5 j7)] ?_;(with_reducible refine (dX.calls k1 (rd j5 j7) jA _ qE.out).mono ?_);rintro e qM ⟨rfl,hb⟩;refine ⟨_,rfl,?_⟩;replace j8:=am (Kd.fG (aR_ j8.out) hb);replace j3:=bbP j3 hb;replace HB:=am (aA oV hb);(try clear hb))|((with_reducible refine bY (N:=24) rfl ?_);refine Kd.oQ Kd.string _ 9 rfl (N:=24) rfl (xs:=([(⟨#[98,111,120]⟩:ByteArray),jA,(⟨#[59]⟩:ByteArray)]:List ByteArray)) (inner:=[.string (⟨#[98,111,120]⟩:ByteArray), .string jA, .string (⟨#[59]⟩:ByteArray)]) (ok:=fun _=>True) (okp:=fun _=>True) rn_ ?hp (fun _ hk=>hk) trivial (Below.refl _ _) (Nat.le_refl _) (by simp) ?_;(case hp=>exact (dG.one (show Kd.M Kd.string _ _ _ (⟨#[98,111,120]⟩:ByteArray) [.string (⟨#[98,111,120]⟩:ByteArray)] from rfl) (dG.one (show Kd.M Kd.string _ _ _ jA [.string jA] from rfl) (dG.one (show Kd.M Kd.string _ _ _ (⟨#[59]⟩:ByteArray) [.string (⟨#[59]⟩:ByteArray)] from rfl) (dG.none _ _)))));intro qN qO ho16 hb hg_ hnew_;clear hg_ hnew_;(first|rw [← jF.out] at ho16|(simp only [Int.reduceToNat] at ho16;rw [← jF.out] at ho16));have jp:=am (Kd.eD (Kd.lW ho16 (Kd.iN (aR_ j8.out))) (aH oV));replace j8:=am (Kd.iJ (aR_ j8.out) (Kd.gP ho16) hb);replace j3:=bbP j3 hb;replace HB:=am (aA oV hb);clear hb ho16;obtain ⟨qd,qe,qf⟩:=Kd.eB jp.out;subst qf)|((with_reducible refine dR (b:= .append) (xs:=#[.tmp 17, .tmp 24]) rfl ?_);at_builtin;refine Kd.iG Kd.string (w0:=w) w.heap.size rfl (.tmp 17) (.tmp 24) 29 9 (.string ⟨#[]⟩) 16 rfl Tryz.underlying29 kI rfl (by decide) (by omega) u3 jd jB _ _ _ (fun k_=>some k_≠(.slice qd jB.length qe:Value).ownBlock) (fun _=>False) rfl rfl ?aO ?aR (fun _ _ h=>h) (fun _ h=>h.elim) ?aF ?aB ?aS ?aL ?_;(case aR=>repeat (first|exact (Kd.bT jp.out).2.2|(with_reducible refine Kd.lS ?_ _)|(with_reducible refine Kd.kW ?_ _)|(with_reducible refine Kd.mP ?_)));(case aB=>exact oV);(case aF=>exact (fun k_ hk=>Kd.fresh' (Kd.iN (aR_ jp.out)) k_ hk));(case aO=>exact (gF (Kd.bS j8.out (fun _ hk=>hk.2))));(case aS=>exact (aH oV));(case aL=>have:=jG.out;omega);intro qP qQ ho hb hg hat;rw [← q9.out] at ho;replace j3:=am (dZ (g:=jf) (o:= .cells #[.slice (some qc) j5.length j9, .slice jc j4.length ja] 26 (0,0)) (aG_ j3.out) hg (Kd.kS j8.out j3.out (by decide)));replace jp:=am (Kd.iM (ok:=(fun _=>True)) (aR_ jp.out) hg hat);replace HB:=am (hb);have qg:=am (ho);clear j8 ho hb hg hat))
       go_roundg k1
       case measure=>have:=jN.out;omega
       case rel=>exact ⟨(qw),(wrap64 (j7 + 1)),sd_,H',⟨by have:=jN.out;omega⟩,⟨gF (Kd.bS qg.out (fun _ hk=>trivial))⟩,⟨by (with_reducible repeat (first|refine dU ?_ _|refine dD ?_|refine dS ?_ _));exact j3.out⟩,⟨oV⟩⟩
      rw [if_neg jO] at H
      exact absurd H (by simp)
     rw [if_neg c10] at H
     exact absurd H (by simp)
    rw [if_neg c9] at H
    have jE:decide (j7 < (j5.length:Int))=false:=decide_eq_false c9
    clear c9
    have H':=am H
    clear H
    obtain ⟨jr,js,jt,ju⟩:=iK j3.out
    go_wp2
    go_loopg [3,5] k1 (fun kq v3 v5 w'=>∃ (je:List ByteArray) (j6:Int),v5= .int .i64 j6∧Aside0 (bA.l1 kq je j6 j5 j4=some r)∧Aside0 (kq≤k1)∧Aside0 (Kd.R Kd.string 9 w' w.heap.size (fun _=>True) v3 je)∧Aside0 (w'.heap[jf]?=some (.cells #[(.slice jb j5.length j9),(.slice jc j4.length ja)] 26 (0,0)))∧Aside0 (Below w.heap.size w w'))
    case atStart=>exact ⟨(jd),(0),sd_,H',⟨Nat.le_refl _⟩,⟨gF j8.out⟩,⟨by (with_reducible repeat (first|refine dU ?_ _|refine dD ?_|refine dS ?_ _));exact j3.out⟩,⟨oV⟩⟩
    case round=>
     clear H'
     try clear c3
     try clear c9
     try clear jE
     try clear jr
     try clear js
     try clear jl
     try clear jm
     try clear jt
     try clear ju
     try clear jn
     try clear jo
     obtain ⟨je,j6,rfl,HA,qx,j8,j3,HB⟩:=hrel
     cases gk with
     |zero=>exact absurd HA.out (by simp [bA.l1])
     |succ k2=>
      have H:=HA.out
      clear HA
      simp only [bA.l1] at H
      by_cases jC:j6 < (j4.length:Int)
      ·rw [if_pos jC] at H
       have jH:decide (j6 < (j4.length:Int))=true:=decide_eq_true jC
       clear jC
       by_cases jT:je.length < 8796093022208
       ·rw [if_pos jT] at H
        have jI:=am jT
        clear jT
        obtain ⟨jJ,hy_⟩:∃ y_:List ByteArray,y_=(je ++ [(⟨#[116,97,115,107]⟩:ByteArray)]):=⟨_,rfl⟩
        replace H:(if 0≤j6 then ((bK.f k2 (fV j4 j6)).bind fun jx=>(if jJ.length + jx.length < 8796093022208 then (bA.l1 k2 (jJ ++ jx) (wrap64 (j6 + 1)) j5 j4) else (none))) else (none))=some r:=rx_
        have qh:=am hy_
        clear hy_
        by_cases jU:0≤j6
        ·rw [if_pos jU] at H
         have qy:decide (0≤j6)=true:=decide_eq_true jU
         clear jU
         obtain ⟨jx,qz,H⟩:=bsm H
         (try dsimp only at H)
         have qG:=am qz
         clear qz
         by_cases jV:jJ.length + jx.length < 8796093022208
         ·rw [if_pos jV] at H
          have jK:=am jV
          clear jV
          obtain ⟨qA,hy_⟩:∃ y_:List ByteArray,y_=(jJ ++ jx):=⟨_,rfl⟩
          replace H:(bA.l1 k2 qA (wrap64 (j6 + 1)) j5 j4)=some r:=rx_
          have qi:=am hy_
          clear hy_
          have H':=am H
          clear H
          obtain ⟨jW,jX,jY,jZ⟩:=iK j3.out
          go_wp2_with (first|((with_reducible refine dR (b:= .append) (xs:=#[.tmp 33, .tmp 34]) rfl ?_);at_builtin;refine Kd.kF Kd.string (w0:=w) w.heap.size rfl (.tmp 33) (.tmp 34) 29 9 (.string ⟨#[]⟩) 16 rfl Tryz.underlying29 kI rfl (by decide) (by omega) u3 je (⟨#[116,97,115,107]⟩:ByteArray) [.string (⟨#[116,97,115,107]⟩:ByteArray)] (fun _=>True) (fun _=>False) rfl rfl ?aP (fun _ hk=>hk.elim) ?aF ?aO ?aB ?aS ?aL ?_;(case aP=>exact rfl);(case aB=>exact oV);(case aF=>exact (fun _ _=>trivial));(case aO=>exact (aR_ j8.out));(case aS=>exact (aH oV));(case aL=>have:=jI.out;omega);intro qH qR ho hb hg hat;rw [← qh.out] at ho;replace j3:=am (dZ (g:=jf) (o:= .cells #[.slice jb j5.length j9, .slice jc j4.length ja] 26 (0,0)) (aG_ j3.out) hg (Kd.kS j8.out j3.out (by decide)));replace HB:=am (hb);have ji:=am (ho);clear j8 ho hb hg hat;obtain ⟨q0,q1,q2,q3⟩:=iK j3.out;have qj:0≤(j6:Int):=of_decide_eq_true fA;have qk:j6 < (j4.length:Int):=of_decide_eq_true fA;obtain ⟨ql,jL,jM,qI,jh,hl60_0,hi60_0⟩:=wP jk.out j6 qj qk;cases qI;replace jh:=(HB.out.cell (World.block_lt_of_cell? w _ jh)).trans jh;have jy:=am hi60_0;have jz:=am hl60_0;clear hi60_0 hl60_0;replace qj:=eq_true qj;replace qk:=eq_true qk)|((with_reducible refine aD (f:=25) rfl ?_);refine gl_ 42 Tryz.func25 #[.slice jL (fV j4 j6).length jM] ?_;(with_reducible refine (bK.calls k2 _ _ (fV j4 j6) jx _ (aC_ (Kd.aU jy.out HB.out)) jz.out qG.out).mono ?_);rintro e qS ⟨qU,rfl,ho0,hb⟩;refine ⟨_,rfl,?_⟩;have jq:=am (Kd.eD (Kd.lW ho0 (Kd.iN (aR_ ji.out))) (aH oV));replace ji:=am (Kd.iJ (aR_ ji.out) (Kd.gP ho0) hb);replace j3:=bbP j3 hb;replace HB:=am (aA oV hb);(try clear hb);(try clear ho0);obtain ⟨qm,qn,qo⟩:=Kd.eB jq.out;subst qo)|((with_reducible refine dR (b:= .append) (xs:=#[.tmp 36, .tmp 42]) rfl ?_);at_builtin;refine Kd.iG Kd.string (w0:=w) w.heap.size rfl (.tmp 36) (.tmp 42) 29 9 (.string ⟨#[]⟩) 16 rfl Tryz.underlying29 kI rfl (by decide) (by omega) qH jJ jx _ _ _ (fun k_=>some k_≠(.slice qm jx.length qn:Value).ownBlock) (fun _=>False) rfl rfl ?aO ?aR (fun _ _ h=>h) (fun _ h=>h.elim) ?aF ?aB ?aS ?aL ?_;(case aR=>repeat (first|exact (Kd.bT jq.out).2.2|(with_reducible refine Kd.lS ?_ _)|(with_reducible refine Kd.kW ?_ _)|(with_reducible refine Kd.mP ?_)));(case aB=>exact oV);(case aF=>exact (fun k_ hk=>Kd.fresh' (Kd.iN (aR_ jq.out)) k_ hk));(case aO=>exact (gF (Kd.bS ji.out (fun _ hk=>hk.2))));(case aS=>exact (aH oV));(case aL=>have:=jK.out;omega);intro qV qW ho hb hg hat;rw [← qi.out] at ho;replace j3:=am (dZ (g:=jf) (o:= .cells #[.slice jb j5.length j9, .slice (some ql) j4.length ja] 26 (0,0)) (aG_ j3.out) hg (Kd.kS ji.out j3.out (by decide)));replace jq:=am (Kd.iM (ok:=(fun _=>True)) (aR_ jq.out) hg hat);replace HB:=am (hb);have qp:=am (ho);clear ji ho hb hg hat))
          go_roundg k2
          case measure=>have:=jN.out;have:=qx.out;omega
          case rel=>exact ⟨(qA),(wrap64 (j6 + 1)),sd_,H',⟨by have:=jN.out;have:=qx.out;omega⟩,⟨gF (Kd.bS qp.out (fun _ hk=>trivial))⟩,⟨by (with_reducible repeat (first|refine dU ?_ _|refine dD ?_|refine dS ?_ _));exact j3.out⟩,⟨oV⟩⟩
         rw [if_neg jV] at H
         exact absurd H (by simp)
        rw [if_neg jU] at H
        exact absurd H (by simp)
       rw [if_neg jT] at H
       exact absurd H (by simp)
      rw [if_neg jC] at H
      have jH:decide (j6 < (j4.length:Int))=false:=decide_eq_false jC
      clear jC
      obtain ⟨qJ,qB,H⟩:=bsm H
      (try dsimp only at H)
      have qK:=am qB
      clear qB
      obtain rfl:=Option.some.inj H
      obtain ⟨q4,q5,q6,q7⟩:=iK j3.out
      obtain ⟨qq,qr,qs⟩:=Kd.eB j8.out
      subst qs
      go_wp2_with (first|((with_reducible refine aD (f:=26) rfl ?_);refine gl_ 45 Tryz.func26 #[.slice qq je.length qr] ?_;(with_reducible refine (dI.calls k2 _ _ je qJ _ (aC_ (Kd.bT j8.out).2.2) (Kd.bT j8.out).2.1 qK.out).mono ?_);rintro e w' ⟨rfl,⟨nd,rfl⟩⟩;refine ⟨_,rfl,?_⟩))
      go_ret
      exact ⟨rr_,oV⟩
 replace c3:=Bool.eq_false_iff.mpr c3
 subst c3
 rw [if_neg (show ¬ (false=true) by decide)] at H
 obtain rfl:=Option.some.inj H
 go_wp2_with (first|((with_reducible refine aD (f:=23) rfl ?_);refine gl_ 7 Tryz.func23 #[.agg #[.slice jb j5.length j9, .slice jc j4.length ja]] ?_;(with_reducible refine (aX.calls k _ _ j5 _ _ j4 false _ (aC_ (Kd.aU jj.out HB.out)) jv.out (aC_ (Kd.aU jk.out HB.out)) jw.out A2.out).mono ?_);rintro e qX ⟨rfl,hb⟩;refine ⟨_,rfl,?_⟩;replace j3:=bbP j3 hb;replace HB:=am (aA oV hb);(try clear hb)))
 go_ret
 exact ⟨rr_,oV⟩
theorem bX.mono_l:∀ k,(∀ y0 y1 y2,LeO (bX.l0 k y0 y1 y2) (bX.l0 (k + 1) y0 y1 y2))∧(∀ y0 y1 y2 y3,LeO (bX.j1 k y0 y1 y2 y3) (bX.j1 (k + 1) y0 y1 y2 y3))
 |0=>⟨fun _ _ _ r h=>by simp [bX.l0] at h,fun _ _ _ _ r h=>by simp [bX.j1] at h⟩
 |k + 1=>by
  obtain ⟨ih0,ih1⟩:=bX.mono_l k
  refine ⟨?_,?_⟩
  ·intro y0 y1 y2
   unfold bX.l0
   have m0:=@aW.mono
   exact mo_
  ·intro y0 y1 y2 y3
   unfold bX.j1
   have m0:=@aW.mono
   exact mo_
theorem bX.mono:∀ a0 k,LeO (bX.f k a0) (bX.f (k + 1) a0):=by
 intro a0 k
 obtain ⟨ih0,ih1⟩:=bX.mono_l k
 unfold bX.f
 have m0:=@aW.mono
 exact mo_
theorem bX.calls (k:Nat) (a0:ByteArray) (r1:List ByteArray) (r2:Bool) (w:World) (h:bX.f k a0=some (r1,r2)):
  Calls Tryz.prog 10 #[.string a0] w fun e w'=>∃ v0_:Value,e= .returned (.tuple #[v0_, .bool r2])∧Kd.R Kd.string 9 w' w.heap.size (fun _=>True) v0_ r1∧Below w.heap.size w w':=by
 have HB:=am (Below.refl w.heap.size w)
 unfold bX.f at h
 have H:=h
 clear h
 by_cases c2:(a0.size:Int) > 20000
 ·rw [if_pos c2] at H
  have j8:decide (20000 < (a0.size:Int))=true:=decide_eq_true c2
  have j9:decide (20000 < a0.size)=true:=decide_eq_true (by omega)
  clear c2
  simp only [Option.some.injEq,Prod.mk.injEq] at H
  obtain ⟨rfl,rfl⟩:=H
  go_enter Tryz.func10,Tryz.ntmps10
  go_wp2
  go_ret2
  exact ⟨_,gM,by first|exact Kd.uG _ _ _ _ _|exact Kd.wH _ _ _ _ _|exact Kd.wK _ _ _ _ _|exact Kd.wI _ _ _ _ _|exact Kd.wJ _ _ _ _ _,dQ⟩
 rw [if_neg c2] at H
 have j8:decide (20000 < (a0.size:Int))=false:=decide_eq_false c2
 have j9:decide (20000 < a0.size)=false:=decide_eq_false (by omega)
 clear c2
 have H':=am H
 clear H
 go_enter Tryz.func10,Tryz.ntmps10
 go_wp2
 go_loopg [4,5] k (fun kq v4 v5 w'=>∃ (j5:List ByteArray) (j3:Int),v5= .int .i64 j3∧Aside0 (bX.l0 kq a0 j5 j3=some (r1,r2))∧Aside0 (kq≤k)∧Aside0 (Kd.R Kd.string 9 w' w.heap.size (fun _=>True) v4 j5)∧Aside0 (Below w.heap.size w w'))
 case atStart=>exact ⟨(([]:List ByteArray)),(0),sd_,H',⟨Nat.le_refl _⟩,⟨by first|exact Kd.uG _ _ _ _ _|exact Kd.wH _ _ _ _ _|exact Kd.wK _ _ _ _ _|exact Kd.wI _ _ _ _ _|exact Kd.wJ _ _ _ _ _⟩,⟨dQ⟩⟩
 case round=>
  clear H'
  try clear c2
  try clear j8
  try clear j9
  obtain ⟨j5,j3,rfl,HA,jb,j4,HB⟩:=hrel
  cases gk with
  |zero=>exact absurd HA.out (by simp [bX.l0])
  |succ k1=>
   have H:=HA.out
   clear HA
   simp only [bX.l0] at H
   by_cases c3:j3 < (a0.size:Int)
   ·rw [if_pos c3] at H
    have jc:decide (j3 < (a0.size:Int))=true:=decide_eq_true c3
    clear c3
    have jm:=am H
    clear H
    go_upto_region 6 with (fail)
    go_cut [23] (fun jD wc=>∃ (kq:Nat) (j7:Bool),jD= .bool j7∧Aside0 (bX.j1 kq a0 j5 j3 j7=some (r1,r2))∧Aside0 (kq≤k1)∧Aside0 (Kd.R Kd.string 9 wc w.heap.size (fun _=>True) u4 j5)∧Aside0 (Below w.heap.size w wc))
    case first=>
     have H:=jm.out
     clear jm
     by_cases c5:0≤j3
     ·rw [if_pos c5] at H
      have jd:decide (0≤j3)=true:=decide_eq_true c5
      clear c5
      (first|rw [jd]|(simp only [fI,fM];rw [jd])|skip)
      by_cases c7:(bt a0 j3)=32
      ·rw [if_pos c7] at H
       have jn:((bt a0 j3) == 32)=true:=beq_iff_eq.mpr c7
       have jo:((bt a0 j3) != 32)=false:=bne_eq_false_iff_eq.mpr c7
       clear c7
       have H':=am H
       clear H
       have p6:0≤(j3:Int):=of_decide_eq_true fA
       have q6:j3 < (a0.size:Int):=of_decide_eq_true fA
       have jE:=rM a0 j3
       replace p6:=eq_true p6
       replace q6:=eq_true q6
       go_wp2
       go_meet
       case rel=>exact ⟨_,(true),sd_,H',⟨by have:=jb.out;first|omega|exact Nat.le_refl _⟩,⟨gF j4.out⟩,⟨dQ⟩⟩
      rw [if_neg c7] at H
      have jn:((bt a0 j3) == 32)=false:=beq_eq_false_iff_ne.mpr c7
      have jo:((bt a0 j3) != 32)=true:=bne_iff_ne.mpr c7
      have H':=am H
      clear H
      have p6:0≤(j3:Int):=of_decide_eq_true fA
      have q6:j3 < (a0.size:Int):=of_decide_eq_true fA
      have jE:=rM a0 j3
      replace p6:=eq_true p6
      replace q6:=eq_true q6
      have p8:0≤(j3:Int):=of_decide_eq_true fA
      have q8:j3 < (a0.size:Int):=of_decide_eq_true fA
      have jF:=rM a0 j3
      replace p8:=eq_true p8
      replace q8:=eq_true q8
      go_wp2
      go_meet
      case rel=>exact ⟨_,(((bt a0 j3) == 10)),sd_,H',⟨by have:=jb.out;first|omega|exact Nat.le_refl _⟩,⟨gF j4.out⟩,⟨dQ⟩⟩
     rw [if_neg c5] at H
     exact absurd H (by simp)
    case rest=>
     clear jm
     try clear c2
     try clear j8
     try clear j9
     try clear c3
     try clear jc
     obtain ⟨kq,j7,rfl,HA,HJ3,j4,HB⟩:=hcut
     cases kq with
     |zero=>exact absurd HA.out (by simp [bX.j1])
     |succ je=>
      have H:=HA.out
      clear HA
      simp only [bX.j1] at H
      by_cases c9:j7=true
      ·subst c9
       rw [if_pos rfl] at H
       have H':=am H
       clear H
       go_wp2
       go_roundg je
       case measure=>have:=jb.out;have:=HJ3.out;omega
       case rel=>exact ⟨(j5),(wrap64 (j3 + 1)),sd_,H',⟨by have:=jb.out;have:=HJ3.out;omega⟩,⟨gF j4.out⟩,⟨dQ⟩⟩
      replace c9:=Bool.eq_false_iff.mpr c9
      subst c9
      rw [if_neg (show ¬ (false=true) by decide)] at H
      by_cases c10:0≤j3
      ·rw [if_pos c10] at H
       have jr:=eq_true c10
       have js:decide (0≤j3)=true:=decide_eq_true c10
       clear c10
       by_cases jf:j3≤(a0.size:Int)
       ·rw [if_pos jf] at H
        have jt:=eq_true jf
        have ju:decide (j3≤(a0.size:Int))=true:=decide_eq_true jf
        clear jf
        obtain ⟨j6,jv,H⟩:=bsm H
        (try dsimp only at H)
        have jw:=am jv
        clear jv
        by_cases ja:j6=0
        ·rw [if_pos ja] at H
         have jg:(j6 == 0)=true:=beq_iff_eq.mpr ja
         have jh:(j6 != 0)=false:=bne_eq_false_iff_eq.mpr ja
         clear ja
         simp only [Option.some.injEq,Prod.mk.injEq] at H
         obtain ⟨rfl,rfl⟩:=H
         go_wp2_with (first|((with_reducible refine aD (f:=27) rfl ?_);refine gl_ 29 Tryz.func27 #[.string (a0.extract (j3:Int).toNat a0.size)] ?_;(with_reducible refine (aW.calls je (a0.extract (j3:Int).toNat a0.size) j6 _ jw.out).mono ?_);rintro e jG ⟨rfl,hb⟩;refine ⟨_,rfl,?_⟩;replace j4:=am (Kd.fG (aR_ j4.out) hb);replace HB:=am (aA dQ hb);(try clear hb)))
         go_ret2
         exact ⟨_,gM,by first|exact Kd.uG _ _ _ _ _|exact Kd.wH _ _ _ _ _|exact Kd.wK _ _ _ _ _|exact Kd.wI _ _ _ _ _|exact Kd.wJ _ _ _ _ _,dQ⟩
        rw [if_neg ja] at H
        have jg:(j6 == 0)=false:=beq_eq_false_iff_ne.mpr ja
        have jh:(j6 != 0)=true:=bne_iff_ne.mpr ja
        have jx:=eq_true (of_decide_eq_true fA:0≤j3)
        by_cases jj:j3≤(wrap64 (j3 + j6))
        ·rw [if_pos jj] at H
         have jy:=eq_true jj
         have jz:decide (j3≤(wrap64 (j3 + j6)))=true:=decide_eq_true jj
         by_cases jk:(wrap64 (j3 + j6))≤(a0.size:Int)
         ·rw [if_pos jk] at H
          have jA:=eq_true jk
          have jB:decide ((wrap64 (j3 + j6))≤(a0.size:Int))=true:=decide_eq_true jk
          by_cases jl:j5.length < 8796093022208
          ·rw [if_pos jl] at H
           have ji:=am jl
           clear jl
           obtain ⟨jC,hy_⟩:∃ y_:List ByteArray,y_=(j5 ++ [a0.extract (j3:Int).toNat ((wrap64 (j3 + j6)):Int).toNat]):=⟨_,rfl⟩
           replace H:(bX.l0 je a0 jC (wrap64 (j3 + j6)))=some (r1,r2):=rx_
           have jp:=am hy_
           clear hy_
           have H':=am H
           clear H
           go_wp2_with (first|((with_reducible refine aD (f:=27) rfl ?_);refine gl_ 29 Tryz.func27 #[.string (a0.extract (j3:Int).toNat a0.size)] ?_;(with_reducible refine (aW.calls je (a0.extract (j3:Int).toNat a0.size) j6 _ jw.out).mono ?_);rintro e jH ⟨rfl,hb⟩;refine ⟨_,rfl,?_⟩;replace j4:=am (Kd.fG (aR_ j4.out) hb);replace HB:=am (aA dQ hb);(try clear hb))|((with_reducible refine dR (b:= .append) (xs:=#[.tmp 32, .tmp 39]) rfl ?_);at_builtin;refine Kd.kF Kd.string (w0:=w) w.heap.size rfl (.tmp 32) (.tmp 39) 29 9 (.string ⟨#[]⟩) 16 rfl Tryz.underlying29 kI rfl (by decide) (by omega) u4 j5 (a0.extract (j3:Int).toNat ((wrap64 (j3 + j6)):Int).toNat) [.string (a0.extract (j3:Int).toNat ((wrap64 (j3 + j6)):Int).toNat)] (fun _=>True) (fun _=>False) rfl rfl ?aP (fun _ hk=>hk.elim) ?aF ?aO ?aB ?aS ?aL ?_;(case aP=>exact rfl);(case aB=>exact dQ);(case aF=>exact (fun _ _=>trivial));(case aO=>exact (aR_ j4.out));(case aS=>exact (aH dQ));(case aL=>have:=ji.out;omega);intro jI jJ ho hb hg hat;rw [← jp.out] at ho;replace HB:=am (hb);have jq:=am (ho);clear j4 ho hb hg hat))
           go_roundg je
           case measure=>have:=jb.out;have:=HJ3.out;omega
           case rel=>exact ⟨(jC),(wrap64 (j3 + j6)),sd_,H',⟨by have:=jb.out;have:=HJ3.out;omega⟩,⟨gF jq.out⟩,⟨dQ⟩⟩
          rw [if_neg jl] at H
          exact absurd H (by simp)
         rw [if_neg jk] at H
         exact absurd H (by simp)
        rw [if_neg jj] at H
        exact absurd H (by simp)
       rw [if_neg jf] at H
       exact absurd H (by simp)
      rw [if_neg c10] at H
      exact absurd H (by simp)
   rw [if_neg c3] at H
   have jc:decide (j3 < (a0.size:Int))=false:=decide_eq_false c3
   clear c3
   simp only [Option.some.injEq,Prod.mk.injEq] at H
   obtain ⟨rfl,rfl⟩:=H
   go_wp2
   go_ret2
   exact ⟨_,gM,gF j4.out,dQ⟩
theorem bG.mono_l:∀ k,(∀ y0 y1 y2 y3,LeO (bG.l0 k y0 y1 y2 y3) (bG.l0 (k + 1) y0 y1 y2 y3))
 |0=>fun _ _ _ _ r h=>by simp [bG.l0] at h
 |k + 1=>by
  have ih0:=bG.mono_l k
  ·intro y0 y1 y2 y3
   unfold bG.l0
   exact mo_
theorem bG.mono:∀ a0 a1 k,LeO (bG.f k a0 a1) (bG.f (k + 1) a0 a1):=by
 intro a0 a1 k
 have ih0:=bG.mono_l k
 unfold bG.f
 exact mo_
theorem bG.calls (k:Nat) (A0:Option Addr) (c0:Nat) (l0:List ByteArray) (a1:ByteArray) (r:Int) (w:World) (hr0:Kd.C Kd.string w A0 l0.length l0) (hc0:l0.length≤c0) (h:bG.f k l0 a1=some r):
  Calls Tryz.prog 12 #[.slice A0 l0.length c0, .string a1] w fun e w'=>e= .returned (.int .i64 r)∧gQ w w':=by
 have je:=am hr0
 have jg:=am hc0
 clear hr0 hc0
 have H:(bG.l0 k l0 a1 0 0)=some r:=h
 clear h
 have H':=am H
 clear H
 go_enter Tryz.func12,Tryz.ntmps12
 go_wp2
 go_loopg [5,6] k (fun kq v5 v6 w'=>∃ (j4:Int) (j3:Int),v5= .int .i64 j4∧v6= .int .i64 j3∧Aside0 (bG.l0 kq l0 a1 j4 j3=some r)∧Aside0 (kq≤k)∧gQ w w')
 case atStart=>exact ⟨(0),(0),sd_,sd_,H',⟨Nat.le_refl _⟩,fJ⟩
 case round=>
  clear H'
  obtain ⟨j4,j3,rfl,rfl,HA,j8,⟨m1,rfl⟩⟩:=hrel
  cases gk with
  |zero=>exact absurd HA.out (by simp [bG.l0])
  |succ k1=>
   have H:=HA.out
   clear HA
   simp only [bG.l0] at H
   by_cases c3:j3 < (l0.length:Int)
   ·rw [if_pos c3] at H
    have j9:decide (j3 < (l0.length:Int))=true:=decide_eq_true c3
    clear c3
    by_cases c4:0≤j3
    ·rw [if_pos c4] at H
     have jf:decide (0≤j3)=true:=decide_eq_true c4
     clear c4
     by_cases c5:(nL ByteArray.empty l0 j3).toList=a1.toList
     ·rw [if_pos c5] at H
      have ja:((nL ByteArray.empty l0 j3).toList == a1.toList)=true:=beq_iff_eq.mpr c5
      have jb:((nL ByteArray.empty l0 j3).toList != a1.toList)=false:=bne_eq_false_iff_eq.mpr c5
      clear c5
      have H':=am H
      clear H
      have j5:0≤(j3:Int):=of_decide_eq_true fA
      have j6:j3 < (l0.length:Int):=of_decide_eq_true fA
      obtain ⟨jc,jd,j7⟩:=Kd.nV je.out j3 j5 j6
      cases jd
      replace j5:=eq_true j5
      replace j6:=eq_true j6
      go_wp2
      go_roundg k1
      case measure=>have:=j8.out;omega
      case rel=>exact ⟨(wrap64 (j4 + 1)),(wrap64 (j3 + 1)),sd_,sd_,H',⟨by have:=j8.out;omega⟩,fJ⟩
     rw [if_neg c5] at H
     have ja:((nL ByteArray.empty l0 j3).toList == a1.toList)=false:=beq_eq_false_iff_ne.mpr c5
     have jb:((nL ByteArray.empty l0 j3).toList != a1.toList)=true:=bne_iff_ne.mpr c5
     have H':=am H
     clear H
     have j5:0≤(j3:Int):=of_decide_eq_true fA
     have j6:j3 < (l0.length:Int):=of_decide_eq_true fA
     obtain ⟨jc,jd,j7⟩:=Kd.nV je.out j3 j5 j6
     cases jd
     replace j5:=eq_true j5
     replace j6:=eq_true j6
     go_wp2
     go_roundg k1
     case measure=>have:=j8.out;omega
     case rel=>exact ⟨(j4),(wrap64 (j3 + 1)),sd_,sd_,H',⟨by have:=j8.out;omega⟩,fJ⟩
    rw [if_neg c4] at H
    exact absurd H (by simp)
   rw [if_neg c3] at H
   have j9:decide (j3 < (l0.length:Int))=false:=decide_eq_false c3
   clear c3
   obtain rfl:=Option.some.inj H
   go_wp2
   go_ret
   exact ⟨sd_,fJ⟩
theorem bZ.mono_l:∀ k,(∀ y0 y1 y2 y3 y4,LeO (bZ.j0 k y0 y1 y2 y3 y4) (bZ.j0 (k + 1) y0 y1 y2 y3 y4))
 |0=>fun _ _ _ _ _ r h=>by simp [bZ.j0] at h
 |k + 1=>by
  have ih0:=bZ.mono_l k
  ·intro y0 y1 y2 y3 y4
   unfold bZ.j0
   have m0:=@bC.mono
   have m1:=@bX.mono
   have m2:=@bG.mono
   have m3:=@eX.mono
   have m4:=@bA.mono
   exact mo_
theorem bZ.mono:∀ a0 k,LeO (bZ.f k a0) (bZ.f (k + 1) a0):=by
 intro a0 k
 have ih0:=bZ.mono_l k
 unfold bZ.f
 have m0:=@bC.mono
 have m1:=@bX.mono
 have m2:=@bG.mono
 have m3:=@eX.mono
 have m4:=@bA.mono
 exact mo_
theorem bZ.calls (k:Nat) (A0:Option Addr) (c0:Nat) (l0:List Int) (r:Bool) (w:World) (hr0:Kd.C (Kd.int .u8) w A0 l0.length l0) (hc0:l0.length≤c0) (ht_:Tab w) (h:bZ.f k l0=some r):
  Calls Tryz.prog 6 #[.slice A0 l0.length c0] w fun e w'=>e= .returned (.bool r)∧Below w.heap.size w w':=by
 have hu26:=Tryz.underlying26
 have qb:=am hr0
 have qc:=am hc0
 clear hr0 hc0
 have HB:=am (Below.refl w.heap.size w)
 unfold bZ.f at h
 have H:=h
 clear h
 by_cases c2:(l0.length:Int) > 1048576
 ·rw [if_pos c2] at H
  have jT:decide (1048576 < (l0.length:Int))=true:=decide_eq_true c2
  have jU:decide (1048576 < l0.length)=true:=decide_eq_true (by omega)
  clear c2
  obtain rfl:=Option.some.inj H
  go_enter Tryz.func6,Tryz.ntmps6
  go_wp2
  repeat (go_quiet (fail);try go_wp2)
  go_ret
  exact ⟨rr_,dQ⟩
 rw [if_neg c2] at H
 have jT:decide (1048576 < (l0.length:Int))=false:=decide_eq_false c2
 have jU:decide (1048576 < l0.length)=false:=decide_eq_false (by omega)
 clear c2
 obtain ⟨⟨jb,jd⟩,A3,H⟩:=bsa H
 (try dsimp only at H)
 obtain ⟨ji,A4,H⟩:=bsa H
 (try dsimp only at H)
 obtain ⟨jN,A5,H⟩:=bsa H
 (try dsimp only at H)
 have qd:=am H
 clear H
 go_enter Tryz.func6,Tryz.ntmps6
 go_upto_region 6 with (first|(go_at_call 7;(with_reducible refine (eX.calls k _ _ l0 jb jd _ (aC_ qb.out) qc.out A3.out).mono ?_);rintro e w7 ⟨jV,qi,rfl,ho0,ho1,hb⟩;have j6:=am (Kd.eD (Kd.bS (ok':=fun k_=>True) ho0 (fun _ hk_=>trivial)) (aH dQ));have j7:=am (Kd.eT (Kd.aV (ok':=fun k_=>some k_≠(jV:Value).ownBlock) ho1 (fun k_ hk_=>hk_.2)) (aH dQ));replace HB:=am (aA dQ hb);(try clear hb);(try clear ho0);(try clear ho1))|((with_reducible refine bY (N:=3) rfl ?_);(try (refine nC (by rfl) ?_;dsimp only));refine eH rfl (N:=3) rfl (cs:=#[.slice none 0 0, .slice none 0 0]) (t:=26) rn_ ?_;intro j5 hg w8 hbox hb;replace j6:=am (Kd.fG (aR_ j6.out) hb);replace j7:=am (Kd.iT (Kd.vM (aN_ j7.out) j5 (Nat.le_of_eq hg.symm)) hb);have j3:=am (hbox);have jW:=am ((by rw [hg];exact (aH dQ):w.heap.size≤j5));have GE44:=am ((by rw [hg];exact (aH dQ):w.heap.size≤j5));replace HB:=am (aA dQ hb);clear hb hbox hg;obtain ⟨jh,jg,jX⟩:=Kd.eB j6.out;subst jX;obtain ⟨jj,jk,jl,jm⟩:=iK j3.out;obtain ⟨jc,ja,jH⟩:=Kd.eF j7.out;subst jH)|(go_at_call 8;(with_reducible refine (bC.calls k _ _ jb _ _ jd ji _ ?side1 (Kd.bT j6.out).2.1 ?side3 (Kd.eP j7.out).2.1 ?sideT A4.out).mono ?_);(case sideT=>first|exact ht_|exact Tab.below ht_ HB.out|exact Tab.below ht_ kT);(case side1=>refine (Kd.bT (e:=3) (base:=w.heap.size) (ok:=fun k_=>True) (n:=jb.length) (c:=jg) ?_).2.2;exact (gF ((Kd.bS (Kd.iO (p:=⟨j5,1,none⟩) (Kd.iO (p:=⟨j5,0,none⟩) (Kd.kR j6.out j3.out (by decide)) (fun _ hk=>hk.2) (.slice jh jb.length jg)) (fun _ hk=>hk.2) (.slice jc jd.length ja)) (fun _ h_=>h_.1)))));(case side3=>refine (Kd.eP (e:=33) (base:=w.heap.size) (ok:=fun k_=>(some k_≠(.slice jh jb.length jg:Value).ownBlock∧k_≠j5)) (n:=jd.length) (c:=ja) ?_).2.2;exact (lI ((Kd.aV (Kd.dA (p:=⟨j5,1,none⟩) (Kd.dA (p:=⟨j5,0,none⟩) (Kd.aV j7.out (fun k_ hk=>(⟨hk,hk.2⟩:_∧k_≠j5))) (fun _ hk=>hk.2) (.slice jh jb.length jg)) (fun _ hk=>hk.2) (.slice jc jd.length ja)) (fun _ h_=>h_.1)))));rintro e qj ⟨rfl,hb⟩;replace j6:=am (Kd.fG (gF ((Kd.bS (Kd.iO (p:=⟨j5,1,none⟩) (Kd.iO (p:=⟨j5,0,none⟩) (Kd.kR j6.out j3.out (by decide)) (fun _ hk=>hk.2) (.slice jh jb.length jg)) (fun _ hk=>hk.2) (.slice jc jd.length ja)) (fun _ h_=>h_.1)))) hb);replace j7:=am (Kd.iT (lI ((Kd.aV (Kd.dA (p:=⟨j5,1,none⟩) (Kd.dA (p:=⟨j5,0,none⟩) (Kd.aV j7.out (fun k_ hk=>(⟨hk,hk.2⟩:_∧k_≠j5))) (fun _ hk=>hk.2) (.slice jh jb.length jg)) (fun _ hk=>hk.2) (.slice jc jd.length ja)) (fun _ h_=>h_.1)))) hb);replace j3:=am (iW (g:=j5) (o:= .cells #[.slice jh jb.length jg, .slice jc jd.length ja] 26 (0,0)) (aY (aY j3.out 0 _ rfl) 1 _ rfl) hb);replace HB:=am (aA kT hb);(try clear hb);obtain ⟨jn,jo,jp,jq⟩:=iK j3.out)|(go_at_call 9;(with_reducible refine (bA.calls k _ _ jb _ _ jd jN _ (aC_ (Kd.bT j6.out).2.2) (Kd.bT j6.out).2.1 (aC_ (Kd.eP j7.out).2.2) (Kd.eP j7.out).2.1 A5.out).mono ?_);rintro e qk ⟨rfl,hb⟩;replace j6:=am (Kd.fG (aR_ j6.out) hb);replace j7:=am (Kd.iT (aN_ j7.out) hb);replace j3:=bbP j3 hb;replace HB:=am (aA kT hb);(try clear hb)))
 repeat (go_quiet (first|(go_at_call 7;(with_reducible refine (eX.calls k _ _ l0 jb jd _ (aC_ qb.out) qc.out A3.out).mono ?_);rintro e w7 ⟨jV,qi,rfl,ho0,ho1,hb⟩;have j6:=am (Kd.eD (Kd.bS (ok':=fun k_=>True) ho0 (fun _ hk_=>trivial)) (aH dQ));have j7:=am (Kd.eT (Kd.aV (ok':=fun k_=>some k_≠(jV:Value).ownBlock) ho1 (fun k_ hk_=>hk_.2)) (aH dQ));replace HB:=am (aA dQ hb);(try clear hb);(try clear ho0);(try clear ho1))|((with_reducible refine bY (N:=3) rfl ?_);(try (refine nC (by rfl) ?_;dsimp only));refine eH rfl (N:=3) rfl (cs:=#[.slice none 0 0, .slice none 0 0]) (t:=26) rn_ ?_;intro j5 hg w8 hbox hb;replace j6:=am (Kd.fG (aR_ j6.out) hb);replace j7:=am (Kd.iT (Kd.vM (aN_ j7.out) j5 (Nat.le_of_eq hg.symm)) hb);have j3:=am (hbox);have jW:=am ((by rw [hg];exact (aH dQ):w.heap.size≤j5));have GE44:=am ((by rw [hg];exact (aH dQ):w.heap.size≤j5));replace HB:=am (aA dQ hb);clear hb hbox hg;obtain ⟨jh,jg,jX⟩:=Kd.eB j6.out;subst jX;obtain ⟨jj,jk,jl,jm⟩:=iK j3.out;obtain ⟨jc,ja,jH⟩:=Kd.eF j7.out;subst jH)|(go_at_call 8;(with_reducible refine (bC.calls k _ _ jb _ _ jd ji _ ?side1 (Kd.bT j6.out).2.1 ?side3 (Kd.eP j7.out).2.1 ?sideT A4.out).mono ?_);(case sideT=>first|exact ht_|exact Tab.below ht_ HB.out|exact Tab.below ht_ kT);(case side1=>refine (Kd.bT (e:=3) (base:=w.heap.size) (ok:=fun k_=>True) (n:=jb.length) (c:=jg) ?_).2.2;exact (gF ((Kd.bS (Kd.iO (p:=⟨j5,1,none⟩) (Kd.iO (p:=⟨j5,0,none⟩) (Kd.kR j6.out j3.out (by decide)) (fun _ hk=>hk.2) (.slice jh jb.length jg)) (fun _ hk=>hk.2) (.slice jc jd.length ja)) (fun _ h_=>h_.1)))));(case side3=>refine (Kd.eP (e:=33) (base:=w.heap.size) (ok:=fun k_=>(some k_≠(.slice jh jb.length jg:Value).ownBlock∧k_≠j5)) (n:=jd.length) (c:=ja) ?_).2.2;exact (lI ((Kd.aV (Kd.dA (p:=⟨j5,1,none⟩) (Kd.dA (p:=⟨j5,0,none⟩) (Kd.aV j7.out (fun k_ hk=>(⟨hk,hk.2⟩:_∧k_≠j5))) (fun _ hk=>hk.2) (.slice jh jb.length jg)) (fun _ hk=>hk.2) (.slice jc jd.length ja)) (fun _ h_=>h_.1)))));rintro e qj ⟨rfl,hb⟩;replace j6:=am (Kd.fG (gF ((Kd.bS (Kd.iO (p:=⟨j5,1,none⟩) (Kd.iO (p:=⟨j5,0,none⟩) (Kd.kR j6.out j3.out (by decide)) (fun _ hk=>hk.2) (.slice jh jb.length jg)) (fun _ hk=>hk.2) (.slice jc jd.length ja)) (fun _ h_=>h_.1)))) hb);replace j7:=am (Kd.iT (lI ((Kd.aV (Kd.dA (p:=⟨j5,1,none⟩) (Kd.dA (p:=⟨j5,0,none⟩) (Kd.aV j7.out (fun k_ hk=>(⟨hk,hk.2⟩:_∧k_≠j5))) (fun _ hk=>hk.2) (.slice jh jb.length jg)) (fun _ hk=>hk.2) (.slice jc jd.length ja)) (fun _ h_=>h_.1)))) hb);replace j3:=am (iW (g:=j5) (o:= .cells #[.slice jh jb.length jg, .slice jc jd.length ja] 26 (0,0)) (aY (aY j3.out 0 _ rfl) 1 _ rfl) hb);replace HB:=am (aA kT hb);(try clear hb);obtain ⟨jn,jo,jp,jq⟩:=iK j3.out)|(go_at_call 9;(with_reducible refine (bA.calls k _ _ jb _ _ jd jN _ (aC_ (Kd.bT j6.out).2.2) (Kd.bT j6.out).2.1 (aC_ (Kd.eP j7.out).2.2) (Kd.eP j7.out).2.1 A5.out).mono ?_);rintro e qk ⟨rfl,hb⟩;replace j6:=am (Kd.fG (aR_ j6.out) hb);replace j7:=am (Kd.iT (aN_ j7.out) hb);replace j3:=bbP j3 hb;replace HB:=am (aA kT hb);(try clear hb)));go_upto_region 6 with (first|(go_at_call 7;(with_reducible refine (eX.calls k _ _ l0 jb jd _ (aC_ qb.out) qc.out A3.out).mono ?_);rintro e w7 ⟨jV,qi,rfl,ho0,ho1,hb⟩;have j6:=am (Kd.eD (Kd.bS (ok':=fun k_=>True) ho0 (fun _ hk_=>trivial)) (aH dQ));have j7:=am (Kd.eT (Kd.aV (ok':=fun k_=>some k_≠(jV:Value).ownBlock) ho1 (fun k_ hk_=>hk_.2)) (aH dQ));replace HB:=am (aA dQ hb);(try clear hb);(try clear ho0);(try clear ho1))|((with_reducible refine bY (N:=3) rfl ?_);(try (refine nC (by rfl) ?_;dsimp only));refine eH rfl (N:=3) rfl (cs:=#[.slice none 0 0, .slice none 0 0]) (t:=26) rn_ ?_;intro j5 hg w8 hbox hb;replace j6:=am (Kd.fG (aR_ j6.out) hb);replace j7:=am (Kd.iT (Kd.vM (aN_ j7.out) j5 (Nat.le_of_eq hg.symm)) hb);have j3:=am (hbox);have jW:=am ((by rw [hg];exact (aH dQ):w.heap.size≤j5));have GE44:=am ((by rw [hg];exact (aH dQ):w.heap.size≤j5));replace HB:=am (aA dQ hb);clear hb hbox hg;obtain ⟨jh,jg,jX⟩:=Kd.eB j6.out;subst jX;obtain ⟨jj,jk,jl,jm⟩:=iK j3.out;obtain ⟨jc,ja,jH⟩:=Kd.eF j7.out;subst jH)|(go_at_call 8;(with_reducible refine (bC.calls k _ _ jb _ _ jd ji _ ?side1 (Kd.bT j6.out).2.1 ?side3 (Kd.eP j7.out).2.1 ?sideT A4.out).mono ?_);(case sideT=>first|exact ht_|exact Tab.below ht_ HB.out|exact Tab.below ht_ kT);(case side1=>refine (Kd.bT (e:=3) (base:=w.heap.size) (ok:=fun k_=>True) (n:=jb.length) (c:=jg) ?_).2.2;exact (gF ((Kd.bS (Kd.iO (p:=⟨j5,1,none⟩) (Kd.iO (p:=⟨j5,0,none⟩) (Kd.kR j6.out j3.out (by decide)) (fun _ hk=>hk.2) (.slice jh jb.length jg)) (fun _ hk=>hk.2) (.slice jc jd.length ja)) (fun _ h_=>h_.1)))));(case side3=>refine (Kd.eP (e:=33) (base:=w.heap.size) (ok:=fun k_=>(some k_≠(.slice jh jb.length jg:Value).ownBlock∧k_≠j5)) (n:=jd.length) (c:=ja) ?_).2.2;exact (lI ((Kd.aV (Kd.dA (p:=⟨j5,1,none⟩) (Kd.dA (p:=⟨j5,0,none⟩) (Kd.aV j7.out (fun k_ hk=>(⟨hk,hk.2⟩:_∧k_≠j5))) (fun _ hk=>hk.2) (.slice jh jb.length jg)) (fun _ hk=>hk.2) (.slice jc jd.length ja)) (fun _ h_=>h_.1)))));rintro e qj ⟨rfl,hb⟩;replace j6:=am (Kd.fG (gF ((Kd.bS (Kd.iO (p:=⟨j5,1,none⟩) (Kd.iO (p:=⟨j5,0,none⟩) (Kd.kR j6.out j3.out (by decide)) (fun _ hk=>hk.2) (.slice jh jb.length jg)) (fun _ hk=>hk.2) (.slice jc jd.length ja)) (fun _ h_=>h_.1)))) hb);replace j7:=am (Kd.iT (lI ((Kd.aV (Kd.dA (p:=⟨j5,1,none⟩) (Kd.dA (p:=⟨j5,0,none⟩) (Kd.aV j7.out (fun k_ hk=>(⟨hk,hk.2⟩:_∧k_≠j5))) (fun _ hk=>hk.2) (.slice jh jb.length jg)) (fun _ hk=>hk.2) (.slice jc jd.length ja)) (fun _ h_=>h_.1)))) hb);replace j3:=am (iW (g:=j5) (o:= .cells #[.slice jh jb.length jg, .slice jc jd.length ja] 26 (0,0)) (aY (aY j3.out 0 _ rfl) 1 _ rfl) hb);replace HB:=am (aA kT hb);(try clear hb);obtain ⟨jn,jo,jp,jq⟩:=iK j3.out)|(go_at_call 9;(with_reducible refine (bA.calls k _ _ jb _ _ jd jN _ (aC_ (Kd.bT j6.out).2.2) (Kd.bT j6.out).2.1 (aC_ (Kd.eP j7.out).2.2) (Kd.eP j7.out).2.1 A5.out).mono ?_);rintro e qk ⟨rfl,hb⟩;replace j6:=am (Kd.fG (aR_ j6.out) hb);replace j7:=am (Kd.iT (aN_ j7.out) hb);replace j3:=bbP j3 hb;replace HB:=am (aA kT hb);(try clear hb))))
 (try simp only [Act.put,List.setIfInBounds_toArray,List.set_cons_zero,List.set_cons_succ])
 go_cut [23] (fun qu wc=>∃ (kq:Nat) (js:Bool),qu= .bool js∧Aside0 (bZ.j0 kq ji jN js jb jd=some r)∧Aside0 (kq≤k)∧Aside0 (Kd.R (Kd.int .i64) 3 wc w.heap.size (fun _=>True) (.slice jh jb.length jg) jb)∧Aside0 (Kd.N (Kd.slice 58 k58) 33 wc w.heap.size (fun k_=>some k_≠((.slice jh jb.length jg):Value).ownBlock∧k_≠j5) (.slice jc jd.length ja) jd)∧Aside0 (wc.heap[j5]?=some (.cells #[(.slice jh jb.length jg),(.slice jc jd.length ja)] 26 (0,0)))∧Aside0 (Below w.heap.size w wc))
 case first=>
  have H:=qd.out
  clear qd
  by_cases jP:ji.toList=jN.toList
  ·rw [if_pos jP] at H
   have jr:(ji.toList == jN.toList)=true:=beq_iff_eq.mpr jP
   have jY:(ji.toList != jN.toList)=false:=bne_eq_false_iff_eq.mpr jP
   clear jP
   (first|rw [jr]|(simp only [fI,fM];rw [jr])|skip)
   have H':=am H
   clear H
   go_wp2
   repeat (go_quiet (fail);try go_wp2)
   go_meet
   case rel=>exact ⟨_,((ji.toList == ([]:List UInt8))),sd_,H',⟨by first|omega|exact Nat.le_refl _⟩,⟨gF j6.out⟩,⟨lI j7.out⟩,⟨by (with_reducible repeat (first|refine dU ?_ _|refine dD ?_|refine dS ?_ _));exact j3.out⟩,⟨kT⟩⟩
  rw [if_neg jP] at H
  have jr:(ji.toList == jN.toList)=false:=beq_eq_false_iff_ne.mpr jP
  have jY:(ji.toList != jN.toList)=true:=bne_iff_ne.mpr jP
  (first|rw [jr]|(simp only [fI,fM];rw [jr])|skip)
  have H':=am H
  clear H
  go_wp2
  repeat (go_quiet (fail);try go_wp2)
  go_meet
  case rel=>exact ⟨_,(true),sd_,H',⟨by first|omega|exact Nat.le_refl _⟩,⟨gF j6.out⟩,⟨lI j7.out⟩,⟨by (with_reducible repeat (first|refine dU ?_ _|refine dD ?_|refine dS ?_ _));exact j3.out⟩,⟨kT⟩⟩
 case rest=>
  clear qd
  try clear c2
  try clear jT
  try clear jU
  try clear jj
  try clear jk
  try clear jn
  try clear jo
  try clear jl
  try clear jm
  try clear jp
  try clear jq
  obtain ⟨kq,js,rfl,HA,HJ5,j8,j9,j3,HB⟩:=hcut
  cases kq with
  |zero=>exact absurd HA.out (by simp [bZ.j0])
  |succ je=>
   have H:=HA.out
   clear HA
   simp only [bZ.j0] at H
   by_cases q9:js=true
   ·subst q9
    rw [if_pos rfl] at H
    obtain rfl:=Option.some.inj H
    go_wp2
    repeat (go_quiet (fail);try go_wp2)
    go_ret
    exact ⟨rr_,kT⟩
   replace q9:=Bool.eq_false_iff.mpr q9
   subst q9
   rw [if_neg (show ¬ (false=true) by decide)] at H
   obtain ⟨⟨jf,qv⟩,ql,H⟩:=bsm H
   (try dsimp only at H)
   have jG:=am ql
   clear ql
   by_cases qa:qv=true
   ·subst qa
    rw [if_pos rfl] at H
    obtain ⟨jt,qm,H⟩:=bsm H
    (try dsimp only at H)
    have jO:=am qm
    clear qm
    by_cases jQ:jt=(jd.length:Int)
    ·rw [if_pos jQ] at H
     have jZ:(jt == (jd.length:Int))=true:=beq_iff_eq.mpr jQ
     have q0:(jt != (jd.length:Int))=false:=bne_eq_false_iff_eq.mpr jQ
     clear jQ
     obtain ⟨jI,qn,H⟩:=bsm H
     (try dsimp only at H)
     have jS:=am qn
     clear qn
     by_cases jR:jI=(jb.length:Int)
     ·rw [if_pos jR] at H
      have q1:(jI == (jb.length:Int))=true:=beq_iff_eq.mpr jR
      have q2:(jI != (jb.length:Int))=false:=bne_eq_false_iff_eq.mpr jR
      clear jR
      obtain ⟨qe,qo,H⟩:=bsm H
      (try dsimp only at H)
      have qf:=am qo
      clear qo
      obtain ⟨qg,qp,H⟩:=bsm H
      (try dsimp only at H)
      have qh:=am qp
      clear qp
      obtain rfl:=Option.some.inj H
      go_wp2_with (first|(go_at_call 10;(with_reducible refine (bX.calls je ji jf true _ jG.out).mono ?_);rintro e qq ⟨jJ,rfl,ho0,hb⟩;replace j8:=am (Kd.fG (aR_ j8.out) hb);replace j9:=am (Kd.kN (aN_ j9.out) (Kd.gP ho0) hb);have j4:=am (Kd.eD ho0 (aH kT));replace j3:=bbP j3 hb;replace HB:=am (aA kT hb);(try clear hb);(try clear ho0);obtain ⟨q3,q4,jK⟩:=Kd.eB j4.out;subst jK)|(go_at_call 12;(with_reducible refine (bG.calls je _ _ jf (⟨#[116,97,115,107]⟩:ByteArray) jt _ (aC_ (Kd.bT j4.out).2.2) (Kd.bT j4.out).2.1 jO.out).mono ?_);rintro e w' ⟨rfl,⟨nd,rfl⟩⟩;(try first|exact ⟨rfl,_,World.drewN_drewN _ _ _⟩|exact ⟨rfl,_,Eq.trans (World.drewN_drewN _ _ _) (congrArg (World.drewN _) (Nat.add_assoc _ _ _))⟩);obtain ⟨ju,jv,jw,jx⟩:=iK j3.out)|(go_at_call 12;(with_reducible refine (bG.calls je _ _ jf (⟨#[98,111,120]⟩:ByteArray) jI _ (aC_ (Kd.bT j4.out).2.2) (Kd.bT j4.out).2.1 jS.out).mono ?_);rintro e w' ⟨rfl,⟨nd,rfl⟩⟩;(try first|exact ⟨rfl,_,World.drewN_drewN _ _ _⟩|exact ⟨rfl,_,Eq.trans (World.drewN_drewN _ _ _) (congrArg (World.drewN _) (Nat.add_assoc _ _ _))⟩))|(go_at_call 12;(with_reducible refine (bG.calls je _ _ jf (⟨#[123]⟩:ByteArray) qe _ (aC_ (Kd.bT j4.out).2.2) (Kd.bT j4.out).2.1 qf.out).mono ?_);rintro e w' ⟨rfl,⟨nd,rfl⟩⟩;(try first|exact ⟨rfl,_,World.drewN_drewN _ _ _⟩|exact ⟨rfl,_,Eq.trans (World.drewN_drewN _ _ _) (congrArg (World.drewN _) (Nat.add_assoc _ _ _))⟩))|(go_at_call 12;(with_reducible refine (bG.calls je _ _ jf (⟨#[125]⟩:ByteArray) qg _ (aC_ (Kd.bT j4.out).2.2) (Kd.bT j4.out).2.1 qh.out).mono ?_);rintro e w' ⟨rfl,⟨nd,rfl⟩⟩;(try first|exact ⟨rfl,_,World.drewN_drewN _ _ _⟩|exact ⟨rfl,_,Eq.trans (World.drewN_drewN _ _ _) (congrArg (World.drewN _) (Nat.add_assoc _ _ _))⟩)))
      repeat (go_quiet (first|(go_at_call 10;(with_reducible refine (bX.calls je ji jf true _ jG.out).mono ?_);rintro e qq ⟨jJ,rfl,ho0,hb⟩;replace j8:=am (Kd.fG (aR_ j8.out) hb);replace j9:=am (Kd.kN (aN_ j9.out) (Kd.gP ho0) hb);have j4:=am (Kd.eD ho0 (aH kT));replace j3:=bbP j3 hb;replace HB:=am (aA kT hb);(try clear hb);(try clear ho0);obtain ⟨q3,q4,jK⟩:=Kd.eB j4.out;subst jK)|(go_at_call 12;(with_reducible refine (bG.calls je _ _ jf (⟨#[116,97,115,107]⟩:ByteArray) jt _ (aC_ (Kd.bT j4.out).2.2) (Kd.bT j4.out).2.1 jO.out).mono ?_);rintro e w' ⟨rfl,⟨nd,rfl⟩⟩;(try first|exact ⟨rfl,_,World.drewN_drewN _ _ _⟩|exact ⟨rfl,_,Eq.trans (World.drewN_drewN _ _ _) (congrArg (World.drewN _) (Nat.add_assoc _ _ _))⟩);obtain ⟨ju,jv,jw,jx⟩:=iK j3.out)|(go_at_call 12;(with_reducible refine (bG.calls je _ _ jf (⟨#[98,111,120]⟩:ByteArray) jI _ (aC_ (Kd.bT j4.out).2.2) (Kd.bT j4.out).2.1 jS.out).mono ?_);rintro e w' ⟨rfl,⟨nd,rfl⟩⟩;(try first|exact ⟨rfl,_,World.drewN_drewN _ _ _⟩|exact ⟨rfl,_,Eq.trans (World.drewN_drewN _ _ _) (congrArg (World.drewN _) (Nat.add_assoc _ _ _))⟩))|(go_at_call 12;(with_reducible refine (bG.calls je _ _ jf (⟨#[123]⟩:ByteArray) qe _ (aC_ (Kd.bT j4.out).2.2) (Kd.bT j4.out).2.1 qf.out).mono ?_);rintro e w' ⟨rfl,⟨nd,rfl⟩⟩;(try first|exact ⟨rfl,_,World.drewN_drewN _ _ _⟩|exact ⟨rfl,_,Eq.trans (World.drewN_drewN _ _ _) (congrArg (World.drewN _) (Nat.add_assoc _ _ _))⟩))|(go_at_call 12;(with_reducible refine (bG.calls je _ _ jf (⟨#[125]⟩:ByteArray) qg _ (aC_ (Kd.bT j4.out).2.2) (Kd.bT j4.out).2.1 qh.out).mono ?_);rintro e w' ⟨rfl,⟨nd,rfl⟩⟩;(try first|exact ⟨rfl,_,World.drewN_drewN _ _ _⟩|exact ⟨rfl,_,Eq.trans (World.drewN_drewN _ _ _) (congrArg (World.drewN _) (Nat.add_assoc _ _ _))⟩)));try go_wp2_with (first|(go_at_call 10;(with_reducible refine (bX.calls je ji jf true _ jG.out).mono ?_);rintro e qq ⟨jJ,rfl,ho0,hb⟩;replace j8:=am (Kd.fG (aR_ j8.out) hb);replace j9:=am (Kd.kN (aN_ j9.out) (Kd.gP ho0) hb);have j4:=am (Kd.eD ho0 (aH kT));replace j3:=bbP j3 hb;replace HB:=am (aA kT hb);(try clear hb);(try clear ho0);obtain ⟨q3,q4,jK⟩:=Kd.eB j4.out;subst jK)|(go_at_call 12;(with_reducible refine (bG.calls je _ _ jf (⟨#[116,97,115,107]⟩:ByteArray) jt _ (aC_ (Kd.bT j4.out).2.2) (Kd.bT j4.out).2.1 jO.out).mono ?_);rintro e w' ⟨rfl,⟨nd,rfl⟩⟩;(try first|exact ⟨rfl,_,World.drewN_drewN _ _ _⟩|exact ⟨rfl,_,Eq.trans (World.drewN_drewN _ _ _) (congrArg (World.drewN _) (Nat.add_assoc _ _ _))⟩);obtain ⟨ju,jv,jw,jx⟩:=iK j3.out)|(go_at_call 12;(with_reducible refine (bG.calls je _ _ jf (⟨#[98,111,120]⟩:ByteArray) jI _ (aC_ (Kd.bT j4.out).2.2) (Kd.bT j4.out).2.1 jS.out).mono ?_);rintro e w' ⟨rfl,⟨nd,rfl⟩⟩;(try first|exact ⟨rfl,_,World.drewN_drewN _ _ _⟩|exact ⟨rfl,_,Eq.trans (World.drewN_drewN _ _ _) (congrArg (World.drewN _) (Nat.add_assoc _ _ _))⟩))|(go_at_call 12;(with_reducible refine (bG.calls je _ _ jf (⟨#[123]⟩:ByteArray) qe _ (aC_ (Kd.bT j4.out).2.2) (Kd.bT j4.out).2.1 qf.out).mono ?_);rintro e w' ⟨rfl,⟨nd,rfl⟩⟩;(try first|exact ⟨rfl,_,World.drewN_drewN _ _ _⟩|exact ⟨rfl,_,Eq.trans (World.drewN_drewN _ _ _) (congrArg (World.drewN _) (Nat.add_assoc _ _ _))⟩))|(go_at_call 12;(with_reducible refine (bG.calls je _ _ jf (⟨#[125]⟩:ByteArray) qg _ (aC_ (Kd.bT j4.out).2.2) (Kd.bT j4.out).2.1 qh.out).mono ?_);rintro e w' ⟨rfl,⟨nd,rfl⟩⟩;(try first|exact ⟨rfl,_,World.drewN_drewN _ _ _⟩|exact ⟨rfl,_,Eq.trans (World.drewN_drewN _ _ _) (congrArg (World.drewN _) (Nat.add_assoc _ _ _))⟩))))
      go_ret
      exact ⟨rr_,kT⟩
     rw [if_neg jR] at H
     have q1:(jI == (jb.length:Int))=false:=beq_eq_false_iff_ne.mpr jR
     have q2:(jI != (jb.length:Int))=true:=bne_iff_ne.mpr jR
     obtain rfl:=Option.some.inj H
     go_wp2_with (first|(go_at_call 10;(with_reducible refine (bX.calls je ji jf true _ jG.out).mono ?_);rintro e qr ⟨jJ,rfl,ho0,hb⟩;replace j8:=am (Kd.fG (aR_ j8.out) hb);replace j9:=am (Kd.kN (aN_ j9.out) (Kd.gP ho0) hb);have j4:=am (Kd.eD ho0 (aH kT));replace j3:=bbP j3 hb;replace HB:=am (aA kT hb);(try clear hb);(try clear ho0);obtain ⟨q5,q6,jL⟩:=Kd.eB j4.out;subst jL)|(go_at_call 12;(with_reducible refine (bG.calls je _ _ jf (⟨#[116,97,115,107]⟩:ByteArray) jt _ (aC_ (Kd.bT j4.out).2.2) (Kd.bT j4.out).2.1 jO.out).mono ?_);rintro e w' ⟨rfl,⟨nd,rfl⟩⟩;(try first|exact ⟨rfl,_,World.drewN_drewN _ _ _⟩|exact ⟨rfl,_,Eq.trans (World.drewN_drewN _ _ _) (congrArg (World.drewN _) (Nat.add_assoc _ _ _))⟩);obtain ⟨jy,jz,jA,jB⟩:=iK j3.out)|(go_at_call 12;(with_reducible refine (bG.calls je _ _ jf (⟨#[98,111,120]⟩:ByteArray) jI _ (aC_ (Kd.bT j4.out).2.2) (Kd.bT j4.out).2.1 jS.out).mono ?_);rintro e w' ⟨rfl,⟨nd,rfl⟩⟩;(try first|exact ⟨rfl,_,World.drewN_drewN _ _ _⟩|exact ⟨rfl,_,Eq.trans (World.drewN_drewN _ _ _) (congrArg (World.drewN _) (Nat.add_assoc _ _ _))⟩)))
     repeat (go_quiet (first|(go_at_call 10;(with_reducible refine (bX.calls je ji jf true _ jG.out).mono ?_);rintro e qr ⟨jJ,rfl,ho0,hb⟩;replace j8:=am (Kd.fG (aR_ j8.out) hb);replace j9:=am (Kd.kN (aN_ j9.out) (Kd.gP ho0) hb);have j4:=am (Kd.eD ho0 (aH kT));replace j3:=bbP j3 hb;replace HB:=am (aA kT hb);(try clear hb);(try clear ho0);obtain ⟨q5,q6,jL⟩:=Kd.eB j4.out;subst jL)|(go_at_call 12;(with_reducible refine (bG.calls je _ _ jf (⟨#[116,97,115,107]⟩:ByteArray) jt _ (aC_ (Kd.bT j4.out).2.2) (Kd.bT j4.out).2.1 jO.out).mono ?_);rintro e w' ⟨rfl,⟨nd,rfl⟩⟩;(try first|exact ⟨rfl,_,World.drewN_drewN _ _ _⟩|exact ⟨rfl,_,Eq.trans (World.drewN_drewN _ _ _) (congrArg (World.drewN _) (Nat.add_assoc _ _ _))⟩);obtain ⟨jy,jz,jA,jB⟩:=iK j3.out)|(go_at_call 12;(with_reducible refine (bG.calls je _ _ jf (⟨#[98,111,120]⟩:ByteArray) jI _ (aC_ (Kd.bT j4.out).2.2) (Kd.bT j4.out).2.1 jS.out).mono ?_);rintro e w' ⟨rfl,⟨nd,rfl⟩⟩;(try first|exact ⟨rfl,_,World.drewN_drewN _ _ _⟩|exact ⟨rfl,_,Eq.trans (World.drewN_drewN _ _ _) (congrArg (World.drewN _) (Nat.add_assoc _ _ _))⟩)));try go_wp2_with (first|(go_at_call 10;(with_reducible refine (bX.calls je ji jf true _ jG.out).mono ?_);rintro e qr ⟨jJ,rfl,ho0,hb⟩;replace j8:=am (Kd.fG (aR_ j8.out) hb);replace j9:=am (Kd.kN (aN_ j9.out) (Kd.gP ho0) hb);have j4:=am (Kd.eD ho0 (aH kT));replace j3:=bbP j3 hb;replace HB:=am (aA kT hb);(try clear hb);(try clear ho0);obtain ⟨q5,q6,jL⟩:=Kd.eB j4.out;subst jL)|(go_at_call 12;(with_reducible refine (bG.calls je _ _ jf (⟨#[116,97,115,107]⟩:ByteArray) jt _ (aC_ (Kd.bT j4.out).2.2) (Kd.bT j4.out).2.1 jO.out).mono ?_);rintro e w' ⟨rfl,⟨nd,rfl⟩⟩;(try first|exact ⟨rfl,_,World.drewN_drewN _ _ _⟩|exact ⟨rfl,_,Eq.trans (World.drewN_drewN _ _ _) (congrArg (World.drewN _) (Nat.add_assoc _ _ _))⟩);obtain ⟨jy,jz,jA,jB⟩:=iK j3.out)|(go_at_call 12;(with_reducible refine (bG.calls je _ _ jf (⟨#[98,111,120]⟩:ByteArray) jI _ (aC_ (Kd.bT j4.out).2.2) (Kd.bT j4.out).2.1 jS.out).mono ?_);rintro e w' ⟨rfl,⟨nd,rfl⟩⟩;(try first|exact ⟨rfl,_,World.drewN_drewN _ _ _⟩|exact ⟨rfl,_,Eq.trans (World.drewN_drewN _ _ _) (congrArg (World.drewN _) (Nat.add_assoc _ _ _))⟩))))
     go_ret
     exact ⟨rr_,kT⟩
    rw [if_neg jQ] at H
    have jZ:(jt == (jd.length:Int))=false:=beq_eq_false_iff_ne.mpr jQ
    have q0:(jt != (jd.length:Int))=true:=bne_iff_ne.mpr jQ
    obtain rfl:=Option.some.inj H
    go_wp2_with (first|(go_at_call 10;(with_reducible refine (bX.calls je ji jf true _ jG.out).mono ?_);rintro e qs ⟨jJ,rfl,ho0,hb⟩;replace j8:=am (Kd.fG (aR_ j8.out) hb);replace j9:=am (Kd.kN (aN_ j9.out) (Kd.gP ho0) hb);have j4:=am (Kd.eD ho0 (aH kT));replace j3:=bbP j3 hb;replace HB:=am (aA kT hb);(try clear hb);(try clear ho0);obtain ⟨q7,q8,jM⟩:=Kd.eB j4.out;subst jM)|(go_at_call 12;(with_reducible refine (bG.calls je _ _ jf (⟨#[116,97,115,107]⟩:ByteArray) jt _ (aC_ (Kd.bT j4.out).2.2) (Kd.bT j4.out).2.1 jO.out).mono ?_);rintro e w' ⟨rfl,⟨nd,rfl⟩⟩;(try first|exact ⟨rfl,_,World.drewN_drewN _ _ _⟩|exact ⟨rfl,_,Eq.trans (World.drewN_drewN _ _ _) (congrArg (World.drewN _) (Nat.add_assoc _ _ _))⟩);obtain ⟨jC,jD,jE,jF⟩:=iK j3.out))
    repeat (go_quiet (first|(go_at_call 10;(with_reducible refine (bX.calls je ji jf true _ jG.out).mono ?_);rintro e qs ⟨jJ,rfl,ho0,hb⟩;replace j8:=am (Kd.fG (aR_ j8.out) hb);replace j9:=am (Kd.kN (aN_ j9.out) (Kd.gP ho0) hb);have j4:=am (Kd.eD ho0 (aH kT));replace j3:=bbP j3 hb;replace HB:=am (aA kT hb);(try clear hb);(try clear ho0);obtain ⟨q7,q8,jM⟩:=Kd.eB j4.out;subst jM)|(go_at_call 12;(with_reducible refine (bG.calls je _ _ jf (⟨#[116,97,115,107]⟩:ByteArray) jt _ (aC_ (Kd.bT j4.out).2.2) (Kd.bT j4.out).2.1 jO.out).mono ?_);rintro e w' ⟨rfl,⟨nd,rfl⟩⟩;(try first|exact ⟨rfl,_,World.drewN_drewN _ _ _⟩|exact ⟨rfl,_,Eq.trans (World.drewN_drewN _ _ _) (congrArg (World.drewN _) (Nat.add_assoc _ _ _))⟩);obtain ⟨jC,jD,jE,jF⟩:=iK j3.out));try go_wp2_with (first|(go_at_call 10;(with_reducible refine (bX.calls je ji jf true _ jG.out).mono ?_);rintro e qs ⟨jJ,rfl,ho0,hb⟩;replace j8:=am (Kd.fG (aR_ j8.out) hb);replace j9:=am (Kd.kN (aN_ j9.out) (Kd.gP ho0) hb);have j4:=am (Kd.eD ho0 (aH kT));replace j3:=bbP j3 hb;replace HB:=am (aA kT hb);(try clear hb);(try clear ho0);obtain ⟨q7,q8,jM⟩:=Kd.eB j4.out;subst jM)|(go_at_call 12;(with_reducible refine (bG.calls je _ _ jf (⟨#[116,97,115,107]⟩:ByteArray) jt _ (aC_ (Kd.bT j4.out).2.2) (Kd.bT j4.out).2.1 jO.out).mono ?_);rintro e w' ⟨rfl,⟨nd,rfl⟩⟩;(try first|exact ⟨rfl,_,World.drewN_drewN _ _ _⟩|exact ⟨rfl,_,Eq.trans (World.drewN_drewN _ _ _) (congrArg (World.drewN _) (Nat.add_assoc _ _ _))⟩);obtain ⟨jC,jD,jE,jF⟩:=iK j3.out)))
    go_ret
    exact ⟨rr_,kT⟩
   replace qa:=Bool.eq_false_iff.mpr qa
   subst qa
   rw [if_neg (show ¬ (false=true) by decide)] at H
   obtain rfl:=Option.some.inj H
   go_wp2_with (first|(go_at_call 10;(with_reducible refine (bX.calls je ji jf false _ jG.out).mono ?_);rintro e qt ⟨jJ,rfl,ho0,hb⟩;replace j8:=am (Kd.fG (aR_ j8.out) hb);replace j9:=am (Kd.kN (aN_ j9.out) (Kd.gP ho0) hb);have j4:=am (Kd.eD ho0 (aH kT));replace j3:=bbP j3 hb;replace HB:=am (aA kT hb);(try clear hb);(try clear ho0)))
   repeat (go_quiet (first|(go_at_call 10;(with_reducible refine (bX.calls je ji jf false _ jG.out).mono ?_);rintro e qt ⟨jJ,rfl,ho0,hb⟩;replace j8:=am (Kd.fG (aR_ j8.out) hb);replace j9:=am (Kd.kN (aN_ j9.out) (Kd.gP ho0) hb);have j4:=am (Kd.eD ho0 (aH kT));replace j3:=bbP j3 hb;replace HB:=am (aA kT hb);(try clear hb);(try clear ho0)));try go_wp2_with (first|(go_at_call 10;(with_reducible refine (bX.calls je ji jf false _ jG.out).mono ?_);rintro e qt ⟨jJ,rfl,ho0,hb⟩;replace j8:=am (Kd.fG (aR_ j8.out) hb);replace j9:=am (Kd.kN (aN_ j9.out) (Kd.gP ho0) hb);have j4:=am (Kd.eD ho0 (aH kT));replace j3:=bbP j3 hb;replace HB:=am (aA kT hb);(try clear hb);(try clear ho0))))
   go_ret
   exact ⟨rr_,kT⟩
def bZ.Pure:Prop:=∀ (l0:List Int),l0.length≤maxLen→l0.length * 1≤140737488351232→(∀ x ∈ l0,(Lit.int .u8 x).wf=true)→∃ k,bZ.f k l0=some true
theorem bZ.walk (P:bZ.Pure) (a0:Option Addr) (len0 cap0:Nat) (z0:List Int) (w:World) (w0:(a0=none∧len0=0∧cap0=0∧z0=[])∨∃ x,a0=some x∧len0≤cap0∧cap0≤maxLen∧z0.length=cap0∧(∀ i,i < z0.length→w.cell? (x.add i)=some (.int .u8 (z0.getD i 0)))∧∀ n ∈ z0,(Lit.int .u8 n).wf=true) (y0:len0 * 1≤140737488351232) (ht_:Tab w):
  Calls Tryz.prog 6 #[.slice a0 len0 cap0] w fun e w'=>e= .returned (.bool true)∧Below w.heap.size w w':=by
 obtain ⟨l0,rfl,hr0,hm0,hw0,hc0⟩:=kP.aGo w0
 obtain ⟨k,h⟩:=P l0 hm0 y0 hw0
 refine (bZ.calls k _ _ l0 true w (Kd.IC (d:=(0:Int)) (h1:=fun _=>rfl) hr0) hc0 ht_ h).mono ?_
 rintro e w' ⟨rfl,hd⟩
 exact ⟨rfl,hd⟩
end Go.Proofs.YtjamfkpgmkhbnaaGreatDoor.PA

namespace Go.Proofs.YtjamfkpgmkhbnaaGreatDoor.Core
open Go.RowKit Go.Proofs.YtjamfkpgmkhbnaaGreatDoorW.PrintWords Go.Proofs.YtjamfkpgmkhbnaaGreatDoorW.PrintMore
section
variable {α β:Type} {g h:Nat→Option α} {P Q:α→Prop}
def EvP (g:Nat→Option α) (P:α→Prop):Prop:=∃ r,Ev g r∧P r
theorem EvP.ret {r:α} (h:P r):EvP (fun _=>some r) P:=⟨r,Ev.now r,h⟩
theorem EvP.mono (h:EvP g P) (k:∀ a,P a→Q a):EvP g Q:=by
 obtain ⟨r,h1,h2⟩:=h
 exact ⟨r,h1,k r h2⟩
theorem EvP.bind {f:Nat→α→Option β} {R:β→Prop} (h:EvP g P) (k:∀ a,P a→EvP (fun n=>f n a) R):EvP (fun n=>(g n).bind (f n)) R:=by
 obtain ⟨a,h1,h2⟩:=h
 obtain ⟨r,k1,k2⟩:=k a h2
 exact ⟨r,Ev.bind h1 k1,k2⟩
theorem EvP.fK {o:Option α} {a:α} {f:Nat→α→Option β} {R:β→Prop} (h:o=some a) (k:EvP (fun n=>f n a) R):EvP (fun n=>o.bind (f n)) R:=by
 subst h
 exact k
theorem EvP.ite {c:Prop} [Decidable c] (h1:c→EvP g P) (h2:¬ c→EvP h P):EvP (fun n=>if c then g n else h n) P:=by
 by_cases hc:c
 ·simp only [if_pos hc]
  exact h1 hc
 ·simp only [if_neg hc]
  exact h2 hc
theorem EvP.yes {c:Prop} [Decidable c] (hc:c) (h1:EvP g P):EvP (fun n=>if c then g n else h n) P:=by
 simp only [if_pos hc]
 exact h1
theorem EvP.no {c:Prop} [Decidable c] (hc:¬ c) (h1:EvP h P):EvP (fun n=>if c then g n else h n) P:=by
 simp only [if_neg hc]
 exact h1
theorem EvP.step {f:Nat→Option α} (h:∀ k,g (k + 1)=f k) (k:EvP f P):EvP g P:=by
 obtain ⟨r,h1,h2⟩:=k
 exact ⟨r,Ev.step h h1,h2⟩
theorem EvP.ends {r:α} (h:EvP g (·=r)):∃ k,g k=some r:=by
  obtain ⟨a,h1,h2⟩:=h
  subst h2
  exact h1.rounds
theorem Ev.evp {r:α} (h:Ev g r):EvP g (·=r):=⟨r,h,rfl⟩
theorem EvP.congr {f:Nat→Option α} (h:∀ k,g k=f k) (k:EvP f P):EvP g P:=by
 obtain ⟨r,h1,h2⟩:=k
 exact ⟨r,Ev.congr h h1,h2⟩
theorem EvP.of {o:Option α} {r:α} (h:o=some r) (hp:P r):EvP (fun _=>o) P:=by
 subst h
 exact EvP.ret hp
theorem EvP.dO {f:Nat→α→Option β} {R:β→Prop} {a:α} (h:EvP g (·=a)) (k:EvP (fun n=>f n a) R):EvP (fun n=>(g n).bind (f n)) R:=
  EvP.bind h (fun b hb=>by subst hb;exact k)
end
theorem w64 {n:Int} (h1:-9223372036854775808≤n) (h2:n≤9223372036854775807):wrap64 n=n:=by
 unfold wrap64
 omega
theorem OV (xs:List Int) (i:Nat) (h:i < xs.length):rd xs (i:Int)=xs[i]:=by
 unfold rd
 rw [Int.toNat_natCast,List.getD_eq_getElem?_getD,List.getElem?_eq_getElem h]
 rfl
theorem aDm (xs:List Int) (i:Int) (h0:0≤i) (h:i < xs.length):rd xs i ∈ xs:=by
 unfold rd
 rw [List.getD_eq_getElem?_getD,List.getElem?_eq_getElem (by omega)]
 exact List.getElem_mem _
theorem DX {a b:Int} (h0:0≤a) (hb:0 < b):0≤Int.tmod a b∧Int.tmod a b < b:=by
 rw [Int.tmod_eq_emod_of_nonneg h0]
 exact ⟨Int.emod_nonneg _ (by omega),Int.emod_lt_of_pos _ hb⟩
end Go.Proofs.YtjamfkpgmkhbnaaGreatDoor.Core

namespace Go.Proofs.YtjamfkpgmkhbnaaGreatDoor.PA
open Go.RowKit Go.Proofs.YtjamfkpgmkhbnaaGreatDoorW.PrintWords Go.Proofs.YtjamfkpgmkhbnaaGreatDoorW.PrintMore Go.Proofs.YtjamfkpgmkhbnaaGreatDoor.Core
def ap (op a b:Int):Int:=
 if op=1 then Go.bits .or .i64 a b else if op=2 then Go.bits .xor .i64 a b else if op=3 then Go.bits .and .i64 a b
 else if op=4 then (if a=b then 1 else 0) else if op=5 then (if a < b then 1 else 0)
 else if op=6 then wrap32 (shl .i64 a (Go.bits .and .i64 b 31)) else if op=7 then shr .i64 a (Go.bits .and .i64 b 31)
 else if op=8 then wrap32 (a + b) else if op=9 then wrap32 (a - b) else if op=10 then wrap32 (a * b)
 else if op=11 then (if b=0 then -1 else wrap32 (Int.tdiv a b)) else if b=0 then a else Int.tmod a b
theorem vZ (a b c:Int):gY.f a b c=some (decide (b≤a) && decide (a≤c)):=by
 unfold gY.f
 by_cases h:a≥b
 ·rw [if_pos h,decide_eq_true h,Bool.true_and]
 ·rw [if_neg h,decide_eq_false h,Bool.false_and]
inductive X where
 |num (n:Int)
 |var (v:Int)
 |bin (op:Int) (a b:X)
namespace X
def ok:X→Prop
 |num n=>0≤n∧n≤99999
 |var v=>0≤v∧v < 4
 |bin op a b=>(1≤op∧op≤12)∧a.ok∧b.ok
def depth:X→Nat
 |num _=>1
 |var _=>1
 |bin _ a b=>max a.depth b.depth + 1
def size:X→Nat
 |num _=>1
 |var _=>1
 |bin _ a b=>a.size + b.size + 1
def eval (g:Int→Int):X→Int
 |num n=>n
 |var v=>g v
 |bin op a b=>ap op (a.eval g) (b.eval g)
theorem BP:∀ x:X,x.size + 1≤2 ^ x.depth
 |num _|var _=>by simp [size,depth]
 |bin _ a b=>by
  have ha:=BP a
  have hb:=BP b
  have h1:2 ^ a.depth≤2 ^ max a.depth b.depth:=Nat.pow_le_pow_right (by omega) (Nat.le_max_left _ _)
  have h2:2 ^ b.depth≤2 ^ max a.depth b.depth:=Nat.pow_le_pow_right (by omega) (Nat.le_max_right _ _)
  simp only [size,depth,Nat.pow_succ]
  omega
end X
def emb:X→S56
 | .num n=>⟨0,n,[]⟩
 | .var v=>⟨13,v,[]⟩
 | .bin op a b=>⟨op,0,[emb a,emb b]⟩
theorem aFq (a b:S56):bW [a,b] 0=a:=rfl
theorem aFr (a b:S56):bW [a,b] 1=b:=rfl
theorem aEl (a:S56):(⟨a.f0,a.f1,a.f2⟩:S56)=a:=by
 cases a
 rfl
def vx:Nat→Int→Int→List S56→Bool
 |0,_,_,_=>false
 |d + 1,op,n,l=>
  if op=0 then decide (0≤n) && (decide (n≤99999) && decide (l.length=0))
  else if op=13 then decide (0≤n) && (decide (n < 4) && decide (l.length=0))
  else decide (1≤op) && (decide (op≤12) && (decide (n=0) && (match l with
   |[a,b]=>vx d a.f0 a.f1 a.f2 && vx d b.f0 b.f1 b.f2
   | _=>false)))
theorem ES {α:Type} {l:List α} (h:l.length=2):∃ a b,l=[a,b]:=by
 match l,h with
 |[a,b],_=>exact ⟨a,b,rfl⟩
theorem OY:∀ (d:Nat) (op n:Int) (l:List S56),vx d op n l=true→∃ x:X,x.ok∧x.depth≤d∧emb x=⟨op,n,l⟩
 |0,_,_,_,h=>by cases h
 |d + 1,op,n,l,h=>by
  unfold vx at h
  by_cases h0:op=0
  ·rw [if_pos h0] at h
   simp only [Bool.and_eq_true,decide_eq_true_eq] at h
   subst h0
   exact ⟨.num n,⟨h.1,h.2.1⟩,by simp [X.depth],by rw [emb,List.eq_nil_of_length_eq_zero h.2.2]⟩
  ·rw [if_neg h0] at h
   by_cases j3:op=13
   ·rw [if_pos j3] at h
    simp only [Bool.and_eq_true,decide_eq_true_eq] at h
    subst j3
    exact ⟨.var n,⟨h.1,h.2.1⟩,by simp [X.depth],by rw [emb,List.eq_nil_of_length_eq_zero h.2.2]⟩
   ·rw [if_neg j3] at h
    simp only [Bool.and_eq_true,decide_eq_true_eq] at h
    obtain ⟨h1,h2,h3,h4⟩:=h
    split at h4
    ·rename_i a b
     simp only [Bool.and_eq_true] at h4
     obtain ⟨x,x1,x2,x3⟩:=OY d a.f0 a.f1 a.f2 h4.1
     obtain ⟨y,y1,y2,y3⟩:=OY d b.f0 b.f1 b.f2 h4.2
     exact ⟨.bin op x y,⟨⟨h1,h2⟩,x1,y1⟩,by simp only [X.depth];omega,by rw [emb,x3,y3,h3,aEl,aEl]⟩
    ·cases h4
theorem nU (a:Int):gW.f a=some (decide (1≤a) && decide (a≤12)):=by
 unfold gW.f
 by_cases h:a≥1
 ·rw [if_pos h,decide_eq_true h,Bool.true_and]
 ·rw [if_neg h,decide_eq_false h,Bool.false_and]
theorem GL (a:Int):iB.f a=some (decide (1≤a) && decide (a≤12)):=by
 unfold iB.f
 rw [vZ]
 rfl
theorem rO:∀ (d:Nat) (op n:Int) (l:List S56),d≤1000→EvP (fun k=>fB.f k op n l (d:Int)) (·=vx d op n l)
  |0,op,n,l,hd=>by
    refine EvP.step (fun k=>fB.f.eq_2 (k:=k) ..) ?_
    refine EvP.ite (fun h=>?_) (fun h=>?_)
    · refine EvP.ite (fun _=>EvP.ite (fun _=>EvP.ite (fun _=>EvP.ret ?_) (fun _=>EvP.ret ?_)) (fun _=>EvP.ret ?_)) (fun _=>EvP.ret ?_) <;> simp [vx]
    · refine EvP.ite (fun h=>?_) (fun h=>?_)
      · refine EvP.ite (fun _=>EvP.ite (fun _=>EvP.ite (fun _=>EvP.ret ?_) (fun _=>EvP.ret ?_)) (fun _=>EvP.ret ?_)) (fun _=>EvP.ret ?_) <;> simp [vx]
      · refine EvP.fK (nU op) (EvP.ite (fun _=>EvP.ite (fun _=>EvP.ite (fun _=>EvP.no (by omega) (EvP.ret ?_)) (fun _=>EvP.ret ?_)) (fun _=>EvP.ret ?_)) (fun _=>EvP.ret ?_)) <;> simp [vx]
  |d + 1,op,n,l,hd=>by
    refine EvP.step (fun k=>fB.f.eq_2 (k:=k) ..) ?_
    unfold vx
    refine EvP.ite (fun h=>?_) (fun h=>?_)
    · rw [if_pos h]
      refine EvP.ite (fun h1=>EvP.ite (fun h2=>EvP.ite (fun h3=>EvP.ret ?_) (fun h3=>EvP.ret ?_)) (fun h2=>EvP.ret ?_)) (fun h1=>EvP.ret ?_)
      · rw [decide_eq_true (show 0≤n from h1),decide_eq_true h2,decide_eq_true (show l.length=0 by omega)]
        simp
      · rw [decide_eq_false (p:=l.length=0) (by omega)]
        simp
      · rw [decide_eq_false h2]
        simp
      · rw [decide_eq_false (p:=0≤n) h1]
        simp
    · rw [if_neg h]
      refine EvP.ite (fun h=>?_) (fun j3=>?_)
      · rw [if_pos h]
        refine EvP.ite (fun h1=>EvP.ite (fun h2=>EvP.ite (fun h3=>EvP.ret ?_) (fun h3=>EvP.ret ?_)) (fun h2=>EvP.ret ?_)) (fun h1=>EvP.ret ?_)
        · rw [decide_eq_true (show 0≤n from h1),decide_eq_true h2,decide_eq_true (show l.length=0 by omega)]
          simp
        · rw [decide_eq_false (p:=l.length=0) (by omega)]
          simp
        · rw [decide_eq_false h2]
          simp
        · rw [decide_eq_false (p:=0≤n) h1]
          simp
      · rw [if_neg j3]
        refine EvP.fK (nU op) (EvP.ite (fun h1=>?_) (fun h1=>EvP.ret ?_))
        · simp only [Bool.and_eq_true,decide_eq_true_eq] at h1
          rw [decide_eq_true h1.1,decide_eq_true h1.2]
          refine EvP.ite (fun h2=>?_) (fun h2=>EvP.ret (by rw [decide_eq_false h2];rfl))
          rw [decide_eq_true h2]
          refine EvP.ite (fun h3=>?_) (fun h3=>EvP.ret ?_)
          · obtain ⟨a,b,rfl⟩:=ES (show l.length=2 by omega)
            refine EvP.ite (fun h4=>?_) (fun h4=>EvP.ret ?_)
            · rw [w64 (by omega) (by omega),show ((d + 1:Nat):Int) - 1=(d:Int) by omega,aFq,aFr]
              refine EvP.yes (by simp) (EvP.dO (rO d _ _ _ (by omega)) (EvP.ite (fun h5=>?_) (fun h5=>EvP.ret ?_)))
              · refine EvP.yes (by simp) (EvP.dO (rO d _ _ _ (by omega)) (EvP.ret ?_))
                simp [h5]
              · simp [h5]
            · have hd0:d=0:=by omega
              subst hd0
              rfl
          · split
            · simp at h3
            · rfl
        · symm
          rw [Bool.eq_false_iff]
          intro e
          simp only [Bool.and_eq_true,decide_eq_true_eq] at e h1
          exact h1 ⟨e.1,e.2.1⟩
theorem wD:∀ (d:Nat) (op n:Int) (l:List S56),d≤1000→EvP (fun k=>iF.f k op n l (d:Int)) (·=vx d op n l)
  |0,op,n,l,hd=>EvP.step (fun k=>iF.f.eq_2 (k:=k) ..) (EvP.yes (by omega) (EvP.ret rfl))
  |d + 1,op,n,l,hd=>by
    have hlen:((l.length:Int) == 0)=decide (l.length=0):=by
      rw [Bool.eq_iff_iff,beq_iff_eq,decide_eq_true_eq]
      omega
    refine EvP.step (fun k=>iF.f.eq_2 (k:=k) ..) (EvP.no (by omega) ?_)
    unfold vx
    refine EvP.ite (fun h=>?_) (fun h=>?_)
    · rw [if_pos h,vZ]
      refine EvP.fK rfl (EvP.ite (fun h1=>EvP.ret ?_) (fun h1=>EvP.ret ?_))
      · rw [hlen]
        simp only [Bool.and_eq_true,decide_eq_true_eq] at h1
        rw [decide_eq_true h1.1,decide_eq_true h1.2]
        rfl
      · rw [← Bool.and_assoc,Bool.eq_false_iff.mpr h1]
        rfl
    · rw [if_neg h]
      refine EvP.ite (fun h=>?_) (fun j3=>?_)
      · rw [if_pos h,vZ]
        have e3:decide (n < 4)=decide (n≤3):=decide_eq_decide.mpr (by omega)
        rw [e3]
        refine EvP.fK rfl (EvP.ite (fun h1=>EvP.ret ?_) (fun h1=>EvP.ret ?_))
        · rw [hlen]
          simp only [Bool.and_eq_true,decide_eq_true_eq] at h1
          rw [decide_eq_true h1.1,decide_eq_true h1.2]
          rfl
        · rw [← Bool.and_assoc,Bool.eq_false_iff.mpr h1]
          rfl
      · rw [if_neg j3]
        refine EvP.fK (GL op) (EvP.ite (fun h1=>?_) (fun h1=>EvP.ret ?_))
        · simp only [Bool.and_eq_true,decide_eq_true_eq] at h1
          rw [decide_eq_true h1.1,decide_eq_true h1.2]
          refine EvP.ite (fun h2=>?_) (fun h2=>EvP.ret (by rw [decide_eq_false h2];rfl))
          rw [decide_eq_true h2]
          refine EvP.ite (fun h3=>?_) (fun h3=>EvP.ret ?_)
          · obtain ⟨a,b,rfl⟩:=ES (show l.length=2 by omega)
            rw [w64 (by omega) (by omega),show ((d + 1:Nat):Int) - 1=(d:Int) by omega,aFq,aFr]
            refine EvP.yes (by simp) (EvP.dO (wD d _ _ _ (by omega)) (EvP.ite (fun h5=>?_) (fun h5=>EvP.ret ?_)))
            · refine EvP.yes (by simp) (EvP.dO (wD d _ _ _ (by omega)) (EvP.ret ?_))
              simp [h5]
            · simp [h5]
          · split
            · simp at h3
            · rfl
        · rw [← Bool.and_assoc,Bool.eq_false_iff.mpr h1]
          rfl
theorem oC (op n:Int) (l:List S56):EvP (fun k=>eU.f k op n l) (·=vx 5 op n l):=by
  unfold eU.f
  exact EvP.dO (wD 5 op n l (by omega)) (EvP.ret rfl)
theorem CW (op n:Int) (l:List S56):EvP (fun k=>iD.f k op n l) (·=vx 5 op n l):=by
  unfold iD.f
  exact EvP.dO (rO 5 op n l (by omega)) (EvP.ret rfl)
mutual
def cS:S58→Nat
 |⟨_,_,_,_,b,e⟩=>cSs b + cSs e
def cSs:List S58→Nat
 |[]=>0
 |x :: xs=>cS x + 1 + cSs xs
end
theorem OJ (x:S58):cS x=cSs x.f4 + cSs x.f5:=by
 cases x
 rw [cS]
theorem gG:∀ l:List S58,l.length≤cSs l
 |[]=>Nat.zero_le _
 |x :: xs=>by
  have:=gG xs
  rw [cSs,List.length_cons]
  omega
theorem rZ:∀ l m:List S58,cSs (l ++ m)=cSs l + cSs m
 |[],m=>by rw [cSs];simp
 |x :: xs,m=>by
  rw [List.cons_append,cSs,cSs,rZ xs m]
  omega
theorem yD:∀ (l:List S58) (x:S58),x ∈ l→cS x < cSs l
 |y :: ys,x,h=>by
  rw [cSs]
  rcases List.mem_cons.1 h with rfl|h
  ·omega
  ·have:=yD ys x h
   omega
theorem PO (l:List S58) (i:Nat) (h:i < l.length):cSs (l.drop i)=cS l[i] + 1 + cSs (l.drop (i + 1)):=by
 rw [List.drop_eq_getElem_cons h,cSs]
theorem aEj (x:S58):cSs [x]=cS x + 1:=by
 rw [cSs,cSs]
theorem sK:cSs []=0:=by rw [cSs]
theorem LU (l:List S58) (n:Nat):cSs (l.take n) + cSs (l.drop n)=cSs l:=by
 rw [← rZ,List.take_append_drop]
theorem DI (l:List S58) (i:Nat) (h:i < l.length):aJ l (i:Int)=l[i]:=by
 unfold aJ
 rw [Int.toNat_natCast,List.getD_eq_getElem?_getD,List.getElem?_eq_getElem h]
 rfl
def GD (use:Bool) (va:Int):Bool:=if use=true then decide (0≤va) && decide (va≤3) else va == 0
def xD (boxes:Int) (use:Bool) (bx:Int):Bool:=if use=true then decide (0≤bx) && decide (bx≤boxes - 1) else bx == 0
def yL (op n:Int) (la:List S56):Bool:=op == 0 && (n == 0 && la.length == 0)
def mZ (boxes:Int) (nv nb ne nd no:Bool) (va bx op n:Int) (la:List S56) (lb le:Nat):Bool:=
 GD nv va && (xD boxes nb bx && ((if ne=true then vx 5 op n la else yL op n la) && ((nd || lb == 0) && (no || le == 0))))
def yT (boxes kd va bx op n:Int) (la:List S56) (lb le:Nat):Bool:=
 if kd=1 then mZ boxes true false true false false va bx op n la lb le
 else if kd=2 then mZ boxes false false true true true va bx op n la lb le
 else if kd=3 then mZ boxes false false true true false va bx op n la lb le
 else if kd=4 then mZ boxes false true true false false va bx op n la lb le
 else if kd=5 then mZ boxes true true false false false va bx op n la lb le
 else if kd=7 then mZ boxes false false true false false va bx op n la lb le
 else if kd=6 then mZ boxes false false false false false va bx op n la lb le
 else false
def stS (boxes:Int) (s:S58):Bool:=yT boxes s.f0 s.f1 s.f2 s.f3.f0 s.f3.f1 s.f3.f2 s.f4.length s.f5.length
def rV (s:S58):Bool:=s.f0 == 2 || s.f0 == 3
def kU (boxes:Int):Nat→S58→Bool
 |0,s=>stS boxes s && !rV s
 |d + 1,s=>stS boxes s && (!rV s || (s.f4.all (kU boxes d) && s.f5.all (kU boxes d)))
def okL (boxes:Int) (d:Nat) (l:List S58):Bool:=l.all (kU boxes d)
theorem aDg {boxes:Int} {d:Nat} {s:S58} (h:kU boxes d s=true):stS boxes s=true:=by
 cases d <;> (simp only [kU,Bool.and_eq_true] at h;exact h.1)
theorem EP {boxes kd va bx op n:Int} {la:List S56} {lb le:Nat} (h:yT boxes kd va bx op n la lb le=true) (h2:kd≠2) (h3:kd≠3):lb=0∧le=0:=by
 unfold yT at h
 rw [if_neg h2,if_neg h3] at h
 repeat' split at h
 all_goals first
  |(cases h;done)
  |(simp only [mZ,Bool.and_eq_true,Bool.false_or,beq_iff_eq] at h;exact h.2.2.2)
theorem HZ {boxes:Int} {s:S58} (h:stS boxes s=true) (h2:¬ (s.f0=2∨s.f0=3)):cS s=0:=by
 obtain ⟨h4,h5⟩:=EP h (fun e=>h2 (.inl e)) (fun e=>h2 (.inr e))
 rw [OJ,List.eq_nil_of_length_eq_zero h4,List.eq_nil_of_length_eq_zero h5,cSs]
theorem sH (s:S58):rV s=true ↔ s.f0=2∨s.f0=3:=by
 unfold rV
 simp
theorem aEp (use:Bool) (va:Int):inr va 4 use=GD use va:=by
 rw [Bool.eq_iff_iff]
 cases use
 ·simp [inr,GD]
 ·simp [inr,GD]
  omega
theorem SB (nv nb ne nd no:Bool) (va bx op n:Int) (la:List S56) (lb le:Nat) (boxes:Int):
    EvP (fun k=>mF k nv nb ne nd no va bx op n la lb le boxes) (·=mZ boxes nv nb ne nd no va bx op n la lb le):=by
  unfold mF mZ
  rw [aEp]
  refine EvP.ite (fun h1=>?_) (fun h1=>EvP.ret (by rw [Bool.eq_false_iff.mpr h1];rfl))
  rw [h1,Bool.true_and]
  have hb:(inr bx boxes nb=true∧¬ (nb=true∧boxes≤bx)) ↔ xD boxes nb bx=true:=by
    cases nb
    · simp [inr,xD]
    · simp [inr,xD]
      omega
  refine EvP.ite (fun h2=>EvP.ite (fun h3=>EvP.ret ?_) (fun h3=>?_)) (fun h2=>EvP.ret ?_)
  · have:xD boxes nb bx=false:=Bool.eq_false_iff.mpr (fun e=>(hb.mpr e).2 h3)
    rw [this]
    rfl
  · rw [hb.mp ⟨h2,h3⟩,Bool.true_and]
    refine EvP.ite (fun h4=>?_) (fun h4=>?_)
    · rw [if_pos h4]
      refine EvP.dO (CW op n la) (EvP.ite (fun h5=>EvP.ret (by rw [h5,Bool.true_and])) (fun h5=>EvP.ret (by rw [Bool.eq_false_iff.mpr h5];rfl)))
    · rw [if_neg h4]
      unfold yL
      refine EvP.ite (fun h5=>EvP.ite (fun h6=>EvP.ite (fun h7=>EvP.ret ?_) (fun h7=>EvP.ret ?_)) (fun h6=>EvP.ret ?_)) (fun h5=>EvP.ret ?_)
      · rw [beq_eq_false_iff_ne.mpr (show la.length≠0 by omega)]
        simp
      · rw [h5,h6,beq_iff_eq.mpr (show la.length=0 by omega)]
        simp
      · rw [beq_eq_false_iff_ne.mpr h6]
        simp
      · rw [beq_eq_false_iff_ne.mpr h5]
        simp
  · have:xD boxes nb bx=false:=Bool.eq_false_iff.mpr (fun e=>h2 (hb.mpr e).1)
    rw [this]
    rfl
theorem CX (kd va bx op n:Int) (la:List S56) (lb le:Nat) (boxes:Int):
    EvP (fun k=>fC.f k kd va bx op n la lb le boxes) (·=yT boxes kd va bx op n la lb le):=by
  unfold fC.f yT
  have hr:=fun nv nb ne nd no=>SB nv nb ne nd no va bx op n la lb le boxes
  repeat (refine EvP.ite (fun h=>?_) (fun h=>?_);· rw [if_pos h];exact hr _ _ _ _ _
          rw [if_neg h])
  exact EvP.ret rfl
def WS (boxes:Int) (d:Nat) (l:List S58) (cnt:Int) (p:Bool × Int):Prop:=
 p.1=(okL boxes d l && decide (cnt + cSs l≤16))∧(p.1=true→p.2=cnt + cSs l)
theorem yY (boxes blocks:Int) (d:Nat) (hd:d≤3) (hb:blocks=3 - d) (l:List S58) (hl:cSs l≤1000000000)
  (sub:∀ d',d=d' + 1→∀ (m:List S58) (cnt:Int),cSs m≤1000000000→0≤cnt→cnt≤16→EvP (fun k=>cZ.f k m boxes (wrap64 (blocks + 1)) cnt) (WS boxes d' m cnt)):
  ∀ (r j:Nat) (cnt:Int),j + r=l.length→0≤cnt→cnt≤16→
   EvP (fun k=>cZ.l0 k l boxes blocks (j:Int) cnt) (fun p=>p.1=(okL boxes d (l.drop j) && decide (cnt + cSs (l.drop j) - r≤16))∧(p.1=true→p.2=cnt + cSs (l.drop j) - r)):=by
 intro r
 have hlen:=gG l
 induction r with
 |zero=>
  intro j cnt hj h0 h1
  refine EvP.step (fun k=>cZ.l0.eq_2 (k:=k) ..) (EvP.no (by omega) (EvP.ret ?_))
  rw [List.drop_eq_nil_of_le (by omega),sK]
  constructor
  ·simp [okL]
   omega
  ·intro _
   simp
 |succ r ih=>
  intro j cnt hj h0 h1
  have hlt:j < l.length:=by omega
  have hc:=PO l j hlt
  have hr:r≤cSs (l.drop (j + 1)):=by
   have:=gG (l.drop (j + 1))
   rw [List.length_drop] at this
   omega
  have hm:=yD l _ (List.getElem_mem hlt)
  have hcs:=OJ l[j]
  have hall:okL boxes d (l.drop j)=(kU boxes d l[j] && okL boxes d (l.drop (j + 1))):=by
   rw [List.drop_eq_getElem_cons hlt]
   rfl
  rw [hall]
  refine EvP.step (fun k=>cZ.l0.eq_2 (k:=k) ..) (EvP.yes (by omega) (EvP.yes (by omega) ?_))
  rw [DI l j hlt,w64 (n:=(j:Int) + 1) (by omega) (by omega)]
  refine EvP.dO (CX _ _ _ _ _ _ _ _ _) (EvP.ite (fun hs=>?_) (fun hs=>EvP.ret ?_))
  ·have hs:stS boxes l[j]=true:=hs
   refine EvP.no (by omega) (EvP.ite (fun hk=>?_) (fun hk=>?_))
   ·have hbk:rV l[j]=true:=(sH _).mpr hk
    cases d with
    |zero=>
     refine EvP.yes (by omega) (EvP.ret ?_)
     have:kU boxes 0 l[j]=false:=by simp [kU,hbk]
     rw [this]
     exact ⟨rfl,fun h=>by cases h⟩
    |succ d'=>
     have ho:kU boxes (d' + 1) l[j]=(okL boxes d' l[j].f4 && okL boxes d' l[j].f5):=by
      simp only [kU,hs,hbk,okL]
      rfl
     rw [ho]
     refine EvP.no (by omega) (EvP.bind (sub d' rfl _ cnt (by omega) h0 h1) fun p hp=>?_)
     obtain ⟨hp1,hp2⟩:=hp
     refine EvP.ite (fun hy=>?_) (fun hy=>EvP.ret ?_)
     ·have e2:=hp2 hy
      rw [hy] at hp1
      have hq:=hp1.symm
      rw [Bool.and_eq_true,decide_eq_true_eq] at hq
      rw [e2]
      refine EvP.bind (sub d' rfl _ _ (by omega) (by omega) hq.2) fun q hq'=>?_
      obtain ⟨hq1,hq2⟩:=hq'
      refine EvP.ite (fun hz=>?_) (fun hz=>EvP.ret ?_)
      ·have e3:=hq2 hz
       rw [hz] at hq1
       have hq3:=hq1.symm
       rw [Bool.and_eq_true,decide_eq_true_eq] at hq3
       rw [e3]
       refine (ih (j + 1) _ (by omega) (by omega) hq3.2).mono fun a ha=>?_
       rw [hq.1,hq3.1,Bool.true_and,Bool.true_and]
       refine ⟨ha.1.trans ?_,fun h=>(ha.2 h).trans ?_⟩
       ·congr 1
        exact decide_eq_decide.mpr (by omega)
       ·omega
      ·have hz':=Bool.eq_false_iff.mpr hz
       rw [hz'] at hq1
       refine ⟨?_,fun h=>by cases h⟩
       show false=_
       symm
       rw [Bool.eq_false_iff]
       intro e
       simp only [Bool.and_eq_true,decide_eq_true_eq] at e
       have:(okL boxes d' l[j].f5 && decide (cnt + ↑(cSs l[j].f4) + ↑(cSs l[j].f5)≤16))=true:=by
        rw [e.1.1.2,decide_eq_true (by omega)]
        rfl
       rw [this] at hq1
       cases hq1
     ·have hy':=Bool.eq_false_iff.mpr hy
      rw [hy'] at hp1
      refine ⟨?_,fun h=>by cases h⟩
      show false=_
      symm
      rw [Bool.eq_false_iff]
      intro e
      simp only [Bool.and_eq_true,decide_eq_true_eq] at e
      have:(okL boxes d' l[j].f4 && decide (cnt + ↑(cSs l[j].f4)≤16))=true:=by
       rw [e.1.1.1,decide_eq_true (by omega)]
       rfl
      rw [this] at hp1
      cases hp1
   ·have hbk:rV l[j]=false:=Bool.eq_false_iff.mpr (fun e=>hk ((sH _).mp e))
    have ho:kU boxes d l[j]=true:=by
     cases d <;> simp [kU,hs,hbk]
    have hz:=HZ hs hk
    rw [ho,Bool.true_and]
    refine (ih (j + 1) cnt (by omega) h0 h1).mono fun a ha=>?_
    refine ⟨ha.1.trans ?_,fun h=>(ha.2 h).trans ?_⟩
    ·congr 1
     exact decide_eq_decide.mpr (by omega)
    ·omega
  ·have hs:stS boxes l[j]=false:=Bool.eq_false_iff.mpr hs
   have ho:kU boxes d l[j]=false:=Bool.eq_false_iff.mpr (fun e=>by rw [aDg e] at hs;cases hs)
   rw [ho]
   exact ⟨rfl,fun h=>by cases h⟩
theorem BI (boxes:Int):∀ (d:Nat) (blocks:Int) (l:List S58) (cnt:Int),d≤3→blocks=3 - d→cSs l≤1000000000→0≤cnt→cnt≤16→
  EvP (fun k=>cZ.f k l boxes blocks cnt) (WS boxes d l cnt):=by
 intro d
 induction d with
 |zero=>
  intro blocks l cnt hd hb hl h0 h1
  have hlen:=gG l
  refine EvP.step (fun k=>cZ.f.eq_2 (k:=k) ..) ?_
  rw [w64 (n:=cnt + (l.length:Int)) (by omega) (by omega)]
  refine EvP.ite (fun h=>EvP.ret ?_) (fun h=>?_)
  ·refine ⟨?_,fun h=>by cases h⟩
   rw [decide_eq_false (by omega)]
   simp
  ·refine (yY boxes blocks 0 hd hb l hl (fun d' e=>by omega) l.length 0 _ (by omega) (by omega) (by omega)).mono fun a ha=>?_
   rw [List.drop_zero] at ha
   refine ⟨ha.1.trans ?_,fun h=>(ha.2 h).trans ?_⟩
   ·congr 1
    exact decide_eq_decide.mpr (by omega)
   ·omega
 |succ d ih=>
  intro blocks l cnt hd hb hl h0 h1
  have hlen:=gG l
  refine EvP.step (fun k=>cZ.f.eq_2 (k:=k) ..) ?_
  rw [w64 (n:=cnt + (l.length:Int)) (by omega) (by omega)]
  refine EvP.ite (fun h=>EvP.ret ?_) (fun h=>?_)
  ·refine ⟨?_,fun h=>by cases h⟩
   rw [decide_eq_false (by omega)]
   simp
  ·refine (yY boxes blocks (d + 1) hd hb l hl (fun d' e m cnt hm h0 h1=>?_) l.length 0 _ (by omega) (by omega) (by omega)).mono fun a ha=>?_
   ·have e':d=d':=by omega
    subst e'
    rw [w64 (by omega) (by omega)]
    exact ih _ m cnt (by omega) (by omega) hm h0 h1
   ·rw [List.drop_zero] at ha
    refine ⟨ha.1.trans ?_,fun h=>(ha.2 h).trans ?_⟩
    ·congr 1
     exact decide_eq_decide.mpr (by omega)
    ·omega
def okT (boxes:Int) (l:List S58):Bool:=okL boxes 3 l && decide (cSs l≤16)
theorem BL (boxes:Int) (l:List S58) (hl:cSs l≤1000000000):EvP (fun k=>gH.f k l boxes) (·=okT boxes l):=by
  unfold gH.f
  refine EvP.bind (BI boxes 3 0 l 0 (by omega) (by omega) hl (by omega) (by omega)) fun p hp=>EvP.ret ?_
  rw [hp.1]
  unfold okT
  congr 1
  exact decide_eq_decide.mpr (by omega)
theorem nI (a b c d e:Int) (l:List S56) (m n:List S58) (u:Bool):fE.f a b c d e l m n u=some (GD u b):=by
 unfold fE.f GD
 rw [vZ]
 cases u <;> rfl
theorem nH (a b c d e:Int) (l:List S56) (m n:List S58) (u:Bool):fT.f a b c d e l m n u=some (xD 3 u c):=by
 unfold fT.f xD
 rw [vZ]
 cases u <;> rfl
theorem vQ (op n:Int) (l:List S56):mK.f op n l=some (yL op n l):=by
 unfold mK.f yL
 have hlen:((l.length:Int) == 0)=(l.length == 0):=by
  rw [Bool.eq_iff_iff,beq_iff_eq,beq_iff_eq]
  omega
 by_cases h:op=0
 ·rw [if_pos h,h]
  by_cases h2:n=0
  ·rw [if_pos h2,h2,hlen]
   rfl
  ·rw [if_neg h2,beq_eq_false_iff_ne.mpr h2]
   rfl
 ·rw [if_neg h,beq_eq_false_iff_ne.mpr h]
  rfl
theorem vH (kd va bx op n:Int) (la:List S56) (m1 m2:List S58) (h2:kd≠2) (h3:kd≠3):
    EvP (fun k=>dN.f k kd va bx op n la m1 m2) (·=yT 3 kd va bx op n la m1.length m2.length):=by
  unfold dN.f
  have yes:∀ b:Bool,((m1.length == 0 && m2.length == 0)=!b)→EvP (fun k=>dN.j0 k b kd va bx op n la m1 m2) (·=yT 3 kd va bx op n la m1.length m2.length):=by
    intro b hb
    refine EvP.step (fun k=>dN.j0.eq_2 (k:=k) ..) ?_
    refine EvP.ite (fun h=>EvP.ret ?_) (fun h=>?_)
    · symm
      rw [Bool.eq_false_iff]
      intro e
      obtain ⟨z1,z2⟩:=EP e h2 h3
      rw [z1,z2,h] at hb
      cases hb
    · have hb':(m1.length == 0 && m2.length == 0)=true:=by
        rw [hb,Bool.eq_false_iff.mpr h]
        rfl
      unfold yT
      have hT:∀ a b c:Bool,(a && (b && (c && ((false || m1.length == 0) && (false || m2.length == 0)))))=(a && (b && c)):=by
        intro a b c
        rw [Bool.false_or,Bool.false_or,hb',Bool.and_true]
      refine EvP.ite (fun h1=>?_) (fun h1=>?_)
      · rw [if_pos h1]
        unfold mZ
        rw [hT]
        refine EvP.fK (nI ..) (EvP.ite (fun hv=>EvP.fK (nH ..) (EvP.ite (fun hx=>EvP.dO (oC ..) (EvP.ret ?_)) (fun hx=>EvP.ret ?_))) (fun hv=>EvP.ret ?_)) <;> simp [*]
      · rw [if_neg h1,if_neg h2,if_neg h3]
        refine EvP.ite (fun h1=>?_) (fun h1=>?_)
        · rw [if_pos h1]
          unfold mZ
          rw [hT]
          refine EvP.fK (nI ..) (EvP.ite (fun hv=>EvP.fK (nH ..) (EvP.ite (fun hx=>EvP.dO (oC ..) (EvP.ret ?_)) (fun hx=>EvP.ret ?_))) (fun hv=>EvP.ret ?_)) <;> simp [*]
        · rw [if_neg h1]
          refine EvP.ite (fun h1=>?_) (fun h1=>?_)
          · rw [if_pos h1]
            unfold mZ
            rw [hT]
            refine EvP.fK (nI ..) (EvP.ite (fun hv=>EvP.fK (nH ..) (EvP.ite (fun hx=>EvP.fK (vQ ..) (EvP.ret ?_)) (fun hx=>EvP.ret ?_))) (fun hv=>EvP.ret ?_)) <;> simp [*]
          · rw [if_neg h1]
            refine EvP.ite (fun h6=>?_) (fun h6=>?_)
            · rw [if_neg (by omega),if_pos h6]
              unfold mZ
              rw [hT]
              refine EvP.fK (nI ..) (EvP.ite (fun hv=>EvP.fK (nH ..) (EvP.ite (fun hx=>EvP.fK (vQ ..) (EvP.ret ?_)) (fun hx=>EvP.ret ?_))) (fun hv=>EvP.ret ?_)) <;> simp [*]
            · refine EvP.ite (fun h7=>?_) (fun h7=>?_)
              · rw [if_pos h7]
                unfold mZ
                rw [hT]
                refine EvP.fK (nI ..) (EvP.ite (fun hv=>EvP.fK (nH ..) (EvP.ite (fun hx=>EvP.dO (oC ..) (EvP.ret ?_)) (fun hx=>EvP.ret ?_))) (fun hv=>EvP.ret ?_)) <;> simp [*]
              · rw [if_neg h7,if_neg h6]
                exact EvP.ret rfl
  refine EvP.ite (fun h=>yes true ?_) (fun h=>yes _ ?_)
  · rw [beq_eq_false_iff_ne.mpr (show m1.length≠0 by omega)]
    rfl
  · rw [beq_iff_eq.mpr (show m1.length=0 by omega),Bool.true_and,← decide_not,Bool.eq_iff_iff,beq_iff_eq,decide_eq_true_eq]
    omega
theorem DT (l:List S58) (hl:l.length≤1000000000) (x1:Int) (d:Nat) (sub:∀ x ∈ l,EvP (fun k=>cK.f k x.f0 x.f1 x.f2 x.f3.f0 x.f3.f1 x.f3.f2 x.f4 x.f5 x1) (·=kU 3 d x)):
    ∀ (r j:Nat),j + r=l.length→EvP (fun k=>bV.l0 k l x1 (j:Int)) (·=okL 3 d (l.drop j)):=by
  intro r
  induction r with
  |zero=>
    intro j hj
    refine EvP.step (fun k=>bV.l0.eq_2 (k:=k) ..) (EvP.no (by omega) (EvP.ret ?_))
    rw [List.drop_eq_nil_of_le (by omega)]
    rfl
  |succ r ih=>
    intro j hj
    have hlt:j < l.length:=by omega
    refine EvP.step (fun k=>bV.l0.eq_2 (k:=k) ..) (EvP.yes (by omega) (EvP.yes (by omega) ?_))
    rw [DI l j hlt,w64 (n:=(j:Int) + 1) (by omega) (by omega)]
    have hall:okL 3 d (l.drop j)=(kU 3 d l[j] && okL 3 d (l.drop (j + 1))):=by
      rw [List.drop_eq_getElem_cons hlt]
      rfl
    rw [hall]
    refine EvP.dO (sub _ (List.getElem_mem hlt)) (EvP.ite (fun h=>?_) (fun h=>EvP.ret ?_))
    · rw [h,Bool.true_and]
      exact ih (j + 1) (by omega)
    · rw [Bool.eq_false_iff.mpr h]
      rfl
theorem vG (l:List S58) (hl:l.length≤1000000000) (x1:Int) (d:Nat) (sub:∀ x ∈ l,EvP (fun k=>cK.f k x.f0 x.f1 x.f2 x.f3.f0 x.f3.f1 x.f3.f2 x.f4 x.f5 x1) (·=kU 3 d x)):
    EvP (fun k=>bV.f k l x1) (·=okL 3 d l):=
  EvP.step (fun k=>bV.f.eq_2 (k:=k) ..) (DT l hl x1 d sub l.length 0 (by omega))
theorem MI:∀ (d:Nat) (x1:Int) (x:S58),d≤3→x1=d→cS x≤1000000000→EvP (fun k=>cK.f k x.f0 x.f1 x.f2 x.f3.f0 x.f3.f1 x.f3.f2 x.f4 x.f5 x1) (·=kU 3 d x):=by
  intro d
  induction d with
  |zero=>
    intro x1 x hd h1 hc
    have j1:EvP (fun k=>cK.j1 k x1 true x.f0 x.f1 x.f2 x.f3.f0 x.f3.f1 x.f3.f2 x.f4 x.f5) (·=false):=
      EvP.step (fun k=>cK.j1.eq_2 (k:=k) ..) (EvP.yes rfl (EvP.ret rfl))
    refine EvP.step (fun k=>cK.f.eq_2 (k:=k) ..) (EvP.ite (fun h2=>?_) (fun h2=>?_))
    · have:kU 3 0 x=false:=by simp [kU,rV,h2]
      rw [this]
      refine EvP.step (fun k=>cK.j0.eq_2 (k:=k) ..) (EvP.no Bool.false_ne_true (EvP.yes (by omega) j1))
    · refine EvP.step (fun k=>cK.j0.eq_2 (k:=k) ..) (EvP.ite (fun h3=>?_) (fun h3=>EvP.yes (by omega) ?_))
      · have h3:x.f0≠3:=bne_iff_ne.mp h3
        refine EvP.dO (vH _ _ _ _ _ _ _ _ h2 h3) (EvP.ret ?_)
        simp [kU,rV,h2,h3,stS]
      · have h3:x.f0=3:=by simpa using h3
        have:kU 3 0 x=false:=by simp [kU,rV,h3]
        rw [this]
        exact j1
  |succ d ih=>
    intro x1 x hd h1 hc
    have hcs:=OJ x
    have e1:wrap64 (x1 - 1)=(d:Int):=by
      rw [w64 (by omega) (by omega)]
      omega
    have len4:=gG x.f4
    have len5:=gG x.f5
    have sub:∀ m:List S58,cSs m≤1000000000→EvP (fun k=>bV.f k m (wrap64 (x1 - 1))) (·=okL 3 d m):=by
      intro m hm
      have:=gG m
      refine vG m (by omega) _ d (fun y hy=>ih _ y (by omega) e1 ?_)
      have:=yD m y hy
      omega
    have j1:∀ b:Bool,rV x=true→(b=(x.f0 == 3 && decide ((x.f5.length:Int) > 0)))→EvP (fun k=>cK.j1 k x1 b x.f0 x.f1 x.f2 x.f3.f0 x.f3.f1 x.f3.f2 x.f4 x.f5) (·=kU 3 (d + 1) x):=by
      intro b hb hbb
      have ho:kU 3 (d + 1) x=(stS 3 x && (okL 3 d x.f4 && okL 3 d x.f5)):=by
        simp only [kU,hb,okL]
        rfl
      rw [ho]
      refine EvP.step (fun k=>cK.j1.eq_2 (k:=k) ..) (EvP.ite (fun h=>EvP.ret ?_) (fun h=>?_))
      · rw [h] at hbb
        have h4:=hbb.symm
        simp only [Bool.and_eq_true,beq_iff_eq,decide_eq_true_eq] at h4
        have:stS 3 x=false:=by
          have hne:(x.f5.length == 0)=false:=beq_eq_false_iff_ne.mpr (by omega)
          simp [stS,yT,h4.1,mZ,hne]
        rw [this]
        rfl
      · have hst:stS 3 x=(GD false x.f1 && (xD 3 false x.f2 && vx 5 x.f3.f0 x.f3.f1 x.f3.f2)):=by
          rcases (sH x).mp hb with h2|h2
          · simp [stS,yT,h2,mZ]
          · have h5:x.f5.length=0:=by
              rw [Bool.eq_false_iff.mpr h,h2] at hbb
              have:=hbb.symm
              simp only [beq_self_eq_true,Bool.true_and,decide_eq_false_iff_not] at this
              omega
            simp [stS,yT,h2,mZ,h5]
        rw [hst]
        refine EvP.fK (nI ..) (EvP.ite (fun hv=>EvP.fK (nH ..) (EvP.ite (fun hx=>EvP.dO (oC ..) (EvP.ite (fun he=>?_) (fun he=>EvP.ret ?_))) (fun hx=>EvP.ret ?_))) (fun hv=>EvP.ret ?_))
        · refine EvP.dO (sub x.f4 (by omega)) (EvP.ite (fun h4=>EvP.dO (sub x.f5 (by omega)) (EvP.ret ?_)) (fun h4=>EvP.ret ?_)) <;> simp [*]
        all_goals simp [*]
    refine EvP.step (fun k=>cK.f.eq_2 (k:=k) ..) (EvP.ite (fun h2=>?_) (fun h2=>?_))
    · refine EvP.step (fun k=>cK.j0.eq_2 (k:=k) ..) (EvP.no Bool.false_ne_true (EvP.no (by omega) (EvP.no (by omega) (j1 false ?_ ?_))))
      · simp [rV,h2]
      · simp [h2]
    · refine EvP.step (fun k=>cK.j0.eq_2 (k:=k) ..) (EvP.ite (fun h3=>?_) (fun h3=>EvP.no (by omega) ?_))
      · have h3:x.f0≠3:=bne_iff_ne.mp h3
        refine EvP.dO (vH _ _ _ _ _ _ _ _ h2 h3) (EvP.ret ?_)
        simp [kU,rV,h2,h3,stS]
      · have h3:x.f0=3:=by simpa using h3
        refine EvP.yes h3 (j1 _ ?_ ?_)
        · simp [rV,h3]
        · simp [h3]
theorem DR (l:List S58) (hl:cSs l≤1000000000):EvP (fun k=>bV.f k l 3) (·=okL 3 3 l):=by
  have:=gG l
  refine vG l (by omega) _ 3 (fun y hy=>MI 3 3 y (by omega) (by omega) ?_)
  have:=yD l y hy
  omega
theorem sI:∀ (c:Nat) (l:List S58),cSs l≤c→c≤1000000000→EvP (fun k=>bP.f k l) (·=(cSs l:Int)):=by
  intro c
  induction c with
  |zero=>
    intro l hl hc
    have:=gG l
    refine EvP.step (fun k=>bP.f.eq_2 (k:=k) ..) (EvP.step (fun k=>bP.l0.eq_2 (k:=k) ..) (EvP.no (by omega) (EvP.ret ?_)))
    omega
  |succ c ih=>
    intro l hl hc
    have hlen:=gG l
    have loop:∀ (r j:Nat) (a:Int),j + r=l.length→0≤a→a + cSs (l.drop j)≤1000000000→EvP (fun k=>bP.l0 k l a (j:Int)) (·=a + cSs (l.drop j)):=by
      intro r
      induction r with
      |zero=>
        intro j a hj h0 h1
        refine EvP.step (fun k=>bP.l0.eq_2 (k:=k) ..) (EvP.no (by omega) (EvP.ret ?_))
        rw [List.drop_eq_nil_of_le (by omega),sK]
        omega
      |succ r ih2=>
        intro j a hj h0 h1
        have hlt:j < l.length:=by omega
        have hd:=PO l j hlt
        have hm:=yD l _ (List.getElem_mem hlt)
        have hcs:=OJ l[j]
        refine EvP.step (fun k=>bP.l0.eq_2 (k:=k) ..) (EvP.yes (by omega) (EvP.yes (by omega) ?_))
        rw [DI l j hlt,w64 (n:=(j:Int) + 1) (by omega) (by omega)]
        refine EvP.dO (ih _ (by omega) (by omega)) (EvP.dO (ih _ (by omega) (by omega)) ?_)
        rw [w64 (n:=a + 1) (by omega) (by omega),w64 (n:=a + 1 + (cSs l[j].f4:Int)) (by omega) (by omega),w64 (by omega) (by omega)]
        refine (ih2 (j + 1) _ (by omega) (by omega) (by omega)).mono fun b hb=>?_
        omega
    refine EvP.step (fun k=>bP.f.eq_2 (k:=k) ..) ((loop l.length 0 0 (by omega) (by omega) (by rw [List.drop_zero];omega)).mono fun b hb=>?_)
    rw [List.drop_zero] at hb
    omega
theorem BQ (l:List S58) (hl:cSs l≤1000000000):EvP (fun k=>fZ.f k l) (·=okT 3 l):=by
  unfold fZ.f okT
  refine EvP.dO (DR l hl) (EvP.ite (fun h=>EvP.dO (sI _ l hl (by omega)) (EvP.ret ?_)) (fun h=>EvP.ret ?_))
  · rw [h,Bool.true_and]
    exact decide_eq_decide.mpr (by omega)
  · rw [Bool.eq_false_iff.mpr h]
    rfl
theorem CZ {boxes:Int} {l:List S58}:okT boxes l=true ↔ okL boxes 3 l=true∧cSs l≤16:=by
 unfold okT
 rw [Bool.and_eq_true,decide_eq_true_eq]
theorem aHr (a:S58):(⟨a.f0,a.f1,a.f2,a.f3,a.f4,a.f5⟩:S58)=a:=by
 cases a
 rfl
inductive ST where
 |mk (kd va bx:Int) (x:X) (b e:List ST)
namespace ST
def kd:ST→Int|⟨a,_,_,_,_,_⟩=>a
def va:ST→Int|⟨_,a,_,_,_,_⟩=>a
def bx:ST→Int|⟨_,_,a,_,_,_⟩=>a
def x:ST→X|⟨_,_,_,a,_,_⟩=>a
def b:ST→List ST|⟨_,_,_,_,a,_⟩=>a
def e:ST→List ST|⟨_,_,_,_,_,a⟩=>a
end ST
mutual
def oH:ST→S58
 |⟨kd,va,bx,x,b,e⟩=>⟨kd,va,bx,emb x,gK b,gK e⟩
def gK:List ST→List S58
 |[]=>[]
 |s :: ss=>oH s :: gK ss
end
theorem vX (t:ST):oH t=⟨t.kd,t.va,t.bx,emb t.x,gK t.b,gK t.e⟩:=by
 cases t
 rw [oH]
 rfl
theorem iV:∀ l:List ST,(gK l).length=l.length
 |[]=>by rw [gK];rfl
 |x :: xs=>by rw [gK,List.length_cons,List.length_cons,iV xs]
theorem CP:∀ l m:List ST,gK (l ++ m)=gK l ++ gK m
 |[],m=>by rw [gK];rfl
 |x :: xs,m=>by rw [List.cons_append,gK,gK,CP xs m];rfl
theorem NA:∀ (l:List ST) (i:Nat) (h:i < l.length),(gK l)[i]'(by rw [iV];exact h)=oH l[i]
 |x :: xs,0,_=>by simp [gK]
 |x :: xs,i + 1,h=>by
  have h2:=NA xs i (by simpa using h)
  simp only [gK,List.getElem_cons_succ]
  exact h2
theorem KG {P:ST→Prop} (h:∀ t:ST,(∀ y ∈ t.b,P y)→(∀ y ∈ t.e,P y)→P t) (t:ST):P t:=
 @ST.rec (motive_1:=P) (motive_2:=fun l=>∀ y ∈ l,P y) (fun a b c d m n i1 i2=>h ⟨a,b,c,d,m,n⟩ i1 i2) (fun y hy=>by simp at hy) (fun y ys h1 h2 z hz=>by
  rcases List.mem_cons.1 hz with rfl|hz
  ·exact h1
  ·exact h2 z hz) t
inductive AX:ST→Prop
 |mk (t:ST) (h1:t.x.ok) (h2:t.x.depth≤5) (hb:∀ y ∈ t.b,AX y) (he:∀ y ∈ t.e,AX y):AX t
theorem aDf (boxes:Int):∀ (d:Nat) (s:S58),kU boxes d s=true→∃ t,oH t=s∧AX t:=by
 have ex:∀ s:S58,stS boxes s=true→∃ x:X,emb x=s.f3∧x.ok∧x.depth≤5:=by
  intro s h
  have hv:vx 5 s.f3.f0 s.f3.f1 s.f3.f2=true∨yL s.f3.f0 s.f3.f1 s.f3.f2=true:=by
   unfold stS yT mZ at h
   repeat' split at h
   all_goals first
    |(cases h;done)
    |(simp only [Bool.and_eq_true] at h;first|exact .inl h.2.2.1|exact .inr h.2.2.1)
    |skip
   all_goals simp_all
  rcases hv with hv|hv
  ·obtain ⟨x,h1,h2,h3⟩:=OY 5 _ _ _ hv
   exact ⟨x,h3.trans (aEl _),h1,h2⟩
  ·unfold yL at hv
   simp only [Bool.and_eq_true,beq_iff_eq] at hv
   refine ⟨.num 0,?_,⟨by omega,by omega⟩,by simp [X.depth]⟩
   rw [emb,← aEl s.f3,hv.1,hv.2.1,List.eq_nil_of_length_eq_zero hv.2.2]
 have mk:∀ (s:S58),stS boxes s=true→(∃ l,gK l=s.f4∧∀ y ∈ l,AX y)→(∃ l,gK l=s.f5∧∀ y ∈ l,AX y)→∃ t,oH t=s∧AX t:=by
  rintro s h ⟨l,h4,a4⟩ ⟨m,h5,a5⟩
  obtain ⟨x,hx,hok,hd⟩:=ex s h
  refine ⟨⟨s.f0,s.f1,s.f2,x,l,m⟩,?_, .mk _ hok hd a4 a5⟩
  rw [oH,hx,h4,h5]
  exact aHr s
 have nils:∀ s:S58,stS boxes s=true→rV s=false→(∃ l,gK l=s.f4∧∀ y ∈ l,AX y)∧(∃ l,gK l=s.f5∧∀ y ∈ l,AX y):=by
  intro s h hb
  have hf:=HZ h (fun e=>by rw [(sH s).mpr e] at hb;cases hb)
  rw [OJ] at hf
  have l4:=gG s.f4
  have l5:=gG s.f5
  rw [List.eq_nil_of_length_eq_zero (show s.f4.length=0 by omega),List.eq_nil_of_length_eq_zero (show s.f5.length=0 by omega)]
  exact ⟨⟨[],by rw [gK],by simp⟩,⟨[],by rw [gK],by simp⟩⟩
 intro d
 induction d with
 |zero=>
  intro s h
  simp only [kU,Bool.and_eq_true] at h
  obtain ⟨n4,n5⟩:=nils s h.1 (by simpa using h.2)
  exact mk s h.1 n4 n5
 |succ d ih=>
  intro s h
  have lists:∀ l:List S58,l.all (kU boxes d)=true→∃ m,gK m=l∧∀ y ∈ m,AX y:=by
   intro l
   induction l with
   |nil=>exact fun _=>⟨[],by rw [gK],by simp⟩
   |cons y ys ihl=>
    intro h
    rw [List.all_cons,Bool.and_eq_true] at h
    obtain ⟨t,ht,at_⟩:=ih y h.1
    obtain ⟨m,hm,am⟩:=ihl h.2
    refine ⟨t :: m,by rw [gK,ht,hm],fun z hz=>?_⟩
    rcases List.mem_cons.1 hz with rfl|hz
    ·exact at_
    ·exact am z hz
  simp only [kU,Bool.and_eq_true,Bool.or_eq_true] at h
  cases hb:rV s with
  |false=>
   obtain ⟨n4,n5⟩:=nils s h.1 hb
   exact mk s h.1 n4 n5
  |true=>
   rw [hb] at h
   rcases h.2 with h2|h2
   ·cases h2
   ·exact mk s h.1 (lists _ h2.1) (lists _ h2.2)
theorem aDe (boxes:Int) (d:Nat):∀ l:List S58,okL boxes d l=true→∃ m,gK m=l∧∀ y ∈ m,AX y
 |[],_=>⟨[],by rw [gK],by simp⟩
 |y :: ys,h=>by
  have h':(kU boxes d y && okL boxes d ys)=true:=h
  rw [Bool.and_eq_true] at h'
  obtain ⟨t,ht,at_⟩:=aDf boxes d y h'.1
  obtain ⟨m,hm,am⟩:=aDe boxes d ys h'.2
  refine ⟨t :: m,by rw [gK,ht,hm],fun z hz=>?_⟩
  rcases List.mem_cons.1 hz with rfl|hz
  ·exact at_
  ·exact am z hz
def cT (l:List ST):Nat:=cSs (gK l)
theorem yE (l m:List ST):cT (l ++ m)=cT l + cT m:=by
 unfold cT
 rw [CP,rZ]
theorem sD (t:ST):cT [t]=cT t.b + cT t.e + 1:=by
 unfold cT
 rw [gK,gK,aEj,vX,OJ]
theorem yF (t:ST) (l:List ST):cT (t :: l)=cT t.b + cT t.e + 1 + cT l:=by
 rw [show t :: l=[t] ++ l from rfl,yE,sD]
def ba (l:List UInt8):ByteArray:=⟨l.toArray⟩
theorem kL (l:List UInt8):(ba l).size=l.length:=by simp [ba,ByteArray.size]
theorem aAh (l:List UInt8):(ba l).data.toList=l:=by simp [ba]
theorem aCj (s:ByteArray):ba s.data.toList=s:=by
 cases s
 simp [ba]
theorem aFh {s t:ByteArray} (h:s.data.toList=t.data.toList):s=t:=by rw [← aCj s,h,aCj]
theorem yC (l m:List UInt8):ba l ++ ba m=ba (l ++ m):=aFh (by simp [ba])
theorem BD (l:List UInt8) (i j:Nat):(ba l).extract i j=ba ((l.take j).drop i):=aFh (by
 simp only [ba,ByteArray.data_extract,Array.toList_extract,List.extract_eq_take_drop]
 rw [List.drop_take])
theorem MZ (l:List UInt8) (i:Nat) (h:i < l.length):bt (ba l) (i:Int)=(l[i].toNat:Int):=by
 unfold bt
 rw [dif_pos (by rw [Int.toNat_natCast,kL];exact h)]
 simp [ba,ByteArray.getElem_eq_getElem_data]
theorem GA (s:ByteArray):∀ (d i:Nat) (r:List UInt8),i + d=s.size→ByteArray.toList.loop s i r=r.reverse ++ s.data.toList.drop i
 |0,i,r,h=>by
  rw [ByteArray.toList.loop,if_neg (by omega),List.drop_eq_nil_of_le (by show s.size≤i;omega),List.append_nil]
 |d + 1,i,r,h=>by
  have hi:i < s.data.toList.length:=by show i < s.size;omega
  rw [ByteArray.toList.loop,if_pos (by omega),GA s d (i + 1) _ (by omega),List.drop_eq_getElem_cons hi,List.reverse_cons,List.append_assoc]
  congr 1
  simp only [List.singleton_append,List.cons.injEq,and_true]
  show s.data[i]! =_
  exact getElem!_pos s.data i hi
theorem toList_data (s:ByteArray):s.toList=s.data.toList:=by
 unfold ByteArray.toList
 rw [GA s s.size 0 [] (by omega)]
 rfl
theorem pR (l:List UInt8):(ba l).toList=l:=by rw [toList_data,aAh]
def isD (c:UInt8):Bool:=decide (48≤c.toNat) && decide (c.toNat≤57)
def isL (c:UInt8):Bool:=decide (97≤c.toNat) && decide (c.toNat≤122)
def syms:List (List UInt8):=[[61,61],[60,60],[62,62],[124],[94],[38],[60],[43],[45],[42],[47],[37],[40],[41],[123],[125],[61],[59]]
inductive Tok:List UInt8→Prop
 |dig (c:UInt8) (t:List UInt8) (h:∀ x ∈ c :: t,isD x=true):Tok (c :: t)
 |let_ (c:UInt8) (t:List UInt8) (h:∀ x ∈ c :: t,isL x=true):Tok (c :: t)
 |sym (t:List UInt8) (h:t ∈ syms):Tok t
def Rest (r:List UInt8):Prop:=r=[]∨∃ q,r=32 :: q
theorem Tok.pos {t:List UInt8} (h:Tok t):0 < t.length:=by
 cases h with
 |dig=>simp
 |let_=>simp
 |sym t h=>
  simp only [syms,List.mem_cons,List.not_mem_nil,or_false] at h
  rcases h with h|h|h|h|h|h|h|h|h|h|h|h|h|h|h|h|h|h <;> subst h <;> decide
def gZ:List (List UInt8)→List UInt8
 |[]=>[]
 |[x]=>x
 |x :: y :: r=>x ++ 32 :: gZ (y :: r)
theorem ND:∀ l:List (List UInt8),Lib.join l [32]=gZ l
 |[]=>rfl
 |[x]=>Lib.join_one x _
 |x :: y :: r=>by
  rw [Lib.join_cons,gZ,← ND (y :: r),Lib.join_cons]
  simp [Lib.joinTail]
theorem oI (x:List UInt8) {l:List (List UInt8)} (h:l≠[]):gZ (x :: l)=x ++ 32 :: gZ l:=by
 cases l with
 |nil=>exact absurd rfl h
 |cons y r=>rfl
theorem OP {l m:List (List UInt8)} (hl:l≠[]) (hm:m≠[]):gZ (l ++ m)=gZ l ++ 32 :: gZ m:=by
 induction l with
 |nil=>exact absurd rfl hl
 |cons x r ih=>
  cases r with
  |nil=>rw [List.singleton_append,oI x hm];rfl
  |cons y q=>
   rw [List.cons_append,oI x (by simp),ih (by simp),oI x (by simp)]
   simp
theorem yZ (u:Nat):∀ c ∈ Lib.decDigits u,isD c=true:=by
 induction u using Nat.strongRecOn with
 | _ u ih=>
  intro c hc
  rw [Lib.decDigits] at hc
  split at hc
  ·rw [List.mem_singleton] at hc
   subst hc
   have:u=0∨u=1∨u=2∨u=3∨u=4∨u=5∨u=6∨u=7∨u=8∨u=9:=by omega
   rcases this with h|h|h|h|h|h|h|h|h|h <;> subst h <;> decide
  ·rcases List.mem_append.1 hc with h|h
   ·exact ih _ (by omega) c h
   ·rw [List.mem_singleton] at h
    subst h
    have:u % 10=0∨u % 10=1∨u % 10=2∨u % 10=3∨u % 10=4∨u % 10=5∨u % 10=6∨u % 10=7∨u % 10=8∨u % 10=9:=by omega
    rcases this with h|h|h|h|h|h|h|h|h|h <;> rw [h] <;> decide
theorem LW (u:Nat):0 < (Lib.decDigits u).length:=by
 rw [Lib.decDigits]
 split
 ·exact Nat.one_pos
 ·simp
theorem AA (d:Nat):∀ u:Nat,u < 10 ^ (d + 1)→(Lib.decDigits u).length≤d + 1:=by
 induction d with
 |zero=>
  intro u hu
  rw [Lib.decDigits,dif_pos (by omega)]
  exact Nat.le_refl _
 |succ d ih=>
  intro u hu
  rw [Lib.decDigits]
  split
  ·simp
  ·have:=ih (u / 10) (by rw [Nat.pow_succ] at hu;omega)
   simp only [List.length_append,List.length_singleton]
   omega
def dec (n:Int):List UInt8:=Lib.decDigits n.toNat
theorem HY (n:Int):Tok (dec n):=by
 have h:=yZ n.toNat
 have h0:=LW n.toNat
 unfold dec
 cases hd:Lib.decDigits n.toNat with
 |nil=>rw [hd] at h0;simp at h0
 |cons c t=>rw [hd] at h;exact .dig c t h
theorem vC {n:Int} (h0:0≤n) (h:n≤99999):(dec n).length≤5:=AA 4 n.toNat (by omega)
theorem aCn {n:Int} (h:0≤n):Lib.itoa n=dec n:=by
 unfold Lib.itoa dec
 rw [if_neg (by omega)]
def lev (op:Int):Int:=if op≤6 then op else if op=7 then 6 else if op≤9 then 7 else 8
def opB (op:Int):List UInt8:=[[124],[94],[38],[61,61],[60],[60,60],[62,62],[43],[45],[42],[47],[37]].getD (op - 1).toNat []
theorem aEv {op:Int} (h:1≤op∧op≤12):Tok (opB op):=by
 have:op=1∨op=2∨op=3∨op=4∨op=5∨op=6∨op=7∨op=8∨op=9∨op=10∨op=11∨op=12:=by omega
 apply Tok.sym
 rcases this with h|h|h|h|h|h|h|h|h|h|h|h <;> subst h <;> decide
def yU (v:Int):List UInt8:=[(97 + v).toNat.toUInt8]
theorem KZ {v:Int} (h:0≤v∧v < 4):Tok (yU v):=by
 have:v=0∨v=1∨v=2∨v=3:=by omega
 rcases this with h|h|h|h <;> subst h <;> exact .let_ _ _ (by decide)
def tC (l:List (List UInt8)) (b:Bool):List (List UInt8):=if b=true then [40] :: (l ++ [[41]]) else l
namespace X
def lev:X→Int
 |num _=>9
 |var _=>9
 |bin op _ _=>PA.lev op
def toks:X→List (List UInt8)
 |num n=>[dec n]
 |var v=>[yU v]
 |bin op a b=>tC a.toks (decide (a.lev < PA.lev op)) ++ opB op :: tC b.toks (decide (b.lev≤PA.lev op))
end X
theorem NV {l:List (List UInt8)} {b:Bool} (h:∀ t ∈ l,Tok t):∀ t ∈ tC l b,Tok t:=by
 unfold tC
 split
 ·intro t ht
  rcases List.mem_cons.1 ht with h1|h1
  ·subst h1
   exact .sym _ (by decide)
  ·rcases List.mem_append.1 h1 with h2|h2
   ·exact h t h2
   ·rw [List.mem_singleton] at h2
    subst h2
    exact .sym _ (by decide)
 ·exact h
theorem KY:∀ x:X,x.ok→∀ t ∈ x.toks,Tok t
 | .num n,h=>by
  intro t ht
  rw [X.toks,List.mem_singleton] at ht
  subst ht
  exact HY n
 | .var v,h=>by
  intro t ht
  rw [X.toks,List.mem_singleton] at ht
  subst ht
  exact KZ h
 | .bin op a b,h=>by
  intro t ht
  rw [X.toks] at ht
  rcases List.mem_append.1 ht with h1|h1
  ·exact NV (KY a h.2.1) t h1
  ·rcases List.mem_cons.1 h1 with h2|h2
   ·subst h2
    exact aEv h.1
   ·exact NV (KY b h.2.2) t h2
theorem vS (l:List (List UInt8)) (b:Bool):(tC l b).length≤l.length + 2:=by
 unfold tC
 split
 ·simp
 ·omega
theorem uU:∀ x:X,x.toks.length + 4≤5 * x.size
 | .num _=>by simp [X.toks,X.size]
 | .var _=>by simp [X.toks,X.size]
 | .bin op a b=>by
  have h1:=vS a.toks (decide (a.lev < lev op))
  have h2:=vS b.toks (decide (b.lev≤lev op))
  have h3:=uU a
  have h4:=uU b
  rw [X.toks,List.length_append,List.length_cons,X.size]
  omega
theorem GJ (c:UInt8):lU.f (c.toNat:Int)=some (isD c):=by
 unfold lU.f isD
 by_cases h:((c.toNat:Int))≥48
 ·rw [if_pos h,decide_eq_true (show 48≤c.toNat by omega),Bool.true_and]
  congr 1
  exact decide_eq_decide.mpr (by omega)
 ·rw [if_neg h,decide_eq_false (show ¬ 48≤c.toNat by omega),Bool.false_and]
theorem EG (c:UInt8):kV.f (c.toNat:Int)=some (isL c):=by
 unfold kV.f isL
 by_cases h:((c.toNat:Int))≥97
 ·rw [if_pos h,decide_eq_true (show 97≤c.toNat by omega),Bool.true_and]
  congr 1
  exact decide_eq_decide.mpr (by omega)
 ·rw [if_neg h,decide_eq_false (show ¬ 97≤c.toNat by omega),Bool.false_and]
def isM (m:Bool) (c:UInt8):Bool:=if m=true then isD c else isL c
theorem aGl (m:Bool) (c:UInt8):(if m=true then lU.f (c.toNat:Int) else kV.f (c.toNat:Int))=some (isM m c):=by
 cases m
 ·rw [if_neg Bool.false_ne_true,EG]
  rfl
 ·rw [if_pos rfl,GJ]
  rfl
theorem aFl (l:List UInt8) (hl:l.length≤1000000000) (m:Bool):∀ (d j:Nat),j + d=l.length→EvP (fun k=>aW.l1 k (ba l) m (j:Int)) (·=((j + ((l.drop j).takeWhile (isM m)).length:Nat):Int))
  |0,j,h=>by
    refine EvP.step (fun k=>aW.l1.eq_2 (k:=k) ..) (EvP.no (by rw [kL];omega) (EvP.ret ?_))
    rw [List.drop_eq_nil_of_le (by omega)]
    simp
  |d + 1,j,h=>by
    have hj:j < l.length:=by omega
    refine EvP.step (fun k=>aW.l1.eq_2 (k:=k) ..) (EvP.yes (by rw [kL];omega) (EvP.yes (by omega) ?_))
    rw [MZ l j hj]
    refine EvP.fK (aGl m l[j]) ?_
    rw [List.drop_eq_getElem_cons hj]
    cases hm:isM m l[j] with
    |true=>
      refine EvP.yes rfl ?_
      rw [w64 (by omega) (by omega),show (j:Int) + 1=((j + 1:Nat):Int) by omega]
      refine (aFl l hl m d (j + 1) (by omega)).mono (fun a ha=>?_)
      rw [ha,List.takeWhile_cons,if_pos hm,List.length_cons]
      congr 1
      omega
    |false=>
      refine EvP.no Bool.false_ne_true (EvP.ret ?_)
      rw [List.takeWhile_cons,if_neg (by rw [hm];exact Bool.false_ne_true)]
      simp
theorem aCv (l:List UInt8) (hl:l.length≤1000000000) (m:Bool):EvP (fun k=>aW.l1 k (ba l) m 0) (·=((l.takeWhile (isM m)).length:Int)):=
  (aFl l hl m l.length 0 (by omega)).mono (fun a ha=>by rw [ha];simp)
theorem AO {p:UInt8→Bool} {t r:List UInt8} (ht:∀ x ∈ t,p x=true) (hr:Rest r) (j3:p 32=false):(t ++ r).takeWhile p=t:=by
 rw [List.takeWhile_append_of_pos ht]
 rcases hr with rfl|⟨q,rfl⟩
 ·simp
 ·rw [List.takeWhile_cons,if_neg (by rw [j3];exact Bool.false_ne_true),List.append_nil]
theorem DW {p:UInt8→Bool} {c:UInt8} {t:List UInt8} (h:p c=false):(c :: t).takeWhile p=[]:=by
 rw [List.takeWhile_cons,if_neg (by rw [h];exact Bool.false_ne_true)]
theorem aEq {c:UInt8} (h:isL c=true):isD c=false:=by
 unfold isL at h
 unfold isD
 simp only [Bool.and_eq_true,decide_eq_true_eq] at h
 rw [decide_eq_false (p:=c.toNat≤57) (by omega),Bool.and_false]
def aBp (c:UInt8):List UInt8→Bool
 |a :: b :: _=>a == c && b == c
 | _=>false
theorem TL (l:List UInt8) (c:UInt8) (hl:l.length≤1000000000):strings_HasPrefix.f (ba l) ⟨#[c,c]⟩=some (aBp c l):=by
 unfold strings_HasPrefix.f stringslite_HasPrefix.f
 have hs:(⟨#[c,c]⟩:ByteArray).size=2:=rfl
 rw [hs,kL]
 by_cases h:(l.length:Int)≥((2:Nat):Int)
 ·rw [if_pos h,if_pos (by omega),if_pos h]
  simp only [Option.bind_some]
  congr 1
  match l,h with
  |a :: b :: r,_=>
   have e:(ba (a :: b :: r)).extract 0 (((2:Nat):Int):Int).toNat=ba [a,b]:=by
    rw [BD]
    rfl
   rw [e,pR,show (⟨#[c,c]⟩:ByteArray)=ba [c,c] from rfl,pR]
   simp [aBp]
  |[a],h=>simp at h
  |[],h=>simp at h
 ·rw [if_neg h]
  simp only [Option.bind_some]
  congr 1
  match l,h with
  |a :: b :: r,h=>simp at h;omega
  |[a],_=>rfl
  |[],_=>rfl
theorem aHb (c:UInt8) (q:List UInt8):¬ (ba (c :: q)).toList=([]:List UInt8):=by
 rw [pR]
 simp
theorem SX (c:UInt8) (q:List UInt8):bt (ba (c :: q)) 0=(c.toNat:Int):=MZ (c :: q) 0 (by simp)
theorem aFe (t r:List UInt8) (hl:(t ++ r).length≤1000000000) (ht:t ∈ syms) (hr:Rest r):aW.st2 (ba (t ++ r)) 0=some (t.length:Int):=by
 simp only [aW.st2,aW.fin,TL _ _ hl,Option.bind_some]
 clear hl
 simp only [syms,List.mem_cons,List.not_mem_nil,or_false] at ht
 rcases hr with rfl|⟨q,rfl⟩
 all_goals
  rcases ht with h|h|h|h|h|h|h|h|h|h|h|h|h|h|h|h|h|h <;> subst h
 all_goals
  simp only [List.cons_append,List.nil_append,List.append_nil]
 all_goals
  first
  |(simp [aBp];done)
  |(rw [if_neg (by simp [aBp]),if_neg (by simp [aBp]),if_neg (by simp [aBp]),if_neg (aHb _ _),SX];rfl)
theorem aAx {t r:List UInt8} (ht:t ∈ syms) (m:Bool):(t ++ r).takeWhile (isM m)=[]:=by
 simp only [syms,List.mem_cons,List.not_mem_nil,or_false] at ht
 rcases ht with h|h|h|h|h|h|h|h|h|h|h|h|h|h|h|h|h|h <;> subst h <;> exact DW (by cases m <;> decide)
theorem xW (t r:List UInt8) (hl:(t ++ r).length≤1000000000) (ht:Tok t) (hr:Rest r):EvP (fun k=>aW.f k (ba (t ++ r))) (·=(t.length:Int)):=by
  have h0:=ht.pos
  show EvP (fun k=>(aW.l1 k (ba (t ++ r)) true 0).bind fun d=>if 0 < d then some d else (aW.l1 k (ba (t ++ r)) false 0).bind fun c=>if 0 < c then some c else aW.st2 (ba (t ++ r)) 0) _
  refine EvP.dO (aCv _ hl true) ?_
  cases ht with
  |dig c t h=>
    rw [AO (p:=isM true) h hr (by decide)]
    exact EvP.yes (by omega) (EvP.ret rfl)
  |let_ c t h=>
    rw [List.cons_append,DW (p:=isM true) (aEq (h c (by simp))),← List.cons_append]
    refine EvP.no (by simp) (EvP.dO (aCv _ hl false) ?_)
    rw [AO (p:=isM false) h hr (by decide)]
    exact EvP.yes (by omega) (EvP.ret rfl)
  |sym t h=>
    rw [aAx h]
    refine EvP.no (by simp) (EvP.dO (aCv _ hl false) ?_)
    rw [aAx h]
    exact EvP.no (by simp) (EvP.of (aFe t r hl h hr) rfl)
theorem LP (t:List UInt8) (hl:t.length≤1000000000) (ht:Tok t):EvP (fun k=>gN.f k (ba t)) (·=true):=by
  unfold gN.f
  have h:=xW t [] (by simpa using hl) ht (.inl rfl)
  rw [List.append_nil] at h
  have h0:=ht.pos
  refine EvP.no (by rw [pR];intro e;rw [e] at h0;simp at h0) (EvP.dO h (EvP.ret ?_))
  rw [kL]
  simp
theorem rdB (L:List (List UInt8)) (j:Nat) (h:j < L.length):nL ByteArray.empty (L.map ba) (j:Int)=ba L[j]:=by
 unfold nL
 rw [Int.toNat_natCast,List.getD_eq_getElem?_getD,List.getElem?_map,List.getElem?_eq_getElem h]
 rfl
theorem yX (L:List (List UInt8)) (hn:L.length≤1000000) (hs:∀ t ∈ L,t.length≤1000000) (ht:∀ t ∈ L,Tok t) (hj:(gZ L).length≤1000000000):∀ (d j:Nat),j + d=L.length→EvP (fun k=>dM.l0 k (L.map ba) (L.map ba) ((L.map ba).length:Int) (j:Int)) (·=ba (gZ L))
  |0,j,h=>by
    refine EvP.step (fun k=>dM.l0.eq_2 (k:=k) ..) (EvP.no (by rw [List.length_map];omega) ?_)
    have e:strings_Join.f (L.map ba) (⟨#[32]⟩:ByteArray)=some (ba (gZ L)):=by
      unfold strings_Join.f
      have e2:PY (L.map ba) (⟨#[32]⟩:ByteArray)=gZ L:=by
        unfold PY
        rw [List.map_map,show ((fun x:ByteArray=>x.data.toList) ∘ ba)=id from funext aAh,List.map_id]
        exact ND L
      rw [e2,if_pos (by rw [List.length_map];omega),if_pos (by omega)]
      rfl
    exact EvP.fK e (EvP.ret rfl)
  |d + 1,j,h=>by
    have hj':j < L.length:=by omega
    refine EvP.step (fun k=>dM.l0.eq_2 (k:=k) ..) (EvP.yes (by rw [List.length_map];omega) (EvP.yes (by omega) (EvP.yes (by rw [List.length_map];omega) ?_)))
    rw [rdB L j hj']
    refine EvP.dO (LP _ (by have:=hs L[j] (by simp);omega) (ht L[j] (by simp))) (EvP.yes rfl ?_)
    rw [w64 (by omega) (by omega),show (j:Int) + 1=((j + 1:Nat):Int) by omega]
    exact yX L hn hs ht hj d (j + 1) (by omega)
theorem BH (L:List (List UInt8)) (hn:L.length≤1000000) (hs:∀ t ∈ L,t.length≤1000000) (ht:∀ t ∈ L,Tok t) (hj:(gZ L).length≤1000000000):EvP (fun k=>dM.f k (L.map ba)) (·=ba (gZ L)):=
  yX L hn hs ht hj L.length 0 (by omega)
theorem aFj {c:UInt8} (h:isD c=true):EvP (fun k=>bI.f k (c.toNat:Int)) (·=1):=by
  unfold isD at h
  simp only [Bool.and_eq_true,decide_eq_true_eq] at h
  unfold bI.f
  refine EvP.yes (by omega) (EvP.step (fun k=>bI.j0.eq_2 (k:=k) ..) (EvP.yes (by rw [decide_eq_true_eq];omega) (EvP.ret rfl)))
theorem aFk {c:UInt8} (h:isL c=true):EvP (fun k=>bI.f k (c.toNat:Int)) (·=2):=by
  unfold isL at h
  simp only [Bool.and_eq_true,decide_eq_true_eq] at h
  unfold bI.f
  refine EvP.yes (by omega) (EvP.step (fun k=>bI.j0.eq_2 (k:=k) ..) (EvP.no (by rw [decide_eq_true_eq];omega) (EvP.yes (by omega) ?_)))
  exact EvP.step (fun k=>bI.j1.eq_2 (k:=k) ..) (EvP.yes (by rw [decide_eq_true_eq];omega) (EvP.ret rfl))
theorem KJ (t:List UInt8) (hl:t.length≤1000000000) (h0:0 < t.length) (n:Int) (hk:∀ x ∈ t,EvP (fun k=>bI.f k (x.toNat:Int)) (·=n)):∀ (d j:Nat),j + d=t.length→EvP (fun k=>fO.l0 k (ba t) 0 (j:Int)) (·=(t.length:Int))
  |0,j,h=>EvP.step (fun k=>fO.l0.eq_2 (k:=k) ..) (EvP.no (by rw [kL];omega) (EvP.ret (by omega)))
  |d + 1,j,h=>by
    have hj:j < t.length:=by omega
    refine EvP.step (fun k=>fO.l0.eq_2 (k:=k) ..) (EvP.yes (by rw [kL];omega) (EvP.yes (by omega) ?_))
    rw [MZ t j hj,show bt (ba t) 0=(t[0].toNat:Int) from MZ t 0 h0]
    refine EvP.dO (hk _ (by simp)) (EvP.yes (by omega) (EvP.yes (by rw [kL];omega) (EvP.dO (hk _ (by simp)) (EvP.yes rfl ?_))))
    rw [w64 (by omega) (by omega),show (j:Int) + 1=((j + 1:Nat):Int) by omega]
    exact KJ t hl h0 n hk d (j + 1) (by omega)
theorem aBl (t:List UInt8) (h:t ∈ syms):EvP (fun k=>eO.f k (ba t) 0) (·=(t.length:Int)):=by
  refine Ev.evp (Ev.of (eO.mono _ _) (k:=60) ?_)
  simp only [syms,List.mem_cons,List.not_mem_nil,or_false] at h
  rcases h with h|h|h|h|h|h|h|h|h|h|h|h|h|h|h|h|h|h <;> subst h <;> kernel_rfl
theorem aCw (t:List UInt8) (hl:t.length≤1000000000) (ht:Tok t):EvP (fun k=>eO.f k (ba t) 0) (·=(t.length:Int)):=by
  have h0:=ht.pos
  cases ht with
  |dig c t h=>
    unfold eO.f
    refine EvP.yes (by omega) (EvP.yes (by rw [kL];omega) ?_)
    rw [SX]
    refine EvP.dO (aFj (h c (by simp))) (EvP.yes rfl (EvP.step (fun k=>eO.j0.eq_2 (k:=k) ..) (EvP.yes rfl (EvP.dO ?_ (EvP.ret rfl)))))
    exact KJ (c :: t) hl h0 1 (fun x hx=>aFj (h x hx)) (c :: t).length 0 (by omega)
  |let_ c t h=>
    unfold eO.f
    refine EvP.yes (by omega) (EvP.yes (by rw [kL];omega) ?_)
    rw [SX]
    refine EvP.dO (aFk (h c (by simp))) (EvP.no (by omega) (EvP.step (fun k=>eO.j0.eq_2 (k:=k) ..) (EvP.yes rfl (EvP.dO ?_ (EvP.ret rfl)))))
    exact KJ (c :: t) hl h0 2 (fun x hx=>aFk (h x hx)) (c :: t).length 0 (by omega)
  |sym t h=>exact aBl t h
theorem BR (t:List UInt8) (hl:t.length≤1000000000) (ht:Tok t):EvP (fun k=>gI.f k (ba t)) (·=true):=by
  unfold gI.f
  have h0:=ht.pos
  refine EvP.no (by rw [pR];intro e;rw [e] at h0;simp at h0) (EvP.dO (aCw t hl ht) (EvP.ret ?_))
  rw [kL]
  simp
theorem TQ {l:List (List UInt8)} (h:l≠[]) (x:List UInt8):gZ (l ++ [x])=gZ l ++ 32 :: x:=OP h (by simp)
theorem KI (L:List (List UInt8)):∀ j:Nat,(gZ (L.take j)).length≤(gZ L).length:=by
 induction L with
 |nil=>intro j;simp
 |cons x r ih=>
  intro j
  cases j with
  |zero=>simp [gZ]
  |succ j=>
   rw [List.take_succ_cons]
   cases r with
   |nil=>simp [gZ]
   |cons y q=>
    cases j with
    |zero=>simp [gZ]
    |succ j=>
     have:=ih (j + 1)
     rw [oI x (by simp),oI x (by simp)]
     simp only [List.length_append,List.length_cons] at this ⊢
     omega
theorem FW (L:List (List UInt8)) (hn:L.length≤1000000) (hs:∀ t ∈ L,t.length≤1000000) (ht:∀ t ∈ L,Tok t) (hj:(gZ L).length≤1000000000):∀ (d j:Nat),j + d=L.length→EvP (fun k=>dI.l0 k (L.map ba) (ba (gZ (L.take j))) (j:Int)) (·=ba (gZ L))
  |0,j,h=>EvP.step (fun k=>dI.l0.eq_2 (k:=k) ..) (EvP.no (by rw [List.length_map];omega) (EvP.ret (by rw [List.take_of_length_le (by omega)])))
  |d + 1,j,h=>by
    have hj':j < L.length:=by omega
    have h1:=KI L j
    have h2:=hs L[j] (by simp)
    refine EvP.step (fun k=>dI.l0.eq_2 (k:=k) ..) (EvP.yes (by rw [List.length_map];omega) (EvP.yes (by omega) ?_))
    rw [rdB L j hj']
    refine EvP.dO (BR _ (by omega) (ht L[j] (by simp))) (EvP.yes rfl ?_)
    have e1:L.take (j + 1)=L.take j ++ [L[j]]:=by rw [List.take_succ_eq_append_getElem hj']
    have ih:=FW L hn hs ht hj d (j + 1) (by omega)
    rw [show ((j + 1:Nat):Int)=wrap64 ((j:Int) + 1) by rw [w64 (by omega) (by omega)];omega] at ih
    refine EvP.ite (fun hp=>?_) (fun hp=>?_)
    · refine EvP.yes (by rw [kL];omega) ?_
      rw [show (⟨#[32]⟩:ByteArray)=ba [32] from rfl,yC]
      refine EvP.yes (by rw [kL,kL,List.length_append];show _ + 1 + _≤_;omega) ?_
      rw [yC]
      have e2:gZ (L.take j) ++ [32] ++ L[j]=gZ (L.take (j + 1)):=by
        rw [e1,TQ (by intro e;have:=congrArg List.length e;rw [List.length_take,List.length_nil] at this;omega)]
        simp
      rw [e2]
      exact ih
    · have hj0:j=0:=by omega
      subst hj0
      refine EvP.yes (by rw [kL,kL];omega) ?_
      rw [yC]
      have e2:gZ (L.take 0) ++ L[0]=gZ (L.take (0 + 1)):=by
        rw [e1]
        rfl
      rw [e2]
      exact ih
theorem BS (L:List (List UInt8)) (hn:L.length≤1000000) (hs:∀ t ∈ L,t.length≤1000000) (ht:∀ t ∈ L,Tok t) (hj:(gZ L).length≤1000000000):EvP (fun k=>dI.f k (L.map ba)) (·=ba (gZ L)):=
  FW L hn hs ht hj L.length 0 (by omega)
theorem aAt (x:X) (hd:x.depth≤5):x.size≤31:=by
 have h1:=X.BP x
 have h2:2 ^ x.depth≤2 ^ 5:=Nat.pow_le_pow_right (by omega) hd
 omega
end Go.Proofs.YtjamfkpgmkhbnaaGreatDoor.PA

