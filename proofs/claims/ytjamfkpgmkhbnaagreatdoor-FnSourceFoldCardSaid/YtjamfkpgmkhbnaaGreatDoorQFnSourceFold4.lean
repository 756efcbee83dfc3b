/- Part 5. -/
import Derived.Test.YtjamfkpgmkhbnaaGreatDoorQFnSourceFold3
import Derived.Laws.BitsLemmas
set_option maxHeartbeats 8000000
set_option maxRecDepth 100000
namespace Go.Proofs.YtjamfkpgmkhbnaaGreatDoor.PA
open Go.RowKit Go.Proofs.YtjamfkpgmkhbnaaGreatDoorW.PrintWords Go.Proofs.YtjamfkpgmkhbnaaGreatDoorW.PrintLast Go.Proofs.YtjamfkpgmkhbnaaGreatDoorW.PrintMore
attribute [local go_sem] max2_int min2_int max_two min_two max_three min_three max_four min_four
set_option linter.unusedVariables false
set_option linter.unusedSimpArgs false
theorem aY.mono_l:∀ k,(∀ y0 y1 y2,LeO (aY.j0 k y0 y1 y2) (aY.j0 (k + 1) y0 y1 y2))∧(∀ y0 y1 y2,LeO (aY.l0 k y0 y1 y2) (aY.l0 (k + 1) y0 y1 y2))
 |0=>⟨fun _ _ _ r h=>by simp [aY.j0] at h,fun _ _ _ r h=>by simp [aY.l0] at h⟩
 |k + 1=>by
  obtain ⟨ih0,ih1⟩:=aY.mono_l k;refine ⟨?_,?_⟩
  ·intro y0 y1 y2;unfold aY.j0;have m0:=@gG.mono;have m1:=@bO.mono;have m2:=@dZ.mono;exact mo_
  ·intro y0 y1 y2;unfold aY.l0;have m0:=@gG.mono;have m1:=@bO.mono;have m2:=@dZ.mono;exact mo_
theorem aY.mono:∀ a0 a1 k,LeO (aY.f k a0 a1) (aY.f (k + 1) a0 a1):=by
 intro a0 a1 k;obtain ⟨ih0,ih1⟩:=aY.mono_l k;unfold aY.f;have m0:=@gG.mono;have m1:=@bO.mono;have m2:=@dZ.mono;exact mo_
def aY.T6:Bool × List (List Nat × List Nat):=(true,[([],[]),([0],[0]),([],[]),([1,2],[1,2]),([3],[3]),([4],[4]),([5],[5]),([6,5],[6]),([7],[7]),([8,7],[7,8]),([7],[7]),([9,10,7],[7,9,10]),([11,7],[7,11]),([7],[7]),([13,7],[7,13]),([14,7],[7,14]),([12,15,7,7],[7,12,15]),([16,7],[7,16]),([7,17],[7,17])])
def aY.B6:List Nat:=[0,1,0,7,15,31,63,127,255,511,255,2047,4095,255,8447,24831,65535,131071,262143]
theorem aY.SS:mH .any (opsOf Tryz.f23 6)=aY.T6:=by kernel_rfl
theorem aY.ED:iY aY.T6.2 aY.B6=true:=by kernel_rfl
theorem aY.calls (k:Nat) (je:Option Addr) (jf:Nat) (j7:List Int) (jl:Option Addr) (jh:Nat) (j5:List (List (S58))) (r:Bool) (w:World) (hr0_0:Kd.C (Kd.int .i64) w je j7.length j7) (hc0_0:j7.length≤jf) (hr0_1:Kd.C (Kd.slice 58 k58) w jl j5.length j5) (hc0_1:j5.length≤jh) (h:aY.f k j7 j5=some r):
  Calls Tryz.prog 23 #[.agg #[.slice je j7.length jf,.slice jl j5.length jh]] w fun e w'=>e= .returned (.bool r)∧Below w.heap.size w w':=by
 have hu26:=Tryz.underlying26;have jq:=am hr0_0;have jr:=am hc0_0;clear hr0_0 hc0_0;have ji:=am hr0_1;have q2:=am hc0_1;clear hr0_1 hc0_1;have HB:=am (Below.refl w.heap.size w);unfold aY.f at h;have H:=h;clear h;have jR:=am H;clear H;go_enter Tryz.func23,Tryz.ntmps23;go_upto_region 1 with (first|((with_reducible refine gD 1 rfl ?_);(try (refine nH (by rfl) ?_;dsimp only));refine dU rfl (N:=1) rfl (cs:=#[.slice je j7.length jf,.slice jl j5.length jh]) (t:=26) rn_ ?_;intro jg hg w3 hbox hb;have j3:=am (hbox);have GW43:=am ((by rw [hg];exact (aI eG):w.heap.size≤jg));have GE43:=am ((by rw [hg];exact (aI eG):w.heap.size≤jg));replace HB:=am (aA eG hb);clear hb hbox hg));(try simp only [Act.put,sA,sB,sC])
 go_cut [14] (fun qa wc=>∃ (kq:Nat) (jk:Bool),qa= .bool jk∧Aside0 (aY.j0 kq jk j7 j5=some r)∧Aside0 (kq≤k)∧Aside0 (wc.heap[jg]?=some (.cells #[(.slice je j7.length jf),(.slice jl j5.length jh)] 26 (0,0)))∧Aside0 (Below w.heap.size w wc))
 case first=>
  have H:=jR.out;clear jR;obtain ⟨qb,A4,H⟩:=bsa H;(try dsimp only at H);by_cases c5:qb=true
  ·subst c5;rw [if_pos rfl] at H;obtain ⟨q3,A6,H⟩:=bsa H;(try dsimp only at H);have H':=am H;clear H;obtain ⟨jS,jT,jU,jV⟩:=iV j3.out;go_wp2_with (first|((with_reducible refine gC 45 rfl ?_);refine gl_ 6 Tryz.func45 #[.slice je j7.length jf] ?_;(with_reducible refine (dZ.calls k _ _ j7 true _ (aC_ (Kd.aX jq.out HB.out)) jr.out A4.out).mono ?_);rintro e w' ⟨rfl,⟨nd,rfl⟩⟩;refine ⟨_,rfl,?_⟩)|(go_at_call 46;(with_reducible refine (iH.calls (j5.length:Int) 1 3 q3 _ A6.out).mono ?_);rintro e w' ⟨rfl,⟨nd,rfl⟩⟩))
   go_meet
   case rel=>exact ⟨_,(!q3),sd_,H',⟨by first|omega|exact Nat.le_refl _⟩,⟨by (with_reducible repeat (first|refine dW ?_ _|refine dA ?_|refine dS ?_ _));exact j3.out⟩,⟨kM⟩⟩
  replace c5:=Bool.eq_false_iff.mpr c5;subst c5;rw [if_neg Bool.false_ne_true] at H;have H':=am H;clear H;obtain ⟨jW,jX,jY,jZ⟩:=iV j3.out;go_wp2_with (first|((with_reducible refine gC 45 rfl ?_);refine gl_ 6 Tryz.func45 #[.slice je j7.length jf] ?_;(with_reducible refine (dZ.calls k _ _ j7 false _ (aC_ (Kd.aX jq.out HB.out)) jr.out A4.out).mono ?_);rintro e w' ⟨rfl,⟨nd,rfl⟩⟩;refine ⟨_,rfl,?_⟩))
  go_meet
  case rel=>exact ⟨_,(true),sd_,H',⟨by first|omega|exact Nat.le_refl _⟩,⟨by (with_reducible repeat (first|refine dW ?_ _|refine dA ?_|refine dS ?_ _));exact j3.out⟩,⟨kM⟩⟩
 case rest=>
  clear jR;obtain ⟨kq,jk,rfl,HA,HJ1,j3,HB⟩:=hcut;cases kq with
  |zero=>exact absurd HA.out (by simp [aY.j0])
  |succ q4=>
   have H:=HA.out;clear HA;simp only [aY.j0] at H;by_cases c9:jk=true
   ·subst c9;rw [if_pos rfl] at H;obtain rfl:=oI H;go_wp2;go_ret;exact ⟨rr_,kM⟩
   replace c9:=Bool.eq_false_iff.mpr c9;subst c9;rw [if_neg Bool.false_ne_true] at H;have H':=am H;clear H;go_wp2
   go_loopg [3] q4 (fun kq v3 w'=>∃ (j4:Int),v3= .int .i64 j4∧Aside0 (aY.l0 kq j4 j7 j5=some r)∧Aside0 (kq≤q4)∧Aside0 (w'.heap[jg]?=some (.cells #[(.slice je j7.length jf),(.slice jl j5.length jh)] 26 (0,0)))∧Aside0 (Below w.heap.size w w'))
   case atStart=>exact ⟨(0),sd_,H',⟨Nat.le_refl _⟩,⟨by (with_reducible repeat (first|refine dW ?_ _|refine dA ?_|refine dS ?_ _));exact j3.out⟩,⟨kM⟩⟩
   case round=>
    clear H';try clear c9
    obtain ⟨j4,rfl,HA,q5,j3,HB⟩:=hrel;cases gk with
    |zero=>exact absurd HA.out (by simp [aY.l0])
    |succ k2=>
     have H:=HA.out;clear HA;simp only [aY.l0] at H;by_cases c10:j4 < (j5.length:Int)
     ·rw [if_pos c10] at H;have jw:decide (j4 < (j5.length:Int))=true:=dT c10;clear c10;by_cases jy:0≤j4
      ·rw [if_pos jy] at H;have q6:decide (0≤j4)=true:=dT jy;clear jy;obtain ⟨qc,q7,H⟩:=bsm H;(try dsimp only at H);have q0:=am q7;clear q7;by_cases jz:qc=true
       ·subst jz;rw [if_pos rfl] at H;obtain ⟨qd,q8,H⟩:=bsm H;(try dsimp only at H);have q9:=am q8;clear q8;by_cases jA:qd=true
        ·subst jA;rw [if_pos rfl] at H;have H':=am H;clear H;obtain ⟨jB,jC,jD,jE⟩:=iV j3.out;try go_wp2
         replace j3:=am (dA j3.out);replace HB:=am (bI HB.out);have jm:0≤(j4:Int):=of_decide_eq_true fK;have jn:j4 < (j5.length:Int):=of_decide_eq_true fK;obtain ⟨jd,ja,jb,jx,j6,hl52_0,hi52_0⟩:=wT ji.out j4 jm jn;have hw52_0:=j6;cases jx;replace j6:=bcT HB.out j6;have j8:=am hi52_0;have jc:=am hl52_0;clear hi52_0 hl52_0;replace jm:=eq_true jm;replace jn:=eq_true jn;have js:0≤(j4:Int):=of_decide_eq_true fK;have jt:j4 < (j5.length:Int):=of_decide_eq_true fK;obtain ⟨ju,jo,jp,q1,j9,hl53_0,hi53_0⟩:=wT ji.out j4 js jt;have hw53_0:=j9;obtain rfl:jd=ju:=(by injection q1);replace j9:=bcT HB.out j9;have jj:=am hi53_0;have jv:=am hl53_0;clear hi53_0 hl53_0;replace js:=eq_true js;replace jt:=eq_true jt;refine lQ (n:=19) (S:=fun w'=>w'.cell? ⟨jg,0,none⟩=some (.slice je j7.length jf)∧w'.cell? ⟨jg,1,none⟩=some (.slice (some jd) j5.length jh)∧w'.cell? (jd.add (j4).toNat)=some (.slice ja (gB j5 j4).length jb)∧w'.cell? (jd.add (j4).toNat)=some (.slice jo (gB j5 j4).length jp)) (ds:=[]) (bz 19 0) (by kernel_rfl) rfl rfl ⟨(aG j3.out 0).trans rfl,(aG j3.out 1).trans rfl,(bcT HB.out hw52_0),(bcT HB.out hw53_0)⟩ (fun hHeld=>?_);refine iQ aY.SS aY.ED (fun HT_ HW_=>?_);generalize wr.drew=qe at j3 HB j8 jj j6 j9 hHeld ⊢;refine pr_ 0 22 (bz 19 1) HT_ ?_;refine pr_ 2 24 (bz 19 5) HT_ ?_;refine OV 1 23 (bz 19 7) HT_ HW_ hHeld ?_;refine pr_ 3 25 (bz 19 15) HT_ ?_;refine OV 4 26 (bz 19 31) HT_ HW_ hHeld ?_;refine iJ (i:=5) (N:=some 27) (bz 19 63) rfl rfl (eU HT_.out (by kernel_rfl)) (by decide) (fun K hK=>?_);refine iI Tryz.func47 (by kernel_rfl) rfl #[.slice ja (gB j5 j4).length jb] (by rfl) rfl rfl nG ?_
         with_reducible refine (gG.calls k2 _ _ (gB j5 j4) true _ (aC_ (Kd.aX j8.out HB.out)) jc.out q0.out).mono ?_
         rintro e qf ⟨rfl,hb⟩;refine ⟨_,rfl,?_⟩;replace j3:=bbP j3 hb;replace HB:=am (aA kM hb);(try clear hb);(try clear hb2);(try clear hk);(try clear hi);refine hK.out _ _ ⟨(aG j3.out 0).trans rfl,(aG j3.out 1).trans rfl,(bcT HB.out hw52_0),(bcT HB.out hw53_0)⟩ (fun hHeld=>?_);clear hK K;refine fC (a':=?_) ?_ ?_;rotate_left;·exact ap_ (N:=27)
         refine pr_ 6 28 (bz 19 127) HT_ ?_;refine pr_ 7 29 (bz 19 255) HT_ ?_;refine pr_ 8 30 (bz 19 511) HT_ ?_;refine pr_ 10 32 (bz 19 1535) HT_ ?_;refine pr_ 13 35 (bz 19 9727) HT_ ?_;refine OV 9 31 (bz 19 10239) HT_ HW_ hHeld ?_;refine pr_ 11 33 (bz 19 12287) HT_ ?_;refine OV 12 34 (bz 19 16383) HT_ HW_ hHeld ?_;refine OV 14 36 (bz 19 32767) HT_ HW_ hHeld ?_;refine pr_ 15 37 (bz 19 65535) HT_ ?_;refine iJ (i:=16) (N:=some 38) (bz 19 131071) rfl rfl (eU HT_.out (by kernel_rfl)) (by decide) (fun K hK=>?_);refine iI Tryz.func48 (by kernel_rfl) rfl #[.slice ja (gB j5 j4).length jb,.int .i64 (j7.length:Int)] (by rfl) rfl rfl nG ?_
         with_reducible refine (bO.calls k2 _ _ (gB j5 j4) (j7.length:Int) true _ (aC_ (Kd.aX j8.out HB.out)) jc.out q9.out).mono ?_
         rintro e qg ⟨rfl,hb⟩;refine ⟨_,rfl,?_⟩;replace j3:=bbP j3 hb;replace HB:=am (aA kM hb);(try clear hb);(try clear hb2);(try clear hk);(try clear hi);refine hK.out _ _ ⟨(aG j3.out 0).trans rfl,(aG j3.out 1).trans rfl,(bcT HB.out hw52_0),(bcT HB.out hw53_0)⟩ (fun hHeld=>?_);clear hK K;refine fC (a':=?_) ?_ ?_;rotate_left;·exact ap_ (N:=38)
         refine pr_ 17 39 (bz 19 262143) HT_ ?_;refine pr_ 18 40 (bz 19 524287) HT_ ?_;refine nP (lG HT_.out (by kernel_rfl)) ?_;try go_wp2
         go_roundg k2;case measure=>have:=HJ1.out;have:=q5.out;omega
         case rel=>exact ⟨(wrap64 (j4 + 1)),sd_,H',⟨by have:=HJ1.out;have:=q5.out;omega⟩,⟨by (with_reducible repeat (first|refine dW ?_ _|refine dA ?_|refine dS ?_ _));exact j3.out⟩,⟨kM⟩⟩
        replace jA:=Bool.eq_false_iff.mpr jA;subst jA;rw [if_neg Bool.false_ne_true] at H;obtain rfl:=oI H;obtain ⟨jF,jG,jH,jI⟩:=iV j3.out;try go_wp2
        replace j3:=am (dA j3.out);replace HB:=am (bI HB.out);have jm:0≤(j4:Int):=of_decide_eq_true fK;have jn:j4 < (j5.length:Int):=of_decide_eq_true fK;obtain ⟨jd,ja,jb,jx,j6,hl52_0,hi52_0⟩:=wT ji.out j4 jm jn;have hw52_0:=j6;cases jx;replace j6:=bcT HB.out j6;have j8:=am hi52_0;have jc:=am hl52_0;clear hi52_0 hl52_0;replace jm:=eq_true jm;replace jn:=eq_true jn;have js:0≤(j4:Int):=of_decide_eq_true fK;have jt:j4 < (j5.length:Int):=of_decide_eq_true fK;obtain ⟨ju,jo,jp,q1,j9,hl53_0,hi53_0⟩:=wT ji.out j4 js jt;have hw53_0:=j9;obtain rfl:jd=ju:=(by injection q1);replace j9:=bcT HB.out j9;have jj:=am hi53_0;have jv:=am hl53_0;clear hi53_0 hl53_0;replace js:=eq_true js;replace jt:=eq_true jt;refine lQ (n:=19) (S:=fun w'=>w'.cell? ⟨jg,0,none⟩=some (.slice je j7.length jf)∧w'.cell? ⟨jg,1,none⟩=some (.slice (some jd) j5.length jh)∧w'.cell? (jd.add (j4).toNat)=some (.slice ja (gB j5 j4).length jb)∧w'.cell? (jd.add (j4).toNat)=some (.slice jo (gB j5 j4).length jp)) (ds:=[]) (bz 19 0) (by kernel_rfl) rfl rfl ⟨(aG j3.out 0).trans rfl,(aG j3.out 1).trans rfl,(bcT HB.out hw52_0),(bcT HB.out hw53_0)⟩ (fun hHeld=>?_);refine iQ aY.SS aY.ED (fun HT_ HW_=>?_);generalize wr.drew=qh at j3 HB j8 jj j6 j9 hHeld ⊢;refine pr_ 0 22 (bz 19 1) HT_ ?_;refine pr_ 2 24 (bz 19 5) HT_ ?_;refine OV 1 23 (bz 19 7) HT_ HW_ hHeld ?_;refine pr_ 3 25 (bz 19 15) HT_ ?_;refine OV 4 26 (bz 19 31) HT_ HW_ hHeld ?_;refine iJ (i:=5) (N:=some 27) (bz 19 63) rfl rfl (eU HT_.out (by kernel_rfl)) (by decide) (fun K hK=>?_);refine iI Tryz.func47 (by kernel_rfl) rfl #[.slice ja (gB j5 j4).length jb] (by rfl) rfl rfl nG ?_
        with_reducible refine (gG.calls k2 _ _ (gB j5 j4) true _ (aC_ (Kd.aX j8.out HB.out)) jc.out q0.out).mono ?_
        rintro e qi ⟨rfl,hb⟩;refine ⟨_,rfl,?_⟩;replace j3:=bbP j3 hb;replace HB:=am (aA kM hb);(try clear hb);(try clear hb2);(try clear hk);(try clear hi);refine hK.out _ _ ⟨(aG j3.out 0).trans rfl,(aG j3.out 1).trans rfl,(bcT HB.out hw52_0),(bcT HB.out hw53_0)⟩ (fun hHeld=>?_);clear hK K;refine fC (a':=?_) ?_ ?_;rotate_left;·exact ap_ (N:=27)
        refine pr_ 6 28 (bz 19 127) HT_ ?_;refine pr_ 7 29 (bz 19 255) HT_ ?_;refine pr_ 8 30 (bz 19 511) HT_ ?_;refine pr_ 10 32 (bz 19 1535) HT_ ?_;refine pr_ 13 35 (bz 19 9727) HT_ ?_;refine OV 9 31 (bz 19 10239) HT_ HW_ hHeld ?_;refine pr_ 11 33 (bz 19 12287) HT_ ?_;refine OV 12 34 (bz 19 16383) HT_ HW_ hHeld ?_;refine OV 14 36 (bz 19 32767) HT_ HW_ hHeld ?_;refine pr_ 15 37 (bz 19 65535) HT_ ?_;refine iJ (i:=16) (N:=some 38) (bz 19 131071) rfl rfl (eU HT_.out (by kernel_rfl)) (by decide) (fun K hK=>?_);refine iI Tryz.func48 (by kernel_rfl) rfl #[.slice ja (gB j5 j4).length jb,.int .i64 (j7.length:Int)] (by rfl) rfl rfl nG ?_
        with_reducible refine (bO.calls k2 _ _ (gB j5 j4) (j7.length:Int) false _ (aC_ (Kd.aX j8.out HB.out)) jc.out q9.out).mono ?_
        rintro e qj ⟨rfl,hb⟩;refine ⟨_,rfl,?_⟩;replace j3:=bbP j3 hb;replace HB:=am (aA kM hb);(try clear hb);(try clear hb2);(try clear hk);(try clear hi);refine hK.out _ _ ⟨(aG j3.out 0).trans rfl,(aG j3.out 1).trans rfl,(bcT HB.out hw52_0),(bcT HB.out hw53_0)⟩ (fun hHeld=>?_);clear hK K;refine fC (a':=?_) ?_ ?_;rotate_left;·exact ap_ (N:=38)
        refine pr_ 17 39 (bz 19 262143) HT_ ?_;refine pr_ 18 40 (bz 19 524287) HT_ ?_;refine nP (lG HT_.out (by kernel_rfl)) ?_;try go_wp2
        go_ret;exact ⟨rr_,kM⟩
       replace jz:=Bool.eq_false_iff.mpr jz;subst jz;rw [if_neg Bool.false_ne_true] at H;obtain rfl:=oI H;obtain ⟨jJ,jK,jL,jM⟩:=iV j3.out;try go_wp2
       replace j3:=am (dA j3.out);replace HB:=am (bI HB.out);have jm:0≤(j4:Int):=of_decide_eq_true fK;have jn:j4 < (j5.length:Int):=of_decide_eq_true fK;obtain ⟨jd,ja,jb,jx,j6,hl52_0,hi52_0⟩:=wT ji.out j4 jm jn;have hw52_0:=j6;cases jx;replace j6:=bcT HB.out j6;have j8:=am hi52_0;have jc:=am hl52_0;clear hi52_0 hl52_0;replace jm:=eq_true jm;replace jn:=eq_true jn;refine lQ (n:=19) (S:=fun w'=>w'.cell? ⟨jg,0,none⟩=some (.slice je j7.length jf)∧w'.cell? ⟨jg,1,none⟩=some (.slice (some jd) j5.length jh)∧w'.cell? (jd.add (j4).toNat)=some (.slice ja (gB j5 j4).length jb)) (ds:=[]) (bz 19 0) (by kernel_rfl) rfl rfl ⟨(aG j3.out 0).trans rfl,(aG j3.out 1).trans rfl,(bcT HB.out hw52_0)⟩ (fun hHeld=>?_);refine iQ aY.SS aY.ED (fun HT_ HW_=>?_);generalize wr.drew=qk at j3 HB j8 j6 hHeld ⊢;refine pr_ 0 22 (bz 19 1) HT_ ?_;refine pr_ 2 24 (bz 19 5) HT_ ?_;refine aIm 1 23 (bz 19 7) HT_ HW_ hHeld ?_;refine pr_ 3 25 (bz 19 15) HT_ ?_;refine aIm 4 26 (bz 19 31) HT_ HW_ hHeld ?_;refine iJ (i:=5) (N:=some 27) (bz 19 63) rfl rfl (eU HT_.out (by kernel_rfl)) (by decide) (fun K hK=>?_);refine iI Tryz.func47 (by kernel_rfl) rfl #[.slice ja (gB j5 j4).length jb] (by rfl) rfl rfl nG ?_
       with_reducible refine (gG.calls k2 _ _ (gB j5 j4) false _ (aC_ (Kd.aX j8.out HB.out)) jc.out q0.out).mono ?_
       rintro e ql ⟨rfl,hb⟩;refine ⟨_,rfl,?_⟩;replace j3:=bbP j3 hb;replace HB:=am (aA kM hb);(try clear hb);(try clear hb2);(try clear hk);(try clear hi);refine hK.out _ _ ⟨(aG j3.out 0).trans rfl,(aG j3.out 1).trans rfl,(bcT HB.out hw52_0)⟩ (fun hHeld=>?_);clear hK K;refine fC (a':=?_) ?_ ?_;rotate_left;·exact ap_ (N:=27)
       refine pr_ 6 28 (bz 19 127) HT_ ?_;refine pr_ 7 29 (bz 19 255) HT_ ?_;refine pu_ 8 30 (bz 19 511) HT_ ?_;refine pu_ 9 31 (bz 19 1023) HT_ ?_;refine pu_ 10 32 (bz 19 2047) HT_ ?_;refine pu_ 11 33 (bz 19 4095) HT_ ?_;refine pu_ 12 34 (bz 19 8191) HT_ ?_;refine pu_ 13 35 (bz 19 16383) HT_ ?_;refine pu_ 14 36 (bz 19 32767) HT_ ?_;refine pu_ 15 37 (bz 19 65535) HT_ ?_;refine pu_ 16 38 (bz 19 131071) HT_ ?_;refine pu_ 17 39 (bz 19 262143) HT_ ?_;refine pr_ 18 40 (bz 19 524287) HT_ ?_;refine nP (lG HT_.out (by kernel_rfl)) ?_;try go_wp2
       go_ret;exact ⟨rr_,kM⟩
      rw [if_neg jy] at H;cases H
     rw [if_neg c10] at H;have jw:decide (j4 < (j5.length:Int))=false:=dF c10;clear c10;obtain rfl:=oI H;obtain ⟨jN,jO,jP,jQ⟩:=iV j3.out;go_wp2;go_ret;exact ⟨rr_,kM⟩
theorem eB.mono_l:∀ k,(∀ y0,LeO (eB.f k y0) (eB.f (k + 1) y0))
 |0=>fun _ r h=>by simp [eB.f] at h
 |k + 1=>by
  have ih0:=eB.mono_l k
  ·intro y0;unfold eB.f;exact mo_
theorem eB.mono:∀ a0 k,LeO (eB.f k a0) (eB.f (k + 1) a0):=by
 intro a0 k;have ih0:=eB.mono_l k;exact ih0 a0
def eB.T7:Bool × List (List Nat × List Nat):=(true,[([],[]),([0],[0]),([1],[1]),([],[]),([3],[3]),([4],[4]),([5],[5]),([6],[6]),([7],[7]),([2,8],[2,8]),([9,2,0,1,2,3,4,5,6,7,8,9],[9])])
def eB.B7:List Nat:=[0,1,3,0,8,24,56,120,248,511,1023]
theorem eB.aKi:mH .any (opsOf Tryz.f24 7)=eB.T7:=by kernel_rfl
theorem eB.aFk:iY eB.T7.2 eB.B7=true:=by kernel_rfl
theorem eB.calls (k:Nat):∀ (a0:Int) (r:ByteArray) (w:World) (h:eB.f k a0=some r),
  Calls Tryz.prog 24 #[.int .i64 a0] w fun e w'=>e= .returned (.string r)∧Below w.heap.size w w':=by
 induction k using Nat.strongRecOn with
 | _ k ih=>
 intro a0 r w h;cases k with
 |zero=>exact absurd h (by simp [eB.f])
 |succ k=>
 simp only [eB.f] at h;have HB:=am (Below.refl w.heap.size w);have H:=h;clear h;by_cases c2:a0 < (-9223372036854775807)
 ·rw [if_pos c2] at H;have jb:decide (a0 < (-9223372036854775807))=true:=dT c2;clear c2;obtain rfl:=oI H;go_enter Tryz.func24,Tryz.ntmps24;go_wp2;go_ret;exact ⟨rr_,eG⟩
 rw [if_neg c2] at H;have jb:decide (a0 < (-9223372036854775807))=false:=dF c2;clear c2;by_cases c3:a0 < 0
 ·rw [if_pos c3] at H;have jc:decide (a0 < 0)=true:=dT c3;clear c3;obtain ⟨ja,A4,H⟩:=bsa H;(try dsimp only at H);by_cases c5:1 + ja.size≤9223372036854775807
  ·rw [if_pos c5] at H;have jl:=eq_true c5;have jm:decide (1 + ja.size≤9223372036854775807)=true:=dT c5;try have jn:(9223372036854775807 < 1 + ja.size)=False:=eq_false (Nat.not_lt.2 c5)
   obtain rfl:=oI H;go_enter Tryz.func24,Tryz.ntmps24;go_wp2_with (first|((with_reducible refine gC 24 rfl ?_);refine gl_ 9 Tryz.func24 #[.int .i64 (wrap64 (-a0))] ?_;(with_reducible refine (ih k (by omega) (wrap64 (-a0)) ja _ A4.out).mono ?_);rintro e w6 ⟨rfl,hb⟩;refine ⟨_,rfl,?_⟩;replace HB:=am (aA eG hb);(try clear hb)));go_ret;exact ⟨rr_,eG⟩
  rw [if_neg c5] at H;cases H
 rw [if_neg c3] at H;have jc:decide (a0 < 0)=false:=dF c3;clear c3;by_cases c7:a0 < 10
 ·rw [if_pos c7] at H;have jd:decide (a0 < 10)=true:=dT c7;clear c7;obtain ⟨jo,hy_⟩:∃ y_:List Int,y_=(([(wrap64 (48 + a0)) % 256]:List Int)):=⟨_,rfl⟩;replace H:(some (strOfNums jo))=some r:=rx_;have j8:=am hy_;clear hy_;obtain rfl:=oI H;go_enter Tryz.func24,Tryz.ntmps24;go_wp2_with (first|((with_reducible refine gD 16 rfl ?_);refine Kd.oL (Kd.int .u8) _ 5 rfl (N:=16) rfl (xs:=([(wrap64 (48 + a0)) % 256]:List Int)) (inner:=[.int .u8 ((wrap64 (48 + a0)) % 256)]) (ok:=fun _=>True) (okp:=fun _=>True) rn_ ?hp (fun _ hk=>hk) trivial (Below.refl _ _) (Nat.le_refl _) (by simp) ?_;(case hp=>exact (dF.one (show Kd.M (Kd.int .u8) _ _ _ ((wrap64 (48 + a0)) % 256) [.int .u8 ((wrap64 (48 + a0)) % 256)] from rfl) (dF.none _ _)));intro jq w8 ho9 hb hg_ hnew_;clear hg_ hnew_;(first|rw [← j8.out] at ho9|(simp only [Int.reduceToNat] at ho9;rw [← j8.out] at ho9));have je:=am (Kd.fB ho9 (aI eG));replace HB:=am (aA eG hb);clear hb ho9;have hcv10:=vO (P:=Tryz.prog) Tryz.underlying22 Tryz.underlying5 Tryz.underlying9 (Kd.yU je.out)));go_ret;exact ⟨rr_,eG⟩
 rw [if_neg c7] at H;have jd:decide (a0 < 10)=false:=dF c7;clear c7;obtain ⟨j4,jg,H⟩:=bsm H;(try dsimp only at H);have jf:=am jg;clear jg;obtain ⟨j6,hy_⟩:∃ y_:List Int,y_=(([(wrap64 (48 + (Int.tmod a0 10))) % 256]:List Int)):=⟨_,rfl⟩;replace H:(if j4.size + (strOfNums j6).size≤9223372036854775807 then (some (j4 ++ (strOfNums j6))) else (none))=some r:=rx_;have j5:=am hy_;clear hy_;by_cases j9:j4.size + (strOfNums j6).size≤9223372036854775807
 ·rw [if_pos j9] at H;have jh:=eq_true j9;have ji:decide (j4.size + (strOfNums j6).size≤9223372036854775807)=true:=dT j9;try have jj:(9223372036854775807 < j4.size + (strOfNums j6).size)=False:=eq_false (Nat.not_lt.2 j9)
  obtain rfl:=oI H;go_enter Tryz.func24,Tryz.ntmps24;try go_wp2
  replace HB:=am (bI HB.out);refine lQ (n:=11) (S:=fun w'=>True) (ds:=[]) (bz 11 0) (by kernel_rfl) rfl rfl trivial (fun hHeld=>?_);refine iQ eB.aKi eB.aFk (fun HT_ HW_=>?_);generalize w.drew=jr at HB hHeld ⊢;refine pr_ 0 18 (bz 11 1) HT_ ?_;refine pr_ 1 19 (bz 11 3) HT_ ?_;refine pr_ 3 21 (bz 11 11) HT_ ?_;refine pr_ 4 22 (bz 11 27) HT_ ?_;refine pr_ 5 23 (bz 11 59) HT_ ?_;refine pr_ 6 24 (bz 11 123) HT_ ?_;refine aIr (σ:=Value) 2 (bz 11 511) (fun s_=>[(20,.string j4),(25,s_),(26,.string (strOfNums j6))]) (fun s_ w'=>(Kd.R (Kd.int .u8) 5 w' w.heap.size (fun _=>True) s_ j6)∧(Below w.heap.size w w')) ?_ ?_;rotate_left
  ·intro hCont;refine aKk (i:=2) (j:=7) (Ni:=some 20) (Nj:=some 25) (bz 11 127) (bz 11 251) rfl rfl rfl rfl (GQ HT_.out (by kernel_rfl)) (by decide) (by decide) (fun K hK=>?_) (fun K hK=>?_)
   ·skip
    refine iI Tryz.func24 (by kernel_rfl) rfl #[.int .i64 (wrap64 (Int.tdiv a0 10))] (by rfl) rfl rfl nG ?_
    with_reducible refine (ih k (by omega) (wrap64 (Int.tdiv a0 10)) j4 _ jf.out).mono ?_
    rintro e jp ⟨rfl,hb⟩;refine ⟨_,rfl,?_⟩;replace HB:=am (aA eG hb);(try clear hb);(try clear hb2);(try clear hk);(try clear hi);refine hK.out _ _ trivial (fun hHeld=>?_);clear hK K;refine fC (a':=?_) ?_ ?_;rotate_left;·exact ap_ (N:=20)
    refine iJ (i:=7) (N:=some 25) (bz 11 255) rfl rfl (eU HT_.out (by kernel_rfl)) (by decide) (fun K hK=>?_);refine Kd.nE (Kd.int .u8) _ 5 rfl (N:=25) rfl (xs:=([(wrap64 (48 + (Int.tmod a0 10))) % 256]:List Int)) (inner:=[.int .u8 ((wrap64 (48 + (Int.tmod a0 10))) % 256)]) (ok:=fun _=>True) (okp:=fun _=>True) rn_ ?hp (fun _ hk=>hk) trivial (Below.refl _ _) (Nat.le_refl _) (by simp) ?_;(case hp=>exact (dF.one (show Kd.M (Kd.int .u8) _ _ _ ((wrap64 (48 + (Int.tmod a0 10))) % 256) [.int .u8 ((wrap64 (48 + (Int.tmod a0 10))) % 256)] from rfl) (dF.none _ _)));intro j7 js ho16 hb hg_ hnew_;clear hg_ hnew_
    (first|rw [← j5.out] at ho16|(simp only [Int.reduceToNat] at ho16;rw [← j5.out] at ho16))
    have j3:=am (Kd.fB ho16 (aI eG));replace HB:=am (aA eG hb);clear hb ho16;refine hK.out _ _ trivial (fun hHeld=>?_);clear hK K;refine fC (a':=?_) ?_ ?_;rotate_left;·exact ap_ (N:=25)
    refine iJ (i:=8) (N:=some 26) (bz 11 511) rfl rfl (eU HT_.out (by kernel_rfl)) (by decide) (fun K hK=>?_);have hcv17:=vO (P:=Tryz.prog) Tryz.underlying22 Tryz.underlying5 Tryz.underlying9 (Kd.yU j3.out);refine sU (w1:=?_) (v:=?_) (by rfl) rfl ?_ ?_;rotate_left 2
    ·go_simp;constructor;·rfl
     ·rfl
    clear hcv17;refine hK.out _ _ trivial (fun hHeld=>?_);clear hK K;refine fC (a':=?_) ?_ ?_;rotate_left;·exact ap_ (N:=26)
    exact fC (by simp only [wQ,Act.put,sA,sB,sC]) (hCont (j7) _ ⟨(aR_ j3.out),eG⟩)
   ·skip
    refine Kd.nE (Kd.int .u8) _ 5 rfl (N:=25) rfl (xs:=([(wrap64 (48 + (Int.tmod a0 10))) % 256]:List Int)) (inner:=[.int .u8 ((wrap64 (48 + (Int.tmod a0 10))) % 256)]) (ok:=fun _=>True) (okp:=fun _=>True) rn_ ?hp (fun _ hk=>hk) trivial (Below.refl _ _) (Nat.le_refl _) (by simp) ?_;(case hp=>exact (dF.one (show Kd.M (Kd.int .u8) _ _ _ ((wrap64 (48 + (Int.tmod a0 10))) % 256) [.int .u8 ((wrap64 (48 + (Int.tmod a0 10))) % 256)] from rfl) (dF.none _ _)));intro j7 jp ho15 hb hg_ hnew_;clear hg_ hnew_
    (first|rw [← j5.out] at ho15|(simp only [Int.reduceToNat] at ho15;rw [← j5.out] at ho15))
    have j3:=am (Kd.fB ho15 (aI eG));replace HB:=am (aA eG hb);clear hb ho15;refine hK.out _ _ trivial (fun hHeld=>?_);clear hK K;refine fC (a':=?_) ?_ ?_;rotate_left;·exact ap_ (N:=25)
    refine aKk (i:=2) (j:=8) (Ni:=some 20) (Nj:=some 26) (bz 11 255) (bz 11 507) rfl rfl rfl rfl (GQ HT_.out (by kernel_rfl)) (by decide) (by decide) (fun K hK=>?_) (fun K hK=>?_)
    ·skip
     refine iI Tryz.func24 (by kernel_rfl) rfl #[.int .i64 (wrap64 (Int.tdiv a0 10))] (by rfl) rfl rfl nG ?_
     with_reducible refine (ih k (by omega) (wrap64 (Int.tdiv a0 10)) j4 _ jf.out).mono ?_
     rintro e jt ⟨rfl,hb⟩;refine ⟨_,rfl,?_⟩;replace j3:=am (Kd.fT (aR_ j3.out) hb);replace HB:=am (aA eG hb);(try clear hb);(try clear hb2);(try clear hk);(try clear hi);refine hK.out _ _ trivial (fun hHeld=>?_);clear hK K;refine fC (a':=?_) ?_ ?_;rotate_left;·exact ap_ (N:=20)
     refine iJ (i:=8) (N:=some 26) (bz 11 511) rfl rfl (eU HT_.out (by kernel_rfl)) (by decide) (fun K hK=>?_);have hcv17:=vO (P:=Tryz.prog) Tryz.underlying22 Tryz.underlying5 Tryz.underlying9 (Kd.yU j3.out);refine sU (w1:=?_) (v:=?_) (by rfl) rfl ?_ ?_;rotate_left 2
     ·go_simp;constructor;·rfl
      ·rfl
     clear hcv17;refine hK.out _ _ trivial (fun hHeld=>?_);clear hK K;refine fC (a':=?_) ?_ ?_;rotate_left;·exact ap_ (N:=26)
     exact fC (by simp only [wQ,Act.put,sA,sB,sC]) (hCont (j7) _ ⟨(aR_ j3.out),eG⟩)
    ·skip
     have hcv16:=vO (P:=Tryz.prog) Tryz.underlying22 Tryz.underlying5 Tryz.underlying9 (Kd.yU j3.out);refine sU (w1:=?_) (v:=?_) (by rfl) rfl ?_ ?_;rotate_left 2
     ·go_simp;constructor;·rfl
      ·rfl
     clear hcv16;refine hK.out _ _ trivial (fun hHeld=>?_);clear hK K;refine fC (a':=?_) ?_ ?_;rotate_left;·exact ap_ (N:=26)
     refine iJ (i:=2) (N:=some 20) (bz 11 511) rfl rfl (eU HT_.out (by kernel_rfl)) (by decide) (fun K hK=>?_);refine iI Tryz.func24 (by kernel_rfl) rfl #[.int .i64 (wrap64 (Int.tdiv a0 10))] (by rfl) rfl rfl nG ?_
     with_reducible refine (ih k (by omega) (wrap64 (Int.tdiv a0 10)) j4 _ jf.out).mono ?_
     rintro e ju ⟨rfl,hb⟩;refine ⟨_,rfl,?_⟩;replace j3:=am (Kd.fT (aR_ j3.out) hb);replace HB:=am (aA eG hb);(try clear hb);(try clear hb2);(try clear hk);(try clear hi);refine hK.out _ _ trivial (fun hHeld=>?_);clear hK K;refine fC (a':=?_) ?_ ?_;rotate_left;·exact ap_ (N:=20)
     exact fC (by simp only [wQ,Act.put,sA,sB,sC]) (hCont (j7) _ ⟨(aR_ j3.out),eG⟩)
  rintro j7 jk ⟨h0_,h1_⟩;have j3:Aside0 (Kd.R (Kd.int .u8) 5 jk w.heap.size (fun _=>True) j7 j6):=⟨h0_⟩;replace HB:Aside0 (Below w.heap.size w jk):=⟨h1_⟩;clear h0_ h1_;have hHeld:=trivial;refine fC (a':=?_) ?_ ?_;rotate_left
  ·simp only [wQ,Act.put,sA,sB,sC];rfl
  refine pr_ 9 27 (bz 11 1023) HT_ ?_;refine pr_ 10 2 (bz 11 2047) HT_ ?_;refine nP (lG HT_.out (by kernel_rfl)) ?_;try go_wp2
  go_ret;exact ⟨rr_,eG⟩
 rw [if_neg j9] at H;cases H
theorem mZ.calls (a0:Int) (r:ByteArray) (w:World) (h:mZ.f a0=some r):
  Calls Tryz.prog 73 #[.int .i64 a0] w fun e w'=>e= .returned (.string r)∧Below w.heap.size w w':=by
 have HB:=am (Below.refl w.heap.size w);have H:(some (strOfNums (([(wrap64 (97 + a0)) % 256]:List Int))))=some r:=h;clear h;obtain ⟨j5,hy_⟩:∃ y_:List Int,y_=(([(wrap64 (97 + a0)) % 256]:List Int)):=⟨_,rfl⟩;replace H:(some (strOfNums j5))=some r:=rx_;have j3:=am hy_;clear hy_;obtain rfl:=oI H;go_enter Tryz.func73,Tryz.ntmps73;go_wp2_with (first|((with_reducible refine gD 6 rfl ?_);refine Kd.oL (Kd.int .u8) _ 5 rfl (N:=6) rfl (xs:=([(wrap64 (97 + a0)) % 256]:List Int)) (inner:=[.int .u8 ((wrap64 (97 + a0)) % 256)]) (ok:=fun _=>True) (okp:=fun _=>True) rn_ ?hp (fun _ hk=>hk) trivial (Below.refl _ _) (Nat.le_refl _) (by simp) ?_;(case hp=>exact (dF.one (show Kd.M (Kd.int .u8) _ _ _ ((wrap64 (97 + a0)) % 256) [.int .u8 ((wrap64 (97 + a0)) % 256)] from rfl) (dF.none _ _)));intro j6 w2 ho3 hb hg_ hnew_;clear hg_ hnew_;(first|rw [← j3.out] at ho3|(simp only [Int.reduceToNat] at ho3;rw [← j3.out] at ho3));have j4:=am (Kd.fB ho3 (aI eG));replace HB:=am (aA eG hb);clear hb ho3;have hcv4:=vO (P:=Tryz.prog) Tryz.underlying22 Tryz.underlying5 Tryz.underlying9 (Kd.yU j4.out)));go_ret;exact ⟨rr_,eG⟩
theorem mD.calls (a0:Int) (r:Int) (w:World) (h:mD.f a0=some r):
  Calls Tryz.prog 94 #[.int .i64 a0] w fun e w'=>e= .returned (.int .i64 r)∧Below w.heap.size w w':=by
 have HB:=am (Below.refl w.heap.size w);unfold mD.f at h;have H:=h;clear h;obtain ⟨j9,A2,H⟩:=bsa H;(try dsimp only at H);by_cases c3:j9=true
 ·subst c3;rw [if_pos rfl] at H;obtain ⟨j3,hy_⟩:∃ y_:List Int,y_=(([1,2,3,4,5,6,6,7,7,8,8,8]:List Int)):=⟨_,rfl⟩;replace H:(if 0≤(wrap64 (a0 - 1)) then (if (wrap64 (a0 - 1)) < (j3.length:Int) then (some (rd j3 (wrap64 (a0 - 1)))) else (none)) else (none))=some r:=rx_;have j4:=am hy_;clear hy_;obtain ⟨ji4,hji4⟩:∃ j_:Int,(wrap64 (a0 - 1))=j_:=⟨_,rfl⟩;replace H:(if 0≤(ji4) then (if (ji4) < (j3.length:Int) then (some (rd j3 (ji4))) else (none)) else (none))=some r:=by first|(rw [hji4] at H;exact H)|(simp only [hji4] at H ⊢;exact H)
  (try rw [hji4] at A2);have hji4w:(IntKind.i64.wrap (a0 - 1))=ji4:=(fA _).trans hji4;by_cases c5:0≤(ji4)
  ·rw [if_pos c5] at H;have ja:decide (0≤(ji4))=true:=dT c5;clear c5;by_cases c6:(ji4) < (j3.length:Int)
   ·rw [if_pos c6] at H;have jb:decide ((ji4) < (j3.length:Int))=true:=dT c6;clear c6;obtain rfl:=oI H;go_enter Tryz.func94,Tryz.ntmps94;go_wp2_with (first|((with_reducible refine gC 122 rfl ?_);refine gl_ 4 Tryz.func122 #[.int .i64 a0] ?_;(with_reducible refine (iL.calls a0 true _ A2.out).mono ?_);rintro e w' ⟨rfl,⟨nd,rfl⟩⟩;refine ⟨_,rfl,?_⟩)|((with_reducible refine gD 6 rfl ?_);refine Kd.oL (Kd.int .i64) _ 3 rfl (N:=6) rfl (xs:=([1,2,3,4,5,6,6,7,7,8,8,8]:List Int)) (inner:=[.int .i64 1,.int .i64 2,.int .i64 3,.int .i64 4,.int .i64 5,.int .i64 6,.int .i64 6,.int .i64 7,.int .i64 7,.int .i64 8,.int .i64 8,.int .i64 8]) (ok:=fun _=>True) (okp:=fun _=>True) rn_ ?hp (fun _ hk=>hk) trivial (Below.refl _ _) (Nat.le_refl _) (by simp) ?_;(case hp=>exact (dF.one (show Kd.M (Kd.int .i64) _ _ _ 1 [.int .i64 1] from rfl) (dF.one (show Kd.M (Kd.int .i64) _ _ _ 2 [.int .i64 2] from rfl) (dF.one (show Kd.M (Kd.int .i64) _ _ _ 3 [.int .i64 3] from rfl) (dF.one (show Kd.M (Kd.int .i64) _ _ _ 4 [.int .i64 4] from rfl) (dF.one (show Kd.M (Kd.int .i64) _ _ _ 5 [.int .i64 5] from rfl) (dF.one (show Kd.M (Kd.int .i64) _ _ _ 6 [.int .i64 6] from rfl) (dF.one (show Kd.M (Kd.int .i64) _ _ _ 6 [.int .i64 6] from rfl) (dF.one (show Kd.M (Kd.int .i64) _ _ _ 7 [.int .i64 7] from rfl) (dF.one (show Kd.M (Kd.int .i64) _ _ _ 7 [.int .i64 7] from rfl) (dF.one (show Kd.M (Kd.int .i64) _ _ _ 8 [.int .i64 8] from rfl) (dF.one (show Kd.M (Kd.int .i64) _ _ _ 8 [.int .i64 8] from rfl) (dF.one (show Kd.M (Kd.int .i64) _ _ _ 8 [.int .i64 8] from rfl) (dF.none _ _))))))))))))));intro jf w7 ho8 hb hg_ hnew_;clear hg_ hnew_;(first|rw [← j4.out] at ho8|(simp only [Int.reduceToNat] at ho8;rw [← j4.out] at ho8));have j5:=am (Kd.fB ho8 (aI eG));replace HB:=am (aA eG hb);clear hb ho8;obtain ⟨jg,jh,jc⟩:=Kd.eY j5.out;subst jc;have j6:0≤((ji4):Int):=of_decide_eq_true fK;have j7:(ji4) < (j3.length:Int):=of_decide_eq_true fK;obtain ⟨jd,je,j8⟩:=Kd.oW (Kd.eX j5.out).2.2 (ji4) j6 j7;cases je;replace j6:=eq_true j6;replace j7:=eq_true j7));go_ret;exact ⟨by first|rfl|(simp [lM,lN] <;> rfl)|(simp only [← hji4];first|rfl|(simp [lM,lN] <;> rfl))|(simp [*,lM,lN] <;> rfl),eG⟩
   rw [if_neg c6] at H;cases H
  rw [if_neg c5] at H;cases H
 replace c3:=Bool.eq_false_iff.mpr c3;subst c3;rw [if_neg Bool.false_ne_true] at H;obtain rfl:=oI H;go_enter Tryz.func94,Tryz.ntmps94;go_wp2_with (first|((with_reducible refine gC 122 rfl ?_);refine gl_ 4 Tryz.func122 #[.int .i64 a0] ?_;(with_reducible refine (iL.calls a0 false _ A2.out).mono ?_);rintro e w' ⟨rfl,⟨nd,rfl⟩⟩;refine ⟨_,rfl,?_⟩));go_ret;exact ⟨rr_,eG⟩
theorem nA.calls (P0_:Nat→Prop) (j5:Value) (l0:List ByteArray) (a1:Bool) (r:List ByteArray) (w0 w:World) (hB:Below w0.heap.size w0 w) (ho0:Kd.R Kd.string 9 w w0.heap.size P0_ j5 l0) (h:nA.f l0 a1=some r):
  Calls Tryz.prog 95 #[j5,.bool a1] w fun e w'=>∃ v0_:Value,e= .returned (v0_)∧Kd.R Kd.string 9 w' w0.heap.size (fun k_=>(P0_ k_∨w.heap.size≤k_)) v0_ r∧Below w0.heap.size w0 w'∧Kept w w' (fun k_=>P0_ k_):=by
 have j3:=am (show Kd.R Kd.string 9 w w0.heap.size (fun k_=>(P0_ k_∨w.heap.size≤k_)) j5 l0 from Kd.bN ho0 (fun k_ hk=>(.inl hk)));have HK:=am (Kept.refl w (fun k_=>P0_ k_));have HW0:=am hB.size;have HB:=am hB;clear hB;unfold nA.f at h;have H:=h;clear h;by_cases c3:a1=true
 ·subst c3;rw [if_pos rfl] at H;obtain ⟨j8,hy_⟩:∃ y_:List ByteArray,y_=(([(⟨#[40]⟩:ByteArray)]:List ByteArray)):=⟨_,rfl⟩;replace H:(if j8.length + l0.length < 8796093022208 then ((some (j8 ++ l0:List ByteArray)).bind fun j4=>(if j4.length < 8796093022208 then (some (j4 ++ [(⟨#[41]⟩:ByteArray)])) else (none))) else (none))=some r:=rx_;have j9:=am hy_;clear hy_;by_cases c4:j8.length + l0.length < 8796093022208
  ·rw [if_pos c4] at H;have ja:=am c4;clear c4;obtain ⟨j4,hy_⟩:∃ y_:List ByteArray,y_=(j8 ++ l0):=⟨_,rfl⟩;replace H:(if j4.length < 8796093022208 then (some (j4 ++ [(⟨#[41]⟩:ByteArray)])) else (none))=some r:=rx_;have jb:=am hy_;clear hy_;by_cases c5:j4.length < 8796093022208
   ·rw [if_pos c5] at H;have jc:=am c5;clear c5;obtain ⟨jh,hy_⟩:∃ y_:List ByteArray,y_=(j4 ++ [(⟨#[41]⟩:ByteArray)]):=⟨_,rfl⟩;replace H:(some jh)=some r:=rx_;have jd:=am hy_;clear hy_;obtain rfl:=oI H;go_enter Tryz.func95,Tryz.ntmps95;go_wp2_with (first|((with_reducible refine gD 9 rfl ?_);refine Kd.oL Kd.string _ 9 rfl (N:=9) rfl (xs:=([(⟨#[40]⟩:ByteArray)]:List ByteArray)) (inner:=[.string (⟨#[40]⟩:ByteArray)]) (ok:=fun _=>True) (okp:=fun _=>True) rn_ ?hp (fun _ hk=>hk) trivial (Below.refl _ _) (Nat.le_refl _) (by simp) ?_;(case hp=>exact (dF.one (show Kd.M Kd.string _ _ _ (⟨#[40]⟩:ByteArray) [.string (⟨#[40]⟩:ByteArray)] from rfl) (dF.none _ _)));intro ji w6 ho7 hb hg_ hnew_;clear hg_ hnew_;(first|rw [← j9.out] at ho7|(simp only [Int.reduceToNat] at ho7;rw [← j9.out] at ho7));have j6:=am (Kd.fB (Kd.lF (Kd.vG (M:=fun k_=>(P0_ k_∨w.heap.size≤k_)) ho7 (by first|exact HK.out.1|exact (show Kept w _ (fun k_=>P0_ k_) from nO).1) (fun k_ h_=>.inr h_)) (Kd.iG (aR_ j3.out))) (aI eG));replace j3:=am (Kd.iD (aR_ j3.out) (Kd.iN ho7) hb);replace HK:=am (Kept.below (S:=(fun k_=>P0_ k_)) nO hb);replace HB:=am (aA eG hb);clear hb ho7;obtain ⟨jf,jg,jj⟩:=Kd.eY j3.out;subst jj)|((with_reducible refine dV (b:=.append) (xs:=#[.tmp 9,.tmp 10]) rfl ?_);at_builtin;refine Kd.gY Kd.string (w0:=w0) w0.heap.size rfl (.tmp 9) (.tmp 10) 29 9 (.string ⟨#[]⟩) 16 rfl Tryz.underlying29 kU rfl (by decide) (by omega) ji j8 l0 _ _ _ (fun k_=>(P0_ k_∨w.heap.size≤k_)∧some k_≠(.slice jf l0.length jg:Value).ownBlock) (fun _=>False) rfl rfl ?aO ?aR (fun _ _ h=>h) (fun _ h=>h.elim) ?aF ?aB ?aS ?aL ?_;(case aR=>repeat (first|exact (Kd.eX j3.out).2.2|(with_reducible refine Kd.lS ?_ _)|(with_reducible refine Kd.kZ ?_ _)|(with_reducible refine Kd.mP ?_)));(case aB=>exact eG);(case aF=>exact (fun k_ hk=>⟨(.inr (Nat.le_trans (by first|exact HK.out.1|exact (show Kept w _ (fun k_=>P0_ k_) from nO).1) hk)),Kd.fresh' (Kd.iG (aR_ j3.out)) k_ hk⟩));(case aO=>exact (gI (Kd.bN j6.out (fun _ hk=>⟨hk.1.1,hk.2⟩))));(case aS=>exact (aI eG));(case aL=>have:=ja.out;omega);intro jk w8 ho hb hg hat;rw [← jb.out] at ho;replace j3:=am (Kd.iX (ok:=(fun k_=>(P0_ k_∨w.heap.size≤k_))) (aR_ j3.out) hg hat);replace HB:=am (hb);replace HK:=am (Kept.gF (S:=(fun k_=>P0_ k_)) hg nO (fun k_ e_=>(j6.out.1 k_ e_).1.1));have j7:=am (ho);clear j6 ho hb hg hat)|((with_reducible refine dV (b:=.append) (xs:=#[.tmp 12,.tmp 13]) rfl ?_);at_builtin;refine Kd.kQ Kd.string (w0:=w0) w0.heap.size rfl (.tmp 12) (.tmp 13) 29 9 (.string ⟨#[]⟩) 16 rfl Tryz.underlying29 kU rfl (by decide) (by omega) jk j4 (⟨#[41]⟩:ByteArray) [.string (⟨#[41]⟩:ByteArray)] (fun k_=>(P0_ k_∨w.heap.size≤k_)∧some k_≠(.slice jf l0.length jg:Value).ownBlock) (fun _=>False) rfl rfl ?aP (fun _ hk=>hk.elim) ?aF ?aO ?aB ?aS ?aL ?_;(case aP=>exact rfl);(case aB=>exact eG);(case aF=>exact (fun k_ hk=>⟨(.inr (Nat.le_trans (by first|exact HK.out.1|exact (show Kept w _ (fun k_=>P0_ k_) from nO).1) hk)),Kd.fresh' (Kd.iG (aR_ j3.out)) k_ hk⟩));(case aO=>exact (aR_ j7.out));(case aS=>exact (aI eG));(case aL=>have:=jc.out;omega);intro jl jm ho hb hg hat;rw [← jd.out] at ho;replace j3:=am (Kd.iX (ok:=(fun k_=>(P0_ k_∨w.heap.size≤k_))) (aR_ j3.out) hg hat);replace HB:=am (hb);replace HK:=am (Kept.gF (S:=(fun k_=>P0_ k_)) hg nO (fun k_ e_=>(j7.out.1 k_ e_).1));have je:=am (ho);clear j7 ho hb hg hat));go_ret;exact ⟨_,gU,gI (Kd.bN je.out (fun _ hk=>hk.1)),eG,nO⟩
   rw [if_neg c5] at H;cases H
  rw [if_neg c4] at H;cases H
 replace c3:=Bool.eq_false_iff.mpr c3;subst c3;rw [if_neg Bool.false_ne_true] at H;obtain rfl:=oI H;go_enter Tryz.func95,Tryz.ntmps95;go_wp2;go_ret;exact ⟨_,gU,gI j3.out,eG,nO⟩
theorem mW.calls (j4:Int) (j5:Int) (j6:Option Addr) (j7:Nat) (j3:List (S56)) (r:Int) (w:World) (hr0_2:Kd.C k56 w j6 j3.length j3) (hc0_2:j3.length≤j7) (h:mW.f j4 j5 j3=some r):
  Calls Tryz.prog 96 #[.agg #[.int .i64 j4,.int .i64 j5,.slice j6 j3.length j7]] w fun e w'=>e= .returned (.int .i64 r)∧Below w.heap.size w w':=by
 have hu56:=Tryz.underlying56;have jj:=am hr0_2;have jk:=am hc0_2;clear hr0_2 hc0_2;have HB:=am (Below.refl w.heap.size w);have H:(if (j3.length:Int)=0 then (some 9) else ((mD.f j4).bind fun ja=>(some ja)))=some r:=h;clear h;have HH_:=am H;clear H;go_enter Tryz.func96,Tryz.ntmps96;go_upto_region 1 with (first|((with_reducible refine gD 1 rfl ?_);refine dU rfl (N:=1) rfl (cs:=#[.int .i64 j4,.int .i64 j5,.slice j6 j3.length j7]) (t:=56) rn_ ?_;intro j9 hg w3 hbox hb;have j8:=am (hbox);have jl:=am ((by rw [hg];exact (aI eG):w.heap.size≤j9));have GE21:=am ((by rw [hg];exact (aI eG):w.heap.size≤j9));replace HB:=am (aA eG hb);clear hb hbox hg;obtain ⟨jb,jc,jd,je,jf,jg⟩:=mE j8.out));have H:=HH_.out;clear HH_;by_cases c2:(j3.length:Int)=0
 ·rw [if_pos c2] at H;have jh:((j3.length:Int) == 0)=true:=beq_iff_eq.mpr c2;have ji:((j3.length:Int) != 0)=false:=bF c2;clear c2;obtain rfl:=oI H;go_wp2;go_ret;exact ⟨rr_,wE⟩
 rw [if_neg c2] at H;have jh:((j3.length:Int) == 0)=false:=bE c2;have ji:((j3.length:Int) != 0)=true:=bne_iff_ne.mpr c2;have jm:¬ (j3=[]):=fun h_=>c2 (by rw [h_];rfl)
 obtain ⟨ja,A5,H⟩:=bsa H;(try dsimp only at H);obtain rfl:=oI H;go_wp2_with (first|((with_reducible refine gC 94 rfl ?_);refine gl_ 9 Tryz.func94 #[.int .i64 j4] ?_;(with_reducible refine (mD.calls j4 ja _ A5.out).mono ?_);rintro e w8 ⟨rfl,hb⟩;refine ⟨_,rfl,?_⟩;replace j8:=bbP j8 hb;replace HB:=am (aA wE hb);(try clear hb)));go_ret;exact ⟨rr_,wE⟩
theorem rY.calls (a0:Int) (r:ByteArray) (w:World) (h:rY.f a0=some r):
  Calls Tryz.prog 97 #[.int .i64 a0] w fun e w'=>e= .returned (.string r)∧Below w.heap.size w w':=by
 have HB:=am (Below.refl w.heap.size w);unfold rY.f at h;have H:=h;clear h;obtain ⟨j9,A2,H⟩:=bsa H;(try dsimp only at H);by_cases c3:j9=true
 ·subst c3;rw [if_pos rfl] at H;obtain ⟨j3,hy_⟩:∃ y_:List ByteArray,y_=(([(⟨#[124]⟩:ByteArray),(⟨#[94]⟩:ByteArray),(⟨#[38]⟩:ByteArray),(⟨#[61,61]⟩:ByteArray),(⟨#[60]⟩:ByteArray),(⟨#[60,60]⟩:ByteArray),(⟨#[62,62]⟩:ByteArray),(⟨#[43]⟩:ByteArray),(⟨#[45]⟩:ByteArray),(⟨#[42]⟩:ByteArray),(⟨#[47]⟩:ByteArray),(⟨#[37]⟩:ByteArray)]:List ByteArray)):=⟨_,rfl⟩;replace H:(if 0≤(wrap64 (a0 - 1)) then (if (wrap64 (a0 - 1)) < (j3.length:Int) then (some (pJ ByteArray.empty j3 (wrap64 (a0 - 1)))) else (none)) else (none))=some r:=rx_;have j4:=am hy_;clear hy_;obtain ⟨ji4,hji4⟩:∃ j_:Int,(wrap64 (a0 - 1))=j_:=⟨_,rfl⟩;replace H:(if 0≤(ji4) then (if (ji4) < (j3.length:Int) then (some (pJ ByteArray.empty j3 (ji4))) else (none)) else (none))=some r:=by first|(rw [hji4] at H;exact H)|(simp only [hji4] at H ⊢;exact H)
  (try rw [hji4] at A2);have hji4w:(IntKind.i64.wrap (a0 - 1))=ji4:=(fA _).trans hji4;by_cases c5:0≤(ji4)
  ·rw [if_pos c5] at H;have ja:decide (0≤(ji4))=true:=dT c5;clear c5;by_cases c6:(ji4) < (j3.length:Int)
   ·rw [if_pos c6] at H;have jb:decide ((ji4) < (j3.length:Int))=true:=dT c6;clear c6;obtain rfl:=oI H;go_enter Tryz.func97,Tryz.ntmps97;go_wp2_with (first|((with_reducible refine gC 122 rfl ?_);refine gl_ 4 Tryz.func122 #[.int .i64 a0] ?_;(with_reducible refine (iL.calls a0 true _ A2.out).mono ?_);rintro e w' ⟨rfl,⟨nd,rfl⟩⟩;refine ⟨_,rfl,?_⟩)|((with_reducible refine gD 6 rfl ?_);refine Kd.oL Kd.string _ 9 rfl (N:=6) rfl (xs:=([(⟨#[124]⟩:ByteArray),(⟨#[94]⟩:ByteArray),(⟨#[38]⟩:ByteArray),(⟨#[61,61]⟩:ByteArray),(⟨#[60]⟩:ByteArray),(⟨#[60,60]⟩:ByteArray),(⟨#[62,62]⟩:ByteArray),(⟨#[43]⟩:ByteArray),(⟨#[45]⟩:ByteArray),(⟨#[42]⟩:ByteArray),(⟨#[47]⟩:ByteArray),(⟨#[37]⟩:ByteArray)]:List ByteArray)) (inner:=[.string (⟨#[124]⟩:ByteArray),.string (⟨#[94]⟩:ByteArray),.string (⟨#[38]⟩:ByteArray),.string (⟨#[61,61]⟩:ByteArray),.string (⟨#[60]⟩:ByteArray),.string (⟨#[60,60]⟩:ByteArray),.string (⟨#[62,62]⟩:ByteArray),.string (⟨#[43]⟩:ByteArray),.string (⟨#[45]⟩:ByteArray),.string (⟨#[42]⟩:ByteArray),.string (⟨#[47]⟩:ByteArray),.string (⟨#[37]⟩:ByteArray)]) (ok:=fun _=>True) (okp:=fun _=>True) rn_ ?hp (fun _ hk=>hk) trivial (Below.refl _ _) (Nat.le_refl _) (by simp) ?_;(case hp=>exact (dF.one (show Kd.M Kd.string _ _ _ (⟨#[124]⟩:ByteArray) [.string (⟨#[124]⟩:ByteArray)] from rfl) (dF.one (show Kd.M Kd.string _ _ _ (⟨#[94]⟩:ByteArray) [.string (⟨#[94]⟩:ByteArray)] from rfl) (dF.one (show Kd.M Kd.string _ _ _ (⟨#[38]⟩:ByteArray) [.string (⟨#[38]⟩:ByteArray)] from rfl) (dF.one (show Kd.M Kd.string _ _ _ (⟨#[61,61]⟩:ByteArray) [.string (⟨#[61,61]⟩:ByteArray)] from rfl) (dF.one (show Kd.M Kd.string _ _ _ (⟨#[60]⟩:ByteArray) [.string (⟨#[60]⟩:ByteArray)] from rfl) (dF.one (show Kd.M Kd.string _ _ _ (⟨#[60,60]⟩:ByteArray) [.string (⟨#[60,60]⟩:ByteArray)] from rfl) (dF.one (show Kd.M Kd.string _ _ _ (⟨#[62,62]⟩:ByteArray) [.string (⟨#[62,62]⟩:ByteArray)] from rfl) (dF.one (show Kd.M Kd.string _ _ _ (⟨#[43]⟩:ByteArray) [.string (⟨#[43]⟩:ByteArray)] from rfl) (dF.one (show Kd.M Kd.string _ _ _ (⟨#[45]⟩:ByteArray) [.string (⟨#[45]⟩:ByteArray)] from rfl) (dF.one (show Kd.M Kd.string _ _ _ (⟨#[42]⟩:ByteArray) [.string (⟨#[42]⟩:ByteArray)] from rfl) (dF.one (show Kd.M Kd.string _ _ _ (⟨#[47]⟩:ByteArray) [.string (⟨#[47]⟩:ByteArray)] from rfl) (dF.one (show Kd.M Kd.string _ _ _ (⟨#[37]⟩:ByteArray) [.string (⟨#[37]⟩:ByteArray)] from rfl) (dF.none _ _))))))))))))));intro jf w7 ho8 hb hg_ hnew_;clear hg_ hnew_;(first|rw [← j4.out] at ho8|(simp only [Int.reduceToNat] at ho8;rw [← j4.out] at ho8));have j5:=am (Kd.fB ho8 (aI eG));replace HB:=am (aA eG hb);clear hb ho8;obtain ⟨jg,jh,jc⟩:=Kd.eY j5.out;subst jc;have j6:0≤((ji4):Int):=of_decide_eq_true fK;have j7:(ji4) < (j3.length:Int):=of_decide_eq_true fK;obtain ⟨jd,je,j8⟩:=Kd.rT (Kd.eX j5.out).2.2 (ji4) j6 j7;cases je;replace j6:=eq_true j6;replace j7:=eq_true j7));go_ret;exact ⟨by first|rfl|(simp [lM,lN] <;> rfl)|(simp only [← hji4];first|rfl|(simp [lM,lN] <;> rfl))|(simp [*,lM,lN] <;> rfl),eG⟩
   rw [if_neg c6] at H;cases H
  rw [if_neg c5] at H;cases H
 replace c3:=Bool.eq_false_iff.mpr c3;subst c3;rw [if_neg Bool.false_ne_true] at H;obtain rfl:=oI H;go_enter Tryz.func97,Tryz.ntmps97;go_wp2_with (first|((with_reducible refine gC 122 rfl ?_);refine gl_ 4 Tryz.func122 #[.int .i64 a0] ?_;(with_reducible refine (iL.calls a0 false _ A2.out).mono ?_);rintro e w' ⟨rfl,⟨nd,rfl⟩⟩;refine ⟨_,rfl,?_⟩));go_ret;exact ⟨rr_,eG⟩
theorem bM.mono_l:∀ k,(∀ y0 y1 y2,LeO (bM.f k y0 y1 y2) (bM.f (k + 1) y0 y1 y2))
 |0=>fun _ _ _ r h=>by simp [bM.f] at h
 |k + 1=>by
  have ih0:=bM.mono_l k
  ·intro y0 y1 y2;unfold bM.f;have m0:=@eB.mono;exact mo_
theorem bM.mono:∀ a0 a1 a2 k,LeO (bM.f k a0 a1 a2) (bM.f (k + 1) a0 a1 a2):=by
 intro a0 a1 a2 k;have ih0:=bM.mono_l k;exact ih0 a0 a1 a2
def bM.T6:Bool × List (List Nat × List Nat):=(true,[([],[]),([0],[0]),([1],[1]),([2],[2]),([3],[3]),([],[]),([5],[5]),([6],[6]),([7],[7]),([8,4],[8]),([],[]),([9,10],[9,10]),([4,11,9],[4,11]),([12,12,0,1,2,3,4,5,6,7,8,9,10,11,12],[12])])
def bM.B6:List Nat:=[0,1,3,7,15,0,32,96,224,511,0,2047,4095,8191]
theorem bM.SS:mH .any (opsOf Tryz.f74 6)=bM.T6:=by kernel_rfl
theorem bM.ED:iY bM.T6.2 bM.B6=true:=by kernel_rfl
def bM.T8:Bool × List (List Nat × List Nat):=(true,[([],[]),([],[]),([1],[1]),([2],[2]),([3],[3]),([4],[4]),([],[]),([6],[6]),([7],[7]),([8],[8]),([9,5],[9]),([],[]),([10,11],[10,11]),([5,12,10],[5,12]),([0,13,13],[0,13]),([14,14,0,1,2,3,4,5,6,7,8,9,10,11,12,13,14],[14])])
def bM.B8:List Nat:=[0,0,2,6,14,30,0,64,192,448,1022,0,4094,8190,16383,32767]
theorem bM.aLp:mH .any (opsOf Tryz.f74 8)=bM.T8:=by kernel_rfl
theorem bM.aKu:iY bM.T8.2 bM.B8=true:=by kernel_rfl
theorem bM.calls (k:Nat):∀ (j6:Int) (jk:Int) (jA:Option Addr) (jp:Nat) (j3:List (S56)) (r:List ByteArray) (w:World) (hr0_2:Kd.C k56 w jA j3.length j3) (hc0_2:j3.length≤jp) (h:bM.f k j6 jk j3=some r),
  Calls Tryz.prog 74 #[.agg #[.int .i64 j6,.int .i64 jk,.slice jA j3.length jp]] w fun e w'=>∃ v0_:Value,e= .returned (v0_)∧Kd.R Kd.string 9 w' w.heap.size (fun _=>True) v0_ r∧Below w.heap.size w w':=by
 induction k using Nat.strongRecOn with
 | _ k ih=>
 intro j6 jk jA jp j3 r w hr0_2 hc0_2 h;cases k with
 |zero=>exact absurd h (by simp [bM.f])
 |succ k=>
 simp only [bM.f] at h;have hu56:=Tryz.underlying56;have jr:=am hr0_2;have qI:=am hc0_2;clear hr0_2 hc0_2;have HB:=am (Below.refl w.heap.size w);have H:=h;clear h;have HH_:=am H;clear H;go_enter Tryz.func74,Tryz.ntmps74;go_upto_region 1 with (first|((with_reducible refine gD 1 rfl ?_);refine dU rfl (N:=1) rfl (cs:=#[.int .i64 j6,.int .i64 jk,.slice jA j3.length jp]) (t:=56) rn_ ?_;intro jl hg w4 hbox hb;have j4:=am (hbox);have z0:=am ((by rw [hg];exact (aI eG):w.heap.size≤jl));have GE69:=am ((by rw [hg];exact (aI eG):w.heap.size≤jl));replace HB:=am (aA eG hb);clear hb hbox hg;obtain ⟨qh,qi,qj,qk,ql,qm⟩:=mE j4.out));have H:=HH_.out;clear HH_;by_cases c2:j6=0
 ·rw [if_pos c2] at H;have qn:(j6 == 0)=true:=beq_iff_eq.mpr c2;have qo:(j6 != 0)=false:=bF c2;clear c2;obtain ⟨jP,A3,H⟩:=bsa H;(try dsimp only at H);obtain ⟨z1,hy_⟩:∃ y_:List ByteArray,y_=(([jP]:List ByteArray)):=⟨_,rfl⟩;replace H:(some z1)=some r:=rx_;have jS:=am hy_;clear hy_;obtain rfl:=oI H;go_wp2_with (first|((with_reducible refine gC 24 rfl ?_);refine gl_ 10 Tryz.func24 #[.int .i64 jk] ?_;(with_reducible refine (eB.calls k jk jP _ A3.out).mono ?_);rintro e w6 ⟨rfl,hb⟩;refine ⟨_,rfl,?_⟩;replace j4:=bbP j4 hb;replace HB:=am (aA oV hb);(try clear hb))|((with_reducible refine gD 11 rfl ?_);refine Kd.oL Kd.string _ 9 rfl (N:=11) rfl (xs:=([jP]:List ByteArray)) (inner:=[.string jP]) (ok:=fun _=>True) (okp:=fun _=>True) rn_ ?hp (fun _ hk=>hk) trivial (Below.refl _ _) (Nat.le_refl _) (by simp) ?_;(case hp=>exact (dF.one (show Kd.M Kd.string _ _ _ jP [.string jP] from rfl) (dF.none _ _)));intro zm w7 ho8 hb hg_ hnew_;clear hg_ hnew_;(first|rw [← jS.out] at ho8|(simp only [Int.reduceToNat] at ho8;rw [← jS.out] at ho8));have qp:=am (Kd.fB ho8 (aI oV));replace j4:=bbP j4 hb;replace HB:=am (aA oV hb);clear hb ho8));go_ret;exact ⟨_,gU,gI qp.out,oV⟩
 rw [if_neg c2] at H;have qn:(j6 == 0)=false:=bE c2;have qo:(j6 != 0)=true:=bne_iff_ne.mpr c2;by_cases c9:j6=13
 ·rw [if_pos c9] at H;have qq:(j6 == 13)=true:=beq_iff_eq.mpr c9;have qr:(j6 != 13)=false:=bF c9;clear c9;obtain ⟨jQ,qJ,H⟩:=bsm H;(try dsimp only at H);have z2:=am qJ;clear qJ;obtain ⟨z3,hy_⟩:∃ y_:List ByteArray,y_=(([jQ]:List ByteArray)):=⟨_,rfl⟩;replace H:(some z3)=some r:=rx_;have jT:=am hy_;clear hy_;obtain rfl:=oI H;go_wp2_with (first|((with_reducible refine gC 73 rfl ?_);refine gl_ 17 Tryz.func73 #[.int .i64 jk] ?_;(with_reducible refine (mZ.calls jk jQ _ z2.out).mono ?_);rintro e zn ⟨rfl,hb⟩;refine ⟨_,rfl,?_⟩;replace j4:=bbP j4 hb;replace HB:=am (aA oV hb);(try clear hb))|((with_reducible refine gD 18 rfl ?_);refine Kd.oL Kd.string _ 9 rfl (N:=18) rfl (xs:=([jQ]:List ByteArray)) (inner:=[.string jQ]) (ok:=fun _=>True) (okp:=fun _=>True) rn_ ?hp (fun _ hk=>hk) trivial (Below.refl _ _) (Nat.le_refl _) (by simp) ?_;(case hp=>exact (dF.one (show Kd.M Kd.string _ _ _ jQ [.string jQ] from rfl) (dF.none _ _)));intro zo zp ho15 hb hg_ hnew_;clear hg_ hnew_;(first|rw [← jT.out] at ho15|(simp only [Int.reduceToNat] at ho15;rw [← jT.out] at ho15));have qs:=am (Kd.fB ho15 (aI oV));replace j4:=bbP j4 hb;replace HB:=am (aA oV hb);clear hb ho15));go_ret;exact ⟨_,gU,gI qs.out,oV⟩
 rw [if_neg c9] at H;have qq:(j6 == 13)=false:=bE c9;have qr:(j6 != 13)=true:=bne_iff_ne.mpr c9;obtain ⟨jR,qK,H⟩:=bsm H;(try dsimp only at H);have z4:=am qK;clear qK;by_cases q5:0 < (j3.length:Int)
 ·rw [if_pos q5] at H;have qL:decide (0 < (j3.length:Int))=true:=dT q5;have qM:decide (0 < j3.length)=true:=dT (by omega);clear q5;obtain ⟨jU,z5,H⟩:=bsa H;(try dsimp only at H);obtain ⟨qt,qN,H⟩:=bsm H;(try dsimp only at H);have z6:=am qN;clear qN;obtain ⟨q6,qO,H⟩:=bsm H;(try dsimp only at H);have z7:=am qO;clear qO;obtain ⟨q7,qP,H⟩:=bsm H;(try dsimp only at H);have z8:=am qP;clear qP;by_cases q8:q6.length < 8796093022208
  ·rw [if_pos q8] at H;have jV:=am q8;clear q8;obtain ⟨jW,hy_⟩:∃ y_:List ByteArray,y_=(q6 ++ [q7]):=⟨_,rfl⟩;replace H:(if 1 < (j3.length:Int) then ((bM.f k ((bW j3 1).f0) ((bW j3 1).f1) ((bW j3 1).f2)).bind fun jE=>((mW.f ((bW j3 1).f0) ((bW j3 1).f1) ((bW j3 1).f2)).bind fun jX=>((nA.f jE (decide (jX≤jR))).bind fun jD=>(if jW.length + jD.length < 8796093022208 then (some (jW ++ jD)) else (none))))) else (none))=some r:=rx_;have qu:=am hy_;clear hy_;by_cases q9:1 < (j3.length:Int)
   ·rw [if_pos q9] at H;have qQ:decide (1 < (j3.length:Int))=true:=dT q9;have qR:decide (1 < j3.length)=true:=dT (by omega);clear q9;obtain ⟨jE,qS,H⟩:=bsm H;(try dsimp only at H);have z9:=am qS;clear qS;obtain ⟨jX,qT,H⟩:=bsm H;(try dsimp only at H);have za:=am qT;clear qT;obtain ⟨jD,qU,H⟩:=bsm H;(try dsimp only at H);have zb:=am qU;clear qU;by_cases qa:jW.length + jD.length < 8796093022208
    ·rw [if_pos qa] at H;have jY:=am qa;clear qa;obtain ⟨zc,hy_⟩:∃ y_:List ByteArray,y_=(jW ++ jD):=⟨_,rfl⟩;replace H:(some zc)=some r:=rx_;have qv:=am hy_;clear hy_;obtain rfl:=oI H;try go_wp2_with (first|((with_reducible refine gC 94 rfl ?_);refine gl_ 21 Tryz.func94 #[.int .i64 j6] ?_;(with_reducible refine (mD.calls j6 jR _ z4.out).mono ?_);rintro e zd ⟨rfl,hb⟩;refine ⟨_,rfl,?_⟩;replace j4:=bbP j4 hb;replace HB:=am (aA oV hb);(try clear hb)))
     replace j4:=am (dA j4.out);replace HB:=am (bI HB.out);have qw:0≤(0:Int):=(by omega);have qx:0 < (j3.length:Int):=of_decide_eq_true fK;obtain ⟨j5,js,jt,ze,jf,jg,jd,hl88_2,hi88_2⟩:=rM jr.out 0 qw qx;have hw88_2:=jd;(try rw [show ((0:Int)).toNat=0 from rfl] at hw88_2);(try rw [show 0 * 3=0 from rfl] at hw88_2);(try rw [Addr.add_zero'] at hw88_2);have hw88_1:=jg;(try rw [show ((0:Int)).toNat=0 from rfl] at hw88_1);(try rw [show 0 * 3=0 from rfl] at hw88_1);(try rw [Addr.add_zero'] at hw88_1);have hw88_0:=jf;(try rw [show ((0:Int)).toNat=0 from rfl] at hw88_0);(try rw [show 0 * 3=0 from rfl] at hw88_0);(try rw [Addr.add_zero'] at hw88_0);cases ze;have zf:(0 < j3.length)=True:=eq_true (by omega);(try rw [show ((0:Int)).toNat=0 from rfl] at jf);(try rw [show 0 * 3=0 from rfl] at jf);(try rw [Addr.add_zero'] at jf);(try rw [show ((0:Int)).toNat=0 from rfl] at jg);(try rw [show 0 * 3=0 from rfl] at jg);(try rw [Addr.add_zero'] at jg);(try rw [show ((0:Int)).toNat=0 from rfl] at jd);(try rw [show 0 * 3=0 from rfl] at jd);(try rw [Addr.add_zero'] at jd);replace jf:=bcT HB.out jf;replace jg:=bcT HB.out jg;replace jd:=bcT HB.out jd;have jx:=am hi88_2;have jF:=am hl88_2;clear hi88_2 hl88_2;replace qw:=eq_true qw;replace qx:=eq_true qx;have qy:0≤(0:Int):=(by omega);have qz:0 < (j3.length:Int):=of_decide_eq_true fK;obtain ⟨qA,qV,qW,zg,jh,ji,je,hl89_2,hi89_2⟩:=rM jr.out 0 qy qz;have hw89_2:=je;(try rw [show ((0:Int)).toNat=0 from rfl] at hw89_2);(try rw [show 0 * 3=0 from rfl] at hw89_2);(try rw [Addr.add_zero'] at hw89_2);have hw89_1:=ji;(try rw [show ((0:Int)).toNat=0 from rfl] at hw89_1);(try rw [show 0 * 3=0 from rfl] at hw89_1);(try rw [Addr.add_zero'] at hw89_1);have hw89_0:=jh;(try rw [show ((0:Int)).toNat=0 from rfl] at hw89_0);(try rw [show 0 * 3=0 from rfl] at hw89_0);(try rw [Addr.add_zero'] at hw89_0);obtain rfl:j5=qA:=(by injection zg);have zh:(0 < j3.length)=True:=eq_true (by omega);(try rw [show ((0:Int)).toNat=0 from rfl] at jh);(try rw [show 0 * 3=0 from rfl] at jh);(try rw [Addr.add_zero'] at jh);(try rw [show ((0:Int)).toNat=0 from rfl] at ji);(try rw [show 0 * 3=0 from rfl] at ji);(try rw [Addr.add_zero'] at ji);(try rw [show ((0:Int)).toNat=0 from rfl] at je);(try rw [show 0 * 3=0 from rfl] at je);(try rw [Addr.add_zero'] at je);replace jh:=bcT HB.out jh;replace ji:=bcT HB.out ji;replace je:=bcT HB.out je;have jy:=am hi89_2;have jG:=am hl89_2;clear hi89_2 hl89_2;replace qy:=eq_true qy;replace qz:=eq_true qz;have ea_:=oI (jd.symm.trans je);injection ea_ with ea_ en_ ec_;subst ea_;subst ec_;clear en_;refine lQ (n:=14) (S:=fun w'=>w'.cell? ⟨jl,0,none⟩=some (.int .i64 j6)∧w'.cell? ⟨jl,1,none⟩=some (.int .i64 jk)∧w'.cell? ⟨jl,2,none⟩=some (.slice (some j5) j3.length jp)∧w'.cell? j5=some (.int .i64 ((bW j3 0).f0))∧w'.cell? ⟨j5.block,j5.off + 1,none⟩=some (.int .i64 ((bW j3 0).f1))∧w'.cell? ⟨j5.block,j5.off + 2,none⟩=some (.slice js ((bW j3 0).f2).length jt)∧w'.cell? j5=some (.int .i64 ((bW j3 0).f0))∧w'.cell? ⟨j5.block,j5.off + 1,none⟩=some (.int .i64 ((bW j3 0).f1))∧w'.cell? ⟨j5.block,j5.off + 2,none⟩=some (.slice js ((bW j3 0).f2).length jt)) (ds:=[]) (bz 14 0) (by kernel_rfl) rfl rfl ⟨(aG j4.out 0).trans rfl,(aG j4.out 1).trans rfl,(aG j4.out 2).trans rfl,(bcT HB.out hw88_0),(bcT HB.out hw88_1),(bcT HB.out hw88_2),(bcT HB.out hw89_0),(bcT HB.out hw89_1),(bcT HB.out hw89_2)⟩ (fun hHeld=>?_);refine iQ bM.SS bM.ED (fun HT_ HW_=>?_);generalize zd.drew=zr at j4 HB jx jy jf jg jd jh ji je hHeld ⊢;refine pr_ 0 22 (bz 14 1) HT_ ?_;refine pr_ 5 27 (bz 14 33) HT_ ?_;refine pr_ 10 32 (bz 14 1057) HT_ ?_;refine aAl 1 23 (bz 14 1059) HT_ HW_ hHeld ?_;refine pr_ 2 24 (bz 14 1063) HT_ ?_;refine aAl 3 25 (bz 14 1071) HT_ HW_ hHeld ?_;refine aAl 6 28 (bz 14 1135) HT_ HW_ hHeld ?_;refine pr_ 7 29 (bz 14 1263) HT_ ?_;refine aAl 8 30 (bz 14 1519) HT_ HW_ hHeld ?_;refine iJ (i:=4) (N:=some 26) (bz 14 1535) rfl rfl (eU HT_.out (by kernel_rfl)) (by decide) (fun K hK=>?_);refine iI Tryz.func74 (by kernel_rfl) rfl #[.agg #[.int .i64 ((bW j3 0).f0),.int .i64 ((bW j3 0).f1),.slice js ((bW j3 0).f2).length jt]] (by rfl) rfl rfl nG ?_
     with_reducible refine (ih k (by omega) ((bW j3 0).f0) ((bW j3 0).f1) _ _ ((bW j3 0).f2) jU _ (aC_ (Kd.aX jx.out HB.out)) jF.out z5.out).mono ?_
     rintro e zs ⟨zt,rfl,ho0,hb⟩;refine ⟨_,rfl,?_⟩;have jw:=am (Kd.fB ho0 (aI oV));replace j4:=bbP j4 hb;replace HB:=am (aA oV hb);(try clear hb);(try clear hb2);(try clear hk);(try clear hi);(try clear ho0);refine hK.out _ _ ⟨(aG j4.out 0).trans rfl,(aG j4.out 1).trans rfl,(aG j4.out 2).trans rfl,(bcT HB.out hw88_0),(bcT HB.out hw88_1),(bcT HB.out hw88_2),(bcT HB.out hw89_0),(bcT HB.out hw89_1),(bcT HB.out hw89_2)⟩ (fun hHeld=>?_);clear hK K;refine fC (a':=?_) ?_ ?_;rotate_left;·exact ap_ (N:=26)
     refine iJ (i:=9) (N:=some 31) (bz 14 2047) rfl rfl (eU HT_.out (by kernel_rfl)) (by decide) (fun K hK=>?_);refine iI Tryz.func96 (by kernel_rfl) rfl #[.agg #[.int .i64 ((bW j3 0).f0),.int .i64 ((bW j3 0).f1),.slice js ((bW j3 0).f2).length jt]] (by rfl) rfl rfl nG ?_
     with_reducible refine (mW.calls ((bW j3 0).f0) ((bW j3 0).f1) _ _ ((bW j3 0).f2) qt _ (aC_ (Kd.aX jy.out HB.out)) jG.out z6.out).mono ?_
     rintro e zu ⟨rfl,hb⟩;refine ⟨_,rfl,?_⟩;replace jw:=am (Kd.fT (aR_ jw.out) hb);replace j4:=bbP j4 hb;replace HB:=am (aA oV hb);(try clear hb);(try clear hb2);(try clear hk);(try clear hi);obtain ⟨jH,jI,jZ⟩:=Kd.eY jw.out
     (first|subst jZ|(injection jZ with f1_ f2_ f3_;have f4_:=f1_.symm;have f5_:=f3_.symm;clear f1_ f2_ f3_;subst f4_;subst f5_))
     refine hK.out _ _ ⟨(aG j4.out 0).trans rfl,(aG j4.out 1).trans rfl,(aG j4.out 2).trans rfl,(bcT HB.out hw88_0),(bcT HB.out hw88_1),(bcT HB.out hw88_2),(bcT HB.out hw89_0),(bcT HB.out hw89_1),(bcT HB.out hw89_2)⟩ (fun hHeld=>?_);clear hK K;refine fC (a':=?_) ?_ ?_;rotate_left;·exact ap_ (N:=31)
     refine pr_ 11 33 (bz 14 4095) HT_ ?_;refine iJ (i:=12) (N:=some 34) (bz 14 8191) rfl rfl (eU HT_.out (by kernel_rfl)) (by decide) (fun K hK=>?_);refine iI Tryz.func95 (by kernel_rfl) rfl #[.slice jH jU.length jI,.bool (decide (qt < jR))] (by rfl) rfl rfl nG ?_
     with_reducible refine (nA.calls (fun k_=>some k_=(.slice jH jU.length jI:Value).ownBlock) (.slice jH jU.length jI) jU (decide (qt < jR)) q6 w _ ?side1 ?side2 z7.out).mono ?_
     (case side1=>exact oV);(case side2=>exact Kd.lT rfl jw.out);rintro e zv ⟨zi,rfl,ho0,hb,hkp⟩;refine ⟨_,rfl,?_⟩;replace j4:=am (kS (aG_ j4.out) hkp (fun hs_=>(fun e_=>(Kd.lC jw.out j4.out (by decide)) e_) hs_));have jz:=am (Kd.bN (ok':=fun k_=>True) ho0 (fun k_ hk_=>trivial));replace HB:=am (hb);clear jw;(try clear hb);(try clear hkp);(try clear ho0);refine hK.out _ _ ⟨(aG j4.out 0).trans rfl,(aG j4.out 1).trans rfl,(aG j4.out 2).trans rfl,(bcT HB.out hw88_0),(bcT HB.out hw88_1),(bcT HB.out hw88_2),(bcT HB.out hw89_0),(bcT HB.out hw89_1),(bcT HB.out hw89_2)⟩ (fun hHeld=>?_);clear hK K;refine fC (a':=?_) ?_ ?_;rotate_left;·exact ap_ (N:=34)
     refine pr_ 13 4 (bz 14 16383) HT_ ?_;refine nP (lG HT_.out (by kernel_rfl)) ?_;obtain ⟨qb,qc,qd,qe,qf,qg⟩:=mE j4.out;try go_wp2_with (first|((with_reducible refine gC 97 rfl ?_);refine gl_ 38 Tryz.func97 #[.int .i64 j6] ?_;(with_reducible refine (rY.calls j6 q7 _ z8.out).mono ?_);rintro e zw ⟨rfl,hb⟩;refine ⟨_,rfl,?_⟩;replace jz:=am (Kd.fT (aR_ jz.out) hb);replace j4:=bbP j4 hb;replace HB:=am (aA oV hb);(try clear hb))|((with_reducible refine dV (b:=.append) (xs:=#[.tmp 35,.tmp 39]) rfl ?_);at_builtin;refine Kd.kQ Kd.string (w0:=w) w.heap.size rfl (.tmp 35) (.tmp 39) 29 9 (.string ⟨#[]⟩) 16 rfl Tryz.underlying29 kU rfl (by decide) (by omega) zi q6 q7 [.string q7] (fun _=>True) (fun _=>False) rfl rfl ?aP (fun _ hk=>hk.elim) ?aF ?aO ?aB ?aS ?aL ?_;(case aP=>exact rfl);(case aB=>exact oV);(case aF=>exact (fun _ _=>trivial));(case aO=>exact (aR_ jz.out));(case aS=>exact (aI oV));(case aL=>have:=jV.out;omega);intro qX zj ho hb hg hat;rw [← qu.out] at ho;replace j4:=am (dL (g:=jl) (o:=.cells #[.int .i64 j6,.int .i64 jk,.slice (some j5) j3.length jp] 56 (0,0)) (aG_ j4.out) hg (Kd.lC jz.out j4.out (by decide)));replace HB:=am (hb);have jj:=am (ho);clear jz ho hb hg hat))
     replace jj:=am (Kd.oJ jj.out);replace j4:=am (dA j4.out);replace HB:=am (bI HB.out);have jJ:0≤(1:Int):=(by omega);have jK:1 < (j3.length:Int):=of_decide_eq_true fK;obtain ⟨q0,jn,jo,qB,j9,ja,j7,hl101_2,hi101_2⟩:=rM jr.out 1 jJ jK;have hw101_2:=j7;(try rw [show ((1:Int)).toNat=1 from rfl] at hw101_2);(try rw [show 1 * 3=3 from rfl] at hw101_2);(try simp only [Nat.reduceMul,Nat.reduceEqDiff,Go.Addr.add,↓reduceIte] at hw101_2);have hw101_1:=ja;(try rw [show ((1:Int)).toNat=1 from rfl] at hw101_1);(try rw [show 1 * 3=3 from rfl] at hw101_1);(try simp only [Nat.reduceMul,Nat.reduceEqDiff,Go.Addr.add,↓reduceIte] at hw101_1);have hw101_0:=j9;(try rw [show ((1:Int)).toNat=1 from rfl] at hw101_0);(try rw [show 1 * 3=3 from rfl] at hw101_0);(try simp only [Nat.reduceMul,Nat.reduceEqDiff,Go.Addr.add,↓reduceIte] at hw101_0);obtain rfl:j5=q0:=(by injection qB);(try simp only [show (1:Int).toNat=1 from rfl,Nat.reduceMul,Nat.reduceEqDiff,Go.Addr.add,↓reduceIte] at j9);(try simp only [show (1:Int).toNat=1 from rfl,Nat.reduceMul,Nat.reduceEqDiff,Go.Addr.add,↓reduceIte] at ja);(try simp only [show (1:Int).toNat=1 from rfl,Nat.reduceMul,Nat.reduceEqDiff,Go.Addr.add,↓reduceIte] at j7);have qY:(1 < j3.length)=True:=eq_true (by omega);(try rw [show ((1:Int)).toNat=1 from rfl] at j9);(try rw [show 1 * 3=3 from rfl] at j9);(try rw [show ((1:Int)).toNat=1 from rfl] at ja);(try rw [show 1 * 3=3 from rfl] at ja);(try rw [show ((1:Int)).toNat=1 from rfl] at j7);(try rw [show 1 * 3=3 from rfl] at j7);replace j9:=bcT HB.out j9;replace ja:=bcT HB.out ja;replace j7:=bcT HB.out j7;have ju:=am hi101_2;have jB:=am hl101_2;clear hi101_2 hl101_2;replace jJ:=eq_true jJ;replace jK:=eq_true jK;have jL:0≤(1:Int):=(by omega);have jM:1 < (j3.length:Int):=of_decide_eq_true fK;obtain ⟨q1,qC,qD,qE,jb,jc,j8,hl102_2,hi102_2⟩:=rM jr.out 1 jL jM;have hw102_2:=j8;(try rw [show ((1:Int)).toNat=1 from rfl] at hw102_2);(try rw [show 1 * 3=3 from rfl] at hw102_2);(try simp only [Nat.reduceMul,Nat.reduceEqDiff,Go.Addr.add,↓reduceIte] at hw102_2);have hw102_1:=jc;(try rw [show ((1:Int)).toNat=1 from rfl] at hw102_1);(try rw [show 1 * 3=3 from rfl] at hw102_1);(try simp only [Nat.reduceMul,Nat.reduceEqDiff,Go.Addr.add,↓reduceIte] at hw102_1);have hw102_0:=jb;(try rw [show ((1:Int)).toNat=1 from rfl] at hw102_0);(try rw [show 1 * 3=3 from rfl] at hw102_0);(try simp only [Nat.reduceMul,Nat.reduceEqDiff,Go.Addr.add,↓reduceIte] at hw102_0);obtain rfl:j5=q1:=(by injection qE);(try simp only [show (1:Int).toNat=1 from rfl,Nat.reduceMul,Nat.reduceEqDiff,Go.Addr.add,↓reduceIte] at jb);(try simp only [show (1:Int).toNat=1 from rfl,Nat.reduceMul,Nat.reduceEqDiff,Go.Addr.add,↓reduceIte] at jc);(try simp only [show (1:Int).toNat=1 from rfl,Nat.reduceMul,Nat.reduceEqDiff,Go.Addr.add,↓reduceIte] at j8);have qZ:(1 < j3.length)=True:=eq_true (by omega);(try rw [show ((1:Int)).toNat=1 from rfl] at jb);(try rw [show 1 * 3=3 from rfl] at jb);(try rw [show ((1:Int)).toNat=1 from rfl] at jc);(try rw [show 1 * 3=3 from rfl] at jc);(try rw [show ((1:Int)).toNat=1 from rfl] at j8);(try rw [show 1 * 3=3 from rfl] at j8);replace jb:=bcT HB.out jb;replace jc:=bcT HB.out jc;replace j8:=bcT HB.out j8;have jv:=am hi102_2;have jC:=am hl102_2;clear hi102_2 hl102_2;replace jL:=eq_true jL;replace jM:=eq_true jM;have ea_:=oI (j7.symm.trans j8);injection ea_ with ea_ en_ ec_;subst ea_;subst ec_;clear en_;refine lQ (n:=16) (S:=fun w'=>w'.cell? ⟨jl,0,none⟩=some (.int .i64 j6)∧w'.cell? ⟨jl,1,none⟩=some (.int .i64 jk)∧w'.cell? ⟨jl,2,none⟩=some (.slice (some j5) j3.length jp)∧w'.cell? ⟨j5.block,j5.off + 3,none⟩=some (.int .i64 ((bW j3 1).f0))∧w'.cell? ⟨j5.block,j5.off + 3 + 1,none⟩=some (.int .i64 ((bW j3 1).f1))∧w'.cell? ⟨j5.block,j5.off + 3 + 2,none⟩=some (.slice jn ((bW j3 1).f2).length jo)∧w'.cell? ⟨j5.block,j5.off + 3,none⟩=some (.int .i64 ((bW j3 1).f0))∧w'.cell? ⟨j5.block,j5.off + 3 + 1,none⟩=some (.int .i64 ((bW j3 1).f1))∧w'.cell? ⟨j5.block,j5.off + 3 + 2,none⟩=some (.slice jn ((bW j3 1).f2).length jo)) (ds:=[]) (bz 16 0) (by kernel_rfl) rfl rfl ⟨(aG j4.out 0).trans rfl,(aG j4.out 1).trans rfl,(aG j4.out 2).trans rfl,(bcT HB.out hw101_0),(bcT HB.out hw101_1),(bcT HB.out hw101_2),(bcT HB.out hw102_0),(bcT HB.out hw102_1),(bcT HB.out hw102_2)⟩ (fun hHeld=>?_);refine iQ bM.aLp bM.aKu (fun HT_ HW_=>?_);generalize zj.drew=zx at jj j4 HB ju jv j9 ja j7 jb jc j8 hHeld ⊢;refine pr_ 0 41 (bz 16 1) HT_ ?_;refine pr_ 1 42 (bz 16 3) HT_ ?_;refine pr_ 6 47 (bz 16 67) HT_ ?_;refine pr_ 11 52 (bz 16 2115) HT_ ?_;refine aAl 2 43 (bz 16 2119) HT_ HW_ hHeld ?_;refine pr_ 3 44 (bz 16 2127) HT_ ?_;refine aAl 4 45 (bz 16 2143) HT_ HW_ hHeld ?_;refine aAl 7 48 (bz 16 2271) HT_ HW_ hHeld ?_;refine pr_ 8 49 (bz 16 2527) HT_ ?_;refine aAl 9 50 (bz 16 3039) HT_ HW_ hHeld ?_;refine iJ (i:=5) (N:=some 46) (bz 16 3071) rfl rfl (eU HT_.out (by kernel_rfl)) (by decide) (fun K hK=>?_);refine iI Tryz.func74 (by kernel_rfl) rfl #[.agg #[.int .i64 ((bW j3 1).f0),.int .i64 ((bW j3 1).f1),.slice jn ((bW j3 1).f2).length jo]] (by rfl) rfl rfl nG ?_
     with_reducible refine (ih k (by omega) ((bW j3 1).f0) ((bW j3 1).f1) _ _ ((bW j3 1).f2) jE _ (aC_ (Kd.aX ju.out HB.out)) jB.out z9.out).mono ?_
     rintro e zy ⟨zk,rfl,ho0,hb⟩;refine ⟨_,rfl,?_⟩;have jm:=am (Kd.fB (Kd.lF ho0 (Kd.iG (aR_ jj.out))) (aI oV));replace jj:=am (Kd.iD (aR_ jj.out) (Kd.iN ho0) hb);replace j4:=bbP j4 hb;replace HB:=am (aA oV hb);(try clear hb);(try clear hb2);(try clear hk);(try clear hi);(try clear ho0);refine hK.out _ _ ⟨(aG j4.out 0).trans rfl,(aG j4.out 1).trans rfl,(aG j4.out 2).trans rfl,(bcT HB.out hw101_0),(bcT HB.out hw101_1),(bcT HB.out hw101_2),(bcT HB.out hw102_0),(bcT HB.out hw102_1),(bcT HB.out hw102_2)⟩ (fun hHeld=>?_);clear hK K;refine fC (a':=?_) ?_ ?_;rotate_left;·exact ap_ (N:=46)
     refine iJ (i:=10) (N:=some 51) (bz 16 4095) rfl rfl (eU HT_.out (by kernel_rfl)) (by decide) (fun K hK=>?_);refine iI Tryz.func96 (by kernel_rfl) rfl #[.agg #[.int .i64 ((bW j3 1).f0),.int .i64 ((bW j3 1).f1),.slice jn ((bW j3 1).f2).length jo]] (by rfl) rfl rfl nG ?_
     with_reducible refine (mW.calls ((bW j3 1).f0) ((bW j3 1).f1) _ _ ((bW j3 1).f2) jX _ (aC_ (Kd.aX jv.out HB.out)) jC.out za.out).mono ?_
     rintro e zz ⟨rfl,hb⟩;refine ⟨_,rfl,?_⟩;replace jj:=am (Kd.fT (aR_ jj.out) hb);replace jm:=am (Kd.fT (aR_ jm.out) hb);replace j4:=bbP j4 hb;replace HB:=am (aA oV hb);(try clear hb);(try clear hb2);(try clear hk);(try clear hi);obtain ⟨jN,jO,q2⟩:=Kd.eY jm.out
     (first|subst q2|(injection q2 with f1_ f2_ f3_;have f4_:=f1_.symm;have f5_:=f3_.symm;clear f1_ f2_ f3_;subst f4_;subst f5_))
     refine hK.out _ _ ⟨(aG j4.out 0).trans rfl,(aG j4.out 1).trans rfl,(aG j4.out 2).trans rfl,(bcT HB.out hw101_0),(bcT HB.out hw101_1),(bcT HB.out hw101_2),(bcT HB.out hw102_0),(bcT HB.out hw102_1),(bcT HB.out hw102_2)⟩ (fun hHeld=>?_);clear hK K;refine fC (a':=?_) ?_ ?_;rotate_left;·exact ap_ (N:=51)
     refine pr_ 12 53 (bz 16 8191) HT_ ?_;refine iJ (i:=13) (N:=some 54) (bz 16 16383) rfl rfl (eU HT_.out (by kernel_rfl)) (by decide) (fun K hK=>?_);refine iI Tryz.func95 (by kernel_rfl) rfl #[.slice jN jE.length jO,.bool (decide (jX≤jR))] (by rfl) rfl rfl nG ?_
     with_reducible refine (nA.calls (fun k_=>some k_=(.slice jN jE.length jO:Value).ownBlock) (.slice jN jE.length jO) jE (decide (jX≤jR)) jD w _ ?side1 ?side2 zb.out).mono ?_
     (case side1=>exact oV);(case side2=>exact Kd.lT rfl jm.out);rintro e zA ⟨qF,rfl,ho0,hb,hkp⟩;refine ⟨_,rfl,?_⟩;replace j4:=am (kS (aG_ j4.out) hkp (fun hs_=>(fun e_=>(Kd.lC jm.out j4.out (by decide)) e_) hs_));have jq:=am (Kd.bN (ok':=fun k_=>some k_≠(qX:Value).ownBlock) ho0 (fun k_ hk_=>Or.elim hk_ (fun hs_=>fun e_=>(((jj.out).1 k_ e_.symm).2) hs_) (fun hn_=>(Kd.fresh' (Kd.iG (aR_ jj.out)) k_ hn_))));replace jj:=am (Kd.bN (ok':=fun k_=>some k_≠(qF:Value).ownBlock) (Kd.RP (jj.out) hkp (fun k_ hk_ hs_=>(hk_.2) hs_)) (fun k_ hk_=>fun e_=>Or.elim (ho0.1 k_ e_.symm) (fun hs_=>hk_.2.1 hs_) (fun hn_=>Nat.not_le.2 hk_.2.2 hn_)));replace HB:=am (hb);clear jm;(try clear hb);(try clear hkp);(try clear ho0);obtain ⟨qG,qH,q3⟩:=Kd.eY jq.out
     (first|subst q3|(injection q3 with f1_ f2_ f3_;have f4_:=f1_.symm;have f5_:=f3_.symm;clear f1_ f2_ f3_;subst f4_;subst f5_))
     refine hK.out _ _ ⟨(aG j4.out 0).trans rfl,(aG j4.out 1).trans rfl,(aG j4.out 2).trans rfl,(bcT HB.out hw101_0),(bcT HB.out hw101_1),(bcT HB.out hw101_2),(bcT HB.out hw102_0),(bcT HB.out hw102_1),(bcT HB.out hw102_2)⟩ (fun hHeld=>?_);clear hK K;refine fC (a':=?_) ?_ ?_;rotate_left;·exact ap_ (N:=54)
     refine iJ (i:=14) (N:=some 55) (bz 16 32767) rfl rfl (eU HT_.out (by kernel_rfl)) (by decide) (fun K hK=>?_);refine Kd.nD Kd.string (w0:=w) w.heap.size (by rfl) (.tmp 41) (.tmp 54) 29 9 (.string ⟨#[]⟩) 16 rfl Tryz.underlying29 kU rfl (by decide) (by omega) qX jW jD _ _ _ (fun k_=>some k_≠(.slice qG jD.length qH:Value).ownBlock) (fun _=>False) rfl rfl ?aO ?aR (fun _ _ h=>h) (fun _ h=>h.elim) ?aF ?aB ?aS ?aL ?_;(case aR=>repeat (first|exact (Kd.eX jq.out).2.2|(with_reducible refine Kd.lS ?_ _)|(with_reducible refine Kd.kZ ?_ _)|(with_reducible refine Kd.mP ?_)));(case aB=>exact oV);(case aF=>exact (fun k_ hk=>Kd.fresh' (Kd.iG (aR_ jq.out)) k_ hk));(case aO=>exact (aR_ jj.out));(case aS=>exact (aI oV));(case aL=>have:=jY.out;omega);intro zl zB ho hb hg hat
     rw [← qv.out] at ho;replace j4:=am (dL (g:=jl) (o:=.cells #[.int .i64 j6,.int .i64 jk,.slice (some j5) j3.length jp] 56 (0,0)) (aG_ j4.out) hg (Kd.lC jj.out j4.out (by decide)));replace jq:=am (Kd.iX (ok:=(fun _=>True)) (gI (Kd.bN jq.out (fun _ hk=>⟨trivial,hk⟩))) hg hat);replace HB:=am (hb);have q4:=am (ho);clear jj;clear ho hb hg hat
     refine hK.out _ _ ⟨(aG j4.out 0).trans rfl,(aG j4.out 1).trans rfl,(aG j4.out 2).trans rfl,(bcT HB.out hw101_0),(bcT HB.out hw101_1),(bcT HB.out hw101_2),(bcT HB.out hw102_0),(bcT HB.out hw102_1),(bcT HB.out hw102_2)⟩ (fun hHeld=>?_);clear hK K;refine fC (a':=?_) ?_ ?_;rotate_left;·exact ap_ (N:=55)
     refine pr_ 15 2 (bz 16 65535) HT_ ?_;refine nP (lG HT_.out (by kernel_rfl)) ?_;try go_wp2
     go_ret;exact ⟨_,gU,gI (Kd.bN q4.out (fun _ hk=>trivial)),oV⟩
    rw [if_neg qa] at H;cases H
   rw [if_neg q9] at H;cases H
  rw [if_neg q8] at H;cases H
 rw [if_neg q5] at H;cases H
theorem gH.mono:∀ a0 a1 a2 a3 k,LeO (gH.f k a0 a1 a2 a3) (gH.f (k + 1) a0 a1 a2 a3):=by
 intro a0 a1 a2 a3 k;unfold gH.f;have m0:=@bM.mono;exact mo_
theorem gH.calls (k:Nat) (P0_:Nat→Prop) (ja:Value) (l0:List ByteArray) (j6:Int) (j7:Int) (j8:Option Addr) (j9:Nat) (j3:List (S56)) (r:List ByteArray) (w0 w:World) (hB:Below w0.heap.size w0 w) (ho0:Kd.R Kd.string 9 w w0.heap.size P0_ ja l0) (hr1_2:∀ W_,Kept w W_ (fun k_=>P0_ k_)→Kd.C k56 W_ j8 j3.length j3) (hc1_2:j3.length≤j9) (h:gH.f k l0 j6 j7 j3=some r):
  Calls Tryz.prog 72 #[ja,.agg #[.int .i64 j6,.int .i64 j7,.slice j8 j3.length j9]] w fun e w'=>∃ v0_:Value,e= .returned (v0_)∧Kd.R Kd.string 9 w' w0.heap.size (fun k_=>(P0_ k_∨w.heap.size≤k_)) v0_ r∧Below w0.heap.size w0 w'∧Kept w w' (fun k_=>P0_ k_):=by
 have hu56:=Tryz.underlying56;have jb:=am (show Kd.R Kd.string 9 w w0.heap.size (fun k_=>(P0_ k_∨w.heap.size≤k_)) ja l0 from Kd.bN ho0 (fun k_ hk=>(.inl hk)));have jf:=am hr1_2;have jg:=am hc1_2;clear hr1_2 hc1_2;have HK:=am (Kept.refl w (fun k_=>P0_ k_));have HW0:=am hB.size;have HB:=am hB;clear hB;unfold gH.f at h;have H:=h;clear h;obtain ⟨je,A3,H⟩:=bsa H;(try dsimp only at H);by_cases c4:l0.length + je.length < 8796093022208
 ·rw [if_pos c4] at H;have jk:=am c4;clear c4;obtain ⟨jh,hy_⟩:∃ y_:List ByteArray,y_=(l0 ++ je):=⟨_,rfl⟩;replace H:(if jh.length < 8796093022208 then (some (jh ++ [(⟨#[59]⟩:ByteArray)])) else (none))=some r:=rx_;have jl:=am hy_;clear hy_;by_cases c5:jh.length < 8796093022208
  ·rw [if_pos c5] at H;have jm:=am c5;clear c5;obtain ⟨jw,hy_⟩:∃ y_:List ByteArray,y_=(jh ++ [(⟨#[59]⟩:ByteArray)]):=⟨_,rfl⟩;replace H:(some jw)=some r:=rx_;have jn:=am hy_;clear hy_;obtain rfl:=oI H;go_enter Tryz.func72,Tryz.ntmps72;go_wp2_with (first|((with_reducible refine gD 3 rfl ?_);refine dU rfl (N:=3) rfl (cs:=#[.int .i64 j6,.int .i64 j7,.slice j8 j3.length j9]) (t:=56) rn_ ?_;intro jc hg w6 hbox hb;replace jb:=am (Kd.fT (aR_ jb.out) hb);have j4:=am (hbox);have GW24:=am ((by rw [hg];exact (by first|exact HK.out.1|exact (show Kept w _ (fun k_=>P0_ k_) from nO).1):w.heap.size≤jc));replace HK:=am (Kept.below (S:=(fun k_=>P0_ k_)) nO hb);have GE24:=am ((by rw [hg];exact (aI eG):w0.heap.size≤jc));replace HB:=am (aA eG hb);clear hb hbox hg;obtain ⟨jo,jp,jq,jr,js,jt⟩:=mE j4.out)|((with_reducible refine gC 74 rfl ?_);refine gl_ 8 Tryz.func74 #[.agg #[.int .i64 j6,.int .i64 j7,.slice j8 j3.length j9]] ?_;(with_reducible refine (bM.calls k j6 j7 _ _ j3 je _ ?side1 jg.out A3.out).mono ?_);(case side1=>exact Kd.xA jf.out II);rintro e w8 ⟨jy,rfl,ho0,hb⟩;refine ⟨_,rfl,?_⟩;have j5:=am (Kd.fB (Kd.lF (Kd.vG (M:=fun k_=>(P0_ k_∨w.heap.size≤k_)) ho0 (by first|exact HK.out.1|exact (show Kept w _ (fun k_=>P0_ k_) from II).1) (fun k_ h_=>.inr h_)) (Kd.iG (aR_ jb.out))) (aI MG));replace jb:=am (Kd.iD (aR_ jb.out) (Kd.iN ho0) hb);replace j4:=bbP j4 hb;replace HK:=am (Kept.below (S:=(fun k_=>P0_ k_)) II hb);replace HB:=am (aA MG hb);(try clear hb);(try clear ho0);obtain ⟨ji,jj,ju⟩:=Kd.eY j5.out;subst ju)|((with_reducible refine dV (b:=.append) (xs:=#[.tmp 6,.tmp 8]) rfl ?_);at_builtin;refine Kd.gY Kd.string (w0:=w0) w0.heap.size rfl (.tmp 6) (.tmp 8) 29 9 (.string ⟨#[]⟩) 16 rfl Tryz.underlying29 kU rfl (by decide) (by omega) ja l0 je _ _ _ (fun k_=>(P0_ k_∨w.heap.size≤k_)∧some k_≠(.slice ji je.length jj:Value).ownBlock) (fun _=>False) rfl rfl ?aO ?aR (fun _ _ h=>h) (fun _ h=>h.elim) ?aF ?aB ?aS ?aL ?_;(case aR=>repeat (first|exact (Kd.eX j5.out).2.2|(with_reducible refine Kd.lS ?_ _)|(with_reducible refine Kd.kZ ?_ _)|(with_reducible refine Kd.mP ?_)));(case aB=>exact MG);(case aF=>exact (fun k_ hk=>⟨(.inr (Nat.le_trans (by first|exact HK.out.1|exact (show Kept w _ (fun k_=>P0_ k_) from II).1) hk)),Kd.fresh' (Kd.iG (aR_ j5.out)) k_ hk⟩));(case aO=>exact (aR_ jb.out));(case aS=>exact (aI MG));(case aL=>have:=jk.out;omega);intro jx w9 ho hb hg hat;rw [← jl.out] at ho;replace j4:=am (dL (g:=jc) (o:=.cells #[.int .i64 j6,.int .i64 j7,.slice j8 j3.length j9] 56 (0,0)) (aG_ j4.out) hg (Kd.lC jb.out j4.out (by decide)));replace j5:=am (Kd.iX (ok:=(fun k_=>(P0_ k_∨w.heap.size≤k_))) (gI (Kd.bN j5.out (fun _ hk=>⟨hk.1.1,hk.2⟩))) hg hat);replace HB:=am (hb);replace HK:=am (Kept.gF (S:=(fun k_=>P0_ k_)) hg II (fun k_ e_=>(jb.out.1 k_ e_).1));have jd:=am (ho);clear jb ho hb hg hat)|((with_reducible refine dV (b:=.append) (xs:=#[.tmp 10,.tmp 11]) rfl ?_);at_builtin;refine Kd.kQ Kd.string (w0:=w0) w0.heap.size rfl (.tmp 10) (.tmp 11) 29 9 (.string ⟨#[]⟩) 16 rfl Tryz.underlying29 kU rfl (by decide) (by omega) jx jh (⟨#[59]⟩:ByteArray) [.string (⟨#[59]⟩:ByteArray)] (fun k_=>(P0_ k_∨w.heap.size≤k_)∧some k_≠(.slice ji je.length jj:Value).ownBlock) (fun _=>False) rfl rfl ?aP (fun _ hk=>hk.elim) ?aF ?aO ?aB ?aS ?aL ?_;(case aP=>exact rfl);(case aB=>exact MG);(case aF=>exact (fun k_ hk=>⟨(.inr (Nat.le_trans (by first|exact HK.out.1|exact (show Kept w _ (fun k_=>P0_ k_) from II).1) hk)),Kd.fresh' (Kd.iG (aR_ j5.out)) k_ hk⟩));(case aO=>exact (aR_ jd.out));(case aS=>exact (aI MG));(case aL=>have:=jm.out;omega);intro jz jA ho hb hg hat;rw [← jn.out] at ho;replace j4:=am (dL (g:=jc) (o:=.cells #[.int .i64 j6,.int .i64 j7,.slice j8 j3.length j9] 56 (0,0)) (aG_ j4.out) hg (Kd.lC jd.out j4.out (by decide)));replace j5:=am (Kd.iX (ok:=(fun k_=>(P0_ k_∨w.heap.size≤k_))) (aR_ j5.out) hg hat);replace HB:=am (hb);replace HK:=am (Kept.gF (S:=(fun k_=>P0_ k_)) hg II (fun k_ e_=>(jd.out.1 k_ e_).1));have jv:=am (ho);clear jd ho hb hg hat));go_ret;exact ⟨_,gU,gI (Kd.bN jv.out (fun _ hk=>hk.1)),MG,II⟩
  rw [if_neg c5] at H;cases H
 rw [if_neg c4] at H;cases H
theorem bR.mono_all:∀ k,(∀ y0 y1 y2 y3 y4 y5 y6 y7,LeO (bR.f k y0 y1 y2 y3 y4 y5 y6 y7) (bR.f (k + 1) y0 y1 y2 y3 y4 y5 y6 y7))∧(∀ y0,LeO (bL.f k y0) (bL.f (k + 1) y0))∧(∀ y0 y1 y2,LeO (bL.l0 k y0 y1 y2) (bL.l0 (k + 1) y0 y1 y2))
 |0=>⟨fun _ _ _ _ _ _ _ _ r h=>by simp [bR.f] at h,fun _ r h=>by simp [bL.f] at h,fun _ _ _ r h=>by simp [bL.l0] at h⟩
 |k + 1=>by
  obtain ⟨ih0,ih1,ih2⟩:=bR.mono_all k;refine ⟨?_,?_,?_⟩
  ·intro y0 y1 y2 y3 y4 y5 y6 y7;unfold bR.f;have m0:=@gH.mono;have m1:=@bM.mono;have m2:=@eB.mono;exact mo_
  ·intro y0;unfold bL.f;have m0:=@gH.mono;have m1:=@bM.mono;have m2:=@eB.mono;exact mo_
  ·intro y0 y1 y2;unfold bL.l0;have m0:=@gH.mono;have m1:=@bM.mono;have m2:=@eB.mono;exact mo_
theorem bR.mono:∀ a0 a1 a2 a3 a4 a5 a6 a7 k,LeO (bR.f k a0 a1 a2 a3 a4 a5 a6 a7) (bR.f (k + 1) a0 a1 a2 a3 a4 a5 a6 a7):=by
 intro a0 a1 a2 a3 a4 a5 a6 a7 k;obtain ⟨ih0,ih1,ih2⟩:=bR.mono_all k;exact ih0 a0 a1 a2 a3 a4 a5 a6 a7
theorem bL.mono:∀ a0 k,LeO (bL.f k a0) (bL.f (k + 1) a0):=by
 intro a0 k;obtain ⟨ih0,ih1,ih2⟩:=bR.mono_all k;exact ih1 a0
abbrev bR.dJ (k:Nat):Prop:=∀ (a0_0:Int) (a0_1:Int) (a0_2:Int) (a0_3:Int) (a0_4:Int) (A0_5:Option Addr) (c0_5:Nat) (l0_5:List (S56)) (A0_6:Option Addr) (c0_6:Nat) (l0_6:List (S58)) (A0_7:Option Addr) (c0_7:Nat) (l0_7:List (S58)) (r:List ByteArray) (w:World) (hr0_5:Kd.C k56 w A0_5 l0_5.length l0_5) (hc0_5:l0_5.length≤c0_5) (hr0_6:Kd.C k58 w A0_6 l0_6.length l0_6) (hc0_6:l0_6.length≤c0_6) (hr0_7:Kd.C k58 w A0_7 l0_7.length l0_7) (hc0_7:l0_7.length≤c0_7) (h:bR.f k a0_0 a0_1 a0_2 a0_3 a0_4 l0_5 l0_6 l0_7=some r),
  Calls Tryz.prog 49 #[.agg #[.int .i64 a0_0,.int .i64 a0_1,.int .i64 a0_2,.int .i64 a0_3,.int .i64 a0_4,.slice A0_5 l0_5.length c0_5,.slice A0_6 l0_6.length c0_6,.slice A0_7 l0_7.length c0_7]] w fun e w'=>∃ v0_:Value,e= .returned (v0_)∧Kd.R Kd.string 9 w' w.heap.size (fun _=>True) v0_ r∧Below w.heap.size w w'
abbrev bL.dJ (k:Nat):Prop:=∀ (A0:Option Addr) (c0:Nat) (l0:List (S58)) (r:List ByteArray) (w:World) (hr0:Kd.C k58 w A0 l0.length l0) (hc0:l0.length≤c0) (h:bL.f k l0=some r),
  Calls Tryz.prog 25 #[.slice A0 l0.length c0] w fun e w'=>∃ v0_:Value,e= .returned (v0_)∧Kd.R Kd.string 9 w' w.heap.size (fun _=>True) v0_ r∧Below w.heap.size w w'
def bR.T3:Bool × List (List Nat × List Nat):=(true,[([],[]),([0],[0]),([1],[1]),([2],[2]),([],[]),([4],[4]),([3,5,2],[3,5]),([6,6,0,1,2,3,4,5,6],[6])])
def bR.B3:List Nat:=[0,1,3,7,0,16,63,127]
theorem bR.aGt:mH .any (opsOf Tryz.f49 3)=bR.T3:=by kernel_rfl
theorem bR.TL:iY bR.T3.2 bR.B3=true:=by kernel_rfl
def bR.T5:Bool × List (List Nat × List Nat):=(true,[([],[]),([0],[0]),([1],[1]),([2],[2]),([],[]),([4],[4]),([3,5,2],[3,5]),([6,6,0,1,2,3,4,5,6],[6])])
def bR.B5:List Nat:=[0,1,3,7,0,16,63,127]
theorem bR.aAj:mH .any (opsOf Tryz.f49 5)=bR.T5:=by kernel_rfl
theorem bR.IJ:iY bR.T5.2 bR.B5=true:=by kernel_rfl
def bR.T9:Bool × List (List Nat × List Nat):=(true,[([],[]),([0],[0]),([1],[1]),([],[]),([3],[3]),([4,2],[4]),([2,5],[2,5]),([6,5,0,1,2,3,4,5,6],[6])])
def bR.B9:List Nat:=[0,1,3,0,8,31,63,127]
theorem bR.aLq:mH .any (opsOf Tryz.f49 9)=bR.T9:=by kernel_rfl
theorem bR.aKv:iY bR.T9.2 bR.B9=true:=by kernel_rfl
theorem bR.step (k:Nat) (ih_spec_l13Stmt:∀ m,m < k→bR.dJ m) (ih_spec_l13Block:∀ m,m < k→bL.dJ m):bR.dJ k:=by
 intro j6 jl jm j8 j9 ji jj ja jn jo jc jr js jb r w hr0_5 hc0_5 hr0_6 hc0_6 hr0_7 hc0_7 h;cases k with
 |zero=>exact absurd h (by simp [bR.f])
 |succ k=>
 simp only [bR.f] at h;have hu58:=Tryz.underlying58;have hu56:=Tryz.underlying56;have jv:=am hr0_5;have jw:=am hc0_5;clear hr0_5 hc0_5;have jQ:=am hr0_6;have jR:=am hc0_6;clear hr0_6 hc0_6;have qs:=am hr0_7;have qt:=am hc0_7;clear hr0_7 hc0_7;have HB:=am (Below.refl w.heap.size w);have H:=h;clear h;have HH_:=am H;clear H;go_enter Tryz.func49,Tryz.ntmps49;go_upto_region 1 with (first|((with_reducible refine gD 1 rfl ?_);refine dU rfl (N:=1) rfl (cs:=#[.int .i64 j6,.int .i64 jl,.int .i64 jm,.int .i64 j8,.int .i64 j9,.slice ji ja.length jj,.slice jn jc.length jo,.slice jr jb.length js]) (t:=58) rn_ ?_;intro j4 hg w5 hbox hb;have j3:=am (hbox);have Zv:=am ((by rw [hg];exact (aI eG):w.heap.size≤j4));have GE129:=am ((by rw [hg];exact (aI eG):w.heap.size≤j4));replace HB:=am (aA eG hb);clear hb hbox hg;obtain ⟨QU,QV,QW,QX,QY,QZ,Z0,Z1,Z2,Z3,Z4,Z5,Z6,Z7,Z8,Z9⟩:=fP j3.out));have H:=HH_.out;clear HH_;by_cases c2:j6=1
 ·rw [if_pos c2] at H;have Za:(j6 == 1)=true:=beq_iff_eq.mpr c2;have Zb:(j6 != 1)=false:=bF c2;clear c2;obtain ⟨qq,A3,H⟩:=bsa H;(try dsimp only at H);obtain ⟨jS,hy_⟩:∃ y_:List ByteArray,y_=(([qq,(⟨#[61]⟩:ByteArray)]:List ByteArray)):=⟨_,rfl⟩;replace H:((gH.f k jS j8 j9 ja).bind fun Zc=>(some Zc))=some r:=rx_;have jY:=am hy_;clear hy_;obtain ⟨Zc,A4,H⟩:=bsa H;(try dsimp only at H);obtain rfl:=oI H;try go_wp2
  replace j3:=am (dA j3.out);replace HB:=am (bI HB.out);refine lQ (n:=8) (S:=fun w'=>w'.cell? ⟨j4,0,none⟩=some (.int .i64 j6)∧w'.cell? ⟨j4,1,none⟩=some (.int .i64 jl)∧w'.cell? ⟨j4,2,none⟩=some (.int .i64 jm)∧w'.cell? ⟨j4,3,none⟩=some (.int .i64 j8)∧w'.cell? ⟨j4,4,none⟩=some (.int .i64 j9)∧w'.cell? ⟨j4,5,none⟩=some (.slice ji ja.length jj)∧w'.cell? ⟨j4,6,none⟩=some (.slice jn jc.length jo)∧w'.cell? ⟨j4,7,none⟩=some (.slice jr jb.length js)) (ds:=[]) (bz 8 0) (by kernel_rfl) rfl rfl (mM j3.out) (fun hHeld=>?_);refine iQ bR.aGt bR.TL (fun HT_ HW_=>?_);generalize w5.drew=w7 at j3 HB hHeld ⊢;refine pr_ 0 9 (bz 8 1) HT_ ?_;refine pr_ 4 13 (bz 8 17) HT_ ?_;refine yD 1 10 (bz 8 19) HT_ HW_ hHeld ?_;refine yD 5 14 (bz 8 51) HT_ HW_ hHeld ?_;refine iJ (i:=2) (N:=some 11) (bz 8 55) rfl rfl (eU HT_.out (by kernel_rfl)) (by decide) (fun K hK=>?_);refine iI Tryz.func73 (by kernel_rfl) rfl #[.int .i64 jl] (by rfl) rfl rfl nG ?_
  with_reducible refine (mZ.calls jl qq _ A3.out).mono ?_
  rintro e w8 ⟨rfl,hb⟩;refine ⟨_,rfl,?_⟩;replace j3:=bbP j3 hb;replace HB:=am (aA kW hb);(try clear hb);(try clear hb2);(try clear hk);(try clear hi);refine hK.out _ _ (mM j3.out) (fun hHeld=>?_);clear hK K;refine fC (a':=?_) ?_ ?_;rotate_left;·exact ap_ (N:=11)
  refine iJ (i:=3) (N:=some 12) (bz 8 63) rfl rfl (eU HT_.out (by kernel_rfl)) (by decide) (fun K hK=>?_);refine Kd.nE Kd.string _ 9 rfl (N:=12) rfl (xs:=([qq,(⟨#[61]⟩:ByteArray)]:List ByteArray)) (inner:=[.string qq,.string (⟨#[61]⟩:ByteArray)]) (ok:=fun _=>True) (okp:=fun _=>True) rn_ ?hp (fun _ hk=>hk) trivial (Below.refl _ _) (Nat.le_refl _) (by simp) ?_;(case hp=>exact (dF.one (show Kd.M Kd.string _ _ _ qq [.string qq] from rfl) (dF.one (show Kd.M Kd.string _ _ _ (⟨#[61]⟩:ByteArray) [.string (⟨#[61]⟩:ByteArray)] from rfl) (dF.none _ _))));intro Zz w9 ho10 hb hg_ hnew_;clear hg_ hnew_
  (first|rw [← jY.out] at ho10|(simp only [Int.reduceToNat] at ho10;rw [← jY.out] at ho10))
  have jB:=am (Kd.fB ho10 (aI kW));replace j3:=bbP j3 hb;replace HB:=am (aA kW hb);clear hb ho10;obtain ⟨q9,qa,qu⟩:=Kd.eY jB.out
  (first|subst qu|(injection qu with f1_ f2_ f3_;have f4_:=f1_.symm;have f5_:=f3_.symm;clear f1_ f2_ f3_;subst f4_;subst f5_))
  refine hK.out _ _ (mM j3.out) (fun hHeld=>?_);clear hK K;refine fC (a':=?_) ?_ ?_;rotate_left;·exact ap_ (N:=12)
  refine iJ (i:=6) (N:=some 15) (bz 8 127) rfl rfl (eU HT_.out (by kernel_rfl)) (by decide) (fun K hK=>?_);refine iI Tryz.func72 (by kernel_rfl) rfl #[.slice q9 jS.length qa,.agg #[.int .i64 j8,.int .i64 j9,.slice ji ja.length jj]] (by rfl) rfl rfl nG ?_
  with_reducible refine (gH.calls k (fun k_=>some k_=(.slice q9 jS.length qa:Value).ownBlock) (.slice q9 jS.length qa) jS j8 j9 _ _ ja Zc w _ ?side1 ?side2 ?side3 jw.out A4.out).mono ?_
  (case side1=>exact kW);(case side2=>exact Kd.lT rfl jB.out);(case side3=>exact Kd.wB ER jv.out kW (fun k_ hs_=>(fun e_=>Kd.iN jB.out k_ e_.symm) hs_));rintro e ZW ⟨ZA,rfl,ho0,hb,hkp⟩;refine ⟨_,rfl,?_⟩;replace j3:=am (kS (aG_ j3.out) hkp (fun hs_=>(fun e_=>(Kd.lC jB.out j3.out (by decide)) e_) hs_));have qv:=am (Kd.bN (ok':=fun k_=>True) ho0 (fun k_ hk_=>trivial));replace HB:=am (hb);clear jB;(try clear hb);(try clear hkp);(try clear ho0);refine hK.out _ _ (mM j3.out) (fun hHeld=>?_);clear hK K;refine fC (a':=?_) ?_ ?_;rotate_left;·exact ap_ (N:=15)
  refine pr_ 7 2 (bz 8 255) HT_ ?_;refine nP (lG HT_.out (by kernel_rfl)) ?_;try go_wp2
  go_ret;exact ⟨_,gU,gI qv.out,kW⟩
 rw [if_neg c2] at H;have Za:(j6 == 1)=false:=bE c2;have Zb:(j6 != 1)=true:=bne_iff_ne.mpr c2;by_cases qb:j6=4
 ·rw [if_pos qb] at H;have qw:(j6 == 4)=true:=beq_iff_eq.mpr qb;have qx:(j6 != 4)=false:=bF qb;clear qb;obtain ⟨qr,qy,H⟩:=bsm H;(try dsimp only at H);have ZB:=am qy;clear qy;obtain ⟨jT,hy_⟩:∃ y_:List ByteArray,y_=(([(⟨#[115,101,110,100]⟩:ByteArray),qr]:List ByteArray)):=⟨_,rfl⟩;replace H:((gH.f k jT j8 j9 ja).bind fun Zd=>(some Zd))=some r:=rx_;have jZ:=am hy_;clear hy_;obtain ⟨Zd,qz,H⟩:=bsm H;(try dsimp only at H);have ZC:=am qz;clear qz;obtain rfl:=oI H;try go_wp2
  replace j3:=am (dA j3.out);replace HB:=am (bI HB.out);refine lQ (n:=8) (S:=fun w'=>w'.cell? ⟨j4,0,none⟩=some (.int .i64 j6)∧w'.cell? ⟨j4,1,none⟩=some (.int .i64 jl)∧w'.cell? ⟨j4,2,none⟩=some (.int .i64 jm)∧w'.cell? ⟨j4,3,none⟩=some (.int .i64 j8)∧w'.cell? ⟨j4,4,none⟩=some (.int .i64 j9)∧w'.cell? ⟨j4,5,none⟩=some (.slice ji ja.length jj)∧w'.cell? ⟨j4,6,none⟩=some (.slice jn jc.length jo)∧w'.cell? ⟨j4,7,none⟩=some (.slice jr jb.length js)) (ds:=[]) (bz 8 0) (by kernel_rfl) rfl rfl (mM j3.out) (fun hHeld=>?_);refine iQ bR.aAj bR.IJ (fun HT_ HW_=>?_);generalize w5.drew=ZX at j3 HB hHeld ⊢;refine pr_ 0 18 (bz 8 1) HT_ ?_;refine pr_ 4 22 (bz 8 17) HT_ ?_;refine yD 1 19 (bz 8 19) HT_ HW_ hHeld ?_;refine yD 5 23 (bz 8 51) HT_ HW_ hHeld ?_;refine iJ (i:=2) (N:=some 20) (bz 8 55) rfl rfl (eU HT_.out (by kernel_rfl)) (by decide) (fun K hK=>?_);refine iI Tryz.func24 (by kernel_rfl) rfl #[.int .i64 jm] (by rfl) rfl rfl nG ?_
  with_reducible refine (eB.calls k jm qr _ ZB.out).mono ?_
  rintro e ZY ⟨rfl,hb⟩;refine ⟨_,rfl,?_⟩;replace j3:=bbP j3 hb;replace HB:=am (aA kW hb);(try clear hb);(try clear hb2);(try clear hk);(try clear hi);refine hK.out _ _ (mM j3.out) (fun hHeld=>?_);clear hK K;refine fC (a':=?_) ?_ ?_;rotate_left;·exact ap_ (N:=20)
  refine iJ (i:=3) (N:=some 21) (bz 8 63) rfl rfl (eU HT_.out (by kernel_rfl)) (by decide) (fun K hK=>?_);refine Kd.nE Kd.string _ 9 rfl (N:=21) rfl (xs:=([(⟨#[115,101,110,100]⟩:ByteArray),qr]:List ByteArray)) (inner:=[.string (⟨#[115,101,110,100]⟩:ByteArray),.string qr]) (ok:=fun _=>True) (okp:=fun _=>True) rn_ ?hp (fun _ hk=>hk) trivial (Below.refl _ _) (Nat.le_refl _) (by simp) ?_;(case hp=>exact (dF.one (show Kd.M Kd.string _ _ _ (⟨#[115,101,110,100]⟩:ByteArray) [.string (⟨#[115,101,110,100]⟩:ByteArray)] from rfl) (dF.one (show Kd.M Kd.string _ _ _ qr [.string qr] from rfl) (dF.none _ _))));intro ZD ZZ ho21 hb hg_ hnew_;clear hg_ hnew_
  (first|rw [← jZ.out] at ho21|(simp only [Int.reduceToNat] at ho21;rw [← jZ.out] at ho21))
  have jC:=am (Kd.fB ho21 (aI kW));replace j3:=bbP j3 hb;replace HB:=am (aA kW hb);clear hb ho21;obtain ⟨qc,qd,qA⟩:=Kd.eY jC.out
  (first|subst qA|(injection qA with f1_ f2_ f3_;have f4_:=f1_.symm;have f5_:=f3_.symm;clear f1_ f2_ f3_;subst f4_;subst f5_))
  refine hK.out _ _ (mM j3.out) (fun hHeld=>?_);clear hK K;refine fC (a':=?_) ?_ ?_;rotate_left;·exact ap_ (N:=21)
  refine iJ (i:=6) (N:=some 24) (bz 8 127) rfl rfl (eU HT_.out (by kernel_rfl)) (by decide) (fun K hK=>?_);refine iI Tryz.func72 (by kernel_rfl) rfl #[.slice qc jT.length qd,.agg #[.int .i64 j8,.int .i64 j9,.slice ji ja.length jj]] (by rfl) rfl rfl nG ?_
  with_reducible refine (gH.calls k (fun k_=>some k_=(.slice qc jT.length qd:Value).ownBlock) (.slice qc jT.length qd) jT j8 j9 _ _ ja Zd w _ ?side1 ?side2 ?side3 jw.out ZC.out).mono ?_
  (case side1=>exact kW);(case side2=>exact Kd.lT rfl jC.out);(case side3=>exact Kd.wB ER jv.out kW (fun k_ hs_=>(fun e_=>Kd.iN jC.out k_ e_.symm) hs_));rintro e Y0 ⟨ZE,rfl,ho0,hb,hkp⟩;refine ⟨_,rfl,?_⟩;replace j3:=am (kS (aG_ j3.out) hkp (fun hs_=>(fun e_=>(Kd.lC jC.out j3.out (by decide)) e_) hs_));have qB:=am (Kd.bN (ok':=fun k_=>True) ho0 (fun k_ hk_=>trivial));replace HB:=am (hb);clear jC;(try clear hb);(try clear hkp);(try clear ho0);refine hK.out _ _ (mM j3.out) (fun hHeld=>?_);clear hK K;refine fC (a':=?_) ?_ ?_;rotate_left;·exact ap_ (N:=24)
  refine pr_ 7 2 (bz 8 255) HT_ ?_;refine nP (lG HT_.out (by kernel_rfl)) ?_;try go_wp2
  go_ret;exact ⟨_,gU,gI qB.out,kW⟩
 rw [if_neg qb] at H;have qw:(j6 == 4)=false:=bE qb;have qx:(j6 != 4)=true:=bne_iff_ne.mpr qb;by_cases qe:j6=7
 ·rw [if_pos qe] at H;have qC:(j6 == 7)=true:=beq_iff_eq.mpr qe;have qD:(j6 != 7)=false:=bF qe;clear qe;obtain ⟨jU,hy_⟩:∃ y_:List ByteArray,y_=(([(⟨#[112,114,105,110,116]⟩:ByteArray)]:List ByteArray)):=⟨_,rfl⟩;replace H:((gH.f k jU j8 j9 ja).bind fun Ze=>(some Ze))=some r:=rx_;have q0:=am hy_;clear hy_;obtain ⟨Ze,qE,H⟩:=bsm H;(try dsimp only at H);have ZF:=am qE;clear qE;obtain rfl:=oI H;go_wp2_with (first|((with_reducible refine gD 27 rfl ?_);refine Kd.oL Kd.string _ 9 rfl (N:=27) rfl (xs:=([(⟨#[112,114,105,110,116]⟩:ByteArray)]:List ByteArray)) (inner:=[.string (⟨#[112,114,105,110,116]⟩:ByteArray)]) (ok:=fun _=>True) (okp:=fun _=>True) rn_ ?hp (fun _ hk=>hk) trivial (Below.refl _ _) (Nat.le_refl _) (by simp) ?_;(case hp=>exact (dF.one (show Kd.M Kd.string _ _ _ (⟨#[112,114,105,110,116]⟩:ByteArray) [.string (⟨#[112,114,105,110,116]⟩:ByteArray)] from rfl) (dF.none _ _)));intro ZG Y1 ho29 hb hg_ hnew_;clear hg_ hnew_;(first|rw [← q0.out] at ho29|(simp only [Int.reduceToNat] at ho29;rw [← q0.out] at ho29));have jD:=am (Kd.fB ho29 (aI kW));replace j3:=bbP j3 hb;replace HB:=am (aA kW hb);clear hb ho29;obtain ⟨zu,zv,zw,zx,zy,zz,zA,zB,zC,zD,zE,zF,zG,zH,zI,zJ⟩:=fP j3.out;obtain ⟨qf,qg,Zf⟩:=Kd.eY jD.out;subst Zf)|((with_reducible refine gC 72 rfl ?_);refine gl_ 30 Tryz.func72 #[.slice qf jU.length qg,.agg #[.int .i64 j8,.int .i64 j9,.slice ji ja.length jj]] ?_;(with_reducible refine (gH.calls k (fun k_=>some k_=(.slice qf jU.length qg:Value).ownBlock) (.slice qf jU.length qg) jU j8 j9 _ _ ja Ze w _ ?side1 ?side2 ?side3 jw.out ZF.out).mono ?_);(case side1=>exact kW);(case side2=>exact Kd.lT rfl jD.out);(case side3=>exact Kd.wB ER jv.out kW (fun k_ hs_=>(fun e_=>Kd.iN jD.out k_ e_.symm) hs_));rintro e Y2 ⟨ZH,rfl,ho0,hb,hkp⟩;refine ⟨_,rfl,?_⟩;replace j3:=am (kS (aG_ j3.out) hkp (fun hs_=>(fun e_=>(Kd.lC jD.out j3.out (by decide)) e_) hs_));have qF:=am (Kd.bN (ok':=fun k_=>True) ho0 (fun k_ hk_=>trivial));replace HB:=am (hb);clear jD;(try clear hb);(try clear hkp);(try clear ho0)));go_ret;exact ⟨_,gU,gI qF.out,kW⟩
 rw [if_neg qe] at H;have qC:(j6 == 7)=false:=bE qe;have qD:(j6 != 7)=true:=bne_iff_ne.mpr qe;by_cases qh:j6=5
 ·rw [if_pos qh] at H;have qG:(j6 == 5)=true:=beq_iff_eq.mpr qh;have qH:(j6 != 5)=false:=bF qh;clear qh;obtain ⟨jN,qI,H⟩:=bsm H;(try dsimp only at H);have ZI:=am qI;clear qI;obtain ⟨jO,qJ,H⟩:=bsm H;(try dsimp only at H);have ZJ:=am qJ;clear qJ;obtain ⟨Zg,hy_⟩:∃ y_:List ByteArray,y_=(([(⟨#[114,101,99,118]⟩:ByteArray),jN,jO,(⟨#[59]⟩:ByteArray)]:List ByteArray)):=⟨_,rfl⟩;replace H:(some Zg)=some r:=rx_;have q1:=am hy_;clear hy_;obtain rfl:=oI H;try go_wp2
  replace j3:=am (dA j3.out);replace HB:=am (bI HB.out);refine lQ (n:=8) (S:=fun w'=>w'.cell? ⟨j4,0,none⟩=some (.int .i64 j6)∧w'.cell? ⟨j4,1,none⟩=some (.int .i64 jl)∧w'.cell? ⟨j4,2,none⟩=some (.int .i64 jm)∧w'.cell? ⟨j4,3,none⟩=some (.int .i64 j8)∧w'.cell? ⟨j4,4,none⟩=some (.int .i64 j9)∧w'.cell? ⟨j4,5,none⟩=some (.slice ji ja.length jj)∧w'.cell? ⟨j4,6,none⟩=some (.slice jn jc.length jo)∧w'.cell? ⟨j4,7,none⟩=some (.slice jr jb.length js)) (ds:=[]) (bz 8 0) (by kernel_rfl) rfl rfl (mM j3.out) (fun hHeld=>?_);refine iQ bR.aLq bR.aKv (fun HT_ HW_=>?_);generalize w5.drew=Y3 at j3 HB hHeld ⊢;refine pr_ 0 33 (bz 8 1) HT_ ?_;refine pr_ 3 36 (bz 8 9) HT_ ?_;refine yD 1 34 (bz 8 11) HT_ HW_ hHeld ?_;refine yD 4 37 (bz 8 27) HT_ HW_ hHeld ?_;refine iJ (i:=2) (N:=some 35) (bz 8 31) rfl rfl (eU HT_.out (by kernel_rfl)) (by decide) (fun K hK=>?_);refine iI Tryz.func24 (by kernel_rfl) rfl #[.int .i64 jm] (by rfl) rfl rfl nG ?_
  with_reducible refine (eB.calls k jm jN _ ZI.out).mono ?_
  rintro e Y4 ⟨rfl,hb⟩;refine ⟨_,rfl,?_⟩;replace j3:=bbP j3 hb;replace HB:=am (aA kW hb);(try clear hb);(try clear hb2);(try clear hk);(try clear hi);refine hK.out _ _ (mM j3.out) (fun hHeld=>?_);clear hK K;refine fC (a':=?_) ?_ ?_;rotate_left;·exact ap_ (N:=35)
  refine iJ (i:=5) (N:=some 38) (bz 8 63) rfl rfl (eU HT_.out (by kernel_rfl)) (by decide) (fun K hK=>?_);refine iI Tryz.func73 (by kernel_rfl) rfl #[.int .i64 jl] (by rfl) rfl rfl nG ?_
  with_reducible refine (mZ.calls jl jO _ ZJ.out).mono ?_
  rintro e Y5 ⟨rfl,hb⟩;refine ⟨_,rfl,?_⟩;replace j3:=bbP j3 hb;replace HB:=am (aA kW hb);(try clear hb);(try clear hb2);(try clear hk);(try clear hi);refine hK.out _ _ (mM j3.out) (fun hHeld=>?_);clear hK K;refine fC (a':=?_) ?_ ?_;rotate_left;·exact ap_ (N:=38)
  refine iJ (i:=6) (N:=some 39) (bz 8 127) rfl rfl (eU HT_.out (by kernel_rfl)) (by decide) (fun K hK=>?_);refine Kd.nE Kd.string _ 9 rfl (N:=39) rfl (xs:=([(⟨#[114,101,99,118]⟩:ByteArray),jN,jO,(⟨#[59]⟩:ByteArray)]:List ByteArray)) (inner:=[.string (⟨#[114,101,99,118]⟩:ByteArray),.string jN,.string jO,.string (⟨#[59]⟩:ByteArray)]) (ok:=fun _=>True) (okp:=fun _=>True) rn_ ?hp (fun _ hk=>hk) trivial (Below.refl _ _) (Nat.le_refl _) (by simp) ?_;(case hp=>exact (dF.one (show Kd.M Kd.string _ _ _ (⟨#[114,101,99,118]⟩:ByteArray) [.string (⟨#[114,101,99,118]⟩:ByteArray)] from rfl) (dF.one (show Kd.M Kd.string _ _ _ jN [.string jN] from rfl) (dF.one (show Kd.M Kd.string _ _ _ jO [.string jO] from rfl) (dF.one (show Kd.M Kd.string _ _ _ (⟨#[59]⟩:ByteArray) [.string (⟨#[59]⟩:ByteArray)] from rfl) (dF.none _ _))))));intro ZK Y6 ho42 hb hg_ hnew_;clear hg_ hnew_
  (first|rw [← q1.out] at ho42|(simp only [Int.reduceToNat] at ho42;rw [← q1.out] at ho42))
  have qK:=am (Kd.fB ho42 (aI kW));replace j3:=bbP j3 hb;replace HB:=am (aA kW hb);clear hb ho42;refine hK.out _ _ (mM j3.out) (fun hHeld=>?_);clear hK K;refine fC (a':=?_) ?_ ?_;rotate_left;·exact ap_ (N:=39)
  refine pr_ 7 2 (bz 8 255) HT_ ?_;refine nP (lG HT_.out (by kernel_rfl)) ?_;try go_wp2
  go_ret;exact ⟨_,gU,gI qK.out,kW⟩
 rw [if_neg qh] at H;have qG:(j6 == 5)=false:=bE qh;have qH:(j6 != 5)=true:=bne_iff_ne.mpr qh;by_cases qi:j6=6
 ·rw [if_pos qi] at H;have qL:(j6 == 6)=true:=beq_iff_eq.mpr qi;have qM:(j6 != 6)=false:=bF qi;clear qi;obtain ⟨Zh,hy_⟩:∃ y_:List ByteArray,y_=(([(⟨#[121,105,101,108,100]⟩:ByteArray),(⟨#[59]⟩:ByteArray)]:List ByteArray)):=⟨_,rfl⟩;replace H:(some Zh)=some r:=rx_;have q2:=am hy_;clear hy_;obtain rfl:=oI H;go_wp2_with (first|((with_reducible refine gD 42 rfl ?_);refine Kd.oL Kd.string _ 9 rfl (N:=42) rfl (xs:=([(⟨#[121,105,101,108,100]⟩:ByteArray),(⟨#[59]⟩:ByteArray)]:List ByteArray)) (inner:=[.string (⟨#[121,105,101,108,100]⟩:ByteArray),.string (⟨#[59]⟩:ByteArray)]) (ok:=fun _=>True) (okp:=fun _=>True) rn_ ?hp (fun _ hk=>hk) trivial (Below.refl _ _) (Nat.le_refl _) (by simp) ?_;(case hp=>exact (dF.one (show Kd.M Kd.string _ _ _ (⟨#[121,105,101,108,100]⟩:ByteArray) [.string (⟨#[121,105,101,108,100]⟩:ByteArray)] from rfl) (dF.one (show Kd.M Kd.string _ _ _ (⟨#[59]⟩:ByteArray) [.string (⟨#[59]⟩:ByteArray)] from rfl) (dF.none _ _))));intro ZL Y7 ho47 hb hg_ hnew_;clear hg_ hnew_;(first|rw [← q2.out] at ho47|(simp only [Int.reduceToNat] at ho47;rw [← q2.out] at ho47));have qN:=am (Kd.fB ho47 (aI kW));replace j3:=bbP j3 hb;replace HB:=am (aA kW hb);clear hb ho47));go_ret;exact ⟨_,gU,gI qN.out,kW⟩
 rw [if_neg qi] at H;have qL:(j6 == 6)=false:=bE qi;have qM:(j6 != 6)=true:=bne_iff_ne.mpr qi;by_cases qj:j6=3
 ·rw [if_pos qj] at H;have qO:(j6 == 3)=true:=beq_iff_eq.mpr qj;have qP:(j6 != 3)=false:=bF qj;clear qj;obtain ⟨jV,hy_⟩:∃ y_:List ByteArray,y_=(([(⟨#[119,104,105,108,101]⟩:ByteArray)]:List ByteArray)):=⟨_,rfl⟩;replace H:((bM.f k j8 j9 ja).bind fun ju=>(if jV.length + ju.length < 8796093022208 then ((some (jV ++ ju:List ByteArray)).bind fun jE=>((bL.f k jc).bind fun jt=>(if jE.length + jt.length < 8796093022208 then (some (jE ++ jt)) else (none)))) else (none)))=some r:=rx_;have q3:=am hy_;clear hy_;obtain ⟨ju,qQ,H⟩:=bsm H;(try dsimp only at H);have ZM:=am qQ;clear qQ;by_cases zK:jV.length + ju.length < 8796093022208
  ·rw [if_pos zK] at H;have qR:=am zK;clear zK;obtain ⟨jE,hy_⟩:∃ y_:List ByteArray,y_=(jV ++ ju):=⟨_,rfl⟩;replace H:((bL.f k jc).bind fun jt=>(if jE.length + jt.length < 8796093022208 then (some (jE ++ jt)) else (none)))=some r:=rx_;have qS:=am hy_;clear hy_;obtain ⟨jt,qT,H⟩:=bsm H;(try dsimp only at H);have ZN:=am qT;clear qT;by_cases zL:jE.length + jt.length < 8796093022208
   ·rw [if_pos zL] at H;have qU:=am zL;clear zL;obtain ⟨Zi,hy_⟩:∃ y_:List ByteArray,y_=(jE ++ jt):=⟨_,rfl⟩;replace H:(some Zi)=some r:=rx_;have qV:=am hy_;clear hy_;obtain rfl:=oI H;go_wp2_with (first|((with_reducible refine gD 45 rfl ?_);refine Kd.oL Kd.string _ 9 rfl (N:=45) rfl (xs:=([(⟨#[119,104,105,108,101]⟩:ByteArray)]:List ByteArray)) (inner:=[.string (⟨#[119,104,105,108,101]⟩:ByteArray)]) (ok:=fun _=>True) (okp:=fun _=>True) rn_ ?hp (fun _ hk=>hk) trivial (Below.refl _ _) (Nat.le_refl _) (by simp) ?_;(case hp=>exact (dF.one (show Kd.M Kd.string _ _ _ (⟨#[119,104,105,108,101]⟩:ByteArray) [.string (⟨#[119,104,105,108,101]⟩:ByteArray)] from rfl) (dF.none _ _)));intro Zj Y8 ho56 hb hg_ hnew_;clear hg_ hnew_;(first|rw [← q3.out] at ho56|(simp only [Int.reduceToNat] at ho56;rw [← q3.out] at ho56));have jx:=am (Kd.fB ho56 (aI kW));replace j3:=bbP j3 hb;replace HB:=am (aA kW hb);clear hb ho56;obtain ⟨zM,zN,zO,zP,zQ,zR,zS,zT,zU,zV,zW,zX,zY,zZ,J0,J1⟩:=fP j3.out)|((with_reducible refine gC 74 rfl ?_);refine gl_ 48 Tryz.func74 #[.agg #[.int .i64 j8,.int .i64 j9,.slice ji ja.length jj]] ?_;(with_reducible refine (bM.calls k j8 j9 _ _ ja ju _ (aC_ (Kd.aX jv.out HB.out)) jw.out ZM.out).mono ?_);rintro e Y9 ⟨ZO,rfl,ho0,hb⟩;refine ⟨_,rfl,?_⟩;have jk:=am (Kd.fB (Kd.lF ho0 (Kd.iG (aR_ jx.out))) (aI kW));replace jx:=am (Kd.iD (aR_ jx.out) (Kd.iN ho0) hb);replace j3:=bbP j3 hb;replace HB:=am (aA kW hb);(try clear hb);(try clear ho0);obtain ⟨qk,ql,Zk⟩:=Kd.eY jk.out;subst Zk)|((with_reducible refine dV (b:=.append) (xs:=#[.tmp 45,.tmp 48]) rfl ?_);at_builtin;refine Kd.gY Kd.string (w0:=w) w.heap.size rfl (.tmp 45) (.tmp 48) 29 9 (.string ⟨#[]⟩) 16 rfl Tryz.underlying29 kU rfl (by decide) (by omega) Zj jV ju _ _ _ (fun k_=>some k_≠(.slice qk ju.length ql:Value).ownBlock) (fun _=>False) rfl rfl ?aO ?aR (fun _ _ h=>h) (fun _ h=>h.elim) ?aF ?aB ?aS ?aL ?_;(case aR=>repeat (first|exact (Kd.eX jk.out).2.2|(with_reducible refine Kd.lS ?_ _)|(with_reducible refine Kd.kZ ?_ _)|(with_reducible refine Kd.mP ?_)));(case aB=>exact kW);(case aF=>exact (fun k_ hk=>Kd.fresh' (Kd.iG (aR_ jk.out)) k_ hk));(case aO=>exact (gI (Kd.bN jx.out (fun _ hk=>hk.2))));(case aS=>exact (aI kW));(case aL=>have:=qR.out;omega);intro Zl Ya ho hb hg hat;rw [← qS.out] at ho;replace j3:=am (dL (g:=j4) (o:=.cells #[.int .i64 j6,.int .i64 jl,.int .i64 jm,.int .i64 j8,.int .i64 j9,.slice ji ja.length jj,.slice jn jc.length jo,.slice jr jb.length js] 58 (0,0)) (aG_ j3.out) hg (Kd.lC jx.out j3.out (by decide)));replace jk:=am (Kd.iX (ok:=(fun _=>True)) (aR_ jk.out) hg hat);replace HB:=am (hb);have jy:=am (ho);clear jx ho hb hg hat;obtain ⟨J2,J3,J4,J5,J6,J7,J8,J9,Ja,Jb,Jc,Jd,Je,Jf,Jg,Jh⟩:=fP j3.out)|((with_reducible refine gC 25 rfl ?_);refine gl_ 53 Tryz.func25 #[.slice jn jc.length jo] ?_;(with_reducible refine (ih_spec_l13Block k (by omega) _ _ jc jt _ (aC_ (Kd.aX jQ.out HB.out)) jR.out ZN.out).mono ?_);rintro e Yb ⟨ZP,rfl,ho0,hb⟩;refine ⟨_,rfl,?_⟩;have jF:=am (Kd.fB (Kd.lF (Kd.lF ho0 (Kd.iG (aR_ jk.out))) (Kd.iG (aR_ jy.out))) (aI kW));replace jk:=am (Kd.iD (aR_ jk.out) (Kd.iN ho0) hb);replace jy:=am (Kd.iD (aR_ jy.out) (Kd.iN ho0) hb);replace j3:=bbP j3 hb;replace HB:=am (aA kW hb);(try clear hb);(try clear ho0);obtain ⟨qW,qX,Zm⟩:=Kd.eY jF.out;subst Zm)|((with_reducible refine dV (b:=.append) (xs:=#[.tmp 50,.tmp 53]) rfl ?_);at_builtin;refine Kd.gY Kd.string (w0:=w) w.heap.size rfl (.tmp 50) (.tmp 53) 29 9 (.string ⟨#[]⟩) 16 rfl Tryz.underlying29 kU rfl (by decide) (by omega) Zl jE jt _ _ _ (fun k_=>some k_≠(.slice qk ju.length ql:Value).ownBlock∧some k_≠(.slice qW jt.length qX:Value).ownBlock) (fun _=>False) rfl rfl ?aO ?aR (fun _ _ h=>h) (fun _ h=>h.elim) ?aF ?aB ?aS ?aL ?_;(case aR=>repeat (first|exact (Kd.eX jF.out).2.2|(with_reducible refine Kd.lS ?_ _)|(with_reducible refine Kd.kZ ?_ _)|(with_reducible refine Kd.mP ?_)));(case aB=>exact kW);(case aF=>exact (fun k_ hk=>⟨Kd.fresh' (Kd.iG (aR_ jk.out)) k_ hk,Kd.fresh' (Kd.iG (aR_ jF.out)) k_ hk⟩));(case aO=>exact (aR_ jy.out));(case aS=>exact (aI kW));(case aL=>have:=qU.out;omega);intro ZQ Yc ho hb hg hat;rw [← qV.out] at ho;replace j3:=am (dL (g:=j4) (o:=.cells #[.int .i64 j6,.int .i64 jl,.int .i64 jm,.int .i64 j8,.int .i64 j9,.slice ji ja.length jj,.slice jn jc.length jo,.slice jr jb.length js] 58 (0,0)) (aG_ j3.out) hg (Kd.lC jy.out j3.out (by decide)));replace jk:=am (Kd.iX (ok:=(fun k_=>some k_≠(.slice qW jt.length qX:Value).ownBlock)) (gI (Kd.bN jk.out (fun _ hk=>⟨hk.2,hk.1.2⟩))) hg hat);replace jF:=am (Kd.iX (ok:=(fun k_=>some k_≠(.slice qk ju.length ql:Value).ownBlock)) (gI (Kd.bN jF.out (fun _ hk=>⟨hk.1.2,hk.2⟩))) hg hat);replace HB:=am (hb);have qY:=am (ho);clear jy ho hb hg hat));go_ret;exact ⟨_,gU,gI (Kd.bN qY.out (fun _ hk=>trivial)),kW⟩
   rw [if_neg zL] at H;cases H
  rw [if_neg zK] at H;cases H
 rw [if_neg qj] at H;have qO:(j6 == 3)=false:=bE qj;have qP:(j6 != 3)=true:=bne_iff_ne.mpr qj;obtain ⟨jP,hy_⟩:∃ y_:List ByteArray,y_=(([(⟨#[105,102]⟩:ByteArray)]:List ByteArray)):=⟨_,rfl⟩;replace H:((bM.f k j8 j9 ja).bind fun je=>(if jP.length + je.length < 8796093022208 then ((some (jP ++ je:List ByteArray)).bind fun jA=>((bL.f k jc).bind fun jd=>(if jA.length + jd.length < 8796093022208 then ((some (jA ++ jd:List ByteArray)).bind fun jp=>(if (jb.length:Int)=0 then (some jp) else (if jp.length < 8796093022208 then ((some (jp ++ [(⟨#[101,108,115,101]⟩:ByteArray)]:List ByteArray)).bind fun jq=>((bL.f k jb).bind fun jh=>(if jq.length + jh.length < 8796093022208 then (some (jq ++ jh)) else (none)))) else (none)))) else (none)))) else (none)))=some r:=rx_;have jM:=am hy_;clear hy_;obtain ⟨je,qZ,H⟩:=bsm H;(try dsimp only at H);have Zw:=am qZ;clear qZ;by_cases Ji:jP.length + je.length < 8796093022208
 ·rw [if_pos Ji] at H;have q4:=am Ji;clear Ji;obtain ⟨jA,hy_⟩:∃ y_:List ByteArray,y_=(jP ++ je):=⟨_,rfl⟩;replace H:((bL.f k jc).bind fun jd=>(if jA.length + jd.length < 8796093022208 then ((some (jA ++ jd:List ByteArray)).bind fun jp=>(if (jb.length:Int)=0 then (some jp) else (if jp.length < 8796093022208 then ((some (jp ++ [(⟨#[101,108,115,101]⟩:ByteArray)]:List ByteArray)).bind fun jq=>((bL.f k jb).bind fun jh=>(if jq.length + jh.length < 8796093022208 then (some (jq ++ jh)) else (none)))) else (none)))) else (none)))=some r:=rx_;have q5:=am hy_;clear hy_;obtain ⟨jd,z0,H⟩:=bsm H;(try dsimp only at H);have Zx:=am z0;clear z0;by_cases Jj:jA.length + jd.length < 8796093022208
  ·rw [if_pos Jj] at H;have q6:=am Jj;clear Jj;obtain ⟨jp,hy_⟩:∃ y_:List ByteArray,y_=(jA ++ jd):=⟨_,rfl⟩;replace H:(if (jb.length:Int)=0 then (some jp) else (if jp.length < 8796093022208 then ((some (jp ++ [(⟨#[101,108,115,101]⟩:ByteArray)]:List ByteArray)).bind fun jq=>((bL.f k jb).bind fun jh=>(if jq.length + jh.length < 8796093022208 then (some (jq ++ jh)) else (none)))) else (none)))=some r:=rx_;have q7:=am hy_;clear hy_;by_cases q8:(jb.length:Int)=0
   ·rw [if_pos q8] at H;have z1:((jb.length:Int) == 0)=true:=beq_iff_eq.mpr q8;have z2:((jb.length:Int) != 0)=false:=bF q8;clear q8;obtain rfl:=oI H;go_wp2_with (first|((with_reducible refine gD 55 rfl ?_);refine Kd.oL Kd.string _ 9 rfl (N:=55) rfl (xs:=([(⟨#[105,102]⟩:ByteArray)]:List ByteArray)) (inner:=[.string (⟨#[105,102]⟩:ByteArray)]) (ok:=fun _=>True) (okp:=fun _=>True) rn_ ?hp (fun _ hk=>hk) trivial (Below.refl _ _) (Nat.le_refl _) (by simp) ?_;(case hp=>exact (dF.one (show Kd.M Kd.string _ _ _ (⟨#[105,102]⟩:ByteArray) [.string (⟨#[105,102]⟩:ByteArray)] from rfl) (dF.none _ _)));intro qm Yd ho73 hb hg_ hnew_;clear hg_ hnew_;(first|rw [← jM.out] at ho73|(simp only [Int.reduceToNat] at ho73;rw [← jM.out] at ho73));have jf:=am (Kd.fB ho73 (aI kW));replace j3:=bbP j3 hb;replace HB:=am (aA kW hb);clear hb ho73;obtain ⟨Jk,Jl,Jm,Jn,Jo,Jp,Jq,Jr,Js,Jt,Ju,Jv,Jw,Jx,Jy,Jz⟩:=fP j3.out)|((with_reducible refine gC 74 rfl ?_);refine gl_ 58 Tryz.func74 #[.agg #[.int .i64 j8,.int .i64 j9,.slice ji ja.length jj]] ?_;(with_reducible refine (bM.calls k j8 j9 _ _ ja je _ (aC_ (Kd.aX jv.out HB.out)) jw.out Zw.out).mono ?_);rintro e Ye ⟨Zn,rfl,ho0,hb⟩;refine ⟨_,rfl,?_⟩;have j5:=am (Kd.fB (Kd.lF ho0 (Kd.iG (aR_ jf.out))) (aI kW));replace jf:=am (Kd.iD (aR_ jf.out) (Kd.iN ho0) hb);replace j3:=bbP j3 hb;replace HB:=am (aA kW hb);(try clear hb);(try clear ho0);obtain ⟨qn,qo,Zo⟩:=Kd.eY j5.out;subst Zo)|((with_reducible refine dV (b:=.append) (xs:=#[.tmp 55,.tmp 58]) rfl ?_);at_builtin;refine Kd.gY Kd.string (w0:=w) w.heap.size rfl (.tmp 55) (.tmp 58) 29 9 (.string ⟨#[]⟩) 16 rfl Tryz.underlying29 kU rfl (by decide) (by omega) qm jP je _ _ _ (fun k_=>some k_≠(.slice qn je.length qo:Value).ownBlock) (fun _=>False) rfl rfl ?aO ?aR (fun _ _ h=>h) (fun _ h=>h.elim) ?aF ?aB ?aS ?aL ?_;(case aR=>repeat (first|exact (Kd.eX j5.out).2.2|(with_reducible refine Kd.lS ?_ _)|(with_reducible refine Kd.kZ ?_ _)|(with_reducible refine Kd.mP ?_)));(case aB=>exact kW);(case aF=>exact (fun k_ hk=>Kd.fresh' (Kd.iG (aR_ j5.out)) k_ hk));(case aO=>exact (gI (Kd.bN jf.out (fun _ hk=>hk.2))));(case aS=>exact (aI kW));(case aL=>have:=q4.out;omega);intro qp Yf ho hb hg hat;rw [← q5.out] at ho;replace j3:=am (dL (g:=j4) (o:=.cells #[.int .i64 j6,.int .i64 jl,.int .i64 jm,.int .i64 j8,.int .i64 j9,.slice ji ja.length jj,.slice jn jc.length jo,.slice jr jb.length js] 58 (0,0)) (aG_ j3.out) hg (Kd.lC jf.out j3.out (by decide)));replace j5:=am (Kd.iX (ok:=(fun _=>True)) (aR_ j5.out) hg hat);replace HB:=am (hb);have jg:=am (ho);clear jf ho hb hg hat;obtain ⟨JA,JB,JC,JD,JE,JF,JG,JH,JI,JJ,JK,JL,JM,JN,JO,JP⟩:=fP j3.out)|((with_reducible refine gC 25 rfl ?_);refine gl_ 63 Tryz.func25 #[.slice jn jc.length jo] ?_;(with_reducible refine (ih_spec_l13Block k (by omega) _ _ jc jd _ (aC_ (Kd.aX jQ.out HB.out)) jR.out Zx.out).mono ?_);rintro e Yg ⟨Zp,rfl,ho0,hb⟩;refine ⟨_,rfl,?_⟩;have j7:=am (Kd.fB (Kd.lF (Kd.lF ho0 (Kd.iG (aR_ j5.out))) (Kd.iG (aR_ jg.out))) (aI kW));replace j5:=am (Kd.iD (aR_ j5.out) (Kd.iN ho0) hb);replace jg:=am (Kd.iD (aR_ jg.out) (Kd.iN ho0) hb);replace j3:=bbP j3 hb;replace HB:=am (aA kW hb);(try clear hb);(try clear ho0);obtain ⟨z3,z4,Zq⟩:=Kd.eY j7.out;subst Zq)|((with_reducible refine dV (b:=.append) (xs:=#[.tmp 60,.tmp 63]) rfl ?_);at_builtin;refine Kd.gY Kd.string (w0:=w) w.heap.size rfl (.tmp 60) (.tmp 63) 29 9 (.string ⟨#[]⟩) 16 rfl Tryz.underlying29 kU rfl (by decide) (by omega) qp jA jd _ _ _ (fun k_=>some k_≠(.slice qn je.length qo:Value).ownBlock∧some k_≠(.slice z3 jd.length z4:Value).ownBlock) (fun _=>False) rfl rfl ?aO ?aR (fun _ _ h=>h) (fun _ h=>h.elim) ?aF ?aB ?aS ?aL ?_;(case aR=>repeat (first|exact (Kd.eX j7.out).2.2|(with_reducible refine Kd.lS ?_ _)|(with_reducible refine Kd.kZ ?_ _)|(with_reducible refine Kd.mP ?_)));(case aB=>exact kW);(case aF=>exact (fun k_ hk=>⟨Kd.fresh' (Kd.iG (aR_ j5.out)) k_ hk,Kd.fresh' (Kd.iG (aR_ j7.out)) k_ hk⟩));(case aO=>exact (aR_ jg.out));(case aS=>exact (aI kW));(case aL=>have:=q6.out;omega);intro z5 Yh ho hb hg hat;rw [← q7.out] at ho;replace j3:=am (dL (g:=j4) (o:=.cells #[.int .i64 j6,.int .i64 jl,.int .i64 jm,.int .i64 j8,.int .i64 j9,.slice ji ja.length jj,.slice jn jc.length jo,.slice jr jb.length js] 58 (0,0)) (aG_ j3.out) hg (Kd.lC jg.out j3.out (by decide)));replace j5:=am (Kd.iX (ok:=(fun k_=>some k_≠(.slice z3 jd.length z4:Value).ownBlock)) (gI (Kd.bN j5.out (fun _ hk=>⟨hk.2,hk.1.2⟩))) hg hat);replace j7:=am (Kd.iX (ok:=(fun k_=>some k_≠(.slice qn je.length qo:Value).ownBlock)) (gI (Kd.bN j7.out (fun _ hk=>⟨hk.1.2,hk.2⟩))) hg hat);replace HB:=am (hb);have jG:=am (ho);clear jg ho hb hg hat;obtain ⟨JQ,JR,JS,JT,JU,JV,JW,JX,JY,JZ,Q0,Q1,Q2,Q3,Q4,Q5⟩:=fP j3.out));go_ret;exact ⟨_,gU,gI (Kd.bN jG.out (fun _ hk=>trivial)),kW⟩
   rw [if_neg q8] at H;have z1:((jb.length:Int) == 0)=false:=bE q8;have z2:((jb.length:Int) != 0)=true:=bne_iff_ne.mpr q8;have Zy:¬ (jb=[]):=fun h_=>q8 (by rw [h_];rfl)
   by_cases Q6:jp.length < 8796093022208
   ·rw [if_pos Q6] at H;have z6:=am Q6;clear Q6;obtain ⟨jq,hy_⟩:∃ y_:List ByteArray,y_=(jp ++ [(⟨#[101,108,115,101]⟩:ByteArray)]):=⟨_,rfl⟩;replace H:((bL.f k jb).bind fun jh=>(if jq.length + jh.length < 8796093022208 then (some (jq ++ jh)) else (none)))=some r:=rx_;have z7:=am hy_;clear hy_;obtain ⟨jh,z8,H⟩:=bsm H;(try dsimp only at H);have ZR:=am z8;clear z8;by_cases Q7:jq.length + jh.length < 8796093022208
    ·rw [if_pos Q7] at H;have z9:=am Q7;clear Q7;obtain ⟨Zr,hy_⟩:∃ y_:List ByteArray,y_=(jq ++ jh):=⟨_,rfl⟩;replace H:(some Zr)=some r:=rx_;have za:=am hy_;clear hy_;obtain rfl:=oI H;go_wp2_with (first|((with_reducible refine gD 55 rfl ?_);refine Kd.oL Kd.string _ 9 rfl (N:=55) rfl (xs:=([(⟨#[105,102]⟩:ByteArray)]:List ByteArray)) (inner:=[.string (⟨#[105,102]⟩:ByteArray)]) (ok:=fun _=>True) (okp:=fun _=>True) rn_ ?hp (fun _ hk=>hk) trivial (Below.refl _ _) (Nat.le_refl _) (by simp) ?_;(case hp=>exact (dF.one (show Kd.M Kd.string _ _ _ (⟨#[105,102]⟩:ByteArray) [.string (⟨#[105,102]⟩:ByteArray)] from rfl) (dF.none _ _)));intro qm Yi ho89 hb hg_ hnew_;clear hg_ hnew_;(first|rw [← jM.out] at ho89|(simp only [Int.reduceToNat] at ho89;rw [← jM.out] at ho89));have jf:=am (Kd.fB ho89 (aI kW));replace j3:=bbP j3 hb;replace HB:=am (aA kW hb);clear hb ho89;obtain ⟨Q8,Q9,Qa,Qb,Qc,Qd,Qe,Qf,Qg,Qh,Qi,Qj,Qk,Ql,Qm,Qn⟩:=fP j3.out)|((with_reducible refine gC 74 rfl ?_);refine gl_ 58 Tryz.func74 #[.agg #[.int .i64 j8,.int .i64 j9,.slice ji ja.length jj]] ?_;(with_reducible refine (bM.calls k j8 j9 _ _ ja je _ (aC_ (Kd.aX jv.out HB.out)) jw.out Zw.out).mono ?_);rintro e Yj ⟨Zn,rfl,ho0,hb⟩;refine ⟨_,rfl,?_⟩;have j5:=am (Kd.fB (Kd.lF ho0 (Kd.iG (aR_ jf.out))) (aI kW));replace jf:=am (Kd.iD (aR_ jf.out) (Kd.iN ho0) hb);replace j3:=bbP j3 hb;replace HB:=am (aA kW hb);(try clear hb);(try clear ho0);obtain ⟨jH,jI,Zs⟩:=Kd.eY j5.out;subst Zs)|((with_reducible refine dV (b:=.append) (xs:=#[.tmp 55,.tmp 58]) rfl ?_);at_builtin;refine Kd.gY Kd.string (w0:=w) w.heap.size rfl (.tmp 55) (.tmp 58) 29 9 (.string ⟨#[]⟩) 16 rfl Tryz.underlying29 kU rfl (by decide) (by omega) qm jP je _ _ _ (fun k_=>some k_≠(.slice jH je.length jI:Value).ownBlock) (fun _=>False) rfl rfl ?aO ?aR (fun _ _ h=>h) (fun _ h=>h.elim) ?aF ?aB ?aS ?aL ?_;(case aR=>repeat (first|exact (Kd.eX j5.out).2.2|(with_reducible refine Kd.lS ?_ _)|(with_reducible refine Kd.kZ ?_ _)|(with_reducible refine Kd.mP ?_)));(case aB=>exact kW);(case aF=>exact (fun k_ hk=>Kd.fresh' (Kd.iG (aR_ j5.out)) k_ hk));(case aO=>exact (gI (Kd.bN jf.out (fun _ hk=>hk.2))));(case aS=>exact (aI kW));(case aL=>have:=q4.out;omega);intro qp Yk ho hb hg hat;rw [← q5.out] at ho;replace j3:=am (dL (g:=j4) (o:=.cells #[.int .i64 j6,.int .i64 jl,.int .i64 jm,.int .i64 j8,.int .i64 j9,.slice ji ja.length jj,.slice jn jc.length jo,.slice jr jb.length js] 58 (0,0)) (aG_ j3.out) hg (Kd.lC jf.out j3.out (by decide)));replace j5:=am (Kd.iX (ok:=(fun _=>True)) (aR_ j5.out) hg hat);replace HB:=am (hb);have jg:=am (ho);clear jf ho hb hg hat;obtain ⟨Qo,Qp,Qq,Qr,Qs,Qt,Qu,Qv,Qw,Qx,Qy,Qz,QA,QB,QC,QD⟩:=fP j3.out)|((with_reducible refine gC 25 rfl ?_);refine gl_ 63 Tryz.func25 #[.slice jn jc.length jo] ?_;(with_reducible refine (ih_spec_l13Block k (by omega) _ _ jc jd _ (aC_ (Kd.aX jQ.out HB.out)) jR.out Zx.out).mono ?_);rintro e Yl ⟨Zp,rfl,ho0,hb⟩;refine ⟨_,rfl,?_⟩;have j7:=am (Kd.fB (Kd.lF (Kd.lF ho0 (Kd.iG (aR_ j5.out))) (Kd.iG (aR_ jg.out))) (aI kW));replace j5:=am (Kd.iD (aR_ j5.out) (Kd.iN ho0) hb);replace jg:=am (Kd.iD (aR_ jg.out) (Kd.iN ho0) hb);replace j3:=bbP j3 hb;replace HB:=am (aA kW hb);(try clear hb);(try clear ho0);obtain ⟨jK,jL,Zt⟩:=Kd.eY j7.out;subst Zt)|((with_reducible refine dV (b:=.append) (xs:=#[.tmp 60,.tmp 63]) rfl ?_);at_builtin;refine Kd.gY Kd.string (w0:=w) w.heap.size rfl (.tmp 60) (.tmp 63) 29 9 (.string ⟨#[]⟩) 16 rfl Tryz.underlying29 kU rfl (by decide) (by omega) qp jA jd _ _ _ (fun k_=>some k_≠(.slice jH je.length jI:Value).ownBlock∧some k_≠(.slice jK jd.length jL:Value).ownBlock) (fun _=>False) rfl rfl ?aO ?aR (fun _ _ h=>h) (fun _ h=>h.elim) ?aF ?aB ?aS ?aL ?_;(case aR=>repeat (first|exact (Kd.eX j7.out).2.2|(with_reducible refine Kd.lS ?_ _)|(with_reducible refine Kd.kZ ?_ _)|(with_reducible refine Kd.mP ?_)));(case aB=>exact kW);(case aF=>exact (fun k_ hk=>⟨Kd.fresh' (Kd.iG (aR_ j5.out)) k_ hk,Kd.fresh' (Kd.iG (aR_ j7.out)) k_ hk⟩));(case aO=>exact (aR_ jg.out));(case aS=>exact (aI kW));(case aL=>have:=q6.out;omega);intro z5 Ym ho hb hg hat;rw [← q7.out] at ho;replace j3:=am (dL (g:=j4) (o:=.cells #[.int .i64 j6,.int .i64 jl,.int .i64 jm,.int .i64 j8,.int .i64 j9,.slice ji ja.length jj,.slice jn jc.length jo,.slice jr jb.length js] 58 (0,0)) (aG_ j3.out) hg (Kd.lC jg.out j3.out (by decide)));replace j5:=am (Kd.iX (ok:=(fun k_=>some k_≠(.slice jK jd.length jL:Value).ownBlock)) (gI (Kd.bN j5.out (fun _ hk=>⟨hk.2,hk.1.2⟩))) hg hat);replace j7:=am (Kd.iX (ok:=(fun k_=>some k_≠(.slice jH je.length jI:Value).ownBlock)) (gI (Kd.bN j7.out (fun _ hk=>⟨hk.1.2,hk.2⟩))) hg hat);replace HB:=am (hb);have jG:=am (ho);clear jg ho hb hg hat;obtain ⟨QE,QF,QG,QH,QI,QJ,QK,QL,QM,QN,QO,QP,QQ,QR,QS,QT⟩:=fP j3.out)|((with_reducible refine dV (b:=.append) (xs:=#[.tmp 70,.tmp 71]) rfl ?_);at_builtin;refine Kd.kQ Kd.string (w0:=w) w.heap.size rfl (.tmp 70) (.tmp 71) 29 9 (.string ⟨#[]⟩) 16 rfl Tryz.underlying29 kU rfl (by decide) (by omega) z5 jp (⟨#[101,108,115,101]⟩:ByteArray) [.string (⟨#[101,108,115,101]⟩:ByteArray)] (fun k_=>some k_≠(.slice jH je.length jI:Value).ownBlock∧some k_≠(.slice jK jd.length jL:Value).ownBlock) (fun _=>False) rfl rfl ?aP (fun _ hk=>hk.elim) ?aF ?aO ?aB ?aS ?aL ?_;(case aP=>exact rfl);(case aB=>exact kW);(case aF=>exact (fun k_ hk=>⟨Kd.fresh' (Kd.iG (aR_ j5.out)) k_ hk,Kd.fresh' (Kd.iG (aR_ j7.out)) k_ hk⟩));(case aO=>exact (aR_ jG.out));(case aS=>exact (aI kW));(case aL=>have:=z6.out;omega);intro Zu Yn ho hb hg hat;rw [← z7.out] at ho;replace j3:=am (dL (g:=j4) (o:=.cells #[.int .i64 j6,.int .i64 jl,.int .i64 jm,.int .i64 j8,.int .i64 j9,.slice ji ja.length jj,.slice jn jc.length jo,.slice jr jb.length js] 58 (0,0)) (aG_ j3.out) hg (Kd.lC jG.out j3.out (by decide)));replace j5:=am (Kd.iX (ok:=(fun k_=>some k_≠(.slice jK jd.length jL:Value).ownBlock)) (aR_ j5.out) hg hat);replace j7:=am (Kd.iX (ok:=(fun k_=>some k_≠(.slice jH je.length jI:Value).ownBlock)) (aR_ j7.out) hg hat);replace HB:=am (hb);have jz:=am (ho);clear jG ho hb hg hat;obtain ⟨zb,zc,zd,ze,zf,zg,zh,zi,zj,zk,zl,zm,zn,zo,zp,zr⟩:=fP j3.out)|((with_reducible refine gC 25 rfl ?_);refine gl_ 76 Tryz.func25 #[.slice jr jb.length js] ?_;(with_reducible refine (ih_spec_l13Block k (by omega) _ _ jb jh _ (aC_ (Kd.aX qs.out HB.out)) qt.out ZR.out).mono ?_);rintro e ZS ⟨ZT,rfl,ho0,hb⟩;refine ⟨_,rfl,?_⟩;have jJ:=am (Kd.fB (Kd.lF (Kd.lF (Kd.lF ho0 (Kd.iG (aR_ j5.out))) (Kd.iG (aR_ j7.out))) (Kd.iG (aR_ jz.out))) (aI kW));replace j5:=am (Kd.iD (aR_ j5.out) (Kd.iN ho0) hb);replace j7:=am (Kd.iD (aR_ j7.out) (Kd.iN ho0) hb);replace jz:=am (Kd.iD (aR_ jz.out) (Kd.iN ho0) hb);replace j3:=bbP j3 hb;replace HB:=am (aA kW hb);(try clear hb);(try clear ho0);obtain ⟨jW,jX,zs⟩:=Kd.eY jJ.out;subst zs)|((with_reducible refine dV (b:=.append) (xs:=#[.tmp 73,.tmp 76]) rfl ?_);at_builtin;refine Kd.gY Kd.string (w0:=w) w.heap.size rfl (.tmp 73) (.tmp 76) 29 9 (.string ⟨#[]⟩) 16 rfl Tryz.underlying29 kU rfl (by decide) (by omega) Zu jq jh _ _ _ (fun k_=>some k_≠(.slice jH je.length jI:Value).ownBlock∧some k_≠(.slice jK jd.length jL:Value).ownBlock∧some k_≠(.slice jW jh.length jX:Value).ownBlock) (fun _=>False) rfl rfl ?aO ?aR (fun _ _ h=>h) (fun _ h=>h.elim) ?aF ?aB ?aS ?aL ?_;(case aR=>repeat (first|exact (Kd.eX jJ.out).2.2|(with_reducible refine Kd.lS ?_ _)|(with_reducible refine Kd.kZ ?_ _)|(with_reducible refine Kd.mP ?_)));(case aB=>exact kW);(case aF=>exact (fun k_ hk=>⟨Kd.fresh' (Kd.iG (aR_ j5.out)) k_ hk,Kd.fresh' (Kd.iG (aR_ j7.out)) k_ hk,Kd.fresh' (Kd.iG (aR_ jJ.out)) k_ hk⟩));(case aO=>exact (gI (Kd.bN jz.out (fun _ hk=>⟨hk.1.1,⟨hk.1.2,hk.2⟩⟩))));(case aS=>exact (aI kW));(case aL=>have:=z9.out;omega);intro ZU ZV ho hb hg hat;rw [← za.out] at ho;replace j3:=am (dL (g:=j4) (o:=.cells #[.int .i64 j6,.int .i64 jl,.int .i64 jm,.int .i64 j8,.int .i64 j9,.slice ji ja.length jj,.slice jn jc.length jo,.slice jr jb.length js] 58 (0,0)) (aG_ j3.out) hg (Kd.lC jz.out j3.out (by decide)));replace j5:=am (Kd.iX (ok:=(fun k_=>some k_≠(.slice jK jd.length jL:Value).ownBlock∧some k_≠(.slice jW jh.length jX:Value).ownBlock)) (gI (Kd.bN j5.out (fun _ hk=>⟨⟨hk.1.1,hk.2⟩,hk.1.2⟩))) hg hat);replace j7:=am (Kd.iX (ok:=(fun k_=>some k_≠(.slice jH je.length jI:Value).ownBlock∧some k_≠(.slice jW jh.length jX:Value).ownBlock)) (gI (Kd.bN j7.out (fun _ hk=>⟨⟨hk.1.1,hk.2⟩,hk.1.2⟩))) hg hat);replace jJ:=am (Kd.iX (ok:=(fun k_=>some k_≠(.slice jH je.length jI:Value).ownBlock∧some k_≠(.slice jK jd.length jL:Value).ownBlock)) (gI (Kd.bN jJ.out (fun _ hk=>⟨⟨hk.1.1.2,hk.1.2⟩,hk.2⟩))) hg hat);replace HB:=am (hb);have zt:=am (ho);clear jz ho hb hg hat));go_ret;exact ⟨_,gU,gI (Kd.bN zt.out (fun _ hk=>trivial)),kW⟩
    rw [if_neg Q7] at H;cases H
   rw [if_neg Q6] at H;cases H
  rw [if_neg Jj] at H;cases H
 rw [if_neg Ji] at H;cases H
theorem bL.step (k:Nat) (ih_spec_l13Stmt:∀ m,m < k→bR.dJ m) (ih_spec_l13Block:∀ m,m < k→bL.dJ m):bL.dJ k:=by
 intro A0 c0 l0 r w hr0 hc0 h;cases k with
 |zero=>exact absurd h (by simp [bL.f])
 |succ k=>
 simp only [bL.f] at h;have hu58:=Tryz.underlying58;have jK:=am hr0;have jP:=am hc0;clear hr0 hc0;have HB:=am (Below.refl w.heap.size w);have H:(bL.l0 k l0 (([(⟨#[123]⟩:ByteArray)]:List ByteArray)) 0)=some r:=h;clear h;obtain ⟨jI,hy_⟩:∃ y_:List ByteArray,y_=(([(⟨#[123]⟩:ByteArray)]:List ByteArray)):=⟨_,rfl⟩;replace H:(bL.l0 k l0 jI 0)=some r:=rx_;have jl:=am hy_;clear hy_;have H':=am H;clear H;go_enter Tryz.func25,Tryz.ntmps25;go_wp2_with (first|((with_reducible refine gD 5 rfl ?_);refine Kd.oL Kd.string _ 9 rfl (N:=5) rfl (xs:=([(⟨#[123]⟩:ByteArray)]:List ByteArray)) (inner:=[.string (⟨#[123]⟩:ByteArray)]) (ok:=fun _=>True) (okp:=fun _=>True) rn_ ?hp (fun _ hk=>hk) trivial (Below.refl _ _) (Nat.le_refl _) (by simp) ?_;(case hp=>exact (dF.one (show Kd.M Kd.string _ _ _ (⟨#[123]⟩:ByteArray) [.string (⟨#[123]⟩:ByteArray)] from rfl) (dF.none _ _)));intro jQ w2 ho3 hb hg_ hnew_;clear hg_ hnew_;(first|rw [← jl.out] at ho3|(simp only [Int.reduceToNat] at ho3;rw [← jl.out] at ho3));have jv:=am (Kd.fB ho3 (aI eG));replace HB:=am (aA eG hb);clear hb ho3))
 go_loopg [3,4] k (fun kq v3 v4 w'=>∃ (j4:List ByteArray) (j3:Int),v4= .int .i64 j3∧Aside0 (bL.l0 kq l0 j4 j3=some r)∧Aside0 (kq≤k)∧Aside0 (Kd.R Kd.string 9 w' w.heap.size (fun _=>True) v3 j4)∧Aside0 (Below w.heap.size w w'))
 case atStart=>exact ⟨(jI),(0),sd_,H',⟨Nat.le_refl _⟩,⟨gI jv.out⟩,⟨eG⟩⟩
 case round=>
  clear H';obtain ⟨j4,j3,rfl,HA,jw,j5,HB⟩:=hrel;cases gk with
  |zero=>exact absurd HA.out (by simp [bL.l0])
  |succ k1=>
   have H:=HA.out;clear HA;simp only [bL.l0] at H;by_cases c4:j3 < (l0.length:Int)
   ·rw [if_pos c4] at H;have jx:decide (j3 < (l0.length:Int))=true:=dT c4;clear c4;by_cases c5:0≤j3
    ·rw [if_pos c5] at H;have jL:decide (0≤j3)=true:=dT c5;clear c5;obtain ⟨jm,A6,H⟩:=bsa H;(try dsimp only at H);by_cases c7:j4.length + jm.length < 8796093022208
     ·rw [if_pos c7] at H;have jy:=am c7;clear c7;obtain ⟨jJ,hy_⟩:∃ y_:List ByteArray,y_=(j4 ++ jm):=⟨_,rfl⟩;replace H:(bL.l0 k1 l0 jJ (wrap64 (j3 + 1)))=some r:=rx_;have jz:=am hy_;clear hy_;have H':=am H;clear H;have jA:0≤(j3:Int):=of_decide_eq_true fK;have jB:j3 < (l0.length:Int):=of_decide_eq_true fK;obtain ⟨jM,jn,jo,jp,jq,jr,js,jN,j6,j7,j8,j9,ja,jb,jc,jd,hl27_5,hi27_5,hl27_6,hi27_6,hl27_7,hi27_7⟩:=vK jK.out j3 jA jB;cases jN;replace j6:=bcT HB.out j6;replace j7:=bcT HB.out j7;replace j8:=bcT HB.out j8;replace j9:=bcT HB.out j9;replace ja:=bcT HB.out ja;replace jb:=bcT HB.out jb;replace jc:=bcT HB.out jc;replace jd:=bcT HB.out jd;have jf:=am hi27_5;have jg:=am hl27_5;clear hi27_5 hl27_5;have jh:=am hi27_6;have ji:=am hl27_6;clear hi27_6 hl27_6;have jj:=am hi27_7;have jk:=am hl27_7;clear hi27_7 hl27_7;replace jA:=eq_true jA;replace jB:=eq_true jB;go_wp2_with (first|((with_reducible refine gC 49 rfl ?_);refine gl_ 17 Tryz.func49 #[.agg #[.int .i64 ((aM l0 j3).f0),.int .i64 ((aM l0 j3).f1),.int .i64 ((aM l0 j3).f2),.int .i64 ((aM l0 j3).f3.f0),.int .i64 ((aM l0 j3).f3.f1),.slice jn ((aM l0 j3).f3.f2).length jo,.slice jp ((aM l0 j3).f4).length jq,.slice jr ((aM l0 j3).f5).length js]] ?_;(with_reducible refine (ih_spec_l13Stmt k1 (by have:=jw.out;omega) ((aM l0 j3).f0) ((aM l0 j3).f1) ((aM l0 j3).f2) ((aM l0 j3).f3.f0) ((aM l0 j3).f3.f1) _ _ ((aM l0 j3).f3.f2) _ _ ((aM l0 j3).f4) _ _ ((aM l0 j3).f5) jm _ (aC_ (Kd.aX jf.out HB.out)) jg.out (aC_ (Kd.aX jh.out HB.out)) ji.out (aC_ (Kd.aX jj.out HB.out)) jk.out A6.out).mono ?_);rintro e w8 ⟨jR,rfl,ho0,hb⟩;refine ⟨_,rfl,?_⟩;have je:=am (Kd.fB (Kd.lF ho0 (Kd.iG (aR_ j5.out))) (aI eG));replace j5:=am (Kd.iD (aR_ j5.out) (Kd.iN ho0) hb);replace HB:=am (aA eG hb);(try clear hb);(try clear ho0);obtain ⟨jC,jD,jE⟩:=Kd.eY je.out;subst jE)|((with_reducible refine dV (b:=.append) (xs:=#[.tmp 12,.tmp 17]) rfl ?_);at_builtin;refine Kd.gY Kd.string (w0:=w) w.heap.size rfl (.tmp 12) (.tmp 17) 29 9 (.string ⟨#[]⟩) 16 rfl Tryz.underlying29 kU rfl (by decide) (by omega) u3 j4 jm _ _ _ (fun k_=>some k_≠(.slice jC jm.length jD:Value).ownBlock) (fun _=>False) rfl rfl ?aO ?aR (fun _ _ h=>h) (fun _ h=>h.elim) ?aF ?aB ?aS ?aL ?_;(case aR=>repeat (first|exact (Kd.eX je.out).2.2|(with_reducible refine Kd.lS ?_ _)|(with_reducible refine Kd.kZ ?_ _)|(with_reducible refine Kd.mP ?_)));(case aB=>exact eG);(case aF=>exact (fun k_ hk=>Kd.fresh' (Kd.iG (aR_ je.out)) k_ hk));(case aO=>exact (gI (Kd.bN j5.out (fun _ hk=>hk.2))));(case aS=>exact (aI eG));(case aL=>have:=jy.out;omega);intro jS w9 ho hb hg hat;rw [← jz.out] at ho;replace je:=am (Kd.iX (ok:=(fun _=>True)) (aR_ je.out) hg hat);replace HB:=am (hb);have jF:=am (ho);clear j5 ho hb hg hat));go_roundg k1;case measure=>have:=jw.out;omega
      case rel=>exact ⟨(jJ),(wrap64 (j3 + 1)),sd_,H',⟨by have:=jw.out;omega⟩,⟨gI (Kd.bN jF.out (fun _ hk=>trivial))⟩,⟨eG⟩⟩
     rw [if_neg c7] at H;cases H
    rw [if_neg c5] at H;cases H
   rw [if_neg c4] at H;have jx:decide (j3 < (l0.length:Int))=false:=dF c4;clear c4;by_cases ju:j4.length < 8796093022208
   ·rw [if_pos ju] at H;have jt:=am ju;clear ju;obtain ⟨jO,hy_⟩:∃ y_:List ByteArray,y_=(j4 ++ [(⟨#[125]⟩:ByteArray)]):=⟨_,rfl⟩;replace H:(some jO)=some r:=rx_;have jG:=am hy_;clear hy_;obtain rfl:=oI H;go_wp2_with (first|((with_reducible refine dV (b:=.append) (xs:=#[.tmp 19,.tmp 20]) rfl ?_);at_builtin;refine Kd.kQ Kd.string (w0:=w) w.heap.size rfl (.tmp 19) (.tmp 20) 29 9 (.string ⟨#[]⟩) 16 rfl Tryz.underlying29 kU rfl (by decide) (by omega) u3 j4 (⟨#[125]⟩:ByteArray) [.string (⟨#[125]⟩:ByteArray)] (fun _=>True) (fun _=>False) rfl rfl ?aP (fun _ hk=>hk.elim) ?aF ?aO ?aB ?aS ?aL ?_;(case aP=>exact rfl);(case aB=>exact eG);(case aF=>exact (fun _ _=>trivial));(case aO=>exact (aR_ j5.out));(case aS=>exact (aI eG));(case aL=>have:=jt.out;omega);intro jT jU ho hb hg hat;rw [← jG.out] at ho;replace HB:=am (hb);have jH:=am (ho);clear j5 ho hb hg hat));go_ret;exact ⟨_,gU,gI jH.out,eG⟩
   rw [if_neg ju] at H;cases H
theorem bR.calls_all (k:Nat):bR.dJ k∧bL.dJ k:=by
 induction k using Nat.strongRecOn with
 | _ k ih=>exact ⟨bR.step k (ih_spec_l13Stmt:=fun m hm=>(ih m hm).1) (ih_spec_l13Block:=fun m hm=>(ih m hm).2),bL.step k (ih_spec_l13Stmt:=fun m hm=>(ih m hm).1) (ih_spec_l13Block:=fun m hm=>(ih m hm).2)⟩
theorem bR.calls (k:Nat):bR.dJ k:=(bR.calls_all k).1
theorem bL.calls (k:Nat):bL.dJ k:=(bR.calls_all k).2
theorem bK.mono_l:∀ k,(∀ y0 y1,LeO (bK.j0 k y0 y1) (bK.j0 (k + 1) y0 y1))∧(∀ y0 y1,LeO (bK.j1 k y0 y1) (bK.j1 (k + 1) y0 y1))∧(∀ y0 y1 y2,LeO (bK.l0 k y0 y1 y2) (bK.l0 (k + 1) y0 y1 y2))
 |0=>⟨fun _ _ r h=>by simp [bK.j0] at h,fun _ _ r h=>by simp [bK.j1] at h,fun _ _ _ r h=>by simp [bK.l0] at h⟩
 |k + 1=>by
  obtain ⟨ih0,ih1,ih2⟩:=bK.mono_l k;refine ⟨?_,?_,?_⟩
  ·intro y0 y1;unfold bK.j0;exact mo_
  ·intro y0 y1;unfold bK.j1;exact mo_
  ·intro y0 y1 y2;unfold bK.l0;exact mo_
theorem bK.mono:∀ a0 k,LeO (bK.f k a0) (bK.f (k + 1) a0):=by
 intro a0 k;obtain ⟨ih0,ih1,ih2⟩:=bK.mono_l k;unfold bK.f;exact mo_
theorem bK.calls (k:Nat) (a0:Int) (r:Int) (w:World) (h:bK.f k a0=some r):
  Calls Tryz.prog 98 #[.int .u8 a0] w fun e w'=>e= .returned (.int .i64 r)∧gX w w':=by
 have H:(if a0≥48 then (bK.j0 k a0 (decide (a0≤57))) else (bK.j0 k a0 false))=some r:=h;clear h;have jk:=am H;clear H;go_enter Tryz.func98,Tryz.ntmps98;go_upto_region 1 with (fail)
 go_cut [5] (fun v5 wc=>∃ (kq:Nat) (j7:Bool),v5= .bool j7∧Aside0 (bK.j0 kq a0 j7=some r)∧Aside0 (kq≤k)∧gX w wc)
 case first=>
  have H:=jk.out;clear jk;by_cases c3:a0≥48
  ·rw [if_pos c3] at H;have j5:decide (48≤a0)=true:=dT c3;clear c3
   (first|rw [j5]|(simp only [fA,fE];rw [j5])|skip)
   have H':=am H;clear H;go_wp2
   go_meet
   case rel=>exact ⟨_,(decide (a0≤57)),sd_,H',⟨by first|omega|exact Nat.le_refl _⟩,fG⟩
  rw [if_neg c3] at H;have j5:decide (48≤a0)=false:=dF c3;clear c3
  (first|rw [j5]|(simp only [fA,fE];rw [j5])|skip)
  have H':=am H;clear H;go_wp2
  go_meet
  case rel=>exact ⟨_,(false),sd_,H',⟨by first|omega|exact Nat.le_refl _⟩,fG⟩
 case rest=>
  clear jk;obtain ⟨kq,j7,rfl,HA,HJ1,⟨mc1,rfl⟩⟩:=hcut;cases kq with
  |zero=>exact absurd HA.out (by simp [bK.j0])
  |succ jq=>
   have H:=HA.out;clear HA;simp only [bK.j0] at H;by_cases c4:j7=true
   ·subst c4;rw [if_pos rfl] at H;obtain rfl:=oI H;go_wp2;go_ret;exact ⟨sd_,fG⟩
   replace c4:=Bool.eq_false_iff.mpr c4;subst c4;rw [if_neg Bool.false_ne_true] at H;have jl:=am H;clear H;go_upto_region 3 with (fail)
   go_cut [12] (fun jr wc=>∃ (kq:Nat) (j4:Bool),jr= .bool j4∧Aside0 (bK.j1 kq a0 j4=some r)∧Aside0 (kq≤jq)∧gX w wc)
   case first=>
    have H:=jl.out;clear jl;by_cases c6:a0≥97
    ·rw [if_pos c6] at H;have j6:decide (97≤a0)=true:=dT c6;clear c6
     (first|rw [j6]|(simp only [fA,fE];rw [j6])|skip)
     have H':=am H;clear H;go_wp2
     go_meet
     case rel=>exact ⟨_,(decide (a0≤122)),sd_,H',⟨by have:=HJ1.out;first|omega|exact Nat.le_refl _⟩,fG⟩
    rw [if_neg c6] at H;have j6:decide (97≤a0)=false:=dF c6;clear c6
    (first|rw [j6]|(simp only [fA,fE];rw [j6])|skip)
    have H':=am H;clear H;go_wp2
    go_meet
    case rel=>exact ⟨_,(false),sd_,H',⟨by have:=HJ1.out;first|omega|exact Nat.le_refl _⟩,fG⟩
   case rest=>
    clear jl;try clear c4
    obtain ⟨kq,j4,rfl,HA,HJ4,⟨mc4,rfl⟩⟩:=hcut;cases kq with
    |zero=>exact absurd HA.out (by simp [bK.j1])
    |succ jn=>
     have H:=HA.out;clear HA;simp only [bK.j1] at H;by_cases c7:j4=true
     ·subst c7;rw [if_pos rfl] at H;obtain rfl:=oI H;go_wp2;go_ret;exact ⟨sd_,fG⟩
     replace c7:=Bool.eq_false_iff.mpr c7;subst c7;rw [if_neg Bool.false_ne_true] at H;by_cases c8:a0=32
     ·rw [if_pos c8] at H;have j9:(a0 == 32)=true:=beq_iff_eq.mpr c8;have ja:(a0 != 32)=false:=bF c8;clear c8;obtain rfl:=oI H;go_wp2;go_ret;exact ⟨sd_,fG⟩
     rw [if_neg c8] at H;have j9:(a0 == 32)=false:=bE c8;have ja:(a0 != 32)=true:=bne_iff_ne.mpr c8;by_cases c9:a0=10
     ·rw [if_pos c9] at H;have jb:(a0 == 10)=true:=beq_iff_eq.mpr c9;have jc:(a0 != 10)=false:=bF c9;clear c9;obtain rfl:=oI H;go_wp2;go_ret;exact ⟨sd_,fG⟩
     rw [if_neg c9] at H;have jb:(a0 == 10)=false:=bE c9;have jc:(a0 != 10)=true:=bne_iff_ne.mpr c9;have H':=am H;clear H;go_wp2
     go_loopg [4] jn (fun kq v4 w'=>∃ (j3:Int),v4= .int .i64 j3∧Aside0 (bK.l0 kq a0 (⟨#[43,45,42,47,37,38,124,94,60,62,40,41,123,125,61,59]⟩:ByteArray) j3=some r)∧Aside0 (kq≤jn)∧gX w w')
     case atStart=>exact ⟨(0),sd_,H',⟨Nat.le_refl _⟩,fG⟩
     case round=>
      clear H';try clear c4
      try clear c7
      try clear c8
      try clear j9
      try clear ja
      try clear c9
      try clear jb
      try clear jc
      obtain ⟨j3,rfl,HA,jo,⟨m3,rfl⟩⟩:=hrel;cases gk with
      |zero=>exact absurd HA.out (by simp [bK.l0])
      |succ k3=>
       have H:=HA.out;clear HA;simp only [bK.l0] at H;by_cases c10:j3 < ((⟨#[43,45,42,47,37,38,124,94,60,62,40,41,123,125,61,59]⟩:ByteArray).size:Int)
       ·rw [if_pos c10] at H;have jd:decide (j3 < ((⟨#[43,45,42,47,37,38,124,94,60,62,40,41,123,125,61,59]⟩:ByteArray).size:Int))=true:=dT c10;have je:(j3 < 16)=True:=eq_true (show j3 < 16 from c10);clear c10;by_cases jj:0≤j3
        ·rw [if_pos jj] at H;have jp:decide (0≤j3)=true:=dT jj;clear jj;by_cases j8:(bt (⟨#[43,45,42,47,37,38,124,94,60,62,40,41,123,125,61,59]⟩:ByteArray) j3)=a0
         ·rw [if_pos j8] at H;have jf:((bt (⟨#[43,45,42,47,37,38,124,94,60,62,40,41,123,125,61,59]⟩:ByteArray) j3) == a0)=true:=beq_iff_eq.mpr j8;have jg:((bt (⟨#[43,45,42,47,37,38,124,94,60,62,40,41,123,125,61,59]⟩:ByteArray) j3) != a0)=false:=bF j8;clear j8;obtain rfl:=oI H;have jh:0≤(j3:Int):=of_decide_eq_true fK;have ji:j3 < (16:Int):=of_decide_eq_true fK;have jm:=uT (⟨#[43,45,42,47,37,38,124,94,60,62,40,41,123,125,61,59]⟩:ByteArray) j3;replace jh:=eq_true jh;replace ji:=eq_true ji;go_wp2;go_ret;exact ⟨sd_,fG⟩
         rw [if_neg j8] at H;have jf:((bt (⟨#[43,45,42,47,37,38,124,94,60,62,40,41,123,125,61,59]⟩:ByteArray) j3) == a0)=false:=bE j8;have jg:((bt (⟨#[43,45,42,47,37,38,124,94,60,62,40,41,123,125,61,59]⟩:ByteArray) j3) != a0)=true:=bne_iff_ne.mpr j8;have H':=am H;clear H;have jh:0≤(j3:Int):=of_decide_eq_true fK;have ji:j3 < (16:Int):=of_decide_eq_true fK;have jm:=uT (⟨#[43,45,42,47,37,38,124,94,60,62,40,41,123,125,61,59]⟩:ByteArray) j3;replace jh:=eq_true jh;replace ji:=eq_true ji;go_wp2;go_roundg k3;case measure=>have:=HJ1.out;have:=HJ4.out;have:=jo.out;omega
         case rel=>exact ⟨(wrap64 (j3 + 1)),sd_,H',⟨by have:=HJ1.out;have:=HJ4.out;have:=jo.out;omega⟩,fG⟩
        rw [if_neg jj] at H;cases H
       rw [if_neg c10] at H;have jd:decide (j3 < ((⟨#[43,45,42,47,37,38,124,94,60,62,40,41,123,125,61,59]⟩:ByteArray).size:Int))=false:=dF c10;have je:(j3 < 16)=False:=eq_false (show ¬ (j3 < 16) from c10);clear c10;obtain rfl:=oI H;go_wp2;go_ret;exact ⟨sd_,fG⟩
theorem fV.mono_l:∀ k,(∀ y0 y1 y2,LeO (fV.l0 k y0 y1 y2) (fV.l0 (k + 1) y0 y1 y2))
 |0=>fun _ _ _ r h=>by simp [fV.l0] at h
 |k + 1=>by
  have ih0:=fV.mono_l k
  ·intro y0 y1 y2;unfold fV.l0;have m0:=@bK.mono;exact mo_
theorem fV.mono:∀ a0 a1 k,LeO (fV.f k a0 a1) (fV.f (k + 1) a0 a1):=by
 intro a0 a1 k;have ih0:=fV.mono_l k;unfold fV.f;have m0:=@bK.mono;exact mo_
theorem fV.calls (k:Nat) (a0:ByteArray) (a1:Int) (r:Int) (w:World) (h:fV.f k a0 a1=some r):
  Calls Tryz.prog 99 #[.string a0,.int .i64 a1] w fun e w'=>e= .returned (.int .i64 r)∧gX w w':=by
 have H:(fV.l0 k a0 a1 a1)=some r:=h;clear h;have H':=am H;clear H;go_enter Tryz.func99,Tryz.ntmps99;go_wp2;repeat (go_quiet (fail);try go_wp2)
 go_loopg [5] k (fun kq v5 w'=>∃ (j3:Int),v5= .int .i64 j3∧Aside0 (fV.l0 kq a0 a1 j3=some r)∧Aside0 (kq≤k)∧gX w w')
 case atStart=>exact ⟨(a1),sd_,H',⟨Nat.le_refl _⟩,fG⟩
 case round=>
  clear H';obtain ⟨j3,rfl,HA,jc,⟨m1,rfl⟩⟩:=hrel;cases gk with
  |zero=>exact absurd HA.out (by simp [fV.l0])
  |succ k1=>
   have H:=HA.out;clear HA;simp only [fV.l0] at H;by_cases c3:j3 < (a0.size:Int)
   ·rw [if_pos c3] at H;have jb:decide (j3 < (a0.size:Int))=true:=dT c3;clear c3;by_cases c4:0≤j3
    ·rw [if_pos c4] at H;have je:decide (0≤j3)=true:=dT c4;clear c4;obtain ⟨j4,A6,H⟩:=bsa H;(try dsimp only at H);by_cases c7:0≤a1
     ·rw [if_pos c7] at H;have jf:decide (0≤a1)=true:=dT c7;clear c7;by_cases c8:a1 < (a0.size:Int)
      ·rw [if_pos c8] at H;have jg:decide (a1 < (a0.size:Int))=true:=dT c8;clear c8;obtain ⟨j5,jd,H⟩:=bsm H;(try dsimp only at H);have j7:=am jd;clear jd;by_cases j6:j4=j5
       ·rw [if_pos j6] at H;have j8:(j4 == j5)=true:=beq_iff_eq.mpr j6;have j9:(j4 != j5)=false:=bF j6;clear j6;have H':=am H;clear H;have p5:0≤(j3:Int):=of_decide_eq_true fK;have q5:j3 < (a0.size:Int):=of_decide_eq_true fK;have jh:=uT a0 j3;replace p5:=eq_true p5;replace q5:=eq_true q5;go_wp2_with (first|(go_at_call 98;(with_reducible refine (bK.calls k1 (bt a0 j3) j4 _ A6.out).mono ?_);rintro e w' ⟨rfl,⟨nd,rfl⟩⟩;(try first|exact ⟨rfl,_,World.drewN_drewN _ _ _⟩|exact ⟨rfl,_,Eq.trans (World.drewN_drewN _ _ _) (congrArg (World.drewN _) (Nat.add_assoc _ _ _))⟩);have p9:0≤(a1:Int):=of_decide_eq_true fK;have q9:a1 < (a0.size:Int):=of_decide_eq_true fK;have ja:=uT a0 a1;replace p9:=eq_true p9;replace q9:=eq_true q9)|(go_at_call 98;(with_reducible refine (bK.calls k1 (bt a0 a1) j5 _ j7.out).mono ?_);rintro e w' ⟨rfl,⟨nd,rfl⟩⟩;(try first|exact ⟨rfl,_,World.drewN_drewN _ _ _⟩|exact ⟨rfl,_,Eq.trans (World.drewN_drewN _ _ _) (congrArg (World.drewN _) (Nat.add_assoc _ _ _))⟩)));repeat (go_quiet (first|(go_at_call 98;(with_reducible refine (bK.calls k1 (bt a0 j3) j4 _ A6.out).mono ?_);rintro e w' ⟨rfl,⟨nd,rfl⟩⟩;(try first|exact ⟨rfl,_,World.drewN_drewN _ _ _⟩|exact ⟨rfl,_,Eq.trans (World.drewN_drewN _ _ _) (congrArg (World.drewN _) (Nat.add_assoc _ _ _))⟩);have p9:0≤(a1:Int):=of_decide_eq_true fK;have q9:a1 < (a0.size:Int):=of_decide_eq_true fK;have ja:=uT a0 a1;replace p9:=eq_true p9;replace q9:=eq_true q9)|(go_at_call 98;(with_reducible refine (bK.calls k1 (bt a0 a1) j5 _ j7.out).mono ?_);rintro e w' ⟨rfl,⟨nd,rfl⟩⟩;(try first|exact ⟨rfl,_,World.drewN_drewN _ _ _⟩|exact ⟨rfl,_,Eq.trans (World.drewN_drewN _ _ _) (congrArg (World.drewN _) (Nat.add_assoc _ _ _))⟩)));try go_wp2_with (first|(go_at_call 98;(with_reducible refine (bK.calls k1 (bt a0 j3) j4 _ A6.out).mono ?_);rintro e w' ⟨rfl,⟨nd,rfl⟩⟩;(try first|exact ⟨rfl,_,World.drewN_drewN _ _ _⟩|exact ⟨rfl,_,Eq.trans (World.drewN_drewN _ _ _) (congrArg (World.drewN _) (Nat.add_assoc _ _ _))⟩);have p9:0≤(a1:Int):=of_decide_eq_true fK;have q9:a1 < (a0.size:Int):=of_decide_eq_true fK;have ja:=uT a0 a1;replace p9:=eq_true p9;replace q9:=eq_true q9)|(go_at_call 98;(with_reducible refine (bK.calls k1 (bt a0 a1) j5 _ j7.out).mono ?_);rintro e w' ⟨rfl,⟨nd,rfl⟩⟩;(try first|exact ⟨rfl,_,World.drewN_drewN _ _ _⟩|exact ⟨rfl,_,Eq.trans (World.drewN_drewN _ _ _) (congrArg (World.drewN _) (Nat.add_assoc _ _ _))⟩))))
        go_roundg k1;case measure=>have:=jc.out;omega
        case rel=>exact ⟨(wrap64 (j3 + 1)),sd_,H',⟨by have:=jc.out;omega⟩,fG⟩
       rw [if_neg j6] at H;have j8:(j4 == j5)=false:=bE j6;have j9:(j4 != j5)=true:=bne_iff_ne.mpr j6;obtain rfl:=oI H;have p5:0≤(j3:Int):=of_decide_eq_true fK;have q5:j3 < (a0.size:Int):=of_decide_eq_true fK;have jh:=uT a0 j3;replace p5:=eq_true p5;replace q5:=eq_true q5;go_wp2_with (first|(go_at_call 98;(with_reducible refine (bK.calls k1 (bt a0 j3) j4 _ A6.out).mono ?_);rintro e w' ⟨rfl,⟨nd,rfl⟩⟩;(try first|exact ⟨rfl,_,World.drewN_drewN _ _ _⟩|exact ⟨rfl,_,Eq.trans (World.drewN_drewN _ _ _) (congrArg (World.drewN _) (Nat.add_assoc _ _ _))⟩);have p9:0≤(a1:Int):=of_decide_eq_true fK;have q9:a1 < (a0.size:Int):=of_decide_eq_true fK;have ja:=uT a0 a1;replace p9:=eq_true p9;replace q9:=eq_true q9)|(go_at_call 98;(with_reducible refine (bK.calls k1 (bt a0 a1) j5 _ j7.out).mono ?_);rintro e w' ⟨rfl,⟨nd,rfl⟩⟩;(try first|exact ⟨rfl,_,World.drewN_drewN _ _ _⟩|exact ⟨rfl,_,Eq.trans (World.drewN_drewN _ _ _) (congrArg (World.drewN _) (Nat.add_assoc _ _ _))⟩)));repeat (go_quiet (first|(go_at_call 98;(with_reducible refine (bK.calls k1 (bt a0 j3) j4 _ A6.out).mono ?_);rintro e w' ⟨rfl,⟨nd,rfl⟩⟩;(try first|exact ⟨rfl,_,World.drewN_drewN _ _ _⟩|exact ⟨rfl,_,Eq.trans (World.drewN_drewN _ _ _) (congrArg (World.drewN _) (Nat.add_assoc _ _ _))⟩);have p9:0≤(a1:Int):=of_decide_eq_true fK;have q9:a1 < (a0.size:Int):=of_decide_eq_true fK;have ja:=uT a0 a1;replace p9:=eq_true p9;replace q9:=eq_true q9)|(go_at_call 98;(with_reducible refine (bK.calls k1 (bt a0 a1) j5 _ j7.out).mono ?_);rintro e w' ⟨rfl,⟨nd,rfl⟩⟩;(try first|exact ⟨rfl,_,World.drewN_drewN _ _ _⟩|exact ⟨rfl,_,Eq.trans (World.drewN_drewN _ _ _) (congrArg (World.drewN _) (Nat.add_assoc _ _ _))⟩)));try go_wp2_with (first|(go_at_call 98;(with_reducible refine (bK.calls k1 (bt a0 j3) j4 _ A6.out).mono ?_);rintro e w' ⟨rfl,⟨nd,rfl⟩⟩;(try first|exact ⟨rfl,_,World.drewN_drewN _ _ _⟩|exact ⟨rfl,_,Eq.trans (World.drewN_drewN _ _ _) (congrArg (World.drewN _) (Nat.add_assoc _ _ _))⟩);have p9:0≤(a1:Int):=of_decide_eq_true fK;have q9:a1 < (a0.size:Int):=of_decide_eq_true fK;have ja:=uT a0 a1;replace p9:=eq_true p9;replace q9:=eq_true q9)|(go_at_call 98;(with_reducible refine (bK.calls k1 (bt a0 a1) j5 _ j7.out).mono ?_);rintro e w' ⟨rfl,⟨nd,rfl⟩⟩;(try first|exact ⟨rfl,_,World.drewN_drewN _ _ _⟩|exact ⟨rfl,_,Eq.trans (World.drewN_drewN _ _ _) (congrArg (World.drewN _) (Nat.add_assoc _ _ _))⟩))))
       go_ret;exact ⟨sd_,fG⟩
      rw [if_neg c8] at H;cases H
     rw [if_neg c7] at H;cases H
    rw [if_neg c4] at H;cases H
   rw [if_neg c3] at H;have jb:decide (j3 < (a0.size:Int))=false:=dF c3;clear c3;obtain rfl:=oI H;go_wp2;repeat (go_quiet (fail);try go_wp2)
   go_ret;exact ⟨sd_,fG⟩
theorem vS.calls (a0:ByteArray) (r:Bool) (w:World) (h:vS.f a0=some r):
  Calls Tryz.prog 100 #[.string a0] w fun e w'=>e= .returned (.bool r)∧gX w w':=by
 unfold vS.f at h;have H:=h;clear h;by_cases c2:a0.toList=([60,60]:List UInt8)
 ·rw [if_pos c2] at H;have j3:(a0.toList == ([60,60]:List UInt8))=true:=beq_iff_eq.mpr c2;have j4:(a0.toList != ([60,60]:List UInt8))=false:=bF c2;clear c2;obtain rfl:=oI H;go_enter Tryz.func100,Tryz.ntmps100;go_wp2;go_ret;exact ⟨sd_,fG⟩
 rw [if_neg c2] at H;have j3:(a0.toList == ([60,60]:List UInt8))=false:=bE c2;have j4:(a0.toList != ([60,60]:List UInt8))=true:=bne_iff_ne.mpr c2;by_cases c3:a0.toList=([62,62]:List UInt8)
 ·rw [if_pos c3] at H;have j5:(a0.toList == ([62,62]:List UInt8))=true:=beq_iff_eq.mpr c3;have j6:(a0.toList != ([62,62]:List UInt8))=false:=bF c3;clear c3;obtain rfl:=oI H;go_enter Tryz.func100,Tryz.ntmps100;go_wp2;go_ret;exact ⟨sd_,fG⟩
 rw [if_neg c3] at H;have j5:(a0.toList == ([62,62]:List UInt8))=false:=bE c3;have j6:(a0.toList != ([62,62]:List UInt8))=true:=bne_iff_ne.mpr c3;obtain rfl:=oI H;go_enter Tryz.func100,Tryz.ntmps100;go_wp2;go_ret;exact ⟨sd_,fG⟩
theorem eT.mono_l:∀ k,(∀ y0 y1 y2 y3,LeO (eT.j0 k y0 y1 y2 y3) (eT.j0 (k + 1) y0 y1 y2 y3))∧(∀ y0 y1 y2,LeO (eT.j1 k y0 y1 y2) (eT.j1 (k + 1) y0 y1 y2))
 |0=>⟨fun _ _ _ _ r h=>by simp [eT.j0] at h,fun _ _ _ r h=>by simp [eT.j1] at h⟩
 |k + 1=>by
  obtain ⟨ih0,ih1⟩:=eT.mono_l k;refine ⟨?_,?_⟩
  ·intro y0 y1 y2 y3;unfold eT.j0;have m0:=@bK.mono;have m1:=@fV.mono;exact mo_
  ·intro y0 y1 y2;unfold eT.j1;have m0:=@bK.mono;have m1:=@fV.mono;exact mo_
theorem eT.mono:∀ a0 a1 k,LeO (eT.f k a0 a1) (eT.f (k + 1) a0 a1):=by
 intro a0 a1 k;obtain ⟨ih0,ih1⟩:=eT.mono_l k;unfold eT.f;have m0:=@bK.mono;have m1:=@fV.mono;exact mo_
theorem eT.calls (k:Nat) (a0:ByteArray) (a1:Int) (r:Int) (w:World) (h:eT.f k a0 a1=some r):
  Calls Tryz.prog 75 #[.string a0,.int .i64 a1] w fun e w'=>e= .returned (.int .i64 r)∧gX w w':=by
 unfold eT.f at h;have H:=h;clear h;by_cases c3:0≤a1
 ·rw [if_pos c3] at H;have je:decide (0≤a1)=true:=dT c3;clear c3;by_cases c4:a1 < (a0.size:Int)
  ·rw [if_pos c4] at H;have jf:decide (a1 < (a0.size:Int))=true:=dT c4;clear c4;obtain ⟨j6,A6,H⟩:=bsa H;(try dsimp only at H);have jp:=am H;clear H;have p5:0≤(a1:Int):=of_decide_eq_true fK;have q5:a1 < (a0.size:Int):=of_decide_eq_true fK;have js:=uT a0 a1;replace p5:=eq_true p5;replace q5:=eq_true q5;go_enter Tryz.func75,Tryz.ntmps75;go_upto_region 2 with (first|((with_reducible refine gC 98 rfl ?_);refine gl_ 9 Tryz.func98 #[.int .u8 (bt a0 a1)] ?_;(with_reducible refine (bK.calls k (bt a0 a1) j6 _ A6.out).mono ?_);rintro e w' ⟨rfl,⟨nd,rfl⟩⟩;refine ⟨_,rfl,?_⟩));(try simp only [Act.put,sA,sB,sC])
   go_cut [15] (fun jE wc=>∃ (kq:Nat) (j5:Bool),jE= .bool j5∧Aside0 (eT.j0 kq a0 a1 j6 j5=some r)∧Aside0 (kq≤k)∧gX w wc)
   case first=>
    have H:=jp.out;clear jp;by_cases c8:j6=1
    ·rw [if_pos c8] at H;have j7:(j6 == 1)=true:=beq_iff_eq.mpr c8;have jq:(j6 != 1)=false:=bF c8;clear c8
     (first|rw [j7]|(simp only [fA,fE];rw [j7])|skip)
     have H':=am H;clear H;go_wp2
     go_meet
     case rel=>exact ⟨_,(true),sd_,H',⟨by first|omega|exact Nat.le_refl _⟩,fG⟩
    rw [if_neg c8] at H;have j7:(j6 == 1)=false:=bE c8;have jq:(j6 != 1)=true:=bne_iff_ne.mpr c8
    (first|rw [j7]|(simp only [fA,fE];rw [j7])|skip)
    have H':=am H;clear H;go_wp2
    go_meet
    case rel=>exact ⟨_,((j6 == 2)),sd_,H',⟨by first|omega|exact Nat.le_refl _⟩,fG⟩
   case rest=>
    clear jp;try clear c3
    try clear je
    try clear c4
    try clear jf
    try clear p5
    try clear q5
    try clear js
    try clear p5
    try clear q5
    obtain ⟨kq,j5,rfl,HA,HJ6,⟨mc6,rfl⟩⟩:=hcut;cases kq with
    |zero=>exact absurd HA.out (by simp [eT.j0])
    |succ jt=>
     have H:=HA.out;clear HA;simp only [eT.j0] at H;by_cases c9:j5=true
     ·subst c9;rw [if_pos rfl] at H;obtain ⟨jF,ju,H⟩:=bsm H;(try dsimp only at H);have jG:=am ju;clear ju;obtain rfl:=oI H;go_wp2_with (first|((with_reducible refine gC 99 rfl ?_);refine gl_ 18 Tryz.func99 #[.string a0,.int .i64 a1] ?_;(with_reducible refine (fV.calls jt a0 a1 jF _ jG.out).mono ?_);rintro e w' ⟨rfl,⟨nd,rfl⟩⟩;refine ⟨_,rfl,?_⟩));go_ret;exact ⟨sd_,fG⟩
     replace c9:=Bool.eq_false_iff.mpr c9;subst c9;rw [if_neg Bool.false_ne_true] at H;by_cases j8:j6=4
     ·rw [if_pos j8] at H;have j9:(j6 == 4)=true:=beq_iff_eq.mpr j8;have ja:(j6 != 4)=false:=bF j8;clear j8;have jb:=am H;clear H;go_upto_region 6 with (fail)
      go_cut [33] (fun jH wc=>∃ (kq:Nat) (j3:Bool),jH= .bool j3∧Aside0 (eT.j1 kq a0 a1 j3=some r)∧Aside0 (kq≤jt)∧gX w wc)
      case first=>
       have H:=jb.out;clear jb;by_cases jd:(wrap64 (a1 + 2))≤(a0.size:Int)
       ·rw [if_pos jd] at H;have j4:decide ((wrap64 (a1 + 2))≤(a0.size:Int))=true:=dT jd;clear jd
        (first|rw [j4]|(simp only [fA,fE];rw [j4])|skip)
        by_cases jg:0≤a1
        ·rw [if_pos jg] at H;have jv:=eq_true jg;have jw:decide (0≤a1)=true:=dT jg;clear jg;by_cases jl:a1≤(wrap64 (a1 + 2))
         ·rw [if_pos jl] at H;have jx:=eq_true jl;have jy:decide (a1≤(wrap64 (a1 + 2)))=true:=dT jl;have jz:=eq_true (of_decide_eq_true fK:(wrap64 (a1 + 2))≤(a0.size:Int));obtain ⟨jA,jB,H⟩:=bsm H;(try dsimp only at H);have jI:=am jB;clear jB;have H':=am H;clear H;go_wp2_with (first|(go_at_call 100;(with_reducible refine (vS.calls (a0.extract (a1:Int).toNat ((wrap64 (a1 + 2)):Int).toNat) jA _ jI.out).mono ?_);rintro e w' ⟨rfl,⟨nd,rfl⟩⟩))
          go_meet
          case rel=>exact ⟨_,(jA),sd_,H',⟨by have:=HJ6.out;first|omega|exact Nat.le_refl _⟩,fG⟩
         rw [if_neg jl] at H;cases H
        rw [if_neg jg] at H;cases H
       rw [if_neg jd] at H;have j4:decide ((wrap64 (a1 + 2))≤(a0.size:Int))=false:=dF jd;clear jd
       (first|rw [j4]|(simp only [fA,fE];rw [j4])|skip)
       have H':=am H;clear H;go_wp2
       go_meet
       case rel=>exact ⟨_,(false),sd_,H',⟨by have:=HJ6.out;first|omega|exact Nat.le_refl _⟩,fG⟩
      case rest=>
       clear jb;try clear c3
       try clear je
       try clear c4
       try clear jf
       try clear p5
       try clear q5
       try clear js
       try clear c9
       try clear j8
       try clear j9
       try clear ja
       try clear p5
       try clear q5
       obtain ⟨kq,j3,rfl,HA,HJ11,⟨mc11,rfl⟩⟩:=hcut;cases kq with
       |zero=>exact absurd HA.out (by simp [eT.j1])
       |succ jJ=>
        have H:=HA.out;clear HA;simp only [eT.j1] at H;by_cases jm:j3=true
        ·subst jm;rw [if_pos rfl] at H;obtain rfl:=oI H;go_wp2;go_ret;exact ⟨sd_,fG⟩
        replace jm:=Bool.eq_false_iff.mpr jm;subst jm;rw [if_neg Bool.false_ne_true] at H;by_cases jn:0≤a1
        ·rw [if_pos jn] at H;have jC:decide (0≤a1)=true:=dT jn;clear jn;by_cases jo:a1 < (a0.size:Int)
         ·rw [if_pos jo] at H;have jD:decide (a1 < (a0.size:Int))=true:=dT jo;clear jo;by_cases jc:(bt a0 a1)=62
          ·rw [if_pos jc] at H;have jh:((bt a0 a1) == 62)=true:=beq_iff_eq.mpr jc;have ji:((bt a0 a1) != 62)=false:=bF jc;clear jc;obtain rfl:=oI H;have jj:0≤(a1:Int):=of_decide_eq_true fK;have jk:a1 < (a0.size:Int):=of_decide_eq_true fK;have jr:=uT a0 a1;replace jj:=eq_true jj;replace jk:=eq_true jk;go_wp2;go_ret;exact ⟨sd_,fG⟩
          rw [if_neg jc] at H;have jh:((bt a0 a1) == 62)=false:=bE jc;have ji:((bt a0 a1) != 62)=true:=bne_iff_ne.mpr jc;obtain rfl:=oI H;have jj:0≤(a1:Int):=of_decide_eq_true fK;have jk:a1 < (a0.size:Int):=of_decide_eq_true fK;have jr:=uT a0 a1;replace jj:=eq_true jj;replace jk:=eq_true jk;go_wp2;go_ret;exact ⟨sd_,fG⟩
         rw [if_neg jo] at H;cases H
        rw [if_neg jn] at H;cases H
     rw [if_neg j8] at H;have j9:(j6 == 4)=false:=bE j8;have ja:(j6 != 4)=true:=bne_iff_ne.mpr j8;obtain rfl:=oI H;go_wp2;go_ret;exact ⟨sd_,fG⟩
  rw [if_neg c4] at H;cases H
 rw [if_neg c3] at H;cases H
theorem gM.mono:∀ a0 k,LeO (gM.f k a0) (gM.f (k + 1) a0):=by
 intro a0 k;unfold gM.f;have m0:=@eT.mono;exact mo_
theorem gM.calls (k:Nat) (a0:ByteArray) (r:Bool) (w:World) (h:gM.f k a0=some r):
  Calls Tryz.prog 50 #[.string a0] w fun e w'=>e= .returned (.bool r)∧gX w w':=by
 unfold gM.f at h;have H:=h;clear h;by_cases c2:a0.toList=([]:List UInt8)
 ·rw [if_pos c2] at H;have j3:(a0.toList == ([]:List UInt8))=true:=beq_iff_eq.mpr c2;have j4:(a0.toList != ([]:List UInt8))=false:=bF c2;clear c2;obtain rfl:=oI H;go_enter Tryz.func50,Tryz.ntmps50;go_wp2;go_ret;exact ⟨sd_,fG⟩
 rw [if_neg c2] at H;have j3:(a0.toList == ([]:List UInt8))=false:=bE c2;have j4:(a0.toList != ([]:List UInt8))=true:=bne_iff_ne.mpr c2;obtain ⟨j5,A3,H⟩:=bsa H;(try dsimp only at H);obtain rfl:=oI H;go_enter Tryz.func50,Tryz.ntmps50;go_wp2_with (first|(go_at_call 75;(with_reducible refine (eT.calls k a0 0 j5 _ A3.out).mono ?_);rintro e w' ⟨rfl,⟨nd,rfl⟩⟩));go_ret;exact ⟨sd_,fG⟩
theorem dI.mono_l:∀ k,(∀ y0 y1 y2,LeO (dI.l0 k y0 y1 y2) (dI.l0 (k + 1) y0 y1 y2))
 |0=>fun _ _ _ r h=>by simp [dI.l0] at h
 |k + 1=>by
  have ih0:=dI.mono_l k
  ·intro y0 y1 y2;unfold dI.l0;have m0:=@gM.mono;exact mo_
theorem dI.mono:∀ a0 k,LeO (dI.f k a0) (dI.f (k + 1) a0):=by
 intro a0 k;have ih0:=dI.mono_l k;unfold dI.f;have m0:=@gM.mono;exact mo_
theorem dI.calls (k:Nat) (A0:Option Addr) (c0:Nat) (l0:List ByteArray) (r:ByteArray) (w:World) (hr0:Kd.C Kd.string w A0 l0.length l0) (hc0:l0.length≤c0) (h:dI.f k l0=some r):
  Calls Tryz.prog 26 #[.slice A0 l0.length c0] w fun e w'=>e= .returned (.string r)∧gX w w':=by
 have j9:=am hr0;have jB:=am hc0;clear hr0 hc0;have H:(dI.l0 k l0 (⟨#[]⟩:ByteArray) 0)=some r:=h;clear h;have H':=am H;clear H;go_enter Tryz.func26,Tryz.ntmps26;go_wp2
 go_loopg [3,4] k (fun kq v3 v4 w'=>∃ (j4:ByteArray) (j3:Int),v3= .string j4∧v4= .int .i64 j3∧Aside0 (dI.l0 kq l0 j4 j3=some r)∧Aside0 (kq≤k)∧gX w w')
 case atStart=>exact ⟨((⟨#[]⟩:ByteArray)),(0),sd_,sd_,H',⟨Nat.le_refl _⟩,fG⟩
 case round=>
  clear H';obtain ⟨j4,j3,rfl,rfl,HA,jb,⟨m1,rfl⟩⟩:=hrel;cases gk with
  |zero=>exact absurd HA.out (by simp [dI.l0])
  |succ k1=>
   have H:=HA.out;clear HA;simp only [dI.l0] at H;by_cases c2:j3 < (l0.length:Int)
   ·rw [if_pos c2] at H;have jc:decide (j3 < (l0.length:Int))=true:=dT c2;clear c2;by_cases c3:0≤j3
    ·rw [if_pos c3] at H;have jm:decide (0≤j3)=true:=dT c3;clear c3;obtain ⟨jn,A4,H⟩:=bsa H;(try dsimp only at H);by_cases c5:jn=true
     ·subst c5;rw [if_pos rfl] at H;by_cases c6:j3 > 0
      ·rw [if_pos c6] at H;have jd:decide (0 < j3)=true:=dT c6;clear c6;by_cases c7:j4.size + 1≤9223372036854775807
       ·rw [if_pos c7] at H;have jo:=eq_true c7;have jp:decide (j4.size + 1≤9223372036854775807)=true:=dT c7;try have jq:(9223372036854775807 < j4.size + 1)=False:=eq_false (Nat.not_lt.2 c7)
        by_cases c8:(j4 ++ (⟨#[32]⟩:ByteArray)).size + (pJ ByteArray.empty l0 j3).size≤9223372036854775807
        ·rw [if_pos c8] at H;have jr:=eq_true c8;have js:decide ((j4 ++ (⟨#[32]⟩:ByteArray)).size + (pJ ByteArray.empty l0 j3).size≤9223372036854775807)=true:=dT c8;try have jt:(9223372036854775807 < (j4 ++ (⟨#[32]⟩:ByteArray)).size + (pJ ByteArray.empty l0 j3).size)=False:=eq_false (Nat.not_lt.2 c8)
         have jC:j4.size + 1 + (pJ ByteArray.empty l0 j3).size≤9223372036854775807:=by have h_:=c8;simp only [ByteArray.size_append] at h_;exact h_
         have ju:(9223372036854775807 < j4.size + 1 + (pJ ByteArray.empty l0 j3).size)=False:=eq_false (by omega);have jv:(j4.size + 1 + (pJ ByteArray.empty l0 j3).size≤9223372036854775807)=True:=eq_true (by omega);have H':=am H;clear H;have j5:0≤(j3:Int):=of_decide_eq_true fK;have j6:j3 < (l0.length:Int):=of_decide_eq_true fK;obtain ⟨j8,ja,j7⟩:=Kd.rT j9.out j3 j5 j6;cases ja;replace j5:=eq_true j5;replace j6:=eq_true j6;go_wp2_with (first|((with_reducible refine gC 50 rfl ?_);refine gl_ 15 Tryz.func50 #[.string (pJ ByteArray.empty l0 j3)] ?_;(with_reducible refine (gM.calls k1 (pJ ByteArray.empty l0 j3) true _ A4.out).mono ?_);rintro e w' ⟨rfl,⟨nd,rfl⟩⟩;refine ⟨_,rfl,?_⟩;have je:0≤(j3:Int):=of_decide_eq_true fK;have jf:j3 < (l0.length:Int):=of_decide_eq_true fK;obtain ⟨jg,jw,jh⟩:=Kd.rT j9.out j3 je jf;obtain rfl:j8=jg:=(by injection jw);replace je:=eq_true je;replace jf:=eq_true jf));go_roundg k1;case measure=>have:=jb.out;omega
         case rel=>exact ⟨((j4 ++ (⟨#[32]⟩:ByteArray)) ++ (pJ ByteArray.empty l0 j3)),(wrap64 (j3 + 1)),sd_,sd_,H',⟨by have:=jb.out;omega⟩,fG⟩
        rw [if_neg c8] at H;cases H
       rw [if_neg c7] at H;cases H
      rw [if_neg c6] at H;have jd:decide (0 < j3)=false:=dF c6;clear c6;by_cases c9:j4.size + (pJ ByteArray.empty l0 j3).size≤9223372036854775807
      ·rw [if_pos c9] at H;have jx:=eq_true c9;have jy:decide (j4.size + (pJ ByteArray.empty l0 j3).size≤9223372036854775807)=true:=dT c9;try have jz:(9223372036854775807 < j4.size + (pJ ByteArray.empty l0 j3).size)=False:=eq_false (Nat.not_lt.2 c9)
       have H':=am H;clear H;have j5:0≤(j3:Int):=of_decide_eq_true fK;have j6:j3 < (l0.length:Int):=of_decide_eq_true fK;obtain ⟨j8,ja,j7⟩:=Kd.rT j9.out j3 j5 j6;cases ja;replace j5:=eq_true j5;replace j6:=eq_true j6;go_wp2_with (first|((with_reducible refine gC 50 rfl ?_);refine gl_ 15 Tryz.func50 #[.string (pJ ByteArray.empty l0 j3)] ?_;(with_reducible refine (gM.calls k1 (pJ ByteArray.empty l0 j3) true _ A4.out).mono ?_);rintro e w' ⟨rfl,⟨nd,rfl⟩⟩;refine ⟨_,rfl,?_⟩;have ji:0≤(j3:Int):=of_decide_eq_true fK;have jj:j3 < (l0.length:Int):=of_decide_eq_true fK;obtain ⟨jk,jA,jl⟩:=Kd.rT j9.out j3 ji jj;obtain rfl:j8=jk:=(by injection jA);replace ji:=eq_true ji;replace jj:=eq_true jj));go_roundg k1;case measure=>have:=jb.out;omega
       case rel=>exact ⟨(j4 ++ (pJ ByteArray.empty l0 j3)),(wrap64 (j3 + 1)),sd_,sd_,H',⟨by have:=jb.out;omega⟩,fG⟩
      rw [if_neg c9] at H;cases H
     replace c5:=Bool.eq_false_iff.mpr c5;subst c5;rw [if_neg Bool.false_ne_true] at H;obtain rfl:=oI H;have j5:0≤(j3:Int):=of_decide_eq_true fK;have j6:j3 < (l0.length:Int):=of_decide_eq_true fK;obtain ⟨j8,ja,j7⟩:=Kd.rT j9.out j3 j5 j6;cases ja;replace j5:=eq_true j5;replace j6:=eq_true j6;go_wp2_with (first|((with_reducible refine gC 50 rfl ?_);refine gl_ 15 Tryz.func50 #[.string (pJ ByteArray.empty l0 j3)] ?_;(with_reducible refine (gM.calls k1 (pJ ByteArray.empty l0 j3) false _ A4.out).mono ?_);rintro e w' ⟨rfl,⟨nd,rfl⟩⟩;refine ⟨_,rfl,?_⟩));go_ret;exact ⟨sd_,fG⟩
    rw [if_neg c3] at H;cases H
   rw [if_neg c2] at H;have jc:decide (j3 < (l0.length:Int))=false:=dF c2;clear c2;obtain rfl:=oI H;go_wp2;go_ret;exact ⟨sd_,fG⟩
theorem bF.mono_l:∀ k,(∀ y0 y1 y2 y3,LeO (bF.l0 k y0 y1 y2 y3) (bF.l0 (k + 1) y0 y1 y2 y3))∧(∀ y0 y1 y2 y3,LeO (bF.l1 k y0 y1 y2 y3) (bF.l1 (k + 1) y0 y1 y2 y3))
 |0=>⟨fun _ _ _ _ r h=>by simp [bF.l0] at h,fun _ _ _ _ r h=>by simp [bF.l1] at h⟩
 |k + 1=>by
  obtain ⟨ih0,ih1⟩:=bF.mono_l k;refine ⟨?_,?_⟩
  ·intro y0 y1 y2 y3;unfold bF.l0;have m0:=@aY.mono;have m1:=@dI.mono;have m2:=@bL.mono;have m3:=@eB.mono;exact mo_
  ·intro y0 y1 y2 y3;unfold bF.l1;have m0:=@aY.mono;have m1:=@dI.mono;have m2:=@bL.mono;have m3:=@eB.mono;exact mo_
theorem bF.mono:∀ a0 a1 k,LeO (bF.f k a0 a1) (bF.f (k + 1) a0 a1):=by
 intro a0 a1 k;obtain ⟨ih0,ih1⟩:=bF.mono_l k;unfold bF.f;have m0:=@aY.mono;have m1:=@dI.mono;have m2:=@bL.mono;have m3:=@eB.mono;exact mo_
theorem bF.calls (k:Nat) (jb:Option Addr) (j9:Nat) (j5:List Int) (jc:Option Addr) (ja:Nat) (j4:List (List (S58))) (r:ByteArray) (w:World) (hr0_0:Kd.C (Kd.int .i64) w jb j5.length j5) (hc0_0:j5.length≤j9) (hr0_1:Kd.C (Kd.slice 58 k58) w jc j4.length j4) (hc0_1:j4.length≤ja) (h:bF.f k j5 j4=some r):
  Calls Tryz.prog 9 #[.agg #[.slice jb j5.length j9,.slice jc j4.length ja]] w fun e w'=>e= .returned (.string r)∧Below w.heap.size w w':=by
 have hu26:=Tryz.underlying26;have jh:=am hr0_0;have jv:=am hc0_0;clear hr0_0 hc0_0;have ji:=am hr0_1;have jw:=am hc0_1;clear hr0_1 hc0_1;have HB:=am (Below.refl w.heap.size w);unfold bF.f at h;have H:=h;clear h;obtain ⟨qC,A2,H⟩:=bsa H;(try dsimp only at H);have HH_:=am H;clear H;go_enter Tryz.func9,Tryz.ntmps9;go_upto_region 1 with (first|((with_reducible refine gD 1 rfl ?_);refine dU rfl (N:=1) rfl (cs:=#[.slice jb j5.length j9,.slice jc j4.length ja]) (t:=26) rn_ ?_;intro jf hg w4 hbox hb;have j3:=am (hbox);have qD:=am ((by rw [hg];exact (aI eG):w.heap.size≤jf));have GE37:=am ((by rw [hg];exact (aI eG):w.heap.size≤jf));replace HB:=am (aA eG hb);clear hb hbox hg;obtain ⟨jj,jk,jl,jm⟩:=iV j3.out));have H:=HH_.out;clear HH_;by_cases c3:qC=true
 ·subst c3;rw [if_pos rfl] at H;obtain ⟨qt,hy_⟩:∃ y_:List ByteArray,y_=(([]:List ByteArray)):=⟨_,rfl⟩;replace H:(bF.l0 k qt 0 j5 j4)=some r:=rx_;have jD:=am hy_;clear hy_;have H':=am H;clear H;go_wp2_with (first|((with_reducible refine gC 23 rfl ?_);refine gl_ 7 Tryz.func23 #[.agg #[.slice jb j5.length j9,.slice jc j4.length ja]] ?_;(with_reducible refine (aY.calls k _ _ j5 _ _ j4 true _ (aC_ (Kd.aX jh.out HB.out)) jv.out (aC_ (Kd.aX ji.out HB.out)) jw.out A2.out).mono ?_);rintro e w6 ⟨rfl,hb⟩;refine ⟨_,rfl,?_⟩;replace j3:=bbP j3 hb;replace HB:=am (aA rA hb);(try clear hb))|((with_reducible refine gD 9 rfl ?_);refine Kd.oL Kd.string _ 9 rfl (N:=9) rfl (xs:=([]:List ByteArray)) (inner:=[]) (ok:=fun _=>True) (okp:=fun _=>True) rn_ ?hp (fun _ hk=>hk) trivial (Below.refl _ _) (Nat.le_refl _) (by simp) ?_;(case hp=>exact (dF.none _ _));intro qL w7 ho8 hb hg_ hnew_;clear hg_ hnew_;(first|rw [← jD.out] at ho8|(simp only [Int.reduceToNat] at ho8;rw [← jD.out] at ho8));have q8:=am (Kd.fB ho8 (aI rA));replace j3:=bbP j3 hb;replace HB:=am (aA rA hb);clear hb ho8))
  go_loopg [3,4] k (fun kq v3 v4 w'=>∃ (jd:List ByteArray) (j7:Int),v4= .int .i64 j7∧Aside0 (bF.l0 kq jd j7 j5 j4=some r)∧Aside0 (kq≤k)∧Aside0 (Kd.R Kd.string 9 w' w.heap.size (fun _=>True) v3 jd)∧Aside0 (w'.heap[jf]?=some (.cells #[(.slice jb j5.length j9),(.slice jc j4.length ja)] 26 (0,0)))∧Aside0 (Below w.heap.size w w'))
  case atStart=>exact ⟨(qt),(0),sd_,H',⟨Nat.le_refl _⟩,⟨gI q8.out⟩,⟨by (with_reducible repeat (first|refine dW ?_ _|refine dA ?_|refine dS ?_ _));exact j3.out⟩,⟨rA⟩⟩
  case round=>
   clear H';try clear c3
   try clear jj
   try clear jk
   try clear jl
   try clear jm
   obtain ⟨jd,j7,rfl,HA,jN,j8,j3,HB⟩:=hrel;cases gk with
   |zero=>exact absurd HA.out (by simp [bF.l0])
   |succ k1=>
    have H:=HA.out;clear HA;simp only [bF.l0] at H;by_cases c9:j7 < (j5.length:Int)
    ·rw [if_pos c9] at H;have jE:decide (j7 < (j5.length:Int))=true:=dT c9;clear c9;by_cases c10:0≤j7
     ·rw [if_pos c10] at H;have qu:decide (0≤j7)=true:=dT c10;clear c10;obtain ⟨jA,qv,H⟩:=bsm H;(try dsimp only at H);have qE:=am qv;clear qv;obtain ⟨jB,hy_⟩:∃ y_:List ByteArray,y_=(([(⟨#[98,111,120]⟩:ByteArray),jA,(⟨#[59]⟩:ByteArray)]:List ByteArray)):=⟨_,rfl⟩;replace H:(if jd.length + jB.length < 8796093022208 then (bF.l0 k1 (jd ++ jB) (wrap64 (j7 + 1)) j5 j4) else (none))=some r:=rx_;have jF:=am hy_;clear hy_;by_cases jO:jd.length + jB.length < 8796093022208
      ·rw [if_pos jO] at H;have jG:=am jO;clear jO;obtain ⟨qw,hy_⟩:∃ y_:List ByteArray,y_=(jd ++ jB):=⟨_,rfl⟩;replace H:(bF.l0 k1 qw (wrap64 (j7 + 1)) j5 j4)=some r:=rx_;have q9:=am hy_;clear hy_;have H':=am H;clear H;obtain ⟨jP,jQ,jR,jS⟩:=iV j3.out;have qa:0≤(j7:Int):=of_decide_eq_true fK;have qb:j7 < (j5.length:Int):=of_decide_eq_true fK;obtain ⟨qc,qF,jn⟩:=Kd.oW jh.out j7 qa qb;cases qF;replace jn:=bcT HB.out jn;replace qa:=eq_true qa;replace qb:=eq_true qb;go_wp2_with (first|((with_reducible refine gC 24 rfl ?_);refine gl_ 23 Tryz.func24 #[.int .i64 (rd j5 j7)] ?_;(with_reducible refine (eB.calls k1 (rd j5 j7) jA _ qE.out).mono ?_);rintro e qM ⟨rfl,hb⟩;refine ⟨_,rfl,?_⟩;replace j8:=am (Kd.fT (aR_ j8.out) hb);replace j3:=bbP j3 hb;replace HB:=am (aA rA hb);(try clear hb))|((with_reducible refine gD 24 rfl ?_);refine Kd.oL Kd.string _ 9 rfl (N:=24) rfl (xs:=([(⟨#[98,111,120]⟩:ByteArray),jA,(⟨#[59]⟩:ByteArray)]:List ByteArray)) (inner:=[.string (⟨#[98,111,120]⟩:ByteArray),.string jA,.string (⟨#[59]⟩:ByteArray)]) (ok:=fun _=>True) (okp:=fun _=>True) rn_ ?hp (fun _ hk=>hk) trivial (Below.refl _ _) (Nat.le_refl _) (by simp) ?_;(case hp=>exact (dF.one (show Kd.M Kd.string _ _ _ (⟨#[98,111,120]⟩:ByteArray) [.string (⟨#[98,111,120]⟩:ByteArray)] from rfl) (dF.one (show Kd.M Kd.string _ _ _ jA [.string jA] from rfl) (dF.one (show Kd.M Kd.string _ _ _ (⟨#[59]⟩:ByteArray) [.string (⟨#[59]⟩:ByteArray)] from rfl) (dF.none _ _)))));intro qN qO ho16 hb hg_ hnew_;clear hg_ hnew_;(first|rw [← jF.out] at ho16|(simp only [Int.reduceToNat] at ho16;rw [← jF.out] at ho16));have jo:=am (Kd.fB (Kd.lF ho16 (Kd.iG (aR_ j8.out))) (aI rA));replace j8:=am (Kd.iD (aR_ j8.out) (Kd.iN ho16) hb);replace j3:=bbP j3 hb;replace HB:=am (aA rA hb);clear hb ho16;obtain ⟨qd,qe,qf⟩:=Kd.eY jo.out;subst qf)|((with_reducible refine dV (b:=.append) (xs:=#[.tmp 17,.tmp 24]) rfl ?_);at_builtin;refine Kd.gY Kd.string (w0:=w) w.heap.size rfl (.tmp 17) (.tmp 24) 29 9 (.string ⟨#[]⟩) 16 rfl Tryz.underlying29 kU rfl (by decide) (by omega) u3 jd jB _ _ _ (fun k_=>some k_≠(.slice qd jB.length qe:Value).ownBlock) (fun _=>False) rfl rfl ?aO ?aR (fun _ _ h=>h) (fun _ h=>h.elim) ?aF ?aB ?aS ?aL ?_;(case aR=>repeat (first|exact (Kd.eX jo.out).2.2|(with_reducible refine Kd.lS ?_ _)|(with_reducible refine Kd.kZ ?_ _)|(with_reducible refine Kd.mP ?_)));(case aB=>exact rA);(case aF=>exact (fun k_ hk=>Kd.fresh' (Kd.iG (aR_ jo.out)) k_ hk));(case aO=>exact (gI (Kd.bN j8.out (fun _ hk=>hk.2))));(case aS=>exact (aI rA));(case aL=>have:=jG.out;omega);intro qP qQ ho hb hg hat;rw [← q9.out] at ho;replace j3:=am (dL (g:=jf) (o:=.cells #[.slice (some qc) j5.length j9,.slice jc j4.length ja] 26 (0,0)) (aG_ j3.out) hg (Kd.lC j8.out j3.out (by decide)));replace jo:=am (Kd.iX (ok:=(fun _=>True)) (aR_ jo.out) hg hat);replace HB:=am (hb);have qg:=am (ho);clear j8 ho hb hg hat));go_roundg k1;case measure=>have:=jN.out;omega
       case rel=>exact ⟨(qw),(wrap64 (j7 + 1)),sd_,H',⟨by have:=jN.out;omega⟩,⟨gI (Kd.bN qg.out (fun _ hk=>trivial))⟩,⟨by (with_reducible repeat (first|refine dW ?_ _|refine dA ?_|refine dS ?_ _));exact j3.out⟩,⟨rA⟩⟩
      rw [if_neg jO] at H;cases H
     rw [if_neg c10] at H;cases H
    rw [if_neg c9] at H;have jE:decide (j7 < (j5.length:Int))=false:=dF c9;clear c9;have H':=am H;clear H;obtain ⟨jr,js,jt,ju⟩:=iV j3.out;go_wp2
    go_loopg [3,5] k1 (fun kq v3 v5 w'=>∃ (je:List ByteArray) (j6:Int),v5= .int .i64 j6∧Aside0 (bF.l1 kq je j6 j5 j4=some r)∧Aside0 (kq≤k1)∧Aside0 (Kd.R Kd.string 9 w' w.heap.size (fun _=>True) v3 je)∧Aside0 (w'.heap[jf]?=some (.cells #[(.slice jb j5.length j9),(.slice jc j4.length ja)] 26 (0,0)))∧Aside0 (Below w.heap.size w w'))
    case atStart=>exact ⟨(jd),(0),sd_,H',⟨Nat.le_refl _⟩,⟨gI j8.out⟩,⟨by (with_reducible repeat (first|refine dW ?_ _|refine dA ?_|refine dS ?_ _));exact j3.out⟩,⟨rA⟩⟩
    case round=>
     clear H';try clear c3
     try clear c9
     try clear jE
     try clear jr
     try clear js
     try clear jj
     try clear jk
     try clear jt
     try clear ju
     try clear jl
     try clear jm
     obtain ⟨je,j6,rfl,HA,qx,j8,j3,HB⟩:=hrel;cases gk with
     |zero=>exact absurd HA.out (by simp [bF.l1])
     |succ k2=>
      have H:=HA.out;clear HA;simp only [bF.l1] at H;by_cases jC:j6 < (j4.length:Int)
      ·rw [if_pos jC] at H;have jH:decide (j6 < (j4.length:Int))=true:=dT jC;clear jC;by_cases jT:je.length < 8796093022208
       ·rw [if_pos jT] at H;have jI:=am jT;clear jT;obtain ⟨jJ,hy_⟩:∃ y_:List ByteArray,y_=(je ++ [(⟨#[116,97,115,107]⟩:ByteArray)]):=⟨_,rfl⟩;replace H:(if 0≤j6 then ((bL.f k2 (gB j4 j6)).bind fun jx=>(if jJ.length + jx.length < 8796093022208 then (bF.l1 k2 (jJ ++ jx) (wrap64 (j6 + 1)) j5 j4) else (none))) else (none))=some r:=rx_;have qh:=am hy_;clear hy_;by_cases jU:0≤j6
        ·rw [if_pos jU] at H;have qy:decide (0≤j6)=true:=dT jU;clear jU;obtain ⟨jx,qz,H⟩:=bsm H;(try dsimp only at H);have qG:=am qz;clear qz;by_cases jV:jJ.length + jx.length < 8796093022208
         ·rw [if_pos jV] at H;have jK:=am jV;clear jV;obtain ⟨qA,hy_⟩:∃ y_:List ByteArray,y_=(jJ ++ jx):=⟨_,rfl⟩;replace H:(bF.l1 k2 qA (wrap64 (j6 + 1)) j5 j4)=some r:=rx_;have qi:=am hy_;clear hy_;have H':=am H;clear H;obtain ⟨jW,jX,jY,jZ⟩:=iV j3.out;go_wp2_with (first|((with_reducible refine dV (b:=.append) (xs:=#[.tmp 33,.tmp 34]) rfl ?_);at_builtin;refine Kd.kQ Kd.string (w0:=w) w.heap.size rfl (.tmp 33) (.tmp 34) 29 9 (.string ⟨#[]⟩) 16 rfl Tryz.underlying29 kU rfl (by decide) (by omega) u3 je (⟨#[116,97,115,107]⟩:ByteArray) [.string (⟨#[116,97,115,107]⟩:ByteArray)] (fun _=>True) (fun _=>False) rfl rfl ?aP (fun _ hk=>hk.elim) ?aF ?aO ?aB ?aS ?aL ?_;(case aP=>exact rfl);(case aB=>exact rA);(case aF=>exact (fun _ _=>trivial));(case aO=>exact (aR_ j8.out));(case aS=>exact (aI rA));(case aL=>have:=jI.out;omega);intro qH qR ho hb hg hat;rw [← qh.out] at ho;replace j3:=am (dL (g:=jf) (o:=.cells #[.slice jb j5.length j9,.slice jc j4.length ja] 26 (0,0)) (aG_ j3.out) hg (Kd.lC j8.out j3.out (by decide)));replace HB:=am (hb);have jg:=am (ho);clear j8 ho hb hg hat;obtain ⟨q0,q1,q2,q3⟩:=iV j3.out;have qj:0≤(j6:Int):=of_decide_eq_true fK;have qk:j6 < (j4.length:Int):=of_decide_eq_true fK;obtain ⟨ql,jL,jM,qI,jp,hl60_0,hi60_0⟩:=wT ji.out j6 qj qk;cases qI;replace jp:=bcT HB.out jp;have jy:=am hi60_0;have jz:=am hl60_0;clear hi60_0 hl60_0;replace qj:=eq_true qj;replace qk:=eq_true qk)|((with_reducible refine gC 25 rfl ?_);refine gl_ 42 Tryz.func25 #[.slice jL (gB j4 j6).length jM] ?_;(with_reducible refine (bL.calls k2 _ _ (gB j4 j6) jx _ (aC_ (Kd.aX jy.out HB.out)) jz.out qG.out).mono ?_);rintro e qS ⟨qT,rfl,ho0,hb⟩;refine ⟨_,rfl,?_⟩;have jq:=am (Kd.fB (Kd.lF ho0 (Kd.iG (aR_ jg.out))) (aI rA));replace jg:=am (Kd.iD (aR_ jg.out) (Kd.iN ho0) hb);replace j3:=bbP j3 hb;replace HB:=am (aA rA hb);(try clear hb);(try clear ho0);obtain ⟨qm,qn,qo⟩:=Kd.eY jq.out;subst qo)|((with_reducible refine dV (b:=.append) (xs:=#[.tmp 36,.tmp 42]) rfl ?_);at_builtin;refine Kd.gY Kd.string (w0:=w) w.heap.size rfl (.tmp 36) (.tmp 42) 29 9 (.string ⟨#[]⟩) 16 rfl Tryz.underlying29 kU rfl (by decide) (by omega) qH jJ jx _ _ _ (fun k_=>some k_≠(.slice qm jx.length qn:Value).ownBlock) (fun _=>False) rfl rfl ?aO ?aR (fun _ _ h=>h) (fun _ h=>h.elim) ?aF ?aB ?aS ?aL ?_;(case aR=>repeat (first|exact (Kd.eX jq.out).2.2|(with_reducible refine Kd.lS ?_ _)|(with_reducible refine Kd.kZ ?_ _)|(with_reducible refine Kd.mP ?_)));(case aB=>exact rA);(case aF=>exact (fun k_ hk=>Kd.fresh' (Kd.iG (aR_ jq.out)) k_ hk));(case aO=>exact (gI (Kd.bN jg.out (fun _ hk=>hk.2))));(case aS=>exact (aI rA));(case aL=>have:=jK.out;omega);intro qU qV ho hb hg hat;rw [← qi.out] at ho;replace j3:=am (dL (g:=jf) (o:=.cells #[.slice jb j5.length j9,.slice (some ql) j4.length ja] 26 (0,0)) (aG_ j3.out) hg (Kd.lC jg.out j3.out (by decide)));replace jq:=am (Kd.iX (ok:=(fun _=>True)) (aR_ jq.out) hg hat);replace HB:=am (hb);have qp:=am (ho);clear jg ho hb hg hat));go_roundg k2;case measure=>have:=jN.out;have:=qx.out;omega
          case rel=>exact ⟨(qA),(wrap64 (j6 + 1)),sd_,H',⟨by have:=jN.out;have:=qx.out;omega⟩,⟨gI (Kd.bN qp.out (fun _ hk=>trivial))⟩,⟨by (with_reducible repeat (first|refine dW ?_ _|refine dA ?_|refine dS ?_ _));exact j3.out⟩,⟨rA⟩⟩
         rw [if_neg jV] at H;cases H
        rw [if_neg jU] at H;cases H
       rw [if_neg jT] at H;cases H
      rw [if_neg jC] at H;have jH:decide (j6 < (j4.length:Int))=false:=dF jC;clear jC;obtain ⟨qJ,qB,H⟩:=bsm H;(try dsimp only at H);have qK:=am qB;clear qB;obtain rfl:=oI H;obtain ⟨q4,q5,q6,q7⟩:=iV j3.out;obtain ⟨qq,qr,qs⟩:=Kd.eY j8.out;subst qs;go_wp2_with (first|((with_reducible refine gC 26 rfl ?_);refine gl_ 45 Tryz.func26 #[.slice qq je.length qr] ?_;(with_reducible refine (dI.calls k2 _ _ je qJ _ (aC_ (Kd.eX j8.out).2.2) (Kd.eX j8.out).2.1 qK.out).mono ?_);rintro e w' ⟨rfl,⟨nd,rfl⟩⟩;refine ⟨_,rfl,?_⟩));go_ret;exact ⟨rr_,rA⟩
 replace c3:=Bool.eq_false_iff.mpr c3;subst c3;rw [if_neg Bool.false_ne_true] at H;obtain rfl:=oI H;go_wp2_with (first|((with_reducible refine gC 23 rfl ?_);refine gl_ 7 Tryz.func23 #[.agg #[.slice jb j5.length j9,.slice jc j4.length ja]] ?_;(with_reducible refine (aY.calls k _ _ j5 _ _ j4 false _ (aC_ (Kd.aX jh.out HB.out)) jv.out (aC_ (Kd.aX ji.out HB.out)) jw.out A2.out).mono ?_);rintro e qW ⟨rfl,hb⟩;refine ⟨_,rfl,?_⟩;replace j3:=bbP j3 hb;replace HB:=am (aA rA hb);(try clear hb)));go_ret;exact ⟨rr_,rA⟩
theorem kI.calls (A0:Option Addr) (c0:Nat) (l0:List Int) (r:List Int) (w:World) (hr0:Kd.C (Kd.int .i64) w A0 l0.length l0) (hc0:l0.length≤c0) (h:kI.f l0=some r):
  Calls Tryz.prog 34 #[.slice A0 l0.length c0] w fun e w'=>∃ v0_:Value,e= .returned (v0_)∧Kd.R (Kd.int .i64) 3 w' w.heap.size (fun _=>True) v0_ r∧Below w.heap.size w w':=by
 have j9:=am hr0;have jc:=am hc0;clear hr0 hc0;have HB:=am (Below.refl w.heap.size w);unfold kI.f at h;have H:=h;clear h;obtain ⟨j4,hy_⟩:∃ y_:List Int,y_=(([]:List Int)):=⟨_,rfl⟩;replace H:(if j4.length + l0.length < 17592186044416 then (some (j4 ++ l0)) else (none))=some r:=rx_;have j3:=am hy_;clear hy_;by_cases c2:j4.length + l0.length < 17592186044416
 ·rw [if_pos c2] at H;have j7:=am c2;clear c2;obtain ⟨ja,hy_⟩:∃ y_:List Int,y_=(j4 ++ l0):=⟨_,rfl⟩;replace H:(some ja)=some r:=rx_;have j5:=am hy_;clear hy_;obtain rfl:=oI H;cases A0 with
  |none=>
   have hl:l0=[]:=by
    have hr:=j9.out;rcases Nat.eq_zero_or_pos l0.length with h0|h0;·exact List.eq_nil_of_length_eq_zero h0
    ·obtain ⟨ad,e,_⟩:=hr.2.2 h0;cases e
   have hy:ja=[]:=by rw [j5.out,j3.out,hl];rfl
   rw [hy];have hnl:=fun (w:World) (n c n' c':Nat)=>Lib.run_eql_slice_nil (P:=Tryz.prog) w 23 3 none n c n' c' Tryz.underlying23
   go_enter Tryz.func34,Tryz.ntmps34;go_wp2;go_ret;exact ⟨_,rfl,Kd.uS _ _ _ _ _,HB.out⟩
  |some ad=>
   have hnl:=fun (w:World) (n c n' c':Nat)=>Lib.run_eql_slice_nil (P:=Tryz.prog) w 23 3 (some ad) n c n' c' Tryz.underlying23
   go_enter Tryz.func34,Tryz.ntmps34;go_wp2_with (first|((with_reducible refine gD 5 rfl ?_);refine Kd.oL (Kd.int .i64) _ 3 rfl (N:=5) rfl (xs:=([]:List Int)) (inner:=[]) (ok:=fun _=>True) (okp:=fun _=>True) rn_ ?hp (fun _ hk=>hk) trivial (Below.refl _ _) (Nat.le_refl _) (by simp) ?_;(case hp=>exact (dF.none _ _));intro jb w3 ho4 hb hg_ hnew_;clear hg_ hnew_;(first|rw [← j3.out] at ho4|(simp only [Int.reduceToNat] at ho4;rw [← j3.out] at ho4));have j6:=am (Kd.fB ho4 (aI eG));replace HB:=am (aA eG hb);clear hb ho4)|((with_reducible refine dV (b:=.append) (xs:=#[.tmp 5,.tmp 6]) rfl ?_);at_builtin;refine Kd.gY (Kd.int .i64) (w0:=w) w.heap.size rfl (.tmp 5) (.tmp 6) 23 3 (.int .i64 0) 8 rfl Tryz.underlying23 info3 rfl (by decide) (by omega) jb j4 l0 _ _ _ (fun _=>True) (fun _=>False) rfl rfl ?aO ?aR (fun _ _ h=>h) (fun _ h=>h.elim) ?aF ?aB ?aS ?aL ?_;(case aR=>repeat (first|exact (Kd.aX j9.out HB.out)|(with_reducible refine Kd.lS ?_ _)|(with_reducible refine Kd.kZ ?_ _)|(with_reducible refine Kd.mP ?_)));(case aB=>exact eG);(case aF=>exact (fun _ _=>trivial));(case aO=>exact (aR_ j6.out));(case aS=>exact (aI eG));(case aL=>have:=j7.out;omega);intro jd w5 ho hb hg hat;rw [← j5.out] at ho;replace HB:=am (hb);have j8:=am (ho);clear j6 ho hb hg hat));go_ret;exact ⟨_,gU,gI j8.out,eG⟩
 rw [if_neg c2] at H;cases H
theorem aQ.mono_l:∀ k,(∀ y0,LeO (aQ.f k y0) (aQ.f (k + 1) y0))∧(∀ y0 y1 y2 y3,LeO (aQ.l0 k y0 y1 y2 y3) (aQ.l0 (k + 1) y0 y1 y2 y3))∧(∀ y0 y1 y2 y3 y4 y5 y6 y7 y8 y9 j3 j4 j5 j6,LeO (aQ.j1 k y0 y1 y2 y3 y4 y5 y6 y7 y8 y9 j3 j4 j5 j6) (aQ.j1 (k + 1) y0 y1 y2 y3 y4 y5 y6 y7 y8 y9 j3 j4 j5 j6))∧(∀ y0 y1 y2 y3 y4 y5 y6 y7 y8 y9 j3 j4 j5 j6,LeO (aQ.j2 k y0 y1 y2 y3 y4 y5 y6 y7 y8 y9 j3 j4 j5 j6) (aQ.j2 (k + 1) y0 y1 y2 y3 y4 y5 y6 y7 y8 y9 j3 j4 j5 j6))
 |0=>⟨fun _ r h=>by simp [aQ.f] at h,fun _ _ _ _ r h=>by simp [aQ.l0] at h,fun _ _ _ _ _ _ _ _ _ _ _ _ _ _ r h=>by simp [aQ.j1] at h,fun _ _ _ _ _ _ _ _ _ _ _ _ _ _ r h=>by simp [aQ.j2] at h⟩
 |k + 1=>by
  obtain ⟨ih0,ih1,ih2,ih3⟩:=aQ.mono_l k;refine ⟨?_,?_,?_,?_⟩
  ·intro y0;unfold aQ.f;have m0:=@cK.mono;exact mo_
  ·intro y0 y1 y2 y3;unfold aQ.l0;have m0:=@cK.mono;exact mo_
  ·intro y0 y1 y2 y3 y4 y5 y6 y7 y8 y9 j3 j4 j5 j6;unfold aQ.j1;have m0:=@cK.mono;exact mo_
  ·intro y0 y1 y2 y3 y4 y5 y6 y7 y8 y9 j3 j4 j5 j6;unfold aQ.j2;have m0:=@cK.mono;exact mo_
theorem aQ.mono:∀ a0 k,LeO (aQ.f k a0) (aQ.f (k + 1) a0):=by
 intro a0 k;obtain ⟨ih0,ih1,ih2,ih3⟩:=aQ.mono_l k;exact ih0 a0
def aEn (d:Kd S58):Kd S58:=Kd.iso (Kd.pair (Kd.int .i64) (Kd.pair (Kd.int .i64) (Kd.pair (Kd.int .i64) (aDb ES (aDb (NJ 58 d) (NJ 58 d)))))) (fun x:S58=>(x.f0,x.f1,x.f2,x.f3,x.f4,x.f5))
theorem monoS58:Kd.uG aEn:=Kd.mono_iso _ (Kd.mono_pair (Kd.mono_const _) (Kd.mono_pair (Kd.mono_const _) (Kd.mono_pair (Kd.mono_const _) (mono_pairS (Kd.mono_const _) (mono_pairS (mono_sliceS 58 Kd.mono_id) (mono_sliceS 58 Kd.mono_id))))))
theorem aKg:Kd.Sub aEn [56,58]:=Kd.LG _ (Kd.oI (Kd.sub_const _ (by decide)) (Kd.oI (Kd.sub_const _ (by decide)) (Kd.oI (Kd.sub_const _ (by decide)) (RF (Kd.sub_const _ (by decide)) (RF (DV 58 (by decide) Kd.GK) (DV 58 (by decide) Kd.GK))))))
theorem aAi:∀ n,(Kd.upto aEn 8 [56,58] n).sz=8:=Kd.LH (fun _=>rfl)
def ET:Kd S58:=Kd.fix aEn 8 [56,58] aAi (Kd.NP aKg)
theorem aFy (w:World) (base:Nat) (ok p5 p6 p7:Nat→Prop) (x:S58) {v5 v6 v7:Value} (g5:Kd.S ES 56 w base p5 v5 x.f3.f2) (g6:Kd.S ET 58 w base p6 v6 x.f4) (g7:Kd.S ET 58 w base p7 v7 x.f5) (h:∀ k,p5 k∨p6 k∨p7 k→ok k) (ha:∀ k,(p5 k→¬ p6 k∧¬ p7 k)∧(p6 k→¬ p7 k)):
  ET.M w base ok x [.int .i64 x.f0,.int .i64 x.f1,.int .i64 x.f2,.int .i64 x.f3.f0,.int .i64 x.f3.f1,v5,v6,v7]:=by
 obtain ⟨n6,r6⟩:=CU monoS58 g6;obtain ⟨n7,r7⟩:=CU monoS58 g7;replace r6:=RI monoS58 aAi (show n6≤n6 + n7 by omega) r6;replace r7:=RI monoS58 aAi (show n7≤n6 + n7 by omega) r7;have hE:=sQ w base _ x.f3 (Kd.kE g5 (fun k hk=>(⟨h k (.inl hk),hk⟩:ok k∧p5 k)));exact ⟨n6 + n7 + 1,[.int .i64 x.f0],_,rfl,rfl,[.int .i64 x.f1],_,rfl,rfl,[.int .i64 x.f2],_,rfl,rfl,p5,[.int .i64 x.f3.f0,.int .i64 x.f3.f1,v5],[v6,v7],rfl,hE,p6,[v6],[v7],rfl,⟨v6,rfl,Kd.kE r6 (fun k hk=>⟨⟨h k (.inr (.inl hk)),fun e=>((ha k).1 e).1 hk⟩,hk⟩)⟩,⟨v7,rfl,Kd.kE r7 (fun k hk=>⟨⟨h k (.inr (.inr hk)),fun e=>((ha k).1 e).2 hk⟩,fun e=>(ha k).2 e hk⟩)⟩⟩
theorem MQ:∀ n {w base ok x cs},(Kd.upto aEn 8 [56,58] n).M w base ok x cs→(Kd.upto F58 8 [56,58] n).M w base ok x cs
 |0,_,_,_,_,_,h=>h.elim
 |n + 1,w,base,ok,x,cs,h=>by
  obtain ⟨_,_,rfl,h0,⟨_,_,rfl,h1,⟨_,_,rfl,h2,⟨p,c5,_,rfl,g5,⟨q,_,_,rfl,⟨v6,rfl,g6⟩,⟨v7,rfl,g7⟩⟩⟩⟩⟩⟩:=h;obtain ⟨m,g5⟩:=g5;exact ⟨_,_,rfl,h0,_,_,rfl,h1,_,_,rfl,h2,c5,[v6,v7],rfl,⟨m,Kd.M_mono _ (fun k hk=>hk.1) (MP m g5)⟩,[v6],[v7],rfl,⟨v6,rfl,Kd.LX (by rw [aAi n,aGr n]) (fun _ _ _ _ _ hp=>MQ n hp) (Kd.bN (Kd.S_R g6) (fun k hk=>hk.1.1))⟩,⟨v7,rfl,Kd.LX (by rw [aAi n,aGr n]) (fun _ _ _ _ _ hp=>MQ n hp) (Kd.bN (Kd.S_R g7) (fun k hk=>hk.1.1))⟩⟩
theorem aJz {w:World} {base:Nat} {ok:Nat→Prop} {v:Value} {xs:List S58} (h:Kd.S ET 58 w base ok v xs):k58.R 58 w base ok v xs:=
 Kd.LX (d:=ET) (d':=k58) rfl (fun w base ok x cs hp=>by obtain ⟨n,hp⟩:=hp;exact ⟨n,MQ n hp⟩) (Kd.S_R h)
structure FSF (w W0:World) (gb:Nat) (B3:Option Addr) (d3:Nat) (x3:List S58) (f0 f1 f2 e0 e1:Int) (e2:List S56) (A5:Option Addr) (c5:Nat) (bd:List S58) (A6:Option Addr) (c6:Nat) (el:List S58) (A7:Option Addr) (c7:Nat) (x0 x1:Int) (x2:List S56) (yb ye:List S58) (B5:Option Addr) (d5:Nat) (B6:Option Addr) (d6:Nat) (B7:Option Addr) (d7 h1 h2:Nat) (b2 b5 b8 b10 b12 b14:Bool) (W:World):Prop where
 hB:Below w.heap.size w W
 hs:W0.heap.size≤W.heap.size
 hO:Kd.S ET 58 W w.heap.size (fun q=>(w.heap.size≤q∧q≠gb)∧q < W0.heap.size) (.slice B3 x3.length d3) x3
 h1_:b2=true→W0.heap.size≤h1∧h1≤W.heap.size
 h2_:b5=true→h1≤h2∧h2≤W.heap.size
 h6:b2=true→Kd.S ET 58 W w.heap.size (fun q=>W0.heap.size≤q∧q < h1) (.slice B6 yb.length d6) yb
 h7:b5=true→Kd.S ET 58 W w.heap.size (fun q=>h1≤q∧q < h2) (.slice B7 ye.length d7) ye
 h5:b8=true→Kd.S ES 56 W w.heap.size (fun q=>h2≤q) (.slice B5 x2.length d5) x2
 hX:W.heap[gb]?=some (.cells (cond b14 #[(.int .i64 f0),(.int .i64 f1),(.int .i64 f2),(.int .i64 x0),(.int .i64 x1),(.slice B5 x2.length d5),(.slice B6 yb.length d6),(.slice B7 ye.length d7)] (cond b12 #[(.int .i64 f0),(.int .i64 f1),(.int .i64 f2),(.int .i64 e0),(.int .i64 e1),(.slice A5 e2.length c5),(.slice B6 yb.length d6),(.slice B7 ye.length d7)] (cond b10 #[(.int .i64 f0),(.int .i64 f1),(.int .i64 f2),(.int .i64 e0),(.int .i64 e1),(.slice A5 e2.length c5),(.slice B6 yb.length d6),(.slice A7 el.length c7)] #[(.int .i64 f0),(.int .i64 f1),(.int .i64 f2),(.int .i64 e0),(.int .i64 e1),(.slice A5 e2.length c5),(.slice A6 bd.length c6),(.slice A7 el.length c7)]))) 58 (0,0))
def aSF (w W0:World) (gb:Nat) (ad:Addr) (c0:Nat) (l:List S58) (x9:Int) (B3:Option Addr) (d3:Nat) (x3:List S58) (f0 f1 f2 e0 e1:Int) (e2:List S56) (A5:Option Addr) (c5:Nat) (bd:List S58) (A6:Option Addr) (c6:Nat) (el:List S58) (A7:Option Addr) (c7:Nat) (x0 x1:Int) (x2:List S56) (yb ye:List S58) (u6 u13 u14 u15 u16 u17 u18 u19 u20 u21 u22 u23 u24 u25 u26 u27 u28 u29 u30 u31 u32 u33 u34 u35 u36 u37 u38 u39 u40 u41 u42 u43 u44 u45 u46 u47 u48 u49 u50 u51 u52 u53 u54 u55 u56 u57 u58 u59 u60 u61 u62 u63 u64 u65 u66 u67 u68 u69 u70 u71 u72 u73 u74:Value) (B5:Option Addr) (d5:Nat) (B6:Option Addr) (d6:Nat) (B7:Option Addr) (d7:Nat) (h1:Nat) (h2:Nat) (b0 b1 b2 b3 b4 b5 b6 b7 b8 b9 b10 b11 b12 b13 b14:Bool):Act:=
 { tmps:=#[(.slice (some ad) l.length c0),undef,(.slice none 0 0),(.slice B3 x3.length d3),undef,(.pointer (some ⟨gb,0,none⟩)),u6,(.slice (some ad) l.length c0),(.int .i64 (l.length:Int)),(.int .i64 x9),(.bool true),(.pointer (some (ad.add (x9.toNat * 8)))),(.agg #[(.int .i64 f0),(.int .i64 f1),(.int .i64 f2),(.int .i64 e0),(.int .i64 e1),(.slice A5 e2.length c5),(.slice A6 bd.length c6),(.slice A7 el.length c7)]),cond b0 (.pointer (some ⟨gb,6,none⟩)) u13,cond b1 (.slice A6 bd.length c6) u14,cond b2 (.slice B6 yb.length d6) u15,cond b3 (.pointer (some ⟨gb,7,none⟩)) u16,cond b4 (.slice A7 el.length c7) u17,cond b5 (.slice B7 ye.length d7) u18,cond b6 (.pointer (some ⟨gb,3,none⟩)) u19,cond b7 (.agg #[(.int .i64 e0),(.int .i64 e1),(.slice A5 e2.length c5)]) u20,cond b8 (.agg #[(.int .i64 x0),(.int .i64 x1),(.slice B5 x2.length d5)]) u21,cond b9 (.pointer (some ⟨gb,6,none⟩)) u22,cond b11 (.pointer (some ⟨gb,7,none⟩)) u23,cond b13 (.pointer (some ⟨gb,3,none⟩)) u24,u25,u26,u27,u28,u29,u30,u31,u32,u33,u34,u35,u36,u37,u38,u39,u40,u41,u42,u43,u44,u45,u46,u47,u48,u49,u50,u51,u52,u53,u54,u55,u56,u57,u58,u59,u60,u61,u62,u63,u64,u65,u66,u67,u68,u69,u70,u71,u72,u73,u74,undef],defers:=[] }
def LSF (w W0:World) (gb:Nat) (ad:Addr) (c0:Nat) (l:List S58) (x9:Int) (B3:Option Addr) (d3:Nat) (x3:List S58) (f0 f1 f2 e0 e1:Int) (e2:List S56) (A5:Option Addr) (c5:Nat) (bd:List S58) (A6:Option Addr) (c6:Nat) (el:List S58) (A7:Option Addr) (c7:Nat) (x0 x1:Int) (x2:List S56) (yb ye:List S58) (u6 u13 u14 u15 u16 u17 u18 u19 u20 u21 u22 u23 u24 u25 u26 u27 u28 u29 u30 u31 u32 u33 u34 u35 u36 u37 u38 u39 u40 u41 u42 u43 u44 u45 u46 u47 u48 u49 u50 u51 u52 u53 u54 u55 u56 u57 u58 u59 u60 u61 u62 u63 u64 u65 u66 u67 u68 u69 u70 u71 u72 u73 u74:Value) (b0 b1 b2 b3 b4 b5 b6 b7 b8 b9 b10 b11 b12 b13 b14:Bool) (a:Act) (W:World):Prop:=
 ∃ (B5:Option Addr) (d5:Nat) (B6:Option Addr) (d6:Nat) (B7:Option Addr) (d7:Nat) (h1:Nat) (h2:Nat),a=aSF w W0 gb ad c0 l x9 B3 d3 x3 f0 f1 f2 e0 e1 e2 A5 c5 bd A6 c6 el A7 c7 x0 x1 x2 yb ye u6 u13 u14 u15 u16 u17 u18 u19 u20 u21 u22 u23 u24 u25 u26 u27 u28 u29 u30 u31 u32 u33 u34 u35 u36 u37 u38 u39 u40 u41 u42 u43 u44 u45 u46 u47 u48 u49 u50 u51 u52 u53 u54 u55 u56 u57 u58 u59 u60 u61 u62 u63 u64 u65 u66 u67 u68 u69 u70 u71 u72 u73 u74 B5 d5 B6 d6 B7 d7 h1 h2 b0 b1 b2 b3 b4 b5 b6 b7 b8 b9 b10 b11 b12 b13 b14∧FSF w W0 gb B3 d3 x3 f0 f1 f2 e0 e1 e2 A5 c5 bd A6 c6 el A7 c7 x0 x1 x2 yb ye B5 d5 B6 d6 B7 d7 h1 h2 b2 b5 b8 b10 b12 b14 W
theorem aQ.tail {k:Nat} {x3 l:List S58} {n i f0 f1 f2 x0 x1:Int} {x2:List S56} {yb ye r:List S58} (h:(if f0=2 then (if x0=0 then (aQ.j1 k x3 (x0 == 0) l n i (x1 != 0) f0 f1 f2 x0 x1 x2 yb ye) else (aQ.j1 k x3 (x0 == 0) l n i false f0 f1 f2 x0 x1 x2 yb ye)) else (aQ.j1 k x3 (x0 == 0) l n i false f0 f1 f2 x0 x1 x2 yb ye))=some r):
  ∃ k',k' < k∧(((f0 == 2)=true∧(x0 == 0)=true∧(x1 != 0)=true∧x3.length + yb.length < 1256584717458∧aQ.l0 k' (x3 ++ yb) l n (wrap64 (i + 1))=some r)∨((f0 == 2)=true∧(x0 == 0)=true∧(x1 != 0)=false∧x3.length + ye.length < 1256584717458∧aQ.l0 k' (x3 ++ ye) l n (wrap64 (i + 1))=some r)
   ∨((f0 == 2)=false∧(f0 == 3)=true∧(x0 == 0)=true∧(x1 == 0)=true∧aQ.l0 k' x3 l n (wrap64 (i + 1))=some r)
   ∨(x3.length < 1256584717458∧aQ.l0 k' (x3 ++ [(⟨f0,f1,f2,(⟨x0,x1,x2⟩:S56),yb,ye⟩:S58)]) l n (wrap64 (i + 1))=some r∧(((f0 == 2)=true∧(f0 == 3)=false∧(x0 == 0)=false)∨((f0 == 2)=false∧(f0 == 3)=true∧(x0 == 0)=true∧(x1 == 0)=false)∨((f0 == 2)=false∧(f0 == 3)=true∧(x0 == 0)=false)∨((f0 == 2)=false∧(f0 == 3)=false∧(x0 == 0)=true)∨((f0 == 2)=false∧(f0 == 3)=false∧(x0 == 0)=false)))):=by
 cases k with
 |zero=>revert h;(repeat' split) <;> simp [aQ.j1]
 |succ k=>
  cases k with
  |zero=>
   by_cases h2:f0=2 <;> by_cases h0:x0=0 <;> by_cases h1:x1=0 <;> simp [aQ.j1,aQ.j2,aQ.l0,h2,h0,h1] at h
  |succ k=>
   by_cases h2:f0=2
   ·have h3:¬ f0=3:=by omega
    by_cases h0:x0=0
    ·by_cases h1:x1=0
     ·simp only [aQ.j1,aQ.j2,h2,h0,h1,if_true,bne_self_eq_false,Bool.false_eq_true,if_false,beq_self_eq_true] at h;by_cases c:x3.length + ye.length < 1256584717458
      ·rw [if_pos c] at h;exact ⟨k,by omega,.inr (.inl ⟨by simp [h2],by simp [h0],by simp [h1],c,h⟩)⟩
      rw [if_neg c] at h;cases h
     ·have h1':(x1 != 0)=true:=bne_iff_ne.mpr h1;simp only [aQ.j1,h2,h0,h1',if_true] at h;by_cases c:x3.length + yb.length < 1256584717458
      ·rw [if_pos c] at h;exact ⟨k + 1,by omega,.inl ⟨by simp [h2],by simp [h0],h1',c,h⟩⟩
      rw [if_neg c] at h;cases h
    have h0':(x0 == 0)=false:=bE h0;have j3:¬ ((2:Int)=3):=by decide
    simp only [aQ.j1,aQ.j2,h2,h0,h0',if_true,if_false,Bool.false_eq_true,j3] at h;by_cases c:x3.length < 1256584717458
    ·rw [if_pos c] at h;exact ⟨k,by omega,.inr (.inr (.inr ⟨c,by rw [h2];exact h,.inl ⟨by simp [h2],by simp [h3],h0'⟩⟩))⟩
    rw [if_neg c] at h;cases h
   have h2':(f0 == 2)=false:=bE h2;simp only [aQ.j1,aQ.j2,h2,if_false,Bool.false_eq_true] at h;by_cases h3:f0=3
   ·rw [if_pos h3] at h;by_cases h0:x0=0
    ·rw [if_pos (by simp [h0])] at h;by_cases h1:x1=0
     ·rw [if_pos h1] at h;exact ⟨k,by omega,.inr (.inr (.inl ⟨h2',by simp [h3],by simp [h0],by simp [h1],h⟩))⟩
     rw [if_neg h1] at h;by_cases c:x3.length < 1256584717458
     ·rw [if_pos c] at h;exact ⟨k,by omega,.inr (.inr (.inr ⟨c,h,.inr (.inl ⟨h2',by simp [h3],by simp [h0],by simp [h1]⟩)⟩))⟩
     rw [if_neg c] at h;cases h
    rw [if_neg (by simp [h0])] at h;by_cases c:x3.length < 1256584717458
    ·rw [if_pos c] at h;exact ⟨k,by omega,.inr (.inr (.inr ⟨c,h,.inr (.inr (.inl ⟨h2',by simp [h3],by simp [h0]⟩))⟩))⟩
    rw [if_neg c] at h;cases h
   rw [if_neg h3] at h;by_cases c:x3.length < 1256584717458
   ·rw [if_pos c] at h;refine ⟨k,by omega,.inr (.inr (.inr ⟨c,h,?_⟩))⟩;by_cases h0:x0=0;·exact .inr (.inr (.inr (.inl ⟨h2',by simp [h3],by simp [h0]⟩)))
    exact .inr (.inr (.inr (.inr ⟨h2',by simp [h3],by simp [h0]⟩)))
   rw [if_neg c] at h;cases h
theorem aQ.callsS (k:Nat):∀ (A0:Option Addr) (c0:Nat) (l:List (S58)) (r:List (S58)) (w:World) (hr0:Kd.C k58 w A0 l.length l) (hc0:l.length≤c0) (h:aQ.f k l=some r),
  Calls Tryz.prog 35 #[.slice A0 l.length c0] w fun e w'=>∃ v0_:Value,e= .returned (v0_)∧Kd.S ET 58 w' w.heap.size (fun q=>w.heap.size≤q) v0_ r∧Below w.heap.size w w':=by
 induction k using Nat.strongRecOn with
 | _ k ih=>
 intro A0 c0 l r w hr0 hc0 h;cases k with
 |zero=>exact absurd h (by simp [aQ.f])
 |succ k=>
 simp only [aQ.f] at h;have jg:=am hr0;have ji:=am hc0;have H':=am h;have HB:=am (Below.refl w.heap.size w);clear hr0 hc0 h;go_enter Tryz.func35,Tryz.ntmps35;go_wp2
 go_loopg [3,9] k (fun kq v3 v9 w'=>∃ (x3:List S58) (x9:Int),v9= .int .i64 x9∧Aside0 (aQ.l0 kq x3 l (l.length:Int) x9=some r)∧Aside0 (kq≤k)∧Aside0 (Kd.S ET 58 w' w.heap.size (fun q=>w.heap.size≤q) v3 x3)∧Aside0 (Below w.heap.size w w'))
 case atStart=>exact ⟨[],0,(by first|rfl|(simp;done)),H',⟨Nat.le_refl _⟩,⟨Kd.vH _ _ _ _ _⟩,HB⟩
 case round=>
  clear H' HB;obtain ⟨x3,x9,rfl,HA,j8,HO,HB⟩:=hrel;obtain ⟨B3,d3,rfl⟩:=Kd.sF HO.out;cases gk with
  |zero=>exact absurd HA.out (by simp [aQ.l0])
  |succ k1=>
   have H:=HA.out;clear HA;simp only [aQ.l0] at H;by_cases hlt:x9 < (l.length:Int);case neg=>
    rw [if_neg hlt] at H;have jc:decide (x9 < (l.length:Int))=false:=dF hlt;clear hlt;obtain rfl:=oI H;go_wp2;go_ret;exact ⟨_,rfl,HO.out,HB.out⟩
   rw [if_pos hlt] at H;by_cases hge:0≤x9;case neg=>rw [if_neg hge] at H;cases H
   rw [if_pos hge,if_pos hlt] at H;obtain ⟨ad,A5,c5,A6,c6,A7,c7,e0_,m0,m1,m2,m3,m4,m5,m6,m7,l5,g5,l6,g6,l7,g7⟩:=vK jg.out x9 hge hlt;cases e0_;rcases hx:aM l x9 with ⟨f0,f1,f2,⟨e0,e1,e2⟩,bd,el⟩;rw [hx] at H m0 m1 m2 m3 m4 m5 m6 m7 l5 g5 l6 g6 l7 g7;dsimp only at H m0 m1 m2 m3 m4 m5 m6 m7 l5 g5 l6 g6 l7 g7;clear hx;obtain ⟨yb,hb1,H⟩:=bsm H;obtain ⟨ye,hb2,H⟩:=bsm H;obtain ⟨⟨x0,x1,x2⟩,hb3,H⟩:=bsm H;dsimp only at hb3 H;have HBD:=am hb1;have HEL:=am hb2;have HEX:=am hb3;have HT:=am H;have hb_:=HB.out;replace m0:=bcT hb_ m0;replace m1:=bcT hb_ m1;replace m2:=bcT hb_ m2;replace m3:=bcT hb_ m3;replace m4:=bcT hb_ m4;replace m5:=bcT hb_ m5;replace m6:=bcT hb_ m6;replace m7:=bcT hb_ m7;have G5:=am g5;have G6:=am g6;have G7:=am g7;have L5:=am l5;have L6:=am l6;have L7:=am l7;have jc:decide (x9 < (l.length:Int))=true:=dT hlt;have q0:=eq_true hge;have q1:=eq_true hlt;clear g5 g6 g7 l5 l6 l7 hlt hge hb1 hb2 hb3 H hb_;go_upto_region 5 with fail;have hb:Below wr.heap.size wr (wr.alloc (.cells #[(.int .i64 f0),(.int .i64 f1),(.int .i64 f2),(.int .i64 e0),(.int .i64 e1),(.slice A5 e2.length c5),(.slice A6 bd.length c6),(.slice A7 el.length c7)] 58)):=bY (Below.refl _ _) _;have tX:=am (KZ wr (.cells #[(.int .i64 f0),(.int .i64 f1),(.int .i64 f2),(.int .i64 e0),(.int .i64 e1),(.slice A5 e2.length c5),(.slice A6 bd.length c6),(.slice A7 el.length c7)] 58));have GW:Aside0 (w.heap.size≤wr.heap.size):=⟨HB.out.size⟩;have tO:=am (Kd.mU (Kd.aEx HO.out wr.heap.size (Nat.le_refl _)) hb);have tB:=am (aA HB.out hb);clear hb HB HO m0 m1 m2 m3 m4 m5 m6 m7 q0 q1 jc;generalize wr.alloc (.cells #[(.int .i64 f0),(.int .i64 f1),(.int .i64 f2),(.int .i64 e0),(.int .i64 e1),(.slice A5 e2.length c5),(.slice A6 bd.length c6),(.slice A7 el.length c7)] 58)=w6 at tX tO tB ⊢;generalize wr.heap.size=gb at tX tO GW ⊢;refine wp_region_any (by kernel_rfl) ?_;have HB:=am (bI tB.out);have HO:=am (Kd.aJm tO.out);have X:=am (dA tX.out);show wpAny _ _ _ _ _ _ _ w6.drew
   clear tB tO tX;generalize w6.drew=W0 at HB HO X ⊢;have GL:=am (kF X.out);refine EC (n:=15) (T:=(true,[([],[]),([0],[0]),([1],[1]),([],[]),([3],[3]),([4,2],[4]),([],[]),([6],[6]),([7,5],[7]),([0,1,2,3,4,6,7],[]),([9,2,8,0,1,2,3,4,6,7],[2,9]),([0,1,2,3,4,5,6,7,9,10],[]),([11,5,10,0,1,2,3,4,5,6,7,9,10],[5,11]),([0,1,2,3,4,5,6,7,8,9,10,11,12],[]),([13,8,12,0,1,2,3,4,5,6,7,8,9,10,11,12],[8,13])])) rfl (by kernel_rfl) (by decide) (fun b a W=>LSF w W0 gb ad c0 l x9 B3 d3 x3 f0 f1 f2 e0 e1 e2 A5 c5 bd A6 c6 el A7 c7 x0 x1 x2 yb ye u6 u13 u14 u15 u16 u17 u18 u19 u20 u21 u22 u23 u24 u25 u26 u27 u28 u29 u30 u31 u32 u33 u34 u35 u36 u37 u38 u39 u40 u41 u42 u43 u44 u45 u46 u47 u48 u49 u50 u51 u52 u53 u54 u55 u56 u57 u58 u59 u60 u61 u62 u63 u64 u65 u66 u67 u68 u69 u70 u71 u72 u73 u74 (b 0) (b 1) (b 2) (b 3) (b 4) (b 5) (b 6) (b 7) (b 8) (b 9) (b 10) (b 11) (b 12) (b 13) (b 14) a W) ?hstep ?hdone _ _ ?hstart;case hstart=>exact ⟨none,0,none,0,none,0,0,0,rfl,⟨HB.out,Nat.le_refl _,Kd.kE (Kd.oC HO.out) (fun q hq=>⟨hq.1,hq.2.2.1⟩),(fun e=>Bool.noConfusion e),(fun e=>Bool.noConfusion e),(fun e=>Bool.noConfusion e),(fun e=>Bool.noConfusion e),(fun e=>Bool.noConfusion e),X.out⟩⟩
   case hstep=>
    intro i b a W hi hbi hneed hcl hI;have hcase:i=0∨i=1∨i=2∨i=3∨i=4∨i=5∨i=6∨i=7∨i=8∨i=9∨i=10∨i=11∨i=12∨i=13∨i=14:=by omega
    rcases hcase with rfl|rfl|rfl|rfl|rfl|rfl|rfl|rfl|rfl|rfl|rfl|rfl|rfl|rfl|rfl
    ·
     have z1:=zq hcl 1 0 hbi;have z2:=zq hcl 2 1 z1;have z5:=zq hcl 5 2 z2;have z8:=zq hcl 8 5 z5;have z9:=zq hcl 9 0 hbi;have j6:=zq hcl 10 8 z8;have j7:=zq hcl 11 5 z5;have j5:=zq hcl 12 5 z5;have j3:=zq hcl 13 8 z8;have j4:=zq hcl 14 13 j3;simp only [hbi,z1,z2,z5,z8,z9,j6,j7,j5,j3,j4] at hI;obtain ⟨B5,d5,B6,d6,B7,d7,h1,h2,rfl,h⟩:=hI;refine wpOp_step rfl (fun K' hK'=>?_);simp (decide:=true) only [if_true,if_false,reduceIte,z1,z2,z5,z8,z9,j6,j7,j5,j3,j4] at hK';refine fH (W:=W) (w1:=W) (v:=?_) (by rfl) ?_ ?_;rotate_left
     ·(try simp only [aSF,cond_true,cond_false]);go_simp;first|with_reducible rfl|rfl
     refine hK' _ _ (⟨B5,d5,B6,d6,B7,d7,h1,h2,?_,h⟩);show Act.put _ (some 13) _=_
     simp only [aSF,Act.put,sA,sB,sC,fA,fE];rfl
    ·
     have hn_:=hneed _ rfl;have n0:=hn_ 0 (by decide);have z2:=zq hcl 2 1 hbi;have z5:=zq hcl 5 2 z2;have z8:=zq hcl 8 5 z5;have z9:=zq hcl 9 1 hbi;have j6:=zq hcl 10 8 z8;have j7:=zq hcl 11 5 z5;have j5:=zq hcl 12 5 z5;have j3:=zq hcl 13 8 z8;have j4:=zq hcl 14 13 j3;simp only [hbi,n0,z2,z5,z8,z9,j6,j7,j5,j3,j4] at hI;obtain ⟨B5,d5,B6,d6,B7,d7,h1,h2,rfl,h⟩:=hI;refine wpOp_step rfl (fun K' hK'=>?_);simp (decide:=true) only [if_true,if_false,reduceIte,n0,z2,z5,z8,z9,j6,j7,j5,j3,j4] at hK';have z6:W.cell? ⟨gb,6,none⟩=some (.slice A6 bd.length c6):=aG (show W.heap[gb]?=some (.cells #[(.int .i64 f0),(.int .i64 f1),(.int .i64 f2),(.int .i64 e0),(.int .i64 e1),(.slice A5 e2.length c5),(.slice A6 bd.length c6),(.slice A7 el.length c7)] 58 (0,0)) from h.hX) 6;refine fH (W:=W) (w1:=W) (v:=?_) (by rfl) ?_ ?_;rotate_left
     ·(try simp only [aSF,cond_true,cond_false]);go_simp;first|with_reducible rfl|rfl
     refine hK' _ _ (⟨B5,d5,B6,d6,B7,d7,h1,h2,?_,h⟩);show Act.put _ (some 14) _=_
     simp only [aSF,Act.put,sA,sB,sC,fA,fE];rfl
    ·
     have hn_:=hneed _ rfl;have n1:=hn_ 1 (by decide);have n0:=nq hcl 1 0 n1;have z5:=zq hcl 5 2 hbi;have z8:=zq hcl 8 5 z5;have z9:=zq hcl 9 2 hbi;have j6:=zq hcl 10 8 z8;have j7:=zq hcl 11 5 z5;have j5:=zq hcl 12 5 z5;have j3:=zq hcl 13 8 z8;have j4:=zq hcl 14 13 j3;simp only [hbi,n0,n1,z5,z8,z9,j6,j7,j5,j3,j4] at hI;obtain ⟨B5,d5,B6,d6,B7,d7,h1,h2,rfl,h⟩:=hI;refine wpOp_step rfl (fun K' hK'=>?_);simp (decide:=true) only [if_true,if_false,reduceIte,n0,n1,z5,z8,z9,j6,j7,j5,j3,j4] at hK';refine iI Tryz.func35 (by kernel_rfl) rfl #[(.slice A6 bd.length c6)] (by rfl) rfl rfl cv_ ?_;refine (ih k1 (by have:=j8.out;omega) _ _ bd yb _ (Kd.aX G6.out h.hB) L6.out HBD.out).mono ?_;rintro e W' ⟨v,rfl,hn,hb⟩;obtain ⟨B_,d_,rfl⟩:=Kd.sF hn;have hle:=hb.size;have hwl:=h.hB.size;have ja:=Kd.wC (Kd.oC hn) hwl;refine ⟨_,rfl,hK' _ _ (⟨B5,d5,B_,d_,B7,d7,W'.heap.size,h2,?_,⟨aA h.hB hb,Nat.le_trans h.hs hle,Kd.mU h.hO hb,(fun _=>⟨Nat.le_trans h.hs hle,Nat.le_refl _⟩),(fun e=>Bool.noConfusion e),(fun _=>Kd.kE ja (fun q hq=>⟨Nat.le_trans h.hs hq.1,hq.2.2.1⟩)),(fun e=>Bool.noConfusion e),(fun e=>Bool.noConfusion e),eP h.hX hb⟩⟩)⟩;show Act.put _ (some 15) _=_
     simp only [aSF,Act.put,sA,sB,sC];rfl
    ·
     have z4:=zq hcl 4 3 hbi;have z5:=zq hcl 5 4 z4;have z8:=zq hcl 8 5 z5;have z9:=zq hcl 9 3 hbi;have j6:=zq hcl 10 8 z8;have j7:=zq hcl 11 5 z5;have j5:=zq hcl 12 5 z5;have j3:=zq hcl 13 8 z8;have j4:=zq hcl 14 13 j3;simp only [hbi,z4,z5,z8,z9,j6,j7,j5,j3,j4] at hI;obtain ⟨B5,d5,B6,d6,B7,d7,h1,h2,rfl,h⟩:=hI;refine wpOp_step rfl (fun K' hK'=>?_);simp (decide:=true) only [if_true,if_false,reduceIte,z4,z5,z8,z9,j6,j7,j5,j3,j4] at hK';refine fH (W:=W) (w1:=W) (v:=?_) (by rfl) ?_ ?_;rotate_left
     ·(try simp only [aSF,cond_true,cond_false]);go_simp;first|with_reducible rfl|rfl
     refine hK' _ _ (⟨B5,d5,B6,d6,B7,d7,h1,h2,?_,h⟩);show Act.put _ (some 16) _=_
     simp only [aSF,Act.put,sA,sB,sC,fA,fE];rfl
    ·
     have hn_:=hneed _ rfl;have n3:=hn_ 3 (by decide);have z5:=zq hcl 5 4 hbi;have z8:=zq hcl 8 5 z5;have z9:=zq hcl 9 4 hbi;have j6:=zq hcl 10 8 z8;have j7:=zq hcl 11 5 z5;have j5:=zq hcl 12 5 z5;have j3:=zq hcl 13 8 z8;have j4:=zq hcl 14 13 j3;simp only [hbi,n3,z5,z8,z9,j6,j7,j5,j3,j4] at hI;obtain ⟨B5,d5,B6,d6,B7,d7,h1,h2,rfl,h⟩:=hI;refine wpOp_step rfl (fun K' hK'=>?_);simp (decide:=true) only [if_true,if_false,reduceIte,n3,z5,z8,z9,j6,j7,j5,j3,j4] at hK';have z7:W.cell? ⟨gb,7,none⟩=some (.slice A7 el.length c7):=aG (show W.heap[gb]?=some (.cells #[(.int .i64 f0),(.int .i64 f1),(.int .i64 f2),(.int .i64 e0),(.int .i64 e1),(.slice A5 e2.length c5),(.slice A6 bd.length c6),(.slice A7 el.length c7)] 58 (0,0)) from h.hX) 7;refine fH (W:=W) (w1:=W) (v:=?_) (by rfl) ?_ ?_;rotate_left
     ·(try simp only [aSF,cond_true,cond_false]);go_simp;first|with_reducible rfl|rfl
     refine hK' _ _ (⟨B5,d5,B6,d6,B7,d7,h1,h2,?_,h⟩);show Act.put _ (some 17) _=_
     simp only [aSF,Act.put,sA,sB,sC,fA,fE];rfl
    ·
     have hn_:=hneed _ rfl;have n2:=hn_ 2 (by decide);have n4:=hn_ 4 (by decide);have n1:=nq hcl 2 1 n2;have n3:=nq hcl 4 3 n4;have n0:=nq hcl 1 0 n1;have z8:=zq hcl 8 5 hbi;have j6:=zq hcl 10 8 z8;have j7:=zq hcl 11 5 hbi;have j5:=zq hcl 12 5 hbi;have j3:=zq hcl 13 8 z8;have j4:=zq hcl 14 13 j3;simp only [hbi,n0,n1,n2,n3,n4,z8,j6,j7,j5,j3,j4] at hI;obtain ⟨B5,d5,B6,d6,B7,d7,h1,h2,rfl,h⟩:=hI;refine wpOp_step rfl (fun K' hK'=>?_);simp (decide:=true) only [if_true,if_false,reduceIte,n0,n1,n2,n3,n4,z8,j6,j7,j5,j3,j4] at hK';refine iI Tryz.func35 (by kernel_rfl) rfl #[(.slice A7 el.length c7)] (by rfl) rfl rfl cv_ ?_;refine (ih k1 (by have:=j8.out;omega) _ _ el ye _ (Kd.aX G7.out h.hB) L7.out HEL.out).mono ?_;rintro e W' ⟨v,rfl,hn,hb⟩;obtain ⟨B_,d_,rfl⟩:=Kd.sF hn;have hle:=hb.size;have hwl:=h.hB.size;have ja:=Kd.wC (Kd.oC hn) hwl;refine ⟨_,rfl,hK' _ _ (⟨B5,d5,B6,d6,B_,d_,h1,W'.heap.size,?_,⟨aA h.hB hb,Nat.le_trans h.hs hle,Kd.mU h.hO hb,(fun e=>⟨(h.h1_ e).1,Nat.le_trans (h.h1_ e).2 hle⟩),(fun _=>⟨Nat.le_trans (h.h1_ rfl).2 hle,Nat.le_refl _⟩),(fun e=>Kd.mU (h.h6 e) hb),(fun _=>Kd.kE ja (fun q hq=>⟨Nat.le_trans (h.h1_ rfl).2 hq.1,hq.2.2.1⟩)),(fun e=>Bool.noConfusion e),eP h.hX hb⟩⟩)⟩;show Act.put _ (some 18) _=_
     simp only [aSF,Act.put,sA,sB,sC];rfl
    ·
     have z7:=zq hcl 7 6 hbi;have z8:=zq hcl 8 7 z7;have z9:=zq hcl 9 6 hbi;have j6:=zq hcl 10 8 z8;have j7:=zq hcl 11 10 j6;have j5:=zq hcl 12 10 j6;have j3:=zq hcl 13 8 z8;have j4:=zq hcl 14 13 j3;simp only [hbi,z7,z8,z9,j6,j7,j5,j3,j4] at hI;obtain ⟨B5,d5,B6,d6,B7,d7,h1,h2,rfl,h⟩:=hI;refine wpOp_step rfl (fun K' hK'=>?_);simp (decide:=true) only [if_true,if_false,reduceIte,z7,z8,z9,j6,j7,j5,j3,j4] at hK';refine fH (W:=W) (w1:=W) (v:=?_) (by rfl) ?_ ?_;rotate_left
     ·(try simp only [aSF,cond_true,cond_false]);go_simp;first|with_reducible rfl|rfl
     refine hK' _ _ (⟨B5,d5,B6,d6,B7,d7,h1,h2,?_,h⟩);show Act.put _ (some 19) _=_
     simp only [aSF,Act.put,sA,sB,sC,fA,fE];rfl
    ·
     have hn_:=hneed _ rfl;have n6:=hn_ 6 (by decide);have z8:=zq hcl 8 7 hbi;have z9:=zq hcl 9 7 hbi;have j6:=zq hcl 10 8 z8;have j7:=zq hcl 11 10 j6;have j5:=zq hcl 12 10 j6;have j3:=zq hcl 13 8 z8;have j4:=zq hcl 14 13 j3;simp only [hbi,n6,z8,z9,j6,j7,j5,j3,j4] at hI;obtain ⟨B5,d5,B6,d6,B7,d7,h1,h2,rfl,h⟩:=hI;refine wpOp_step rfl (fun K' hK'=>?_);simp (decide:=true) only [if_true,if_false,reduceIte,n6,z8,z9,j6,j7,j5,j3,j4] at hK';have z3:W.cell? ⟨gb,3,none⟩=some (.int .i64 e0):=aG (show W.heap[gb]?=some (.cells #[(.int .i64 f0),(.int .i64 f1),(.int .i64 f2),(.int .i64 e0),(.int .i64 e1),(.slice A5 e2.length c5),(.slice A6 bd.length c6),(.slice A7 el.length c7)] 58 (0,0)) from h.hX) 3;have z4:W.cell? ⟨gb,4,none⟩=some (.int .i64 e1):=aG (show W.heap[gb]?=some (.cells #[(.int .i64 f0),(.int .i64 f1),(.int .i64 f2),(.int .i64 e0),(.int .i64 e1),(.slice A5 e2.length c5),(.slice A6 bd.length c6),(.slice A7 el.length c7)] 58 (0,0)) from h.hX) 4;have z5:W.cell? ⟨gb,5,none⟩=some (.slice A5 e2.length c5):=aG (show W.heap[gb]?=some (.cells #[(.int .i64 f0),(.int .i64 f1),(.int .i64 f2),(.int .i64 e0),(.int .i64 e1),(.slice A5 e2.length c5),(.slice A6 bd.length c6),(.slice A7 el.length c7)] 58 (0,0)) from h.hX) 5;refine fH (W:=W) (w1:=W) (v:=(.agg #[(.int .i64 e0),(.int .i64 e1),(.slice A5 e2.length c5)])) (by rfl) ?_ ?_
     ·(try simp only [aSF,cond_true,cond_false]);go_simp;(try rfl)
     refine hK' _ _ (⟨B5,d5,B6,d6,B7,d7,h1,h2,?_,h⟩);show Act.put _ (some 20) _=_
     simp only [aSF,Act.put,sA,sB,sC,fA,fE];rfl
    ·
     have hn_:=hneed _ rfl;have n5:=hn_ 5 (by decide);have n7:=hn_ 7 (by decide);have n2:=nq hcl 5 2 n5;have n4:=nq hcl 5 4 n5;have n6:=nq hcl 7 6 n7;have n1:=nq hcl 2 1 n2;have n3:=nq hcl 4 3 n4;have n0:=nq hcl 1 0 n1;have j6:=zq hcl 10 8 hbi;have j7:=zq hcl 11 10 j6;have j5:=zq hcl 12 10 j6;have j3:=zq hcl 13 8 hbi;have j4:=zq hcl 14 13 j3;simp only [hbi,n0,n1,n2,n3,n4,n5,n6,n7,j6,j7,j5,j3,j4] at hI;obtain ⟨B5,d5,B6,d6,B7,d7,h1,h2,rfl,h⟩:=hI;refine wpOp_step rfl (fun K' hK'=>?_);simp (decide:=true) only [if_true,if_false,reduceIte,n0,n1,n2,n3,n4,n5,n6,n7,j6,j7,j5,j3,j4] at hK';refine iI Tryz.func58 (by kernel_rfl) rfl #[(.agg #[(.int .i64 e0),(.int .i64 e1),(.slice A5 e2.length c5)])] (by rfl) rfl rfl cv_ ?_;refine (cK.callsS k1 e0 e1 _ _ e2 x0 x1 x2 _ (Kd.aX G5.out h.hB) L5.out HEX.out).mono ?_;rintro e W' ⟨v,rfl,hn,hb⟩;obtain ⟨B_,d_,rfl⟩:=Kd.sF hn;have hle:=hb.size;have hwl:=h.hB.size;have ja:=Kd.wC (Kd.oC hn) hwl;refine ⟨_,rfl,hK' _ _ (⟨B_,d_,B6,d6,B7,d7,h1,h2,?_,⟨aA h.hB hb,Nat.le_trans h.hs hle,Kd.mU h.hO hb,(fun e=>⟨(h.h1_ e).1,Nat.le_trans (h.h1_ e).2 hle⟩),(fun e=>⟨(h.h2_ e).1,Nat.le_trans (h.h2_ e).2 hle⟩),(fun e=>Kd.mU (h.h6 e) hb),(fun e=>Kd.mU (h.h7 e) hb),(fun _=>Kd.kE ja (fun q hq=>Nat.le_trans (h.h2_ rfl).2 hq.1)),eP h.hX hb⟩⟩)⟩;show Act.put _ (some 21) _=_
     simp only [aSF,Act.put,sA,sB,sC];rfl
    ·
     have hn_:=hneed _ rfl;have n0:=hn_ 0 (by decide);have n1:=hn_ 1 (by decide);have n2:=hn_ 2 (by decide);have n3:=hn_ 3 (by decide);have n4:=hn_ 4 (by decide);have n6:=hn_ 6 (by decide);have n7:=hn_ 7 (by decide);have j6:=zq hcl 10 9 hbi;have j7:=zq hcl 11 10 j6;have j5:=zq hcl 12 10 j6;have j3:=zq hcl 13 12 j5;have j4:=zq hcl 14 13 j3;simp only [hbi,n0,n1,n2,n3,n4,n6,n7,j6,j7,j5,j3,j4] at hI;obtain ⟨B5,d5,B6,d6,B7,d7,h1,h2,rfl,h⟩:=hI;refine wpOp_step rfl (fun K' hK'=>?_);simp (decide:=true) only [if_true,if_false,reduceIte,n0,n1,n2,n3,n4,n6,n7,j6,j7,j5,j3,j4] at hK';refine fH (W:=W) (w1:=W) (v:=?_) (by rfl) ?_ ?_;rotate_left
     ·(try simp only [aSF,cond_true,cond_false]);go_simp;first|with_reducible rfl|rfl
     refine hK' _ _ (⟨B5,d5,B6,d6,B7,d7,h1,h2,?_,h⟩);show Act.put _ (some 22) _=_
     simp only [aSF,Act.put,sA,sB,sC,fA,fE];rfl
    ·
     have hn_:=hneed _ rfl;have n8:=hn_ 8 (by decide);have n9:=hn_ 9 (by decide);have n0:=nq hcl 9 0 n9;have n1:=nq hcl 9 1 n9;have n2:=nq hcl 9 2 n9;have n3:=nq hcl 9 3 n9;have n4:=nq hcl 9 4 n9;have n5:=nq hcl 8 5 n8;have n6:=nq hcl 9 6 n9;have n7:=nq hcl 8 7 n8;have j7:=zq hcl 11 10 hbi;have j5:=zq hcl 12 10 hbi;have j3:=zq hcl 13 12 j5;have j4:=zq hcl 14 13 j3;simp only [hbi,n0,n1,n2,n3,n4,n5,n6,n7,n8,n9,j7,j5,j3,j4] at hI;obtain ⟨B5,d5,B6,d6,B7,d7,h1,h2,rfl,h⟩:=hI;refine wpOp_step rfl (fun K' hK'=>?_);simp (decide:=true) only [if_true,if_false,reduceIte,n0,n1,n2,n3,n4,n5,n6,n7,n8,n9,j7,j5,j3,j4] at hK';have hgl:=GL.out;have g1_:=(h.h1_ rfl).1;have g2_:=(h.h2_ rfl).1;have hbx:W.heap[gb]?=some (.cells #[(.int .i64 f0),(.int .i64 f1),(.int .i64 f2),(.int .i64 e0),(.int .i64 e1),(.slice A5 e2.length c5),(.slice A6 bd.length c6),(.slice A7 el.length c7)] 58 (0,0)):=h.hX;have q6:W.cell? ⟨gb,6,none⟩=some (.slice A6 bd.length c6):=aG hbx 6;have f6_:=aZ hbx 6;refine uM (w1:=(W.setCell ⟨gb,6,none⟩ (.slice B6 yb.length d6))) (by rfl) rfl ?_ ?_
     ·(try simp only [aSF,cond_true,cond_false]);go_simp;(try rfl)
     refine hK' _ _ (⟨B5,d5,B6,d6,B7,d7,h1,h2,rfl,⟨(below_set (j:=6) (v:=(.slice B6 yb.length d6)) h.hB GW.out),Nat.le_trans h.hs (by simp [World.setCell]),(Kd.kP (p:=⟨gb,6,none⟩) h.hO (fun q hq=>hq.1.2) (.slice B6 yb.length d6)),(fun e=>⟨(h.h1_ e).1,Nat.le_trans (h.h1_ e).2 (by simp [World.setCell])⟩),(fun e=>⟨(h.h2_ e).1,Nat.le_trans (h.h2_ e).2 (by simp [World.setCell])⟩),fun _=>(Kd.kP (p:=⟨gb,6,none⟩) (h.h6 rfl) (fun q hq=>show q≠gb by have:=hq.1;omega) (.slice B6 yb.length d6)),fun _=>(Kd.kP (p:=⟨gb,6,none⟩) (h.h7 rfl) (fun q hq=>show q≠gb by have:=hq.1;omega) (.slice B6 yb.length d6)),fun _=>(Kd.kP (p:=⟨gb,6,none⟩) (h.h5 rfl) (fun q hq=>show q≠gb by omega) (.slice B6 yb.length d6)),(aV (cs':=#[(.int .i64 f0),(.int .i64 f1),(.int .i64 f2),(.int .i64 e0),(.int .i64 e1),(.slice A5 e2.length c5),(.slice B6 yb.length d6),(.slice A7 el.length c7)]) hbx 6 (.slice B6 yb.length d6) rfl)⟩⟩)
    ·
     have hn_:=hneed _ rfl;have n5:=hn_ 5 (by decide);have n10:=hn_ 10 (by decide);have n2:=nq hcl 5 2 n5;have n4:=nq hcl 5 4 n5;have n8:=nq hcl 10 8 n10;have n9:=nq hcl 10 9 n10;have n0:=nq hcl 9 0 n9;have n1:=nq hcl 2 1 n2;have n3:=nq hcl 4 3 n4;have n6:=nq hcl 9 6 n9;have n7:=nq hcl 8 7 n8;have j5:=zq hcl 12 11 hbi;have j3:=zq hcl 13 12 j5;have j4:=zq hcl 14 13 j3;simp only [hbi,n0,n1,n2,n3,n4,n5,n6,n7,n8,n9,n10,j5,j3,j4] at hI;obtain ⟨B5,d5,B6,d6,B7,d7,h1,h2,rfl,h⟩:=hI;refine wpOp_step rfl (fun K' hK'=>?_);simp (decide:=true) only [if_true,if_false,reduceIte,n0,n1,n2,n3,n4,n5,n6,n7,n8,n9,n10,j5,j3,j4] at hK';refine fH (W:=W) (w1:=W) (v:=?_) (by rfl) ?_ ?_;rotate_left
     ·(try simp only [aSF,cond_true,cond_false]);go_simp;first|with_reducible rfl|rfl
     refine hK' _ _ (⟨B5,d5,B6,d6,B7,d7,h1,h2,?_,h⟩);show Act.put _ (some 23) _=_
     simp only [aSF,Act.put,sA,sB,sC,fA,fE];rfl
    ·
     have hn_:=hneed _ rfl;have n5:=hn_ 5 (by decide);have n10:=hn_ 10 (by decide);have n11:=hn_ 11 (by decide);have n2:=nq hcl 5 2 n5;have n4:=nq hcl 5 4 n5;have n8:=nq hcl 10 8 n10;have n9:=nq hcl 10 9 n10;have n0:=nq hcl 9 0 n9;have n1:=nq hcl 2 1 n2;have n3:=nq hcl 4 3 n4;have n6:=nq hcl 9 6 n9;have n7:=nq hcl 8 7 n8;have j3:=zq hcl 13 12 hbi;have j4:=zq hcl 14 13 j3;simp only [hbi,n0,n1,n2,n3,n4,n5,n6,n7,n8,n9,n10,n11,j3,j4] at hI;obtain ⟨B5,d5,B6,d6,B7,d7,h1,h2,rfl,h⟩:=hI;refine wpOp_step rfl (fun K' hK'=>?_);simp (decide:=true) only [if_true,if_false,reduceIte,n0,n1,n2,n3,n4,n5,n6,n7,n8,n9,n10,n11,j3,j4] at hK';have hgl:=GL.out;have g1_:=(h.h1_ rfl).1;have g2_:=(h.h2_ rfl).1;have hbx:W.heap[gb]?=some (.cells #[(.int .i64 f0),(.int .i64 f1),(.int .i64 f2),(.int .i64 e0),(.int .i64 e1),(.slice A5 e2.length c5),(.slice B6 yb.length d6),(.slice A7 el.length c7)] 58 (0,0)):=h.hX;have q7:W.cell? ⟨gb,7,none⟩=some (.slice A7 el.length c7):=aG hbx 7;have f7_:=aZ hbx 7;refine uM (w1:=(W.setCell ⟨gb,7,none⟩ (.slice B7 ye.length d7))) (by rfl) rfl ?_ ?_
     ·(try simp only [aSF,cond_true,cond_false]);go_simp;(try rfl)
     refine hK' _ _ (⟨B5,d5,B6,d6,B7,d7,h1,h2,rfl,⟨(below_set (j:=7) (v:=(.slice B7 ye.length d7)) h.hB GW.out),Nat.le_trans h.hs (by simp [World.setCell]),(Kd.kP (p:=⟨gb,7,none⟩) h.hO (fun q hq=>hq.1.2) (.slice B7 ye.length d7)),(fun e=>⟨(h.h1_ e).1,Nat.le_trans (h.h1_ e).2 (by simp [World.setCell])⟩),(fun e=>⟨(h.h2_ e).1,Nat.le_trans (h.h2_ e).2 (by simp [World.setCell])⟩),fun _=>(Kd.kP (p:=⟨gb,7,none⟩) (h.h6 rfl) (fun q hq=>show q≠gb by have:=hq.1;omega) (.slice B7 ye.length d7)),fun _=>(Kd.kP (p:=⟨gb,7,none⟩) (h.h7 rfl) (fun q hq=>show q≠gb by have:=hq.1;omega) (.slice B7 ye.length d7)),fun _=>(Kd.kP (p:=⟨gb,7,none⟩) (h.h5 rfl) (fun q hq=>show q≠gb by omega) (.slice B7 ye.length d7)),(aV (cs':=#[(.int .i64 f0),(.int .i64 f1),(.int .i64 f2),(.int .i64 e0),(.int .i64 e1),(.slice A5 e2.length c5),(.slice B6 yb.length d6),(.slice B7 ye.length d7)]) hbx 7 (.slice B7 ye.length d7) rfl)⟩⟩)
    ·
     have hn_:=hneed _ rfl;have n8:=hn_ 8 (by decide);have n12:=hn_ 12 (by decide);have n5:=nq hcl 8 5 n8;have n7:=nq hcl 8 7 n8;have n10:=nq hcl 12 10 n12;have n11:=nq hcl 12 11 n12;have n2:=nq hcl 5 2 n5;have n4:=nq hcl 5 4 n5;have n6:=nq hcl 7 6 n7;have n9:=nq hcl 10 9 n10;have n0:=nq hcl 9 0 n9;have n1:=nq hcl 2 1 n2;have n3:=nq hcl 4 3 n4;have j4:=zq hcl 14 13 hbi;simp only [hbi,n0,n1,n2,n3,n4,n5,n6,n7,n8,n9,n10,n11,n12,j4] at hI;obtain ⟨B5,d5,B6,d6,B7,d7,h1,h2,rfl,h⟩:=hI;refine wpOp_step rfl (fun K' hK'=>?_);simp (decide:=true) only [if_true,if_false,reduceIte,n0,n1,n2,n3,n4,n5,n6,n7,n8,n9,n10,n11,n12,j4] at hK';refine fH (W:=W) (w1:=W) (v:=?_) (by rfl) ?_ ?_;rotate_left
     ·(try simp only [aSF,cond_true,cond_false]);go_simp;first|with_reducible rfl|rfl
     refine hK' _ _ (⟨B5,d5,B6,d6,B7,d7,h1,h2,?_,h⟩);show Act.put _ (some 24) _=_
     simp only [aSF,Act.put,sA,sB,sC,fA,fE];rfl
    ·
     have hn_:=hneed _ rfl;have n13:=hn_ 13 (by decide);have n8:=nq hcl 13 8 n13;have n12:=nq hcl 13 12 n13;have n5:=nq hcl 8 5 n8;have n7:=nq hcl 8 7 n8;have n10:=nq hcl 12 10 n12;have n11:=nq hcl 12 11 n12;have n2:=nq hcl 5 2 n5;have n4:=nq hcl 5 4 n5;have n6:=nq hcl 7 6 n7;have n9:=nq hcl 10 9 n10;have n0:=nq hcl 9 0 n9;have n1:=nq hcl 2 1 n2;have n3:=nq hcl 4 3 n4;simp only [hbi,n0,n1,n2,n3,n4,n5,n6,n7,n8,n9,n10,n11,n12,n13] at hI;obtain ⟨B5,d5,B6,d6,B7,d7,h1,h2,rfl,h⟩:=hI;refine wpOp_step rfl (fun K' hK'=>?_);simp (decide:=true) only [if_true,if_false,reduceIte,n0,n1,n2,n3,n4,n5,n6,n7,n8,n9,n10,n11,n12,n13] at hK';have hgl:=GL.out;have g1_:=(h.h1_ rfl).1;have g2_:=(h.h2_ rfl).1;have hbx:W.heap[gb]?=some (.cells #[(.int .i64 f0),(.int .i64 f1),(.int .i64 f2),(.int .i64 e0),(.int .i64 e1),(.slice A5 e2.length c5),(.slice B6 yb.length d6),(.slice B7 ye.length d7)] 58 (0,0)):=h.hX;have q3:W.cell? ⟨gb,3,none⟩=some (.int .i64 e0):=aG hbx 3;have f3_:=aZ hbx 3;have q4:W.cell? ⟨gb,4,none⟩=some (.int .i64 e1):=aG hbx 4;have f4_:=aZ hbx 4;have q5:W.cell? ⟨gb,5,none⟩=some (.slice A5 e2.length c5):=aG hbx 5;have f5_:=aZ hbx 5;refine uM (w1:=(((W.setCell ⟨gb,3,none⟩ (.int .i64 x0)).setCell ⟨gb,4,none⟩ (.int .i64 x1)).setCell ⟨gb,5,none⟩ (.slice B5 x2.length d5))) (by rfl) rfl ?_ ?_
     ·(try simp only [aSF,cond_true,cond_false]);go_simp;(try rfl)
     refine hK' _ _ (⟨B5,d5,B6,d6,B7,d7,h1,h2,rfl,⟨(below_set (j:=5) (v:=(.slice B5 x2.length d5)) (below_set (j:=4) (v:=(.int .i64 x1)) (below_set (j:=3) (v:=(.int .i64 x0)) h.hB GW.out) GW.out) GW.out),Nat.le_trans h.hs (by simp [World.setCell]),(Kd.kP (p:=⟨gb,5,none⟩) (Kd.kP (p:=⟨gb,4,none⟩) (Kd.kP (p:=⟨gb,3,none⟩) h.hO (fun q hq=>hq.1.2) (.int .i64 x0)) (fun q hq=>hq.1.2) (.int .i64 x1)) (fun q hq=>hq.1.2) (.slice B5 x2.length d5)),(fun e=>⟨(h.h1_ e).1,Nat.le_trans (h.h1_ e).2 (by simp [World.setCell])⟩),(fun e=>⟨(h.h2_ e).1,Nat.le_trans (h.h2_ e).2 (by simp [World.setCell])⟩),fun _=>(Kd.kP (p:=⟨gb,5,none⟩) (Kd.kP (p:=⟨gb,4,none⟩) (Kd.kP (p:=⟨gb,3,none⟩) (h.h6 rfl) (fun q hq=>show q≠gb by have:=hq.1;omega) (.int .i64 x0)) (fun q hq=>show q≠gb by have:=hq.1;omega) (.int .i64 x1)) (fun q hq=>show q≠gb by have:=hq.1;omega) (.slice B5 x2.length d5)),fun _=>(Kd.kP (p:=⟨gb,5,none⟩) (Kd.kP (p:=⟨gb,4,none⟩) (Kd.kP (p:=⟨gb,3,none⟩) (h.h7 rfl) (fun q hq=>show q≠gb by have:=hq.1;omega) (.int .i64 x0)) (fun q hq=>show q≠gb by have:=hq.1;omega) (.int .i64 x1)) (fun q hq=>show q≠gb by have:=hq.1;omega) (.slice B5 x2.length d5)),fun _=>(Kd.kP (p:=⟨gb,5,none⟩) (Kd.kP (p:=⟨gb,4,none⟩) (Kd.kP (p:=⟨gb,3,none⟩) (h.h5 rfl) (fun q hq=>show q≠gb by omega) (.int .i64 x0)) (fun q hq=>show q≠gb by omega) (.int .i64 x1)) (fun q hq=>show q≠gb by omega) (.slice B5 x2.length d5)),(aV (cs':=#[(.int .i64 f0),(.int .i64 f1),(.int .i64 f2),(.int .i64 x0),(.int .i64 x1),(.slice B5 x2.length d5),(.slice B6 yb.length d6),(.slice B7 ye.length d7)]) (aV (cs':=#[(.int .i64 f0),(.int .i64 f1),(.int .i64 f2),(.int .i64 x0),(.int .i64 x1),(.slice A5 e2.length c5),(.slice B6 yb.length d6),(.slice B7 ye.length d7)]) (aV (cs':=#[(.int .i64 f0),(.int .i64 f1),(.int .i64 f2),(.int .i64 x0),(.int .i64 e1),(.slice A5 e2.length c5),(.slice B6 yb.length d6),(.slice B7 ye.length d7)]) hbx 3 (.int .i64 x0) rfl) 4 (.int .i64 x1) rfl) 5 (.slice B5 x2.length d5) rfl)⟩⟩)
   case hdone=>
    intro b a W1 hall hI;replace hI:LSF w W0 gb ad c0 l x9 B3 d3 x3 f0 f1 f2 e0 e1 e2 A5 c5 bd A6 c6 el A7 c7 x0 x1 x2 yb ye u6 u13 u14 u15 u16 u17 u18 u19 u20 u21 u22 u23 u24 u25 u26 u27 u28 u29 u30 u31 u32 u33 u34 u35 u36 u37 u38 u39 u40 u41 u42 u43 u44 u45 u46 u47 u48 u49 u50 u51 u52 u53 u54 u55 u56 u57 u58 u59 u60 u61 u62 u63 u64 u65 u66 u67 u68 u69 u70 u71 u72 u73 u74 (b 0) (b 1) (b 2) (b 3) (b 4) (b 5) (b 6) (b 7) (b 8) (b 9) (b 10) (b 11) (b 12) (b 13) (b 14) a W1:=hI;rw [hall 0 (by decide),hall 1 (by decide),hall 2 (by decide),hall 3 (by decide),hall 4 (by decide),hall 5 (by decide),hall 6 (by decide),hall 7 (by decide),hall 8 (by decide),hall 9 (by decide),hall 10 (by decide),hall 11 (by decide),hall 12 (by decide),hall 13 (by decide),hall 14 (by decide)] at hI;obtain ⟨B5,d5,B6,d6,B7,d7,h1,h2,rfl,h⟩:=hI;simp only [aSF,cond_true];replace X:=am (show W1.heap[gb]?=some (.cells #[(.int .i64 f0),(.int .i64 f1),(.int .i64 f2),(.int .i64 x0),(.int .i64 x1),(.slice B5 x2.length d5),(.slice B6 yb.length d6),(.slice B7 ye.length d7)] 58 (0,0)) from h.hX);have SB:=am (h.h6 rfl);have SE:=am (h.h7 rfl);have SX:=am (h.h5 rfl);have WW:=am HB.out.size;have WS:=am h.hs;replace HB:=am h.hB;have O:=am h.hO;have H1:=am (h.h1_ rfl);have H2:=am (h.h2_ rfl);clear h hall HO;have z0:W1.cell? ⟨gb,0,none⟩=some (.int .i64 f0):=aG X.out 0;have z1:W1.cell? ⟨gb,1,none⟩=some (.int .i64 f1):=aG X.out 1;have z2:W1.cell? ⟨gb,2,none⟩=some (.int .i64 f2):=aG X.out 2;have z3:W1.cell? ⟨gb,3,none⟩=some (.int .i64 x0):=aG X.out 3;have z4:W1.cell? ⟨gb,4,none⟩=some (.int .i64 x1):=aG X.out 4;have z5:W1.cell? ⟨gb,5,none⟩=some (.slice B5 x2.length d5):=aG X.out 5;have z6:W1.cell? ⟨gb,6,none⟩=some (.slice B6 yb.length d6):=aG X.out 6;have z7:W1.cell? ⟨gb,7,none⟩=some (.slice B7 ye.length d7):=aG X.out 7;obtain ⟨k2,hk2,hT⟩:=aQ.tail HT.out;have j9:=am hk2;clear hk2 HT;rcases hT with ⟨t1,t2,t3,hlen,hl⟩|⟨t1,t2,t3,hlen,hl⟩|⟨t1,t2,t3,t4,hl⟩|⟨hlen,hl,hc⟩
    ·have HL:=am hl;have LEN:=am hlen;clear hl hlen;go_wp2_with (first|((with_reducible refine gD 49 rfl ?_);refine wM ET (w0:=w) w.heap.size rfl (.tmp 46) (.tmp 48) 33 58 (.agg #[(.int .i64 0),(.int .i64 0),(.int .i64 0),(.int .i64 0),(.int .i64 0),(.slice none 0 0),(.slice none 0 0),(.slice none 0 0)]) 112 rfl Tryz.underlying33 yQ rfl (by decide) (by omega) (.slice B3 x3.length d3) x3 yb B6 yb.length d6 (fun q=>w.heap.size≤q) (fun q=>W0.heap.size≤q) rfl rfl (Kd.kE O.out (fun q hq=>⟨hq.1.1,fun e=>by have:=hq.2;omega⟩)) (Kd.kE SB.out (fun q hq=>hq.1)) ?aK (fun q hq=>Nat.le_trans HB.out.size hq) HB.out HB.out.size ?aL ?_;(case aK=>exact fun q hq=>⟨Nat.le_trans WW.out hq,fun e=>by have:=((Kd.S_R O.out).1 q e.symm).2;omega⟩);(case aL=>(have:=LEN.out;omega));intro jd W2 hn hb _ _;have HO:=am hn;replace HB:=am hb;clear hn hb)|fail);go_roundg k2;case measure=>have:=j8.out;have:=j9.out;omega
     case rel=>exact ⟨_,wrap64 (x9 + 1),sd_,HL,⟨by have:=j8.out;have:=j9.out;omega⟩,HO,HB⟩
    ·have HL:=am hl;have LEN:=am hlen;clear hl hlen;go_wp2_with (first|((with_reducible refine gD 60 rfl ?_);refine wM ET (w0:=w) w.heap.size rfl (.tmp 57) (.tmp 59) 33 58 (.agg #[(.int .i64 0),(.int .i64 0),(.int .i64 0),(.int .i64 0),(.int .i64 0),(.slice none 0 0),(.slice none 0 0),(.slice none 0 0)]) 112 rfl Tryz.underlying33 yQ rfl (by decide) (by omega) (.slice B3 x3.length d3) x3 ye B7 ye.length d7 (fun q=>w.heap.size≤q) (fun q=>W0.heap.size≤q) rfl rfl (Kd.kE O.out (fun q hq=>⟨hq.1.1,fun e=>by have:=hq.2;omega⟩)) (Kd.kE SE.out (fun q hq=>Nat.le_trans H1.out.1 hq.1)) ?aK (fun q hq=>Nat.le_trans HB.out.size hq) HB.out HB.out.size ?aL ?_;(case aK=>exact fun q hq=>⟨Nat.le_trans WW.out hq,fun e=>by have:=((Kd.S_R O.out).1 q e.symm).2;omega⟩);(case aL=>(have:=LEN.out;omega));intro jd W2 hn hb _ _;have HO:=am hn;replace HB:=am hb;clear hn hb)|fail);go_roundg k2;case measure=>have:=j8.out;have:=j9.out;omega
     case rel=>exact ⟨_,wrap64 (x9 + 1),sd_,HL,⟨by have:=j8.out;have:=j9.out;omega⟩,HO,HB⟩
    ·have HL:=am hl;have HO:=am (Kd.kE O.out (fun q hq=>hq.1.1));clear hl;go_wp2;go_roundg k2;case measure=>have:=j8.out;have:=j9.out;omega
     case rel=>exact ⟨_,wrap64 (x9 + 1),sd_,HL,⟨by have:=j8.out;have:=j9.out;omega⟩,HO,HB⟩
    ·have HL:=am hl;have LEN:=am hlen;clear hl hlen;rcases hc with ⟨t1,t2,t3⟩|⟨t1,t2,t3,t4⟩|⟨t1,t2,t3⟩|⟨t1,t2,t3⟩|⟨t1,t2,t3⟩;all_goals
      go_wp2_with (first|((with_reducible refine gD 31 rfl ?_);refine Kd.LY ET w.heap.size 58 rfl (N:=31) rfl (w0:=w) (xs:=[(⟨f0,f1,f2,(⟨x0,x1,x2⟩:S56),yb,ye⟩:S58)]) (inner:=[(.int .i64 f0),(.int .i64 f1),(.int .i64 f2),(.int .i64 x0),(.int .i64 x1),(.slice B5 x2.length d5),(.slice B6 yb.length d6),(.slice B7 ye.length d7)]) (ok:=fun q=>W0.heap.size≤q) (fun j q=>j=0∧W0.heap.size≤q) ?hr rfl ?hrep (fun i j q a b=>a.1.trans b.1.symm) (fun j q hq=>hq.2) WS.out HB.out HB.out.size (by simp) ?_;(case hr=>first|(go_simp;done)|(go_simp;rfl));(case hrep=>(intro j x hj;rcases j with _|j;(obtain rfl:=oI hj;exact aFy _ _ _ _ _ _ (⟨f0,f1,f2,(⟨x0,x1,x2⟩:S56),yb,ye⟩:S58) SX.out SB.out SE.out (fun q hq=>⟨rfl,by have:=H1.out;have:=H2.out;omega⟩) (fun q=>⟨fun hp=>⟨fun hr=>by have:=H2.out;omega,fun hr=>by omega⟩,fun hp hr=>by omega⟩));exact absurd hj (by simp)));intro jh W3 hs hb hg _;obtain ⟨je,jf,jb⟩:=Kd.sF hs;replace jb:jh= .slice je 1 jf:=jb;subst jb;have SL:=am hs;replace O:=am (Kd.aHj O.out hg (fun _ _=>by simp));replace HB:=am hb;clear hs hb hg)|((with_reducible refine gD 32 rfl ?_);refine wM ET (w0:=w) w.heap.size rfl (.tmp 29) (.tmp 31) 33 58 (.agg #[(.int .i64 0),(.int .i64 0),(.int .i64 0),(.int .i64 0),(.int .i64 0),(.slice none 0 0),(.slice none 0 0),(.slice none 0 0)]) 112 rfl Tryz.underlying33 yQ rfl (by decide) (by omega) (.slice B3 x3.length d3) x3 [(⟨f0,f1,f2,(⟨x0,x1,x2⟩:S56),yb,ye⟩:S58)] je 1 jf (fun q=>w.heap.size≤q) (fun q=>W0.heap.size≤q) rfl rfl (Kd.kE O.out (fun q hq=>⟨hq.1.1,fun e=>by have:=hq.2;omega⟩)) SL.out ?aK (fun q hq=>Nat.le_trans HB.out.size hq) HB.out HB.out.size ?aL ?_;(case aK=>exact fun q hq=>⟨Nat.le_trans WW.out hq,fun e=>by have:=((Kd.S_R O.out).1 q e.symm).2;omega⟩);(case aL=>(have:=LEN.out;omega));intro jd W2 hn hb _ _;have HO:=am hn;replace HB:=am hb;clear hn hb)|fail);go_roundg k2;case measure=>have:=j8.out;have:=j9.out;omega
      case rel=>exact ⟨_,wrap64 (x9 + 1),sd_,HL,⟨by have:=j8.out;have:=j9.out;omega⟩,HO,HB⟩
theorem aQ.calls (k:Nat):∀ (A0:Option Addr) (c0:Nat) (l0:List (S58)) (r:List (S58)) (w:World) (hr0:Kd.C k58 w A0 l0.length l0) (hc0:l0.length≤c0) (h:aQ.f k l0=some r),
  Calls Tryz.prog 35 #[.slice A0 l0.length c0] w fun e w'=>∃ v0_:Value,e= .returned (v0_)∧Kd.N k58 58 w' w.heap.size (fun k_=>(w.heap.size≤k_)) v0_ r∧Below w.heap.size w w':=by
 intro A0 c0 l r w hr hc h;refine (aQ.callsS k A0 c0 l r w hr hc h).mono ?_;rintro e w' ⟨v,rfl,hs,hb⟩;exact ⟨v,rfl,Kd.R_N (aJz hs),hb⟩
theorem bQ.mono_l:∀ k,(∀ y0 y1 y2 y3 y4,LeO (bQ.l0 k y0 y1 y2 y3 y4) (bQ.l0 (k + 1) y0 y1 y2 y3 y4))
 |0=>fun _ _ _ _ _ r h=>by simp [bQ.l0] at h
 |k + 1=>by
  have ih0:=bQ.mono_l k
  ·intro y0 y1 y2 y3 y4;unfold bQ.l0;have m0:=@bE.mono;have m1:=@aQ.mono;exact mo_
theorem bQ.mono:∀ a0 a1 k,LeO (bQ.f k a0 a1) (bQ.f (k + 1) a0 a1):=by
 intro a0 a1 k;have ih0:=bQ.mono_l k;unfold bQ.f;have m0:=@bE.mono;have m1:=@aQ.mono;exact mo_
def bQ.T7:Bool × List (List Nat × List Nat):=(true,[([],[]),([0],[0]),([],[]),([2],[2]),([3],[3]),([1,4,3],[1,4]),([0,1,2,3,4,5],[]),([6,5,5,0,1,2,3,4,5],[5,6])])
def bQ.B7:List Nat:=[0,1,0,4,12,31,63,127]
theorem bQ.aKi:mH .any (opsOf Tryz.f16 7)=bQ.T7:=by kernel_rfl
theorem bQ.aFk:iY bQ.T7.2 bQ.B7=true:=by kernel_rfl
theorem bQ.calls (k:Nat) (jm:Option Addr) (jn:Nat) (je:List Int) (jr:Option Addr) (jo:Nat) (j6:List (List (S58))) (r1:List Int) (r2:List (List (S58))) (r3:Bool) (w:World) (hr0_0:Kd.C (Kd.int .i64) w jm je.length je) (hc0_0:je.length≤jn) (hr0_1:Kd.C (Kd.slice 58 k58) w jr j6.length j6) (hc0_1:j6.length≤jo) (h:bQ.f k je j6=some (r1,r2,r3)):
  Calls Tryz.prog 16 #[.agg #[.slice jm je.length jn,.slice jr j6.length jo]] w fun e w'=>∃ v0_ v1_:Value,e= .returned (.tuple #[.agg #[v0_,v1_],.bool r3])∧Kd.R (Kd.int .i64) 3 w' w.heap.size (fun k_=>(w.heap.size≤k_)) v0_ r1∧Kd.N (Kd.slice 58 k58) 33 w' w.heap.size (fun k_=>(w.heap.size≤k_)∧some k_≠(v0_:Value).ownBlock) v1_ r2∧Below w.heap.size w w':=by
 have hu26:=Tryz.underlying26;have js:=am hr0_0;have jt:=am hc0_0;clear hr0_0 hc0_0;have ju:=am hr0_1;have jK:=am hc0_1;clear hr0_1 hc0_1;have HB:=am (Below.refl w.heap.size w);unfold bQ.f at h;have H:=h;clear h;obtain ⟨qG,A2,H⟩:=bsa H;(try dsimp only at H);have HH_:=am H;clear H;go_enter Tryz.func16,Tryz.ntmps16;go_upto_region 1 with (first|((with_reducible refine gD 1 rfl ?_);refine dU rfl (N:=1) rfl (cs:=#[.slice jm je.length jn,.slice jr j6.length jo]) (t:=26) rn_ ?_;intro jf hg w5 hbox hb;have j3:=am (hbox);have GW38:=am ((by rw [hg];exact (aI eG):w.heap.size≤jf));have GE38:=am ((by rw [hg];exact (aI eG):w.heap.size≤jf));replace HB:=am (aA eG hb);clear hb hbox hg)|((with_reducible refine gD 2 rfl ?_);refine dU rfl (N:=2) rfl (cs:=#[.slice none 0 0,.slice none 0 0]) (t:=26) rn_ ?_;intro ja hg w6 hbox hb;have j4:=am (hbox);have qH:=am ((by rw [hg];exact (aI aAu):w.heap.size≤ja));have GE41:=am ((by rw [hg];exact (aI aAu):w.heap.size≤ja));replace HB:=am (aA aAu hb);have jp:=am ((by rw [hg];exact Nat.ne_of_lt (uI j3.out):jf≠ja));have jq:=am ((by rw [hg];exact Nat.ne_of_gt (uI j3.out):ja≠jf));replace j3:=bbP j3 hb;clear hb hbox hg;have qI:=jp.out;have qJ:=jq.out;obtain ⟨jL,jM,jN,jO⟩:=iV j3.out));have H:=HH_.out;clear HH_;by_cases c3:qG=true
 ·subst c3;rw [if_pos rfl] at H;obtain ⟨jl,A4,H⟩:=bsa H;(try dsimp only at H);have H':=am H;clear H;go_wp2_with (first|((with_reducible refine gC 19 rfl ?_);refine gl_ 8 Tryz.func19 #[.agg #[.slice jm je.length jn,.slice jr j6.length jo]] ?_;(with_reducible refine (bE.calls k _ _ je _ _ j6 true _ (aC_ (Kd.aX js.out HB.out)) jt.out (aC_ (Kd.aX ju.out HB.out)) jK.out A2.out).mono ?_);rintro e w9 ⟨rfl,hb⟩;refine ⟨_,rfl,?_⟩;replace j3:=bbP j3 hb;replace j4:=bbP j4 hb;replace HB:=am (aA EA hb);(try clear hb);obtain ⟨jw,jx,jy,jz⟩:=iV j3.out)|((with_reducible refine gC 34 rfl ?_);refine gl_ 13 Tryz.func34 #[.slice jm je.length jn] ?_;(with_reducible refine (kI.calls _ _ je jl _ (aC_ (Kd.aX js.out HB.out)) jt.out A4.out).mono ?_);rintro e qQ ⟨qR,rfl,ho0,hb⟩;refine ⟨_,rfl,?_⟩;have jA:=am (Kd.fB (Kd.vG (M:=fun k_=>(w.heap.size≤k_)) ho0 (aI EA) (fun k_ h_=>h_)) (aI EA));replace j3:=bbP j3 hb;replace j4:=bbP j4 hb;replace HB:=am (aA EA hb);(try clear hb);(try clear ho0);obtain ⟨jg,jh,qk⟩:=Kd.eY jA.out;subst qk)|((with_reducible refine gD 4 rfl ?_);refine dU rfl (N:=4) rfl (cs:=#[.slice none 0 0,.slice none 0 0]) (t:=26) rn_ ?_;intro j8 hg qS hbox hb;replace jA:=am (Kd.fT (aR_ jA.out) hb);have j7:=am (hbox);have qK:=am ((by rw [hg];exact (aI EA):w.heap.size≤j8));have GE44:=am ((by rw [hg];exact (aI EA):w.heap.size≤j8));replace HB:=am (aA EA hb);have jc:=am ((by rw [hg];exact Nat.ne_of_lt (uI j3.out):jf≠j8));have jj:=am ((by rw [hg];exact Nat.ne_of_gt (uI j3.out):j8≠jf));replace j3:=bbP j3 hb;have jd:=am ((by rw [hg];exact Nat.ne_of_lt (uI j4.out):ja≠j8));have jk:=am ((by rw [hg];exact Nat.ne_of_gt (uI j4.out):j8≠ja));replace j4:=bbP j4 hb;clear hb hbox hg;have qs:=jj.out;have qt:=jc.out;have qu:=jk.out;have qv:=jd.out;obtain ⟨jB,jC,jD,jE⟩:=iV j7.out;obtain ⟨jF,jG,jH,jI⟩:=iV j3.out))
  go_loopg [18] k (fun kq qL w'=>∃ (j5:Int) (ji:List (List (S58))) (u45:Value),qL= .int .i64 j5∧Aside0 (bQ.l0 kq j6 (j6.length:Int) j5 jl ji=some (r1,r2,r3))∧Aside0 (kq≤k)∧Aside0 (Kd.R (Kd.int .i64) 3 w' w.heap.size (fun k_=>(w.heap.size≤k_)) (.slice jg jl.length jh) jl)∧Aside0 (Kd.N (Kd.slice 58 k58) 33 w' w.heap.size (fun k_=>(w.heap.size≤k_)∧some k_≠((.slice jg jl.length jh):Value).ownBlock∧k_≠jf∧k_≠ja∧k_≠j8) u45 ji)∧Aside0 (w'.heap[jf]?=some (.cells #[(.slice jm je.length jn),(.slice jr j6.length jo)] 26 (0,0)))∧Aside0 (w'.heap[ja]?=some (.cells #[(.slice none 0 0),(.slice none 0 0)] 26 (0,0)))∧Aside0 (w'.heap[j8]?=some (.cells #[(.slice jg jl.length jh),u45] 26 (0,0)))∧Aside0 (Below w.heap.size w w'))
  case atStart=>exact ⟨(0),(([]:List (List (S58)))),(.slice none 0 0),sd_,H',⟨Nat.le_refl _⟩,⟨gI (Kd.bN (Kd.gP (p:=⟨j8,1,none⟩) (Kd.gP (p:=⟨j8,0,none⟩) (Kd.iR jA.out j7.out (by decide)) (fun _ hk=>hk.2) (.slice jg jl.length jh)) (fun _ hk=>hk.2) (.slice none 0 0)) (fun _ hk=>hk.1.1))⟩,⟨by first|exact Kd.uS _ _ _ _ _|exact Kd.xS _ _ _ _ _|exact Kd.xV _ _ _ _ _|exact Kd.xU _ _ _ _ _|exact Kd.vH _ _ _ _ _⟩,⟨(gV (gV j3.out jc.out _) jc.out _)⟩,⟨(gV (gV j4.out jd.out _) jd.out _)⟩,⟨(aV (aV j7.out 0 _ rfl) 1 _ rfl)⟩,⟨DY⟩⟩
  case round=>
   clear H';try clear c3
   try clear jw
   try clear jx
   try clear jB
   try clear jC
   try clear jF
   try clear jG
   try clear jL
   try clear jM
   try clear jy
   try clear jz
   try clear jD
   try clear jE
   try clear jH
   try clear jI
   try clear jN
   try clear jO
   obtain ⟨j5,ji,u45,rfl,HA,qw,jb,j9,j3,j4,j7,HB⟩:=hrel;cases gk with
   |zero=>exact absurd HA.out (by simp [bQ.l0])
   |succ k1=>
    have H:=HA.out;clear HA;simp only [bQ.l0] at H;by_cases jV:j5 < (j6.length:Int)
    ·rw [if_pos jV] at H;have jW:decide (j5 < (j6.length:Int))=true:=dT jV;clear jV;by_cases q4:0≤j5
     ·rw [if_pos q4] at H;have qx:decide (0≤j5)=true:=dT q4;clear q4;by_cases q5:j5 < (j6.length:Int)
      ·rw [if_pos q5] at H;have qy:decide (j5 < (j6.length:Int))=true:=dT q5;clear q5;obtain ⟨q6,qz,H⟩:=bsm H;(try dsimp only at H);have qM:=am qz;clear qz;by_cases q7:ji.length < 5864062014805
       ·rw [if_pos q7] at H;have jX:=am q7;clear q7;obtain ⟨jY,hy_⟩:∃ y_:List (List (S58)),y_=(ji ++ [q6]):=⟨_,rfl⟩;replace H:(bQ.l0 k1 j6 (j6.length:Int) (wrap64 (j5 + 1)) jl jY)=some (r1,r2,r3):=rx_;have ql:=am hy_;clear hy_;have H':=am H;clear H;have qm:0≤(j5:Int):=of_decide_eq_true fK;have qn:j5 < (j6.length:Int):=of_decide_eq_true fK;obtain ⟨qo,jZ,q0,qN,jv,hl50_0,hi50_0⟩:=wT ju.out j5 qm qn;cases qN;replace jv:=bcT HB.out jv;have jP:=am hi50_0;have jQ:=am hl50_0;clear hi50_0 hl50_0;replace qm:=eq_true qm;replace qn:=eq_true qn;try go_wp2
        replace jb:=am (Kd.oJ jb.out);replace j9:=am (Kd.rF j9.out);replace j3:=am (dA j3.out);replace j4:=am (dA j4.out);replace j7:=am (dA j7.out);replace HB:=am (bI HB.out);refine lQ (n:=8) (S:=fun w'=>w'.cell? ⟨j8,0,none⟩=some (.slice jg jl.length jh)∧w'.cell? ⟨j8,1,none⟩=some (u45)) (ds:=[7]) (bz 8 0) (by kernel_rfl) rfl rfl (uW j7.out) (fun hHeld=>?_);refine iQ bQ.aKi bQ.aFk (fun HT_ HW_=>?_);generalize wr.drew=qT at jb j9 j3 j4 j7 HB hHeld ⊢;refine pr_ 0 22 (bz 8 1) HT_ ?_;refine pr_ 2 24 (bz 8 5) HT_ ?_;refine aEi 1 23 (bz 8 7) HT_ HW_ hHeld ?_;refine iJ (i:=3) (N:=some 25) (bz 8 15) rfl rfl (eU HT_.out (by kernel_rfl)) (by decide) (fun K hK=>?_);refine iI Tryz.func35 (by kernel_rfl) rfl #[.slice jZ (gB j6 j5).length q0] (by rfl) rfl rfl nG ?_
        with_reducible refine (aQ.calls k1 _ _ (gB j6 j5) q6 _ (aC_ (Kd.aX jP.out HB.out)) jQ.out qM.out).mono ?_
        rintro e qU ⟨qV,rfl,ho0,hb⟩;refine ⟨_,rfl,?_⟩;have jJ:=am (Kd.eO (Kd.aW (ok':=fun k_=>(w.heap.size≤k_)∧some k_≠(.slice jg jl.length jh:Value).ownBlock∧some k_≠(u45:Value).ownBlock∧k_≠jf∧k_≠ja∧k_≠j8) ho0 (fun k_ hk_=>⟨(Nat.le_trans (aI DY) hk_),(Kd.fresh' (Kd.iG (aR_ jb.out)) k_ hk_),(Kd.fresh' (Kd.tC (aN_ j9.out)) k_ hk_),(kT j3.out k_ hk_),(kT j4.out k_ hk_),(kT j7.out k_ hk_)⟩)) (aI DY));replace jb:=am (Kd.fT (aR_ jb.out) hb);replace j9:=am (Kd.sD (aN_ j9.out) (by first|exact Kd.iW ho0|exact Kd.iW (Kd.R_N ho0)) hb);replace j3:=bbP j3 hb;replace j4:=bbP j4 hb;replace j7:=bbP j7 hb;replace HB:=am (aA DY hb);(try clear hb);(try clear hb2);(try clear hk);(try clear hi);(try clear ho0);obtain ⟨qp,qq,q1⟩:=Kd.eF jJ.out
        (first|subst q1|(injection q1 with f1_ f2_ f3_;have f4_:=f1_.symm;have f5_:=f3_.symm;clear f1_ f2_ f3_;subst f4_;subst f5_))
        refine hK.out _ _ (uW j7.out) (fun hHeld=>?_);clear hK K;refine fC (a':=?_) ?_ ?_;rotate_left;·exact ap_ (N:=25)
        refine iJ (i:=4) (N:=some 26) (bz 8 31) rfl rfl (eU HT_.out (by kernel_rfl)) (by decide) (fun K hK=>?_);refine sU (w1:=?_) (v:=?_) (by rfl) rfl ?_ ?_;rotate_left 2
        ·go_simp;constructor;·rfl
         ·rfl
        refine hK.out _ _ (uW (dS j7.out _)) (fun hHeld=>?_);clear hK K;refine fC (a':=?_) ?_ ?_;rotate_left;·exact ap_ (N:=26)
        refine iJ (i:=5) (N:=some 27) (bz 8 63) rfl rfl (eU HT_.out (by kernel_rfl)) (by decide) (fun K hK=>?_);refine Kd.BO (Kd.slice 58 k58) (w0:=w) w.heap.size (by rfl) (.tmp 23) (.tmp 26) 24 33 (.slice none 0 0) 24 rfl Tryz.underlying24 RZ rfl (by decide) (by omega) u45 ji q6 [.slice qp q6.length qq] (fun k_=>(w.heap.size≤k_)∧some k_≠(.slice jg jl.length jh:Value).ownBlock∧k_≠jf∧k_≠ja∧k_≠j8) (fun k_=>((fun k_=>(w.heap.size≤k_)∧some k_≠(.slice jg jl.length jh:Value).ownBlock∧k_≠jf∧k_≠ja∧k_≠j8)) k_∧some k_≠(u45:Value).ownBlock) rfl rfl ?aP (fun _ hk=>hk) ?aF ?aO ?aB ?aS ?aL ?_;(case aP=>exact (Kd.nK (Kd.dY (Kd.aW (ok':=(fun k_=>((fun k_=>(w.heap.size≤k_)∧some k_≠(.slice jg jl.length jh:Value).ownBlock∧k_≠jf∧k_≠ja∧k_≠j8)) k_∧some k_≠(u45:Value).ownBlock)) (jJ.out) (fun k_ hk=>⟨⟨hk.1,⟨hk.2.1,⟨hk.2.2.2.1,⟨hk.2.2.2.2.1,hk.2.2.2.2.2⟩⟩⟩⟩,hk.2.2.1⟩))).2.1 (Kd.N_F (Kd.aW (ok':=(fun k_=>((fun k_=>(w.heap.size≤k_)∧some k_≠(.slice jg jl.length jh:Value).ownBlock∧k_≠jf∧k_≠ja∧k_≠j8)) k_∧some k_≠(u45:Value).ownBlock)) (jJ.out) (fun k_ hk=>⟨⟨hk.1,⟨hk.2.1,⟨hk.2.2.2.1,⟨hk.2.2.2.2.1,hk.2.2.2.2.2⟩⟩⟩⟩,hk.2.2.1⟩)))));(case aB=>exact DY);(case aF=>exact (fun k_ hk=>⟨(Nat.le_trans (aI DY) hk),Kd.fresh' (Kd.iG (aR_ jb.out)) k_ hk,kT j3.out k_ hk,kT j4.out k_ hk,kT j7.out k_ hk⟩));(case aO=>exact (kV (Kd.aW j9.out (fun _ hk=>⟨hk.1.1,⟨hk.1.2.1,⟨hk.1.2.2.1,⟨hk.1.2.2.2.1,hk.1.2.2.2.2⟩⟩⟩⟩))));(case aS=>exact (aI DY));(case aL=>have:=jX.out;omega);intro qW qO ho hb hg hat
        rw [← ql.out] at ho;replace jb:=am (Kd.DX (aR_ jb.out) (Kd.DW (aN_ j9.out)) (by decide) hg);replace j3:=am (dL (g:=jf) (o:=.cells #[.slice jm je.length jn,.slice (some qo) j6.length jo] 26 (0,0)) (aG_ j3.out) hg (Kd.NW j9.out j3.out (by decide)));replace j4:=am (dL (g:=ja) (o:=.cells #[.slice none 0 0,.slice none 0 0] 26 (0,0)) (aG_ j4.out) hg (Kd.NW j9.out j4.out (by decide)));replace j7:=am (dL (g:=j8) (o:=.cells #[.slice jg jl.length jh,u45] 26 (0,0)) (aG_ j7.out) hg (Kd.NW j9.out j7.out (by decide)));replace HB:=am (hb);have q2:=am (ho);clear j9 jJ;clear ho hb hg hat
        obtain ⟨jR,jS,q3⟩:=Kd.eF q2.out
        (first|subst q3|(injection q3 with f1_ f2_ f3_;have f4_:=f1_.symm;have f5_:=f3_.symm;clear f1_ f2_ f3_;subst f4_;subst f5_))
        refine hK.out _ _ (uW j7.out) (fun hHeld=>?_);clear hK K;refine fC (a':=?_) ?_ ?_;rotate_left;·exact ap_ (N:=27)
        refine pr_ 6 28 (bz 8 127) HT_ ?_;refine MV (i:=7) (N:=none) (bz 8 255) rfl rfl (eU HT_.out (by kernel_rfl)) (by decide) (fun K hK=>?_);have qP:qO.cell? ⟨j8,1,none⟩=some (u45):=(aG j7.out 1).trans rfl;have hfs28:=aZ j7.out 1;have hns28_0:=jc.out;have hns28_1:=jd.out;have hms28_0:=jj.out;have hms28_1:=jk.out;refine uM (w1:=?_) (by rfl) rfl ?_ ?_;rotate_left
        ·go_simp;rfl
        refine hK.out _ _ ?_;clear hK K;refine nP (lG HT_.out (by kernel_rfl)) ?_;try go_wp2
        go_roundg k1;case measure=>have:=qw.out;omega
        case rel=>exact ⟨(wrap64 (j5 + 1)),(jY),(.slice jR jY.length jS),sd_,H',⟨by have:=qw.out;omega⟩,⟨gI (Kd.bN (Kd.gP (p:=⟨j8,1,none⟩) (Kd.iR jb.out j7.out (by decide)) (fun _ hk=>hk.2) (.slice jR jY.length jS)) (fun _ hk=>hk.1))⟩,⟨kV (Kd.aW (Kd.bX (p:=⟨j8,1,none⟩) (Kd.aW q2.out (fun k_ hk=>(⟨hk,hk.2.2.2.2⟩:_∧k_≠j8))) (fun _ hk=>hk.2) (.slice jR jY.length jS)) (fun _ hk=>⟨hk.1.1,⟨hk.1.2.1,⟨hk.1.2.2.1,⟨hk.1.2.2.2.1,hk.1.2.2.2.2⟩⟩⟩⟩))⟩,⟨(gV j3.out jc.out _)⟩,⟨(gV j4.out jd.out _)⟩,⟨(aV j7.out 1 _ rfl)⟩,⟨DY⟩⟩
       rw [if_neg q7] at H;cases H
      rw [if_neg q5] at H;cases H
     rw [if_neg q4] at H;cases H
    rw [if_neg jV] at H;have jW:decide (j5 < (j6.length:Int))=false:=dF jV;clear jV;simp only [Option.some.injEq,Prod.mk.injEq] at H;obtain ⟨rfl,rfl,rfl⟩:=H;have qA:=jj.out;have qB:=jc.out;have qC:=jk.out;have qD:=jd.out;obtain ⟨q8,q9,qa,qb⟩:=iV j7.out;have qE:=jq.out;have qF:=jp.out;obtain ⟨qc,qd,qe,qf⟩:=iV j4.out;obtain ⟨jT,jU,qr⟩:=Kd.eF j9.out;subst qr;go_wp2;refine bodyPost_ret (NG rfl _ _ ja 26 #[.slice jg jl.length jh,.slice jT ji.length jU] (0,0) _ rfl (aV (aV j4.out 0 _ rfl) 1 _ rfl) Tryz.underlying26 rfl (by kernel_rfl)) rfl ?_;exact ⟨_,_,gU,gI (Kd.bN (Kd.gP (p:=⟨ja,1,none⟩) (Kd.gP (p:=⟨ja,0,none⟩) (Kd.iR jb.out j4.out (by decide)) (fun _ hk=>hk.2) (.slice jg jl.length jh)) (fun _ hk=>hk.2) (.slice jT ji.length jU)) (fun _ hk=>hk.1)),kV (Kd.aW (Kd.bX (p:=⟨ja,1,none⟩) (Kd.bX (p:=⟨ja,0,none⟩) (Kd.aW j9.out (fun k_ hk=>(⟨hk,hk.2.2.2.1⟩:_∧k_≠ja))) (fun _ hk=>hk.2) (.slice jg jl.length jh)) (fun _ hk=>hk.2) (.slice jT ji.length jU)) (fun _ hk=>⟨hk.1.1,hk.1.2.1⟩)),DY⟩
 replace c3:=Bool.eq_false_iff.mpr c3;subst c3;rw [if_neg Bool.false_ne_true] at H;simp only [Option.some.injEq,Prod.mk.injEq] at H;obtain ⟨rfl,rfl,rfl⟩:=H;go_wp2_with (first|((with_reducible refine gC 19 rfl ?_);refine gl_ 8 Tryz.func19 #[.agg #[.slice jm je.length jn,.slice jr j6.length jo]] ?_;(with_reducible refine (bE.calls k _ _ je _ _ j6 false _ (aC_ (Kd.aX js.out HB.out)) jt.out (aC_ (Kd.aX ju.out HB.out)) jK.out A2.out).mono ?_);rintro e qX ⟨rfl,hb⟩;refine ⟨_,rfl,?_⟩;replace j3:=bbP j3 hb;replace j4:=bbP j4 hb;replace HB:=am (aA EA hb);(try clear hb);obtain ⟨qg,qh,qi,qj⟩:=iV j4.out));refine bodyPost_ret (NG rfl _ _ ja 26 #[.slice none 0 0,.slice none 0 0] (0,0) _ rfl (aV (aV j4.out 0 _ rfl) 1 _ rfl) Tryz.underlying26 rfl (by kernel_rfl)) rfl ?_;exact ⟨_,_,gU,by first|exact Kd.uS _ _ _ _ _|exact Kd.xS _ _ _ _ _|exact Kd.xV _ _ _ _ _|exact Kd.xU _ _ _ _ _|exact Kd.vH _ _ _ _ _,by first|exact Kd.uS _ _ _ _ _|exact Kd.xS _ _ _ _ _|exact Kd.xV _ _ _ _ _|exact Kd.xU _ _ _ _ _|exact Kd.vH _ _ _ _ _,EA⟩
theorem dB.mono_l:∀ k,(∀ y0 y1 y2 y3 y4,LeO (dB.j0 k y0 y1 y2 y3 y4) (dB.j0 (k + 1) y0 y1 y2 y3 y4))
 |0=>fun _ _ _ _ _ r h=>by simp [dB.j0] at h
 |k + 1=>by
  have ih0:=dB.mono_l k
  ·intro y0 y1 y2 y3 y4;unfold dB.j0;have m0:=@bQ.mono;have m1:=@bC.mono;have m2:=@fM.mono;have m3:=@bF.mono;exact mo_
theorem dB.mono:∀ a0 k,LeO (dB.f k a0) (dB.f (k + 1) a0):=by
 intro a0 k;have ih0:=dB.mono_l k;unfold dB.f;have m0:=@bQ.mono;have m1:=@bC.mono;have m2:=@fM.mono;have m3:=@bF.mono;exact mo_
theorem dB.calls (k:Nat) (A0:Option Addr) (c0:Nat) (l0:List Int) (r:Bool) (w:World) (hr0:Kd.C (Kd.int .u8) w A0 l0.length l0) (hc0:l0.length≤c0) (ht_:Tab w) (h:dB.f k l0=some r):
  Calls Tryz.prog 5 #[.slice A0 l0.length c0] w fun e w'=>e= .returned (.bool r)∧Below w.heap.size w w':=by
 have hu26:=Tryz.underlying26;have qE:=am hr0;have qF:=am hc0;clear hr0 hc0;have HB:=am (Below.refl w.heap.size w);unfold dB.f at h;have H:=h;clear h;by_cases c2:(l0.length:Int) > 1048576
 ·rw [if_pos c2] at H;have jP:decide (1048576 < (l0.length:Int))=true:=dT c2;have jQ:decide (1048576 < l0.length)=true:=dT (by omega);clear c2;obtain rfl:=oI H;go_enter Tryz.func5,Tryz.ntmps5;go_wp2;go_ret;exact ⟨rr_,eG⟩
 rw [if_neg c2] at H;have jP:decide (1048576 < (l0.length:Int))=false:=dF c2;have jQ:decide (1048576 < l0.length)=false:=dF (by omega);clear c2;obtain ⟨⟨jf,jh⟩,A3,H⟩:=bsa H;(try dsimp only at H);obtain ⟨jJ,A4,H⟩:=bsa H;(try dsimp only at H);obtain ⟨jL,A5,H⟩:=bsa H;(try dsimp only at H);have ql:=am H;clear H;go_enter Tryz.func5,Tryz.ntmps5;go_upto_region 6 with (first|((with_reducible refine gC 7 rfl ?_);refine gl_ 13 Tryz.func7 #[.slice A0 l0.length c0] ?_;(with_reducible refine (fM.calls k _ _ l0 jf jh _ (aC_ qE.out) qF.out A3.out).mono ?_);rintro e w7 ⟨qG,qL,rfl,ho0,ho1,hb⟩;refine ⟨_,rfl,?_⟩;have jj:=am (Kd.fB (Kd.bN (ok':=fun k_=>True) ho0 (fun _ hk_=>trivial)) (aI eG));have jk:=am (Kd.eO (Kd.aW (ok':=fun k_=>some k_≠(qG:Value).ownBlock) ho1 (fun k_ hk_=>hk_.2)) (aI eG));replace HB:=am (aA eG hb);(try clear hb);(try clear ho0);(try clear ho1))|((with_reducible refine gD 3 rfl ?_);(try (refine nH (by rfl) ?_;dsimp only));refine dU rfl (N:=3) rfl (cs:=#[.slice none 0 0,.slice none 0 0]) (t:=26) rn_ ?_;intro j7 hg w8 hbox hb;replace jj:=am (Kd.fT (aR_ jj.out) hb);replace jk:=am (Kd.gZ (Kd.pY (aN_ jk.out) j7 (Nat.le_of_eq hg.symm)) hb);have j5:=am (hbox);have qH:=am ((by rw [hg];exact (aI eG):w.heap.size≤j7));have GE54:=am ((by rw [hg];exact (aI eG):w.heap.size≤j7));replace HB:=am (aA eG hb);clear hb hbox hg;obtain ⟨jm,jl,qI⟩:=Kd.eY jj.out;subst qI;obtain ⟨jB,jC,jD,jE⟩:=iV j5.out;obtain ⟨jc,jb,qm⟩:=Kd.eF jk.out;subst qm)|((with_reducible refine gC 8 rfl ?_);refine gl_ 15 Tryz.func8 #[.agg #[.slice jm jf.length jl,.slice jc jh.length jb]] ?_;(with_reducible refine (bC.calls k _ _ jf _ _ jh jJ _ ?side1 (Kd.eX jj.out).2.1 ?side3 (Kd.dY jk.out).2.1 ?sideT A4.out).mono ?_);(case sideT=>first|exact ht_|exact Tab.below ht_ HB.out|exact Tab.below ht_ BQ);(case side1=>refine (Kd.eX (e:=3) (base:=w.heap.size) (ok:=fun k_=>True) (n:=jf.length) (c:=jl) ?_).2.2;exact (gI ((Kd.bN (Kd.gP (p:=⟨j7,1,none⟩) (Kd.gP (p:=⟨j7,0,none⟩) (Kd.iR jj.out j5.out (by decide)) (fun _ hk=>hk.2) (.slice jm jf.length jl)) (fun _ hk=>hk.2) (.slice jc jh.length jb)) (fun _ h_=>h_.1)))));(case side3=>refine (Kd.dY (e:=33) (base:=w.heap.size) (ok:=fun k_=>(some k_≠(.slice jm jf.length jl:Value).ownBlock∧k_≠j7)) (n:=jh.length) (c:=jb) ?_).2.2;exact (kV ((Kd.aW (Kd.bX (p:=⟨j7,1,none⟩) (Kd.bX (p:=⟨j7,0,none⟩) (Kd.aW jk.out (fun k_ hk=>(⟨hk,hk.2⟩:_∧k_≠j7))) (fun _ hk=>hk.2) (.slice jm jf.length jl)) (fun _ hk=>hk.2) (.slice jc jh.length jb)) (fun _ h_=>h_.1)))));rintro e qM ⟨rfl,hb⟩;refine ⟨_,rfl,?_⟩;replace jj:=am (Kd.fT (gI ((Kd.bN (Kd.gP (p:=⟨j7,1,none⟩) (Kd.gP (p:=⟨j7,0,none⟩) (Kd.iR jj.out j5.out (by decide)) (fun _ hk=>hk.2) (.slice jm jf.length jl)) (fun _ hk=>hk.2) (.slice jc jh.length jb)) (fun _ h_=>h_.1)))) hb);replace jk:=am (Kd.gZ (kV ((Kd.aW (Kd.bX (p:=⟨j7,1,none⟩) (Kd.bX (p:=⟨j7,0,none⟩) (Kd.aW jk.out (fun k_ hk=>(⟨hk,hk.2⟩:_∧k_≠j7))) (fun _ hk=>hk.2) (.slice jm jf.length jl)) (fun _ hk=>hk.2) (.slice jc jh.length jb)) (fun _ h_=>h_.1)))) hb);replace j5:=am (eP (g:=j7) (o:=.cells #[.slice jm jf.length jl,.slice jc jh.length jb] 26 (0,0)) (aV (aV j5.out 0 _ rfl) 1 _ rfl) hb);replace HB:=am (aA oU hb);(try clear hb);obtain ⟨jF,jG,jH,jI⟩:=iV j5.out)|((with_reducible refine gC 9 rfl ?_);refine gl_ 17 Tryz.func9 #[.agg #[.slice jm jf.length jl,.slice jc jh.length jb]] ?_;(with_reducible refine (bF.calls k _ _ jf _ _ jh jL _ (aC_ (Kd.eX jj.out).2.2) (Kd.eX jj.out).2.1 (aC_ (Kd.dY jk.out).2.2) (Kd.dY jk.out).2.1 A5.out).mono ?_);rintro e qN ⟨rfl,hb⟩;refine ⟨_,rfl,?_⟩;replace jj:=am (Kd.fT (aR_ jj.out) hb);replace jk:=am (Kd.gZ (aN_ jk.out) hb);replace j5:=bbP j5 hb;replace HB:=am (aA oU hb);(try clear hb)));(try simp only [Act.put,sA,sB,sC])
 go_cut [24] (fun qJ wc=>∃ (kq:Nat) (jA:Bool),qJ= .bool jA∧Aside0 (dB.j0 kq jJ jL jA jf jh=some r)∧Aside0 (kq≤k)∧Aside0 (Kd.R (Kd.int .i64) 3 wc w.heap.size (fun _=>True) (.slice jm jf.length jl) jf)∧Aside0 (Kd.N (Kd.slice 58 k58) 33 wc w.heap.size (fun k_=>some k_≠((.slice jm jf.length jl):Value).ownBlock∧k_≠j7) (.slice jc jh.length jb) jh)∧Aside0 (wc.heap[j7]?=some (.cells #[(.slice jm jf.length jl),(.slice jc jh.length jb)] 26 (0,0)))∧Aside0 (Below w.heap.size w wc))
 case first=>
  have H:=ql.out;clear ql;by_cases jM:jJ.toList=jL.toList
  ·rw [if_pos jM] at H;have jw:(jJ.toList == jL.toList)=true:=beq_iff_eq.mpr jM;have jR:(jJ.toList != jL.toList)=false:=bF jM;clear jM
   (first|rw [jw]|(simp only [fA,fE];rw [jw])|skip)
   have H':=am H;clear H;go_wp2
   go_meet
   case rel=>exact ⟨_,((jJ.toList == ([]:List UInt8))),sd_,H',⟨by first|omega|exact Nat.le_refl _⟩,⟨gI jj.out⟩,⟨kV jk.out⟩,⟨by (with_reducible repeat (first|refine dW ?_ _|refine dA ?_|refine dS ?_ _));exact j5.out⟩,⟨oU⟩⟩
  rw [if_neg jM] at H;have jw:(jJ.toList == jL.toList)=false:=bE jM;have jR:(jJ.toList != jL.toList)=true:=bne_iff_ne.mpr jM
  (first|rw [jw]|(simp only [fA,fE];rw [jw])|skip)
  have H':=am H;clear H;go_wp2
  go_meet
  case rel=>exact ⟨_,(true),sd_,H',⟨by first|omega|exact Nat.le_refl _⟩,⟨gI jj.out⟩,⟨kV jk.out⟩,⟨by (with_reducible repeat (first|refine dW ?_ _|refine dA ?_|refine dS ?_ _));exact j5.out⟩,⟨oU⟩⟩
 case rest=>
  clear ql;try clear c2
  try clear jP
  try clear jQ
  try clear jB
  try clear jC
  try clear jF
  try clear jG
  try clear jD
  try clear jE
  try clear jH
  try clear jI
  obtain ⟨kq,jA,rfl,HA,HJ5,j4,j6,j5,HB⟩:=hcut;cases kq with
  |zero=>exact absurd HA.out (by simp [dB.j0])
  |succ jO=>
   have H:=HA.out;clear HA;simp only [dB.j0] at H;by_cases jV:jA=true
   ·subst jV;rw [if_pos rfl] at H;obtain rfl:=oI H;go_wp2;go_ret;exact ⟨rr_,oU⟩
   replace jV:=Bool.eq_false_iff.mpr jV;subst jV;rw [if_neg Bool.false_ne_true] at H;obtain ⟨⟨je,jg,qK⟩,qv,H⟩:=bsm H;(try dsimp only at H);have qn:=am qv;clear qv;obtain ⟨jK,qw,H⟩:=bsm H;(try dsimp only at H);have qo:=am qw;clear qw;by_cases jW:qK=true
   ·subst jW;rw [if_pos rfl] at H;by_cases jN:jK.toList=([]:List UInt8)
    ·rw [if_pos jN] at H;have jS:(jK.toList == ([]:List UInt8))=true:=beq_iff_eq.mpr jN;have jT:(jK.toList != ([]:List UInt8))=false:=bF jN;clear jN;obtain rfl:=oI H;obtain ⟨jX,jY,jZ,q0⟩:=iV j5.out;go_wp2_with (first|((with_reducible refine gC 16 rfl ?_);refine gl_ 30 Tryz.func16 #[.agg #[.slice jm jf.length jl,.slice jc jh.length jb]] ?_;(with_reducible refine (bQ.calls jO _ _ jf _ _ jh je jg true _ (aC_ (Kd.eX j4.out).2.2) (Kd.eX j4.out).2.1 (aC_ (Kd.dY j6.out).2.2) (Kd.dY j6.out).2.1 qn.out).mono ?_);rintro e qO ⟨jU,qx,rfl,ho0,ho1,hb⟩;refine ⟨_,rfl,?_⟩;have j9:=am (Kd.fB (Kd.lF (Kd.bN (ok':=fun k_=>True) ho0 (fun _ hk_=>trivial)) (Kd.iG (aR_ j4.out))) (aI oU));have ja:=am (Kd.eO (Kd.aW (ok':=fun k_=>some k_≠(jU:Value).ownBlock∧some k_≠(.slice jm jf.length jl:Value).ownBlock∧some k_≠(.slice jc jh.length jb:Value).ownBlock∧k_≠j7) ho1 (fun k_ hk_=>⟨hk_.2,(Kd.fresh' (Kd.iG (aR_ j4.out)) k_ hk_.1),(Kd.fresh' (Kd.tC (aN_ j6.out)) k_ hk_.1),(kT j5.out k_ hk_.1)⟩)) (aI oU));replace j4:=am (Kd.iD (aR_ j4.out) (Kd.iN ho0) hb);replace j6:=am (Kd.aW (Kd.oQ (Kd.oQ (Kd.aEw (aN_ j6.out) hb) (Kd.iN ho0)) (Kd.iW ho1)) (fun _ h_=>h_.1));replace j5:=bbP j5 hb;replace HB:=am (aA oU hb);(try clear hb);(try clear ho0);(try clear ho1))|((with_reducible refine gD 6 rfl ?_);(try (refine nH (by rfl) ?_;dsimp only));refine dU rfl (N:=6) rfl (cs:=#[.slice none 0 0,.slice none 0 0]) (t:=26) rn_ ?_;intro j3 hg qP hbox hb;replace j4:=am (Kd.fT (aR_ j4.out) hb);replace j6:=am (Kd.gZ (Kd.pY (aN_ j6.out) j3 (Nat.le_of_eq hg.symm)) hb);replace j9:=am (Kd.fT (aR_ j9.out) hb);replace ja:=am (Kd.gZ (Kd.pY (aN_ ja.out) j3 (Nat.le_of_eq hg.symm)) hb);have jd:=am (hbox);have GW55:=am ((by rw [hg];exact (aI oU):w.heap.size≤j3));have GE55:=am ((by rw [hg];exact (aI oU):w.heap.size≤j3));replace HB:=am (aA oU hb);have j8:=am ((by rw [hg];exact Nat.ne_of_lt (uI j5.out):j7≠j3));have ji:=am ((by rw [hg];exact Nat.ne_of_gt (uI j5.out):j3≠j7));replace j5:=bbP j5 hb;clear hb hbox hg;obtain ⟨jq,jn,qp⟩:=Kd.eY j9.out;subst qp;have qy:=ji.out;have qz:=j8.out;obtain ⟨q1,q2,q3,q4⟩:=iV jd.out;obtain ⟨jx,jr,qq⟩:=Kd.eF ja.out;subst qq)|((with_reducible refine gC 8 rfl ?_);refine gl_ 34 Tryz.func8 #[.agg #[.slice jq je.length jn,.slice jx jg.length jr]] ?_;(with_reducible refine (bC.calls jO _ _ je _ _ jg jK _ ?side1 (Kd.eX j9.out).2.1 ?side3 (Kd.dY ja.out).2.1 ?sideT qo.out).mono ?_);(case sideT=>first|exact ht_|exact Tab.below ht_ HB.out|exact Tab.below ht_ BQ);(case side1=>refine (Kd.eX (e:=3) (base:=w.heap.size) (ok:=fun k_=>(True∧some k_≠(.slice jm jf.length jl:Value).ownBlock)) (n:=je.length) (c:=jn) ?_).2.2;exact (gI ((Kd.bN (Kd.gP (p:=⟨j3,1,none⟩) (Kd.gP (p:=⟨j3,0,none⟩) (Kd.iR j9.out jd.out (by decide)) (fun _ hk=>hk.2) (.slice jq je.length jn)) (fun _ hk=>hk.2) (.slice jx jg.length jr)) (fun _ h_=>h_.1)))));(case side3=>refine (Kd.dY (e:=33) (base:=w.heap.size) (ok:=fun k_=>((some k_≠(.slice jq je.length jn:Value).ownBlock∧(some k_≠(.slice jm jf.length jl:Value).ownBlock∧(some k_≠(.slice jc jh.length jb:Value).ownBlock∧k_≠j7)))∧k_≠j3)) (n:=jg.length) (c:=jr) ?_).2.2;exact (kV ((Kd.aW (Kd.bX (p:=⟨j3,1,none⟩) (Kd.bX (p:=⟨j3,0,none⟩) (Kd.aW ja.out (fun k_ hk=>(⟨hk,hk.2⟩:_∧k_≠j3))) (fun _ hk=>hk.2) (.slice jq je.length jn)) (fun _ hk=>hk.2) (.slice jx jg.length jr)) (fun _ h_=>h_.1)))));rintro e qQ ⟨rfl,hb⟩;refine ⟨_,rfl,?_⟩;replace j4:=am (Kd.fT (gI ((Kd.bN (Kd.gP (p:=⟨j3,1,none⟩) (Kd.gP (p:=⟨j3,0,none⟩) (Kd.iR j4.out jd.out (by decide)) (fun _ hk=>hk.2) (.slice jq je.length jn)) (fun _ hk=>hk.2) (.slice jx jg.length jr)) (fun _ h_=>h_.1)))) hb);replace j6:=am (Kd.gZ (kV ((Kd.aW (Kd.bX (p:=⟨j3,1,none⟩) (Kd.bX (p:=⟨j3,0,none⟩) (Kd.aW j6.out (fun k_ hk=>(⟨hk,hk.2⟩:_∧k_≠j3))) (fun _ hk=>hk.2) (.slice jq je.length jn)) (fun _ hk=>hk.2) (.slice jx jg.length jr)) (fun _ h_=>h_.1)))) hb);replace j9:=am (Kd.fT (gI ((Kd.bN (Kd.gP (p:=⟨j3,1,none⟩) (Kd.gP (p:=⟨j3,0,none⟩) (Kd.iR j9.out jd.out (by decide)) (fun _ hk=>hk.2) (.slice jq je.length jn)) (fun _ hk=>hk.2) (.slice jx jg.length jr)) (fun _ h_=>h_.1)))) hb);replace ja:=am (Kd.gZ (kV ((Kd.aW (Kd.bX (p:=⟨j3,1,none⟩) (Kd.bX (p:=⟨j3,0,none⟩) (Kd.aW ja.out (fun k_ hk=>(⟨hk,hk.2⟩:_∧k_≠j3))) (fun _ hk=>hk.2) (.slice jq je.length jn)) (fun _ hk=>hk.2) (.slice jx jg.length jr)) (fun _ h_=>h_.1)))) hb);replace j5:=am (eP (g:=j7) (o:=.cells #[.slice jm jf.length jl,.slice jc jh.length jb] 26 (0,0)) (gV (gV j5.out j8.out _) j8.out _) hb);replace jd:=am (eP (g:=j3) (o:=.cells #[.slice jq je.length jn,.slice jx jg.length jr] 26 (0,0)) (aV (aV jd.out 0 _ rfl) 1 _ rfl) hb);replace HB:=am (aA BQ hb);(try clear hb)));go_ret;exact ⟨rr_,BQ⟩
    rw [if_neg jN] at H;have jS:(jK.toList == ([]:List UInt8))=false:=bE jN;have jT:(jK.toList != ([]:List UInt8))=true:=bne_iff_ne.mpr jN;obtain rfl:=oI H;obtain ⟨q5,q6,q7,q8⟩:=iV j5.out;go_wp2_with (first|((with_reducible refine gC 16 rfl ?_);refine gl_ 30 Tryz.func16 #[.agg #[.slice jm jf.length jl,.slice jc jh.length jb]] ?_;(with_reducible refine (bQ.calls jO _ _ jf _ _ jh je jg true _ (aC_ (Kd.eX j4.out).2.2) (Kd.eX j4.out).2.1 (aC_ (Kd.dY j6.out).2.2) (Kd.dY j6.out).2.1 qn.out).mono ?_);rintro e qR ⟨jU,qx,rfl,ho0,ho1,hb⟩;refine ⟨_,rfl,?_⟩;have j9:=am (Kd.fB (Kd.lF (Kd.bN (ok':=fun k_=>True) ho0 (fun _ hk_=>trivial)) (Kd.iG (aR_ j4.out))) (aI oU));have ja:=am (Kd.eO (Kd.aW (ok':=fun k_=>some k_≠(jU:Value).ownBlock∧some k_≠(.slice jm jf.length jl:Value).ownBlock∧some k_≠(.slice jc jh.length jb:Value).ownBlock∧k_≠j7) ho1 (fun k_ hk_=>⟨hk_.2,(Kd.fresh' (Kd.iG (aR_ j4.out)) k_ hk_.1),(Kd.fresh' (Kd.tC (aN_ j6.out)) k_ hk_.1),(kT j5.out k_ hk_.1)⟩)) (aI oU));replace j4:=am (Kd.iD (aR_ j4.out) (Kd.iN ho0) hb);replace j6:=am (Kd.aW (Kd.oQ (Kd.oQ (Kd.aEw (aN_ j6.out) hb) (Kd.iN ho0)) (Kd.iW ho1)) (fun _ h_=>h_.1));replace j5:=bbP j5 hb;replace HB:=am (aA oU hb);(try clear hb);(try clear ho0);(try clear ho1))|((with_reducible refine gD 6 rfl ?_);(try (refine nH (by rfl) ?_;dsimp only));refine dU rfl (N:=6) rfl (cs:=#[.slice none 0 0,.slice none 0 0]) (t:=26) rn_ ?_;intro j3 hg qS hbox hb;replace j4:=am (Kd.fT (aR_ j4.out) hb);replace j6:=am (Kd.gZ (Kd.pY (aN_ j6.out) j3 (Nat.le_of_eq hg.symm)) hb);replace j9:=am (Kd.fT (aR_ j9.out) hb);replace ja:=am (Kd.gZ (Kd.pY (aN_ ja.out) j3 (Nat.le_of_eq hg.symm)) hb);have jd:=am (hbox);have GW55:=am ((by rw [hg];exact (aI oU):w.heap.size≤j3));have GE55:=am ((by rw [hg];exact (aI oU):w.heap.size≤j3));replace HB:=am (aA oU hb);have j8:=am ((by rw [hg];exact Nat.ne_of_lt (uI j5.out):j7≠j3));have ji:=am ((by rw [hg];exact Nat.ne_of_gt (uI j5.out):j3≠j7));replace j5:=bbP j5 hb;clear hb hbox hg;obtain ⟨js,jo,qr⟩:=Kd.eY j9.out;subst qr;have qA:=ji.out;have qB:=j8.out;obtain ⟨q9,qa,qb,qc⟩:=iV jd.out;obtain ⟨jy,jt,qs⟩:=Kd.eF ja.out;subst qs)|((with_reducible refine gC 8 rfl ?_);refine gl_ 34 Tryz.func8 #[.agg #[.slice js je.length jo,.slice jy jg.length jt]] ?_;(with_reducible refine (bC.calls jO _ _ je _ _ jg jK _ ?side1 (Kd.eX j9.out).2.1 ?side3 (Kd.dY ja.out).2.1 ?sideT qo.out).mono ?_);(case sideT=>first|exact ht_|exact Tab.below ht_ HB.out|exact Tab.below ht_ BQ);(case side1=>refine (Kd.eX (e:=3) (base:=w.heap.size) (ok:=fun k_=>(True∧some k_≠(.slice jm jf.length jl:Value).ownBlock)) (n:=je.length) (c:=jo) ?_).2.2;exact (gI ((Kd.bN (Kd.gP (p:=⟨j3,1,none⟩) (Kd.gP (p:=⟨j3,0,none⟩) (Kd.iR j9.out jd.out (by decide)) (fun _ hk=>hk.2) (.slice js je.length jo)) (fun _ hk=>hk.2) (.slice jy jg.length jt)) (fun _ h_=>h_.1)))));(case side3=>refine (Kd.dY (e:=33) (base:=w.heap.size) (ok:=fun k_=>((some k_≠(.slice js je.length jo:Value).ownBlock∧(some k_≠(.slice jm jf.length jl:Value).ownBlock∧(some k_≠(.slice jc jh.length jb:Value).ownBlock∧k_≠j7)))∧k_≠j3)) (n:=jg.length) (c:=jt) ?_).2.2;exact (kV ((Kd.aW (Kd.bX (p:=⟨j3,1,none⟩) (Kd.bX (p:=⟨j3,0,none⟩) (Kd.aW ja.out (fun k_ hk=>(⟨hk,hk.2⟩:_∧k_≠j3))) (fun _ hk=>hk.2) (.slice js je.length jo)) (fun _ hk=>hk.2) (.slice jy jg.length jt)) (fun _ h_=>h_.1)))));rintro e qT ⟨rfl,hb⟩;refine ⟨_,rfl,?_⟩;replace j4:=am (Kd.fT (gI ((Kd.bN (Kd.gP (p:=⟨j3,1,none⟩) (Kd.gP (p:=⟨j3,0,none⟩) (Kd.iR j4.out jd.out (by decide)) (fun _ hk=>hk.2) (.slice js je.length jo)) (fun _ hk=>hk.2) (.slice jy jg.length jt)) (fun _ h_=>h_.1)))) hb);replace j6:=am (Kd.gZ (kV ((Kd.aW (Kd.bX (p:=⟨j3,1,none⟩) (Kd.bX (p:=⟨j3,0,none⟩) (Kd.aW j6.out (fun k_ hk=>(⟨hk,hk.2⟩:_∧k_≠j3))) (fun _ hk=>hk.2) (.slice js je.length jo)) (fun _ hk=>hk.2) (.slice jy jg.length jt)) (fun _ h_=>h_.1)))) hb);replace j9:=am (Kd.fT (gI ((Kd.bN (Kd.gP (p:=⟨j3,1,none⟩) (Kd.gP (p:=⟨j3,0,none⟩) (Kd.iR j9.out jd.out (by decide)) (fun _ hk=>hk.2) (.slice js je.length jo)) (fun _ hk=>hk.2) (.slice jy jg.length jt)) (fun _ h_=>h_.1)))) hb);replace ja:=am (Kd.gZ (kV ((Kd.aW (Kd.bX (p:=⟨j3,1,none⟩) (Kd.bX (p:=⟨j3,0,none⟩) (Kd.aW ja.out (fun k_ hk=>(⟨hk,hk.2⟩:_∧k_≠j3))) (fun _ hk=>hk.2) (.slice js je.length jo)) (fun _ hk=>hk.2) (.slice jy jg.length jt)) (fun _ h_=>h_.1)))) hb);replace j5:=am (eP (g:=j7) (o:=.cells #[.slice jm jf.length jl,.slice jc jh.length jb] 26 (0,0)) (gV (gV j5.out j8.out _) j8.out _) hb);replace jd:=am (eP (g:=j3) (o:=.cells #[.slice js je.length jo,.slice jy jg.length jt] 26 (0,0)) (aV (aV jd.out 0 _ rfl) 1 _ rfl) hb);replace HB:=am (aA BQ hb);(try clear hb)));go_ret;exact ⟨rr_,BQ⟩
   replace jW:=Bool.eq_false_iff.mpr jW;subst jW;rw [if_neg Bool.false_ne_true] at H;obtain rfl:=oI H;obtain ⟨qd,qe,qf,qg⟩:=iV j5.out;go_wp2_with (first|((with_reducible refine gC 16 rfl ?_);refine gl_ 30 Tryz.func16 #[.agg #[.slice jm jf.length jl,.slice jc jh.length jb]] ?_;(with_reducible refine (bQ.calls jO _ _ jf _ _ jh je jg false _ (aC_ (Kd.eX j4.out).2.2) (Kd.eX j4.out).2.1 (aC_ (Kd.dY j6.out).2.2) (Kd.dY j6.out).2.1 qn.out).mono ?_);rintro e qU ⟨jU,qx,rfl,ho0,ho1,hb⟩;refine ⟨_,rfl,?_⟩;have j9:=am (Kd.fB (Kd.lF (Kd.bN (ok':=fun k_=>True) ho0 (fun _ hk_=>trivial)) (Kd.iG (aR_ j4.out))) (aI oU));have ja:=am (Kd.eO (Kd.aW (ok':=fun k_=>some k_≠(jU:Value).ownBlock∧some k_≠(.slice jm jf.length jl:Value).ownBlock∧some k_≠(.slice jc jh.length jb:Value).ownBlock∧k_≠j7) ho1 (fun k_ hk_=>⟨hk_.2,(Kd.fresh' (Kd.iG (aR_ j4.out)) k_ hk_.1),(Kd.fresh' (Kd.tC (aN_ j6.out)) k_ hk_.1),(kT j5.out k_ hk_.1)⟩)) (aI oU));replace j4:=am (Kd.iD (aR_ j4.out) (Kd.iN ho0) hb);replace j6:=am (Kd.aW (Kd.oQ (Kd.oQ (Kd.aEw (aN_ j6.out) hb) (Kd.iN ho0)) (Kd.iW ho1)) (fun _ h_=>h_.1));replace j5:=bbP j5 hb;replace HB:=am (aA oU hb);(try clear hb);(try clear ho0);(try clear ho1))|((with_reducible refine gD 6 rfl ?_);(try (refine nH (by rfl) ?_;dsimp only));refine dU rfl (N:=6) rfl (cs:=#[.slice none 0 0,.slice none 0 0]) (t:=26) rn_ ?_;intro j3 hg qV hbox hb;replace j4:=am (Kd.fT (aR_ j4.out) hb);replace j6:=am (Kd.gZ (Kd.pY (aN_ j6.out) j3 (Nat.le_of_eq hg.symm)) hb);replace j9:=am (Kd.fT (aR_ j9.out) hb);replace ja:=am (Kd.gZ (Kd.pY (aN_ ja.out) j3 (Nat.le_of_eq hg.symm)) hb);have jd:=am (hbox);have GW55:=am ((by rw [hg];exact (aI oU):w.heap.size≤j3));have GE55:=am ((by rw [hg];exact (aI oU):w.heap.size≤j3));replace HB:=am (aA oU hb);have j8:=am ((by rw [hg];exact Nat.ne_of_lt (uI j5.out):j7≠j3));have ji:=am ((by rw [hg];exact Nat.ne_of_gt (uI j5.out):j3≠j7));replace j5:=bbP j5 hb;clear hb hbox hg;obtain ⟨ju,jp,qt⟩:=Kd.eY j9.out;subst qt;have qC:=ji.out;have qD:=j8.out;obtain ⟨qh,qi,qj,qk⟩:=iV jd.out;obtain ⟨jz,jv,qu⟩:=Kd.eF ja.out;subst qu)|((with_reducible refine gC 8 rfl ?_);refine gl_ 34 Tryz.func8 #[.agg #[.slice ju je.length jp,.slice jz jg.length jv]] ?_;(with_reducible refine (bC.calls jO _ _ je _ _ jg jK _ ?side1 (Kd.eX j9.out).2.1 ?side3 (Kd.dY ja.out).2.1 ?sideT qo.out).mono ?_);(case sideT=>first|exact ht_|exact Tab.below ht_ HB.out|exact Tab.below ht_ BQ);(case side1=>refine (Kd.eX (e:=3) (base:=w.heap.size) (ok:=fun k_=>(True∧some k_≠(.slice jm jf.length jl:Value).ownBlock)) (n:=je.length) (c:=jp) ?_).2.2;exact (gI ((Kd.bN (Kd.gP (p:=⟨j3,1,none⟩) (Kd.gP (p:=⟨j3,0,none⟩) (Kd.iR j9.out jd.out (by decide)) (fun _ hk=>hk.2) (.slice ju je.length jp)) (fun _ hk=>hk.2) (.slice jz jg.length jv)) (fun _ h_=>h_.1)))));(case side3=>refine (Kd.dY (e:=33) (base:=w.heap.size) (ok:=fun k_=>((some k_≠(.slice ju je.length jp:Value).ownBlock∧(some k_≠(.slice jm jf.length jl:Value).ownBlock∧(some k_≠(.slice jc jh.length jb:Value).ownBlock∧k_≠j7)))∧k_≠j3)) (n:=jg.length) (c:=jv) ?_).2.2;exact (kV ((Kd.aW (Kd.bX (p:=⟨j3,1,none⟩) (Kd.bX (p:=⟨j3,0,none⟩) (Kd.aW ja.out (fun k_ hk=>(⟨hk,hk.2⟩:_∧k_≠j3))) (fun _ hk=>hk.2) (.slice ju je.length jp)) (fun _ hk=>hk.2) (.slice jz jg.length jv)) (fun _ h_=>h_.1)))));rintro e qW ⟨rfl,hb⟩;refine ⟨_,rfl,?_⟩;replace j4:=am (Kd.fT (gI ((Kd.bN (Kd.gP (p:=⟨j3,1,none⟩) (Kd.gP (p:=⟨j3,0,none⟩) (Kd.iR j4.out jd.out (by decide)) (fun _ hk=>hk.2) (.slice ju je.length jp)) (fun _ hk=>hk.2) (.slice jz jg.length jv)) (fun _ h_=>h_.1)))) hb);replace j6:=am (Kd.gZ (kV ((Kd.aW (Kd.bX (p:=⟨j3,1,none⟩) (Kd.bX (p:=⟨j3,0,none⟩) (Kd.aW j6.out (fun k_ hk=>(⟨hk,hk.2⟩:_∧k_≠j3))) (fun _ hk=>hk.2) (.slice ju je.length jp)) (fun _ hk=>hk.2) (.slice jz jg.length jv)) (fun _ h_=>h_.1)))) hb);replace j9:=am (Kd.fT (gI ((Kd.bN (Kd.gP (p:=⟨j3,1,none⟩) (Kd.gP (p:=⟨j3,0,none⟩) (Kd.iR j9.out jd.out (by decide)) (fun _ hk=>hk.2) (.slice ju je.length jp)) (fun _ hk=>hk.2) (.slice jz jg.length jv)) (fun _ h_=>h_.1)))) hb);replace ja:=am (Kd.gZ (kV ((Kd.aW (Kd.bX (p:=⟨j3,1,none⟩) (Kd.bX (p:=⟨j3,0,none⟩) (Kd.aW ja.out (fun k_ hk=>(⟨hk,hk.2⟩:_∧k_≠j3))) (fun _ hk=>hk.2) (.slice ju je.length jp)) (fun _ hk=>hk.2) (.slice jz jg.length jv)) (fun _ h_=>h_.1)))) hb);replace j5:=am (eP (g:=j7) (o:=.cells #[.slice jm jf.length jl,.slice jc jh.length jb] 26 (0,0)) (gV (gV j5.out j8.out _) j8.out _) hb);replace jd:=am (eP (g:=j3) (o:=.cells #[.slice ju je.length jp,.slice jz jg.length jv] 26 (0,0)) (aV (aV jd.out 0 _ rfl) 1 _ rfl) hb);replace HB:=am (aA BQ hb);(try clear hb)));go_ret;exact ⟨rr_,BQ⟩
def dB.Pure:Prop:=∀ (l0:List Int),l0.length≤maxLen→l0.length * 1≤140737488351232→(∀ x ∈ l0,(Lit.int .u8 x).wf=true)→∃ k,dB.f k l0=some true
theorem dB.walk (P:dB.Pure) (a0:Option Addr) (len0 cap0:Nat) (z0:List Int) (w:World) (w0:(a0=none∧len0=0∧cap0=0∧z0=[])∨∃ x,a0=some x∧len0≤cap0∧cap0≤maxLen∧z0.length=cap0∧(∀ i,i < z0.length→w.cell? (x.add i)=some (.int .u8 (z0.getD i 0)))∧∀ n ∈ z0,(Lit.int .u8 n).wf=true) (y0:len0 * 1≤140737488351232) (ht_:Tab w):
  Calls Tryz.prog 5 #[.slice a0 len0 cap0] w fun e w'=>e= .returned (.bool true)∧Below w.heap.size w w':=by
 obtain ⟨l0,rfl,hr0,hm0,hw0,hc0⟩:=kY.aKc w0;obtain ⟨k,h⟩:=P l0 hm0 y0 hw0;refine (dB.calls k _ _ l0 true w (Kd.LK (d:=(0:Int)) (h1:=fun _=>rfl) hr0) hc0 ht_ h).mono ?_;rintro e w' ⟨rfl,hd⟩;exact ⟨rfl,hd⟩
end Go.Proofs.YtjamfkpgmkhbnaaGreatDoor.PA

namespace Go.Proofs.YtjamfkpgmkhbnaaGreatDoor.Core
open Go.RowKit Go.Proofs.YtjamfkpgmkhbnaaGreatDoorW.PrintWords Go.Proofs.YtjamfkpgmkhbnaaGreatDoorW.PrintMore
section
variable {α β:Type} {g h:Nat→Option α} {P Q:α→Prop}
def EvP (g:Nat→Option α) (P:α→Prop):Prop:=∃ r,Ev g r∧P r
theorem EvP.ret {r:α} (h:P r):EvP (fun _=>some r) P:=⟨r,Ev.now r,h⟩
theorem EvP.mono (h:EvP g P) (k:∀ a,P a→Q a):EvP g Q:=by
 obtain ⟨r,h1,h2⟩:=h;exact ⟨r,h1,k r h2⟩
theorem EvP.bind {f:Nat→α→Option β} {R:β→Prop} (h:EvP g P) (k:∀ a,P a→EvP (fun n=>f n a) R):EvP (fun n=>(g n).bind (f n)) R:=by
 obtain ⟨a,h1,h2⟩:=h;obtain ⟨r,k1,k2⟩:=k a h2;exact ⟨r,Ev.bind h1 k1,k2⟩
theorem EvP.fQ {o:Option α} {a:α} {f:Nat→α→Option β} {R:β→Prop} (h:o=some a) (k:EvP (fun n=>f n a) R):EvP (fun n=>o.bind (f n)) R:=by
 subst h;exact k
theorem EvP.ite {c:Prop} [Decidable c] (h1:c→EvP g P) (h2:¬ c→EvP h P):EvP (fun n=>if c then g n else h n) P:=by
 by_cases hc:c
 ·simp only [if_pos hc];exact h1 hc
 ·simp only [if_neg hc];exact h2 hc
theorem EvP.yes {c:Prop} [Decidable c] (hc:c) (h1:EvP g P):EvP (fun n=>if c then g n else h n) P:=by
 simp only [if_pos hc];exact h1
theorem EvP.no {c:Prop} [Decidable c] (hc:¬ c) (h1:EvP h P):EvP (fun n=>if c then g n else h n) P:=by
 simp only [if_neg hc];exact h1
theorem EvP.step {f:Nat→Option α} (h:∀ k,g (k + 1)=f k) (k:EvP f P):EvP g P:=by
 obtain ⟨r,h1,h2⟩:=k;exact ⟨r,Ev.step h h1,h2⟩
theorem EvP.ends {r:α} (h:EvP g (·=r)):∃ k,g k=some r:=by
  obtain ⟨a,h1,h2⟩:=h;subst h2;exact h1.rounds
theorem Ev.evp {r:α} (h:Ev g r):EvP g (·=r):=⟨r,h,rfl⟩
theorem EvP.congr {f:Nat→Option α} (h:∀ k,g k=f k) (k:EvP f P):EvP g P:=by
 obtain ⟨r,h1,h2⟩:=k;exact ⟨r,Ev.congr h h1,h2⟩
theorem EvP.of {o:Option α} {r:α} (h:o=some r) (hp:P r):EvP (fun _=>o) P:=by
 subst h;exact EvP.ret hp
theorem EvP.dO {f:Nat→α→Option β} {R:β→Prop} {a:α} (h:EvP g (·=a)) (k:EvP (fun n=>f n a) R):EvP (fun n=>(g n).bind (f n)) R:=
  EvP.bind h (fun b hb=>by subst hb;exact k)
end
theorem w64 {n:Int} (h1:-9223372036854775808≤n) (h2:n≤9223372036854775807):wrap64 n=n:=by
 unfold wrap64;omega
theorem SK (xs:List Int) (i:Nat) (h:i < xs.length):rd xs (i:Int)=xs[i]:=by
 unfold rd;rw [Int.toNat_natCast,List.getD_eq_getElem?_getD,List.getElem?_eq_getElem h];rfl
theorem aGp (xs:List Int) (i:Int) (h0:0≤i) (h:i < xs.length):rd xs i ∈ xs:=by
 unfold rd;rw [List.getD_eq_getElem?_getD,List.getElem?_eq_getElem (by omega)];exact List.getElem_mem _
theorem FL {a b:Int} (h0:0≤a) (hb:0 < b):0≤Int.tmod a b∧Int.tmod a b < b:=by
 rw [Int.tmod_eq_emod_of_nonneg h0];exact ⟨Int.emod_nonneg _ (by omega),Int.emod_lt_of_pos _ hb⟩
end Go.Proofs.YtjamfkpgmkhbnaaGreatDoor.Core

namespace Go.Proofs.YtjamfkpgmkhbnaaGreatDoor.PA
open Go.RowKit Go.Proofs.YtjamfkpgmkhbnaaGreatDoorW.PrintWords Go.Proofs.YtjamfkpgmkhbnaaGreatDoorW.PrintMore Go.Proofs.YtjamfkpgmkhbnaaGreatDoor.Core
theorem aKr (b:Int):0≤Go.bits .and .i64 b 31∧Go.bits .and .i64 b 31≤31:=by
 simp only [Go.bits];rw [show IntKind.i64.bits=64 from rfl,IntKind.wrap_i64,BitVec.toNat_and];have h:(BitVec.ofInt 64 b).toNat &&& (BitVec.ofInt 64 31).toNat≤(BitVec.ofInt 64 31).toNat:=Nat.and_le_right;have e:(BitVec.ofInt 64 31).toNat=31:=by decide
 rw [e] at h ⊢;omega
theorem LJ (a:Int):wrap32 (wrap64 a)=wrap32 a:=by
 unfold wrap32 wrap64;omega
theorem aIn (a:Int):wrap64 (wrap32 a)=wrap32 a:=by
 unfold wrap32 wrap64;omega
def ap (op a b:Int):Int:=
 if op=1 then Go.bits .or .i64 a b else if op=2 then Go.bits .xor .i64 a b else if op=3 then Go.bits .and .i64 a b
 else if op=4 then (if a=b then 1 else 0) else if op=5 then (if a < b then 1 else 0)
 else if op=6 then wrap32 (shl .i64 a (Go.bits .and .i64 b 31)) else if op=7 then shr .i64 a (Go.bits .and .i64 b 31)
 else if op=8 then wrap32 (a + b) else if op=9 then wrap32 (a - b) else if op=10 then wrap32 (a * b)
 else if op=11 then (if b=0 then -1 else wrap32 (Int.tdiv a b)) else if b=0 then a else Int.tmod a b
theorem xJ (a b c:Int):iH.f a b c=some (decide (b≤a) && decide (a≤c)):=by
 unfold iH.f;by_cases h:a≥b;·rw [if_pos h,dT h,Bool.true_and]
 ·rw [if_neg h,dF h,Bool.false_and]
theorem aFo (l:List Int) (hl:l.length≤1000000000):kI.f l=some l:=by
 unfold kI.f;simp only [Option.bind_some,List.length_nil,List.nil_append];rw [if_pos (by omega)]
inductive X where
 |num (n:Int)
 |var (v:Int)
 |bin (op:Int) (a b:X)
namespace X
def ok:X→Prop
 |num n=>0≤n∧n≤99999
 |var v=>0≤v∧v < 4
 |bin op a b=>(1≤op∧op≤12)∧a.ok∧b.ok
def depth:X→Nat
 |num _=>1
 |var _=>1
 |bin _ a b=>max a.depth b.depth + 1
def size:X→Nat
 |num _=>1
 |var _=>1
 |bin _ a b=>a.size + b.size + 1
def eval (g:Int→Int):X→Int
 |num n=>n
 |var v=>g v
 |bin op a b=>ap op (a.eval g) (b.eval g)
def wW (op:Int):X→X→X
 |num m,num n=>if 0≤ap op m n∧ap op m n≤99999 then num (ap op m n) else bin op (num m) (num n)
 |a,b=>bin op a b
def fold:X→X
 |num n=>num n
 |var v=>var v
 |bin op a b=>wW op a.fold b.fold
def isNum:X→Bool
 |num _=>true
 | _=>false
theorem SG:∀ x:X,1≤x.depth
 |num _|var _=>Nat.le_refl _
 |bin _ _ _=>Nat.le_add_left _ _
theorem DN:∀ x:X,x.size + 1≤2 ^ x.depth
 |num _|var _=>by simp [size,depth]
 |bin _ a b=>by
  have ha:=DN a;have hb:=DN b;have h1:2 ^ a.depth≤2 ^ max a.depth b.depth:=Nat.pow_le_pow_right (by omega) (Nat.le_max_left _ _);have h2:2 ^ b.depth≤2 ^ max a.depth b.depth:=Nat.pow_le_pow_right (by omega) (Nat.le_max_right _ _);simp only [size,depth,Nat.pow_succ];omega
theorem TT {op:Int} (ho:1≤op∧op≤12):∀ {a b:X},a.ok→b.ok→(wW op a b).ok:=by
 intro a b ha hb;unfold wW;split
 ·split
  ·assumption
  ·exact ⟨ho,ha,hb⟩
 ·exact ⟨ho,ha,hb⟩
theorem uZ:∀ x:X,x.ok→x.fold.ok
 |num _,h=>h
 |var _,h=>h
 |bin _ a b,h=>TT h.1 (uZ a h.2.1) (uZ b h.2.2)
theorem TS (op:Int) (a b:X):(wW op a b).depth≤max a.depth b.depth + 1:=by
 unfold wW;split
 ·split
  ·simp [depth]
  ·exact Nat.le_refl _
 ·exact Nat.le_refl _
theorem xH:∀ x:X,x.fold.depth≤x.depth
 |num _=>Nat.le_refl _
 |var _=>Nat.le_refl _
 |bin op a b=>by
  have ha:=xH a;have hb:=xH b;have h:=TS op a.fold b.fold;simp only [fold,depth];omega
theorem aFt {op:Int} {a b:X} (h:∀ m n,a=num m→b=num n→¬ (0≤ap op m n∧ap op m n≤99999)):wW op a b=bin op a b:=by
 unfold wW;split
 ·rw [if_neg (h _ _ rfl rfl)]
 ·rfl
theorem MI (op:Int) (a b:X):(wW op a b=bin op a b)∨∃ m,wW op a b=num m:=by
 unfold wW;split
 ·split
  ·exact .inr ⟨_,rfl⟩
  ·exact .inl rfl
 ·exact .inl rfl
end X
def emb:X→S56
 | .num n=>⟨0,n,[]⟩
 | .var v=>⟨13,v,[]⟩
 | .bin op a b=>⟨op,0,[emb a,emb b]⟩
theorem aIw (a b:S56):bW [a,b] 0=a:=rfl
theorem aIx (a b:S56):bW [a,b] 1=b:=rfl
theorem aBb (a:S56):(⟨a.f0,a.f1,a.f2⟩:S56)=a:=by
 cases a;rfl
def vx:Nat→Int→Int→List S56→Bool
 |0,_,_,_=>false
 |d + 1,op,n,l=>
  if op=0 then decide (0≤n) && (decide (n≤99999) && decide (l.length=0))
  else if op=13 then decide (0≤n) && (decide (n < 4) && decide (l.length=0))
  else decide (1≤op) && (decide (op≤12) && (decide (n=0) && (match l with
   |[a,b]=>vx d a.f0 a.f1 a.f2 && vx d b.f0 b.f1 b.f2
   | _=>false)))
theorem GQ {α:Type} {l:List α} (h:l.length=2):∃ a b,l=[a,b]:=by
 match l,h with
 |[a,b],_=>exact ⟨a,b,rfl⟩
theorem SV:∀ (d:Nat) (op n:Int) (l:List S56),vx d op n l=true→∃ x:X,x.ok∧x.depth≤d∧emb x=⟨op,n,l⟩
 |0,_,_,_,h=>by cases h
 |d + 1,op,n,l,h=>by
  unfold vx at h;by_cases h0:op=0
  ·rw [if_pos h0] at h;simp only [Bool.and_eq_true,decide_eq_true_eq] at h;subst h0;exact ⟨.num n,⟨h.1,h.2.1⟩,by simp [X.depth],by rw [emb,List.eq_nil_of_length_eq_zero h.2.2]⟩
  ·rw [if_neg h0] at h;by_cases j3:op=13
   ·rw [if_pos j3] at h;simp only [Bool.and_eq_true,decide_eq_true_eq] at h;subst j3;exact ⟨.var n,⟨h.1,h.2.1⟩,by simp [X.depth],by rw [emb,List.eq_nil_of_length_eq_zero h.2.2]⟩
   ·rw [if_neg j3] at h;simp only [Bool.and_eq_true,decide_eq_true_eq] at h;obtain ⟨h1,h2,h3,h4⟩:=h;split at h4
    ·rename_i a b
     simp only [Bool.and_eq_true] at h4;obtain ⟨x,x1,x2,x3⟩:=SV d a.f0 a.f1 a.f2 h4.1;obtain ⟨y,y1,y2,y3⟩:=SV d b.f0 b.f1 b.f2 h4.2;exact ⟨.bin op x y,⟨⟨h1,h2⟩,x1,y1⟩,by simp only [X.depth];omega,by rw [emb,x3,y3,h3,aBb,aBb]⟩
    ·cases h4
theorem aBz:∀ (x:X) (d:Nat),x.ok→(vx d (emb x).f0 (emb x).f1 (emb x).f2=decide (x.depth≤d))
 |x,0,_=>by
  have:=X.SG x;rw [dF (by omega)];rfl
 | .num n,d + 1,h=>by
  have h:0≤n∧n≤99999:=h;simp [vx,emb,X.depth,h.1,h.2]
 | .var v,d + 1,h=>by
  have h:0≤v∧v < 4:=h;simp [vx,emb,X.depth,h.1,h.2]
 | .bin op a b,d + 1,h=>by
  have h1:=h.1;have ha:=aBz a d h.2.1;have hb:=aBz b d h.2.2;have e0:¬ (op=0):=by omega
  have j3:¬ (op=13):=by omega
  have e:(X.bin op a b).depth=max a.depth b.depth + 1:=rfl;show (if op=0 then _ else if op=13 then _ else decide (1≤op) && (decide (op≤12) && (true && (vx d (emb a).f0 (emb a).f1 (emb a).f2 && vx d (emb b).f0 (emb b).f1 (emb b).f2))))=_
  rw [if_neg e0,if_neg j3,dT h1.1,dT h1.2,ha,hb,e,Bool.true_and,Bool.true_and,Bool.true_and,Bool.eq_iff_iff];simp only [Bool.and_eq_true,decide_eq_true_eq];omega
theorem oH (a:Int):iE.f a=some (decide (1≤a) && decide (a≤12)):=by
 unfold iE.f;by_cases h:a≥1;·rw [if_pos h,dT h,Bool.true_and]
 ·rw [if_neg h,dF h,Bool.false_and]
theorem KS (a:Int):iL.f a=some (decide (1≤a) && decide (a≤12)):=by
 unfold iL.f;rw [xJ];rfl
theorem sP:∀ (d:Nat) (op n:Int) (l:List S56),d≤1000→EvP (fun k=>fF.f k op n l (d:Int)) (·=vx d op n l)
  |0,op,n,l,hd=>by
    refine EvP.step (fun k=>fF.f.eq_2 (k:=k) ..) ?_;refine EvP.ite (fun h=>?_) (fun h=>?_);· refine EvP.ite (fun _=>EvP.ite (fun _=>EvP.ite (fun _=>EvP.ret ?_) (fun _=>EvP.ret ?_)) (fun _=>EvP.ret ?_)) (fun _=>EvP.ret ?_) <;> simp [vx]
    · refine EvP.ite (fun h=>?_) (fun h=>?_)
      · refine EvP.ite (fun _=>EvP.ite (fun _=>EvP.ite (fun _=>EvP.ret ?_) (fun _=>EvP.ret ?_)) (fun _=>EvP.ret ?_)) (fun _=>EvP.ret ?_) <;> simp [vx]
      · refine EvP.fQ (oH op) (EvP.ite (fun _=>EvP.ite (fun _=>EvP.ite (fun _=>EvP.no (by omega) (EvP.ret ?_)) (fun _=>EvP.ret ?_)) (fun _=>EvP.ret ?_)) (fun _=>EvP.ret ?_)) <;> simp [vx]
  |d + 1,op,n,l,hd=>by
    refine EvP.step (fun k=>fF.f.eq_2 (k:=k) ..) ?_;unfold vx;refine EvP.ite (fun h=>?_) (fun h=>?_)
    · rw [if_pos h]
      refine EvP.ite (fun h1=>EvP.ite (fun h2=>EvP.ite (fun h3=>EvP.ret ?_) (fun h3=>EvP.ret ?_)) (fun h2=>EvP.ret ?_)) (fun h1=>EvP.ret ?_)
      · rw [dT (show 0≤n from h1),dT h2,dT (show l.length=0 by omega)]
        simp
      · rw [dF (p:=l.length=0) (by omega)]
        simp
      · rw [dF h2]
        simp
      · rw [dF (p:=0≤n) h1]
        simp
    · rw [if_neg h]
      refine EvP.ite (fun h=>?_) (fun j3=>?_)
      · rw [if_pos h]
        refine EvP.ite (fun h1=>EvP.ite (fun h2=>EvP.ite (fun h3=>EvP.ret ?_) (fun h3=>EvP.ret ?_)) (fun h2=>EvP.ret ?_)) (fun h1=>EvP.ret ?_)
        · rw [dT (show 0≤n from h1),dT h2,dT (show l.length=0 by omega)]
          simp
        · rw [dF (p:=l.length=0) (by omega)]
          simp
        · rw [dF h2]
          simp
        · rw [dF (p:=0≤n) h1]
          simp
      · rw [if_neg j3]
        refine EvP.fQ (oH op) (EvP.ite (fun h1=>?_) (fun h1=>EvP.ret ?_))
        · simp only [Bool.and_eq_true,decide_eq_true_eq] at h1
          rw [dT h1.1,dT h1.2];refine EvP.ite (fun h2=>?_) (fun h2=>EvP.ret (by rw [dF h2];rfl));rw [dT h2];refine EvP.ite (fun h3=>?_) (fun h3=>EvP.ret ?_)
          · obtain ⟨a,b,rfl⟩:=GQ (show l.length=2 by omega)
            refine EvP.ite (fun h4=>?_) (fun h4=>EvP.ret ?_)
            · rw [w64 (by omega) (by omega),show ((d + 1:Nat):Int) - 1=(d:Int) by omega,aIw,aIx]
              refine EvP.yes (by simp) (EvP.dO (sP d _ _ _ (by omega)) (EvP.ite (fun h5=>?_) (fun h5=>EvP.ret ?_)))
              · refine EvP.yes (by simp) (EvP.dO (sP d _ _ _ (by omega)) (EvP.ret ?_))
                simp [h5]
              · simp [h5]
            · have hd0:d=0:=by omega
              subst hd0;rfl
          · split
            · simp at h3
            · rfl
        · symm
          rw [Bool.eq_false_iff];intro e;simp only [Bool.and_eq_true,decide_eq_true_eq] at e h1;exact h1 ⟨e.1,e.2.1⟩
theorem xM:∀ (d:Nat) (op n:Int) (l:List S56),d≤1000→EvP (fun k=>iP.f k op n l (d:Int)) (·=vx d op n l)
  |0,op,n,l,hd=>EvP.step (fun k=>iP.f.eq_2 (k:=k) ..) (EvP.yes (by omega) (EvP.ret rfl))
  |d + 1,op,n,l,hd=>by
    have hlen:((l.length:Int) == 0)=decide (l.length=0):=by
      rw [Bool.eq_iff_iff,beq_iff_eq,decide_eq_true_eq];omega
    refine EvP.step (fun k=>iP.f.eq_2 (k:=k) ..) (EvP.no (by omega) ?_);unfold vx;refine EvP.ite (fun h=>?_) (fun h=>?_)
    · rw [if_pos h,xJ]
      refine EvP.fQ rfl (EvP.ite (fun h1=>EvP.ret ?_) (fun h1=>EvP.ret ?_))
      · rw [hlen]
        simp only [Bool.and_eq_true,decide_eq_true_eq] at h1;rw [dT h1.1,dT h1.2];rfl
      · rw [← Bool.and_assoc,Bool.eq_false_iff.mpr h1]
        rfl
    · rw [if_neg h]
      refine EvP.ite (fun h=>?_) (fun j3=>?_)
      · rw [if_pos h,xJ]
        have e3:decide (n < 4)=decide (n≤3):=decide_eq_decide.mpr (by omega);rw [e3];refine EvP.fQ rfl (EvP.ite (fun h1=>EvP.ret ?_) (fun h1=>EvP.ret ?_))
        · rw [hlen]
          simp only [Bool.and_eq_true,decide_eq_true_eq] at h1;rw [dT h1.1,dT h1.2];rfl
        · rw [← Bool.and_assoc,Bool.eq_false_iff.mpr h1]
          rfl
      · rw [if_neg j3]
        refine EvP.fQ (KS op) (EvP.ite (fun h1=>?_) (fun h1=>EvP.ret ?_))
        · simp only [Bool.and_eq_true,decide_eq_true_eq] at h1
          rw [dT h1.1,dT h1.2];refine EvP.ite (fun h2=>?_) (fun h2=>EvP.ret (by rw [dF h2];rfl));rw [dT h2];refine EvP.ite (fun h3=>?_) (fun h3=>EvP.ret ?_)
          · obtain ⟨a,b,rfl⟩:=GQ (show l.length=2 by omega)
            rw [w64 (by omega) (by omega),show ((d + 1:Nat):Int) - 1=(d:Int) by omega,aIw,aIx];refine EvP.yes (by simp) (EvP.dO (xM d _ _ _ (by omega)) (EvP.ite (fun h5=>?_) (fun h5=>EvP.ret ?_)))
            · refine EvP.yes (by simp) (EvP.dO (xM d _ _ _ (by omega)) (EvP.ret ?_))
              simp [h5]
            · simp [h5]
          · split
            · simp at h3
            · rfl
        · rw [← Bool.and_assoc,Bool.eq_false_iff.mpr h1]
          rfl
theorem oP (op n:Int) (l:List S56):EvP (fun k=>eZ.f k op n l) (·=vx 5 op n l):=by
  unfold eZ.f;exact EvP.dO (xM 5 op n l (by omega)) (EvP.ret rfl)
theorem EN (op n:Int) (l:List S56):EvP (fun k=>iO.f k op n l) (·=vx 5 op n l):=by
  unfold iO.f;exact EvP.dO (sP 5 op n l (by omega)) (EvP.ret rfl)
mutual
def cS:S58→Nat
 |⟨_,_,_,_,b,e⟩=>cSs b + cSs e
def cSs:List S58→Nat
 |[]=>0
 |x :: xs=>cS x + 1 + cSs xs
end
theorem RV (x:S58):cS x=cSs x.f4 + cSs x.f5:=by
 cases x;rw [cS]
theorem gK:∀ l:List S58,l.length≤cSs l
 |[]=>Nat.zero_le _
 |x :: xs=>by
  have:=gK xs;rw [cSs,List.length_cons];omega
theorem tH:∀ l m:List S58,cSs (l ++ m)=cSs l + cSs m
 |[],m=>by rw [cSs];simp
 |x :: xs,m=>by
  rw [List.cons_append,cSs,cSs,tH xs m];omega
theorem AP:∀ (l:List S58) (x:S58),x ∈ l→cS x < cSs l
 |y :: ys,x,h=>by
  rw [cSs];rcases List.mem_cons.1 h with rfl|h;·omega
  ·have:=AP ys x h;omega
theorem TN (l:List S58) (i:Nat) (h:i < l.length):cSs (l.drop i)=cS l[i] + 1 + cSs (l.drop (i + 1)):=by
 rw [List.drop_eq_getElem_cons h,cSs]
theorem aHt (x:S58):cSs [x]=cS x + 1:=by
 rw [cSs,cSs]
theorem tV:cSs []=0:=by rw [cSs]
theorem OA (l:List S58) (n:Nat):cSs (l.take n) + cSs (l.drop n)=cSs l:=by
 rw [← tH,List.take_append_drop]
theorem EX (l:List S58) (i:Nat) (h:i < l.length):aM l (i:Int)=l[i]:=by
 unfold aM;rw [Int.toNat_natCast,List.getD_eq_getElem?_getD,List.getElem?_eq_getElem h];rfl
def KO (use:Bool) (va:Int):Bool:=if use=true then decide (0≤va) && decide (va≤3) else va == 0
def yL (boxes:Int) (use:Bool) (bx:Int):Bool:=if use=true then decide (0≤bx) && decide (bx≤boxes - 1) else bx == 0
def oO (op n:Int) (la:List S56):Bool:=op == 0 && (n == 0 && la.length == 0)
def mJ (boxes:Int) (nv nb ne nd no:Bool) (va bx op n:Int) (la:List S56) (lb le:Nat):Bool:=
 KO nv va && (yL boxes nb bx && ((if ne=true then vx 5 op n la else oO op n la) && ((nd || lb == 0) && (no || le == 0))))
def xO (boxes kd va bx op n:Int) (la:List S56) (lb le:Nat):Bool:=
 if kd=1 then mJ boxes true false true false false va bx op n la lb le
 else if kd=2 then mJ boxes false false true true true va bx op n la lb le
 else if kd=3 then mJ boxes false false true true false va bx op n la lb le
 else if kd=4 then mJ boxes false true true false false va bx op n la lb le
 else if kd=5 then mJ boxes true true false false false va bx op n la lb le
 else if kd=7 then mJ boxes false false true false false va bx op n la lb le
 else if kd=6 then mJ boxes false false false false false va bx op n la lb le
 else false
def stS (boxes:Int) (s:S58):Bool:=xO boxes s.f0 s.f1 s.f2 s.f3.f0 s.f3.f1 s.f3.f2 s.f4.length s.f5.length
def pG (s:S58):Bool:=s.f0 == 2 || s.f0 == 3
def kC (boxes:Int):Nat→S58→Bool
 |0,s=>stS boxes s && !pG s
 |d + 1,s=>stS boxes s && (!pG s || (s.f4.all (kC boxes d) && s.f5.all (kC boxes d)))
def okL (boxes:Int) (d:Nat) (l:List S58):Bool:=l.all (kC boxes d)
theorem aGi {boxes:Int} {d:Nat} {s:S58} (h:kC boxes d s=true):stS boxes s=true:=by
 cases d <;> (simp only [kC,Bool.and_eq_true] at h;exact h.1)
theorem GJ {boxes kd va bx op n:Int} {la:List S56} {lb le:Nat} (h:xO boxes kd va bx op n la lb le=true) (h2:kd≠2) (h3:kd≠3):lb=0∧le=0:=by
 unfold xO at h;rw [if_neg h2,if_neg h3] at h
 repeat' split at h
 all_goals first
  |(cases h;done)
  |(simp only [mJ,Bool.and_eq_true,Bool.false_or,beq_iff_eq] at h;exact h.2.2.2)
theorem LC {boxes:Int} {s:S58} (h:stS boxes s=true) (h2:¬ (s.f0=2∨s.f0=3)):cS s=0:=by
 obtain ⟨h4,h5⟩:=GJ h (fun e=>h2 (.inl e)) (fun e=>h2 (.inr e));rw [RV,List.eq_nil_of_length_eq_zero h4,List.eq_nil_of_length_eq_zero h5,cSs]
theorem pR (s:S58):pG s=true ↔ s.f0=2∨s.f0=3:=by
 unfold pG;simp
theorem aHx (use:Bool) (va:Int):inr va 4 use=KO use va:=by
 rw [Bool.eq_iff_iff];cases use;·simp [inr,KO]
 ·simp [inr,KO];omega
theorem aAh (nv nb ne nd no:Bool) (va bx op n:Int) (la:List S56) (lb le:Nat) (boxes:Int):
    EvP (fun k=>mO k nv nb ne nd no va bx op n la lb le boxes) (·=mJ boxes nv nb ne nd no va bx op n la lb le):=by
  unfold mO mJ;rw [aHx];refine EvP.ite (fun h1=>?_) (fun h1=>EvP.ret (by rw [Bool.eq_false_iff.mpr h1];rfl));rw [h1,Bool.true_and];have hb:(inr bx boxes nb=true∧¬ (nb=true∧boxes≤bx)) ↔ yL boxes nb bx=true:=by
    cases nb;· simp [inr,yL]
    · simp [inr,yL]
      omega
  refine EvP.ite (fun h2=>EvP.ite (fun h3=>EvP.ret ?_) (fun h3=>?_)) (fun h2=>EvP.ret ?_)
  · have:yL boxes nb bx=false:=Bool.eq_false_iff.mpr (fun e=>(hb.mpr e).2 h3)
    rw [this];rfl
  · rw [hb.mp ⟨h2,h3⟩,Bool.true_and]
    refine EvP.ite (fun h4=>?_) (fun h4=>?_)
    · rw [if_pos h4]
      refine EvP.dO (EN op n la) (EvP.ite (fun h5=>EvP.ret (by rw [h5,Bool.true_and])) (fun h5=>EvP.ret (by rw [Bool.eq_false_iff.mpr h5];rfl)))
    · rw [if_neg h4]
      unfold oO;refine EvP.ite (fun h5=>EvP.ite (fun h6=>EvP.ite (fun h7=>EvP.ret ?_) (fun h7=>EvP.ret ?_)) (fun h6=>EvP.ret ?_)) (fun h5=>EvP.ret ?_)
      · rw [bE (show la.length≠0 by omega)]
        simp
      · rw [h5,h6,beq_iff_eq.mpr (show la.length=0 by omega)]
        simp
      · rw [bE h6]
        simp
      · rw [bE h5]
        simp
  · have:yL boxes nb bx=false:=Bool.eq_false_iff.mpr (fun e=>h2 (hb.mpr e).1)
    rw [this];rfl
theorem EO (kd va bx op n:Int) (la:List S56) (lb le:Nat) (boxes:Int):
    EvP (fun k=>fU.f k kd va bx op n la lb le boxes) (·=xO boxes kd va bx op n la lb le):=by
  unfold fU.f xO;have hr:=fun nv nb ne nd no=>aAh nv nb ne nd no va bx op n la lb le boxes
  repeat (refine EvP.ite (fun h=>?_) (fun h=>?_);· rw [if_pos h];exact hr _ _ _ _ _
          rw [if_neg h])
  exact EvP.ret rfl
def aCb (boxes:Int) (d:Nat) (l:List S58) (cnt:Int) (p:Bool × Int):Prop:=
 p.1=(okL boxes d l && decide (cnt + cSs l≤16))∧(p.1=true→p.2=cnt + cSs l)
theorem BR (boxes blocks:Int) (d:Nat) (hd:d≤3) (hb:blocks=3 - d) (l:List S58) (hl:cSs l≤1000000000)
  (sub:∀ d',d=d' + 1→∀ (m:List S58) (cnt:Int),cSs m≤1000000000→0≤cnt→cnt≤16→EvP (fun k=>cZ.f k m boxes (wrap64 (blocks + 1)) cnt) (aCb boxes d' m cnt)):
  ∀ (r j:Nat) (cnt:Int),j + r=l.length→0≤cnt→cnt≤16→
   EvP (fun k=>cZ.l0 k l boxes blocks (j:Int) cnt) (fun p=>p.1=(okL boxes d (l.drop j) && decide (cnt + cSs (l.drop j) - r≤16))∧(p.1=true→p.2=cnt + cSs (l.drop j) - r)):=by
 intro r;have hlen:=gK l;induction r with
 |zero=>
  intro j cnt hj h0 h1;refine EvP.step (fun k=>cZ.l0.eq_2 (k:=k) ..) (EvP.no (by omega) (EvP.ret ?_));rw [List.drop_eq_nil_of_le (by omega),tV];constructor
  ·simp [okL];omega
  ·intro _;simp
 |succ r ih=>
  intro j cnt hj h0 h1;have hlt:j < l.length:=by omega
  have hc:=TN l j hlt;have hr:r≤cSs (l.drop (j + 1)):=by
   have:=gK (l.drop (j + 1));rw [List.length_drop] at this;omega
  have hm:=AP l _ (List.getElem_mem hlt);have hcs:=RV l[j];have hall:okL boxes d (l.drop j)=(kC boxes d l[j] && okL boxes d (l.drop (j + 1))):=by
   rw [List.drop_eq_getElem_cons hlt];rfl
  rw [hall];refine EvP.step (fun k=>cZ.l0.eq_2 (k:=k) ..) (EvP.yes (by omega) (EvP.yes (by omega) ?_));rw [EX l j hlt,w64 (n:=(j:Int) + 1) (by omega) (by omega)];refine EvP.dO (EO _ _ _ _ _ _ _ _ _) (EvP.ite (fun hs=>?_) (fun hs=>EvP.ret ?_))
  ·have hs:stS boxes l[j]=true:=hs;refine EvP.no (by omega) (EvP.ite (fun hk=>?_) (fun hk=>?_))
   ·have hbk:pG l[j]=true:=(pR _).mpr hk;cases d with
    |zero=>
     refine EvP.yes (by omega) (EvP.ret ?_);have:kC boxes 0 l[j]=false:=by simp [kC,hbk]
     rw [this];exact ⟨rfl,fun h=>by cases h⟩
    |succ d'=>
     have ho:kC boxes (d' + 1) l[j]=(okL boxes d' l[j].f4 && okL boxes d' l[j].f5):=by
      simp only [kC,hs,hbk,okL];rfl
     rw [ho];refine EvP.no (by omega) (EvP.bind (sub d' rfl _ cnt (by omega) h0 h1) fun p hp=>?_);obtain ⟨hp1,hp2⟩:=hp;refine EvP.ite (fun hy=>?_) (fun hy=>EvP.ret ?_)
     ·have e2:=hp2 hy;rw [hy] at hp1;have hq:=hp1.symm;rw [Bool.and_eq_true,decide_eq_true_eq] at hq;rw [e2];refine EvP.bind (sub d' rfl _ _ (by omega) (by omega) hq.2) fun q hq'=>?_
      obtain ⟨hq1,hq2⟩:=hq';refine EvP.ite (fun hz=>?_) (fun hz=>EvP.ret ?_)
      ·have e3:=hq2 hz;rw [hz] at hq1;have hq3:=hq1.symm;rw [Bool.and_eq_true,decide_eq_true_eq] at hq3;rw [e3];refine (ih (j + 1) _ (by omega) (by omega) hq3.2).mono fun a ha=>?_
       rw [hq.1,hq3.1,Bool.true_and,Bool.true_and];refine ⟨ha.1.trans ?_,fun h=>(ha.2 h).trans ?_⟩
       ·congr 1
        exact decide_eq_decide.mpr (by omega)
       ·omega
      ·have hz':=Bool.eq_false_iff.mpr hz;rw [hz'] at hq1;refine ⟨?_,fun h=>by cases h⟩;show false=_
       symm
       rw [Bool.eq_false_iff];intro e;simp only [Bool.and_eq_true,decide_eq_true_eq] at e;have:(okL boxes d' l[j].f5 && decide (cnt + ↑(cSs l[j].f4) + ↑(cSs l[j].f5)≤16))=true:=by
        rw [e.1.1.2,dT (by omega)];rfl
       rw [this] at hq1;cases hq1
     ·have hy':=Bool.eq_false_iff.mpr hy;rw [hy'] at hp1;refine ⟨?_,fun h=>by cases h⟩;show false=_
      symm
      rw [Bool.eq_false_iff];intro e;simp only [Bool.and_eq_true,decide_eq_true_eq] at e;have:(okL boxes d' l[j].f4 && decide (cnt + ↑(cSs l[j].f4)≤16))=true:=by
       rw [e.1.1.1,dT (by omega)];rfl
      rw [this] at hp1;cases hp1
   ·have hbk:pG l[j]=false:=Bool.eq_false_iff.mpr (fun e=>hk ((pR _).mp e));have ho:kC boxes d l[j]=true:=by
     cases d <;> simp [kC,hs,hbk]
    have hz:=LC hs hk;rw [ho,Bool.true_and];refine (ih (j + 1) cnt (by omega) h0 h1).mono fun a ha=>?_
    refine ⟨ha.1.trans ?_,fun h=>(ha.2 h).trans ?_⟩
    ·congr 1
     exact decide_eq_decide.mpr (by omega)
    ·omega
  ·have hs:stS boxes l[j]=false:=Bool.eq_false_iff.mpr hs;have ho:kC boxes d l[j]=false:=Bool.eq_false_iff.mpr (fun e=>by rw [aGi e] at hs;cases hs);rw [ho];exact ⟨rfl,fun h=>by cases h⟩
theorem CX (boxes:Int):∀ (d:Nat) (blocks:Int) (l:List S58) (cnt:Int),d≤3→blocks=3 - d→cSs l≤1000000000→0≤cnt→cnt≤16→
  EvP (fun k=>cZ.f k l boxes blocks cnt) (aCb boxes d l cnt):=by
 intro d;induction d with
 |zero=>
  intro blocks l cnt hd hb hl h0 h1;have hlen:=gK l;refine EvP.step (fun k=>cZ.f.eq_2 (k:=k) ..) ?_;rw [w64 (n:=cnt + (l.length:Int)) (by omega) (by omega)];refine EvP.ite (fun h=>EvP.ret ?_) (fun h=>?_)
  ·refine ⟨?_,fun h=>by cases h⟩;rw [dF (by omega)];simp
  ·refine (BR boxes blocks 0 hd hb l hl (fun d' e=>by omega) l.length 0 _ (by omega) (by omega) (by omega)).mono fun a ha=>?_
   rw [List.drop_zero] at ha;refine ⟨ha.1.trans ?_,fun h=>(ha.2 h).trans ?_⟩
   ·congr 1
    exact decide_eq_decide.mpr (by omega)
   ·omega
 |succ d ih=>
  intro blocks l cnt hd hb hl h0 h1;have hlen:=gK l;refine EvP.step (fun k=>cZ.f.eq_2 (k:=k) ..) ?_;rw [w64 (n:=cnt + (l.length:Int)) (by omega) (by omega)];refine EvP.ite (fun h=>EvP.ret ?_) (fun h=>?_)
  ·refine ⟨?_,fun h=>by cases h⟩;rw [dF (by omega)];simp
  ·refine (BR boxes blocks (d + 1) hd hb l hl (fun d' e m cnt hm h0 h1=>?_) l.length 0 _ (by omega) (by omega) (by omega)).mono fun a ha=>?_
   ·have e':d=d':=by omega
    subst e';rw [w64 (by omega) (by omega)];exact ih _ m cnt (by omega) (by omega) hm h0 h1
   ·rw [List.drop_zero] at ha;refine ⟨ha.1.trans ?_,fun h=>(ha.2 h).trans ?_⟩
    ·congr 1
     exact decide_eq_decide.mpr (by omega)
    ·omega
def okT (boxes:Int) (l:List S58):Bool:=okL boxes 3 l && decide (cSs l≤16)
theorem CZ (boxes:Int) (l:List S58) (hl:cSs l≤1000000000):EvP (fun k=>gL.f k l boxes) (·=okT boxes l):=by
  unfold gL.f;refine EvP.bind (CX boxes 3 0 l 0 (by omega) (by omega) hl (by omega) (by omega)) fun p hp=>EvP.ret ?_
  rw [hp.1];unfold okT;congr 1
  exact decide_eq_decide.mpr (by omega)
end Go.Proofs.YtjamfkpgmkhbnaaGreatDoor.PA

