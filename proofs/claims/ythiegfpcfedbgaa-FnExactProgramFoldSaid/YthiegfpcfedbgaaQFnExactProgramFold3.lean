/- Part 4. -/
import Derived.Test.YthiegfpcfedbgaaQFnExactProgramFold2
import Derived.Laws.BitsLemmas
set_option maxHeartbeats 8000000
set_option maxRecDepth 100000
namespace Go.Proofs.Ythiegfpcfedbgaa.PA
open Go.RowKit Go.Proofs.YthiegfpcfedbgaaW.PrintWords Go.Proofs.YthiegfpcfedbgaaW.PrintLast Go.Proofs.YthiegfpcfedbgaaW.PrintMore
attribute [local go_sem] max2_int min2_int max_two min_two max_three min_three max_four min_four
set_option linter.unusedVariables false
set_option linter.unusedSimpArgs false
theorem bK.step (k:Nat) (ih_spec_l11Ok:∀ m,m < k→bK.bY m) (ih_spec_l11Blocks:∀ m,m < k→bE.bY m):bK.bY k:=by
 intro j4 ja jb j5 j6 ji jj j7 jk jl j8 jm jn j9 a1 r w hr0_5 hc0_5 hr0_6 hc0_6 hr0_7 hc0_7 h
 cases k with
 |zero=>exact absurd h (by simp [bK.f])
 |succ k=>
 simp only [bK.f] at h
 have hu70:=Try.underlying70
 have hu28:=Try.underlying28
 have jc:=am hr0_5
 have jd:=am hc0_5
 clear hr0_5 hc0_5
 have je:=am hr0_6
 have jf:=am hc0_6
 clear hr0_6 hc0_6
 have jg:=am hr0_7
 have jh:=am hc0_7
 clear hr0_7 hc0_7
 have HB:=am (Below.refl w.heap.size w)
 have H:=h
 clear h
 have Zk:=am H
 clear H
 go_enter Try.func80,Try.ntmps80
 go_upto_region 1 with (first|((with_reducible refine bJ (N:=2) rfl ?_);(try (refine lW (by rfl) ?_;dsimp only));refine bR rfl (N:=2) rfl (cs:=#[.int .i64 j4, .int .i64 ja, .int .i64 jb, .int .i64 j5, .int .i64 j6, .slice ji j7.length jj, .slice jk j8.length jl, .slice jm j9.length jn]) (t:=70) rn_ ?_;intro jt hg w4 hbox hb;have j3:=am (hbox);have Y0:=am ((by rw [hg];exact (aN dN):w.heap.size≤jt));have GE57:=am ((by rw [hg];exact (aN dN):w.heap.size≤jt));replace HB:=am (aC dN hb);clear hb hbox hg))
 (try simp only [Act.put,List.setIfInBounds_toArray,List.set_cons_zero,List.set_cons_succ])
 go_cut [12] (fun Y1 wc=>∃ (kq:Nat) (jq:Bool),Y1= .bool jq∧Aside0 (bK.j0 kq a1 jq j4 ja jb j5 j6 j7 j8 j9=some r)∧Aside0 (kq≤k)∧Aside0 (wc.heap[jt]?=some (.cells #[.int .i64 j4, .int .i64 ja, .int .i64 jb, .int .i64 j5, .int .i64 j6,(.slice ji j7.length jj),(.slice jk j8.length jl),(.slice jm j9.length jn)] 70 (0,0)))∧Aside0 (Below w.heap.size w wc))
 case first=>
  have H:=Zk.out
  clear Zk
  by_cases c5:j4=2
  ·rw [if_pos c5] at H
   have js:(j4 == 2)=true:=beq_iff_eq.mpr c5
   have Zl:(j4 != 2)=false:=bne_eq_false_iff_eq.mpr c5
   clear c5
   (first|rw [js]|(simp only [gT,gZ];rw [js])|skip)
   have H':=am H
   clear H
   obtain ⟨Zm,Zn,Zo,Zp,Zq,Zr,Zs,Zt,Zu,Zv,Zw,Zx,Zy,Zz,ZA,ZB⟩:=eF j3.out
   go_wp2
   go_meet
   case rel=>exact ⟨_,(false),sd_,H',⟨by first|omega|exact Nat.le_refl _⟩,⟨by (with_reducible repeat (first|refine gK ?_ _|refine eH ?_|refine fH ?_ _));exact j3.out⟩,⟨kJ⟩⟩
  rw [if_neg c5] at H
  have js:(j4 == 2)=false:=beq_eq_false_iff_ne.mpr c5
  have Zl:(j4 != 2)=true:=bne_iff_ne.mpr c5
  (first|rw [js]|(simp only [gT,gZ];rw [js])|skip)
  have H':=am H
  clear H
  obtain ⟨ZC,ZD,ZE,ZF,ZG,ZH,ZI,ZJ,ZK,ZL,ZM,ZN,ZO,ZP,ZQ,ZR⟩:=eF j3.out
  go_wp2
  go_meet
  case rel=>exact ⟨_,((j4 != 3)),sd_,H',⟨by first|omega|exact Nat.le_refl _⟩,⟨by (with_reducible repeat (first|refine gK ?_ _|refine eH ?_|refine fH ?_ _));exact j3.out⟩,⟨kJ⟩⟩
 case rest=>
  clear Zk
  obtain ⟨kq,jq,rfl,HA,HJ2,j3,HB⟩:=hcut
  cases kq with
  |zero=>exact absurd HA.out (by simp [bK.j0])
  |succ ZT=>
   have H:=HA.out
   clear HA
   simp only [bK.j0] at H
   by_cases c8:jq=true
   ·subst c8
    rw [if_pos rfl] at H
    obtain ⟨Y2,A9,H⟩:=bsa H
    (try dsimp only at H)
    obtain rfl:=Option.some.inj H
    obtain ⟨jA,jB,jC,jD,jE,jF,jG,jH,jI,jJ,jK,jL,jM,jN,jO,jP⟩:=eF j3.out
    go_wp2_with (first|((with_reducible refine aD (f:=82) rfl ?_);refine aU (some 14) rfl rfl Try.func82 (by kernel_rfl) rfl #[.agg #[.int .i64 j4, .int .i64 ja, .int .i64 jb, .int .i64 j5, .int .i64 j6, .slice ji j7.length jj, .slice jk j8.length jl, .slice jm j9.length jn]] rfl dK ?_;(with_reducible refine (bZ.calls ZT j4 ja jb j5 j6 _ _ j7 _ _ j8 _ _ j9 Y2 _ (aC_ (Kd.aI jc.out HB.out)) jd.out (aC_ (Kd.aI je.out HB.out)) jf.out (aC_ (Kd.aI jg.out HB.out)) jh.out A9.out).mono ?_);rintro e Ya ⟨rfl,hb⟩;refine ⟨_,rfl,?_⟩;replace j3:=bbP j3 hb;replace HB:=am (aC kJ hb);(try clear hb)))
    go_ret
    exact ⟨rr_,kJ⟩
   replace c8:=Bool.eq_false_iff.mpr c8
   subst c8
   rw [if_neg (show ¬ (false=true) by decide)] at H
   have ju:=am H
   clear H
   go_upto_region 3 with (fail)
   go_cut [27] (fun Y3 wc=>∃ (kq:Nat) (jo:Bool),Y3= .bool jo∧Aside0 (bK.j1 kq a1 jo j4 ja jb j5 j6 j7 j8 j9=some r)∧Aside0 (kq≤ZT)∧Aside0 (wc.heap[jt]?=some (.cells #[.int .i64 j4, .int .i64 ja, .int .i64 jb, .int .i64 j5, .int .i64 j6,(.slice ji j7.length jj),(.slice jk j8.length jl),(.slice jm j9.length jn)] 70 (0,0)))∧Aside0 (Below w.heap.size w wc))
   case first=>
    have H:=ju.out
    clear ju
    by_cases jw:a1 < 1
    ·rw [if_pos jw] at H
     have jp:decide (a1 < 1)=true:=decide_eq_true jw
     clear jw
     (first|rw [jp]|(simp only [gT,gZ];rw [jp])|skip)
     have H':=am H
     clear H
     go_wp2
     go_meet
     case rel=>exact ⟨_,(true),sd_,H',⟨by have:=HJ2.out;first|omega|exact Nat.le_refl _⟩,⟨by (with_reducible repeat (first|refine gK ?_ _|refine eH ?_|refine fH ?_ _));exact j3.out⟩,⟨kJ⟩⟩
    rw [if_neg jw] at H
    have jp:decide (a1 < 1)=false:=decide_eq_false jw
    clear jw
    (first|rw [jp]|(simp only [gT,gZ];rw [jp])|skip)
    by_cases jv:j4=3
    ·rw [if_pos jv] at H
     have jx:(j4 == 3)=true:=beq_iff_eq.mpr jv
     have jy:(j4 != 3)=false:=bne_eq_false_iff_eq.mpr jv
     clear jv
     have H':=am H
     clear H
     obtain ⟨jQ,jR,jS,jT,jU,jV,jW,jX,jY,jZ,q0,q1,q2,q3,q4,q5⟩:=eF j3.out
     go_wp2
     go_meet
     case rel=>exact ⟨_,(decide ((j9.length:Int) > 0)),sd_,H',⟨by have:=HJ2.out;first|omega|exact Nat.le_refl _⟩,⟨by (with_reducible repeat (first|refine gK ?_ _|refine eH ?_|refine fH ?_ _));exact j3.out⟩,⟨kJ⟩⟩
    rw [if_neg jv] at H
    have jx:(j4 == 3)=false:=beq_eq_false_iff_ne.mpr jv
    have jy:(j4 != 3)=true:=bne_iff_ne.mpr jv
    have H':=am H
    clear H
    obtain ⟨q6,q7,q8,q9,qa,qb,qc,qd,qe,qf,qg,qh,qi,qj,qk,ql⟩:=eF j3.out
    go_wp2
    go_meet
    case rel=>exact ⟨_,(false),sd_,H',⟨by have:=HJ2.out;first|omega|exact Nat.le_refl _⟩,⟨by (with_reducible repeat (first|refine gK ?_ _|refine eH ?_|refine fH ?_ _));exact j3.out⟩,⟨kJ⟩⟩
   case rest=>
    clear ju
    try clear c8
    obtain ⟨kq,jo,rfl,HA,HJ11,j3,HB⟩:=hcut
    cases kq with
    |zero=>exact absurd HA.out (by simp [bK.j1])
    |succ jr=>
     have H:=HA.out
     clear HA
     simp only [bK.j1] at H
     by_cases qm:jo=true
     ·subst qm
      rw [if_pos rfl] at H
      obtain rfl:=Option.some.inj H
      go_wp2
      go_ret
      exact ⟨rr_,kJ⟩
     replace qm:=Bool.eq_false_iff.mpr qm
     subst qm
     rw [if_neg (show ¬ (false=true) by decide)] at H
     obtain ⟨Y4,ZU,H⟩:=bsm H
     (try dsimp only at H)
     have jz:=am ZU
     clear ZU
     by_cases qn:Y4=true
     ·subst qn
      rw [if_pos rfl] at H
      obtain ⟨Y5,ZV,H⟩:=bsm H
      (try dsimp only at H)
      have qo:=am ZV
      clear ZV
      by_cases qp:Y5=true
      ·subst qp
       rw [if_pos rfl] at H
       obtain ⟨Y6,ZW,H⟩:=bsm H
       (try dsimp only at H)
       have ZS:=am ZW
       clear ZW
       by_cases qq:Y6=true
       ·subst qq
        rw [if_pos rfl] at H
        obtain ⟨Y7,ZX,H⟩:=bsm H
        (try dsimp only at H)
        have ZY:=am ZX
        clear ZX
        by_cases qr:Y7=true
        ·subst qr
         rw [if_pos rfl] at H
         obtain ⟨Y8,ZZ,H⟩:=bsm H
         (try dsimp only at H)
         have Y9:=am ZZ
         clear ZZ
         obtain rfl:=Option.some.inj H
         obtain ⟨qs,qt,qu,qv,qw,qx,qy,qz,qA,qB,qC,qD,qE,qF,qG,qH⟩:=eF j3.out
         go_wp2_with (first|((with_reducible refine aD (f:=83) rfl ?_);refine aU (some 29) rfl rfl Try.func83 (by kernel_rfl) rfl #[.agg #[.int .i64 j4, .int .i64 ja, .int .i64 jb, .int .i64 j5, .int .i64 j6, .slice ji j7.length jj, .slice jk j8.length jl, .slice jm j9.length jn], .bool false] rfl dK ?_;(with_reducible refine (dW.calls j4 ja jb j5 j6 _ _ j7 _ _ j8 _ _ j9 false true _ (aC_ (Kd.aI jc.out HB.out)) jd.out (aC_ (Kd.aI je.out HB.out)) jf.out (aC_ (Kd.aI jg.out HB.out)) jh.out jz.out).mono ?_);rintro e Yb ⟨rfl,hb⟩;refine ⟨_,rfl,?_⟩;replace j3:=bbP j3 hb;replace HB:=am (aC kJ hb);(try clear hb);obtain ⟨qI,qJ,qK,qL,qM,qN,qO,qP,qQ,qR,qS,qT,qU,qV,qW,qX⟩:=eF j3.out)|(go_at_call 84;(with_reducible refine (eU.calls j4 ja jb j5 j6 _ _ j7 _ _ j8 _ _ j9 false true _ (aC_ (Kd.aI jc.out HB.out)) jd.out (aC_ (Kd.aI je.out HB.out)) jf.out (aC_ (Kd.aI jg.out HB.out)) jh.out qo.out).mono ?_);rintro e Yc ⟨rfl,hb⟩;replace j3:=bbP j3 hb;replace HB:=am (aC kJ hb);(try clear hb);obtain ⟨qY,qZ,z0,z1,z2,z3,z4,z5,z6,z7,z8,z9,za,zb,zc,zd⟩:=eF j3.out)|(go_at_call 28;(with_reducible refine (dG.calls jr j5 j6 _ _ j7 true _ (aC_ (Kd.aI jc.out HB.out)) jd.out ZS.out).mono ?_);rintro e Yd ⟨rfl,hb⟩;replace j3:=bbP j3 hb;replace HB:=am (aC kJ hb);(try clear hb);obtain ⟨ze,zf,zg,zh,zi,zj,zk,zl,zm,zn,zo,zp,zq,zr,zs,zt⟩:=eF j3.out)|(go_at_call 63;(with_reducible refine (ih_spec_l11Blocks jr (by have:=HJ2.out;have:=HJ11.out;omega) _ _ j8 (wrap64 (a1 - 1)) true _ (aC_ (Kd.aI je.out HB.out)) jf.out ZY.out).mono ?_);rintro e Ye ⟨rfl,hb⟩;replace j3:=bbP j3 hb;replace HB:=am (aC kJ hb);(try clear hb);obtain ⟨zu,zv,zw,zx,zy,zz,zA,zB,zC,zD,zE,zF,zG,zH,zI,zJ⟩:=eF j3.out)|(go_at_call 63;(with_reducible refine (ih_spec_l11Blocks jr (by have:=HJ2.out;have:=HJ11.out;omega) _ _ j9 (wrap64 (a1 - 1)) Y8 _ (aC_ (Kd.aI jg.out HB.out)) jh.out Y9.out).mono ?_);rintro e Yf ⟨rfl,hb⟩;replace j3:=bbP j3 hb;replace HB:=am (aC kJ hb);(try clear hb)))
         go_ret
         exact ⟨rr_,kJ⟩
        replace qr:=Bool.eq_false_iff.mpr qr
        subst qr
        rw [if_neg (show ¬ (false=true) by decide)] at H
        obtain rfl:=Option.some.inj H
        obtain ⟨zK,zL,zM,zN,zO,zP,zQ,zR,zS,zT,zU,zV,zW,zX,zY,zZ⟩:=eF j3.out
        go_wp2_with (first|((with_reducible refine aD (f:=83) rfl ?_);refine aU (some 29) rfl rfl Try.func83 (by kernel_rfl) rfl #[.agg #[.int .i64 j4, .int .i64 ja, .int .i64 jb, .int .i64 j5, .int .i64 j6, .slice ji j7.length jj, .slice jk j8.length jl, .slice jm j9.length jn], .bool false] rfl dK ?_;(with_reducible refine (dW.calls j4 ja jb j5 j6 _ _ j7 _ _ j8 _ _ j9 false true _ (aC_ (Kd.aI jc.out HB.out)) jd.out (aC_ (Kd.aI je.out HB.out)) jf.out (aC_ (Kd.aI jg.out HB.out)) jh.out jz.out).mono ?_);rintro e Yg ⟨rfl,hb⟩;refine ⟨_,rfl,?_⟩;replace j3:=bbP j3 hb;replace HB:=am (aC kJ hb);(try clear hb);obtain ⟨J0,J1,J2,J3,J4,J5,J6,J7,J8,J9,Ja,Jb,Jc,Jd,Je,Jf⟩:=eF j3.out)|(go_at_call 84;(with_reducible refine (eU.calls j4 ja jb j5 j6 _ _ j7 _ _ j8 _ _ j9 false true _ (aC_ (Kd.aI jc.out HB.out)) jd.out (aC_ (Kd.aI je.out HB.out)) jf.out (aC_ (Kd.aI jg.out HB.out)) jh.out qo.out).mono ?_);rintro e Yh ⟨rfl,hb⟩;replace j3:=bbP j3 hb;replace HB:=am (aC kJ hb);(try clear hb);obtain ⟨Jg,Jh,Ji,Jj,Jk,Jl,Jm,Jn,Jo,Jp,Jq,Jr,Js,Jt,Ju,Jv⟩:=eF j3.out)|(go_at_call 28;(with_reducible refine (dG.calls jr j5 j6 _ _ j7 true _ (aC_ (Kd.aI jc.out HB.out)) jd.out ZS.out).mono ?_);rintro e Yi ⟨rfl,hb⟩;replace j3:=bbP j3 hb;replace HB:=am (aC kJ hb);(try clear hb);obtain ⟨Jw,Jx,Jy,Jz,JA,JB,JC,JD,JE,JF,JG,JH,JI,JJ,JK,JL⟩:=eF j3.out)|(go_at_call 63;(with_reducible refine (ih_spec_l11Blocks jr (by have:=HJ2.out;have:=HJ11.out;omega) _ _ j8 (wrap64 (a1 - 1)) false _ (aC_ (Kd.aI je.out HB.out)) jf.out ZY.out).mono ?_);rintro e Yj ⟨rfl,hb⟩;replace j3:=bbP j3 hb;replace HB:=am (aC kJ hb);(try clear hb)))
        go_ret
        exact ⟨rr_,kJ⟩
       replace qq:=Bool.eq_false_iff.mpr qq
       subst qq
       rw [if_neg (show ¬ (false=true) by decide)] at H
       obtain rfl:=Option.some.inj H
       obtain ⟨JM,JN,JO,JP,JQ,JR,JS,JT,JU,JV,JW,JX,JY,JZ,Q0,Q1⟩:=eF j3.out
       go_wp2_with (first|((with_reducible refine aD (f:=83) rfl ?_);refine aU (some 29) rfl rfl Try.func83 (by kernel_rfl) rfl #[.agg #[.int .i64 j4, .int .i64 ja, .int .i64 jb, .int .i64 j5, .int .i64 j6, .slice ji j7.length jj, .slice jk j8.length jl, .slice jm j9.length jn], .bool false] rfl dK ?_;(with_reducible refine (dW.calls j4 ja jb j5 j6 _ _ j7 _ _ j8 _ _ j9 false true _ (aC_ (Kd.aI jc.out HB.out)) jd.out (aC_ (Kd.aI je.out HB.out)) jf.out (aC_ (Kd.aI jg.out HB.out)) jh.out jz.out).mono ?_);rintro e Yk ⟨rfl,hb⟩;refine ⟨_,rfl,?_⟩;replace j3:=bbP j3 hb;replace HB:=am (aC kJ hb);(try clear hb);obtain ⟨Q2,Q3,Q4,Q5,Q6,Q7,Q8,Q9,Qa,Qb,Qc,Qd,Qe,Qf,Qg,Qh⟩:=eF j3.out)|(go_at_call 84;(with_reducible refine (eU.calls j4 ja jb j5 j6 _ _ j7 _ _ j8 _ _ j9 false true _ (aC_ (Kd.aI jc.out HB.out)) jd.out (aC_ (Kd.aI je.out HB.out)) jf.out (aC_ (Kd.aI jg.out HB.out)) jh.out qo.out).mono ?_);rintro e Yl ⟨rfl,hb⟩;replace j3:=bbP j3 hb;replace HB:=am (aC kJ hb);(try clear hb);obtain ⟨Qi,Qj,Qk,Ql,Qm,Qn,Qo,Qp,Qq,Qr,Qs,Qt,Qu,Qv,Qw,Qx⟩:=eF j3.out)|(go_at_call 28;(with_reducible refine (dG.calls jr j5 j6 _ _ j7 false _ (aC_ (Kd.aI jc.out HB.out)) jd.out ZS.out).mono ?_);rintro e Ym ⟨rfl,hb⟩;replace j3:=bbP j3 hb;replace HB:=am (aC kJ hb);(try clear hb)))
       go_ret
       exact ⟨rr_,kJ⟩
      replace qp:=Bool.eq_false_iff.mpr qp
      subst qp
      rw [if_neg (show ¬ (false=true) by decide)] at H
      obtain rfl:=Option.some.inj H
      obtain ⟨Qy,Qz,QA,QB,QC,QD,QE,QF,QG,QH,QI,QJ,QK,QL,QM,QN⟩:=eF j3.out
      go_wp2_with (first|((with_reducible refine aD (f:=83) rfl ?_);refine aU (some 29) rfl rfl Try.func83 (by kernel_rfl) rfl #[.agg #[.int .i64 j4, .int .i64 ja, .int .i64 jb, .int .i64 j5, .int .i64 j6, .slice ji j7.length jj, .slice jk j8.length jl, .slice jm j9.length jn], .bool false] rfl dK ?_;(with_reducible refine (dW.calls j4 ja jb j5 j6 _ _ j7 _ _ j8 _ _ j9 false true _ (aC_ (Kd.aI jc.out HB.out)) jd.out (aC_ (Kd.aI je.out HB.out)) jf.out (aC_ (Kd.aI jg.out HB.out)) jh.out jz.out).mono ?_);rintro e Yn ⟨rfl,hb⟩;refine ⟨_,rfl,?_⟩;replace j3:=bbP j3 hb;replace HB:=am (aC kJ hb);(try clear hb);obtain ⟨QO,QP,QQ,QR,QS,QT,QU,QV,QW,QX,QY,QZ,Z0,Z1,Z2,Z3⟩:=eF j3.out)|(go_at_call 84;(with_reducible refine (eU.calls j4 ja jb j5 j6 _ _ j7 _ _ j8 _ _ j9 false false _ (aC_ (Kd.aI jc.out HB.out)) jd.out (aC_ (Kd.aI je.out HB.out)) jf.out (aC_ (Kd.aI jg.out HB.out)) jh.out qo.out).mono ?_);rintro e Yo ⟨rfl,hb⟩;replace j3:=bbP j3 hb;replace HB:=am (aC kJ hb);(try clear hb)))
      go_ret
      exact ⟨rr_,kJ⟩
     replace qn:=Bool.eq_false_iff.mpr qn
     subst qn
     rw [if_neg (show ¬ (false=true) by decide)] at H
     obtain rfl:=Option.some.inj H
     obtain ⟨Z4,Z5,Z6,Z7,Z8,Z9,Za,Zb,Zc,Zd,Ze,Zf,Zg,Zh,Zi,Zj⟩:=eF j3.out
     go_wp2_with (first|((with_reducible refine aD (f:=83) rfl ?_);refine aU (some 29) rfl rfl Try.func83 (by kernel_rfl) rfl #[.agg #[.int .i64 j4, .int .i64 ja, .int .i64 jb, .int .i64 j5, .int .i64 j6, .slice ji j7.length jj, .slice jk j8.length jl, .slice jm j9.length jn], .bool false] rfl dK ?_;(with_reducible refine (dW.calls j4 ja jb j5 j6 _ _ j7 _ _ j8 _ _ j9 false false _ (aC_ (Kd.aI jc.out HB.out)) jd.out (aC_ (Kd.aI je.out HB.out)) jf.out (aC_ (Kd.aI jg.out HB.out)) jh.out jz.out).mono ?_);rintro e Yp ⟨rfl,hb⟩;refine ⟨_,rfl,?_⟩;replace j3:=bbP j3 hb;replace HB:=am (aC kJ hb);(try clear hb)))
     go_ret
     exact ⟨rr_,kJ⟩
theorem bE.step (k:Nat) (ih_spec_l11Ok:∀ m,m < k→bK.bY m) (ih_spec_l11Blocks:∀ m,m < k→bE.bY m):bE.bY k:=by
 intro A0 c0 l0 a1 r w hr0 hc0 h
 cases k with
 |zero=>exact absurd h (by simp [bE.f])
 |succ k=>
 simp only [bE.f] at h
 have hu70:=Try.underlying70
 have ju:=am hr0
 have jx:=am hc0
 clear hr0 hc0
 have HB:=am (Below.refl w.heap.size w)
 have H:(bE.l0 k l0 a1 0)=some r:=h
 clear h
 have H':=am H
 clear H
 go_enter Try.func63,Try.ntmps63
 go_wp2
 go_loopg [5] k (fun kq v5 w'=>∃ (j3:Int),v5= .int .i64 j3∧Aside0 (bE.l0 kq l0 a1 j3=some r)∧Aside0 (kq≤k)∧Aside0 (Below w.heap.size w w'))
 case atStart=>exact ⟨(0),sd_,H',⟨Nat.le_refl _⟩,⟨dN⟩⟩
 case round=>
  clear H'
  obtain ⟨j3,rfl,HA,jq,HB⟩:=hrel
  cases gk with
  |zero=>exact absurd HA.out (by simp [bE.l0])
  |succ k1=>
   have H:=HA.out
   clear HA
   simp only [bE.l0] at H
   by_cases c3:j3 < (l0.length:Int)
   ·rw [if_pos c3] at H
    have jr:decide (j3 < (l0.length:Int))=true:=decide_eq_true c3
    clear c3
    by_cases c4:0≤j3
    ·rw [if_pos c4] at H
     have jv:decide (0≤j3)=true:=decide_eq_true c4
     clear c4
     obtain ⟨jw,A5,H⟩:=bsa H
     (try dsimp only at H)
     by_cases c6:jw=true
     ·subst c6
      rw [if_pos rfl] at H
      have H':=am H
      clear H
      have jo:0≤(j3:Int):=of_decide_eq_true bT
      have jp:j3 < (l0.length:Int):=of_decide_eq_true bT
      obtain ⟨js,ji,jj,jk,jl,jm,jn,jt,j4,j5,j6,j7,j8,j9,ja,jb,hl21_5,hi21_5,hl21_6,hi21_6,hl21_7,hi21_7⟩:=eY ju.out j3 jo jp
      cases jt
      replace j4:=(HB.out.cell (World.block_lt_of_cell? w _ j4)).trans j4
      replace j5:=(HB.out.cell (World.block_lt_of_cell? w _ j5)).trans j5
      replace j6:=(HB.out.cell (World.block_lt_of_cell? w _ j6)).trans j6
      replace j7:=(HB.out.cell (World.block_lt_of_cell? w _ j7)).trans j7
      replace j8:=(HB.out.cell (World.block_lt_of_cell? w _ j8)).trans j8
      replace j9:=(HB.out.cell (World.block_lt_of_cell? w _ j9)).trans j9
      replace ja:=(HB.out.cell (World.block_lt_of_cell? w _ ja)).trans ja
      replace jb:=(HB.out.cell (World.block_lt_of_cell? w _ jb)).trans jb
      have jc:=am hi21_5
      have jd:=am hl21_5
      clear hi21_5 hl21_5
      have je:=am hi21_6
      have jf:=am hl21_6
      clear hi21_6 hl21_6
      have jg:=am hi21_7
      have jh:=am hl21_7
      clear hi21_7 hl21_7
      replace jo:=eq_true jo
      replace jp:=eq_true jp
      go_wp2_with (first|((with_reducible refine aD (f:=80) rfl ?_);refine aU (some 17) rfl rfl Try.func80 (by kernel_rfl) rfl #[.agg #[.int .i64 ((aG l0 j3).f0), .int .i64 ((aG l0 j3).f1), .int .i64 ((aG l0 j3).f2), .int .i64 ((aG l0 j3).f3.f0), .int .i64 ((aG l0 j3).f3.f1), .slice ji ((aG l0 j3).f3.f2).length jj, .slice jk ((aG l0 j3).f4).length jl, .slice jm ((aG l0 j3).f5).length jn], .int .i64 a1] rfl dK ?_;(with_reducible refine (ih_spec_l11Ok k1 (by have:=jq.out;omega) ((aG l0 j3).f0) ((aG l0 j3).f1) ((aG l0 j3).f2) ((aG l0 j3).f3.f0) ((aG l0 j3).f3.f1) _ _ ((aG l0 j3).f3.f2) _ _ ((aG l0 j3).f4) _ _ ((aG l0 j3).f5) a1 true _ (aC_ (Kd.aI jc.out HB.out)) jd.out (aC_ (Kd.aI je.out HB.out)) jf.out (aC_ (Kd.aI jg.out HB.out)) jh.out A5.out).mono ?_);rintro e w7 ⟨rfl,hb⟩;refine ⟨_,rfl,?_⟩;replace HB:=am (aC dN hb);(try clear hb)))
      go_roundg k1
      case measure=>have:=jq.out;omega
      case rel=>exact ⟨(wrap64 (j3 + 1)),sd_,H',⟨by have:=jq.out;omega⟩,⟨dN⟩⟩
     replace c6:=Bool.eq_false_iff.mpr c6
     subst c6
     rw [if_neg (show ¬ (false=true) by decide)] at H
     obtain rfl:=Option.some.inj H
     have jo:0≤(j3:Int):=of_decide_eq_true bT
     have jp:j3 < (l0.length:Int):=of_decide_eq_true bT
     obtain ⟨js,ji,jj,jk,jl,jm,jn,jt,j4,j5,j6,j7,j8,j9,ja,jb,hl21_5,hi21_5,hl21_6,hi21_6,hl21_7,hi21_7⟩:=eY ju.out j3 jo jp
     cases jt
     replace j4:=(HB.out.cell (World.block_lt_of_cell? w _ j4)).trans j4
     replace j5:=(HB.out.cell (World.block_lt_of_cell? w _ j5)).trans j5
     replace j6:=(HB.out.cell (World.block_lt_of_cell? w _ j6)).trans j6
     replace j7:=(HB.out.cell (World.block_lt_of_cell? w _ j7)).trans j7
     replace j8:=(HB.out.cell (World.block_lt_of_cell? w _ j8)).trans j8
     replace j9:=(HB.out.cell (World.block_lt_of_cell? w _ j9)).trans j9
     replace ja:=(HB.out.cell (World.block_lt_of_cell? w _ ja)).trans ja
     replace jb:=(HB.out.cell (World.block_lt_of_cell? w _ jb)).trans jb
     have jc:=am hi21_5
     have jd:=am hl21_5
     clear hi21_5 hl21_5
     have je:=am hi21_6
     have jf:=am hl21_6
     clear hi21_6 hl21_6
     have jg:=am hi21_7
     have jh:=am hl21_7
     clear hi21_7 hl21_7
     replace jo:=eq_true jo
     replace jp:=eq_true jp
     go_wp2_with (first|((with_reducible refine aD (f:=80) rfl ?_);refine aU (some 17) rfl rfl Try.func80 (by kernel_rfl) rfl #[.agg #[.int .i64 ((aG l0 j3).f0), .int .i64 ((aG l0 j3).f1), .int .i64 ((aG l0 j3).f2), .int .i64 ((aG l0 j3).f3.f0), .int .i64 ((aG l0 j3).f3.f1), .slice ji ((aG l0 j3).f3.f2).length jj, .slice jk ((aG l0 j3).f4).length jl, .slice jm ((aG l0 j3).f5).length jn], .int .i64 a1] rfl dK ?_;(with_reducible refine (ih_spec_l11Ok k1 (by have:=jq.out;omega) ((aG l0 j3).f0) ((aG l0 j3).f1) ((aG l0 j3).f2) ((aG l0 j3).f3.f0) ((aG l0 j3).f3.f1) _ _ ((aG l0 j3).f3.f2) _ _ ((aG l0 j3).f4) _ _ ((aG l0 j3).f5) a1 false _ (aC_ (Kd.aI jc.out HB.out)) jd.out (aC_ (Kd.aI je.out HB.out)) jf.out (aC_ (Kd.aI jg.out HB.out)) jh.out A5.out).mono ?_);rintro e w8 ⟨rfl,hb⟩;refine ⟨_,rfl,?_⟩;replace HB:=am (aC dN hb);(try clear hb)))
     go_ret
     exact ⟨rr_,dN⟩
    rw [if_neg c4] at H
    exact absurd H (by simp)
   rw [if_neg c3] at H
   have jr:decide (j3 < (l0.length:Int))=false:=decide_eq_false c3
   clear c3
   obtain rfl:=Option.some.inj H
   go_wp2
   go_ret
   exact ⟨rr_,dN⟩
theorem bK.calls_all (k:Nat):bK.bY k∧bE.bY k:=by
 induction k using Nat.strongRecOn with
 | _ k ih=>exact ⟨bK.step k (ih_spec_l11Ok:=fun m hm=>(ih m hm).1) (ih_spec_l11Blocks:=fun m hm=>(ih m hm).2),bE.step k (ih_spec_l11Ok:=fun m hm=>(ih m hm).1) (ih_spec_l11Blocks:=fun m hm=>(ih m hm).2)⟩
theorem bK.calls (k:Nat):bK.bY k:=(bK.calls_all k).1
theorem bE.calls (k:Nat):bE.bY k:=(bK.calls_all k).2
theorem bF.mono_l:∀ k,(∀ y0,LeO (bF.f k y0) (bF.f (k + 1) y0))∧(∀ y0 y1 y2,LeO (bF.l0 k y0 y1 y2) (bF.l0 (k + 1) y0 y1 y2))
 |0=>⟨fun _ r h=>by simp [bF.f] at h,fun _ _ _ r h=>by simp [bF.l0] at h⟩
 |k + 1=>by
  obtain ⟨ih0,ih1⟩:=bF.mono_l k
  refine ⟨?_,?_⟩
  ·intro y0
   unfold bF.f
   exact mo_
  ·intro y0 y1 y2
   unfold bF.l0
   exact mo_
theorem bF.mono:∀ a0 k,LeO (bF.f k a0) (bF.f (k + 1) a0):=by
 intro a0 k
 obtain ⟨ih0,ih1⟩:=bF.mono_l k
 exact ih0 a0
def bF.T5:Bool × List (List Nat × List Nat):=(true,[([],[]),([0],[0]),([],[]),([],[]),([2,3],[2,3]),([4],[4]),([5],[5]),([6],[6]),([1,7],[1,7]),([],[]),([],[]),([9,10],[9,10]),([11],[11]),([12],[12]),([13,7],[13]),([8,14],[8,14]),([15,14,0,1,2,3,4,5,6,7,8,9,10,11,12,13,14,15],[0,15])])
def bF.B5:List Nat:=[0,1,0,0,12,28,60,124,255,0,0,1536,3584,7680,16124,32767,65535]
theorem bF.aCu:kZ .any (opsOf Try.f64 5)=bF.T5:=by kernel_rfl
theorem bF.aCg:kG bF.T5.2 bF.B5=true:=by kernel_rfl
theorem bF.calls (k:Nat):∀ (A0:Option Addr) (c0:Nat) (l0:List (S70)) (r:Int) (w:World) (hr0:Kd.C k70 w A0 l0.length l0) (hc0:l0.length≤c0) (h:bF.f k l0=some r),
  Calls Try.prog 64 #[.slice A0 l0.length c0] w fun e w'=>e= .returned (.int .i64 r)∧Below w.heap.size w w':=by
 induction k using Nat.strongRecOn with
 | _ k ih=>
 intro A0 c0 l0 r w hr0 hc0 h
 cases k with
 |zero=>exact absurd h (by simp [bF.f])
 |succ k=>
 simp only [bF.f] at h
 have jL:=am hr0
 have jX:=am hc0
 clear hr0 hc0
 have HB:=am (Below.refl w.heap.size w)
 have H:(bF.l0 k l0 0 0)=some r:=h
 clear h
 have H':=am H
 clear H
 go_enter Try.func64,Try.ntmps64
 go_wp2
 go_loopg [3,4] k (fun kq v3 v4 w'=>∃ (jr:Int) (j3:Int),v3= .int .i64 jr∧v4= .int .i64 j3∧Aside0 (bF.l0 kq l0 jr j3=some r)∧Aside0 (kq≤k)∧Aside0 (Below w.heap.size w w'))
 case atStart=>exact ⟨(0),(0),sd_,sd_,H',⟨Nat.le_refl _⟩,⟨dN⟩⟩
 case round=>
  clear H'
  obtain ⟨jr,j3,rfl,rfl,HA,jA,HB⟩:=hrel
  cases gk with
  |zero=>exact absurd HA.out (by simp [bF.l0])
  |succ k1=>
   have H:=HA.out
   clear HA
   simp only [bF.l0] at H
   by_cases c2:j3 < (l0.length:Int)
   ·rw [if_pos c2] at H
    have jB:decide (j3 < (l0.length:Int))=true:=decide_eq_true c2
    clear c2
    by_cases c3:0≤j3
    ·rw [if_pos c3] at H
     have jU:decide (0≤j3)=true:=decide_eq_true c3
     clear c3
     obtain ⟨jM,A4,H⟩:=bsa H
     (try dsimp only at H)
     obtain ⟨jN,A5,H⟩:=bsa H
     (try dsimp only at H)
     have H':=am H
     clear H
     try go_wp2
     replace HB:=am (bX HB.out)
     have jC:0≤(j3:Int):=of_decide_eq_true bT
     have jD:j3 < (l0.length:Int):=of_decide_eq_true bT
     obtain ⟨j4,js,jt,jl,jm,jn,jo,jV,jb,jc,jd,je,jf,j5,j6,j7,hl30_5,hi30_5,hl30_6,hi30_6,hl30_7,hi30_7⟩:=eY jL.out j3 jC jD
     have hw30_7:=j7
     have hw30_6:=j6
     have hw30_5:=j5
     have hw30_4:=jf
     have hw30_3:=je
     have hw30_2:=jd
     have hw30_1:=jc
     have hw30_0:=jb
     cases jV
     replace jb:=(HB.out.cell (World.block_lt_of_cell? w _ jb)).trans jb
     replace jc:=(HB.out.cell (World.block_lt_of_cell? w _ jc)).trans jc
     replace jd:=(HB.out.cell (World.block_lt_of_cell? w _ jd)).trans jd
     replace je:=(HB.out.cell (World.block_lt_of_cell? w _ je)).trans je
     replace jf:=(HB.out.cell (World.block_lt_of_cell? w _ jf)).trans jf
     replace j5:=(HB.out.cell (World.block_lt_of_cell? w _ j5)).trans j5
     replace j6:=(HB.out.cell (World.block_lt_of_cell? w _ j6)).trans j6
     replace j7:=(HB.out.cell (World.block_lt_of_cell? w _ j7)).trans j7
     have ju:=am hi30_5
     have jE:=am hl30_5
     clear hi30_5 hl30_5
     have jp:=am hi30_6
     have jv:=am hl30_6
     clear hi30_6 hl30_6
     have jw:=am hi30_7
     have jF:=am hl30_7
     clear hi30_7 hl30_7
     replace jC:=eq_true jC
     replace jD:=eq_true jD
     have jG:0≤(j3:Int):=of_decide_eq_true bT
     have jH:j3 < (l0.length:Int):=of_decide_eq_true bT
     obtain ⟨jI,jO,jP,jQ,jR,jS,jT,jW,jg,jh,ji,jj,jk,j8,j9,ja,hl31_5,hi31_5,hl31_6,hi31_6,hl31_7,hi31_7⟩:=eY jL.out j3 jG jH
     have hw31_7:=ja
     have hw31_6:=j9
     have hw31_5:=j8
     have hw31_4:=jk
     have hw31_3:=jj
     have hw31_2:=ji
     have hw31_1:=jh
     have hw31_0:=jg
     obtain rfl:j4=jI:=(by injection jW)
     replace jg:=(HB.out.cell (World.block_lt_of_cell? w _ jg)).trans jg
     replace jh:=(HB.out.cell (World.block_lt_of_cell? w _ jh)).trans jh
     replace ji:=(HB.out.cell (World.block_lt_of_cell? w _ ji)).trans ji
     replace jj:=(HB.out.cell (World.block_lt_of_cell? w _ jj)).trans jj
     replace jk:=(HB.out.cell (World.block_lt_of_cell? w _ jk)).trans jk
     replace j8:=(HB.out.cell (World.block_lt_of_cell? w _ j8)).trans j8
     replace j9:=(HB.out.cell (World.block_lt_of_cell? w _ j9)).trans j9
     replace ja:=(HB.out.cell (World.block_lt_of_cell? w _ ja)).trans ja
     have jx:=am hi31_5
     have jJ:=am hl31_5
     clear hi31_5 hl31_5
     have jy:=am hi31_6
     have jK:=am hl31_6
     clear hi31_6 hl31_6
     have jq:=am hi31_7
     have jz:=am hl31_7
     clear hi31_7 hl31_7
     replace jG:=eq_true jG
     replace jH:=eq_true jH
     have ea_:=Option.some.inj (j5.symm.trans j8)
     injection ea_ with ea_ en_ ec_
     subst ea_
     subst ec_
     clear en_
     have ea_:=Option.some.inj (j6.symm.trans j9)
     injection ea_ with ea_ en_ ec_
     subst ea_
     subst ec_
     clear en_
     have ea_:=Option.some.inj (j7.symm.trans ja)
     injection ea_ with ea_ en_ ec_
     subst ea_
     subst ec_
     clear en_
     refine nD (n:=17) (S:=fun w'=>w'.cell? (j4.add ((j3).toNat * 8))=some (.int .i64 ((aG l0 j3).f0))∧w'.cell? ⟨(j4.add ((j3).toNat * 8)).block,(j4.add ((j3).toNat * 8)).off + 1,none⟩=some (.int .i64 ((aG l0 j3).f1))∧w'.cell? ⟨(j4.add ((j3).toNat * 8)).block,(j4.add ((j3).toNat * 8)).off + 2,none⟩=some (.int .i64 ((aG l0 j3).f2))∧w'.cell? ⟨(j4.add ((j3).toNat * 8)).block,(j4.add ((j3).toNat * 8)).off + 3,none⟩=some (.int .i64 ((aG l0 j3).f3.f0))∧w'.cell? ⟨(j4.add ((j3).toNat * 8)).block,(j4.add ((j3).toNat * 8)).off + 4,none⟩=some (.int .i64 ((aG l0 j3).f3.f1))∧w'.cell? ⟨(j4.add ((j3).toNat * 8)).block,(j4.add ((j3).toNat * 8)).off + 5,none⟩=some (.slice js ((aG l0 j3).f3.f2).length jt)∧w'.cell? ⟨(j4.add ((j3).toNat * 8)).block,(j4.add ((j3).toNat * 8)).off + 6,none⟩=some (.slice jl ((aG l0 j3).f4).length jm)∧w'.cell? ⟨(j4.add ((j3).toNat * 8)).block,(j4.add ((j3).toNat * 8)).off + 7,none⟩=some (.slice jn ((aG l0 j3).f5).length jo)∧w'.cell? (j4.add ((j3).toNat * 8))=some (.int .i64 ((aG l0 j3).f0))∧w'.cell? ⟨(j4.add ((j3).toNat * 8)).block,(j4.add ((j3).toNat * 8)).off + 1,none⟩=some (.int .i64 ((aG l0 j3).f1))∧w'.cell? ⟨(j4.add ((j3).toNat * 8)).block,(j4.add ((j3).toNat * 8)).off + 2,none⟩=some (.int .i64 ((aG l0 j3).f2))∧w'.cell? ⟨(j4.add ((j3).toNat * 8)).block,(j4.add ((j3).toNat * 8)).off + 3,none⟩=some (.int .i64 ((aG l0 j3).f3.f0))∧w'.cell? ⟨(j4.add ((j3).toNat * 8)).block,(j4.add ((j3).toNat * 8)).off + 4,none⟩=some (.int .i64 ((aG l0 j3).f3.f1))∧w'.cell? ⟨(j4.add ((j3).toNat * 8)).block,(j4.add ((j3).toNat * 8)).off + 5,none⟩=some (.slice js ((aG l0 j3).f3.f2).length jt)∧w'.cell? ⟨(j4.add ((j3).toNat * 8)).block,(j4.add ((j3).toNat * 8)).off + 6,none⟩=some (.slice jl ((aG l0 j3).f4).length jm)∧w'.cell? ⟨(j4.add ((j3).toNat * 8)).block,(j4.add ((j3).toNat * 8)).off + 7,none⟩=some (.slice jn ((aG l0 j3).f5).length jo)) (ds:=[]) (bz 17 0) (by kernel_rfl) rfl rfl ⟨((HB.out.cell (World.block_lt_of_cell? w _ hw30_0)).trans hw30_0),((HB.out.cell (World.block_lt_of_cell? w _ hw30_1)).trans hw30_1),((HB.out.cell (World.block_lt_of_cell? w _ hw30_2)).trans hw30_2),((HB.out.cell (World.block_lt_of_cell? w _ hw30_3)).trans hw30_3),((HB.out.cell (World.block_lt_of_cell? w _ hw30_4)).trans hw30_4),((HB.out.cell (World.block_lt_of_cell? w _ hw30_5)).trans hw30_5),((HB.out.cell (World.block_lt_of_cell? w _ hw30_6)).trans hw30_6),((HB.out.cell (World.block_lt_of_cell? w _ hw30_7)).trans hw30_7),((HB.out.cell (World.block_lt_of_cell? w _ hw31_0)).trans hw31_0),((HB.out.cell (World.block_lt_of_cell? w _ hw31_1)).trans hw31_1),((HB.out.cell (World.block_lt_of_cell? w _ hw31_2)).trans hw31_2),((HB.out.cell (World.block_lt_of_cell? w _ hw31_3)).trans hw31_3),((HB.out.cell (World.block_lt_of_cell? w _ hw31_4)).trans hw31_4),((HB.out.cell (World.block_lt_of_cell? w _ hw31_5)).trans hw31_5),((HB.out.cell (World.block_lt_of_cell? w _ hw31_6)).trans hw31_6),((HB.out.cell (World.block_lt_of_cell? w _ hw31_7)).trans hw31_7)⟩ (fun hHeld=>?_);refine iY bF.aCu bF.aCg (fun HT_ HW_=>?_)
     generalize wr.drew=w6 at HB ju jp jw jx jy jq jb jc jd je jf j5 j6 j7 jg jh ji jj jk j8 j9 ja hHeld ⊢
     refine pr_ 0 11 (bz 17 1) HT_ ?_
     refine pr_ 1 12 (bz 17 3) HT_ ?_
     refine pr_ 2 13 (bz 17 7) HT_ ?_
     refine pr_ 3 14 (bz 17 15) HT_ ?_
     refine pr_ 4 15 (bz 17 31) HT_ ?_
     refine pr_ 5 16 (bz 17 63) HT_ ?_
     refine pr_ 9 20 (bz 17 575) HT_ ?_
     refine pr_ 10 21 (bz 17 1599) HT_ ?_
     refine pr_ 11 22 (bz 17 3647) HT_ ?_
     refine pr_ 12 23 (bz 17 7743) HT_ ?_
     refine EO 6 17 (bz 17 7807) HT_ HW_ hHeld ?_
     refine EO 13 24 (bz 17 15999) HT_ HW_ hHeld ?_
     refine pI (i:=7) (N:=some 18) (bz 17 16127) rfl rfl (iO HT_.out (by kernel_rfl)) (by decide) (fun K hK=>?_)
     refine lH Try.func64 (by kernel_rfl) rfl #[.slice jl ((aG l0 j3).f4).length jm] (by rfl) rfl rfl dK ?_
     with_reducible refine (ih k1 (by have:=jA.out;omega) _ _ ((aG l0 j3).f4) jM _ (aC_ (Kd.aI jp.out HB.out)) jv.out A4.out).mono ?_
     rintro e w7 ⟨rfl,hb⟩
     refine ⟨_,rfl,?_⟩
     replace HB:=am (aC dN hb)
     (try clear hb)
     (try clear hb2)
     (try clear hk)
     (try clear hi)
     refine hK.out _ _ ⟨((HB.out.cell (World.block_lt_of_cell? w _ hw30_0)).trans hw30_0),((HB.out.cell (World.block_lt_of_cell? w _ hw30_1)).trans hw30_1),((HB.out.cell (World.block_lt_of_cell? w _ hw30_2)).trans hw30_2),((HB.out.cell (World.block_lt_of_cell? w _ hw30_3)).trans hw30_3),((HB.out.cell (World.block_lt_of_cell? w _ hw30_4)).trans hw30_4),((HB.out.cell (World.block_lt_of_cell? w _ hw30_5)).trans hw30_5),((HB.out.cell (World.block_lt_of_cell? w _ hw30_6)).trans hw30_6),((HB.out.cell (World.block_lt_of_cell? w _ hw30_7)).trans hw30_7),((HB.out.cell (World.block_lt_of_cell? w _ hw31_0)).trans hw31_0),((HB.out.cell (World.block_lt_of_cell? w _ hw31_1)).trans hw31_1),((HB.out.cell (World.block_lt_of_cell? w _ hw31_2)).trans hw31_2),((HB.out.cell (World.block_lt_of_cell? w _ hw31_3)).trans hw31_3),((HB.out.cell (World.block_lt_of_cell? w _ hw31_4)).trans hw31_4),((HB.out.cell (World.block_lt_of_cell? w _ hw31_5)).trans hw31_5),((HB.out.cell (World.block_lt_of_cell? w _ hw31_6)).trans hw31_6),((HB.out.cell (World.block_lt_of_cell? w _ hw31_7)).trans hw31_7)⟩ (fun hHeld=>?_)
     clear hK K
     refine lQ (a':=?_) ?_ ?_
     rotate_left
     ·exact ap_ (N:=18)
     refine pr_ 8 19 (bz 17 16383) HT_ ?_
     refine pI (i:=14) (N:=some 25) (bz 17 32767) rfl rfl (iO HT_.out (by kernel_rfl)) (by decide) (fun K hK=>?_)
     refine lH Try.func64 (by kernel_rfl) rfl #[.slice jn ((aG l0 j3).f5).length jo] (by rfl) rfl rfl dK ?_
     with_reducible refine (ih k1 (by have:=jA.out;omega) _ _ ((aG l0 j3).f5) jN _ (aC_ (Kd.aI jq.out HB.out)) jz.out A5.out).mono ?_
     rintro e w8 ⟨rfl,hb⟩
     refine ⟨_,rfl,?_⟩
     replace HB:=am (aC dN hb)
     (try clear hb)
     (try clear hb2)
     (try clear hk)
     (try clear hi)
     refine hK.out _ _ ⟨((HB.out.cell (World.block_lt_of_cell? w _ hw30_0)).trans hw30_0),((HB.out.cell (World.block_lt_of_cell? w _ hw30_1)).trans hw30_1),((HB.out.cell (World.block_lt_of_cell? w _ hw30_2)).trans hw30_2),((HB.out.cell (World.block_lt_of_cell? w _ hw30_3)).trans hw30_3),((HB.out.cell (World.block_lt_of_cell? w _ hw30_4)).trans hw30_4),((HB.out.cell (World.block_lt_of_cell? w _ hw30_5)).trans hw30_5),((HB.out.cell (World.block_lt_of_cell? w _ hw30_6)).trans hw30_6),((HB.out.cell (World.block_lt_of_cell? w _ hw30_7)).trans hw30_7),((HB.out.cell (World.block_lt_of_cell? w _ hw31_0)).trans hw31_0),((HB.out.cell (World.block_lt_of_cell? w _ hw31_1)).trans hw31_1),((HB.out.cell (World.block_lt_of_cell? w _ hw31_2)).trans hw31_2),((HB.out.cell (World.block_lt_of_cell? w _ hw31_3)).trans hw31_3),((HB.out.cell (World.block_lt_of_cell? w _ hw31_4)).trans hw31_4),((HB.out.cell (World.block_lt_of_cell? w _ hw31_5)).trans hw31_5),((HB.out.cell (World.block_lt_of_cell? w _ hw31_6)).trans hw31_6),((HB.out.cell (World.block_lt_of_cell? w _ hw31_7)).trans hw31_7)⟩ (fun hHeld=>?_)
     clear hK K
     refine lQ (a':=?_) ?_ ?_
     rotate_left
     ·exact ap_ (N:=25)
     refine pr_ 15 26 (bz 17 65535) HT_ ?_
     refine pr_ 16 3 (bz 17 131071) HT_ ?_
     refine rG (lJ HT_.out (by kernel_rfl)) ?_
     try go_wp2
     go_roundg k1
     case measure=>have:=jA.out;omega
     case rel=>exact ⟨(wrap64 ((wrap64 ((wrap64 (jr + 1)) + jM)) + jN)),(wrap64 (j3 + 1)),sd_,sd_,H',⟨by have:=jA.out;omega⟩,⟨dN⟩⟩
    rw [if_neg c3] at H
    exact absurd H (by simp)
   rw [if_neg c2] at H
   have jB:decide (j3 < (l0.length:Int))=false:=decide_eq_false c2
   clear c2
   obtain rfl:=Option.some.inj H
   go_wp2
   go_ret
   exact ⟨rr_,dN⟩
theorem eO.mono:∀ a0 k,LeO (eO.f k a0) (eO.f (k + 1) a0):=by
 intro a0 k
 unfold eO.f
 have m0:=@bE.mono
 have m1:=@bF.mono
 exact mo_
theorem eO.calls (k:Nat) (A0:Option Addr) (c0:Nat) (l0:List (S70)) (r:Bool) (w:World) (hr0:Kd.C k70 w A0 l0.length l0) (hc0:l0.length≤c0) (h:eO.f k l0=some r):
  Calls Try.prog 37 #[.slice A0 l0.length c0] w fun e w'=>e= .returned (.bool r)∧Below w.heap.size w w':=by
 have j3:=am hr0
 have j4:=am hc0
 clear hr0 hc0
 have HB:=am (Below.refl w.heap.size w)
 unfold eO.f at h
 have H:=h
 clear h
 obtain ⟨j5,A2,H⟩:=bsa H
 (try dsimp only at H)
 by_cases c3:j5=true
 ·subst c3
  rw [if_pos rfl] at H
  obtain ⟨j6,A4,H⟩:=bsa H
  (try dsimp only at H)
  obtain rfl:=Option.some.inj H
  go_enter Try.func37,Try.ntmps37
  go_wp2_with (first|((with_reducible refine aD (f:=63) rfl ?_);refine aU (some 4) rfl rfl Try.func63 (by kernel_rfl) rfl #[.slice A0 l0.length c0, .int .i64 3] rfl dK ?_;(with_reducible refine (bE.calls k _ _ l0 3 true _ (aC_ j3.out) j4.out A2.out).mono ?_);rintro e w5 ⟨rfl,hb⟩;refine ⟨_,rfl,?_⟩;replace HB:=am (aC dN hb);(try clear hb))|(go_at_call 64;(with_reducible refine (bF.calls k _ _ l0 j6 _ (aC_ (Kd.aI j3.out HB.out)) j4.out A4.out).mono ?_);rintro e w6 ⟨rfl,hb⟩;replace HB:=am (aC dN hb);(try clear hb)))
  go_ret
  exact ⟨rr_,dN⟩
 replace c3:=Bool.eq_false_iff.mpr c3
 subst c3
 rw [if_neg (show ¬ (false=true) by decide)] at H
 obtain rfl:=Option.some.inj H
 go_enter Try.func37,Try.ntmps37
 go_wp2_with (first|((with_reducible refine aD (f:=63) rfl ?_);refine aU (some 4) rfl rfl Try.func63 (by kernel_rfl) rfl #[.slice A0 l0.length c0, .int .i64 3] rfl dK ?_;(with_reducible refine (bE.calls k _ _ l0 3 false _ (aC_ j3.out) j4.out A2.out).mono ?_);rintro e w7 ⟨rfl,hb⟩;refine ⟨_,rfl,?_⟩;replace HB:=am (aC dN hb);(try clear hb)))
 go_ret
 exact ⟨rr_,dN⟩
theorem cO.mono_l:∀ k,(∀ y0 y1,LeO (cO.l0 k y0 y1) (cO.l0 (k + 1) y0 y1))
 |0=>fun _ _ r h=>by simp [cO.l0] at h
 |k + 1=>by
  have ih0:=cO.mono_l k
  ·intro y0 y1
   unfold cO.l0
   exact mo_
theorem cO.mono:∀ a0 k,LeO (cO.f k a0) (cO.f (k + 1) a0):=by
 intro a0 k
 have ih0:=cO.mono_l k
 unfold cO.f
 exact mo_
theorem cO.calls (k:Nat) (A0:Option Addr) (c0:Nat) (l0:List Int) (r:Bool) (w:World) (hr0:Kd.C (Kd.int .i64) w A0 l0.length l0) (hc0:l0.length≤c0) (h:cO.f k l0=some r):
  Calls Try.prog 67 #[.slice A0 l0.length c0] w fun e w'=>e= .returned (.bool r)∧fV w w':=by
 have ja:=am hr0
 have je:=am hc0
 clear hr0 hc0
 have H:(cO.l0 k l0 0)=some r:=h
 clear h
 have H':=am H
 clear H
 go_enter Try.func67,Try.ntmps67
 go_wp2
 go_loopg [3] k (fun kq v3 w'=>∃ (j3:Int),v3= .int .i64 j3∧Aside0 (cO.l0 kq l0 j3=some r)∧Aside0 (kq≤k)∧fV w w')
 case atStart=>exact ⟨(0),sd_,H',⟨Nat.le_refl _⟩,fF⟩
 case round=>
  clear H'
  obtain ⟨j3,rfl,HA,jb,⟨m1,rfl⟩⟩:=hrel
  cases gk with
  |zero=>exact absurd HA.out (by simp [cO.l0])
  |succ k1=>
   have H:=HA.out
   clear HA
   simp only [cO.l0] at H
   by_cases c2:j3 < (l0.length:Int)
   ·rw [if_pos c2] at H
    have j7:decide (j3 < (l0.length:Int))=true:=decide_eq_true c2
    clear c2
    by_cases c3:0≤j3
    ·rw [if_pos c3] at H
     have jc:decide (0≤j3)=true:=decide_eq_true c3
     clear c3
     obtain ⟨jd,A4,H⟩:=bsa H
     (try dsimp only at H)
     by_cases c5:jd=true
     ·subst c5
      rw [if_pos rfl] at H
      have H':=am H
      clear H
      have j4:0≤(j3:Int):=of_decide_eq_true bT
      have j5:j3 < (l0.length:Int):=of_decide_eq_true bT
      obtain ⟨j8,j9,j6⟩:=Kd.nR ja.out j3 j4 j5
      cases j9
      replace j4:=eq_true j4
      replace j5:=eq_true j5
      go_wp2_with (first|((with_reducible refine aD (f:=59) rfl ?_);refine aU (some 14) rfl rfl Try.func59 (by kernel_rfl) rfl #[.int .i64 (rd l0 j3), .int .i64 1, .int .i64 4] rfl dK ?_;(with_reducible refine (fD.calls (rd l0 j3) 1 4 true _ A4.out).mono ?_);rintro e w' ⟨rfl,⟨nd,rfl⟩⟩;refine ⟨_,rfl,?_⟩))
      go_roundg k1
      case measure=>have:=jb.out;omega
      case rel=>exact ⟨(wrap64 (j3 + 1)),sd_,H',⟨by have:=jb.out;omega⟩,fF⟩
     replace c5:=Bool.eq_false_iff.mpr c5
     subst c5
     rw [if_neg (show ¬ (false=true) by decide)] at H
     obtain rfl:=Option.some.inj H
     have j4:0≤(j3:Int):=of_decide_eq_true bT
     have j5:j3 < (l0.length:Int):=of_decide_eq_true bT
     obtain ⟨j8,j9,j6⟩:=Kd.nR ja.out j3 j4 j5
     cases j9
     replace j4:=eq_true j4
     replace j5:=eq_true j5
     go_wp2_with (first|((with_reducible refine aD (f:=59) rfl ?_);refine aU (some 14) rfl rfl Try.func59 (by kernel_rfl) rfl #[.int .i64 (rd l0 j3), .int .i64 1, .int .i64 4] rfl dK ?_;(with_reducible refine (fD.calls (rd l0 j3) 1 4 false _ A4.out).mono ?_);rintro e w' ⟨rfl,⟨nd,rfl⟩⟩;refine ⟨_,rfl,?_⟩))
     go_ret
     exact ⟨sd_,fF⟩
    rw [if_neg c3] at H
    exact absurd H (by simp)
   rw [if_neg c2] at H
   have j7:decide (j3 < (l0.length:Int))=false:=decide_eq_false c2
   clear c2
   obtain rfl:=Option.some.inj H
   go_wp2
   go_ret
   exact ⟨sd_,fF⟩
theorem bA.mono_l:∀ k,(∀ y0 y1,LeO (bA.f k y0 y1) (bA.f (k + 1) y0 y1))∧(∀ y0 y1 y2,LeO (bA.l0 k y0 y1 y2) (bA.l0 (k + 1) y0 y1 y2))∧(∀ y0 y1 y2 y3 y4 y5 y6 y7 y8 y9 j3 j4,LeO (bA.j1 k y0 y1 y2 y3 y4 y5 y6 y7 y8 y9 j3 j4) (bA.j1 (k + 1) y0 y1 y2 y3 y4 y5 y6 y7 y8 y9 j3 j4))
 |0=>⟨fun _ _ r h=>by simp [bA.f] at h,fun _ _ _ r h=>by simp [bA.l0] at h,fun _ _ _ _ _ _ _ _ _ _ _ _ r h=>by simp [bA.j1] at h⟩
 |k + 1=>by
  obtain ⟨ih0,ih1,ih2⟩:=bA.mono_l k
  refine ⟨?_,?_,?_⟩
  ·intro y0 y1
   unfold bA.f
   exact mo_
  ·intro y0 y1 y2
   unfold bA.l0
   exact mo_
  ·intro y0 y1 y2 y3 y4 y5 y6 y7 y8 y9 j3 j4
   unfold bA.j1
   exact mo_
theorem bA.mono:∀ a0 a1 k,LeO (bA.f k a0 a1) (bA.f (k + 1) a0 a1):=by
 intro a0 a1 k
 obtain ⟨ih0,ih1,ih2⟩:=bA.mono_l k
 exact ih0 a0 a1
theorem bA.calls (k:Nat):∀ (A0:Option Addr) (c0:Nat) (l0:List (S70)) (a1:Int) (r:Bool) (w:World) (hr0:Kd.C k70 w A0 l0.length l0) (hc0:l0.length≤c0) (h:bA.f k l0 a1=some r),
  Calls Try.prog 68 #[.slice A0 l0.length c0, .int .i64 a1] w fun e w'=>e= .returned (.bool r)∧Below w.heap.size w w':=by
 induction k using Nat.strongRecOn with
 | _ k ih=>
 intro A0 c0 l0 a1 r w hr0 hc0 h
 cases k with
 |zero=>exact absurd h (by simp [bA.f])
 |succ k=>
 simp only [bA.f] at h
 have hu70:=Try.underlying70
 have J3:=am hr0
 have Ja:=am hc0
 clear hr0 hc0
 have HB:=am (Below.refl w.heap.size w)
 have H:(bA.l0 k l0 a1 0)=some r:=h
 clear h
 have H':=am H
 clear H
 go_enter Try.func68,Try.ntmps68
 go_wp2
 go_loopg [5] k (fun kq v5 w'=>∃ (j3:Int),v5= .int .i64 j3∧Aside0 (bA.l0 kq l0 a1 j3=some r)∧Aside0 (kq≤k)∧Aside0 (Below w.heap.size w w'))
 case atStart=>exact ⟨(0),sd_,H',⟨Nat.le_refl _⟩,⟨dN⟩⟩
 case round=>
  clear H'
  obtain ⟨j3,rfl,HA,jl,HB⟩:=hrel
  cases gk with
  |zero=>exact absurd HA.out (by simp [bA.l0])
  |succ k1=>
   have H:=HA.out
   clear HA
   simp only [bA.l0] at H
   by_cases c3:j3 < (l0.length:Int)
   ·rw [if_pos c3] at H
    have jE:decide (j3 < (l0.length:Int))=true:=decide_eq_true c3
    clear c3
    by_cases c4:0≤j3
    ·rw [if_pos c4] at H
     have zE:decide (0≤j3)=true:=decide_eq_true c4
     clear c4
     have zF:=am H
     clear H
     have jL:0≤(j3:Int):=of_decide_eq_true bT
     have jM:j3 < (l0.length:Int):=of_decide_eq_true bT
     obtain ⟨J4,jF,jG,jf,jg,jH,jI,J5,j5,j6,j7,j8,j9,ja,jb,jc,hl28_5,hi28_5,hl28_6,hi28_6,hl28_7,hi28_7⟩:=eY J3.out j3 jL jM
     cases J5
     replace j5:=(HB.out.cell (World.block_lt_of_cell? w _ j5)).trans j5
     replace j6:=(HB.out.cell (World.block_lt_of_cell? w _ j6)).trans j6
     replace j7:=(HB.out.cell (World.block_lt_of_cell? w _ j7)).trans j7
     replace j8:=(HB.out.cell (World.block_lt_of_cell? w _ j8)).trans j8
     replace j9:=(HB.out.cell (World.block_lt_of_cell? w _ j9)).trans j9
     replace ja:=(HB.out.cell (World.block_lt_of_cell? w _ ja)).trans ja
     replace jb:=(HB.out.cell (World.block_lt_of_cell? w _ jb)).trans jb
     replace jc:=(HB.out.cell (World.block_lt_of_cell? w _ jc)).trans jc
     have zG:=am hi28_5
     have zH:=am hl28_5
     clear hi28_5 hl28_5
     have jd:=am hi28_6
     have je:=am hl28_6
     clear hi28_6 hl28_6
     have ji:=am hi28_7
     have jj:=am hl28_7
     clear hi28_7 hl28_7
     replace jL:=eq_true jL
     replace jM:=eq_true jM
     go_upto_region 5 with (first|((with_reducible refine bJ (N:=6) rfl ?_);refine bR rfl (N:=6) rfl (cs:=#[.int .i64 0, .int .i64 0, .int .i64 0, .int .i64 0, .int .i64 0, .slice none 0 0, .slice none 0 0, .slice none 0 0]) (t:=70) rn_ ?_;intro jm hg w6 hbox hb;have j4:=am (hbox);have J6:=am ((by rw [hg];exact (aN dN):w.heap.size≤jm));have GE29:=am ((by rw [hg];exact (aN dN):w.heap.size≤jm));replace HB:=am (aC dN hb);clear hb hbox hg;obtain ⟨jn,jo,jp,jq,jr,js,jt,ju,jv,jw,jx,jy,jz,jA,jB,jC⟩:=eF j4.out))
     (try simp only [Act.put,List.setIfInBounds_toArray,List.set_cons_zero,List.set_cons_succ])
     go_cut [30] (fun J7 wc=>∃ (kq:Nat) (jh:Bool),J7= .bool jh∧Aside0 (bA.j1 kq l0 a1 j3 jh ((aG l0 j3).f0) ((aG l0 j3).f1) ((aG l0 j3).f2) ((aG l0 j3).f3.f0) ((aG l0 j3).f3.f1) ((aG l0 j3).f3.f2) ((aG l0 j3).f4) ((aG l0 j3).f5)=some r)∧Aside0 (kq≤k1)∧Aside0 (wc.heap[jm]?=some (.cells #[.int .i64 ((aG l0 j3).f0), .int .i64 ((aG l0 j3).f1), .int .i64 ((aG l0 j3).f2), .int .i64 ((aG l0 j3).f3.f0), .int .i64 ((aG l0 j3).f3.f1),(.slice jF ((aG l0 j3).f3.f2).length jG),(.slice jf ((aG l0 j3).f4).length jg),(.slice jH ((aG l0 j3).f5).length jI)] 70 (0,0)))∧Aside0 (Below w.heap.size w wc))
     case first=>
      have H:=zF.out
      clear zF
      by_cases c8:((aG l0 j3).f0)=4
      ·rw [if_pos c8] at H
       have jk:(((aG l0 j3).f0) == 4)=true:=beq_iff_eq.mpr c8
       have zI:(((aG l0 j3).f0) != 4)=false:=bne_eq_false_iff_eq.mpr c8
       clear c8
       (first|rw [jk]|(simp only [gT,gZ];rw [jk])|skip)
       have H':=am H
       clear H
       obtain ⟨zJ,zK,zL,zM,zN,zO,zP,zQ,zR,zS,zT,zU,zV,zW,zX,zY⟩:=eF j4.out
       go_wp2
       go_meet
       case rel=>exact ⟨_,(decide (((aG l0 j3).f2)≥a1)),sd_,H',⟨by have:=jl.out;first|omega|exact Nat.le_refl _⟩,⟨(aT (aT (aT (aT (aT (aT (aT (aT j4.out 0 _ rfl) 1 _ rfl) 2 _ rfl) 3 _ rfl) 4 _ rfl) 5 _ rfl) 6 _ rfl) 7 _ rfl)⟩,⟨sK⟩⟩
      rw [if_neg c8] at H
      have jk:(((aG l0 j3).f0) == 4)=false:=beq_eq_false_iff_ne.mpr c8
      have zI:(((aG l0 j3).f0) != 4)=true:=bne_iff_ne.mpr c8
      (first|rw [jk]|(simp only [gT,gZ];rw [jk])|skip)
      by_cases c10:((aG l0 j3).f0)=5
      ·rw [if_pos c10] at H
       have jJ:(((aG l0 j3).f0) == 5)=true:=beq_iff_eq.mpr c10
       have jK:(((aG l0 j3).f0) != 5)=false:=bne_eq_false_iff_eq.mpr c10
       clear c10
       have H':=am H
       clear H
       obtain ⟨jN,jO,jP,jQ,jR,jS,jT,jU,jV,jW,jX,jY,jZ,q0,q1,q2⟩:=eF j4.out
       go_wp2
       go_meet
       case rel=>exact ⟨_,(decide (((aG l0 j3).f2)≥a1)),sd_,H',⟨by have:=jl.out;first|omega|exact Nat.le_refl _⟩,⟨(aT (aT (aT (aT (aT (aT (aT (aT j4.out 0 _ rfl) 1 _ rfl) 2 _ rfl) 3 _ rfl) 4 _ rfl) 5 _ rfl) 6 _ rfl) 7 _ rfl)⟩,⟨sK⟩⟩
      rw [if_neg c10] at H
      have jJ:(((aG l0 j3).f0) == 5)=false:=beq_eq_false_iff_ne.mpr c10
      have jK:(((aG l0 j3).f0) != 5)=true:=bne_iff_ne.mpr c10
      have H':=am H
      clear H
      obtain ⟨q3,q4,q5,q6,q7,q8,q9,qa,qb,qc,qd,qe,qf,qg,qh,qi⟩:=eF j4.out
      go_wp2
      go_meet
      case rel=>exact ⟨_,(false),sd_,H',⟨by have:=jl.out;first|omega|exact Nat.le_refl _⟩,⟨(aT (aT (aT (aT (aT (aT (aT (aT j4.out 0 _ rfl) 1 _ rfl) 2 _ rfl) 3 _ rfl) 4 _ rfl) 5 _ rfl) 6 _ rfl) 7 _ rfl)⟩,⟨sK⟩⟩
     case rest=>
      clear zF
      try clear c3
      try clear jE
      try clear c4
      try clear zE
      try clear jn
      try clear jo
      try clear jp
      try clear jq
      try clear jr
      try clear js
      try clear jt
      try clear ju
      try clear jv
      try clear jw
      try clear jx
      try clear jy
      try clear jz
      try clear jA
      try clear jB
      try clear jC
      try clear j5
      try clear j6
      try clear j7
      try clear j8
      try clear j9
      try clear ja
      try clear jb
      try clear jc
      try clear jL
      try clear jM
      obtain ⟨kq,jh,rfl,HA,HJ4,j4,HB⟩:=hcut
      cases kq with
      |zero=>exact absurd HA.out (by simp [bA.j1])
      |succ jD=>
       have H:=HA.out
       clear HA
       simp only [bA.j1] at H
       by_cases qj:jh=true
       ·subst qj
        rw [if_pos rfl] at H
        obtain rfl:=Option.some.inj H
        go_wp2
        go_ret
        exact ⟨rr_,sK⟩
       replace qj:=Bool.eq_false_iff.mpr qj
       subst qj
       rw [if_neg (show ¬ (false=true) by decide)] at H
       obtain ⟨J8,J0,H⟩:=bsm H
       (try dsimp only at H)
       have zZ:=am J0
       clear J0
       by_cases qk:J8=true
       ·subst qk
        rw [if_pos rfl] at H
        obtain ⟨J9,J1,H⟩:=bsm H
        (try dsimp only at H)
        have J2:=am J1
        clear J1
        by_cases ql:J9=true
        ·subst ql
         rw [if_pos rfl] at H
         have H':=am H
         clear H
         obtain ⟨qm,qn,qo,qp,qq,qr,qs,qt,qu,qv,qw,qx,qy,qz,qA,qB⟩:=eF j4.out
         go_wp2_with (first|((with_reducible refine aD (f:=68) rfl ?_);refine aU (some 34) rfl rfl Try.func68 (by kernel_rfl) rfl #[.slice jf ((aG l0 j3).f4).length jg, .int .i64 a1] rfl dK ?_;(with_reducible refine (ih jD (by have:=jl.out;have:=HJ4.out;omega) _ _ ((aG l0 j3).f4) a1 true _ (aC_ (Kd.aI jd.out HB.out)) je.out zZ.out).mono ?_);rintro e Jb ⟨rfl,hb⟩;refine ⟨_,rfl,?_⟩;replace j4:=bbP j4 hb;replace HB:=am (aC sK hb);(try clear hb);obtain ⟨qC,qD,qE,qF,qG,qH,qI,qJ,qK,qL,qM,qN,qO,qP,qQ,qR⟩:=eF j4.out)|(go_at_call 68;(with_reducible refine (ih jD (by have:=jl.out;have:=HJ4.out;omega) _ _ ((aG l0 j3).f5) a1 true _ (aC_ (Kd.aI ji.out HB.out)) jj.out J2.out).mono ?_);rintro e Jc ⟨rfl,hb⟩;replace j4:=bbP j4 hb;replace HB:=am (aC sK hb);(try clear hb)))
         go_roundg jD
         case measure=>have:=jl.out;have:=HJ4.out;omega
         case rel=>exact ⟨(wrap64 (j3 + 1)),sd_,H',⟨by have:=jl.out;have:=HJ4.out;omega⟩,⟨sK⟩⟩
        replace ql:=Bool.eq_false_iff.mpr ql
        subst ql
        rw [if_neg (show ¬ (false=true) by decide)] at H
        obtain rfl:=Option.some.inj H
        obtain ⟨qS,qT,qU,qV,qW,qX,qY,qZ,z0,z1,z2,z3,z4,z5,z6,z7⟩:=eF j4.out
        go_wp2_with (first|((with_reducible refine aD (f:=68) rfl ?_);refine aU (some 34) rfl rfl Try.func68 (by kernel_rfl) rfl #[.slice jf ((aG l0 j3).f4).length jg, .int .i64 a1] rfl dK ?_;(with_reducible refine (ih jD (by have:=jl.out;have:=HJ4.out;omega) _ _ ((aG l0 j3).f4) a1 true _ (aC_ (Kd.aI jd.out HB.out)) je.out zZ.out).mono ?_);rintro e Jd ⟨rfl,hb⟩;refine ⟨_,rfl,?_⟩;replace j4:=bbP j4 hb;replace HB:=am (aC sK hb);(try clear hb);obtain ⟨z8,z9,za,zb,zc,zd,ze,zf,zg,zh,zi,zj,zk,zl,zm,zn⟩:=eF j4.out)|(go_at_call 68;(with_reducible refine (ih jD (by have:=jl.out;have:=HJ4.out;omega) _ _ ((aG l0 j3).f5) a1 false _ (aC_ (Kd.aI ji.out HB.out)) jj.out J2.out).mono ?_);rintro e Je ⟨rfl,hb⟩;replace j4:=bbP j4 hb;replace HB:=am (aC sK hb);(try clear hb)))
        go_ret
        exact ⟨rr_,sK⟩
       replace qk:=Bool.eq_false_iff.mpr qk
       subst qk
       rw [if_neg (show ¬ (false=true) by decide)] at H
       obtain rfl:=Option.some.inj H
       obtain ⟨zo,zp,zq,zr,zs,zt,zu,zv,zw,zx,zy,zz,zA,zB,zC,zD⟩:=eF j4.out
       go_wp2_with (first|((with_reducible refine aD (f:=68) rfl ?_);refine aU (some 34) rfl rfl Try.func68 (by kernel_rfl) rfl #[.slice jf ((aG l0 j3).f4).length jg, .int .i64 a1] rfl dK ?_;(with_reducible refine (ih jD (by have:=jl.out;have:=HJ4.out;omega) _ _ ((aG l0 j3).f4) a1 false _ (aC_ (Kd.aI jd.out HB.out)) je.out zZ.out).mono ?_);rintro e Jf ⟨rfl,hb⟩;refine ⟨_,rfl,?_⟩;replace j4:=bbP j4 hb;replace HB:=am (aC sK hb);(try clear hb)))
       go_ret
       exact ⟨rr_,sK⟩
    rw [if_neg c4] at H
    exact absurd H (by simp)
   rw [if_neg c3] at H
   have jE:decide (j3 < (l0.length:Int))=false:=decide_eq_false c3
   clear c3
   obtain rfl:=Option.some.inj H
   go_wp2
   go_ret
   exact ⟨rr_,dN⟩
theorem aQ.mono_l:∀ k,(∀ y0 y1 y2,LeO (aQ.j0 k y0 y1 y2) (aQ.j0 (k + 1) y0 y1 y2))∧(∀ y0 y1 y2,LeO (aQ.l0 k y0 y1 y2) (aQ.l0 (k + 1) y0 y1 y2))
 |0=>⟨fun _ _ _ r h=>by simp [aQ.j0] at h,fun _ _ _ r h=>by simp [aQ.l0] at h⟩
 |k + 1=>by
  obtain ⟨ih0,ih1⟩:=aQ.mono_l k
  refine ⟨?_,?_⟩
  ·intro y0 y1 y2
   unfold aQ.j0
   have m0:=@eO.mono
   have m1:=@bA.mono
   have m2:=@cO.mono
   exact mo_
  ·intro y0 y1 y2
   unfold aQ.l0
   have m0:=@eO.mono
   have m1:=@bA.mono
   have m2:=@cO.mono
   exact mo_
theorem aQ.mono:∀ a0 a1 k,LeO (aQ.f k a0 a1) (aQ.f (k + 1) a0 a1):=by
 intro a0 a1 k
 obtain ⟨ih0,ih1⟩:=aQ.mono_l k
 unfold aQ.f
 have m0:=@eO.mono
 have m1:=@bA.mono
 have m2:=@cO.mono
 exact mo_
def aQ.T6:Bool × List (List Nat × List Nat):=(true,[([],[]),([0],[0]),([],[]),([1,2],[1,2]),([3],[3]),([4],[4]),([5],[5]),([6,5],[6]),([7],[7]),([8,7],[7,8]),([7],[7]),([9,10,7],[7,9,10]),([11,7],[7,11]),([7],[7]),([13,7],[7,13]),([14,7],[7,14]),([12,15,7,7],[7,12,15]),([16,7],[7,16]),([7,17],[7,17])])
def aQ.B6:List Nat:=[0,1,0,7,15,31,63,127,255,511,255,2047,4095,255,8447,24831,65535,131071,262143]
theorem aQ.yQ:kZ .any (opsOf Try.f45 6)=aQ.T6:=by kernel_rfl
theorem aQ.sM:kG aQ.T6.2 aQ.B6=true:=by kernel_rfl
theorem aQ.calls (k:Nat) (je:Option Addr) (jf:Nat) (j8:List Int) (jl:Option Addr) (jh:Nat) (j5:List (List (S70))) (r:Bool) (w:World) (hr0_0:Kd.C (Kd.int .i64) w je j8.length j8) (hc0_0:j8.length≤jf) (hr0_1:Kd.C (Kd.slice 70 k70) w jl j5.length j5) (hc0_1:j5.length≤jh) (h:aQ.f k j8 j5=some r):
  Calls Try.prog 45 #[.agg #[.slice je j8.length jf, .slice jl j5.length jh]] w fun e w'=>e= .returned (.bool r)∧Below w.heap.size w w':=by
 have hu51:=Try.underlying51
 have jq:=am hr0_0
 have jr:=am hc0_0
 clear hr0_0 hc0_0
 have ji:=am hr0_1
 have q2:=am hc0_1
 clear hr0_1 hc0_1
 have HB:=am (Below.refl w.heap.size w)
 unfold aQ.f at h
 have H:=h
 clear h
 have jR:=am H
 clear H
 go_enter Try.func45,Try.ntmps45
 go_upto_region 1 with (first|((with_reducible refine bJ (N:=1) rfl ?_);(try (refine lW (by rfl) ?_;dsimp only));refine bR rfl (N:=1) rfl (cs:=#[.slice je j8.length jf, .slice jl j5.length jh]) (t:=51) rn_ ?_;intro jg hg w3 hbox hb;have j3:=am (hbox);have qa:=am ((by rw [hg];exact (aN dN):w.heap.size≤jg));have GE43:=am ((by rw [hg];exact (aN dN):w.heap.size≤jg));replace HB:=am (aC dN hb);clear hb hbox hg))
 (try simp only [Act.put,List.setIfInBounds_toArray,List.set_cons_zero,List.set_cons_succ])
 go_cut [14] (fun qb wc=>∃ (kq:Nat) (jk:Bool),qb= .bool jk∧Aside0 (aQ.j0 kq jk j8 j5=some r)∧Aside0 (kq≤k)∧Aside0 (wc.heap[jg]?=some (.cells #[(.slice je j8.length jf),(.slice jl j5.length jh)] 51 (0,0)))∧Aside0 (Below w.heap.size w wc))
 case first=>
  have H:=jR.out
  clear jR
  obtain ⟨qc,A4,H⟩:=bsa H
  (try dsimp only at H)
  by_cases c5:qc=true
  ·subst c5
   rw [if_pos rfl] at H
   obtain ⟨q3,A6,H⟩:=bsa H
   (try dsimp only at H)
   have H':=am H
   clear H
   obtain ⟨jS,jT,jU,jV⟩:=iP j3.out
   go_wp2_with (first|((with_reducible refine aD (f:=67) rfl ?_);refine aU (some 6) rfl rfl Try.func67 (by kernel_rfl) rfl #[.slice je j8.length jf] rfl dK ?_;(with_reducible refine (cO.calls k _ _ j8 true _ (aC_ (Kd.aI jq.out HB.out)) jr.out A4.out).mono ?_);rintro e w' ⟨rfl,⟨nd,rfl⟩⟩;refine ⟨_,rfl,?_⟩)|(go_at_call 59;(with_reducible refine (fD.calls (j5.length:Int) 1 3 q3 _ A6.out).mono ?_);rintro e w' ⟨rfl,⟨nd,rfl⟩⟩))
   go_meet
   case rel=>exact ⟨_,(!q3),sd_,H',⟨by first|omega|exact Nat.le_refl _⟩,⟨by (with_reducible repeat (first|refine gK ?_ _|refine eH ?_|refine fH ?_ _));exact j3.out⟩,⟨rF⟩⟩
  replace c5:=Bool.eq_false_iff.mpr c5
  subst c5
  rw [if_neg (show ¬ (false=true) by decide)] at H
  have H':=am H
  clear H
  obtain ⟨jW,jX,jY,jZ⟩:=iP j3.out
  go_wp2_with (first|((with_reducible refine aD (f:=67) rfl ?_);refine aU (some 6) rfl rfl Try.func67 (by kernel_rfl) rfl #[.slice je j8.length jf] rfl dK ?_;(with_reducible refine (cO.calls k _ _ j8 false _ (aC_ (Kd.aI jq.out HB.out)) jr.out A4.out).mono ?_);rintro e w' ⟨rfl,⟨nd,rfl⟩⟩;refine ⟨_,rfl,?_⟩))
  go_meet
  case rel=>exact ⟨_,(true),sd_,H',⟨by first|omega|exact Nat.le_refl _⟩,⟨by (with_reducible repeat (first|refine gK ?_ _|refine eH ?_|refine fH ?_ _));exact j3.out⟩,⟨rF⟩⟩
 case rest=>
  clear jR
  obtain ⟨kq,jk,rfl,HA,HJ1,j3,HB⟩:=hcut
  cases kq with
  |zero=>exact absurd HA.out (by simp [aQ.j0])
  |succ q4=>
   have H:=HA.out
   clear HA
   simp only [aQ.j0] at H
   by_cases c9:jk=true
   ·subst c9
    rw [if_pos rfl] at H
    obtain rfl:=Option.some.inj H
    go_wp2
    go_ret
    exact ⟨rr_,rF⟩
   replace c9:=Bool.eq_false_iff.mpr c9
   subst c9
   rw [if_neg (show ¬ (false=true) by decide)] at H
   have H':=am H
   clear H
   go_wp2
   go_loopg [3] q4 (fun kq v3 w'=>∃ (j4:Int),v3= .int .i64 j4∧Aside0 (aQ.l0 kq j4 j8 j5=some r)∧Aside0 (kq≤q4)∧Aside0 (w'.heap[jg]?=some (.cells #[(.slice je j8.length jf),(.slice jl j5.length jh)] 51 (0,0)))∧Aside0 (Below w.heap.size w w'))
   case atStart=>exact ⟨(0),sd_,H',⟨Nat.le_refl _⟩,⟨by (with_reducible repeat (first|refine gK ?_ _|refine eH ?_|refine fH ?_ _));exact j3.out⟩,⟨rF⟩⟩
   case round=>
    clear H'
    try clear c9
    obtain ⟨j4,rfl,HA,q5,j3,HB⟩:=hrel
    cases gk with
    |zero=>exact absurd HA.out (by simp [aQ.l0])
    |succ k2=>
     have H:=HA.out
     clear HA
     simp only [aQ.l0] at H
     by_cases c10:j4 < (j5.length:Int)
     ·rw [if_pos c10] at H
      have jw:decide (j4 < (j5.length:Int))=true:=decide_eq_true c10
      clear c10
      by_cases jy:0≤j4
      ·rw [if_pos jy] at H
       have q6:decide (0≤j4)=true:=decide_eq_true jy
       clear jy
       obtain ⟨qd,q7,H⟩:=bsm H
       (try dsimp only at H)
       have q0:=am q7
       clear q7
       by_cases jz:qd=true
       ·subst jz
        rw [if_pos rfl] at H
        obtain ⟨qe,q8,H⟩:=bsm H
        (try dsimp only at H)
        have q9:=am q8
        clear q8
        by_cases jA:qe=true
        ·subst jA
         rw [if_pos rfl] at H
         have H':=am H
         clear H
         obtain ⟨jB,jC,jD,jE⟩:=iP j3.out
         try go_wp2
         replace j3:=am (eH j3.out)
         replace HB:=am (bX HB.out)
         have jm:0≤(j4:Int):=of_decide_eq_true bT
         have jn:j4 < (j5.length:Int):=of_decide_eq_true bT
         obtain ⟨jd,ja,jb,jx,j6,hl49_0,hi49_0⟩:=nY ji.out j4 jm jn
         have hw49_0:=j6
         cases jx
         replace j6:=(HB.out.cell (World.block_lt_of_cell? w _ j6)).trans j6
         have j9:=am hi49_0
         have jc:=am hl49_0
         clear hi49_0 hl49_0
         replace jm:=eq_true jm
         replace jn:=eq_true jn
         have js:0≤(j4:Int):=of_decide_eq_true bT
         have jt:j4 < (j5.length:Int):=of_decide_eq_true bT
         obtain ⟨ju,jo,jp,q1,j7,hl50_0,hi50_0⟩:=nY ji.out j4 js jt
         have hw50_0:=j7
         obtain rfl:jd=ju:=(by injection q1)
         replace j7:=(HB.out.cell (World.block_lt_of_cell? w _ j7)).trans j7
         have jj:=am hi50_0
         have jv:=am hl50_0
         clear hi50_0 hl50_0
         replace js:=eq_true js
         replace jt:=eq_true jt
         refine nD (n:=19) (S:=fun w'=>w'.cell? ⟨jg,0,none⟩=some (.slice je j8.length jf)∧w'.cell? ⟨jg,1,none⟩=some (.slice (some jd) j5.length jh)∧w'.cell? (jd.add (j4).toNat)=some (.slice ja (fU j5 j4).length jb)∧w'.cell? (jd.add (j4).toNat)=some (.slice jo (fU j5 j4).length jp)) (ds:=[]) (bz 19 0) (by kernel_rfl) rfl rfl ⟨(aA j3.out 0).trans rfl,(aA j3.out 1).trans rfl,((HB.out.cell (World.block_lt_of_cell? w _ hw49_0)).trans hw49_0),((HB.out.cell (World.block_lt_of_cell? w _ hw50_0)).trans hw50_0)⟩ (fun hHeld=>?_);refine iY aQ.yQ aQ.sM (fun HT_ HW_=>?_)
         generalize wr.drew=qf at j3 HB j9 jj j6 j7 hHeld ⊢
         refine pr_ 0 22 (bz 19 1) HT_ ?_
         refine pr_ 2 24 (bz 19 5) HT_ ?_
         refine DR 1 23 (bz 19 7) HT_ HW_ hHeld ?_
         refine pr_ 3 25 (bz 19 15) HT_ ?_
         refine DR 4 26 (bz 19 31) HT_ HW_ hHeld ?_
         refine pI (i:=5) (N:=some 27) (bz 19 63) rfl rfl (iO HT_.out (by kernel_rfl)) (by decide) (fun K hK=>?_)
         refine lH Try.func37 (by kernel_rfl) rfl #[.slice ja (fU j5 j4).length jb] (by rfl) rfl rfl dK ?_
         with_reducible refine (eO.calls k2 _ _ (fU j5 j4) true _ (aC_ (Kd.aI j9.out HB.out)) jc.out q0.out).mono ?_
         rintro e qg ⟨rfl,hb⟩
         refine ⟨_,rfl,?_⟩
         replace j3:=bbP j3 hb
         replace HB:=am (aC rF hb)
         (try clear hb)
         (try clear hb2)
         (try clear hk)
         (try clear hi)
         refine hK.out _ _ ⟨(aA j3.out 0).trans rfl,(aA j3.out 1).trans rfl,((HB.out.cell (World.block_lt_of_cell? w _ hw49_0)).trans hw49_0),((HB.out.cell (World.block_lt_of_cell? w _ hw50_0)).trans hw50_0)⟩ (fun hHeld=>?_)
         clear hK K
         refine lQ (a':=?_) ?_ ?_
         rotate_left
         ·exact ap_ (N:=27)
         refine pr_ 6 28 (bz 19 127) HT_ ?_
         refine pr_ 7 29 (bz 19 255) HT_ ?_
         refine pr_ 8 30 (bz 19 511) HT_ ?_
         refine pr_ 10 32 (bz 19 1535) HT_ ?_
         refine pr_ 13 35 (bz 19 9727) HT_ ?_
         refine DR 9 31 (bz 19 10239) HT_ HW_ hHeld ?_
         refine pr_ 11 33 (bz 19 12287) HT_ ?_
         refine DR 12 34 (bz 19 16383) HT_ HW_ hHeld ?_
         refine DR 14 36 (bz 19 32767) HT_ HW_ hHeld ?_
         refine pr_ 15 37 (bz 19 65535) HT_ ?_
         refine pI (i:=16) (N:=some 38) (bz 19 131071) rfl rfl (iO HT_.out (by kernel_rfl)) (by decide) (fun K hK=>?_)
         refine lH Try.func68 (by kernel_rfl) rfl #[.slice ja (fU j5 j4).length jb, .int .i64 (j8.length:Int)] (by rfl) rfl rfl dK ?_
         with_reducible refine (bA.calls k2 _ _ (fU j5 j4) (j8.length:Int) true _ (aC_ (Kd.aI j9.out HB.out)) jc.out q9.out).mono ?_
         rintro e qh ⟨rfl,hb⟩
         refine ⟨_,rfl,?_⟩
         replace j3:=bbP j3 hb
         replace HB:=am (aC rF hb)
         (try clear hb)
         (try clear hb2)
         (try clear hk)
         (try clear hi)
         refine hK.out _ _ ⟨(aA j3.out 0).trans rfl,(aA j3.out 1).trans rfl,((HB.out.cell (World.block_lt_of_cell? w _ hw49_0)).trans hw49_0),((HB.out.cell (World.block_lt_of_cell? w _ hw50_0)).trans hw50_0)⟩ (fun hHeld=>?_)
         clear hK K
         refine lQ (a':=?_) ?_ ?_
         rotate_left
         ·exact ap_ (N:=38)
         refine pr_ 17 39 (bz 19 262143) HT_ ?_
         refine pr_ 18 40 (bz 19 524287) HT_ ?_
         refine rG (lJ HT_.out (by kernel_rfl)) ?_
         try go_wp2
         go_roundg k2
         case measure=>have:=HJ1.out;have:=q5.out;omega
         case rel=>exact ⟨(wrap64 (j4 + 1)),sd_,H',⟨by have:=HJ1.out;have:=q5.out;omega⟩,⟨by (with_reducible repeat (first|refine gK ?_ _|refine eH ?_|refine fH ?_ _));exact j3.out⟩,⟨rF⟩⟩
        replace jA:=Bool.eq_false_iff.mpr jA
        subst jA
        rw [if_neg (show ¬ (false=true) by decide)] at H
        obtain rfl:=Option.some.inj H
        obtain ⟨jF,jG,jH,jI⟩:=iP j3.out
        try go_wp2
        replace j3:=am (eH j3.out)
        replace HB:=am (bX HB.out)
        have jm:0≤(j4:Int):=of_decide_eq_true bT
        have jn:j4 < (j5.length:Int):=of_decide_eq_true bT
        obtain ⟨jd,ja,jb,jx,j6,hl49_0,hi49_0⟩:=nY ji.out j4 jm jn
        have hw49_0:=j6
        cases jx
        replace j6:=(HB.out.cell (World.block_lt_of_cell? w _ j6)).trans j6
        have j9:=am hi49_0
        have jc:=am hl49_0
        clear hi49_0 hl49_0
        replace jm:=eq_true jm
        replace jn:=eq_true jn
        have js:0≤(j4:Int):=of_decide_eq_true bT
        have jt:j4 < (j5.length:Int):=of_decide_eq_true bT
        obtain ⟨ju,jo,jp,q1,j7,hl50_0,hi50_0⟩:=nY ji.out j4 js jt
        have hw50_0:=j7
        obtain rfl:jd=ju:=(by injection q1)
        replace j7:=(HB.out.cell (World.block_lt_of_cell? w _ j7)).trans j7
        have jj:=am hi50_0
        have jv:=am hl50_0
        clear hi50_0 hl50_0
        replace js:=eq_true js
        replace jt:=eq_true jt
        refine nD (n:=19) (S:=fun w'=>w'.cell? ⟨jg,0,none⟩=some (.slice je j8.length jf)∧w'.cell? ⟨jg,1,none⟩=some (.slice (some jd) j5.length jh)∧w'.cell? (jd.add (j4).toNat)=some (.slice ja (fU j5 j4).length jb)∧w'.cell? (jd.add (j4).toNat)=some (.slice jo (fU j5 j4).length jp)) (ds:=[]) (bz 19 0) (by kernel_rfl) rfl rfl ⟨(aA j3.out 0).trans rfl,(aA j3.out 1).trans rfl,((HB.out.cell (World.block_lt_of_cell? w _ hw49_0)).trans hw49_0),((HB.out.cell (World.block_lt_of_cell? w _ hw50_0)).trans hw50_0)⟩ (fun hHeld=>?_);refine iY aQ.yQ aQ.sM (fun HT_ HW_=>?_)
        generalize wr.drew=qi at j3 HB j9 jj j6 j7 hHeld ⊢
        refine pr_ 0 22 (bz 19 1) HT_ ?_
        refine pr_ 2 24 (bz 19 5) HT_ ?_
        refine DR 1 23 (bz 19 7) HT_ HW_ hHeld ?_
        refine pr_ 3 25 (bz 19 15) HT_ ?_
        refine DR 4 26 (bz 19 31) HT_ HW_ hHeld ?_
        refine pI (i:=5) (N:=some 27) (bz 19 63) rfl rfl (iO HT_.out (by kernel_rfl)) (by decide) (fun K hK=>?_)
        refine lH Try.func37 (by kernel_rfl) rfl #[.slice ja (fU j5 j4).length jb] (by rfl) rfl rfl dK ?_
        with_reducible refine (eO.calls k2 _ _ (fU j5 j4) true _ (aC_ (Kd.aI j9.out HB.out)) jc.out q0.out).mono ?_
        rintro e qj ⟨rfl,hb⟩
        refine ⟨_,rfl,?_⟩
        replace j3:=bbP j3 hb
        replace HB:=am (aC rF hb)
        (try clear hb)
        (try clear hb2)
        (try clear hk)
        (try clear hi)
        refine hK.out _ _ ⟨(aA j3.out 0).trans rfl,(aA j3.out 1).trans rfl,((HB.out.cell (World.block_lt_of_cell? w _ hw49_0)).trans hw49_0),((HB.out.cell (World.block_lt_of_cell? w _ hw50_0)).trans hw50_0)⟩ (fun hHeld=>?_)
        clear hK K
        refine lQ (a':=?_) ?_ ?_
        rotate_left
        ·exact ap_ (N:=27)
        refine pr_ 6 28 (bz 19 127) HT_ ?_
        refine pr_ 7 29 (bz 19 255) HT_ ?_
        refine pr_ 8 30 (bz 19 511) HT_ ?_
        refine pr_ 10 32 (bz 19 1535) HT_ ?_
        refine pr_ 13 35 (bz 19 9727) HT_ ?_
        refine DR 9 31 (bz 19 10239) HT_ HW_ hHeld ?_
        refine pr_ 11 33 (bz 19 12287) HT_ ?_
        refine DR 12 34 (bz 19 16383) HT_ HW_ hHeld ?_
        refine DR 14 36 (bz 19 32767) HT_ HW_ hHeld ?_
        refine pr_ 15 37 (bz 19 65535) HT_ ?_
        refine pI (i:=16) (N:=some 38) (bz 19 131071) rfl rfl (iO HT_.out (by kernel_rfl)) (by decide) (fun K hK=>?_)
        refine lH Try.func68 (by kernel_rfl) rfl #[.slice ja (fU j5 j4).length jb, .int .i64 (j8.length:Int)] (by rfl) rfl rfl dK ?_
        with_reducible refine (bA.calls k2 _ _ (fU j5 j4) (j8.length:Int) false _ (aC_ (Kd.aI j9.out HB.out)) jc.out q9.out).mono ?_
        rintro e qk ⟨rfl,hb⟩
        refine ⟨_,rfl,?_⟩
        replace j3:=bbP j3 hb
        replace HB:=am (aC rF hb)
        (try clear hb)
        (try clear hb2)
        (try clear hk)
        (try clear hi)
        refine hK.out _ _ ⟨(aA j3.out 0).trans rfl,(aA j3.out 1).trans rfl,((HB.out.cell (World.block_lt_of_cell? w _ hw49_0)).trans hw49_0),((HB.out.cell (World.block_lt_of_cell? w _ hw50_0)).trans hw50_0)⟩ (fun hHeld=>?_)
        clear hK K
        refine lQ (a':=?_) ?_ ?_
        rotate_left
        ·exact ap_ (N:=38)
        refine pr_ 17 39 (bz 19 262143) HT_ ?_
        refine pr_ 18 40 (bz 19 524287) HT_ ?_
        refine rG (lJ HT_.out (by kernel_rfl)) ?_
        try go_wp2
        go_ret
        exact ⟨rr_,rF⟩
       replace jz:=Bool.eq_false_iff.mpr jz
       subst jz
       rw [if_neg (show ¬ (false=true) by decide)] at H
       obtain rfl:=Option.some.inj H
       obtain ⟨jJ,jK,jL,jM⟩:=iP j3.out
       try go_wp2
       replace j3:=am (eH j3.out)
       replace HB:=am (bX HB.out)
       have jm:0≤(j4:Int):=of_decide_eq_true bT
       have jn:j4 < (j5.length:Int):=of_decide_eq_true bT
       obtain ⟨jd,ja,jb,jx,j6,hl49_0,hi49_0⟩:=nY ji.out j4 jm jn
       have hw49_0:=j6
       cases jx
       replace j6:=(HB.out.cell (World.block_lt_of_cell? w _ j6)).trans j6
       have j9:=am hi49_0
       have jc:=am hl49_0
       clear hi49_0 hl49_0
       replace jm:=eq_true jm
       replace jn:=eq_true jn
       refine nD (n:=19) (S:=fun w'=>w'.cell? ⟨jg,0,none⟩=some (.slice je j8.length jf)∧w'.cell? ⟨jg,1,none⟩=some (.slice (some jd) j5.length jh)∧w'.cell? (jd.add (j4).toNat)=some (.slice ja (fU j5 j4).length jb)) (ds:=[]) (bz 19 0) (by kernel_rfl) rfl rfl ⟨(aA j3.out 0).trans rfl,(aA j3.out 1).trans rfl,((HB.out.cell (World.block_lt_of_cell? w _ hw49_0)).trans hw49_0)⟩ (fun hHeld=>?_);refine iY aQ.yQ aQ.sM (fun HT_ HW_=>?_)
       generalize wr.drew=ql at j3 HB j9 j6 hHeld ⊢
       refine pr_ 0 22 (bz 19 1) HT_ ?_
       refine pr_ 2 24 (bz 19 5) HT_ ?_
       refine aCr 1 23 (bz 19 7) HT_ HW_ hHeld ?_
       refine pr_ 3 25 (bz 19 15) HT_ ?_
       refine aCr 4 26 (bz 19 31) HT_ HW_ hHeld ?_
       refine pI (i:=5) (N:=some 27) (bz 19 63) rfl rfl (iO HT_.out (by kernel_rfl)) (by decide) (fun K hK=>?_)
       refine lH Try.func37 (by kernel_rfl) rfl #[.slice ja (fU j5 j4).length jb] (by rfl) rfl rfl dK ?_
       with_reducible refine (eO.calls k2 _ _ (fU j5 j4) false _ (aC_ (Kd.aI j9.out HB.out)) jc.out q0.out).mono ?_
       rintro e qm ⟨rfl,hb⟩
       refine ⟨_,rfl,?_⟩
       replace j3:=bbP j3 hb
       replace HB:=am (aC rF hb)
       (try clear hb)
       (try clear hb2)
       (try clear hk)
       (try clear hi)
       refine hK.out _ _ ⟨(aA j3.out 0).trans rfl,(aA j3.out 1).trans rfl,((HB.out.cell (World.block_lt_of_cell? w _ hw49_0)).trans hw49_0)⟩ (fun hHeld=>?_)
       clear hK K
       refine lQ (a':=?_) ?_ ?_
       rotate_left
       ·exact ap_ (N:=27)
       refine pr_ 6 28 (bz 19 127) HT_ ?_
       refine pr_ 7 29 (bz 19 255) HT_ ?_
       refine pu_ 8 30 (bz 19 511) HT_ ?_
       refine pu_ 9 31 (bz 19 1023) HT_ ?_
       refine pu_ 10 32 (bz 19 2047) HT_ ?_
       refine pu_ 11 33 (bz 19 4095) HT_ ?_
       refine pu_ 12 34 (bz 19 8191) HT_ ?_
       refine pu_ 13 35 (bz 19 16383) HT_ ?_
       refine pu_ 14 36 (bz 19 32767) HT_ ?_
       refine pu_ 15 37 (bz 19 65535) HT_ ?_
       refine pu_ 16 38 (bz 19 131071) HT_ ?_
       refine pu_ 17 39 (bz 19 262143) HT_ ?_
       refine pr_ 18 40 (bz 19 524287) HT_ ?_
       refine rG (lJ HT_.out (by kernel_rfl)) ?_
       try go_wp2
       go_ret
       exact ⟨rr_,rF⟩
      rw [if_neg jy] at H
      exact absurd H (by simp)
     rw [if_neg c10] at H
     have jw:decide (j4 < (j5.length:Int))=false:=decide_eq_false c10
     clear c10
     obtain rfl:=Option.some.inj H
     obtain ⟨jN,jO,jP,jQ⟩:=iP j3.out
     go_wp2
     go_ret
     exact ⟨rr_,rF⟩
theorem aY.mono_l:∀ k,(∀ y0 y1 y2 y3 y4,LeO (aY.l0 k y0 y1 y2 y3 y4) (aY.l0 (k + 1) y0 y1 y2 y3 y4))
 |0=>fun _ _ _ _ _ r h=>by simp [aY.l0] at h
 |k + 1=>by
  have ih0:=aY.mono_l k
  ·intro y0 y1 y2 y3 y4
   unfold aY.l0
   have m0:=@aQ.mono
   have m1:=@aX.mono
   exact mo_
theorem aY.mono:∀ a0 a1 k,LeO (aY.f k a0 a1) (aY.f (k + 1) a0 a1):=by
 intro a0 a1 k
 have ih0:=aY.mono_l k
 unfold aY.f
 have m0:=@aQ.mono
 have m1:=@aX.mono
 exact mo_
def aY.T7:Bool × List (List Nat × List Nat):=(true,[([],[]),([0],[0]),([],[]),([2],[2]),([],[]),([3,4],[3,4]),([5],[5]),([6],[6]),([7],[7]),([1,8,7],[1,8]),([0,1,2,3,4,5,6,7,8,9],[]),([10,9,9,0,1,2,3,4,5,6,7,8,9],[9,10])])
def aY.B7:List Nat:=[0,1,0,4,0,28,60,124,252,511,1023,2047]
theorem aY.aAk:kZ .any (opsOf Try.f21 7)=aY.T7:=by kernel_rfl
theorem aY.NW:kG aY.T7.2 aY.B7=true:=by kernel_rfl
theorem aY.calls (k:Nat) (jm:Option Addr) (jn:Nat) (j9:List Int) (js:Option Addr) (jo:Nat) (j6:List (List (S70))) (r1:List Int) (r2:List (List (S70))) (r3:Bool) (w:World) (hr0_0:Kd.C (Kd.int .i64) w jm j9.length j9) (hc0_0:j9.length≤jn) (hr0_1:Kd.C (Kd.slice 70 k70) w js j6.length j6) (hc0_1:j6.length≤jo) (h:aY.f k j9 j6=some (r1,r2,r3)):
  Calls Try.prog 21 #[.agg #[.slice jm j9.length jn, .slice js j6.length jo]] w fun e w'=>∃ v0_ v1_:Value,e= .returned (.tuple #[.agg #[v0_,v1_], .bool r3])∧Kd.R (Kd.int .i64) 3 w' w.heap.size (fun k_=>(w.heap.size≤k_)) v0_ r1∧Kd.N (Kd.slice 70 k70) 37 w' w.heap.size (fun k_=>(w.heap.size≤k_)∧some k_≠(v0_:Value).ownBlock) v1_ r2∧Below w.heap.size w w':=by
 have hu51:=Try.underlying51
 have ju:=am hr0_0
 have jI:=am hc0_0
 clear hr0_0 hc0_0
 have jv:=am hr0_1
 have jJ:=am hc0_1
 clear hr0_1 hc0_1
 have HB:=am (Below.refl w.heap.size w)
 unfold aY.f at h
 have H:=h
 clear h
 obtain ⟨qY,A2,H⟩:=bsa H
 (try dsimp only at H)
 have HH_:=am H
 clear H
 go_enter Try.func21,Try.ntmps21
 go_upto_region 1 with (first|((with_reducible refine bJ (N:=1) rfl ?_);refine bR rfl (N:=1) rfl (cs:=#[.slice jm j9.length jn, .slice js j6.length jo]) (t:=51) rn_ ?_;intro jb hg w5 hbox hb;have j3:=am (hbox);have qZ:=am ((by rw [hg];exact (aN dN):w.heap.size≤jb));have GE48:=am ((by rw [hg];exact (aN dN):w.heap.size≤jb));replace HB:=am (aC dN hb);clear hb hbox hg)|((with_reducible refine bJ (N:=2) rfl ?_);refine bR rfl (N:=2) rfl (cs:=#[.slice none 0 0, .slice none 0 0]) (t:=51) rn_ ?_;intro j8 hg w6 hbox hb;have j4:=am (hbox);have z0:=am ((by rw [hg];exact (aN RZ):w.heap.size≤j8));have GE50:=am ((by rw [hg];exact (aN RZ):w.heap.size≤j8));replace HB:=am (aC RZ hb);have jp:=am ((by rw [hg];exact Nat.ne_of_lt (oD j3.out):jb≠j8));have jq:=am ((by rw [hg];exact Nat.ne_of_gt (oD j3.out):j8≠jb));replace j3:=bbP j3 hb;clear hb hbox hg;have z1:=jp.out;have z2:=jq.out;obtain ⟨jM,jN,jO,jP⟩:=iP j3.out))
 have H:=HH_.out
 clear HH_
 by_cases c3:qY=true
 ·subst c3
  rw [if_pos rfl] at H
  obtain ⟨jZ,hy_⟩:∃ y_:List Int,y_=(([]:List Int)):=⟨_,rfl⟩
  replace H:(if jZ.length + j9.length < 17592186044416 then (aY.l0 k 0 j9 j6 (jZ ++ j9) (([]:List (List (S70))))) else (none))=some (r1,r2,r3):=rx_
  have q0:=am hy_
  clear hy_
  by_cases c4:jZ.length + j9.length < 17592186044416
  ·rw [if_pos c4] at H
   have qw:=am c4
   clear c4
   obtain ⟨jl,hy_⟩:∃ y_:List Int,y_=(jZ ++ j9):=⟨_,rfl⟩
   replace H:(aY.l0 k 0 j9 j6 jl (([]:List (List (S70)))))=some (r1,r2,r3):=rx_
   have qx:=am hy_
   clear hy_
   obtain ⟨q1,hy_⟩:∃ y_:List (List (S70)),y_=(([]:List (List (S70)))):=⟨_,rfl⟩
   replace H:(aY.l0 k 0 j9 j6 jl q1)=some (r1,r2,r3):=rx_
   have q2:=am hy_
   clear hy_
   have H':=am H
   clear H
   go_wp2_with (first|((with_reducible refine aD (f:=45) rfl ?_);refine aU (some 7) rfl rfl Try.func45 (by kernel_rfl) rfl #[.agg #[.slice jm j9.length jn, .slice js j6.length jo]] rfl dK ?_;(with_reducible refine (aQ.calls k _ _ j9 _ _ j6 true _ (aC_ (Kd.aI ju.out HB.out)) jI.out (aC_ (Kd.aI jv.out HB.out)) jJ.out A2.out).mono ?_);rintro e w9 ⟨rfl,hb⟩;refine ⟨_,rfl,?_⟩;replace j3:=bbP j3 hb;replace j4:=bbP j4 hb;replace HB:=am (aC oU hb);(try clear hb))|((with_reducible refine bJ (N:=10) rfl ?_);refine Kd.DV (Kd.int .i64) _ 3 rfl (N:=10) rfl (xs:=([]:List Int)) (inner:=[]) (ok:=fun _=>True) (okp:=fun _=>True) rn_ ?hp (fun _ hk=>hk) trivial (Below.refl _ _) (Nat.le_refl _) (by simp) ?_;(case hp=>exact (fZ.none _ _));intro z3 za ho11 hb hg_ hnew_;clear hg_ hnew_;(first|rw [← q0.out] at ho11|(simp only [Int.reduceToNat] at ho11;rw [← q0.out] at ho11));have jx:=am (Kd.lC (Kd.RN (M:=fun k_=>(w.heap.size≤k_)) ho11 (aN oU) (fun k_ h_=>h_)) (aN oU));replace j3:=bbP j3 hb;replace j4:=bbP j4 hb;replace HB:=am (aC oU hb);clear hb ho11;obtain ⟨jy,jz,jA,jB⟩:=iP j3.out)|((with_reducible refine wQ (b:= .append) (xs:=#[.tmp 10, .tmp 12]) rfl ?_);at_builtin;refine Kd.nH (Kd.int .i64) (w0:=w) w.heap.size rfl (.tmp 10) (.tmp 12) 44 3 (.int .i64 0) 8 rfl Try.underlying44 info3 rfl (by decide) (by omega) z3 jZ j9 _ _ _ (fun k_=>(w.heap.size≤k_)) (fun _=>False) rfl rfl ?aO ?aR (fun _ _ h=>h) (fun _ h=>h.elim) ?aF ?aB ?aS ?aL ?_;(case aR=>repeat (first|exact (Kd.aI ju.out HB.out)|(with_reducible refine Kd.ET ?_ _)|(with_reducible refine Kd.wD ?_ _)|(with_reducible refine Kd.AA ?_)));(case aB=>exact oU);(case aF=>exact (fun k_ hk=>(Nat.le_trans (aN oU) hk)));(case aO=>exact (vL (Kd.gL jx.out (fun _ hk=>hk.1))));(case aS=>exact (aN oU));(case aL=>have:=qw.out;omega);intro qy z4 ho hb hg hat;rw [← qx.out] at ho;replace j3:=am (iM (g:=jb) (o:= .cells #[.slice jm j9.length jn, .slice js j6.length jo] 51 (0,0)) (aG_ j3.out) hg (Kd.aBh jx.out j3.out (by decide)));replace j4:=am (iM (g:=j8) (o:= .cells #[.slice none 0 0, .slice none 0 0] 51 (0,0)) (aG_ j4.out) hg (Kd.aBh jx.out j4.out (by decide)));replace HB:=am (hb);have jt:=am (ho);clear jx ho hb hg hat)|((with_reducible refine bJ (N:=14) rfl ?_);refine Kd.GZ (Kd.slice 70 k70) _ 37 rfl (N':=14) rfl (xs:=([]:List (List (S70)))) (inner:=[]) (ok:=(fun k_=>(w.heap.size≤k_)∧some k_≠(qy:Value).ownBlock∧k_≠jb∧k_≠j8)) (okp:=(fun k_=>(w.heap.size≤k_)∧some k_≠(qy:Value).ownBlock∧k_≠jb∧k_≠j8)) rn_ ?hp (fun _ hk=>hk) ((show ∀ k_,z4.heap.size≤k_→(fun k_=>(w.heap.size≤k_)∧some k_≠(qy:Value).ownBlock∧k_≠jb∧k_≠j8) k_ from fun k_ hk=>⟨(Nat.le_trans (aN oU) hk),Kd.fresh' (Kd.OQ (aR_ jt.out)) k_ hk,tL j3.out k_ hk,tL j4.out k_ hk⟩) _ (Nat.le_refl _)) (Below.refl _ _) (Nat.le_refl _) (by simp) ?_;(case hp=>exact (fZ.none _ _));intro zb zc ho15 hb hg_ hnew_;clear hg_ hnew_;(first|rw [← q2.out] at ho15|(simp only [Int.reduceToNat] at ho15;rw [← q2.out] at ho15));replace jt:=am (Kd.eT (aR_ jt.out) hb);have jC:=am (Kd.kK ho15 (aN oU));replace j3:=bbP j3 hb;replace j4:=bbP j4 hb;replace HB:=am (aC oU hb);clear hb ho15;obtain ⟨jQ,jR,qz⟩:=Kd.iB jC.out;subst qz;obtain ⟨jg,jh,qA⟩:=Kd.nI jt.out;subst qA)|((with_reducible refine bJ (N:=4) rfl ?_);refine bR rfl (N:=4) rfl (cs:=#[.slice none 0 0, .slice none 0 0]) (t:=51) rn_ ?_;intro j7 hg zd hbox hb;replace jt:=am (Kd.eT (aR_ jt.out) hb);replace jC:=am (Kd.gU (Kd.wH (aN_ jC.out) j7 (Nat.le_of_eq hg.symm)) hb);have j5:=am (hbox);have z5:=am ((by rw [hg];exact (aN oU):w.heap.size≤j7));have GE61:=am ((by rw [hg];exact (aN oU):w.heap.size≤j7));replace HB:=am (aC oU hb);have jc:=am ((by rw [hg];exact Nat.ne_of_lt (oD j3.out):jb≠j7));have jj:=am ((by rw [hg];exact Nat.ne_of_gt (oD j3.out):j7≠jb));replace j3:=bbP j3 hb;have jf:=am ((by rw [hg];exact Nat.ne_of_lt (oD j4.out):j8≠j7));have jr:=am ((by rw [hg];exact Nat.ne_of_gt (oD j4.out):j7≠j8));replace j4:=bbP j4 hb;clear hb hbox hg;have qH:=jj.out;have qI:=jc.out;have qJ:=jr.out;have qK:=jf.out;obtain ⟨jD,jE,jF,jG⟩:=iP j5.out))
   go_loopg [5] k (fun kq v5 w'=>∃ (jd:Int) (ji:List (List (S70))) (u62:Value),v5= .int .i64 jd∧Aside0 (aY.l0 kq jd j9 j6 jl ji=some (r1,r2,r3))∧Aside0 (kq≤k)∧Aside0 (Kd.R (Kd.int .i64) 3 w' w.heap.size (fun k_=>(w.heap.size≤k_)) (.slice jg jl.length jh) jl)∧Aside0 (Kd.N (Kd.slice 70 k70) 37 w' w.heap.size (fun k_=>(w.heap.size≤k_)∧some k_≠((.slice jg jl.length jh):Value).ownBlock∧k_≠jb∧k_≠j8∧k_≠j7) u62 ji)∧Aside0 (w'.heap[jb]?=some (.cells #[(.slice jm j9.length jn),(.slice js j6.length jo)] 51 (0,0)))∧Aside0 (w'.heap[j8]?=some (.cells #[(.slice none 0 0),(.slice none 0 0)] 51 (0,0)))∧Aside0 (w'.heap[j7]?=some (.cells #[(.slice jg jl.length jh),u62] 51 (0,0)))∧Aside0 (Below w.heap.size w w'))
   case atStart=>exact ⟨(0),(q1),(.slice jQ q1.length jR),sd_,H',⟨Nat.le_refl _⟩,⟨vL (Kd.gL (Kd.lM (p:=⟨j7,1,none⟩) (Kd.lM (p:=⟨j7,0,none⟩) (Kd.uG jt.out j5.out (by decide)) (fun _ hk=>hk.2) (.slice jg jl.length jh)) (fun _ hk=>hk.2) (.slice jQ q1.length jR)) (fun _ hk=>hk.1))⟩,⟨sQ (Kd.eX (Kd.gH (p:=⟨j7,1,none⟩) (Kd.gH (p:=⟨j7,0,none⟩) (Kd.eX jC.out (fun k_ hk=>(⟨hk,hk.2⟩:_∧k_≠j7))) (fun _ hk=>hk.2) (.slice jg jl.length jh)) (fun _ hk=>hk.2) (.slice jQ q1.length jR)) (fun _ hk=>⟨hk.1.1.1,⟨hk.1.1.2.1,⟨hk.1.1.2.2.1,⟨hk.1.1.2.2.2,hk.1.2⟩⟩⟩⟩))⟩,⟨(bQ (bQ j3.out jc.out _) jc.out _)⟩,⟨(bQ (bQ j4.out jf.out _) jf.out _)⟩,⟨(aT (aT j5.out 0 _ rfl) 1 _ rfl)⟩,⟨wJ⟩⟩
   case round=>
    clear H'
    try clear c3
    try clear c4
    try clear jy
    try clear jz
    try clear jD
    try clear jE
    try clear jM
    try clear jN
    try clear jA
    try clear jB
    try clear jF
    try clear jG
    try clear jO
    try clear jP
    obtain ⟨jd,ji,u62,rfl,HA,qL,je,ja,j3,j4,j5,HB⟩:=hrel
    cases gk with
    |zero=>exact absurd HA.out (by simp [aY.l0])
    |succ k1=>
     have H:=HA.out
     clear HA
     simp only [aY.l0] at H
     by_cases jY:jd < (j6.length:Int)
     ·rw [if_pos jY] at H
      have q3:decide (jd < (j6.length:Int))=true:=decide_eq_true jY
      clear jY
      by_cases q9:0≤jd
      ·rw [if_pos q9] at H
       have qM:decide (0≤jd)=true:=decide_eq_true q9
       clear q9
       obtain ⟨qa,qN,H⟩:=bsm H
       (try dsimp only at H)
       have z6:=am qN
       clear qN
       by_cases qb:ji.length < 5864062014805
       ·rw [if_pos qb] at H
        have q4:=am qb
        clear qb
        obtain ⟨q5,hy_⟩:∃ y_:List (List (S70)),y_=(ji ++ [qa]):=⟨_,rfl⟩
        replace H:(aY.l0 k1 (wrap64 (jd + 1)) j9 j6 jl q5)=some (r1,r2,r3):=rx_
        have qB:=am hy_
        clear hy_
        have H':=am H
        clear H
        have qO:=jp.out
        have qP:=jq.out
        have qQ:=jc.out
        have qR:=jj.out
        obtain ⟨qc,qd,qe,qf⟩:=iP j3.out
        try go_wp2
        replace je:=am (Kd.tF je.out)
        replace ja:=am (Kd.AP ja.out)
        replace j3:=am (eH j3.out)
        replace j4:=am (eH j4.out)
        replace j5:=am (eH j5.out)
        replace HB:=am (bX HB.out)
        have qC:0≤(jd:Int):=of_decide_eq_true bT
        have qD:jd < (j6.length:Int):=of_decide_eq_true bT
        obtain ⟨jS,jK,jL,z7,jk,hl68_0,hi68_0⟩:=nY jv.out jd qC qD
        have hw68_0:=jk
        cases z7
        replace jk:=(HB.out.cell (World.block_lt_of_cell? w _ jk)).trans jk
        have jw:=am hi68_0
        have jT:=am hl68_0
        clear hi68_0 hl68_0
        replace qC:=eq_true qC
        replace qD:=eq_true qD
        refine nD (n:=12) (S:=fun w'=>w'.cell? ⟨j7,0,none⟩=some (.slice jg jl.length jh)∧w'.cell? ⟨j7,1,none⟩=some (u62)∧w'.cell? ⟨jb,0,none⟩=some (.slice jm j9.length jn)∧w'.cell? ⟨jb,1,none⟩=some (.slice (some jS) j6.length jo)∧w'.cell? (jS.add (jd).toNat)=some (.slice jK (fU j6 jd).length jL)) (ds:=[11]) (bz 12 0) (by kernel_rfl) rfl rfl ⟨(aA j5.out 0).trans rfl,(aA j5.out 1).trans rfl,(aA j3.out 0).trans rfl,(aA j3.out 1).trans rfl,((HB.out.cell (World.block_lt_of_cell? w _ hw68_0)).trans hw68_0)⟩ (fun hHeld=>?_);refine iY aY.aAk aY.NW (fun HT_ HW_=>?_)
        generalize wr.drew=ze at je ja j3 j4 j5 HB jw jk hHeld ⊢
        refine pr_ 0 23 (bz 12 1) HT_ ?_
        refine pr_ 2 25 (bz 12 5) HT_ ?_
        refine pr_ 4 27 (bz 12 21) HT_ ?_
        refine aBz 1 24 (bz 12 23) HT_ HW_ hHeld ?_
        refine aBz 3 26 (bz 12 31) HT_ HW_ hHeld ?_
        refine pr_ 5 28 (bz 12 63) HT_ ?_
        refine aBz 6 29 (bz 12 127) HT_ HW_ hHeld ?_
        refine pI (i:=7) (N:=some 30) (bz 12 255) rfl rfl (iO HT_.out (by kernel_rfl)) (by decide) (fun K hK=>?_)
        refine lH Try.func38 (by kernel_rfl) rfl #[.slice jK (fU j6 jd).length jL] (by rfl) rfl rfl dK ?_
        with_reducible refine (aX.calls k1 _ _ (fU j6 jd) qa _ (aC_ (Kd.aI jw.out HB.out)) jT.out z6.out).mono ?_
        rintro e zf ⟨zg,rfl,ho0,hb⟩
        refine ⟨_,rfl,?_⟩
        have jH:=am (Kd.kK (Kd.eX (ok':=fun k_=>(w.heap.size≤k_)∧some k_≠(.slice jg jl.length jh:Value).ownBlock∧some k_≠(u62:Value).ownBlock∧k_≠jb∧k_≠j8∧k_≠j7) ho0 (fun k_ hk_=>⟨(Nat.le_trans (aN wJ) hk_),(Kd.fresh' (Kd.OQ (aR_ je.out)) k_ hk_),(Kd.fresh' (Kd.LK (aN_ ja.out)) k_ hk_),(tL j3.out k_ hk_),(tL j4.out k_ hk_),(tL j5.out k_ hk_)⟩)) (aN wJ))
        replace je:=am (Kd.eT (aR_ je.out) hb)
        replace ja:=am (Kd.mH (aN_ ja.out) (by first|exact Kd.kL ho0|exact Kd.kL (Kd.R_N ho0)) hb)
        replace j3:=bbP j3 hb
        replace j4:=bbP j4 hb
        replace j5:=bbP j5 hb
        replace HB:=am (aC wJ hb)
        (try clear hb)
        (try clear hb2)
        (try clear hk)
        (try clear hi)
        (try clear ho0)
        obtain ⟨qE,qF,q6⟩:=Kd.iB jH.out
        (first|subst q6|(injection q6 with f1_ f2_ f3_;have f4_:=f1_.symm;have f5_:=f3_.symm;clear f1_ f2_ f3_;subst f4_;subst f5_))
        refine hK.out _ _ ⟨(aA j5.out 0).trans rfl,(aA j5.out 1).trans rfl,(aA j3.out 0).trans rfl,(aA j3.out 1).trans rfl,((HB.out.cell (World.block_lt_of_cell? w _ hw68_0)).trans hw68_0)⟩ (fun hHeld=>?_)
        clear hK K
        refine lQ (a':=?_) ?_ ?_
        rotate_left
        ·exact ap_ (N:=30)
        refine pI (i:=8) (N:=some 31) (bz 12 511) rfl rfl (iO HT_.out (by kernel_rfl)) (by decide) (fun K hK=>?_)
        refine NC (w1:=?_) (v:=?_) (by rfl) rfl ?_ ?_
        rotate_left 2
        ·go_simp
         constructor
         ·rfl
         ·rfl
        refine hK.out _ _ ⟨(aA (fH j5.out _) 0).trans rfl,(aA (fH j5.out _) 1).trans rfl,(aA (fH j3.out _) 0).trans rfl,(aA (fH j3.out _) 1).trans rfl,(World.cell?_alloc_lt _ _ _ (World.block_lt_of_cell? _ _ (((HB.out.cell (World.block_lt_of_cell? w _ hw68_0)).trans hw68_0)))).trans (((HB.out.cell (World.block_lt_of_cell? w _ hw68_0)).trans hw68_0))⟩ (fun hHeld=>?_)
        clear hK K
        refine lQ (a':=?_) ?_ ?_
        rotate_left
        ·exact ap_ (N:=31)
        refine pI (i:=9) (N:=some 32) (bz 12 1023) rfl rfl (iO HT_.out (by kernel_rfl)) (by decide) (fun K hK=>?_)
        refine Kd.uY (Kd.slice 70 k70) (w0:=w) w.heap.size (by rfl) (.tmp 24) (.tmp 31) 49 37 (.slice none 0 0) 24 rfl Try.underlying49 FX rfl (by decide) (by omega) u62 ji qa [.slice qE qa.length qF] (fun k_=>(w.heap.size≤k_)∧some k_≠(.slice jg jl.length jh:Value).ownBlock∧k_≠jb∧k_≠j8∧k_≠j7) (fun k_=>((fun k_=>(w.heap.size≤k_)∧some k_≠(.slice jg jl.length jh:Value).ownBlock∧k_≠jb∧k_≠j8∧k_≠j7)) k_∧some k_≠(u62:Value).ownBlock) rfl rfl ?aP (fun _ hk=>hk) ?aF ?aO ?aB ?aS ?aL ?_
        (case aP=>exact (Kd.xY (Kd.kM (Kd.eX (ok':=(fun k_=>((fun k_=>(w.heap.size≤k_)∧some k_≠(.slice jg jl.length jh:Value).ownBlock∧k_≠jb∧k_≠j8∧k_≠j7)) k_∧some k_≠(u62:Value).ownBlock)) (jH.out) (fun k_ hk=>⟨⟨hk.1,⟨hk.2.1,⟨hk.2.2.2.1,⟨hk.2.2.2.2.1,hk.2.2.2.2.2⟩⟩⟩⟩,hk.2.2.1⟩))).2.1 (Kd.N_F (Kd.eX (ok':=(fun k_=>((fun k_=>(w.heap.size≤k_)∧some k_≠(.slice jg jl.length jh:Value).ownBlock∧k_≠jb∧k_≠j8∧k_≠j7)) k_∧some k_≠(u62:Value).ownBlock)) (jH.out) (fun k_ hk=>⟨⟨hk.1,⟨hk.2.1,⟨hk.2.2.2.1,⟨hk.2.2.2.2.1,hk.2.2.2.2.2⟩⟩⟩⟩,hk.2.2.1⟩)))))
        (case aB=>exact wJ)
        (case aF=>exact (fun k_ hk=>⟨(Nat.le_trans (aN wJ) hk),Kd.fresh' (Kd.OQ (aR_ je.out)) k_ hk,tL j3.out k_ hk,tL j4.out k_ hk,tL j5.out k_ hk⟩))
        (case aO=>exact (sQ (Kd.eX ja.out (fun _ hk=>⟨hk.1.1,⟨hk.1.2.1,⟨hk.1.2.2.1,⟨hk.1.2.2.2.1,hk.1.2.2.2.2⟩⟩⟩⟩))))
        (case aS=>exact (aN wJ))
        (case aL=>have:=q4.out;omega)
        intro zh z8 ho hb hg hat
        rw [← qB.out] at ho
        replace je:=am (Kd.NR (aR_ je.out) (Kd.NK (aN_ ja.out)) (by decide) hg)
        replace j3:=am (iM (g:=jb) (o:= .cells #[.slice jm j9.length jn, .slice (some jS) j6.length jo] 51 (0,0)) (aG_ j3.out) hg (Kd.OP ja.out j3.out (by decide)))
        replace j4:=am (iM (g:=j8) (o:= .cells #[.slice none 0 0, .slice none 0 0] 51 (0,0)) (aG_ j4.out) hg (Kd.OP ja.out j4.out (by decide)))
        replace j5:=am (iM (g:=j7) (o:= .cells #[.slice jg jl.length jh,u62] 51 (0,0)) (aG_ j5.out) hg (Kd.OP ja.out j5.out (by decide)))
        replace HB:=am (hb)
        have q7:=am (ho)
        clear ja jH
        clear ho hb hg hat
        obtain ⟨jU,jV,q8⟩:=Kd.iB q7.out
        (first|subst q8|(injection q8 with f1_ f2_ f3_;have f4_:=f1_.symm;have f5_:=f3_.symm;clear f1_ f2_ f3_;subst f4_;subst f5_))
        refine hK.out _ _ ⟨(aA j5.out 0).trans rfl,(aA j5.out 1).trans rfl,(aA j3.out 0).trans rfl,(aA j3.out 1).trans rfl,((HB.out.cell (World.block_lt_of_cell? w _ hw68_0)).trans hw68_0)⟩ (fun hHeld=>?_)
        clear hK K
        refine lQ (a':=?_) ?_ ?_
        rotate_left
        ·exact ap_ (N:=32)
        refine pr_ 10 33 (bz 12 2047) HT_ ?_
        refine TJ (i:=11) (N:=none) (bz 12 4095) rfl rfl (iO HT_.out (by kernel_rfl)) (by decide) (fun K hK=>?_)
        have z9:z8.cell? ⟨j7,1,none⟩=some (u62):=(aA j5.out 1).trans rfl
        have hfs34:=aH j5.out 1
        have hns34_0:=jc.out
        have hns34_1:=jf.out
        have hms34_0:=jj.out
        have hms34_1:=jr.out
        refine yG (w1:=?_) (by rfl) rfl ?_ ?_
        rotate_left
        ·go_simp
         rfl
        refine hK.out _ _ ?_
        clear hK K
        refine rG (lJ HT_.out (by kernel_rfl)) ?_
        try go_wp2
        go_roundg k1
        case measure=>have:=qL.out;omega
        case rel=>exact ⟨(wrap64 (jd + 1)),(q5),(.slice jU q5.length jV),sd_,H',⟨by have:=qL.out;omega⟩,⟨vL (Kd.gL (Kd.lM (p:=⟨j7,1,none⟩) (Kd.uG je.out j5.out (by decide)) (fun _ hk=>hk.2) (.slice jU q5.length jV)) (fun _ hk=>hk.1))⟩,⟨sQ (Kd.eX (Kd.gH (p:=⟨j7,1,none⟩) (Kd.eX q7.out (fun k_ hk=>(⟨hk,hk.2.2.2.2⟩:_∧k_≠j7))) (fun _ hk=>hk.2) (.slice jU q5.length jV)) (fun _ hk=>⟨hk.1.1,⟨hk.1.2.1,⟨hk.1.2.2.1,⟨hk.1.2.2.2.1,hk.1.2.2.2.2⟩⟩⟩⟩))⟩,⟨(bQ j3.out jc.out _)⟩,⟨(bQ j4.out jf.out _)⟩,⟨(aT j5.out 1 _ rfl)⟩,⟨wJ⟩⟩
       rw [if_neg qb] at H
       exact absurd H (by simp)
      rw [if_neg q9] at H
      exact absurd H (by simp)
     rw [if_neg jY] at H
     have q3:decide (jd < (j6.length:Int))=false:=decide_eq_false jY
     clear jY
     simp only [Option.some.injEq,Prod.mk.injEq] at H
     obtain ⟨rfl,rfl,rfl⟩:=H
     have qS:=jp.out
     have qT:=jq.out
     have qU:=jc.out
     have qV:=jj.out
     obtain ⟨qg,qh,qi,qj⟩:=iP j3.out
     have qW:=jr.out
     have qX:=jf.out
     obtain ⟨qk,ql,qm,qn⟩:=iP j5.out
     obtain ⟨qo,qp,qq,qr⟩:=iP j4.out
     obtain ⟨jW,jX,qG⟩:=Kd.iB ja.out
     subst qG
     go_wp2
     refine bodyPost_ret (nC rfl _ _ j8 51 #[.slice jg jl.length jh, .slice jW ji.length jX] (0,0) _ rfl (aT (aT j4.out 0 _ rfl) 1 _ rfl) Try.underlying51 rfl (by kernel_rfl)) rfl ?_
     exact ⟨_,_,sJ,vL (Kd.gL (Kd.lM (p:=⟨j8,1,none⟩) (Kd.lM (p:=⟨j8,0,none⟩) (Kd.uG je.out j4.out (by decide)) (fun _ hk=>hk.2) (.slice jg jl.length jh)) (fun _ hk=>hk.2) (.slice jW ji.length jX)) (fun _ hk=>hk.1)),sQ (Kd.eX (Kd.gH (p:=⟨j8,1,none⟩) (Kd.gH (p:=⟨j8,0,none⟩) (Kd.eX ja.out (fun k_ hk=>(⟨hk,hk.2.2.2.1⟩:_∧k_≠j8))) (fun _ hk=>hk.2) (.slice jg jl.length jh)) (fun _ hk=>hk.2) (.slice jW ji.length jX)) (fun _ hk=>⟨hk.1.1,hk.1.2.1⟩)),wJ⟩
  rw [if_neg c4] at H
  exact absurd H (by simp)
 replace c3:=Bool.eq_false_iff.mpr c3
 subst c3
 rw [if_neg (show ¬ (false=true) by decide)] at H
 simp only [Option.some.injEq,Prod.mk.injEq] at H
 obtain ⟨rfl,rfl,rfl⟩:=H
 go_wp2_with (first|((with_reducible refine aD (f:=45) rfl ?_);refine aU (some 7) rfl rfl Try.func45 (by kernel_rfl) rfl #[.agg #[.slice jm j9.length jn, .slice js j6.length jo]] rfl dK ?_;(with_reducible refine (aQ.calls k _ _ j9 _ _ j6 false _ (aC_ (Kd.aI ju.out HB.out)) jI.out (aC_ (Kd.aI jv.out HB.out)) jJ.out A2.out).mono ?_);rintro e zi ⟨rfl,hb⟩;refine ⟨_,rfl,?_⟩;replace j3:=bbP j3 hb;replace j4:=bbP j4 hb;replace HB:=am (aC oU hb);(try clear hb);obtain ⟨qs,qt,qu,qv⟩:=iP j4.out))
 refine bodyPost_ret (nC rfl _ _ j8 51 #[.slice none 0 0, .slice none 0 0] (0,0) _ rfl (aT (aT j4.out 0 _ rfl) 1 _ rfl) Try.underlying51 rfl (by kernel_rfl)) rfl ?_
 exact ⟨_,_,sJ,by first|exact Kd.uZ _ _ _ _ _|exact Kd.HZ _ _ _ _ _|exact Kd.IE _ _ _ _ _|exact Kd.IB _ _ _ _ _|exact Kd.oP _ _ _ _ _,by first|exact Kd.uZ _ _ _ _ _|exact Kd.HZ _ _ _ _ _|exact Kd.IE _ _ _ _ _|exact Kd.IB _ _ _ _ _|exact Kd.oP _ _ _ _ _,oU⟩
theorem dV.mono_l:∀ k,(∀ y0 y1 y2,LeO (dV.l0 k y0 y1 y2) (dV.l0 (k + 1) y0 y1 y2))
 |0=>fun _ _ _ r h=>by simp [dV.l0] at h
 |k + 1=>by
  have ih0:=dV.mono_l k
  ·intro y0 y1 y2
   unfold dV.l0
   exact mo_
theorem dV.mono:∀ a0 a1 k,LeO (dV.f k a0 a1) (dV.f (k + 1) a0 a1):=by
 intro a0 a1 k
 have ih0:=dV.mono_l k
 unfold dV.f
 exact mo_
theorem dV.calls (k:Nat) (A0:Option Addr) (c0:Nat) (l0:List Int) (A1:Option Addr) (c1:Nat) (l1:List Int) (r:Bool) (w:World) (hr0:Kd.C (Kd.int .i64) w A0 l0.length l0) (hc0:l0.length≤c0) (hr1:Kd.C (Kd.int .i64) w A1 l1.length l1) (hc1:l1.length≤c1) (h:dV.f k l0 l1=some r):
  Calls Try.prog 50 #[.slice A0 l0.length c0, .slice A1 l1.length c1] w fun e w'=>e= .returned (.bool r)∧fV w w':=by
 have jk:=am hr0
 have jp:=am hc0
 clear hr0 hc0
 have jl:=am hr1
 have jq:=am hc1
 clear hr1 hc1
 have H:(if (l0.length:Int)=(l1.length:Int) then (dV.l0 k l0 l1 0) else (some false))=some r:=h
 clear h
 by_cases c3:(l0.length:Int)=(l1.length:Int)
 ·rw [if_pos c3] at H
  have ja:((l0.length:Int) == (l1.length:Int))=true:=beq_iff_eq.mpr c3
  have jb:((l0.length:Int) != (l1.length:Int))=false:=bne_eq_false_iff_eq.mpr c3
  have jc:(l0.length == l1.length)=true:=by first|simpa using c3|(simp at c3 ⊢;omega)
  clear c3
  have H':=am H
  clear H
  go_enter Try.func50,Try.ntmps50
  go_wp2
  repeat (go_quiet (fail);try go_wp2)
  go_loopg [5] k (fun kq v5 w'=>∃ (j3:Int),v5= .int .i64 j3∧Aside0 (dV.l0 kq l0 l1 j3=some r)∧Aside0 (kq≤k)∧fV w w')
  case atStart=>exact ⟨(0),sd_,H',⟨Nat.le_refl _⟩,fF⟩
  case round=>
   clear H'
   try clear c1
   try clear c3
   try clear ja
   try clear jb
   try clear jc
   obtain ⟨j3,rfl,HA,jm,⟨m1,rfl⟩⟩:=hrel
   cases gk with
   |zero=>exact absurd HA.out (by simp [dV.l0])
   |succ k1=>
    have H:=HA.out
    clear HA
    simp only [dV.l0] at H
    by_cases c4:j3 < (l0.length:Int)
    ·rw [if_pos c4] at H
     have jd:decide (j3 < (l0.length:Int))=true:=decide_eq_true c4
     clear c4
     by_cases c5:0≤j3
     ·rw [if_pos c5] at H
      have jn:decide (0≤j3)=true:=decide_eq_true c5
      clear c5
      by_cases c6:j3 < (l1.length:Int)
      ·rw [if_pos c6] at H
       have jo:decide (j3 < (l1.length:Int))=true:=decide_eq_true c6
       clear c6
       by_cases c7:(rd l0 j3)=(rd l1 j3)
       ·rw [if_pos c7] at H
        have je:((rd l0 j3) == (rd l1 j3))=true:=beq_iff_eq.mpr c7
        have jf:((rd l0 j3) != (rd l1 j3))=false:=bne_eq_false_iff_eq.mpr c7
        clear c7
        have H':=am H
        clear H
        have j4:0≤(j3:Int):=of_decide_eq_true bT
        have j5:j3 < (l0.length:Int):=of_decide_eq_true bT
        obtain ⟨jg,jh,j6⟩:=Kd.nR jk.out j3 j4 j5
        cases jh
        replace j4:=eq_true j4
        replace j5:=eq_true j5
        have j7:0≤(j3:Int):=of_decide_eq_true bT
        have j8:j3 < (l1.length:Int):=of_decide_eq_true bT
        obtain ⟨ji,jj,j9⟩:=Kd.nR jl.out j3 j7 j8
        cases jj
        replace j7:=eq_true j7
        replace j8:=eq_true j8
        go_wp2
        repeat (go_quiet (fail);try go_wp2)
        go_roundg k1
        case measure=>have:=jm.out;omega
        case rel=>exact ⟨(wrap64 (j3 + 1)),sd_,H',⟨by have:=jm.out;omega⟩,fF⟩
       rw [if_neg c7] at H
       have je:((rd l0 j3) == (rd l1 j3))=false:=beq_eq_false_iff_ne.mpr c7
       have jf:((rd l0 j3) != (rd l1 j3))=true:=bne_iff_ne.mpr c7
       obtain rfl:=Option.some.inj H
       have j4:0≤(j3:Int):=of_decide_eq_true bT
       have j5:j3 < (l0.length:Int):=of_decide_eq_true bT
       obtain ⟨jg,jh,j6⟩:=Kd.nR jk.out j3 j4 j5
       cases jh
       replace j4:=eq_true j4
       replace j5:=eq_true j5
       have j7:0≤(j3:Int):=of_decide_eq_true bT
       have j8:j3 < (l1.length:Int):=of_decide_eq_true bT
       obtain ⟨ji,jj,j9⟩:=Kd.nR jl.out j3 j7 j8
       cases jj
       replace j7:=eq_true j7
       replace j8:=eq_true j8
       go_wp2
       repeat (go_quiet (fail);try go_wp2)
       go_ret
       exact ⟨sd_,fF⟩
      rw [if_neg c6] at H
      exact absurd H (by simp)
     rw [if_neg c5] at H
     exact absurd H (by simp)
    rw [if_neg c4] at H
    have jd:decide (j3 < (l0.length:Int))=false:=decide_eq_false c4
    clear c4
    obtain rfl:=Option.some.inj H
    go_wp2
    repeat (go_quiet (fail);try go_wp2)
    go_ret
    exact ⟨sd_,fF⟩
 rw [if_neg c3] at H
 have ja:((l0.length:Int) == (l1.length:Int))=false:=beq_eq_false_iff_ne.mpr c3
 have jb:((l0.length:Int) != (l1.length:Int))=true:=bne_iff_ne.mpr c3
 have jc:(l0.length == l1.length)=false:=by first|simpa using c3|(simp at c3 ⊢;omega)
 obtain rfl:=Option.some.inj H
 go_enter Try.func50,Try.ntmps50
 go_wp2
 repeat (go_quiet (fail);try go_wp2)
 go_ret
 exact ⟨sd_,fF⟩
theorem bC.mono_all:∀ k,(∀ y0 y1,LeO (bC.f k y0 y1) (bC.f (k + 1) y0 y1))∧(∀ y0 y1 y2,LeO (bC.l0 k y0 y1 y2) (bC.l0 (k + 1) y0 y1 y2))∧(∀ y0 y1 y2 y3 y4 y5,LeO (dJ.f k y0 y1 y2 y3 y4 y5) (dJ.f (k + 1) y0 y1 y2 y3 y4 y5))
 |0=>⟨fun _ _ r h=>by simp [bC.f] at h,fun _ _ _ r h=>by simp [bC.l0] at h,fun _ _ _ _ _ _ r h=>by simp [dJ.f] at h⟩
 |k + 1=>by
  obtain ⟨ih0,ih1,ih2⟩:=bC.mono_all k
  refine ⟨?_,?_,?_⟩
  ·intro y0 y1
   unfold bC.f
   exact mo_
  ·intro y0 y1 y2
   unfold bC.l0
   exact mo_
  ·intro y0 y1 y2 y3 y4 y5
   unfold dJ.f
   exact mo_
theorem bC.mono:∀ a0 a1 k,LeO (bC.f k a0 a1) (bC.f (k + 1) a0 a1):=by
 intro a0 a1 k
 obtain ⟨ih0,ih1,ih2⟩:=bC.mono_all k
 exact ih0 a0 a1
theorem dJ.mono:∀ a0 a1 a2 a3 a4 a5 k,LeO (dJ.f k a0 a1 a2 a3 a4 a5) (dJ.f (k + 1) a0 a1 a2 a3 a4 a5):=by
 intro a0 a1 a2 a3 a4 a5 k
 obtain ⟨ih0,ih1,ih2⟩:=bC.mono_all k
 exact ih2 a0 a1 a2 a3 a4 a5
abbrev bC.bY (k:Nat):Prop:=∀ (A0:Option Addr) (c0:Nat) (l0:List (S28)) (A1:Option Addr) (c1:Nat) (l1:List (S28)) (r:Bool) (w:World) (hr0:Kd.C k28 w A0 l0.length l0) (hc0:l0.length≤c0) (hr1:Kd.C k28 w A1 l1.length l1) (hc1:l1.length≤c1) (h:bC.f k l0 l1=some r),
  Calls Try.prog 33 #[.slice A0 l0.length c0, .slice A1 l1.length c1] w fun e w'=>e= .returned (.bool r)∧Below w.heap.size w w'
abbrev dJ.bY (k:Nat):Prop:=∀ (a0_0:Int) (a0_1:Int) (A0_2:Option Addr) (c0_2:Nat) (l0_2:List (S28)) (a1_0:Int) (a1_1:Int) (A1_2:Option Addr) (c1_2:Nat) (l1_2:List (S28)) (r:Bool) (w:World) (hr0_2:Kd.C k28 w A0_2 l0_2.length l0_2) (hc0_2:l0_2.length≤c0_2) (hr1_2:Kd.C k28 w A1_2 l1_2.length l1_2) (hc1_2:l1_2.length≤c1_2) (h:dJ.f k a0_0 a0_1 l0_2 a1_0 a1_1 l1_2=some r),
  Calls Try.prog 10 #[.agg #[.int .i64 a0_0, .int .i64 a0_1, .slice A0_2 l0_2.length c0_2], .agg #[.int .i64 a1_0, .int .i64 a1_1, .slice A1_2 l1_2.length c1_2]] w fun e w'=>e= .returned (.bool r)∧Below w.heap.size w w'
theorem dR.mono_all:∀ k,(∀ y0 y1 y2 y3 y4 y5 y6 y7 y8 y9 j3 j4 j5 j6 j7 j8,LeO (dR.f k y0 y1 y2 y3 y4 y5 y6 y7 y8 y9 j3 j4 j5 j6 j7 j8) (dR.f (k + 1) y0 y1 y2 y3 y4 y5 y6 y7 y8 y9 j3 j4 j5 j6 j7 j8))∧(∀ y0 y1,LeO (aZ.f k y0 y1) (aZ.f (k + 1) y0 y1))∧(∀ y0 y1 y2,LeO (aZ.l0 k y0 y1 y2) (aZ.l0 (k + 1) y0 y1 y2))
 |0=>⟨fun _ _ _ _ _ _ _ _ _ _ _ _ _ _ _ _ r h=>by simp [dR.f] at h,fun _ _ r h=>by simp [aZ.f] at h,fun _ _ _ r h=>by simp [aZ.l0] at h⟩
 |k + 1=>by
  obtain ⟨ih0,ih1,ih2⟩:=dR.mono_all k
  refine ⟨?_,?_,?_⟩
  ·intro y0 y1 y2 y3 y4 y5 y6 y7 y8 y9 j3 j4 j5 j6 j7 j8
   unfold dR.f
   have m0:=@dJ.mono
   exact mo_
  ·intro y0 y1
   unfold aZ.f
   have m0:=@dJ.mono
   exact mo_
  ·intro y0 y1 y2
   unfold aZ.l0
   have m0:=@dJ.mono
   exact mo_
theorem dR.mono:∀ a0 a1 a2 a3 a4 a5 a6 a7 a8 a9 j3 j4 j5 j6 j7 j8 k,LeO (dR.f k a0 a1 a2 a3 a4 a5 a6 a7 a8 a9 j3 j4 j5 j6 j7 j8) (dR.f (k + 1) a0 a1 a2 a3 a4 a5 a6 a7 a8 a9 j3 j4 j5 j6 j7 j8):=by
 intro a0 a1 a2 a3 a4 a5 a6 a7 a8 a9 j3 j4 j5 j6 j7 j8 k
 obtain ⟨ih0,ih1,ih2⟩:=dR.mono_all k
 exact ih0 a0 a1 a2 a3 a4 a5 a6 a7 a8 a9 j3 j4 j5 j6 j7 j8
theorem aZ.mono:∀ a0 a1 k,LeO (aZ.f k a0 a1) (aZ.f (k + 1) a0 a1):=by
 intro a0 a1 k
 obtain ⟨ih0,ih1,ih2⟩:=dR.mono_all k
 exact ih1 a0 a1
abbrev dR.bY (k:Nat):Prop:=∀ (a0_0:Int) (a0_1:Int) (a0_2:Int) (a0_3:Int) (a0_4:Int) (A0_5:Option Addr) (c0_5:Nat) (l0_5:List (S28)) (A0_6:Option Addr) (c0_6:Nat) (l0_6:List (S70)) (A0_7:Option Addr) (c0_7:Nat) (l0_7:List (S70)) (a1_0:Int) (a1_1:Int) (a1_2:Int) (a1_3:Int) (a1_4:Int) (A1_5:Option Addr) (c1_5:Nat) (l1_5:List (S28)) (A1_6:Option Addr) (c1_6:Nat) (l1_6:List (S70)) (A1_7:Option Addr) (c1_7:Nat) (l1_7:List (S70)) (r:Bool) (w:World) (hr0_5:Kd.C k28 w A0_5 l0_5.length l0_5) (hc0_5:l0_5.length≤c0_5) (hr0_6:Kd.C k70 w A0_6 l0_6.length l0_6) (hc0_6:l0_6.length≤c0_6) (hr0_7:Kd.C k70 w A0_7 l0_7.length l0_7) (hc0_7:l0_7.length≤c0_7) (hr1_5:Kd.C k28 w A1_5 l1_5.length l1_5) (hc1_5:l1_5.length≤c1_5) (hr1_6:Kd.C k70 w A1_6 l1_6.length l1_6) (hc1_6:l1_6.length≤c1_6) (hr1_7:Kd.C k70 w A1_7 l1_7.length l1_7) (hc1_7:l1_7.length≤c1_7) (h:dR.f k a0_0 a0_1 a0_2 a0_3 a0_4 l0_5 l0_6 l0_7 a1_0 a1_1 a1_2 a1_3 a1_4 l1_5 l1_6 l1_7=some r),
  Calls Try.prog 42 #[.agg #[.int .i64 a0_0, .int .i64 a0_1, .int .i64 a0_2, .int .i64 a0_3, .int .i64 a0_4, .slice A0_5 l0_5.length c0_5, .slice A0_6 l0_6.length c0_6, .slice A0_7 l0_7.length c0_7], .agg #[.int .i64 a1_0, .int .i64 a1_1, .int .i64 a1_2, .int .i64 a1_3, .int .i64 a1_4, .slice A1_5 l1_5.length c1_5, .slice A1_6 l1_6.length c1_6, .slice A1_7 l1_7.length c1_7]] w fun e w'=>e= .returned (.bool r)∧Below w.heap.size w w'
abbrev aZ.bY (k:Nat):Prop:=∀ (A0:Option Addr) (c0:Nat) (l0:List (S70)) (A1:Option Addr) (c1:Nat) (l1:List (S70)) (r:Bool) (w:World) (hr0:Kd.C k70 w A0 l0.length l0) (hc0:l0.length≤c0) (hr1:Kd.C k70 w A1 l1.length l1) (hc1:l1.length≤c1) (h:aZ.f k l0 l1=some r),
  Calls Try.prog 17 #[.slice A0 l0.length c0, .slice A1 l1.length c1] w fun e w'=>e= .returned (.bool r)∧Below w.heap.size w w'
def bC.T6:Bool × List (List Nat × List Nat):=(true,[([],[]),([],[]),([0,1],[0,1]),([2],[2]),([],[]),([],[]),([4,5],[4,5]),([6],[6]),([3,7],[3,7]),([8],[8])])
def bC.B6:List Nat:=[0,0,3,7,0,0,48,112,255,511]
theorem bC.yQ:kZ .any (opsOf Try.f33 6)=bC.T6:=by kernel_rfl
theorem bC.sM:kG bC.T6.2 bC.B6=true:=by kernel_rfl
theorem bC.step (k:Nat) (ih_laws_eqExprS:∀ m,m < k→bC.bY m) (ih_laws_eqExpr:∀ m,m < k→dJ.bY m):bC.bY k:=by
 intro A0 c0 l0 A1 c1 l1 r w hr0 hc0 hr1 hc1 h
 cases k with
 |zero=>exact absurd h (by simp [bC.f])
 |succ k=>
 simp only [bC.f] at h
 have hu28:=Try.underlying28
 have jv:=am hr0
 have jA:=am hc0
 clear hr0 hc0
 have jw:=am hr1
 have jB:=am hc1
 clear hr1 hc1
 have HB:=am (Below.refl w.heap.size w)
 have H:(if (l0.length:Int)=(l1.length:Int) then (bC.l0 k l0 l1 0) else (some false))=some r:=h
 clear h
 by_cases c3:(l0.length:Int)=(l1.length:Int)
 ·rw [if_pos c3] at H
  have jo:((l0.length:Int) == (l1.length:Int))=true:=beq_iff_eq.mpr c3
  have jp:((l0.length:Int) != (l1.length:Int))=false:=bne_eq_false_iff_eq.mpr c3
  have jq:(l0.length == l1.length)=true:=by first|simpa using c3|(simp at c3 ⊢;omega)
  clear c3
  have H':=am H
  clear H
  go_enter Try.func33,Try.ntmps33
  go_wp2
  go_loopg [5] k (fun kq v5 w'=>∃ (j3:Int),v5= .int .i64 j3∧Aside0 (bC.l0 kq l0 l1 j3=some r)∧Aside0 (kq≤k)∧Aside0 (Below w.heap.size w w'))
  case atStart=>exact ⟨(0),sd_,H',⟨Nat.le_refl _⟩,⟨dN⟩⟩
  case round=>
   clear H'
   try clear c1
   try clear c3
   try clear jo
   try clear jp
   try clear jq
   obtain ⟨j3,rfl,HA,jr,HB⟩:=hrel
   cases gk with
   |zero=>exact absurd HA.out (by simp [bC.l0])
   |succ k1=>
    have H:=HA.out
    clear HA
    simp only [bC.l0] at H
    by_cases c4:j3 < (l0.length:Int)
    ·rw [if_pos c4] at H
     have js:decide (j3 < (l0.length:Int))=true:=decide_eq_true c4
     clear c4
     by_cases c5:0≤j3
     ·rw [if_pos c5] at H
      have jx:decide (0≤j3)=true:=decide_eq_true c5
      clear c5
      by_cases c6:j3 < (l1.length:Int)
      ·rw [if_pos c6] at H
       have jy:decide (j3 < (l1.length:Int))=true:=decide_eq_true c6
       clear c6
       obtain ⟨jz,A7,H⟩:=bsa H
       (try dsimp only at H)
       by_cases c8:jz=true
       ·subst c8
        rw [if_pos rfl] at H
        have H':=am H
        clear H
        try go_wp2
        replace HB:=am (bX HB.out)
        have jk:0≤(j3:Int):=of_decide_eq_true bT
        have jl:j3 < (l0.length:Int):=of_decide_eq_true bT
        obtain ⟨ja,je,jf,jt,j4,j5,j6,hl29_2,hi29_2⟩:=kC jv.out j3 jk jl
        have hw29_2:=j6
        have hw29_1:=j5
        have hw29_0:=j4
        cases jt
        replace j4:=(HB.out.cell (World.block_lt_of_cell? w _ j4)).trans j4
        replace j5:=(HB.out.cell (World.block_lt_of_cell? w _ j5)).trans j5
        replace j6:=(HB.out.cell (World.block_lt_of_cell? w _ j6)).trans j6
        have jb:=am hi29_2
        have ji:=am hl29_2
        clear hi29_2 hl29_2
        replace jk:=eq_true jk
        replace jl:=eq_true jl
        have jm:0≤(j3:Int):=of_decide_eq_true bT
        have jn:j3 < (l1.length:Int):=of_decide_eq_true bT
        obtain ⟨jc,jg,jh,ju,j7,j8,j9,hl30_2,hi30_2⟩:=kC jw.out j3 jm jn
        have hw30_2:=j9
        have hw30_1:=j8
        have hw30_0:=j7
        cases ju
        replace j7:=(HB.out.cell (World.block_lt_of_cell? w _ j7)).trans j7
        replace j8:=(HB.out.cell (World.block_lt_of_cell? w _ j8)).trans j8
        replace j9:=(HB.out.cell (World.block_lt_of_cell? w _ j9)).trans j9
        have jd:=am hi30_2
        have jj:=am hl30_2
        clear hi30_2 hl30_2
        replace jm:=eq_true jm
        replace jn:=eq_true jn
        refine nD (n:=10) (S:=fun w'=>w'.cell? (ja.add ((j3).toNat * 3))=some (.int .i64 ((bH l0 j3).f0))∧w'.cell? ⟨(ja.add ((j3).toNat * 3)).block,(ja.add ((j3).toNat * 3)).off + 1,none⟩=some (.int .i64 ((bH l0 j3).f1))∧w'.cell? ⟨(ja.add ((j3).toNat * 3)).block,(ja.add ((j3).toNat * 3)).off + 2,none⟩=some (.slice je ((bH l0 j3).f2).length jf)∧w'.cell? (jc.add ((j3).toNat * 3))=some (.int .i64 ((bH l1 j3).f0))∧w'.cell? ⟨(jc.add ((j3).toNat * 3)).block,(jc.add ((j3).toNat * 3)).off + 1,none⟩=some (.int .i64 ((bH l1 j3).f1))∧w'.cell? ⟨(jc.add ((j3).toNat * 3)).block,(jc.add ((j3).toNat * 3)).off + 2,none⟩=some (.slice jg ((bH l1 j3).f2).length jh)) (ds:=[]) (bz 10 0) (by kernel_rfl) rfl rfl ⟨((HB.out.cell (World.block_lt_of_cell? w _ hw29_0)).trans hw29_0),((HB.out.cell (World.block_lt_of_cell? w _ hw29_1)).trans hw29_1),((HB.out.cell (World.block_lt_of_cell? w _ hw29_2)).trans hw29_2),((HB.out.cell (World.block_lt_of_cell? w _ hw30_0)).trans hw30_0),((HB.out.cell (World.block_lt_of_cell? w _ hw30_1)).trans hw30_1),((HB.out.cell (World.block_lt_of_cell? w _ hw30_2)).trans hw30_2)⟩ (fun hHeld=>?_);refine iY bC.yQ bC.sM (fun HT_ HW_=>?_)
        generalize wr.drew=w9 at HB jb jd j4 j5 j6 j7 j8 j9 hHeld ⊢
        refine pr_ 0 17 (bz 10 1) HT_ ?_
        refine pr_ 1 18 (bz 10 3) HT_ ?_
        refine pr_ 2 19 (bz 10 7) HT_ ?_
        refine pr_ 4 21 (bz 10 23) HT_ ?_
        refine pr_ 5 22 (bz 10 55) HT_ ?_
        refine pr_ 6 23 (bz 10 119) HT_ ?_
        refine aAm 3 20 (bz 10 127) HT_ HW_ hHeld ?_
        refine aAm 7 24 (bz 10 255) HT_ HW_ hHeld ?_
        refine pI (i:=8) (N:=some 25) (bz 10 511) rfl rfl (iO HT_.out (by kernel_rfl)) (by decide) (fun K hK=>?_)
        refine lH Try.func10 (by kernel_rfl) rfl #[.agg #[.int .i64 ((bH l0 j3).f0), .int .i64 ((bH l0 j3).f1), .slice je ((bH l0 j3).f2).length jf], .agg #[.int .i64 ((bH l1 j3).f0), .int .i64 ((bH l1 j3).f1), .slice jg ((bH l1 j3).f2).length jh]] (by rfl) rfl rfl dK ?_
        with_reducible refine (ih_laws_eqExpr k1 (by have:=jr.out;omega) ((bH l0 j3).f0) ((bH l0 j3).f1) _ _ ((bH l0 j3).f2) ((bH l1 j3).f0) ((bH l1 j3).f1) _ _ ((bH l1 j3).f2) true _ (aC_ (Kd.aI jb.out HB.out)) ji.out (aC_ (Kd.aI jd.out HB.out)) jj.out A7.out).mono ?_
        rintro e jC ⟨rfl,hb⟩
        refine ⟨_,rfl,?_⟩
        replace HB:=am (aC dN hb)
        (try clear hb)
        (try clear hb2)
        (try clear hk)
        (try clear hi)
        refine hK.out _ _ ⟨((HB.out.cell (World.block_lt_of_cell? w _ hw29_0)).trans hw29_0),((HB.out.cell (World.block_lt_of_cell? w _ hw29_1)).trans hw29_1),((HB.out.cell (World.block_lt_of_cell? w _ hw29_2)).trans hw29_2),((HB.out.cell (World.block_lt_of_cell? w _ hw30_0)).trans hw30_0),((HB.out.cell (World.block_lt_of_cell? w _ hw30_1)).trans hw30_1),((HB.out.cell (World.block_lt_of_cell? w _ hw30_2)).trans hw30_2)⟩ (fun hHeld=>?_)
        clear hK K
        refine lQ (a':=?_) ?_ ?_
        rotate_left
        ·exact ap_ (N:=25)
        refine pr_ 9 26 (bz 10 1023) HT_ ?_
        refine rG (lJ HT_.out (by kernel_rfl)) ?_
        try go_wp2
        go_roundg k1
        case measure=>have:=jr.out;omega
        case rel=>exact ⟨(wrap64 (j3 + 1)),sd_,H',⟨by have:=jr.out;omega⟩,⟨dN⟩⟩
       replace c8:=Bool.eq_false_iff.mpr c8
       subst c8
       rw [if_neg (show ¬ (false=true) by decide)] at H
       obtain rfl:=Option.some.inj H
       try go_wp2
       replace HB:=am (bX HB.out)
       have jk:0≤(j3:Int):=of_decide_eq_true bT
       have jl:j3 < (l0.length:Int):=of_decide_eq_true bT
       obtain ⟨ja,je,jf,jt,j4,j5,j6,hl29_2,hi29_2⟩:=kC jv.out j3 jk jl
       have hw29_2:=j6
       have hw29_1:=j5
       have hw29_0:=j4
       cases jt
       replace j4:=(HB.out.cell (World.block_lt_of_cell? w _ j4)).trans j4
       replace j5:=(HB.out.cell (World.block_lt_of_cell? w _ j5)).trans j5
       replace j6:=(HB.out.cell (World.block_lt_of_cell? w _ j6)).trans j6
       have jb:=am hi29_2
       have ji:=am hl29_2
       clear hi29_2 hl29_2
       replace jk:=eq_true jk
       replace jl:=eq_true jl
       have jm:0≤(j3:Int):=of_decide_eq_true bT
       have jn:j3 < (l1.length:Int):=of_decide_eq_true bT
       obtain ⟨jc,jg,jh,ju,j7,j8,j9,hl30_2,hi30_2⟩:=kC jw.out j3 jm jn
       have hw30_2:=j9
       have hw30_1:=j8
       have hw30_0:=j7
       cases ju
       replace j7:=(HB.out.cell (World.block_lt_of_cell? w _ j7)).trans j7
       replace j8:=(HB.out.cell (World.block_lt_of_cell? w _ j8)).trans j8
       replace j9:=(HB.out.cell (World.block_lt_of_cell? w _ j9)).trans j9
       have jd:=am hi30_2
       have jj:=am hl30_2
       clear hi30_2 hl30_2
       replace jm:=eq_true jm
       replace jn:=eq_true jn
       refine nD (n:=10) (S:=fun w'=>w'.cell? (ja.add ((j3).toNat * 3))=some (.int .i64 ((bH l0 j3).f0))∧w'.cell? ⟨(ja.add ((j3).toNat * 3)).block,(ja.add ((j3).toNat * 3)).off + 1,none⟩=some (.int .i64 ((bH l0 j3).f1))∧w'.cell? ⟨(ja.add ((j3).toNat * 3)).block,(ja.add ((j3).toNat * 3)).off + 2,none⟩=some (.slice je ((bH l0 j3).f2).length jf)∧w'.cell? (jc.add ((j3).toNat * 3))=some (.int .i64 ((bH l1 j3).f0))∧w'.cell? ⟨(jc.add ((j3).toNat * 3)).block,(jc.add ((j3).toNat * 3)).off + 1,none⟩=some (.int .i64 ((bH l1 j3).f1))∧w'.cell? ⟨(jc.add ((j3).toNat * 3)).block,(jc.add ((j3).toNat * 3)).off + 2,none⟩=some (.slice jg ((bH l1 j3).f2).length jh)) (ds:=[]) (bz 10 0) (by kernel_rfl) rfl rfl ⟨((HB.out.cell (World.block_lt_of_cell? w _ hw29_0)).trans hw29_0),((HB.out.cell (World.block_lt_of_cell? w _ hw29_1)).trans hw29_1),((HB.out.cell (World.block_lt_of_cell? w _ hw29_2)).trans hw29_2),((HB.out.cell (World.block_lt_of_cell? w _ hw30_0)).trans hw30_0),((HB.out.cell (World.block_lt_of_cell? w _ hw30_1)).trans hw30_1),((HB.out.cell (World.block_lt_of_cell? w _ hw30_2)).trans hw30_2)⟩ (fun hHeld=>?_);refine iY bC.yQ bC.sM (fun HT_ HW_=>?_)
       generalize wr.drew=jD at HB jb jd j4 j5 j6 j7 j8 j9 hHeld ⊢
       refine pr_ 0 17 (bz 10 1) HT_ ?_
       refine pr_ 1 18 (bz 10 3) HT_ ?_
       refine pr_ 2 19 (bz 10 7) HT_ ?_
       refine pr_ 4 21 (bz 10 23) HT_ ?_
       refine pr_ 5 22 (bz 10 55) HT_ ?_
       refine pr_ 6 23 (bz 10 119) HT_ ?_
       refine aAm 3 20 (bz 10 127) HT_ HW_ hHeld ?_
       refine aAm 7 24 (bz 10 255) HT_ HW_ hHeld ?_
       refine pI (i:=8) (N:=some 25) (bz 10 511) rfl rfl (iO HT_.out (by kernel_rfl)) (by decide) (fun K hK=>?_)
       refine lH Try.func10 (by kernel_rfl) rfl #[.agg #[.int .i64 ((bH l0 j3).f0), .int .i64 ((bH l0 j3).f1), .slice je ((bH l0 j3).f2).length jf], .agg #[.int .i64 ((bH l1 j3).f0), .int .i64 ((bH l1 j3).f1), .slice jg ((bH l1 j3).f2).length jh]] (by rfl) rfl rfl dK ?_
       with_reducible refine (ih_laws_eqExpr k1 (by have:=jr.out;omega) ((bH l0 j3).f0) ((bH l0 j3).f1) _ _ ((bH l0 j3).f2) ((bH l1 j3).f0) ((bH l1 j3).f1) _ _ ((bH l1 j3).f2) false _ (aC_ (Kd.aI jb.out HB.out)) ji.out (aC_ (Kd.aI jd.out HB.out)) jj.out A7.out).mono ?_
       rintro e jE ⟨rfl,hb⟩
       refine ⟨_,rfl,?_⟩
       replace HB:=am (aC dN hb)
       (try clear hb)
       (try clear hb2)
       (try clear hk)
       (try clear hi)
       refine hK.out _ _ ⟨((HB.out.cell (World.block_lt_of_cell? w _ hw29_0)).trans hw29_0),((HB.out.cell (World.block_lt_of_cell? w _ hw29_1)).trans hw29_1),((HB.out.cell (World.block_lt_of_cell? w _ hw29_2)).trans hw29_2),((HB.out.cell (World.block_lt_of_cell? w _ hw30_0)).trans hw30_0),((HB.out.cell (World.block_lt_of_cell? w _ hw30_1)).trans hw30_1),((HB.out.cell (World.block_lt_of_cell? w _ hw30_2)).trans hw30_2)⟩ (fun hHeld=>?_)
       clear hK K
       refine lQ (a':=?_) ?_ ?_
       rotate_left
       ·exact ap_ (N:=25)
       refine pr_ 9 26 (bz 10 1023) HT_ ?_
       refine rG (lJ HT_.out (by kernel_rfl)) ?_
       try go_wp2
       go_ret
       exact ⟨rr_,dN⟩
      rw [if_neg c6] at H
      exact absurd H (by simp)
     rw [if_neg c5] at H
     exact absurd H (by simp)
    rw [if_neg c4] at H
    have js:decide (j3 < (l0.length:Int))=false:=decide_eq_false c4
    clear c4
    obtain rfl:=Option.some.inj H
    go_wp2
    go_ret
    exact ⟨rr_,dN⟩
 rw [if_neg c3] at H
 have jo:((l0.length:Int) == (l1.length:Int))=false:=beq_eq_false_iff_ne.mpr c3
 have jp:((l0.length:Int) != (l1.length:Int))=true:=bne_iff_ne.mpr c3
 have jq:(l0.length == l1.length)=false:=by first|simpa using c3|(simp at c3 ⊢;omega)
 obtain rfl:=Option.some.inj H
 go_enter Try.func33,Try.ntmps33
 go_wp2
 go_ret
 exact ⟨rr_,dN⟩
theorem dJ.step (k:Nat) (ih_laws_eqExprS:∀ m,m < k→bC.bY m) (ih_laws_eqExpr:∀ m,m < k→dJ.bY m):dJ.bY k:=by
 intro j4 j5 jj jk j8 j6 j7 jl jm j9 r w hr0_2 hc0_2 hr1_2 hc1_2 h
 cases k with
 |zero=>exact absurd h (by simp [dJ.f])
 |succ k=>
 simp only [dJ.f] at h
 have hu28:=Try.underlying28
 have jf:=am hr0_2
 have jg:=am hc0_2
 clear hr0_2 hc0_2
 have jh:=am hr1_2
 have ji:=am hc1_2
 clear hr1_2 hc1_2
 have HB:=am (Below.refl w.heap.size w)
 have H:=h
 clear h
 have HH_:=am H
 clear H
 go_enter Try.func10,Try.ntmps10
 go_upto_region 1 with (first|((with_reducible refine bJ (N:=2) rfl ?_);refine bR rfl (N:=2) rfl (cs:=#[.int .i64 j4, .int .i64 j5, .slice jj j8.length jk]) (t:=28) rn_ ?_;intro jb hg w7 hbox hb;have j3:=am (hbox);have jD:=am ((by rw [hg];exact (aN dN):w.heap.size≤jb));have GE21:=am ((by rw [hg];exact (aN dN):w.heap.size≤jb));replace HB:=am (aC dN hb);clear hb hbox hg)|((with_reducible refine bJ (N:=3) rfl ?_);refine bR rfl (N:=3) rfl (cs:=#[.int .i64 j6, .int .i64 j7, .slice jl j9.length jm]) (t:=28) rn_ ?_;intro jc hg w8 hbox hb;have ja:=am (hbox);have jE:=am ((by rw [hg];exact (aN nX):w.heap.size≤jc));have GE22:=am ((by rw [hg];exact (aN nX):w.heap.size≤jc));replace HB:=am (aC nX hb);have jd:=am ((by rw [hg];exact Nat.ne_of_lt (oD j3.out):jb≠jc));have je:=am ((by rw [hg];exact Nat.ne_of_gt (oD j3.out):jc≠jb));replace j3:=bbP j3 hb;clear hb hbox hg;have jF:=jd.out;have jG:=je.out;obtain ⟨jn,jo,jp,jq,jr,js⟩:=gW j3.out;obtain ⟨jt,ju,jv,jw,jx,jy⟩:=gW ja.out))
 have H:=HH_.out
 clear HH_
 by_cases c3:j4=j6
 ·rw [if_pos c3] at H
  have jz:(j4 == j6)=true:=beq_iff_eq.mpr c3
  have jA:(j4 != j6)=false:=bne_eq_false_iff_eq.mpr c3
  clear c3
  by_cases c4:j5=j7
  ·rw [if_pos c4] at H
   have jB:(j5 == j7)=true:=beq_iff_eq.mpr c4
   have jC:(j5 != j7)=false:=bne_eq_false_iff_eq.mpr c4
   clear c4
   obtain ⟨jH,A5,H⟩:=bsa H
   (try dsimp only at H)
   by_cases c6:jH=true
   ·subst c6
    rw [if_pos rfl] at H
    obtain rfl:=Option.some.inj H
    go_wp2_with (first|((with_reducible refine aD (f:=33) rfl ?_);refine aU (some 19) rfl rfl Try.func33 (by kernel_rfl) rfl #[.slice jj j8.length jk, .slice jl j9.length jm] rfl dK ?_;(with_reducible refine (ih_laws_eqExprS k (by omega) _ _ j8 _ _ j9 true _ (aC_ (Kd.aI jf.out HB.out)) jg.out (aC_ (Kd.aI jh.out HB.out)) ji.out A5.out).mono ?_);rintro e jI ⟨rfl,hb⟩;refine ⟨_,rfl,?_⟩;replace j3:=bbP j3 hb;replace ja:=bbP ja hb;replace HB:=am (aC wL hb);(try clear hb)))
    go_ret
    exact ⟨rr_,wL⟩
   replace c6:=Bool.eq_false_iff.mpr c6
   subst c6
   rw [if_neg (show ¬ (false=true) by decide)] at H
   obtain rfl:=Option.some.inj H
   go_wp2_with (first|((with_reducible refine aD (f:=33) rfl ?_);refine aU (some 19) rfl rfl Try.func33 (by kernel_rfl) rfl #[.slice jj j8.length jk, .slice jl j9.length jm] rfl dK ?_;(with_reducible refine (ih_laws_eqExprS k (by omega) _ _ j8 _ _ j9 false _ (aC_ (Kd.aI jf.out HB.out)) jg.out (aC_ (Kd.aI jh.out HB.out)) ji.out A5.out).mono ?_);rintro e jJ ⟨rfl,hb⟩;refine ⟨_,rfl,?_⟩;replace j3:=bbP j3 hb;replace ja:=bbP ja hb;replace HB:=am (aC wL hb);(try clear hb)))
   go_ret
   exact ⟨rr_,wL⟩
  rw [if_neg c4] at H
  have jB:(j5 == j7)=false:=beq_eq_false_iff_ne.mpr c4
  have jC:(j5 != j7)=true:=bne_iff_ne.mpr c4
  obtain rfl:=Option.some.inj H
  go_wp2
  go_ret
  exact ⟨rr_,wL⟩
 rw [if_neg c3] at H
 have jz:(j4 == j6)=false:=beq_eq_false_iff_ne.mpr c3
 have jA:(j4 != j6)=true:=bne_iff_ne.mpr c3
 obtain rfl:=Option.some.inj H
 go_wp2
 go_ret
 exact ⟨rr_,wL⟩
theorem bC.calls_all (k:Nat):bC.bY k∧dJ.bY k:=by
 induction k using Nat.strongRecOn with
 | _ k ih=>exact ⟨bC.step k (ih_laws_eqExprS:=fun m hm=>(ih m hm).1) (ih_laws_eqExpr:=fun m hm=>(ih m hm).2),dJ.step k (ih_laws_eqExprS:=fun m hm=>(ih m hm).1) (ih_laws_eqExpr:=fun m hm=>(ih m hm).2)⟩
theorem bC.calls (k:Nat):bC.bY k:=(bC.calls_all k).1
theorem dJ.calls (k:Nat):dJ.bY k:=(bC.calls_all k).2
theorem dR.step (k:Nat) (ih_laws_eqStmt:∀ m,m < k→dR.bY m) (ih_laws_eqStmtS:∀ m,m < k→aZ.bY m):dR.bY k:=by
 intro jh ji jj j5 j6 jn jo j7 jx jy jb jJ jK jp jk jl jm j8 j9 jq jr ja jz jA jc jL jM js r w hr0_5 hc0_5 hr0_6 hc0_6 hr0_7 hc0_7 hr1_5 hc1_5 hr1_6 hc1_6 hr1_7 hc1_7 h
 cases k with
 |zero=>exact absurd h (by simp [dR.f])
 |succ k=>
 simp only [dR.f] at h
 have hu70:=Try.underlying70
 have hu28:=Try.underlying28
 have jd:=am hr0_5
 have je:=am hc0_5
 clear hr0_5 hc0_5
 have jt:=am hr0_6
 have ju:=am hc0_6
 clear hr0_6 hc0_6
 have jF:=am hr0_7
 have jG:=am hc0_7
 clear hr0_7 hc0_7
 have jf:=am hr1_5
 have jg:=am hc1_5
 clear hr1_5 hc1_5
 have jv:=am hr1_6
 have jw:=am hc1_6
 clear hr1_6 hc1_6
 have jH:=am hr1_7
 have jI:=am hc1_7
 clear hr1_7 hc1_7
 have HB:=am (Below.refl w.heap.size w)
 have H:=h
 clear h
 have HH_:=am H
 clear H
 go_enter Try.func42,Try.ntmps42
 go_upto_region 1 with (first|((with_reducible refine bJ (N:=2) rfl ?_);refine bR rfl (N:=2) rfl (cs:=#[.int .i64 jh, .int .i64 ji, .int .i64 jj, .int .i64 j5, .int .i64 j6, .slice jn j7.length jo, .slice jx jb.length jy, .slice jJ jp.length jK]) (t:=70) rn_ ?_;intro jB hg Q9 hbox hb;have j3:=am (hbox);have Q4:=am ((by rw [hg];exact (aN dN):w.heap.size≤jB));have GE37:=am ((by rw [hg];exact (aN dN):w.heap.size≤jB));replace HB:=am (aC dN hb);clear hb hbox hg)|((with_reducible refine bJ (N:=3) rfl ?_);refine bR rfl (N:=3) rfl (cs:=#[.int .i64 jk, .int .i64 jl, .int .i64 jm, .int .i64 j8, .int .i64 j9, .slice jq ja.length jr, .slice jz jc.length jA, .slice jL js.length jM]) (t:=70) rn_ ?_;intro jC hg Qa hbox hb;have j4:=am (hbox);have Q5:=am ((by rw [hg];exact (aN RY):w.heap.size≤jC));have GE38:=am ((by rw [hg];exact (aN RY):w.heap.size≤jC));replace HB:=am (aC RY hb);have jD:=am ((by rw [hg];exact Nat.ne_of_lt (oD j3.out):jB≠jC));have jE:=am ((by rw [hg];exact Nat.ne_of_gt (oD j3.out):jC≠jB));replace j3:=bbP j3 hb;clear hb hbox hg;have Q0:=jD.out;have Q1:=jE.out;obtain ⟨jN,jO,jP,jQ,jR,jS,jT,jU,jV,jW,jX,jY,jZ,q0,q1,q2⟩:=eF j3.out;obtain ⟨q3,q4,q5,q6,q7,q8,q9,qa,qb,qc,qd,qe,qf,qg,qh,qi⟩:=eF j4.out))
 have H:=HH_.out
 clear HH_
 by_cases c3:jh=jk
 ·rw [if_pos c3] at H
  have JU:(jh == jk)=true:=beq_iff_eq.mpr c3
  have JV:(jh != jk)=false:=bne_eq_false_iff_eq.mpr c3
  clear c3
  by_cases c4:ji=jl
  ·rw [if_pos c4] at H
   have JW:(ji == jl)=true:=beq_iff_eq.mpr c4
   have JX:(ji != jl)=false:=bne_eq_false_iff_eq.mpr c4
   clear c4
   by_cases c5:jj=jm
   ·rw [if_pos c5] at H
    have JY:(jj == jm)=true:=beq_iff_eq.mpr c5
    have JZ:(jj != jm)=false:=bne_eq_false_iff_eq.mpr c5
    clear c5
    obtain ⟨Q6,A6,H⟩:=bsa H
    (try dsimp only at H)
    by_cases c7:Q6=true
    ·subst c7
     rw [if_pos rfl] at H
     obtain ⟨Q7,A8,H⟩:=bsa H
     (try dsimp only at H)
     by_cases c9:Q7=true
     ·subst c9
      rw [if_pos rfl] at H
      obtain ⟨Q8,Q2,H⟩:=bsm H
      (try dsimp only at H)
      have Q3:=am Q2
      clear Q2
      by_cases qj:Q8=true
      ·subst qj
       rw [if_pos rfl] at H
       obtain rfl:=Option.some.inj H
       go_wp2_with (first|((with_reducible refine aD (f:=10) rfl ?_);refine aU (some 24) rfl rfl Try.func10 (by kernel_rfl) rfl #[.agg #[.int .i64 j5, .int .i64 j6, .slice jn j7.length jo], .agg #[.int .i64 j8, .int .i64 j9, .slice jq ja.length jr]] rfl dK ?_;(with_reducible refine (dJ.calls k j5 j6 _ _ j7 j8 j9 _ _ ja true _ (aC_ (Kd.aI jd.out HB.out)) je.out (aC_ (Kd.aI jf.out HB.out)) jg.out A6.out).mono ?_);rintro e Qb ⟨rfl,hb⟩;refine ⟨_,rfl,?_⟩;replace j3:=bbP j3 hb;replace j4:=bbP j4 hb;replace HB:=am (aC nW hb);(try clear hb);obtain ⟨qk,ql,qm,qn,qo,qp,qq,qr,qs,qt,qu,qv,qw,qx,qy,qz⟩:=eF j3.out;obtain ⟨qA,qB,qC,qD,qE,qF,qG,qH,qI,qJ,qK,qL,qM,qN,qO,qP⟩:=eF j4.out)|((with_reducible refine aD (f:=17) rfl ?_);refine aU (some 30) rfl rfl Try.func17 (by kernel_rfl) rfl #[.slice jx jb.length jy, .slice jz jc.length jA] rfl dK ?_;(with_reducible refine (ih_laws_eqStmtS k (by omega) _ _ jb _ _ jc true _ (aC_ (Kd.aI jt.out HB.out)) ju.out (aC_ (Kd.aI jv.out HB.out)) jw.out A8.out).mono ?_);rintro e Qc ⟨rfl,hb⟩;refine ⟨_,rfl,?_⟩;replace j3:=bbP j3 hb;replace j4:=bbP j4 hb;replace HB:=am (aC nW hb);(try clear hb);obtain ⟨qQ,qR,qS,qT,qU,qV,qW,qX,qY,qZ,z0,z1,z2,z3,z4,z5⟩:=eF j3.out;obtain ⟨z6,z7,z8,z9,za,zb,zc,zd,ze,zf,zg,zh,zi,zj,zk,zl⟩:=eF j4.out)|((with_reducible refine aD (f:=17) rfl ?_);refine aU (some 36) rfl rfl Try.func17 (by kernel_rfl) rfl #[.slice jJ jp.length jK, .slice jL js.length jM] rfl dK ?_;(with_reducible refine (ih_laws_eqStmtS k (by omega) _ _ jp _ _ js true _ (aC_ (Kd.aI jF.out HB.out)) jG.out (aC_ (Kd.aI jH.out HB.out)) jI.out Q3.out).mono ?_);rintro e Qd ⟨rfl,hb⟩;refine ⟨_,rfl,?_⟩;replace j3:=bbP j3 hb;replace j4:=bbP j4 hb;replace HB:=am (aC nW hb);(try clear hb)))
       go_ret
       exact ⟨rr_,nW⟩
      replace qj:=Bool.eq_false_iff.mpr qj
      subst qj
      rw [if_neg (show ¬ (false=true) by decide)] at H
      obtain rfl:=Option.some.inj H
      go_wp2_with (first|((with_reducible refine aD (f:=10) rfl ?_);refine aU (some 24) rfl rfl Try.func10 (by kernel_rfl) rfl #[.agg #[.int .i64 j5, .int .i64 j6, .slice jn j7.length jo], .agg #[.int .i64 j8, .int .i64 j9, .slice jq ja.length jr]] rfl dK ?_;(with_reducible refine (dJ.calls k j5 j6 _ _ j7 j8 j9 _ _ ja true _ (aC_ (Kd.aI jd.out HB.out)) je.out (aC_ (Kd.aI jf.out HB.out)) jg.out A6.out).mono ?_);rintro e Qe ⟨rfl,hb⟩;refine ⟨_,rfl,?_⟩;replace j3:=bbP j3 hb;replace j4:=bbP j4 hb;replace HB:=am (aC nW hb);(try clear hb);obtain ⟨zm,zn,zo,zp,zq,zr,zs,zt,zu,zv,zw,zx,zy,zz,zA,zB⟩:=eF j3.out;obtain ⟨zC,zD,zE,zF,zG,zH,zI,zJ,zK,zL,zM,zN,zO,zP,zQ,zR⟩:=eF j4.out)|((with_reducible refine aD (f:=17) rfl ?_);refine aU (some 30) rfl rfl Try.func17 (by kernel_rfl) rfl #[.slice jx jb.length jy, .slice jz jc.length jA] rfl dK ?_;(with_reducible refine (ih_laws_eqStmtS k (by omega) _ _ jb _ _ jc true _ (aC_ (Kd.aI jt.out HB.out)) ju.out (aC_ (Kd.aI jv.out HB.out)) jw.out A8.out).mono ?_);rintro e Qf ⟨rfl,hb⟩;refine ⟨_,rfl,?_⟩;replace j3:=bbP j3 hb;replace j4:=bbP j4 hb;replace HB:=am (aC nW hb);(try clear hb);obtain ⟨zS,zT,zU,zV,zW,zX,zY,zZ,J0,J1,J2,J3,J4,J5,J6,J7⟩:=eF j3.out;obtain ⟨J8,J9,Ja,Jb,Jc,Jd,Je,Jf,Jg,Jh,Ji,Jj,Jk,Jl,Jm,Jn⟩:=eF j4.out)|((with_reducible refine aD (f:=17) rfl ?_);refine aU (some 36) rfl rfl Try.func17 (by kernel_rfl) rfl #[.slice jJ jp.length jK, .slice jL js.length jM] rfl dK ?_;(with_reducible refine (ih_laws_eqStmtS k (by omega) _ _ jp _ _ js false _ (aC_ (Kd.aI jF.out HB.out)) jG.out (aC_ (Kd.aI jH.out HB.out)) jI.out Q3.out).mono ?_);rintro e Qg ⟨rfl,hb⟩;refine ⟨_,rfl,?_⟩;replace j3:=bbP j3 hb;replace j4:=bbP j4 hb;replace HB:=am (aC nW hb);(try clear hb)))
      go_ret
      exact ⟨rr_,nW⟩
     replace c9:=Bool.eq_false_iff.mpr c9
     subst c9
     rw [if_neg (show ¬ (false=true) by decide)] at H
     obtain rfl:=Option.some.inj H
     go_wp2_with (first|((with_reducible refine aD (f:=10) rfl ?_);refine aU (some 24) rfl rfl Try.func10 (by kernel_rfl) rfl #[.agg #[.int .i64 j5, .int .i64 j6, .slice jn j7.length jo], .agg #[.int .i64 j8, .int .i64 j9, .slice jq ja.length jr]] rfl dK ?_;(with_reducible refine (dJ.calls k j5 j6 _ _ j7 j8 j9 _ _ ja true _ (aC_ (Kd.aI jd.out HB.out)) je.out (aC_ (Kd.aI jf.out HB.out)) jg.out A6.out).mono ?_);rintro e Qh ⟨rfl,hb⟩;refine ⟨_,rfl,?_⟩;replace j3:=bbP j3 hb;replace j4:=bbP j4 hb;replace HB:=am (aC nW hb);(try clear hb);obtain ⟨Jo,Jp,Jq,Jr,Js,Jt,Ju,Jv,Jw,Jx,Jy,Jz,JA,JB,JC,JD⟩:=eF j3.out;obtain ⟨JE,JF,JG,JH,JI,JJ,JK,JL,JM,JN,JO,JP,JQ,JR,JS,JT⟩:=eF j4.out)|((with_reducible refine aD (f:=17) rfl ?_);refine aU (some 30) rfl rfl Try.func17 (by kernel_rfl) rfl #[.slice jx jb.length jy, .slice jz jc.length jA] rfl dK ?_;(with_reducible refine (ih_laws_eqStmtS k (by omega) _ _ jb _ _ jc false _ (aC_ (Kd.aI jt.out HB.out)) ju.out (aC_ (Kd.aI jv.out HB.out)) jw.out A8.out).mono ?_);rintro e Qi ⟨rfl,hb⟩;refine ⟨_,rfl,?_⟩;replace j3:=bbP j3 hb;replace j4:=bbP j4 hb;replace HB:=am (aC nW hb);(try clear hb)))
     go_ret
     exact ⟨rr_,nW⟩
    replace c7:=Bool.eq_false_iff.mpr c7
    subst c7
    rw [if_neg (show ¬ (false=true) by decide)] at H
    obtain rfl:=Option.some.inj H
    go_wp2_with (first|((with_reducible refine aD (f:=10) rfl ?_);refine aU (some 24) rfl rfl Try.func10 (by kernel_rfl) rfl #[.agg #[.int .i64 j5, .int .i64 j6, .slice jn j7.length jo], .agg #[.int .i64 j8, .int .i64 j9, .slice jq ja.length jr]] rfl dK ?_;(with_reducible refine (dJ.calls k j5 j6 _ _ j7 j8 j9 _ _ ja false _ (aC_ (Kd.aI jd.out HB.out)) je.out (aC_ (Kd.aI jf.out HB.out)) jg.out A6.out).mono ?_);rintro e Qj ⟨rfl,hb⟩;refine ⟨_,rfl,?_⟩;replace j3:=bbP j3 hb;replace j4:=bbP j4 hb;replace HB:=am (aC nW hb);(try clear hb)))
    go_ret
    exact ⟨rr_,nW⟩
   rw [if_neg c5] at H
   have JY:(jj == jm)=false:=beq_eq_false_iff_ne.mpr c5
   have JZ:(jj != jm)=true:=bne_iff_ne.mpr c5
   obtain rfl:=Option.some.inj H
   go_wp2
   go_ret
   exact ⟨rr_,nW⟩
  rw [if_neg c4] at H
  have JW:(ji == jl)=false:=beq_eq_false_iff_ne.mpr c4
  have JX:(ji != jl)=true:=bne_iff_ne.mpr c4
  obtain rfl:=Option.some.inj H
  go_wp2
  go_ret
  exact ⟨rr_,nW⟩
 rw [if_neg c3] at H
 have JU:(jh == jk)=false:=beq_eq_false_iff_ne.mpr c3
 have JV:(jh != jk)=true:=bne_iff_ne.mpr c3
 obtain rfl:=Option.some.inj H
 go_wp2
 go_ret
 exact ⟨rr_,nW⟩
def aZ.T6:Bool × List (List Nat × List Nat):=(true,[([],[]),([],[]),([0,1],[0,1]),([2],[2]),([],[]),([],[]),([4,5],[4,5]),([6],[6]),([3,7],[3,7]),([8],[8])])
def aZ.B6:List Nat:=[0,0,3,7,0,0,48,112,255,511]
theorem aZ.yQ:kZ .any (opsOf Try.f17 6)=aZ.T6:=by kernel_rfl
theorem aZ.sM:kG aZ.T6.2 aZ.B6=true:=by kernel_rfl
theorem aZ.step (k:Nat) (ih_laws_eqStmt:∀ m,m < k→dR.bY m) (ih_laws_eqStmtS:∀ m,m < k→aZ.bY m):aZ.bY k:=by
 intro A0 c0 l0 A1 c1 l1 r w hr0 hc0 hr1 hc1 h
 cases k with
 |zero=>exact absurd h (by simp [aZ.f])
 |succ k=>
 simp only [aZ.f] at h
 have hu70:=Try.underlying70
 have jV:=am hr0
 have q0:=am hc0
 clear hr0 hc0
 have jW:=am hr1
 have q1:=am hc1
 clear hr1 hc1
 have HB:=am (Below.refl w.heap.size w)
 have H:(if (l0.length:Int)=(l1.length:Int) then (aZ.l0 k l0 l1 0) else (some false))=some r:=h
 clear h
 by_cases c3:(l0.length:Int)=(l1.length:Int)
 ·rw [if_pos c3] at H
  have jO:((l0.length:Int) == (l1.length:Int))=true:=beq_iff_eq.mpr c3
  have jP:((l0.length:Int) != (l1.length:Int))=false:=bne_eq_false_iff_eq.mpr c3
  have jQ:(l0.length == l1.length)=true:=by first|simpa using c3|(simp at c3 ⊢;omega)
  clear c3
  have H':=am H
  clear H
  go_enter Try.func17,Try.ntmps17
  go_wp2
  go_loopg [5] k (fun kq v5 w'=>∃ (j3:Int),v5= .int .i64 j3∧Aside0 (aZ.l0 kq l0 l1 j3=some r)∧Aside0 (kq≤k)∧Aside0 (Below w.heap.size w w'))
  case atStart=>exact ⟨(0),sd_,H',⟨Nat.le_refl _⟩,⟨dN⟩⟩
  case round=>
   clear H'
   try clear c1
   try clear c3
   try clear jO
   try clear jP
   try clear jQ
   obtain ⟨j3,rfl,HA,jR,HB⟩:=hrel
   cases gk with
   |zero=>exact absurd HA.out (by simp [aZ.l0])
   |succ k1=>
    have H:=HA.out
    clear HA
    simp only [aZ.l0] at H
    by_cases c4:j3 < (l0.length:Int)
    ·rw [if_pos c4] at H
     have jS:decide (j3 < (l0.length:Int))=true:=decide_eq_true c4
     clear c4
     by_cases c5:0≤j3
     ·rw [if_pos c5] at H
      have jX:decide (0≤j3)=true:=decide_eq_true c5
      clear c5
      by_cases c6:j3 < (l1.length:Int)
      ·rw [if_pos c6] at H
       have jY:decide (j3 < (l1.length:Int))=true:=decide_eq_true c6
       clear c6
       obtain ⟨jZ,A7,H⟩:=bsa H
       (try dsimp only at H)
       by_cases c8:jZ=true
       ·subst c8
        rw [if_pos rfl] at H
        have H':=am H
        clear H
        try go_wp2
        replace HB:=am (bX HB.out)
        have jK:0≤(j3:Int):=of_decide_eq_true bT
        have jL:j3 < (l0.length:Int):=of_decide_eq_true bT
        obtain ⟨j4,js,jt,ju,jv,jw,jx,jT,j6,j7,j8,j9,ja,jb,jc,jd,hl28_5,hi28_5,hl28_6,hi28_6,hl28_7,hi28_7⟩:=eY jV.out j3 jK jL
        have hw28_7:=jd
        have hw28_6:=jc
        have hw28_5:=jb
        have hw28_4:=ja
        have hw28_3:=j9
        have hw28_2:=j8
        have hw28_1:=j7
        have hw28_0:=j6
        cases jT
        replace j6:=(HB.out.cell (World.block_lt_of_cell? w _ j6)).trans j6
        replace j7:=(HB.out.cell (World.block_lt_of_cell? w _ j7)).trans j7
        replace j8:=(HB.out.cell (World.block_lt_of_cell? w _ j8)).trans j8
        replace j9:=(HB.out.cell (World.block_lt_of_cell? w _ j9)).trans j9
        replace ja:=(HB.out.cell (World.block_lt_of_cell? w _ ja)).trans ja
        replace jb:=(HB.out.cell (World.block_lt_of_cell? w _ jb)).trans jb
        replace jc:=(HB.out.cell (World.block_lt_of_cell? w _ jc)).trans jc
        replace jd:=(HB.out.cell (World.block_lt_of_cell? w _ jd)).trans jd
        have jm:=am hi28_5
        have jE:=am hl28_5
        clear hi28_5 hl28_5
        have jn:=am hi28_6
        have jF:=am hl28_6
        clear hi28_6 hl28_6
        have jo:=am hi28_7
        have jG:=am hl28_7
        clear hi28_7 hl28_7
        replace jK:=eq_true jK
        replace jL:=eq_true jL
        have jM:0≤(j3:Int):=of_decide_eq_true bT
        have jN:j3 < (l1.length:Int):=of_decide_eq_true bT
        obtain ⟨j5,jy,jz,jA,jB,jC,jD,jU,je,jf,jg,jh,ji,jj,jk,jl,hl29_5,hi29_5,hl29_6,hi29_6,hl29_7,hi29_7⟩:=eY jW.out j3 jM jN
        have hw29_7:=jl
        have hw29_6:=jk
        have hw29_5:=jj
        have hw29_4:=ji
        have hw29_3:=jh
        have hw29_2:=jg
        have hw29_1:=jf
        have hw29_0:=je
        cases jU
        replace je:=(HB.out.cell (World.block_lt_of_cell? w _ je)).trans je
        replace jf:=(HB.out.cell (World.block_lt_of_cell? w _ jf)).trans jf
        replace jg:=(HB.out.cell (World.block_lt_of_cell? w _ jg)).trans jg
        replace jh:=(HB.out.cell (World.block_lt_of_cell? w _ jh)).trans jh
        replace ji:=(HB.out.cell (World.block_lt_of_cell? w _ ji)).trans ji
        replace jj:=(HB.out.cell (World.block_lt_of_cell? w _ jj)).trans jj
        replace jk:=(HB.out.cell (World.block_lt_of_cell? w _ jk)).trans jk
        replace jl:=(HB.out.cell (World.block_lt_of_cell? w _ jl)).trans jl
        have jp:=am hi29_5
        have jH:=am hl29_5
        clear hi29_5 hl29_5
        have jq:=am hi29_6
        have jI:=am hl29_6
        clear hi29_6 hl29_6
        have jr:=am hi29_7
        have jJ:=am hl29_7
        clear hi29_7 hl29_7
        replace jM:=eq_true jM
        replace jN:=eq_true jN
        refine nD (n:=10) (S:=fun w'=>w'.cell? (j4.add ((j3).toNat * 8))=some (.int .i64 ((aG l0 j3).f0))∧w'.cell? ⟨(j4.add ((j3).toNat * 8)).block,(j4.add ((j3).toNat * 8)).off + 1,none⟩=some (.int .i64 ((aG l0 j3).f1))∧w'.cell? ⟨(j4.add ((j3).toNat * 8)).block,(j4.add ((j3).toNat * 8)).off + 2,none⟩=some (.int .i64 ((aG l0 j3).f2))∧w'.cell? ⟨(j4.add ((j3).toNat * 8)).block,(j4.add ((j3).toNat * 8)).off + 3,none⟩=some (.int .i64 ((aG l0 j3).f3.f0))∧w'.cell? ⟨(j4.add ((j3).toNat * 8)).block,(j4.add ((j3).toNat * 8)).off + 4,none⟩=some (.int .i64 ((aG l0 j3).f3.f1))∧w'.cell? ⟨(j4.add ((j3).toNat * 8)).block,(j4.add ((j3).toNat * 8)).off + 5,none⟩=some (.slice js ((aG l0 j3).f3.f2).length jt)∧w'.cell? ⟨(j4.add ((j3).toNat * 8)).block,(j4.add ((j3).toNat * 8)).off + 6,none⟩=some (.slice ju ((aG l0 j3).f4).length jv)∧w'.cell? ⟨(j4.add ((j3).toNat * 8)).block,(j4.add ((j3).toNat * 8)).off + 7,none⟩=some (.slice jw ((aG l0 j3).f5).length jx)∧w'.cell? (j5.add ((j3).toNat * 8))=some (.int .i64 ((aG l1 j3).f0))∧w'.cell? ⟨(j5.add ((j3).toNat * 8)).block,(j5.add ((j3).toNat * 8)).off + 1,none⟩=some (.int .i64 ((aG l1 j3).f1))∧w'.cell? ⟨(j5.add ((j3).toNat * 8)).block,(j5.add ((j3).toNat * 8)).off + 2,none⟩=some (.int .i64 ((aG l1 j3).f2))∧w'.cell? ⟨(j5.add ((j3).toNat * 8)).block,(j5.add ((j3).toNat * 8)).off + 3,none⟩=some (.int .i64 ((aG l1 j3).f3.f0))∧w'.cell? ⟨(j5.add ((j3).toNat * 8)).block,(j5.add ((j3).toNat * 8)).off + 4,none⟩=some (.int .i64 ((aG l1 j3).f3.f1))∧w'.cell? ⟨(j5.add ((j3).toNat * 8)).block,(j5.add ((j3).toNat * 8)).off + 5,none⟩=some (.slice jy ((aG l1 j3).f3.f2).length jz)∧w'.cell? ⟨(j5.add ((j3).toNat * 8)).block,(j5.add ((j3).toNat * 8)).off + 6,none⟩=some (.slice jA ((aG l1 j3).f4).length jB)∧w'.cell? ⟨(j5.add ((j3).toNat * 8)).block,(j5.add ((j3).toNat * 8)).off + 7,none⟩=some (.slice jC ((aG l1 j3).f5).length jD)) (ds:=[]) (bz 10 0) (by kernel_rfl) rfl rfl ⟨((HB.out.cell (World.block_lt_of_cell? w _ hw28_0)).trans hw28_0),((HB.out.cell (World.block_lt_of_cell? w _ hw28_1)).trans hw28_1),((HB.out.cell (World.block_lt_of_cell? w _ hw28_2)).trans hw28_2),((HB.out.cell (World.block_lt_of_cell? w _ hw28_3)).trans hw28_3),((HB.out.cell (World.block_lt_of_cell? w _ hw28_4)).trans hw28_4),((HB.out.cell (World.block_lt_of_cell? w _ hw28_5)).trans hw28_5),((HB.out.cell (World.block_lt_of_cell? w _ hw28_6)).trans hw28_6),((HB.out.cell (World.block_lt_of_cell? w _ hw28_7)).trans hw28_7),((HB.out.cell (World.block_lt_of_cell? w _ hw29_0)).trans hw29_0),((HB.out.cell (World.block_lt_of_cell? w _ hw29_1)).trans hw29_1),((HB.out.cell (World.block_lt_of_cell? w _ hw29_2)).trans hw29_2),((HB.out.cell (World.block_lt_of_cell? w _ hw29_3)).trans hw29_3),((HB.out.cell (World.block_lt_of_cell? w _ hw29_4)).trans hw29_4),((HB.out.cell (World.block_lt_of_cell? w _ hw29_5)).trans hw29_5),((HB.out.cell (World.block_lt_of_cell? w _ hw29_6)).trans hw29_6),((HB.out.cell (World.block_lt_of_cell? w _ hw29_7)).trans hw29_7)⟩ (fun hHeld=>?_);refine iY aZ.yQ aZ.sM (fun HT_ HW_=>?_)
        generalize wr.drew=w9 at HB jm jn jo jp jq jr j6 j7 j8 j9 ja jb jc jd je jf jg jh ji jj jk jl hHeld ⊢
        refine pr_ 0 17 (bz 10 1) HT_ ?_
        refine pr_ 1 18 (bz 10 3) HT_ ?_
        refine pr_ 2 19 (bz 10 7) HT_ ?_
        refine pr_ 4 21 (bz 10 23) HT_ ?_
        refine pr_ 5 22 (bz 10 55) HT_ ?_
        refine pr_ 6 23 (bz 10 119) HT_ ?_
        refine EO 3 20 (bz 10 127) HT_ HW_ hHeld ?_
        refine EO 7 24 (bz 10 255) HT_ HW_ hHeld ?_
        refine pI (i:=8) (N:=some 25) (bz 10 511) rfl rfl (iO HT_.out (by kernel_rfl)) (by decide) (fun K hK=>?_)
        refine lH Try.func42 (by kernel_rfl) rfl #[.agg #[.int .i64 ((aG l0 j3).f0), .int .i64 ((aG l0 j3).f1), .int .i64 ((aG l0 j3).f2), .int .i64 ((aG l0 j3).f3.f0), .int .i64 ((aG l0 j3).f3.f1), .slice js ((aG l0 j3).f3.f2).length jt, .slice ju ((aG l0 j3).f4).length jv, .slice jw ((aG l0 j3).f5).length jx], .agg #[.int .i64 ((aG l1 j3).f0), .int .i64 ((aG l1 j3).f1), .int .i64 ((aG l1 j3).f2), .int .i64 ((aG l1 j3).f3.f0), .int .i64 ((aG l1 j3).f3.f1), .slice jy ((aG l1 j3).f3.f2).length jz, .slice jA ((aG l1 j3).f4).length jB, .slice jC ((aG l1 j3).f5).length jD]] (by rfl) rfl rfl dK ?_
        with_reducible refine (ih_laws_eqStmt k1 (by have:=jR.out;omega) ((aG l0 j3).f0) ((aG l0 j3).f1) ((aG l0 j3).f2) ((aG l0 j3).f3.f0) ((aG l0 j3).f3.f1) _ _ ((aG l0 j3).f3.f2) _ _ ((aG l0 j3).f4) _ _ ((aG l0 j3).f5) ((aG l1 j3).f0) ((aG l1 j3).f1) ((aG l1 j3).f2) ((aG l1 j3).f3.f0) ((aG l1 j3).f3.f1) _ _ ((aG l1 j3).f3.f2) _ _ ((aG l1 j3).f4) _ _ ((aG l1 j3).f5) true _ (aC_ (Kd.aI jm.out HB.out)) jE.out (aC_ (Kd.aI jn.out HB.out)) jF.out (aC_ (Kd.aI jo.out HB.out)) jG.out (aC_ (Kd.aI jp.out HB.out)) jH.out (aC_ (Kd.aI jq.out HB.out)) jI.out (aC_ (Kd.aI jr.out HB.out)) jJ.out A7.out).mono ?_
        rintro e q2 ⟨rfl,hb⟩
        refine ⟨_,rfl,?_⟩
        replace HB:=am (aC dN hb)
        (try clear hb)
        (try clear hb2)
        (try clear hk)
        (try clear hi)
        refine hK.out _ _ ⟨((HB.out.cell (World.block_lt_of_cell? w _ hw28_0)).trans hw28_0),((HB.out.cell (World.block_lt_of_cell? w _ hw28_1)).trans hw28_1),((HB.out.cell (World.block_lt_of_cell? w _ hw28_2)).trans hw28_2),((HB.out.cell (World.block_lt_of_cell? w _ hw28_3)).trans hw28_3),((HB.out.cell (World.block_lt_of_cell? w _ hw28_4)).trans hw28_4),((HB.out.cell (World.block_lt_of_cell? w _ hw28_5)).trans hw28_5),((HB.out.cell (World.block_lt_of_cell? w _ hw28_6)).trans hw28_6),((HB.out.cell (World.block_lt_of_cell? w _ hw28_7)).trans hw28_7),((HB.out.cell (World.block_lt_of_cell? w _ hw29_0)).trans hw29_0),((HB.out.cell (World.block_lt_of_cell? w _ hw29_1)).trans hw29_1),((HB.out.cell (World.block_lt_of_cell? w _ hw29_2)).trans hw29_2),((HB.out.cell (World.block_lt_of_cell? w _ hw29_3)).trans hw29_3),((HB.out.cell (World.block_lt_of_cell? w _ hw29_4)).trans hw29_4),((HB.out.cell (World.block_lt_of_cell? w _ hw29_5)).trans hw29_5),((HB.out.cell (World.block_lt_of_cell? w _ hw29_6)).trans hw29_6),((HB.out.cell (World.block_lt_of_cell? w _ hw29_7)).trans hw29_7)⟩ (fun hHeld=>?_)
        clear hK K
        refine lQ (a':=?_) ?_ ?_
        rotate_left
        ·exact ap_ (N:=25)
        refine pr_ 9 26 (bz 10 1023) HT_ ?_
        refine rG (lJ HT_.out (by kernel_rfl)) ?_
        try go_wp2
        go_roundg k1
        case measure=>have:=jR.out;omega
        case rel=>exact ⟨(wrap64 (j3 + 1)),sd_,H',⟨by have:=jR.out;omega⟩,⟨dN⟩⟩
       replace c8:=Bool.eq_false_iff.mpr c8
       subst c8
       rw [if_neg (show ¬ (false=true) by decide)] at H
       obtain rfl:=Option.some.inj H
       try go_wp2
       replace HB:=am (bX HB.out)
       have jK:0≤(j3:Int):=of_decide_eq_true bT
       have jL:j3 < (l0.length:Int):=of_decide_eq_true bT
       obtain ⟨j4,js,jt,ju,jv,jw,jx,jT,j6,j7,j8,j9,ja,jb,jc,jd,hl28_5,hi28_5,hl28_6,hi28_6,hl28_7,hi28_7⟩:=eY jV.out j3 jK jL
       have hw28_7:=jd
       have hw28_6:=jc
       have hw28_5:=jb
       have hw28_4:=ja
       have hw28_3:=j9
       have hw28_2:=j8
       have hw28_1:=j7
       have hw28_0:=j6
       cases jT
       replace j6:=(HB.out.cell (World.block_lt_of_cell? w _ j6)).trans j6
       replace j7:=(HB.out.cell (World.block_lt_of_cell? w _ j7)).trans j7
       replace j8:=(HB.out.cell (World.block_lt_of_cell? w _ j8)).trans j8
       replace j9:=(HB.out.cell (World.block_lt_of_cell? w _ j9)).trans j9
       replace ja:=(HB.out.cell (World.block_lt_of_cell? w _ ja)).trans ja
       replace jb:=(HB.out.cell (World.block_lt_of_cell? w _ jb)).trans jb
       replace jc:=(HB.out.cell (World.block_lt_of_cell? w _ jc)).trans jc
       replace jd:=(HB.out.cell (World.block_lt_of_cell? w _ jd)).trans jd
       have jm:=am hi28_5
       have jE:=am hl28_5
       clear hi28_5 hl28_5
       have jn:=am hi28_6
       have jF:=am hl28_6
       clear hi28_6 hl28_6
       have jo:=am hi28_7
       have jG:=am hl28_7
       clear hi28_7 hl28_7
       replace jK:=eq_true jK
       replace jL:=eq_true jL
       have jM:0≤(j3:Int):=of_decide_eq_true bT
       have jN:j3 < (l1.length:Int):=of_decide_eq_true bT
       obtain ⟨j5,jy,jz,jA,jB,jC,jD,jU,je,jf,jg,jh,ji,jj,jk,jl,hl29_5,hi29_5,hl29_6,hi29_6,hl29_7,hi29_7⟩:=eY jW.out j3 jM jN
       have hw29_7:=jl
       have hw29_6:=jk
       have hw29_5:=jj
       have hw29_4:=ji
       have hw29_3:=jh
       have hw29_2:=jg
       have hw29_1:=jf
       have hw29_0:=je
       cases jU
       replace je:=(HB.out.cell (World.block_lt_of_cell? w _ je)).trans je
       replace jf:=(HB.out.cell (World.block_lt_of_cell? w _ jf)).trans jf
       replace jg:=(HB.out.cell (World.block_lt_of_cell? w _ jg)).trans jg
       replace jh:=(HB.out.cell (World.block_lt_of_cell? w _ jh)).trans jh
       replace ji:=(HB.out.cell (World.block_lt_of_cell? w _ ji)).trans ji
       replace jj:=(HB.out.cell (World.block_lt_of_cell? w _ jj)).trans jj
       replace jk:=(HB.out.cell (World.block_lt_of_cell? w _ jk)).trans jk
       replace jl:=(HB.out.cell (World.block_lt_of_cell? w _ jl)).trans jl
       have jp:=am hi29_5
       have jH:=am hl29_5
       clear hi29_5 hl29_5
       have jq:=am hi29_6
       have jI:=am hl29_6
       clear hi29_6 hl29_6
       have jr:=am hi29_7
       have jJ:=am hl29_7
       clear hi29_7 hl29_7
       replace jM:=eq_true jM
       replace jN:=eq_true jN
       refine nD (n:=10) (S:=fun w'=>w'.cell? (j4.add ((j3).toNat * 8))=some (.int .i64 ((aG l0 j3).f0))∧w'.cell? ⟨(j4.add ((j3).toNat * 8)).block,(j4.add ((j3).toNat * 8)).off + 1,none⟩=some (.int .i64 ((aG l0 j3).f1))∧w'.cell? ⟨(j4.add ((j3).toNat * 8)).block,(j4.add ((j3).toNat * 8)).off + 2,none⟩=some (.int .i64 ((aG l0 j3).f2))∧w'.cell? ⟨(j4.add ((j3).toNat * 8)).block,(j4.add ((j3).toNat * 8)).off + 3,none⟩=some (.int .i64 ((aG l0 j3).f3.f0))∧w'.cell? ⟨(j4.add ((j3).toNat * 8)).block,(j4.add ((j3).toNat * 8)).off + 4,none⟩=some (.int .i64 ((aG l0 j3).f3.f1))∧w'.cell? ⟨(j4.add ((j3).toNat * 8)).block,(j4.add ((j3).toNat * 8)).off + 5,none⟩=some (.slice js ((aG l0 j3).f3.f2).length jt)∧w'.cell? ⟨(j4.add ((j3).toNat * 8)).block,(j4.add ((j3).toNat * 8)).off + 6,none⟩=some (.slice ju ((aG l0 j3).f4).length jv)∧w'.cell? ⟨(j4.add ((j3).toNat * 8)).block,(j4.add ((j3).toNat * 8)).off + 7,none⟩=some (.slice jw ((aG l0 j3).f5).length jx)∧w'.cell? (j5.add ((j3).toNat * 8))=some (.int .i64 ((aG l1 j3).f0))∧w'.cell? ⟨(j5.add ((j3).toNat * 8)).block,(j5.add ((j3).toNat * 8)).off + 1,none⟩=some (.int .i64 ((aG l1 j3).f1))∧w'.cell? ⟨(j5.add ((j3).toNat * 8)).block,(j5.add ((j3).toNat * 8)).off + 2,none⟩=some (.int .i64 ((aG l1 j3).f2))∧w'.cell? ⟨(j5.add ((j3).toNat * 8)).block,(j5.add ((j3).toNat * 8)).off + 3,none⟩=some (.int .i64 ((aG l1 j3).f3.f0))∧w'.cell? ⟨(j5.add ((j3).toNat * 8)).block,(j5.add ((j3).toNat * 8)).off + 4,none⟩=some (.int .i64 ((aG l1 j3).f3.f1))∧w'.cell? ⟨(j5.add ((j3).toNat * 8)).block,(j5.add ((j3).toNat * 8)).off + 5,none⟩=some (.slice jy ((aG l1 j3).f3.f2).length jz)∧w'.cell? ⟨(j5.add ((j3).toNat * 8)).block,(j5.add ((j3).toNat * 8)).off + 6,none⟩=some (.slice jA ((aG l1 j3).f4).length jB)∧w'.cell? ⟨(j5.add ((j3).toNat * 8)).block,(j5.add ((j3).toNat * 8)).off + 7,none⟩=some (.slice jC ((aG l1 j3).f5).length jD)) (ds:=[]) (bz 10 0) (by kernel_rfl) rfl rfl ⟨((HB.out.cell (World.block_lt_of_cell? w _ hw28_0)).trans hw28_0),((HB.out.cell (World.block_lt_of_cell? w _ hw28_1)).trans hw28_1),((HB.out.cell (World.block_lt_of_cell? w _ hw28_2)).trans hw28_2),((HB.out.cell (World.block_lt_of_cell? w _ hw28_3)).trans hw28_3),((HB.out.cell (World.block_lt_of_cell? w _ hw28_4)).trans hw28_4),((HB.out.cell (World.block_lt_of_cell? w _ hw28_5)).trans hw28_5),((HB.out.cell (World.block_lt_of_cell? w _ hw28_6)).trans hw28_6),((HB.out.cell (World.block_lt_of_cell? w _ hw28_7)).trans hw28_7),((HB.out.cell (World.block_lt_of_cell? w _ hw29_0)).trans hw29_0),((HB.out.cell (World.block_lt_of_cell? w _ hw29_1)).trans hw29_1),((HB.out.cell (World.block_lt_of_cell? w _ hw29_2)).trans hw29_2),((HB.out.cell (World.block_lt_of_cell? w _ hw29_3)).trans hw29_3),((HB.out.cell (World.block_lt_of_cell? w _ hw29_4)).trans hw29_4),((HB.out.cell (World.block_lt_of_cell? w _ hw29_5)).trans hw29_5),((HB.out.cell (World.block_lt_of_cell? w _ hw29_6)).trans hw29_6),((HB.out.cell (World.block_lt_of_cell? w _ hw29_7)).trans hw29_7)⟩ (fun hHeld=>?_);refine iY aZ.yQ aZ.sM (fun HT_ HW_=>?_)
       generalize wr.drew=q3 at HB jm jn jo jp jq jr j6 j7 j8 j9 ja jb jc jd je jf jg jh ji jj jk jl hHeld ⊢
       refine pr_ 0 17 (bz 10 1) HT_ ?_
       refine pr_ 1 18 (bz 10 3) HT_ ?_
       refine pr_ 2 19 (bz 10 7) HT_ ?_
       refine pr_ 4 21 (bz 10 23) HT_ ?_
       refine pr_ 5 22 (bz 10 55) HT_ ?_
       refine pr_ 6 23 (bz 10 119) HT_ ?_
       refine EO 3 20 (bz 10 127) HT_ HW_ hHeld ?_
       refine EO 7 24 (bz 10 255) HT_ HW_ hHeld ?_
       refine pI (i:=8) (N:=some 25) (bz 10 511) rfl rfl (iO HT_.out (by kernel_rfl)) (by decide) (fun K hK=>?_)
       refine lH Try.func42 (by kernel_rfl) rfl #[.agg #[.int .i64 ((aG l0 j3).f0), .int .i64 ((aG l0 j3).f1), .int .i64 ((aG l0 j3).f2), .int .i64 ((aG l0 j3).f3.f0), .int .i64 ((aG l0 j3).f3.f1), .slice js ((aG l0 j3).f3.f2).length jt, .slice ju ((aG l0 j3).f4).length jv, .slice jw ((aG l0 j3).f5).length jx], .agg #[.int .i64 ((aG l1 j3).f0), .int .i64 ((aG l1 j3).f1), .int .i64 ((aG l1 j3).f2), .int .i64 ((aG l1 j3).f3.f0), .int .i64 ((aG l1 j3).f3.f1), .slice jy ((aG l1 j3).f3.f2).length jz, .slice jA ((aG l1 j3).f4).length jB, .slice jC ((aG l1 j3).f5).length jD]] (by rfl) rfl rfl dK ?_
       with_reducible refine (ih_laws_eqStmt k1 (by have:=jR.out;omega) ((aG l0 j3).f0) ((aG l0 j3).f1) ((aG l0 j3).f2) ((aG l0 j3).f3.f0) ((aG l0 j3).f3.f1) _ _ ((aG l0 j3).f3.f2) _ _ ((aG l0 j3).f4) _ _ ((aG l0 j3).f5) ((aG l1 j3).f0) ((aG l1 j3).f1) ((aG l1 j3).f2) ((aG l1 j3).f3.f0) ((aG l1 j3).f3.f1) _ _ ((aG l1 j3).f3.f2) _ _ ((aG l1 j3).f4) _ _ ((aG l1 j3).f5) false _ (aC_ (Kd.aI jm.out HB.out)) jE.out (aC_ (Kd.aI jn.out HB.out)) jF.out (aC_ (Kd.aI jo.out HB.out)) jG.out (aC_ (Kd.aI jp.out HB.out)) jH.out (aC_ (Kd.aI jq.out HB.out)) jI.out (aC_ (Kd.aI jr.out HB.out)) jJ.out A7.out).mono ?_
       rintro e q4 ⟨rfl,hb⟩
       refine ⟨_,rfl,?_⟩
       replace HB:=am (aC dN hb)
       (try clear hb)
       (try clear hb2)
       (try clear hk)
       (try clear hi)
       refine hK.out _ _ ⟨((HB.out.cell (World.block_lt_of_cell? w _ hw28_0)).trans hw28_0),((HB.out.cell (World.block_lt_of_cell? w _ hw28_1)).trans hw28_1),((HB.out.cell (World.block_lt_of_cell? w _ hw28_2)).trans hw28_2),((HB.out.cell (World.block_lt_of_cell? w _ hw28_3)).trans hw28_3),((HB.out.cell (World.block_lt_of_cell? w _ hw28_4)).trans hw28_4),((HB.out.cell (World.block_lt_of_cell? w _ hw28_5)).trans hw28_5),((HB.out.cell (World.block_lt_of_cell? w _ hw28_6)).trans hw28_6),((HB.out.cell (World.block_lt_of_cell? w _ hw28_7)).trans hw28_7),((HB.out.cell (World.block_lt_of_cell? w _ hw29_0)).trans hw29_0),((HB.out.cell (World.block_lt_of_cell? w _ hw29_1)).trans hw29_1),((HB.out.cell (World.block_lt_of_cell? w _ hw29_2)).trans hw29_2),((HB.out.cell (World.block_lt_of_cell? w _ hw29_3)).trans hw29_3),((HB.out.cell (World.block_lt_of_cell? w _ hw29_4)).trans hw29_4),((HB.out.cell (World.block_lt_of_cell? w _ hw29_5)).trans hw29_5),((HB.out.cell (World.block_lt_of_cell? w _ hw29_6)).trans hw29_6),((HB.out.cell (World.block_lt_of_cell? w _ hw29_7)).trans hw29_7)⟩ (fun hHeld=>?_)
       clear hK K
       refine lQ (a':=?_) ?_ ?_
       rotate_left
       ·exact ap_ (N:=25)
       refine pr_ 9 26 (bz 10 1023) HT_ ?_
       refine rG (lJ HT_.out (by kernel_rfl)) ?_
       try go_wp2
       go_ret
       exact ⟨rr_,dN⟩
      rw [if_neg c6] at H
      exact absurd H (by simp)
     rw [if_neg c5] at H
     exact absurd H (by simp)
    rw [if_neg c4] at H
    have jS:decide (j3 < (l0.length:Int))=false:=decide_eq_false c4
    clear c4
    obtain rfl:=Option.some.inj H
    go_wp2
    go_ret
    exact ⟨rr_,dN⟩
 rw [if_neg c3] at H
 have jO:((l0.length:Int) == (l1.length:Int))=false:=beq_eq_false_iff_ne.mpr c3
 have jP:((l0.length:Int) != (l1.length:Int))=true:=bne_iff_ne.mpr c3
 have jQ:(l0.length == l1.length)=false:=by first|simpa using c3|(simp at c3 ⊢;omega)
 obtain rfl:=Option.some.inj H
 go_enter Try.func17,Try.ntmps17
 go_wp2
 go_ret
 exact ⟨rr_,dN⟩
theorem dR.calls_all (k:Nat):dR.bY k∧aZ.bY k:=by
 induction k using Nat.strongRecOn with
 | _ k ih=>exact ⟨dR.step k (ih_laws_eqStmt:=fun m hm=>(ih m hm).1) (ih_laws_eqStmtS:=fun m hm=>(ih m hm).2),aZ.step k (ih_laws_eqStmt:=fun m hm=>(ih m hm).1) (ih_laws_eqStmtS:=fun m hm=>(ih m hm).2)⟩
theorem dR.calls (k:Nat):dR.bY k:=(dR.calls_all k).1
theorem aZ.calls (k:Nat):aZ.bY k:=(dR.calls_all k).2
theorem bL.mono_l:∀ k,(∀ y0 y1 y2,LeO (bL.l0 k y0 y1 y2) (bL.l0 (k + 1) y0 y1 y2))
 |0=>fun _ _ _ r h=>by simp [bL.l0] at h
 |k + 1=>by
  have ih0:=bL.mono_l k
  ·intro y0 y1 y2
   unfold bL.l0
   have m0:=@aZ.mono
   exact mo_
theorem bL.mono:∀ a0 a1 k,LeO (bL.f k a0 a1) (bL.f (k + 1) a0 a1):=by
 intro a0 a1 k
 have ih0:=bL.mono_l k
 unfold bL.f
 have m0:=@aZ.mono
 exact mo_
def bL.T6:Bool × List (List Nat × List Nat):=(true,[([],[]),([],[]),([0,1],[0,1]),([2],[2]),([],[]),([],[]),([4,5],[4,5]),([6],[6]),([3,7],[3,7]),([8],[8])])
def bL.B6:List Nat:=[0,0,3,7,0,0,48,112,255,511]
theorem bL.yQ:kZ .any (opsOf Try.f51 6)=bL.T6:=by kernel_rfl
theorem bL.sM:kG bL.T6.2 bL.B6=true:=by kernel_rfl
theorem bL.calls (k:Nat) (A0:Option Addr) (c0:Nat) (l0:List (List (S70))) (A1:Option Addr) (c1:Nat) (l1:List (List (S70))) (r:Bool) (w:World) (hr0:Kd.C (Kd.slice 70 k70) w A0 l0.length l0) (hc0:l0.length≤c0) (hr1:Kd.C (Kd.slice 70 k70) w A1 l1.length l1) (hc1:l1.length≤c1) (h:bL.f k l0 l1=some r):
  Calls Try.prog 51 #[.slice A0 l0.length c0, .slice A1 l1.length c1] w fun e w'=>e= .returned (.bool r)∧Below w.heap.size w w':=by
 have jq:=am hr0
 have jw:=am hc0
 clear hr0 hc0
 have jr:=am hr1
 have jx:=am hc1
 clear hr1 hc1
 have HB:=am (Below.refl w.heap.size w)
 have H:(if (l0.length:Int)=(l1.length:Int) then (bL.l0 k l0 l1 0) else (some false))=some r:=h
 clear h
 by_cases c3:(l0.length:Int)=(l1.length:Int)
 ·rw [if_pos c3] at H
  have jk:((l0.length:Int) == (l1.length:Int))=true:=beq_iff_eq.mpr c3
  have jl:((l0.length:Int) != (l1.length:Int))=false:=bne_eq_false_iff_eq.mpr c3
  have jm:(l0.length == l1.length)=true:=by first|simpa using c3|(simp at c3 ⊢;omega)
  clear c3
  have H':=am H
  clear H
  go_enter Try.func51,Try.ntmps51
  go_wp2
  go_loopg [5] k (fun kq v5 w'=>∃ (j3:Int),v5= .int .i64 j3∧Aside0 (bL.l0 kq l0 l1 j3=some r)∧Aside0 (kq≤k)∧Aside0 (Below w.heap.size w w'))
  case atStart=>exact ⟨(0),sd_,H',⟨Nat.le_refl _⟩,⟨dN⟩⟩
  case round=>
   clear H'
   try clear c1
   try clear c3
   try clear jk
   try clear jl
   try clear jm
   obtain ⟨j3,rfl,HA,js,HB⟩:=hrel
   cases gk with
   |zero=>exact absurd HA.out (by simp [bL.l0])
   |succ k1=>
    have H:=HA.out
    clear HA
    simp only [bL.l0] at H
    by_cases c4:j3 < (l0.length:Int)
    ·rw [if_pos c4] at H
     have jn:decide (j3 < (l0.length:Int))=true:=decide_eq_true c4
     clear c4
     by_cases c5:0≤j3
     ·rw [if_pos c5] at H
      have jt:decide (0≤j3)=true:=decide_eq_true c5
      clear c5
      by_cases c6:j3 < (l1.length:Int)
      ·rw [if_pos c6] at H
       have ju:decide (j3 < (l1.length:Int))=true:=decide_eq_true c6
       clear c6
       obtain ⟨jv,A7,H⟩:=bsa H
       (try dsimp only at H)
       by_cases c8:jv=true
       ·subst c8
        rw [if_pos rfl] at H
        have H':=am H
        clear H
        try go_wp2
        replace HB:=am (bX HB.out)
        have je:0≤(j3:Int):=of_decide_eq_true bT
        have jf:j3 < (l0.length:Int):=of_decide_eq_true bT
        obtain ⟨jg,j8,j9,jo,j4,hl28_0,hi28_0⟩:=nY jq.out j3 je jf
        have hw28_0:=j4
        cases jo
        replace j4:=(HB.out.cell (World.block_lt_of_cell? w _ j4)).trans j4
        have j6:=am hi28_0
        have jc:=am hl28_0
        clear hi28_0 hl28_0
        replace je:=eq_true je
        replace jf:=eq_true jf
        have jh:0≤(j3:Int):=of_decide_eq_true bT
        have ji:j3 < (l1.length:Int):=of_decide_eq_true bT
        obtain ⟨jj,ja,jb,jp,j5,hl29_0,hi29_0⟩:=nY jr.out j3 jh ji
        have hw29_0:=j5
        cases jp
        replace j5:=(HB.out.cell (World.block_lt_of_cell? w _ j5)).trans j5
        have j7:=am hi29_0
        have jd:=am hl29_0
        clear hi29_0 hl29_0
        replace jh:=eq_true jh
        replace ji:=eq_true ji
        refine nD (n:=10) (S:=fun w'=>w'.cell? (jg.add (j3).toNat)=some (.slice j8 (fU l0 j3).length j9)∧w'.cell? (jj.add (j3).toNat)=some (.slice ja (fU l1 j3).length jb)) (ds:=[]) (bz 10 0) (by kernel_rfl) rfl rfl ⟨((HB.out.cell (World.block_lt_of_cell? w _ hw28_0)).trans hw28_0),((HB.out.cell (World.block_lt_of_cell? w _ hw29_0)).trans hw29_0)⟩ (fun hHeld=>?_);refine iY bL.yQ bL.sM (fun HT_ HW_=>?_)
        generalize wr.drew=w9 at HB j6 j7 j4 j5 hHeld ⊢
        refine pr_ 0 17 (bz 10 1) HT_ ?_
        refine pr_ 1 18 (bz 10 3) HT_ ?_
        refine pr_ 2 19 (bz 10 7) HT_ ?_
        refine pr_ 4 21 (bz 10 23) HT_ ?_
        refine pr_ 5 22 (bz 10 55) HT_ ?_
        refine pr_ 6 23 (bz 10 119) HT_ ?_
        refine PW 3 20 (bz 10 127) HT_ HW_ hHeld ?_
        refine PW 7 24 (bz 10 255) HT_ HW_ hHeld ?_
        refine pI (i:=8) (N:=some 25) (bz 10 511) rfl rfl (iO HT_.out (by kernel_rfl)) (by decide) (fun K hK=>?_)
        refine lH Try.func17 (by kernel_rfl) rfl #[.slice j8 (fU l0 j3).length j9, .slice ja (fU l1 j3).length jb] (by rfl) rfl rfl dK ?_
        with_reducible refine (aZ.calls k1 _ _ (fU l0 j3) _ _ (fU l1 j3) true _ (aC_ (Kd.aI j6.out HB.out)) jc.out (aC_ (Kd.aI j7.out HB.out)) jd.out A7.out).mono ?_
        rintro e jy ⟨rfl,hb⟩
        refine ⟨_,rfl,?_⟩
        replace HB:=am (aC dN hb)
        (try clear hb)
        (try clear hb2)
        (try clear hk)
        (try clear hi)
        refine hK.out _ _ ⟨((HB.out.cell (World.block_lt_of_cell? w _ hw28_0)).trans hw28_0),((HB.out.cell (World.block_lt_of_cell? w _ hw29_0)).trans hw29_0)⟩ (fun hHeld=>?_)
        clear hK K
        refine lQ (a':=?_) ?_ ?_
        rotate_left
        ·exact ap_ (N:=25)
        refine pr_ 9 26 (bz 10 1023) HT_ ?_
        refine rG (lJ HT_.out (by kernel_rfl)) ?_
        try go_wp2
        go_roundg k1
        case measure=>have:=js.out;omega
        case rel=>exact ⟨(wrap64 (j3 + 1)),sd_,H',⟨by have:=js.out;omega⟩,⟨dN⟩⟩
       replace c8:=Bool.eq_false_iff.mpr c8
       subst c8
       rw [if_neg (show ¬ (false=true) by decide)] at H
       obtain rfl:=Option.some.inj H
       try go_wp2
       replace HB:=am (bX HB.out)
       have je:0≤(j3:Int):=of_decide_eq_true bT
       have jf:j3 < (l0.length:Int):=of_decide_eq_true bT
       obtain ⟨jg,j8,j9,jo,j4,hl28_0,hi28_0⟩:=nY jq.out j3 je jf
       have hw28_0:=j4
       cases jo
       replace j4:=(HB.out.cell (World.block_lt_of_cell? w _ j4)).trans j4
       have j6:=am hi28_0
       have jc:=am hl28_0
       clear hi28_0 hl28_0
       replace je:=eq_true je
       replace jf:=eq_true jf
       have jh:0≤(j3:Int):=of_decide_eq_true bT
       have ji:j3 < (l1.length:Int):=of_decide_eq_true bT
       obtain ⟨jj,ja,jb,jp,j5,hl29_0,hi29_0⟩:=nY jr.out j3 jh ji
       have hw29_0:=j5
       cases jp
       replace j5:=(HB.out.cell (World.block_lt_of_cell? w _ j5)).trans j5
       have j7:=am hi29_0
       have jd:=am hl29_0
       clear hi29_0 hl29_0
       replace jh:=eq_true jh
       replace ji:=eq_true ji
       refine nD (n:=10) (S:=fun w'=>w'.cell? (jg.add (j3).toNat)=some (.slice j8 (fU l0 j3).length j9)∧w'.cell? (jj.add (j3).toNat)=some (.slice ja (fU l1 j3).length jb)) (ds:=[]) (bz 10 0) (by kernel_rfl) rfl rfl ⟨((HB.out.cell (World.block_lt_of_cell? w _ hw28_0)).trans hw28_0),((HB.out.cell (World.block_lt_of_cell? w _ hw29_0)).trans hw29_0)⟩ (fun hHeld=>?_);refine iY bL.yQ bL.sM (fun HT_ HW_=>?_)
       generalize wr.drew=jz at HB j6 j7 j4 j5 hHeld ⊢
       refine pr_ 0 17 (bz 10 1) HT_ ?_
       refine pr_ 1 18 (bz 10 3) HT_ ?_
       refine pr_ 2 19 (bz 10 7) HT_ ?_
       refine pr_ 4 21 (bz 10 23) HT_ ?_
       refine pr_ 5 22 (bz 10 55) HT_ ?_
       refine pr_ 6 23 (bz 10 119) HT_ ?_
       refine PW 3 20 (bz 10 127) HT_ HW_ hHeld ?_
       refine PW 7 24 (bz 10 255) HT_ HW_ hHeld ?_
       refine pI (i:=8) (N:=some 25) (bz 10 511) rfl rfl (iO HT_.out (by kernel_rfl)) (by decide) (fun K hK=>?_)
       refine lH Try.func17 (by kernel_rfl) rfl #[.slice j8 (fU l0 j3).length j9, .slice ja (fU l1 j3).length jb] (by rfl) rfl rfl dK ?_
       with_reducible refine (aZ.calls k1 _ _ (fU l0 j3) _ _ (fU l1 j3) false _ (aC_ (Kd.aI j6.out HB.out)) jc.out (aC_ (Kd.aI j7.out HB.out)) jd.out A7.out).mono ?_
       rintro e jA ⟨rfl,hb⟩
       refine ⟨_,rfl,?_⟩
       replace HB:=am (aC dN hb)
       (try clear hb)
       (try clear hb2)
       (try clear hk)
       (try clear hi)
       refine hK.out _ _ ⟨((HB.out.cell (World.block_lt_of_cell? w _ hw28_0)).trans hw28_0),((HB.out.cell (World.block_lt_of_cell? w _ hw29_0)).trans hw29_0)⟩ (fun hHeld=>?_)
       clear hK K
       refine lQ (a':=?_) ?_ ?_
       rotate_left
       ·exact ap_ (N:=25)
       refine pr_ 9 26 (bz 10 1023) HT_ ?_
       refine rG (lJ HT_.out (by kernel_rfl)) ?_
       try go_wp2
       go_ret
       exact ⟨rr_,dN⟩
      rw [if_neg c6] at H
      exact absurd H (by simp)
     rw [if_neg c5] at H
     exact absurd H (by simp)
    rw [if_neg c4] at H
    have jn:decide (j3 < (l0.length:Int))=false:=decide_eq_false c4
    clear c4
    obtain rfl:=Option.some.inj H
    go_wp2
    go_ret
    exact ⟨rr_,dN⟩
 rw [if_neg c3] at H
 have jk:((l0.length:Int) == (l1.length:Int))=false:=beq_eq_false_iff_ne.mpr c3
 have jl:((l0.length:Int) != (l1.length:Int))=true:=bne_iff_ne.mpr c3
 have jm:(l0.length == l1.length)=false:=by first|simpa using c3|(simp at c3 ⊢;omega)
 obtain rfl:=Option.some.inj H
 go_enter Try.func51,Try.ntmps51
 go_wp2
 go_ret
 exact ⟨rr_,dN⟩
theorem eP.mono:∀ a0 a1 a2 a3 k,LeO (eP.f k a0 a1 a2 a3) (eP.f (k + 1) a0 a1 a2 a3):=by
 intro a0 a1 a2 a3 k
 unfold eP.f
 have m0:=@dV.mono
 have m1:=@bL.mono
 exact mo_
theorem eP.calls (k:Nat) (j8:Option Addr) (j9:Nat) (j3:List Int) (jc:Option Addr) (jd:Nat) (j5:List (List (S70))) (ja:Option Addr) (jb:Nat) (j4:List Int) (je:Option Addr) (jf:Nat) (j6:List (List (S70))) (r:Bool) (w:World) (hr0_0:Kd.C (Kd.int .i64) w j8 j3.length j3) (hc0_0:j3.length≤j9) (hr0_1:Kd.C (Kd.slice 70 k70) w jc j5.length j5) (hc0_1:j5.length≤jd) (hr1_0:Kd.C (Kd.int .i64) w ja j4.length j4) (hc1_0:j4.length≤jb) (hr1_1:Kd.C (Kd.slice 70 k70) w je j6.length j6) (hc1_1:j6.length≤jf) (h:eP.f k j3 j5 j4 j6=some r):
  Calls Try.prog 24 #[.agg #[.slice j8 j3.length j9, .slice jc j5.length jd], .agg #[.slice ja j4.length jb, .slice je j6.length jf]] w fun e w'=>e= .returned (.bool r)∧Below w.heap.size w w':=by
 have hu51:=Try.underlying51
 have jg:=am hr0_0
 have jh:=am hc0_0
 clear hr0_0 hc0_0
 have jp:=am hr0_1
 have jq:=am hc0_1
 clear hr0_1 hc0_1
 have ji:=am hr1_0
 have jj:=am hc1_0
 clear hr1_0 hc1_0
 have jr:=am hr1_1
 have js:=am hc1_1
 clear hr1_1 hc1_1
 have HB:=am (Below.refl w.heap.size w)
 unfold eP.f at h
 have H:=h
 clear h
 obtain ⟨jB,A3,H⟩:=bsa H
 (try dsimp only at H)
 have HH_:=am H
 clear H
 go_enter Try.func24,Try.ntmps24
 go_upto_region 1 with (first|((with_reducible refine bJ (N:=2) rfl ?_);refine bR rfl (N:=2) rfl (cs:=#[.slice j8 j3.length j9, .slice jc j5.length jd]) (t:=51) rn_ ?_;intro jl hg w7 hbox hb;have j7:=am (hbox);have jC:=am ((by rw [hg];exact (aN dN):w.heap.size≤jl));have GE22:=am ((by rw [hg];exact (aN dN):w.heap.size≤jl));replace HB:=am (aC dN hb);clear hb hbox hg)|((with_reducible refine bJ (N:=3) rfl ?_);refine bR rfl (N:=3) rfl (cs:=#[.slice ja j4.length jb, .slice je j6.length jf]) (t:=51) rn_ ?_;intro jm hg w8 hbox hb;have jk:=am (hbox);have jD:=am ((by rw [hg];exact (aN lN):w.heap.size≤jm));have GE23:=am ((by rw [hg];exact (aN lN):w.heap.size≤jm));replace HB:=am (aC lN hb);have jn:=am ((by rw [hg];exact Nat.ne_of_lt (oD j7.out):jl≠jm));have jo:=am ((by rw [hg];exact Nat.ne_of_gt (oD j7.out):jm≠jl));replace j7:=bbP j7 hb;clear hb hbox hg;have jE:=jn.out;have jF:=jo.out;obtain ⟨jt,ju,jv,jw⟩:=iP j7.out;obtain ⟨jx,jy,jz,jA⟩:=iP jk.out))
 have H:=HH_.out
 clear HH_
 by_cases c4:jB=true
 ·subst c4
  rw [if_pos rfl] at H
  obtain ⟨jG,A5,H⟩:=bsa H
  (try dsimp only at H)
  by_cases c6:jG=true
  ·subst c6
   rw [if_pos rfl] at H
   obtain rfl:=Option.some.inj H
   go_wp2_with (first|((with_reducible refine aD (f:=50) rfl ?_);refine aU (some 9) rfl rfl Try.func50 (by kernel_rfl) rfl #[.slice j8 j3.length j9, .slice ja j4.length jb] rfl dK ?_;(with_reducible refine (dV.calls k _ _ j3 _ _ j4 true _ (aC_ (Kd.aI jg.out HB.out)) jh.out (aC_ (Kd.aI ji.out HB.out)) jj.out A3.out).mono ?_);rintro e w' ⟨rfl,⟨nd,rfl⟩⟩;refine ⟨_,rfl,?_⟩)|((with_reducible refine aD (f:=51) rfl ?_);refine aU (some 15) rfl rfl Try.func51 (by kernel_rfl) rfl #[.slice jc j5.length jd, .slice je j6.length jf] rfl dK ?_;(with_reducible refine (bL.calls k _ _ j5 _ _ j6 true _ (aC_ (Kd.aI jp.out wI)) jq.out (aC_ (Kd.aI jr.out wI)) js.out A5.out).mono ?_);rintro e jH ⟨rfl,hb⟩;refine ⟨_,rfl,?_⟩;replace j7:=bbP j7 hb;replace jk:=bbP jk hb;replace HB:=am (aC wI hb);(try clear hb)))
   go_ret
   exact ⟨rr_,wI⟩
  replace c6:=Bool.eq_false_iff.mpr c6
  subst c6
  rw [if_neg (show ¬ (false=true) by decide)] at H
  obtain rfl:=Option.some.inj H
  go_wp2_with (first|((with_reducible refine aD (f:=50) rfl ?_);refine aU (some 9) rfl rfl Try.func50 (by kernel_rfl) rfl #[.slice j8 j3.length j9, .slice ja j4.length jb] rfl dK ?_;(with_reducible refine (dV.calls k _ _ j3 _ _ j4 true _ (aC_ (Kd.aI jg.out HB.out)) jh.out (aC_ (Kd.aI ji.out HB.out)) jj.out A3.out).mono ?_);rintro e w' ⟨rfl,⟨nd,rfl⟩⟩;refine ⟨_,rfl,?_⟩)|((with_reducible refine aD (f:=51) rfl ?_);refine aU (some 15) rfl rfl Try.func51 (by kernel_rfl) rfl #[.slice jc j5.length jd, .slice je j6.length jf] rfl dK ?_;(with_reducible refine (bL.calls k _ _ j5 _ _ j6 false _ (aC_ (Kd.aI jp.out wI)) jq.out (aC_ (Kd.aI jr.out wI)) js.out A5.out).mono ?_);rintro e jI ⟨rfl,hb⟩;refine ⟨_,rfl,?_⟩;replace j7:=bbP j7 hb;replace jk:=bbP jk hb;replace HB:=am (aC wI hb);(try clear hb)))
  go_ret
  exact ⟨rr_,wI⟩
 replace c4:=Bool.eq_false_iff.mpr c4
 subst c4
 rw [if_neg (show ¬ (false=true) by decide)] at H
 obtain rfl:=Option.some.inj H
 go_wp2_with (first|((with_reducible refine aD (f:=50) rfl ?_);refine aU (some 9) rfl rfl Try.func50 (by kernel_rfl) rfl #[.slice j8 j3.length j9, .slice ja j4.length jb] rfl dK ?_;(with_reducible refine (dV.calls k _ _ j3 _ _ j4 false _ (aC_ (Kd.aI jg.out HB.out)) jh.out (aC_ (Kd.aI ji.out HB.out)) jj.out A3.out).mono ?_);rintro e w' ⟨rfl,⟨nd,rfl⟩⟩;refine ⟨_,rfl,?_⟩))
 go_ret
 exact ⟨rr_,wI⟩
theorem dH.mono_l:∀ k,(∀ y0 y1 y2,LeO (dH.l0 k y0 y1 y2) (dH.l0 (k + 1) y0 y1 y2))
 |0=>fun _ _ _ r h=>by simp [dH.l0] at h
 |k + 1=>by
  have ih0:=dH.mono_l k
  ·intro y0 y1 y2
   unfold dH.l0
   exact mo_
theorem dH.mono:∀ a0 a1 k,LeO (dH.f k a0 a1) (dH.f (k + 1) a0 a1):=by
 intro a0 a1 k
 have ih0:=dH.mono_l k
 unfold dH.f
 exact mo_
theorem dH.calls (k:Nat) (A0:Option Addr) (c0:Nat) (l0:List Int) (a1:Int) (r:Int) (w:World) (hr0:Kd.C (Kd.int .i64) w A0 l0.length l0) (hc0:l0.length≤c0) (h:dH.f k l0 a1=some r):
  Calls Try.prog 54 #[.slice A0 l0.length c0, .int .i64 a1] w fun e w'=>e= .returned (.int .i64 r)∧fV w w':=by
 have jd:=am hr0
 have jg:=am hc0
 clear hr0 hc0
 have H:(dH.l0 k l0 a1 0)=some r:=h
 clear h
 have H':=am H
 clear H
 go_enter Try.func54,Try.ntmps54
 go_wp2
 go_loopg [1,5] k (fun kq v1 v5 w'=>∃ (j4:Int) (j3:Int),v1= .int .i64 j4∧v5= .int .i64 j3∧Aside0 (dH.l0 kq l0 j4 j3=some r)∧Aside0 (kq≤k)∧fV w w')
 case atStart=>exact ⟨(a1),(0),sd_,sd_,H',⟨Nat.le_refl _⟩,fF⟩
 case round=>
  clear H'
  obtain ⟨j4,j3,rfl,rfl,HA,je,⟨m1,rfl⟩⟩:=hrel
  cases gk with
  |zero=>exact absurd HA.out (by simp [dH.l0])
  |succ k1=>
   have H:=HA.out
   clear HA
   simp only [dH.l0] at H
   by_cases c3:j3 < (l0.length:Int)
   ·rw [if_pos c3] at H
    have j8:decide (j3 < (l0.length:Int))=true:=decide_eq_true c3
    clear c3
    by_cases c4:0≤j3
    ·rw [if_pos c4] at H
     have jf:decide (0≤j3)=true:=decide_eq_true c4
     clear c4
     by_cases c5:(rd l0 j3)=j4
     ·rw [if_pos c5] at H
      have j9:((rd l0 j3) == j4)=true:=beq_iff_eq.mpr c5
      have ja:((rd l0 j3) != j4)=false:=bne_eq_false_iff_eq.mpr c5
      clear c5
      have H':=am H
      clear H
      have j5:0≤(j3:Int):=of_decide_eq_true bT
      have j6:j3 < (l0.length:Int):=of_decide_eq_true bT
      obtain ⟨jb,jc,j7⟩:=Kd.nR jd.out j3 j5 j6
      cases jc
      replace j5:=eq_true j5
      replace j6:=eq_true j6
      go_wp2
      go_roundg k1
      case measure=>have:=je.out;omega
      case rel=>exact ⟨(wrap64 (j4 + 1)),(wrap64 (j3 + 1)),sd_,sd_,H',⟨by have:=je.out;omega⟩,fF⟩
     rw [if_neg c5] at H
     have j9:((rd l0 j3) == j4)=false:=beq_eq_false_iff_ne.mpr c5
     have ja:((rd l0 j3) != j4)=true:=bne_iff_ne.mpr c5
     obtain rfl:=Option.some.inj H
     have j5:0≤(j3:Int):=of_decide_eq_true bT
     have j6:j3 < (l0.length:Int):=of_decide_eq_true bT
     obtain ⟨jb,jc,j7⟩:=Kd.nR jd.out j3 j5 j6
     cases jc
     replace j5:=eq_true j5
     replace j6:=eq_true j6
     go_wp2
     go_ret
     exact ⟨sd_,fF⟩
    rw [if_neg c4] at H
    exact absurd H (by simp)
   rw [if_neg c3] at H
   have j8:decide (j3 < (l0.length:Int))=false:=decide_eq_false c3
   clear c3
   obtain rfl:=Option.some.inj H
   go_wp2
   go_ret
   exact ⟨sd_,fF⟩
theorem bD.mono_l:∀ k,(∀ y0 y1,LeO (bD.f k y0 y1) (bD.f (k + 1) y0 y1))∧(∀ y0 y1 y2,LeO (bD.l0 k y0 y1 y2) (bD.l0 (k + 1) y0 y1 y2))
 |0=>⟨fun _ _ r h=>by simp [bD.f] at h,fun _ _ _ r h=>by simp [bD.l0] at h⟩
 |k + 1=>by
  obtain ⟨ih0,ih1⟩:=bD.mono_l k
  refine ⟨?_,?_⟩
  ·intro y0 y1
   unfold bD.f
   exact mo_
  ·intro y0 y1 y2
   unfold bD.l0
   exact mo_
theorem bD.mono:∀ a0 a1 k,LeO (bD.f k a0 a1) (bD.f (k + 1) a0 a1):=by
 intro a0 a1 k
 obtain ⟨ih0,ih1⟩:=bD.mono_l k
 exact ih0 a0 a1
theorem bD.calls (k:Nat):∀ (A0:Option Addr) (c0:Nat) (l0:List (S28)) (a1:Int) (r:Int) (w:World) (hr0:Kd.C k28 w A0 l0.length l0) (hc0:l0.length≤c0) (h:bD.f k l0 a1=some r),
  Calls Try.prog 35 #[.slice A0 l0.length c0, .int .i64 a1] w fun e w'=>e= .returned (.int .i64 r)∧fV w w':=by
 induction k using Nat.strongRecOn with
 | _ k ih=>
 intro A0 c0 l0 a1 r w hr0 hc0 h
 cases k with
 |zero=>exact absurd h (by simp [bD.f])
 |succ k=>
 simp only [bD.f] at h
 have jq:=am hr0
 have jM:=am hc0
 clear hr0 hc0
 have H:(bD.l0 k l0 a1 0)=some r:=h
 clear h
 have H':=am H
 clear H
 go_enter Try.func35,Try.ntmps35
 go_wp2
 go_loopg [1,5] k (fun kq v1 v5 w'=>∃ (j4:Int) (j3:Int),v1= .int .i64 j4∧v5= .int .i64 j3∧Aside0 (bD.l0 kq l0 j4 j3=some r)∧Aside0 (kq≤k)∧fV w w')
 case atStart=>exact ⟨(a1),(0),sd_,sd_,H',⟨Nat.le_refl _⟩,fF⟩
 case round=>
  clear H'
  obtain ⟨j4,j3,rfl,rfl,HA,jD,⟨m1,rfl⟩⟩:=hrel
  cases gk with
  |zero=>exact absurd HA.out (by simp [bD.l0])
  |succ k1=>
   have H:=HA.out
   clear HA
   simp only [bD.l0] at H
   by_cases c3:j3 < (l0.length:Int)
   ·rw [if_pos c3] at H
    have jE:decide (j3 < (l0.length:Int))=true:=decide_eq_true c3
    clear c3
    by_cases c4:0≤j3
    ·rw [if_pos c4] at H
     have jL:decide (0≤j3)=true:=decide_eq_true c4
     clear c4
     by_cases c5:((bH l0 j3).f0)=j4
     ·rw [if_pos c5] at H
      have jF:(((bH l0 j3).f0) == j4)=true:=beq_iff_eq.mpr c5
      have jG:(((bH l0 j3).f0) != j4)=false:=bne_eq_false_iff_eq.mpr c5
      clear c5
      by_cases c6:((bH l0 j3).f1)=(wrap64 (j4 + 1))
      ·rw [if_pos c6] at H
       have jH:(((bH l0 j3).f1) == (wrap64 (j4 + 1)))=true:=beq_iff_eq.mpr c6
       have jI:(((bH l0 j3).f1) != (wrap64 (j4 + 1)))=false:=bne_eq_false_iff_eq.mpr c6
       clear c6
       obtain ⟨jz,A7,H⟩:=bsa H
       (try dsimp only at H)
       by_cases c8:jz < 0
       ·rw [if_pos c8] at H
        have jJ:decide (jz < 0)=true:=decide_eq_true c8
        clear c8
        obtain rfl:=Option.some.inj H
        have ja:0≤(j3:Int):=of_decide_eq_true bT
        have jb:j3 < (l0.length:Int):=of_decide_eq_true bT
        obtain ⟨j7,j8,j9,jt,jc,jd,j5,hl21_2,hi21_2⟩:=kC jq.out j3 ja jb
        cases jt
        have je:=am hi21_2
        have jf:=am hl21_2
        clear hi21_2 hl21_2
        replace ja:=eq_true ja
        replace jb:=eq_true jb
        have jj:0≤(j3:Int):=of_decide_eq_true bT
        have jk:j3 < (l0.length:Int):=of_decide_eq_true bT
        obtain ⟨jl,jr,js,jA,jm,jn,j6,hl22_2,hi22_2⟩:=kC jq.out j3 jj jk
        obtain rfl:j7=jl:=(by injection jA)
        have jo:=am hi22_2
        have jp:=am hl22_2
        clear hi22_2 hl22_2
        replace jj:=eq_true jj
        replace jk:=eq_true jk
        have ea_:=Option.some.inj (j5.symm.trans j6)
        injection ea_ with ea_ en_ ec_
        subst ea_
        subst ec_
        clear en_
        have ju:0≤(j3:Int):=of_decide_eq_true bT
        have jv:j3 < (l0.length:Int):=of_decide_eq_true bT
        obtain ⟨jw,jB,jC,jK,jx,jy,jg,hl23_2,hi23_2⟩:=kC jq.out j3 ju jv
        obtain rfl:j7=jw:=(by injection jK)
        have jh:=am hi23_2
        have ji:=am hl23_2
        clear hi23_2 hl23_2
        replace ju:=eq_true ju
        replace jv:=eq_true jv
        have ea_:=Option.some.inj (j5.symm.trans jg)
        injection ea_ with ea_ en_ ec_
        subst ea_
        subst ec_
        clear en_
        go_wp2_with (first|((with_reducible refine aD (f:=35) rfl ?_);refine aU (some 36) rfl rfl Try.func35 (by kernel_rfl) rfl #[.slice j8 ((bH l0 j3).f2).length j9, .int .i64 (wrap64 ((wrap64 (j4 + 1)) + 1))] rfl dK ?_;(with_reducible refine (ih k1 (by have:=jD.out;omega) _ _ ((bH l0 j3).f2) (wrap64 ((wrap64 (j4 + 1)) + 1)) jz _ (aC_ jh.out) ji.out A7.out).mono ?_);rintro e w' ⟨rfl,⟨nd,rfl⟩⟩;refine ⟨_,rfl,?_⟩))
        go_ret
        exact ⟨sd_,fF⟩
       rw [if_neg c8] at H
       have jJ:decide (jz < 0)=false:=decide_eq_false c8
       clear c8
       have H':=am H
       clear H
       have ja:0≤(j3:Int):=of_decide_eq_true bT
       have jb:j3 < (l0.length:Int):=of_decide_eq_true bT
       obtain ⟨j7,j8,j9,jt,jc,jd,j5,hl21_2,hi21_2⟩:=kC jq.out j3 ja jb
       cases jt
       have je:=am hi21_2
       have jf:=am hl21_2
       clear hi21_2 hl21_2
       replace ja:=eq_true ja
       replace jb:=eq_true jb
       have jj:0≤(j3:Int):=of_decide_eq_true bT
       have jk:j3 < (l0.length:Int):=of_decide_eq_true bT
       obtain ⟨jl,jr,js,jA,jm,jn,j6,hl22_2,hi22_2⟩:=kC jq.out j3 jj jk
       obtain rfl:j7=jl:=(by injection jA)
       have jo:=am hi22_2
       have jp:=am hl22_2
       clear hi22_2 hl22_2
       replace jj:=eq_true jj
       replace jk:=eq_true jk
       have ea_:=Option.some.inj (j5.symm.trans j6)
       injection ea_ with ea_ en_ ec_
       subst ea_
       subst ec_
       clear en_
       have ju:0≤(j3:Int):=of_decide_eq_true bT
       have jv:j3 < (l0.length:Int):=of_decide_eq_true bT
       obtain ⟨jw,jB,jC,jK,jx,jy,jg,hl23_2,hi23_2⟩:=kC jq.out j3 ju jv
       obtain rfl:j7=jw:=(by injection jK)
       have jh:=am hi23_2
       have ji:=am hl23_2
       clear hi23_2 hl23_2
       replace ju:=eq_true ju
       replace jv:=eq_true jv
       have ea_:=Option.some.inj (j5.symm.trans jg)
       injection ea_ with ea_ en_ ec_
       subst ea_
       subst ec_
       clear en_
       go_wp2_with (first|((with_reducible refine aD (f:=35) rfl ?_);refine aU (some 36) rfl rfl Try.func35 (by kernel_rfl) rfl #[.slice j8 ((bH l0 j3).f2).length j9, .int .i64 (wrap64 ((wrap64 (j4 + 1)) + 1))] rfl dK ?_;(with_reducible refine (ih k1 (by have:=jD.out;omega) _ _ ((bH l0 j3).f2) (wrap64 ((wrap64 (j4 + 1)) + 1)) jz _ (aC_ jh.out) ji.out A7.out).mono ?_);rintro e w' ⟨rfl,⟨nd,rfl⟩⟩;refine ⟨_,rfl,?_⟩))
       go_roundg k1
       case measure=>have:=jD.out;omega
       case rel=>exact ⟨(jz),(wrap64 (j3 + 1)),sd_,sd_,H',⟨by have:=jD.out;omega⟩,fF⟩
      rw [if_neg c6] at H
      have jH:(((bH l0 j3).f1) == (wrap64 (j4 + 1)))=false:=beq_eq_false_iff_ne.mpr c6
      have jI:(((bH l0 j3).f1) != (wrap64 (j4 + 1)))=true:=bne_iff_ne.mpr c6
      obtain rfl:=Option.some.inj H
      have ja:0≤(j3:Int):=of_decide_eq_true bT
      have jb:j3 < (l0.length:Int):=of_decide_eq_true bT
      obtain ⟨j7,j8,j9,jt,jc,jd,j5,hl21_2,hi21_2⟩:=kC jq.out j3 ja jb
      cases jt
      have je:=am hi21_2
      have jf:=am hl21_2
      clear hi21_2 hl21_2
      replace ja:=eq_true ja
      replace jb:=eq_true jb
      have jj:0≤(j3:Int):=of_decide_eq_true bT
      have jk:j3 < (l0.length:Int):=of_decide_eq_true bT
      obtain ⟨jl,jr,js,jA,jm,jn,j6,hl22_2,hi22_2⟩:=kC jq.out j3 jj jk
      obtain rfl:j7=jl:=(by injection jA)
      have jo:=am hi22_2
      have jp:=am hl22_2
      clear hi22_2 hl22_2
      replace jj:=eq_true jj
      replace jk:=eq_true jk
      have ea_:=Option.some.inj (j5.symm.trans j6)
      injection ea_ with ea_ en_ ec_
      subst ea_
      subst ec_
      clear en_
      go_wp2
      go_ret
      exact ⟨sd_,fF⟩
     rw [if_neg c5] at H
     have jF:(((bH l0 j3).f0) == j4)=false:=beq_eq_false_iff_ne.mpr c5
     have jG:(((bH l0 j3).f0) != j4)=true:=bne_iff_ne.mpr c5
     obtain rfl:=Option.some.inj H
     have ja:0≤(j3:Int):=of_decide_eq_true bT
     have jb:j3 < (l0.length:Int):=of_decide_eq_true bT
     obtain ⟨j7,j8,j9,jt,jc,jd,j5,hl21_2,hi21_2⟩:=kC jq.out j3 ja jb
     cases jt
     have je:=am hi21_2
     have jf:=am hl21_2
     clear hi21_2 hl21_2
     replace ja:=eq_true ja
     replace jb:=eq_true jb
     go_wp2
     go_ret
     exact ⟨sd_,fF⟩
    rw [if_neg c4] at H
    exact absurd H (by simp)
   rw [if_neg c3] at H
   have jE:decide (j3 < (l0.length:Int))=false:=decide_eq_false c3
   clear c3
   obtain rfl:=Option.some.inj H
   go_wp2
   go_ret
   exact ⟨sd_,fF⟩
theorem bN.mono_l:∀ k,(∀ y0 y1,LeO (bN.f k y0 y1) (bN.f (k + 1) y0 y1))∧(∀ y0 y1 y2,LeO (bN.l0 k y0 y1 y2) (bN.l0 (k + 1) y0 y1 y2))
 |0=>⟨fun _ _ r h=>by simp [bN.f] at h,fun _ _ _ r h=>by simp [bN.l0] at h⟩
 |k + 1=>by
  obtain ⟨ih0,ih1⟩:=bN.mono_l k
  refine ⟨?_,?_⟩
  ·intro y0 y1
   unfold bN.f
   have m0:=@bD.mono
   exact mo_
  ·intro y0 y1 y2
   unfold bN.l0
   have m0:=@bD.mono
   exact mo_
theorem bN.mono:∀ a0 a1 k,LeO (bN.f k a0 a1) (bN.f (k + 1) a0 a1):=by
 intro a0 a1 k
 obtain ⟨ih0,ih1⟩:=bN.mono_l k
 exact ih0 a0 a1
theorem bN.calls (k:Nat):∀ (A0:Option Addr) (c0:Nat) (l0:List (S70)) (a1:Int) (r:Int) (w:World) (hr0:Kd.C k70 w A0 l0.length l0) (hc0:l0.length≤c0) (h:bN.f k l0 a1=some r),
  Calls Try.prog 19 #[.slice A0 l0.length c0, .int .i64 a1] w fun e w'=>e= .returned (.int .i64 r)∧fV w w':=by
 induction k using Nat.strongRecOn with
 | _ k ih=>
 intro A0 c0 l0 a1 r w hr0 hc0 h
 cases k with
 |zero=>exact absurd h (by simp [bN.f])
 |succ k=>
 simp only [bN.f] at h
 have ji:=am hr0
 have JD:=am hc0
 clear hr0 hc0
 have H:(bN.l0 k l0 a1 0)=some r:=h
 clear h
 have H':=am H
 clear H
 go_enter Try.func19,Try.ntmps19
 go_wp2
 go_loopg [1,5] k (fun kq v1 v5 w'=>∃ (j8:Int) (j3:Int),v1= .int .i64 j8∧v5= .int .i64 j3∧Aside0 (bN.l0 kq l0 j8 j3=some r)∧Aside0 (kq≤k)∧fV w w')
 case atStart=>exact ⟨(a1),(0),sd_,sd_,H',⟨Nat.le_refl _⟩,fF⟩
 case round=>
  clear H'
  obtain ⟨j8,j3,rfl,rfl,HA,zT,⟨m1,rfl⟩⟩:=hrel
  cases gk with
  |zero=>exact absurd HA.out (by simp [bN.l0])
  |succ k1=>
   have H:=HA.out
   clear HA
   simp only [bN.l0] at H
   by_cases c3:j3 < (l0.length:Int)
   ·rw [if_pos c3] at H
    have Jm:decide (j3 < (l0.length:Int))=true:=decide_eq_true c3
    clear c3
    by_cases c4:0≤j3
    ·rw [if_pos c4] at H
     have JC:decide (0≤j3)=true:=decide_eq_true c4
     clear c4
     by_cases c5:((aG l0 j3).f0)=j8
     ·rw [if_pos c5] at H
      have Jn:(((aG l0 j3).f0) == j8)=true:=beq_iff_eq.mpr c5
      have Jo:(((aG l0 j3).f0) != j8)=false:=bne_eq_false_iff_eq.mpr c5
      clear c5
      by_cases c6:((aG l0 j3).f1)=(wrap64 (j8 + 1))
      ·rw [if_pos c6] at H
       have Jp:(((aG l0 j3).f1) == (wrap64 (j8 + 1)))=true:=beq_iff_eq.mpr c6
       have Jq:(((aG l0 j3).f1) != (wrap64 (j8 + 1)))=false:=bne_eq_false_iff_eq.mpr c6
       clear c6
       by_cases c7:((aG l0 j3).f2)=(wrap64 ((wrap64 (j8 + 1)) + 1))
       ·rw [if_pos c7] at H
        have Jr:(((aG l0 j3).f2) == (wrap64 ((wrap64 (j8 + 1)) + 1)))=true:=beq_iff_eq.mpr c7
        have Js:(((aG l0 j3).f2) != (wrap64 ((wrap64 (j8 + 1)) + 1)))=false:=bne_eq_false_iff_eq.mpr c7
        clear c7
        by_cases c8:((aG l0 j3).f3.f0)=(wrap64 ((wrap64 ((wrap64 (j8 + 1)) + 1)) + 1))
        ·rw [if_pos c8] at H
         have Jt:(((aG l0 j3).f3.f0) == (wrap64 ((wrap64 ((wrap64 (j8 + 1)) + 1)) + 1)))=true:=beq_iff_eq.mpr c8
         have Ju:(((aG l0 j3).f3.f0) != (wrap64 ((wrap64 ((wrap64 (j8 + 1)) + 1)) + 1)))=false:=bne_eq_false_iff_eq.mpr c8
         clear c8
         by_cases c9:((aG l0 j3).f3.f1)=(wrap64 ((wrap64 ((wrap64 ((wrap64 (j8 + 1)) + 1)) + 1)) + 1))
         ·rw [if_pos c9] at H
          have Jv:(((aG l0 j3).f3.f1) == (wrap64 ((wrap64 ((wrap64 ((wrap64 (j8 + 1)) + 1)) + 1)) + 1)))=true:=beq_iff_eq.mpr c9
          have Jw:(((aG l0 j3).f3.f1) != (wrap64 ((wrap64 ((wrap64 ((wrap64 (j8 + 1)) + 1)) + 1)) + 1)))=false:=bne_eq_false_iff_eq.mpr c9
          clear c9
          obtain ⟨zq,Jz,H⟩:=bsm H
          (try dsimp only at H)
          have Jl:=am Jz
          clear Jz
          by_cases J7:zq < 0
          ·rw [if_pos J7] at H
           have Jb:decide (zq < 0)=true:=decide_eq_true J7
           clear J7
           obtain rfl:=Option.some.inj H
           have jo:0≤(j3:Int):=of_decide_eq_true bT
           have jp:j3 < (l0.length:Int):=of_decide_eq_true bT
           obtain ⟨j7,jm,jn,jq,jr,jD,jE,qV,js,jt,ju,jv,jw,j4,j5,j6,hl24_5,hi24_5,hl24_6,hi24_6,hl24_7,hi24_7⟩:=eY ji.out j3 jo jp
           cases qV
           have jx:=am hi24_5
           have jy:=am hl24_5
           clear hi24_5 hl24_5
           have jz:=am hi24_6
           have jA:=am hl24_6
           clear hi24_6 hl24_6
           have jB:=am hi24_7
           have jC:=am hl24_7
           clear hi24_7 hl24_7
           replace jo:=eq_true jo
           replace jp:=eq_true jp
           have jF:0≤(j3:Int):=of_decide_eq_true bT
           have jG:j3 < (l0.length:Int):=of_decide_eq_true bT
           obtain ⟨jH,qc,qd,qe,qf,qg,qh,z2,jI,jJ,jK,jL,jM,j9,ja,jb,hl25_5,hi25_5,hl25_6,hi25_6,hl25_7,hi25_7⟩:=eY ji.out j3 jF jG
           obtain rfl:j7=jH:=(by injection z2)
           have jN:=am hi25_5
           have jO:=am hl25_5
           clear hi25_5 hl25_5
           have jP:=am hi25_6
           have jQ:=am hl25_6
           clear hi25_6 hl25_6
           have jR:=am hi25_7
           have jS:=am hl25_7
           clear hi25_7 hl25_7
           replace jF:=eq_true jF
           replace jG:=eq_true jG
           have ea_:=Option.some.inj (j4.symm.trans j9)
           injection ea_ with ea_ en_ ec_
           subst ea_
           subst ec_
           clear en_
           have ea_:=Option.some.inj (j5.symm.trans ja)
           injection ea_ with ea_ en_ ec_
           subst ea_
           subst ec_
           clear en_
           have ea_:=Option.some.inj (j6.symm.trans jb)
           injection ea_ with ea_ en_ ec_
           subst ea_
           subst ec_
           clear en_
           have jY:0≤(j3:Int):=of_decide_eq_true bT
           have jZ:j3 < (l0.length:Int):=of_decide_eq_true bT
           obtain ⟨q0,qB,qC,qD,qE,qF,qG,zr,q1,q2,q3,q4,q5,jc,jd,je,hl26_5,hi26_5,hl26_6,hi26_6,hl26_7,hi26_7⟩:=eY ji.out j3 jY jZ
           obtain rfl:j7=q0:=(by injection zr)
           have q6:=am hi26_5
           have q7:=am hl26_5
           clear hi26_5 hl26_5
           have q8:=am hi26_6
           have q9:=am hl26_6
           clear hi26_6 hl26_6
           have qa:=am hi26_7
           have qb:=am hl26_7
           clear hi26_7 hl26_7
           replace jY:=eq_true jY
           replace jZ:=eq_true jZ
           have ea_:=Option.some.inj (j4.symm.trans jc)
           injection ea_ with ea_ en_ ec_
           subst ea_
           subst ec_
           clear en_
           have ea_:=Option.some.inj (j5.symm.trans jd)
           injection ea_ with ea_ en_ ec_
           subst ea_
           subst ec_
           clear en_
           have ea_:=Option.some.inj (j6.symm.trans je)
           injection ea_ with ea_ en_ ec_
           subst ea_
           subst ec_
           clear en_
           have qi:0≤(j3:Int):=of_decide_eq_true bT
           have qj:j3 < (l0.length:Int):=of_decide_eq_true bT
           obtain ⟨qk,qW,qX,qY,qZ,z0,z1,zs,ql,qm,qn,qo,qp,jf,jg,jh,hl27_5,hi27_5,hl27_6,hi27_6,hl27_7,hi27_7⟩:=eY ji.out j3 qi qj
           obtain rfl:j7=qk:=(by injection zs)
           have qq:=am hi27_5
           have qr:=am hl27_5
           clear hi27_5 hl27_5
           have qs:=am hi27_6
           have qt:=am hl27_6
           clear hi27_6 hl27_6
           have qu:=am hi27_7
           have qv:=am hl27_7
           clear hi27_7 hl27_7
           replace qi:=eq_true qi
           replace qj:=eq_true qj
           have ea_:=Option.some.inj (j4.symm.trans jf)
           injection ea_ with ea_ en_ ec_
           subst ea_
           subst ec_
           clear en_
           have ea_:=Option.some.inj (j5.symm.trans jg)
           injection ea_ with ea_ en_ ec_
           subst ea_
           subst ec_
           clear en_
           have ea_:=Option.some.inj (j6.symm.trans jh)
           injection ea_ with ea_ en_ ec_
           subst ea_
           subst ec_
           clear en_
           have qH:0≤(j3:Int):=of_decide_eq_true bT
           have qI:j3 < (l0.length:Int):=of_decide_eq_true bT
           obtain ⟨qJ,zk,zl,zm,zn,zo,zp,zM,qK,qL,qM,qN,qO,jj,jk,jl,hl28_5,hi28_5,hl28_6,hi28_6,hl28_7,hi28_7⟩:=eY ji.out j3 qH qI
           obtain rfl:j7=qJ:=(by injection zM)
           have qP:=am hi28_5
           have qQ:=am hl28_5
           clear hi28_5 hl28_5
           have qR:=am hi28_6
           have qS:=am hl28_6
           clear hi28_6 hl28_6
           have qT:=am hi28_7
           have qU:=am hl28_7
           clear hi28_7 hl28_7
           replace qH:=eq_true qH
           replace qI:=eq_true qI
           have ea_:=Option.some.inj (j4.symm.trans jj)
           injection ea_ with ea_ en_ ec_
           subst ea_
           subst ec_
           clear en_
           have ea_:=Option.some.inj (j5.symm.trans jk)
           injection ea_ with ea_ en_ ec_
           subst ea_
           subst ec_
           clear en_
           have ea_:=Option.some.inj (j6.symm.trans jl)
           injection ea_ with ea_ en_ ec_
           subst ea_
           subst ec_
           clear en_
           have z3:0≤(j3:Int):=of_decide_eq_true bT
           have z4:j3 < (l0.length:Int):=of_decide_eq_true bT
           obtain ⟨z5,zt,zu,zv,zw,zx,zy,zU,z6,z7,z8,z9,za,jT,jU,jV,hl29_5,hi29_5,hl29_6,hi29_6,hl29_7,hi29_7⟩:=eY ji.out j3 z3 z4
           obtain rfl:j7=z5:=(by injection zU)
           have jW:=am hi29_5
           have jX:=am hl29_5
           clear hi29_5 hl29_5
           have zb:=am hi29_6
           have zc:=am hl29_6
           clear hi29_6 hl29_6
           have zd:=am hi29_7
           have ze:=am hl29_7
           clear hi29_7 hl29_7
           replace z3:=eq_true z3
           replace z4:=eq_true z4
           have ea_:=Option.some.inj (j4.symm.trans jT)
           injection ea_ with ea_ en_ ec_
           subst ea_
           subst ec_
           clear en_
           have ea_:=Option.some.inj (j5.symm.trans jU)
           injection ea_ with ea_ en_ ec_
           subst ea_
           subst ec_
           clear en_
           have ea_:=Option.some.inj (j6.symm.trans jV)
           injection ea_ with ea_ en_ ec_
           subst ea_
           subst ec_
           clear en_
           go_wp2_with (first|((with_reducible refine aD (f:=35) rfl ?_);refine aU (some 66) rfl rfl Try.func35 (by kernel_rfl) rfl #[.slice jm ((aG l0 j3).f3.f2).length jn, .int .i64 (wrap64 ((wrap64 ((wrap64 ((wrap64 ((wrap64 (j8 + 1)) + 1)) + 1)) + 1)) + 1))] rfl dK ?_;(with_reducible refine (bD.calls k1 _ _ ((aG l0 j3).f3.f2) (wrap64 ((wrap64 ((wrap64 ((wrap64 ((wrap64 (j8 + 1)) + 1)) + 1)) + 1)) + 1)) zq _ (aC_ jW.out) jX.out Jl.out).mono ?_);rintro e w' ⟨rfl,⟨nd,rfl⟩⟩;refine ⟨_,rfl,?_⟩))
           go_ret
           exact ⟨sd_,fF⟩
          rw [if_neg J7] at H
          have Jb:decide (zq < 0)=false:=decide_eq_false J7
          clear J7
          obtain ⟨zL,Jx,H⟩:=bsa H
          (try dsimp only at H)
          by_cases J8:zL < 0
          ·rw [if_pos J8] at H
           have Jc:decide (zL < 0)=true:=decide_eq_true J8
           clear J8
           obtain rfl:=Option.some.inj H
           have jo:0≤(j3:Int):=of_decide_eq_true bT
           have jp:j3 < (l0.length:Int):=of_decide_eq_true bT
           obtain ⟨j7,jm,jn,jq,jr,jD,jE,qV,js,jt,ju,jv,jw,j4,j5,j6,hl24_5,hi24_5,hl24_6,hi24_6,hl24_7,hi24_7⟩:=eY ji.out j3 jo jp
           cases qV
           have jx:=am hi24_5
           have jy:=am hl24_5
           clear hi24_5 hl24_5
           have jz:=am hi24_6
           have jA:=am hl24_6
           clear hi24_6 hl24_6
           have jB:=am hi24_7
           have jC:=am hl24_7
           clear hi24_7 hl24_7
           replace jo:=eq_true jo
           replace jp:=eq_true jp
           have jF:0≤(j3:Int):=of_decide_eq_true bT
           have jG:j3 < (l0.length:Int):=of_decide_eq_true bT
           obtain ⟨jH,qc,qd,qe,qf,qg,qh,z2,jI,jJ,jK,jL,jM,j9,ja,jb,hl25_5,hi25_5,hl25_6,hi25_6,hl25_7,hi25_7⟩:=eY ji.out j3 jF jG
           obtain rfl:j7=jH:=(by injection z2)
           have jN:=am hi25_5
           have jO:=am hl25_5
           clear hi25_5 hl25_5
           have jP:=am hi25_6
           have jQ:=am hl25_6
           clear hi25_6 hl25_6
           have jR:=am hi25_7
           have jS:=am hl25_7
           clear hi25_7 hl25_7
           replace jF:=eq_true jF
           replace jG:=eq_true jG
           have ea_:=Option.some.inj (j4.symm.trans j9)
           injection ea_ with ea_ en_ ec_
           subst ea_
           subst ec_
           clear en_
           have ea_:=Option.some.inj (j5.symm.trans ja)
           injection ea_ with ea_ en_ ec_
           subst ea_
           subst ec_
           clear en_
           have ea_:=Option.some.inj (j6.symm.trans jb)
           injection ea_ with ea_ en_ ec_
           subst ea_
           subst ec_
           clear en_
           have jY:0≤(j3:Int):=of_decide_eq_true bT
           have jZ:j3 < (l0.length:Int):=of_decide_eq_true bT
           obtain ⟨q0,qB,qC,qD,qE,qF,qG,zr,q1,q2,q3,q4,q5,jc,jd,je,hl26_5,hi26_5,hl26_6,hi26_6,hl26_7,hi26_7⟩:=eY ji.out j3 jY jZ
           obtain rfl:j7=q0:=(by injection zr)
           have q6:=am hi26_5
           have q7:=am hl26_5
           clear hi26_5 hl26_5
           have q8:=am hi26_6
           have q9:=am hl26_6
           clear hi26_6 hl26_6
           have qa:=am hi26_7
           have qb:=am hl26_7
           clear hi26_7 hl26_7
           replace jY:=eq_true jY
           replace jZ:=eq_true jZ
           have ea_:=Option.some.inj (j4.symm.trans jc)
           injection ea_ with ea_ en_ ec_
           subst ea_
           subst ec_
           clear en_
           have ea_:=Option.some.inj (j5.symm.trans jd)
           injection ea_ with ea_ en_ ec_
           subst ea_
           subst ec_
           clear en_
           have ea_:=Option.some.inj (j6.symm.trans je)
           injection ea_ with ea_ en_ ec_
           subst ea_
           subst ec_
           clear en_
           have qi:0≤(j3:Int):=of_decide_eq_true bT
           have qj:j3 < (l0.length:Int):=of_decide_eq_true bT
           obtain ⟨qk,qW,qX,qY,qZ,z0,z1,zs,ql,qm,qn,qo,qp,jf,jg,jh,hl27_5,hi27_5,hl27_6,hi27_6,hl27_7,hi27_7⟩:=eY ji.out j3 qi qj
           obtain rfl:j7=qk:=(by injection zs)
           have qq:=am hi27_5
           have qr:=am hl27_5
           clear hi27_5 hl27_5
           have qs:=am hi27_6
           have qt:=am hl27_6
           clear hi27_6 hl27_6
           have qu:=am hi27_7
           have qv:=am hl27_7
           clear hi27_7 hl27_7
           replace qi:=eq_true qi
           replace qj:=eq_true qj
           have ea_:=Option.some.inj (j4.symm.trans jf)
           injection ea_ with ea_ en_ ec_
           subst ea_
           subst ec_
           clear en_
           have ea_:=Option.some.inj (j5.symm.trans jg)
           injection ea_ with ea_ en_ ec_
           subst ea_
           subst ec_
           clear en_
           have ea_:=Option.some.inj (j6.symm.trans jh)
           injection ea_ with ea_ en_ ec_
           subst ea_
           subst ec_
           clear en_
           have qH:0≤(j3:Int):=of_decide_eq_true bT
           have qI:j3 < (l0.length:Int):=of_decide_eq_true bT
           obtain ⟨qJ,zk,zl,zm,zn,zo,zp,zM,qK,qL,qM,qN,qO,jj,jk,jl,hl28_5,hi28_5,hl28_6,hi28_6,hl28_7,hi28_7⟩:=eY ji.out j3 qH qI
           obtain rfl:j7=qJ:=(by injection zM)
           have qP:=am hi28_5
           have qQ:=am hl28_5
           clear hi28_5 hl28_5
           have qR:=am hi28_6
           have qS:=am hl28_6
           clear hi28_6 hl28_6
           have qT:=am hi28_7
           have qU:=am hl28_7
           clear hi28_7 hl28_7
           replace qH:=eq_true qH
           replace qI:=eq_true qI
           have ea_:=Option.some.inj (j4.symm.trans jj)
           injection ea_ with ea_ en_ ec_
           subst ea_
           subst ec_
           clear en_
           have ea_:=Option.some.inj (j5.symm.trans jk)
           injection ea_ with ea_ en_ ec_
           subst ea_
           subst ec_
           clear en_
           have ea_:=Option.some.inj (j6.symm.trans jl)
           injection ea_ with ea_ en_ ec_
           subst ea_
           subst ec_
           clear en_
           have z3:0≤(j3:Int):=of_decide_eq_true bT
           have z4:j3 < (l0.length:Int):=of_decide_eq_true bT
           obtain ⟨z5,zt,zu,zv,zw,zx,zy,zU,z6,z7,z8,z9,za,jT,jU,jV,hl29_5,hi29_5,hl29_6,hi29_6,hl29_7,hi29_7⟩:=eY ji.out j3 z3 z4
           obtain rfl:j7=z5:=(by injection zU)
           have jW:=am hi29_5
           have jX:=am hl29_5
           clear hi29_5 hl29_5
           have zb:=am hi29_6
           have zc:=am hl29_6
           clear hi29_6 hl29_6
           have zd:=am hi29_7
           have ze:=am hl29_7
           clear hi29_7 hl29_7
           replace z3:=eq_true z3
           replace z4:=eq_true z4
           have ea_:=Option.some.inj (j4.symm.trans jT)
           injection ea_ with ea_ en_ ec_
           subst ea_
           subst ec_
           clear en_
           have ea_:=Option.some.inj (j5.symm.trans jU)
           injection ea_ with ea_ en_ ec_
           subst ea_
           subst ec_
           clear en_
           have ea_:=Option.some.inj (j6.symm.trans jV)
           injection ea_ with ea_ en_ ec_
           subst ea_
           subst ec_
           clear en_
           go_wp2_with (first|((with_reducible refine aD (f:=35) rfl ?_);refine aU (some 66) rfl rfl Try.func35 (by kernel_rfl) rfl #[.slice jm ((aG l0 j3).f3.f2).length jn, .int .i64 (wrap64 ((wrap64 ((wrap64 ((wrap64 ((wrap64 (j8 + 1)) + 1)) + 1)) + 1)) + 1))] rfl dK ?_;(with_reducible refine (bD.calls k1 _ _ ((aG l0 j3).f3.f2) (wrap64 ((wrap64 ((wrap64 ((wrap64 ((wrap64 (j8 + 1)) + 1)) + 1)) + 1)) + 1)) zq _ (aC_ jW.out) jX.out Jl.out).mono ?_);rintro e w' ⟨rfl,⟨nd,rfl⟩⟩;refine ⟨_,rfl,?_⟩;have zz:0≤(j3:Int):=of_decide_eq_true bT;have zA:j3 < (l0.length:Int):=of_decide_eq_true bT;obtain ⟨zB,zN,zO,zP,zQ,zR,zS,Jd,zC,zD,zE,zF,zG,qw,qx,qy,hl31_5,hi31_5,hl31_6,hi31_6,hl31_7,hi31_7⟩:=eY ji.out j3 zz zA;obtain rfl:j7=zB:=(by injection Jd);have zH:=am hi31_5;have zI:=am hl31_5;clear hi31_5 hl31_5;have qz:=am hi31_6;have qA:=am hl31_6;clear hi31_6 hl31_6;have zJ:=am hi31_7;have zK:=am hl31_7;clear hi31_7 hl31_7;replace zz:=eq_true zz;replace zA:=eq_true zA;have ea_:=Option.some.inj (j4.symm.trans qw);injection ea_ with ea_ en_ ec_;subst ea_;subst ec_;clear en_;have ea_:=Option.some.inj (j5.symm.trans qx);injection ea_ with ea_ en_ ec_;subst ea_;subst ec_;clear en_;have ea_:=Option.some.inj (j6.symm.trans qy);injection ea_ with ea_ en_ ec_;subst ea_;subst ec_;clear en_)|((with_reducible refine aD (f:=19) rfl ?_);refine aU (some 75) rfl rfl Try.func19 (by kernel_rfl) rfl #[.slice jq ((aG l0 j3).f4).length jr, .int .i64 zq] rfl dK ?_;(with_reducible refine (ih k1 (by have:=zT.out;omega) _ _ ((aG l0 j3).f4) zq zL _ (aC_ qz.out) qA.out Jx.out).mono ?_);rintro e w' ⟨rfl,⟨nd,rfl⟩⟩;refine ⟨_,rfl,?_⟩))
           go_ret
           exact ⟨sd_,fF⟩
          rw [if_neg J8] at H
          have Jc:decide (zL < 0)=false:=decide_eq_false J8
          clear J8
          obtain ⟨J9,JA,H⟩:=bsm H
          (try dsimp only at H)
          have JB:=am JA
          clear JA
          by_cases Ja:J9 < 0
          ·rw [if_pos Ja] at H
           have Je:decide (J9 < 0)=true:=decide_eq_true Ja
           clear Ja
           obtain rfl:=Option.some.inj H
           have jo:0≤(j3:Int):=of_decide_eq_true bT
           have jp:j3 < (l0.length:Int):=of_decide_eq_true bT
           obtain ⟨j7,jm,jn,jq,jr,jD,jE,qV,js,jt,ju,jv,jw,j4,j5,j6,hl24_5,hi24_5,hl24_6,hi24_6,hl24_7,hi24_7⟩:=eY ji.out j3 jo jp
           cases qV
           have jx:=am hi24_5
           have jy:=am hl24_5
           clear hi24_5 hl24_5
           have jz:=am hi24_6
           have jA:=am hl24_6
           clear hi24_6 hl24_6
           have jB:=am hi24_7
           have jC:=am hl24_7
           clear hi24_7 hl24_7
           replace jo:=eq_true jo
           replace jp:=eq_true jp
           have jF:0≤(j3:Int):=of_decide_eq_true bT
           have jG:j3 < (l0.length:Int):=of_decide_eq_true bT
           obtain ⟨jH,qc,qd,qe,qf,qg,qh,z2,jI,jJ,jK,jL,jM,j9,ja,jb,hl25_5,hi25_5,hl25_6,hi25_6,hl25_7,hi25_7⟩:=eY ji.out j3 jF jG
           obtain rfl:j7=jH:=(by injection z2)
           have jN:=am hi25_5
           have jO:=am hl25_5
           clear hi25_5 hl25_5
           have jP:=am hi25_6
           have jQ:=am hl25_6
           clear hi25_6 hl25_6
           have jR:=am hi25_7
           have jS:=am hl25_7
           clear hi25_7 hl25_7
           replace jF:=eq_true jF
           replace jG:=eq_true jG
           have ea_:=Option.some.inj (j4.symm.trans j9)
           injection ea_ with ea_ en_ ec_
           subst ea_
           subst ec_
           clear en_
           have ea_:=Option.some.inj (j5.symm.trans ja)
           injection ea_ with ea_ en_ ec_
           subst ea_
           subst ec_
           clear en_
           have ea_:=Option.some.inj (j6.symm.trans jb)
           injection ea_ with ea_ en_ ec_
           subst ea_
           subst ec_
           clear en_
           have jY:0≤(j3:Int):=of_decide_eq_true bT
           have jZ:j3 < (l0.length:Int):=of_decide_eq_true bT
           obtain ⟨q0,qB,qC,qD,qE,qF,qG,zr,q1,q2,q3,q4,q5,jc,jd,je,hl26_5,hi26_5,hl26_6,hi26_6,hl26_7,hi26_7⟩:=eY ji.out j3 jY jZ
           obtain rfl:j7=q0:=(by injection zr)
           have q6:=am hi26_5
           have q7:=am hl26_5
           clear hi26_5 hl26_5
           have q8:=am hi26_6
           have q9:=am hl26_6
           clear hi26_6 hl26_6
           have qa:=am hi26_7
           have qb:=am hl26_7
           clear hi26_7 hl26_7
           replace jY:=eq_true jY
           replace jZ:=eq_true jZ
           have ea_:=Option.some.inj (j4.symm.trans jc)
           injection ea_ with ea_ en_ ec_
           subst ea_
           subst ec_
           clear en_
           have ea_:=Option.some.inj (j5.symm.trans jd)
           injection ea_ with ea_ en_ ec_
           subst ea_
           subst ec_
           clear en_
           have ea_:=Option.some.inj (j6.symm.trans je)
           injection ea_ with ea_ en_ ec_
           subst ea_
           subst ec_
           clear en_
           have qi:0≤(j3:Int):=of_decide_eq_true bT
           have qj:j3 < (l0.length:Int):=of_decide_eq_true bT
           obtain ⟨qk,qW,qX,qY,qZ,z0,z1,zs,ql,qm,qn,qo,qp,jf,jg,jh,hl27_5,hi27_5,hl27_6,hi27_6,hl27_7,hi27_7⟩:=eY ji.out j3 qi qj
           obtain rfl:j7=qk:=(by injection zs)
           have qq:=am hi27_5
           have qr:=am hl27_5
           clear hi27_5 hl27_5
           have qs:=am hi27_6
           have qt:=am hl27_6
           clear hi27_6 hl27_6
           have qu:=am hi27_7
           have qv:=am hl27_7
           clear hi27_7 hl27_7
           replace qi:=eq_true qi
           replace qj:=eq_true qj
           have ea_:=Option.some.inj (j4.symm.trans jf)
           injection ea_ with ea_ en_ ec_
           subst ea_
           subst ec_
           clear en_
           have ea_:=Option.some.inj (j5.symm.trans jg)
           injection ea_ with ea_ en_ ec_
           subst ea_
           subst ec_
           clear en_
           have ea_:=Option.some.inj (j6.symm.trans jh)
           injection ea_ with ea_ en_ ec_
           subst ea_
           subst ec_
           clear en_
           have qH:0≤(j3:Int):=of_decide_eq_true bT
           have qI:j3 < (l0.length:Int):=of_decide_eq_true bT
           obtain ⟨qJ,zk,zl,zm,zn,zo,zp,zM,qK,qL,qM,qN,qO,jj,jk,jl,hl28_5,hi28_5,hl28_6,hi28_6,hl28_7,hi28_7⟩:=eY ji.out j3 qH qI
           obtain rfl:j7=qJ:=(by injection zM)
           have qP:=am hi28_5
           have qQ:=am hl28_5
           clear hi28_5 hl28_5
           have qR:=am hi28_6
           have qS:=am hl28_6
           clear hi28_6 hl28_6
           have qT:=am hi28_7
           have qU:=am hl28_7
           clear hi28_7 hl28_7
           replace qH:=eq_true qH
           replace qI:=eq_true qI
           have ea_:=Option.some.inj (j4.symm.trans jj)
           injection ea_ with ea_ en_ ec_
           subst ea_
           subst ec_
           clear en_
           have ea_:=Option.some.inj (j5.symm.trans jk)
           injection ea_ with ea_ en_ ec_
           subst ea_
           subst ec_
           clear en_
           have ea_:=Option.some.inj (j6.symm.trans jl)
           injection ea_ with ea_ en_ ec_
           subst ea_
           subst ec_
           clear en_
           have z3:0≤(j3:Int):=of_decide_eq_true bT
           have z4:j3 < (l0.length:Int):=of_decide_eq_true bT
           obtain ⟨z5,zt,zu,zv,zw,zx,zy,zU,z6,z7,z8,z9,za,jT,jU,jV,hl29_5,hi29_5,hl29_6,hi29_6,hl29_7,hi29_7⟩:=eY ji.out j3 z3 z4
           obtain rfl:j7=z5:=(by injection zU)
           have jW:=am hi29_5
           have jX:=am hl29_5
           clear hi29_5 hl29_5
           have zb:=am hi29_6
           have zc:=am hl29_6
           clear hi29_6 hl29_6
           have zd:=am hi29_7
           have ze:=am hl29_7
           clear hi29_7 hl29_7
           replace z3:=eq_true z3
           replace z4:=eq_true z4
           have ea_:=Option.some.inj (j4.symm.trans jT)
           injection ea_ with ea_ en_ ec_
           subst ea_
           subst ec_
           clear en_
           have ea_:=Option.some.inj (j5.symm.trans jU)
           injection ea_ with ea_ en_ ec_
           subst ea_
           subst ec_
           clear en_
           have ea_:=Option.some.inj (j6.symm.trans jV)
           injection ea_ with ea_ en_ ec_
           subst ea_
           subst ec_
           clear en_
           go_wp2_with (first|((with_reducible refine aD (f:=35) rfl ?_);refine aU (some 66) rfl rfl Try.func35 (by kernel_rfl) rfl #[.slice jm ((aG l0 j3).f3.f2).length jn, .int .i64 (wrap64 ((wrap64 ((wrap64 ((wrap64 ((wrap64 (j8 + 1)) + 1)) + 1)) + 1)) + 1))] rfl dK ?_;(with_reducible refine (bD.calls k1 _ _ ((aG l0 j3).f3.f2) (wrap64 ((wrap64 ((wrap64 ((wrap64 ((wrap64 (j8 + 1)) + 1)) + 1)) + 1)) + 1)) zq _ (aC_ jW.out) jX.out Jl.out).mono ?_);rintro e w' ⟨rfl,⟨nd,rfl⟩⟩;refine ⟨_,rfl,?_⟩;have zz:0≤(j3:Int):=of_decide_eq_true bT;have zA:j3 < (l0.length:Int):=of_decide_eq_true bT;obtain ⟨zB,zN,zO,zP,zQ,zR,zS,Jd,zC,zD,zE,zF,zG,qw,qx,qy,hl31_5,hi31_5,hl31_6,hi31_6,hl31_7,hi31_7⟩:=eY ji.out j3 zz zA;obtain rfl:j7=zB:=(by injection Jd);have zH:=am hi31_5;have zI:=am hl31_5;clear hi31_5 hl31_5;have qz:=am hi31_6;have qA:=am hl31_6;clear hi31_6 hl31_6;have zJ:=am hi31_7;have zK:=am hl31_7;clear hi31_7 hl31_7;replace zz:=eq_true zz;replace zA:=eq_true zA;have ea_:=Option.some.inj (j4.symm.trans qw);injection ea_ with ea_ en_ ec_;subst ea_;subst ec_;clear en_;have ea_:=Option.some.inj (j5.symm.trans qx);injection ea_ with ea_ en_ ec_;subst ea_;subst ec_;clear en_;have ea_:=Option.some.inj (j6.symm.trans qy);injection ea_ with ea_ en_ ec_;subst ea_;subst ec_;clear en_)|((with_reducible refine aD (f:=19) rfl ?_);refine aU (some 75) rfl rfl Try.func19 (by kernel_rfl) rfl #[.slice jq ((aG l0 j3).f4).length jr, .int .i64 zq] rfl dK ?_;(with_reducible refine (ih k1 (by have:=zT.out;omega) _ _ ((aG l0 j3).f4) zq zL _ (aC_ qz.out) qA.out Jx.out).mono ?_);rintro e w' ⟨rfl,⟨nd,rfl⟩⟩;refine ⟨_,rfl,?_⟩;have zV:0≤(j3:Int):=of_decide_eq_true bT;have zW:j3 < (l0.length:Int):=of_decide_eq_true bT;obtain ⟨zX,Jf,Jg,Jh,Ji,Jj,Jk,Jy,zY,zZ,J0,J1,J2,zf,zg,zh,hl33_5,hi33_5,hl33_6,hi33_6,hl33_7,hi33_7⟩:=eY ji.out j3 zV zW;obtain rfl:j7=zX:=(by injection Jy);have J3:=am hi33_5;have J4:=am hl33_5;clear hi33_5 hl33_5;have J5:=am hi33_6;have J6:=am hl33_6;clear hi33_6 hl33_6;have zi:=am hi33_7;have zj:=am hl33_7;clear hi33_7 hl33_7;replace zV:=eq_true zV;replace zW:=eq_true zW;have ea_:=Option.some.inj (j4.symm.trans zf);injection ea_ with ea_ en_ ec_;subst ea_;subst ec_;clear en_;have ea_:=Option.some.inj (j5.symm.trans zg);injection ea_ with ea_ en_ ec_;subst ea_;subst ec_;clear en_;have ea_:=Option.some.inj (j6.symm.trans zh);injection ea_ with ea_ en_ ec_;subst ea_;subst ec_;clear en_)|((with_reducible refine aD (f:=19) rfl ?_);refine aU (some 84) rfl rfl Try.func19 (by kernel_rfl) rfl #[.slice jD ((aG l0 j3).f5).length jE, .int .i64 zL] rfl dK ?_;(with_reducible refine (ih k1 (by have:=zT.out;omega) _ _ ((aG l0 j3).f5) zL J9 _ (aC_ zi.out) zj.out JB.out).mono ?_);rintro e w' ⟨rfl,⟨nd,rfl⟩⟩;refine ⟨_,rfl,?_⟩))
           go_ret
           exact ⟨sd_,fF⟩
          rw [if_neg Ja] at H
          have Je:decide (J9 < 0)=false:=decide_eq_false Ja
          clear Ja
          have H':=am H
          clear H
          have jo:0≤(j3:Int):=of_decide_eq_true bT
          have jp:j3 < (l0.length:Int):=of_decide_eq_true bT
          obtain ⟨j7,jm,jn,jq,jr,jD,jE,qV,js,jt,ju,jv,jw,j4,j5,j6,hl24_5,hi24_5,hl24_6,hi24_6,hl24_7,hi24_7⟩:=eY ji.out j3 jo jp
          cases qV
          have jx:=am hi24_5
          have jy:=am hl24_5
          clear hi24_5 hl24_5
          have jz:=am hi24_6
          have jA:=am hl24_6
          clear hi24_6 hl24_6
          have jB:=am hi24_7
          have jC:=am hl24_7
          clear hi24_7 hl24_7
          replace jo:=eq_true jo
          replace jp:=eq_true jp
          have jF:0≤(j3:Int):=of_decide_eq_true bT
          have jG:j3 < (l0.length:Int):=of_decide_eq_true bT
          obtain ⟨jH,qc,qd,qe,qf,qg,qh,z2,jI,jJ,jK,jL,jM,j9,ja,jb,hl25_5,hi25_5,hl25_6,hi25_6,hl25_7,hi25_7⟩:=eY ji.out j3 jF jG
          obtain rfl:j7=jH:=(by injection z2)
          have jN:=am hi25_5
          have jO:=am hl25_5
          clear hi25_5 hl25_5
          have jP:=am hi25_6
          have jQ:=am hl25_6
          clear hi25_6 hl25_6
          have jR:=am hi25_7
          have jS:=am hl25_7
          clear hi25_7 hl25_7
          replace jF:=eq_true jF
          replace jG:=eq_true jG
          have ea_:=Option.some.inj (j4.symm.trans j9)
          injection ea_ with ea_ en_ ec_
          subst ea_
          subst ec_
          clear en_
          have ea_:=Option.some.inj (j5.symm.trans ja)
          injection ea_ with ea_ en_ ec_
          subst ea_
          subst ec_
          clear en_
          have ea_:=Option.some.inj (j6.symm.trans jb)
          injection ea_ with ea_ en_ ec_
          subst ea_
          subst ec_
          clear en_
          have jY:0≤(j3:Int):=of_decide_eq_true bT
          have jZ:j3 < (l0.length:Int):=of_decide_eq_true bT
          obtain ⟨q0,qB,qC,qD,qE,qF,qG,zr,q1,q2,q3,q4,q5,jc,jd,je,hl26_5,hi26_5,hl26_6,hi26_6,hl26_7,hi26_7⟩:=eY ji.out j3 jY jZ
          obtain rfl:j7=q0:=(by injection zr)
          have q6:=am hi26_5
          have q7:=am hl26_5
          clear hi26_5 hl26_5
          have q8:=am hi26_6
          have q9:=am hl26_6
          clear hi26_6 hl26_6
          have qa:=am hi26_7
          have qb:=am hl26_7
          clear hi26_7 hl26_7
          replace jY:=eq_true jY
          replace jZ:=eq_true jZ
          have ea_:=Option.some.inj (j4.symm.trans jc)
          injection ea_ with ea_ en_ ec_
          subst ea_
          subst ec_
          clear en_
          have ea_:=Option.some.inj (j5.symm.trans jd)
          injection ea_ with ea_ en_ ec_
          subst ea_
          subst ec_
          clear en_
          have ea_:=Option.some.inj (j6.symm.trans je)
          injection ea_ with ea_ en_ ec_
          subst ea_
          subst ec_
          clear en_
          have qi:0≤(j3:Int):=of_decide_eq_true bT
          have qj:j3 < (l0.length:Int):=of_decide_eq_true bT
          obtain ⟨qk,qW,qX,qY,qZ,z0,z1,zs,ql,qm,qn,qo,qp,jf,jg,jh,hl27_5,hi27_5,hl27_6,hi27_6,hl27_7,hi27_7⟩:=eY ji.out j3 qi qj
          obtain rfl:j7=qk:=(by injection zs)
          have qq:=am hi27_5
          have qr:=am hl27_5
          clear hi27_5 hl27_5
          have qs:=am hi27_6
          have qt:=am hl27_6
          clear hi27_6 hl27_6
          have qu:=am hi27_7
          have qv:=am hl27_7
          clear hi27_7 hl27_7
          replace qi:=eq_true qi
          replace qj:=eq_true qj
          have ea_:=Option.some.inj (j4.symm.trans jf)
          injection ea_ with ea_ en_ ec_
          subst ea_
          subst ec_
          clear en_
          have ea_:=Option.some.inj (j5.symm.trans jg)
          injection ea_ with ea_ en_ ec_
          subst ea_
          subst ec_
          clear en_
          have ea_:=Option.some.inj (j6.symm.trans jh)
          injection ea_ with ea_ en_ ec_
          subst ea_
          subst ec_
          clear en_
          have qH:0≤(j3:Int):=of_decide_eq_true bT
          have qI:j3 < (l0.length:Int):=of_decide_eq_true bT
          obtain ⟨qJ,zk,zl,zm,zn,zo,zp,zM,qK,qL,qM,qN,qO,jj,jk,jl,hl28_5,hi28_5,hl28_6,hi28_6,hl28_7,hi28_7⟩:=eY ji.out j3 qH qI
          obtain rfl:j7=qJ:=(by injection zM)
          have qP:=am hi28_5
          have qQ:=am hl28_5
          clear hi28_5 hl28_5
          have qR:=am hi28_6
          have qS:=am hl28_6
          clear hi28_6 hl28_6
          have qT:=am hi28_7
          have qU:=am hl28_7
          clear hi28_7 hl28_7
          replace qH:=eq_true qH
          replace qI:=eq_true qI
          have ea_:=Option.some.inj (j4.symm.trans jj)
          injection ea_ with ea_ en_ ec_
          subst ea_
          subst ec_
          clear en_
          have ea_:=Option.some.inj (j5.symm.trans jk)
          injection ea_ with ea_ en_ ec_
          subst ea_
          subst ec_
          clear en_
          have ea_:=Option.some.inj (j6.symm.trans jl)
          injection ea_ with ea_ en_ ec_
          subst ea_
          subst ec_
          clear en_
          have z3:0≤(j3:Int):=of_decide_eq_true bT
          have z4:j3 < (l0.length:Int):=of_decide_eq_true bT
          obtain ⟨z5,zt,zu,zv,zw,zx,zy,zU,z6,z7,z8,z9,za,jT,jU,jV,hl29_5,hi29_5,hl29_6,hi29_6,hl29_7,hi29_7⟩:=eY ji.out j3 z3 z4
          obtain rfl:j7=z5:=(by injection zU)
          have jW:=am hi29_5
          have jX:=am hl29_5
          clear hi29_5 hl29_5
          have zb:=am hi29_6
          have zc:=am hl29_6
          clear hi29_6 hl29_6
          have zd:=am hi29_7
          have ze:=am hl29_7
          clear hi29_7 hl29_7
          replace z3:=eq_true z3
          replace z4:=eq_true z4
          have ea_:=Option.some.inj (j4.symm.trans jT)
          injection ea_ with ea_ en_ ec_
          subst ea_
          subst ec_
          clear en_
          have ea_:=Option.some.inj (j5.symm.trans jU)
          injection ea_ with ea_ en_ ec_
          subst ea_
          subst ec_
          clear en_
          have ea_:=Option.some.inj (j6.symm.trans jV)
          injection ea_ with ea_ en_ ec_
          subst ea_
          subst ec_
          clear en_
          go_wp2_with (first|((with_reducible refine aD (f:=35) rfl ?_);refine aU (some 66) rfl rfl Try.func35 (by kernel_rfl) rfl #[.slice jm ((aG l0 j3).f3.f2).length jn, .int .i64 (wrap64 ((wrap64 ((wrap64 ((wrap64 ((wrap64 (j8 + 1)) + 1)) + 1)) + 1)) + 1))] rfl dK ?_;(with_reducible refine (bD.calls k1 _ _ ((aG l0 j3).f3.f2) (wrap64 ((wrap64 ((wrap64 ((wrap64 ((wrap64 (j8 + 1)) + 1)) + 1)) + 1)) + 1)) zq _ (aC_ jW.out) jX.out Jl.out).mono ?_);rintro e w' ⟨rfl,⟨nd,rfl⟩⟩;refine ⟨_,rfl,?_⟩;have zz:0≤(j3:Int):=of_decide_eq_true bT;have zA:j3 < (l0.length:Int):=of_decide_eq_true bT;obtain ⟨zB,zN,zO,zP,zQ,zR,zS,Jd,zC,zD,zE,zF,zG,qw,qx,qy,hl31_5,hi31_5,hl31_6,hi31_6,hl31_7,hi31_7⟩:=eY ji.out j3 zz zA;obtain rfl:j7=zB:=(by injection Jd);have zH:=am hi31_5;have zI:=am hl31_5;clear hi31_5 hl31_5;have qz:=am hi31_6;have qA:=am hl31_6;clear hi31_6 hl31_6;have zJ:=am hi31_7;have zK:=am hl31_7;clear hi31_7 hl31_7;replace zz:=eq_true zz;replace zA:=eq_true zA;have ea_:=Option.some.inj (j4.symm.trans qw);injection ea_ with ea_ en_ ec_;subst ea_;subst ec_;clear en_;have ea_:=Option.some.inj (j5.symm.trans qx);injection ea_ with ea_ en_ ec_;subst ea_;subst ec_;clear en_;have ea_:=Option.some.inj (j6.symm.trans qy);injection ea_ with ea_ en_ ec_;subst ea_;subst ec_;clear en_)|((with_reducible refine aD (f:=19) rfl ?_);refine aU (some 75) rfl rfl Try.func19 (by kernel_rfl) rfl #[.slice jq ((aG l0 j3).f4).length jr, .int .i64 zq] rfl dK ?_;(with_reducible refine (ih k1 (by have:=zT.out;omega) _ _ ((aG l0 j3).f4) zq zL _ (aC_ qz.out) qA.out Jx.out).mono ?_);rintro e w' ⟨rfl,⟨nd,rfl⟩⟩;refine ⟨_,rfl,?_⟩;have zV:0≤(j3:Int):=of_decide_eq_true bT;have zW:j3 < (l0.length:Int):=of_decide_eq_true bT;obtain ⟨zX,Jf,Jg,Jh,Ji,Jj,Jk,Jy,zY,zZ,J0,J1,J2,zf,zg,zh,hl33_5,hi33_5,hl33_6,hi33_6,hl33_7,hi33_7⟩:=eY ji.out j3 zV zW;obtain rfl:j7=zX:=(by injection Jy);have J3:=am hi33_5;have J4:=am hl33_5;clear hi33_5 hl33_5;have J5:=am hi33_6;have J6:=am hl33_6;clear hi33_6 hl33_6;have zi:=am hi33_7;have zj:=am hl33_7;clear hi33_7 hl33_7;replace zV:=eq_true zV;replace zW:=eq_true zW;have ea_:=Option.some.inj (j4.symm.trans zf);injection ea_ with ea_ en_ ec_;subst ea_;subst ec_;clear en_;have ea_:=Option.some.inj (j5.symm.trans zg);injection ea_ with ea_ en_ ec_;subst ea_;subst ec_;clear en_;have ea_:=Option.some.inj (j6.symm.trans zh);injection ea_ with ea_ en_ ec_;subst ea_;subst ec_;clear en_)|((with_reducible refine aD (f:=19) rfl ?_);refine aU (some 84) rfl rfl Try.func19 (by kernel_rfl) rfl #[.slice jD ((aG l0 j3).f5).length jE, .int .i64 zL] rfl dK ?_;(with_reducible refine (ih k1 (by have:=zT.out;omega) _ _ ((aG l0 j3).f5) zL J9 _ (aC_ zi.out) zj.out JB.out).mono ?_);rintro e w' ⟨rfl,⟨nd,rfl⟩⟩;refine ⟨_,rfl,?_⟩))
          go_roundg k1
          case measure=>have:=zT.out;omega
          case rel=>exact ⟨(J9),(wrap64 (j3 + 1)),sd_,sd_,H',⟨by have:=zT.out;omega⟩,fF⟩
         rw [if_neg c9] at H
         have Jv:(((aG l0 j3).f3.f1) == (wrap64 ((wrap64 ((wrap64 ((wrap64 (j8 + 1)) + 1)) + 1)) + 1)))=false:=beq_eq_false_iff_ne.mpr c9
         have Jw:(((aG l0 j3).f3.f1) != (wrap64 ((wrap64 ((wrap64 ((wrap64 (j8 + 1)) + 1)) + 1)) + 1)))=true:=bne_iff_ne.mpr c9
         obtain rfl:=Option.some.inj H
         have jo:0≤(j3:Int):=of_decide_eq_true bT
         have jp:j3 < (l0.length:Int):=of_decide_eq_true bT
         obtain ⟨j7,jm,jn,jq,jr,jD,jE,qV,js,jt,ju,jv,jw,j4,j5,j6,hl24_5,hi24_5,hl24_6,hi24_6,hl24_7,hi24_7⟩:=eY ji.out j3 jo jp
         cases qV
         have jx:=am hi24_5
         have jy:=am hl24_5
         clear hi24_5 hl24_5
         have jz:=am hi24_6
         have jA:=am hl24_6
         clear hi24_6 hl24_6
         have jB:=am hi24_7
         have jC:=am hl24_7
         clear hi24_7 hl24_7
         replace jo:=eq_true jo
         replace jp:=eq_true jp
         have jF:0≤(j3:Int):=of_decide_eq_true bT
         have jG:j3 < (l0.length:Int):=of_decide_eq_true bT
         obtain ⟨jH,qc,qd,qe,qf,qg,qh,z2,jI,jJ,jK,jL,jM,j9,ja,jb,hl25_5,hi25_5,hl25_6,hi25_6,hl25_7,hi25_7⟩:=eY ji.out j3 jF jG
         obtain rfl:j7=jH:=(by injection z2)
         have jN:=am hi25_5
         have jO:=am hl25_5
         clear hi25_5 hl25_5
         have jP:=am hi25_6
         have jQ:=am hl25_6
         clear hi25_6 hl25_6
         have jR:=am hi25_7
         have jS:=am hl25_7
         clear hi25_7 hl25_7
         replace jF:=eq_true jF
         replace jG:=eq_true jG
         have ea_:=Option.some.inj (j4.symm.trans j9)
         injection ea_ with ea_ en_ ec_
         subst ea_
         subst ec_
         clear en_
         have ea_:=Option.some.inj (j5.symm.trans ja)
         injection ea_ with ea_ en_ ec_
         subst ea_
         subst ec_
         clear en_
         have ea_:=Option.some.inj (j6.symm.trans jb)
         injection ea_ with ea_ en_ ec_
         subst ea_
         subst ec_
         clear en_
         have jY:0≤(j3:Int):=of_decide_eq_true bT
         have jZ:j3 < (l0.length:Int):=of_decide_eq_true bT
         obtain ⟨q0,qB,qC,qD,qE,qF,qG,zr,q1,q2,q3,q4,q5,jc,jd,je,hl26_5,hi26_5,hl26_6,hi26_6,hl26_7,hi26_7⟩:=eY ji.out j3 jY jZ
         obtain rfl:j7=q0:=(by injection zr)
         have q6:=am hi26_5
         have q7:=am hl26_5
         clear hi26_5 hl26_5
         have q8:=am hi26_6
         have q9:=am hl26_6
         clear hi26_6 hl26_6
         have qa:=am hi26_7
         have qb:=am hl26_7
         clear hi26_7 hl26_7
         replace jY:=eq_true jY
         replace jZ:=eq_true jZ
         have ea_:=Option.some.inj (j4.symm.trans jc)
         injection ea_ with ea_ en_ ec_
         subst ea_
         subst ec_
         clear en_
         have ea_:=Option.some.inj (j5.symm.trans jd)
         injection ea_ with ea_ en_ ec_
         subst ea_
         subst ec_
         clear en_
         have ea_:=Option.some.inj (j6.symm.trans je)
         injection ea_ with ea_ en_ ec_
         subst ea_
         subst ec_
         clear en_
         have qi:0≤(j3:Int):=of_decide_eq_true bT
         have qj:j3 < (l0.length:Int):=of_decide_eq_true bT
         obtain ⟨qk,qW,qX,qY,qZ,z0,z1,zs,ql,qm,qn,qo,qp,jf,jg,jh,hl27_5,hi27_5,hl27_6,hi27_6,hl27_7,hi27_7⟩:=eY ji.out j3 qi qj
         obtain rfl:j7=qk:=(by injection zs)
         have qq:=am hi27_5
         have qr:=am hl27_5
         clear hi27_5 hl27_5
         have qs:=am hi27_6
         have qt:=am hl27_6
         clear hi27_6 hl27_6
         have qu:=am hi27_7
         have qv:=am hl27_7
         clear hi27_7 hl27_7
         replace qi:=eq_true qi
         replace qj:=eq_true qj
         have ea_:=Option.some.inj (j4.symm.trans jf)
         injection ea_ with ea_ en_ ec_
         subst ea_
         subst ec_
         clear en_
         have ea_:=Option.some.inj (j5.symm.trans jg)
         injection ea_ with ea_ en_ ec_
         subst ea_
         subst ec_
         clear en_
         have ea_:=Option.some.inj (j6.symm.trans jh)
         injection ea_ with ea_ en_ ec_
         subst ea_
         subst ec_
         clear en_
         have qH:0≤(j3:Int):=of_decide_eq_true bT
         have qI:j3 < (l0.length:Int):=of_decide_eq_true bT
         obtain ⟨qJ,zk,zl,zm,zn,zo,zp,zM,qK,qL,qM,qN,qO,jj,jk,jl,hl28_5,hi28_5,hl28_6,hi28_6,hl28_7,hi28_7⟩:=eY ji.out j3 qH qI
         obtain rfl:j7=qJ:=(by injection zM)
         have qP:=am hi28_5
         have qQ:=am hl28_5
         clear hi28_5 hl28_5
         have qR:=am hi28_6
         have qS:=am hl28_6
         clear hi28_6 hl28_6
         have qT:=am hi28_7
         have qU:=am hl28_7
         clear hi28_7 hl28_7
         replace qH:=eq_true qH
         replace qI:=eq_true qI
         have ea_:=Option.some.inj (j4.symm.trans jj)
         injection ea_ with ea_ en_ ec_
         subst ea_
         subst ec_
         clear en_
         have ea_:=Option.some.inj (j5.symm.trans jk)
         injection ea_ with ea_ en_ ec_
         subst ea_
         subst ec_
         clear en_
         have ea_:=Option.some.inj (j6.symm.trans jl)
         injection ea_ with ea_ en_ ec_
         subst ea_
         subst ec_
         clear en_
         go_wp2
         go_ret
         exact ⟨sd_,fF⟩
        rw [if_neg c8] at H
        have Jt:(((aG l0 j3).f3.f0) == (wrap64 ((wrap64 ((wrap64 (j8 + 1)) + 1)) + 1)))=false:=beq_eq_false_iff_ne.mpr c8
        have Ju:(((aG l0 j3).f3.f0) != (wrap64 ((wrap64 ((wrap64 (j8 + 1)) + 1)) + 1)))=true:=bne_iff_ne.mpr c8
        obtain rfl:=Option.some.inj H
        have jo:0≤(j3:Int):=of_decide_eq_true bT
        have jp:j3 < (l0.length:Int):=of_decide_eq_true bT
        obtain ⟨j7,jm,jn,jq,jr,jD,jE,qV,js,jt,ju,jv,jw,j4,j5,j6,hl24_5,hi24_5,hl24_6,hi24_6,hl24_7,hi24_7⟩:=eY ji.out j3 jo jp
        cases qV
        have jx:=am hi24_5
        have jy:=am hl24_5
        clear hi24_5 hl24_5
        have jz:=am hi24_6
        have jA:=am hl24_6
        clear hi24_6 hl24_6
        have jB:=am hi24_7
        have jC:=am hl24_7
        clear hi24_7 hl24_7
        replace jo:=eq_true jo
        replace jp:=eq_true jp
        have jF:0≤(j3:Int):=of_decide_eq_true bT
        have jG:j3 < (l0.length:Int):=of_decide_eq_true bT
        obtain ⟨jH,qc,qd,qe,qf,qg,qh,z2,jI,jJ,jK,jL,jM,j9,ja,jb,hl25_5,hi25_5,hl25_6,hi25_6,hl25_7,hi25_7⟩:=eY ji.out j3 jF jG
        obtain rfl:j7=jH:=(by injection z2)
        have jN:=am hi25_5
        have jO:=am hl25_5
        clear hi25_5 hl25_5
        have jP:=am hi25_6
        have jQ:=am hl25_6
        clear hi25_6 hl25_6
        have jR:=am hi25_7
        have jS:=am hl25_7
        clear hi25_7 hl25_7
        replace jF:=eq_true jF
        replace jG:=eq_true jG
        have ea_:=Option.some.inj (j4.symm.trans j9)
        injection ea_ with ea_ en_ ec_
        subst ea_
        subst ec_
        clear en_
        have ea_:=Option.some.inj (j5.symm.trans ja)
        injection ea_ with ea_ en_ ec_
        subst ea_
        subst ec_
        clear en_
        have ea_:=Option.some.inj (j6.symm.trans jb)
        injection ea_ with ea_ en_ ec_
        subst ea_
        subst ec_
        clear en_
        have jY:0≤(j3:Int):=of_decide_eq_true bT
        have jZ:j3 < (l0.length:Int):=of_decide_eq_true bT
        obtain ⟨q0,qB,qC,qD,qE,qF,qG,zr,q1,q2,q3,q4,q5,jc,jd,je,hl26_5,hi26_5,hl26_6,hi26_6,hl26_7,hi26_7⟩:=eY ji.out j3 jY jZ
        obtain rfl:j7=q0:=(by injection zr)
        have q6:=am hi26_5
        have q7:=am hl26_5
        clear hi26_5 hl26_5
        have q8:=am hi26_6
        have q9:=am hl26_6
        clear hi26_6 hl26_6
        have qa:=am hi26_7
        have qb:=am hl26_7
        clear hi26_7 hl26_7
        replace jY:=eq_true jY
        replace jZ:=eq_true jZ
        have ea_:=Option.some.inj (j4.symm.trans jc)
        injection ea_ with ea_ en_ ec_
        subst ea_
        subst ec_
        clear en_
        have ea_:=Option.some.inj (j5.symm.trans jd)
        injection ea_ with ea_ en_ ec_
        subst ea_
        subst ec_
        clear en_
        have ea_:=Option.some.inj (j6.symm.trans je)
        injection ea_ with ea_ en_ ec_
        subst ea_
        subst ec_
        clear en_
        have qi:0≤(j3:Int):=of_decide_eq_true bT
        have qj:j3 < (l0.length:Int):=of_decide_eq_true bT
        obtain ⟨qk,qW,qX,qY,qZ,z0,z1,zs,ql,qm,qn,qo,qp,jf,jg,jh,hl27_5,hi27_5,hl27_6,hi27_6,hl27_7,hi27_7⟩:=eY ji.out j3 qi qj
        obtain rfl:j7=qk:=(by injection zs)
        have qq:=am hi27_5
        have qr:=am hl27_5
        clear hi27_5 hl27_5
        have qs:=am hi27_6
        have qt:=am hl27_6
        clear hi27_6 hl27_6
        have qu:=am hi27_7
        have qv:=am hl27_7
        clear hi27_7 hl27_7
        replace qi:=eq_true qi
        replace qj:=eq_true qj
        have ea_:=Option.some.inj (j4.symm.trans jf)
        injection ea_ with ea_ en_ ec_
        subst ea_
        subst ec_
        clear en_
        have ea_:=Option.some.inj (j5.symm.trans jg)
        injection ea_ with ea_ en_ ec_
        subst ea_
        subst ec_
        clear en_
        have ea_:=Option.some.inj (j6.symm.trans jh)
        injection ea_ with ea_ en_ ec_
        subst ea_
        subst ec_
        clear en_
        go_wp2
        go_ret
        exact ⟨sd_,fF⟩
       rw [if_neg c7] at H
       have Jr:(((aG l0 j3).f2) == (wrap64 ((wrap64 (j8 + 1)) + 1)))=false:=beq_eq_false_iff_ne.mpr c7
       have Js:(((aG l0 j3).f2) != (wrap64 ((wrap64 (j8 + 1)) + 1)))=true:=bne_iff_ne.mpr c7
       obtain rfl:=Option.some.inj H
       have jo:0≤(j3:Int):=of_decide_eq_true bT
       have jp:j3 < (l0.length:Int):=of_decide_eq_true bT
       obtain ⟨j7,jm,jn,jq,jr,jD,jE,qV,js,jt,ju,jv,jw,j4,j5,j6,hl24_5,hi24_5,hl24_6,hi24_6,hl24_7,hi24_7⟩:=eY ji.out j3 jo jp
       cases qV
       have jx:=am hi24_5
       have jy:=am hl24_5
       clear hi24_5 hl24_5
       have jz:=am hi24_6
       have jA:=am hl24_6
       clear hi24_6 hl24_6
       have jB:=am hi24_7
       have jC:=am hl24_7
       clear hi24_7 hl24_7
       replace jo:=eq_true jo
       replace jp:=eq_true jp
       have jF:0≤(j3:Int):=of_decide_eq_true bT
       have jG:j3 < (l0.length:Int):=of_decide_eq_true bT
       obtain ⟨jH,qc,qd,qe,qf,qg,qh,z2,jI,jJ,jK,jL,jM,j9,ja,jb,hl25_5,hi25_5,hl25_6,hi25_6,hl25_7,hi25_7⟩:=eY ji.out j3 jF jG
       obtain rfl:j7=jH:=(by injection z2)
       have jN:=am hi25_5
       have jO:=am hl25_5
       clear hi25_5 hl25_5
       have jP:=am hi25_6
       have jQ:=am hl25_6
       clear hi25_6 hl25_6
       have jR:=am hi25_7
       have jS:=am hl25_7
       clear hi25_7 hl25_7
       replace jF:=eq_true jF
       replace jG:=eq_true jG
       have ea_:=Option.some.inj (j4.symm.trans j9)
       injection ea_ with ea_ en_ ec_
       subst ea_
       subst ec_
       clear en_
       have ea_:=Option.some.inj (j5.symm.trans ja)
       injection ea_ with ea_ en_ ec_
       subst ea_
       subst ec_
       clear en_
       have ea_:=Option.some.inj (j6.symm.trans jb)
       injection ea_ with ea_ en_ ec_
       subst ea_
       subst ec_
       clear en_
       have jY:0≤(j3:Int):=of_decide_eq_true bT
       have jZ:j3 < (l0.length:Int):=of_decide_eq_true bT
       obtain ⟨q0,qB,qC,qD,qE,qF,qG,zr,q1,q2,q3,q4,q5,jc,jd,je,hl26_5,hi26_5,hl26_6,hi26_6,hl26_7,hi26_7⟩:=eY ji.out j3 jY jZ
       obtain rfl:j7=q0:=(by injection zr)
       have q6:=am hi26_5
       have q7:=am hl26_5
       clear hi26_5 hl26_5
       have q8:=am hi26_6
       have q9:=am hl26_6
       clear hi26_6 hl26_6
       have qa:=am hi26_7
       have qb:=am hl26_7
       clear hi26_7 hl26_7
       replace jY:=eq_true jY
       replace jZ:=eq_true jZ
       have ea_:=Option.some.inj (j4.symm.trans jc)
       injection ea_ with ea_ en_ ec_
       subst ea_
       subst ec_
       clear en_
       have ea_:=Option.some.inj (j5.symm.trans jd)
       injection ea_ with ea_ en_ ec_
       subst ea_
       subst ec_
       clear en_
       have ea_:=Option.some.inj (j6.symm.trans je)
       injection ea_ with ea_ en_ ec_
       subst ea_
       subst ec_
       clear en_
       go_wp2
       go_ret
       exact ⟨sd_,fF⟩
      rw [if_neg c6] at H
      have Jp:(((aG l0 j3).f1) == (wrap64 (j8 + 1)))=false:=beq_eq_false_iff_ne.mpr c6
      have Jq:(((aG l0 j3).f1) != (wrap64 (j8 + 1)))=true:=bne_iff_ne.mpr c6
      obtain rfl:=Option.some.inj H
      have jo:0≤(j3:Int):=of_decide_eq_true bT
      have jp:j3 < (l0.length:Int):=of_decide_eq_true bT
      obtain ⟨j7,jm,jn,jq,jr,jD,jE,qV,js,jt,ju,jv,jw,j4,j5,j6,hl24_5,hi24_5,hl24_6,hi24_6,hl24_7,hi24_7⟩:=eY ji.out j3 jo jp
      cases qV
      have jx:=am hi24_5
      have jy:=am hl24_5
      clear hi24_5 hl24_5
      have jz:=am hi24_6
      have jA:=am hl24_6
      clear hi24_6 hl24_6
      have jB:=am hi24_7
      have jC:=am hl24_7
      clear hi24_7 hl24_7
      replace jo:=eq_true jo
      replace jp:=eq_true jp
      have jF:0≤(j3:Int):=of_decide_eq_true bT
      have jG:j3 < (l0.length:Int):=of_decide_eq_true bT
      obtain ⟨jH,qc,qd,qe,qf,qg,qh,z2,jI,jJ,jK,jL,jM,j9,ja,jb,hl25_5,hi25_5,hl25_6,hi25_6,hl25_7,hi25_7⟩:=eY ji.out j3 jF jG
      obtain rfl:j7=jH:=(by injection z2)
      have jN:=am hi25_5
      have jO:=am hl25_5
      clear hi25_5 hl25_5
      have jP:=am hi25_6
      have jQ:=am hl25_6
      clear hi25_6 hl25_6
      have jR:=am hi25_7
      have jS:=am hl25_7
      clear hi25_7 hl25_7
      replace jF:=eq_true jF
      replace jG:=eq_true jG
      have ea_:=Option.some.inj (j4.symm.trans j9)
      injection ea_ with ea_ en_ ec_
      subst ea_
      subst ec_
      clear en_
      have ea_:=Option.some.inj (j5.symm.trans ja)
      injection ea_ with ea_ en_ ec_
      subst ea_
      subst ec_
      clear en_
      have ea_:=Option.some.inj (j6.symm.trans jb)
      injection ea_ with ea_ en_ ec_
      subst ea_
      subst ec_
      clear en_
      go_wp2
      go_ret
      exact ⟨sd_,fF⟩
     rw [if_neg c5] at H
     have Jn:(((aG l0 j3).f0) == j8)=false:=beq_eq_false_iff_ne.mpr c5
     have Jo:(((aG l0 j3).f0) != j8)=true:=bne_iff_ne.mpr c5
     obtain rfl:=Option.some.inj H
     have jo:0≤(j3:Int):=of_decide_eq_true bT
     have jp:j3 < (l0.length:Int):=of_decide_eq_true bT
     obtain ⟨j7,jm,jn,jq,jr,jD,jE,qV,js,jt,ju,jv,jw,j4,j5,j6,hl24_5,hi24_5,hl24_6,hi24_6,hl24_7,hi24_7⟩:=eY ji.out j3 jo jp
     cases qV
     have jx:=am hi24_5
     have jy:=am hl24_5
     clear hi24_5 hl24_5
     have jz:=am hi24_6
     have jA:=am hl24_6
     clear hi24_6 hl24_6
     have jB:=am hi24_7
     have jC:=am hl24_7
     clear hi24_7 hl24_7
     replace jo:=eq_true jo
     replace jp:=eq_true jp
     go_wp2
     go_ret
     exact ⟨sd_,fF⟩
    rw [if_neg c4] at H
    exact absurd H (by simp)
   rw [if_neg c3] at H
   have Jm:decide (j3 < (l0.length:Int))=false:=decide_eq_false c3
   clear c3
   obtain rfl:=Option.some.inj H
   go_wp2
   go_ret
   exact ⟨sd_,fF⟩
theorem bW.mono_l:∀ k,(∀ y0 y1 y2,LeO (bW.l0 k y0 y1 y2) (bW.l0 (k + 1) y0 y1 y2))
 |0=>fun _ _ _ r h=>by simp [bW.l0] at h
 |k + 1=>by
  have ih0:=bW.mono_l k
  ·intro y0 y1 y2
   unfold bW.l0
   have m0:=@bN.mono
   exact mo_
theorem bW.mono:∀ a0 a1 k,LeO (bW.f k a0 a1) (bW.f (k + 1) a0 a1):=by
 intro a0 a1 k
 have ih0:=bW.mono_l k
 unfold bW.f
 have m0:=@bN.mono
 exact mo_
theorem bW.calls (k:Nat) (A0:Option Addr) (c0:Nat) (l0:List (List (S70))) (a1:Int) (r:Int) (w:World) (hr0:Kd.C (Kd.slice 70 k70) w A0 l0.length l0) (hc0:l0.length≤c0) (h:bW.f k l0 a1=some r):
  Calls Try.prog 55 #[.slice A0 l0.length c0, .int .i64 a1] w fun e w'=>e= .returned (.int .i64 r)∧fV w w':=by
 have jh:=am hr0
 have jk:=am hc0
 clear hr0 hc0
 have H:(bW.l0 k l0 a1 0)=some r:=h
 clear h
 have H':=am H
 clear H
 go_enter Try.func55,Try.ntmps55
 go_wp2
 go_loopg [1,5] k (fun kq v1 v5 w'=>∃ (j4:Int) (j3:Int),v1= .int .i64 j4∧v5= .int .i64 j3∧Aside0 (bW.l0 kq l0 j4 j3=some r)∧Aside0 (kq≤k)∧fV w w')
 case atStart=>exact ⟨(a1),(0),sd_,sd_,H',⟨Nat.le_refl _⟩,fF⟩
 case round=>
  clear H'
  obtain ⟨j4,j3,rfl,rfl,HA,ji,⟨m1,rfl⟩⟩:=hrel
  cases gk with
  |zero=>exact absurd HA.out (by simp [bW.l0])
  |succ k1=>
   have H:=HA.out
   clear HA
   simp only [bW.l0] at H
   by_cases c3:j3 < (l0.length:Int)
   ·rw [if_pos c3] at H
    have jd:decide (j3 < (l0.length:Int))=true:=decide_eq_true c3
    clear c3
    by_cases c4:0≤j3
    ·rw [if_pos c4] at H
     have jj:decide (0≤j3)=true:=decide_eq_true c4
     clear c4
     obtain ⟨jc,A5,H⟩:=bsa H
     (try dsimp only at H)
     by_cases c6:jc < 0
     ·rw [if_pos c6] at H
      have je:decide (jc < 0)=true:=decide_eq_true c6
      clear c6
      obtain rfl:=Option.some.inj H
      have j9:0≤(j3:Int):=of_decide_eq_true bT
      have ja:j3 < (l0.length:Int):=of_decide_eq_true bT
      obtain ⟨jf,j7,j8,jg,jb,hl21_0,hi21_0⟩:=nY jh.out j3 j9 ja
      cases jg
      have j5:=am hi21_0
      have j6:=am hl21_0
      clear hi21_0 hl21_0
      replace j9:=eq_true j9
      replace ja:=eq_true ja
      go_wp2_with (first|((with_reducible refine aD (f:=19) rfl ?_);refine aU (some 17) rfl rfl Try.func19 (by kernel_rfl) rfl #[.slice j7 (fU l0 j3).length j8, .int .i64 j4] rfl dK ?_;(with_reducible refine (bN.calls k1 _ _ (fU l0 j3) j4 jc _ (aC_ j5.out) j6.out A5.out).mono ?_);rintro e w' ⟨rfl,⟨nd,rfl⟩⟩;refine ⟨_,rfl,?_⟩))
      go_ret
      exact ⟨sd_,fF⟩
     rw [if_neg c6] at H
     have je:decide (jc < 0)=false:=decide_eq_false c6
     clear c6
     have H':=am H
     clear H
     have j9:0≤(j3:Int):=of_decide_eq_true bT
     have ja:j3 < (l0.length:Int):=of_decide_eq_true bT
     obtain ⟨jf,j7,j8,jg,jb,hl21_0,hi21_0⟩:=nY jh.out j3 j9 ja
     cases jg
     have j5:=am hi21_0
     have j6:=am hl21_0
     clear hi21_0 hl21_0
     replace j9:=eq_true j9
     replace ja:=eq_true ja
     go_wp2_with (first|((with_reducible refine aD (f:=19) rfl ?_);refine aU (some 17) rfl rfl Try.func19 (by kernel_rfl) rfl #[.slice j7 (fU l0 j3).length j8, .int .i64 j4] rfl dK ?_;(with_reducible refine (bN.calls k1 _ _ (fU l0 j3) j4 jc _ (aC_ j5.out) j6.out A5.out).mono ?_);rintro e w' ⟨rfl,⟨nd,rfl⟩⟩;refine ⟨_,rfl,?_⟩))
     go_roundg k1
     case measure=>have:=ji.out;omega
     case rel=>exact ⟨(jc),(wrap64 (j3 + 1)),sd_,sd_,H',⟨by have:=ji.out;omega⟩,fF⟩
    rw [if_neg c4] at H
    exact absurd H (by simp)
   rw [if_neg c3] at H
   have jd:decide (j3 < (l0.length:Int))=false:=decide_eq_false c3
   clear c3
   obtain rfl:=Option.some.inj H
   go_wp2
   go_ret
   exact ⟨sd_,fF⟩
theorem fP.mono:∀ a0 a1 a2 k,LeO (fP.f k a0 a1 a2) (fP.f (k + 1) a0 a1 a2):=by
 intro a0 a1 a2 k
 unfold fP.f
 have m0:=@dH.mono
 have m1:=@bW.mono
 exact mo_
theorem fP.calls (k:Nat) (j7:Option Addr) (j8:Nat) (j4:List Int) (j5:Option Addr) (j6:Nat) (j3:List (List (S70))) (a1:Int) (r:Int) (w:World) (hr0_0:Kd.C (Kd.int .i64) w j7 j4.length j4) (hc0_0:j4.length≤j8) (hr0_1:Kd.C (Kd.slice 70 k70) w j5 j3.length j3) (hc0_1:j3.length≤j6) (h:fP.f k j4 j3 a1=some r):
  Calls Try.prog 26 #[.agg #[.slice j7 j4.length j8, .slice j5 j3.length j6], .int .i64 a1] w fun e w'=>e= .returned (.int .i64 r)∧Below w.heap.size w w':=by
 have hu51:=Try.underlying51
 have jc:=am hr0_0
 have jd:=am hc0_0
 clear hr0_0 hc0_0
 have j9:=am hr0_1
 have ja:=am hc0_1
 clear hr0_1 hc0_1
 have HB:=am (Below.refl w.heap.size w)
 unfold fP.f at h
 have H:=h
 clear h
 obtain ⟨jb,A3,H⟩:=bsa H
 (try dsimp only at H)
 have HH_:=am H
 clear H
 go_enter Try.func26,Try.ntmps26
 go_upto_region 2 with (first|((with_reducible refine bJ (N:=2) rfl ?_);refine bR rfl (N:=2) rfl (cs:=#[.slice j7 j4.length j8, .slice j5 j3.length j6]) (t:=51) rn_ ?_;intro je hg w5 hbox hb;have jg:=am (hbox);have jn:=am ((by rw [hg];exact (aN dN):w.heap.size≤je));have GE22:=am ((by rw [hg];exact (aN dN):w.heap.size≤je));replace HB:=am (aC dN hb);clear hb hbox hg;obtain ⟨jh,ji,jj,jk⟩:=iP jg.out)|((with_reducible refine aD (f:=54) rfl ?_);refine aU (some 8) rfl rfl Try.func54 (by kernel_rfl) rfl #[.slice j7 j4.length j8, .int .i64 a1] rfl dK ?_;(with_reducible refine (dH.calls k _ _ j4 a1 jb _ (aC_ (Kd.aI jc.out HB.out)) jd.out A3.out).mono ?_);rintro e w' ⟨rfl,⟨nd,rfl⟩⟩;refine ⟨_,rfl,?_⟩))
 have H:=HH_.out
 clear HH_
 by_cases c4:jb < 0
 ·rw [if_pos c4] at H
  have jl:decide (jb < 0)=true:=decide_eq_true c4
  clear c4
  obtain rfl:=Option.some.inj H
  go_wp2
  go_ret
  exact ⟨rr_,lN⟩
 rw [if_neg c4] at H
 have jl:decide (jb < 0)=false:=decide_eq_false c4
 clear c4
 obtain ⟨jf,A7,H⟩:=bsa H
 (try dsimp only at H)
 by_cases c8:jf < 0
 ·rw [if_pos c8] at H
  have jm:decide (jf < 0)=true:=decide_eq_true c8
  clear c8
  obtain rfl:=Option.some.inj H
  go_wp2_with (first|((with_reducible refine aD (f:=55) rfl ?_);refine aU (some 14) rfl rfl Try.func55 (by kernel_rfl) rfl #[.slice j5 j3.length j6, .int .i64 jb] rfl dK ?_;(with_reducible refine (bW.calls k _ _ j3 jb jf _ (aC_ (Kd.aI j9.out lN)) ja.out A7.out).mono ?_);rintro e w' ⟨rfl,⟨nd,rfl⟩⟩;refine ⟨_,rfl,?_⟩))
  go_ret
  exact ⟨rr_,lN⟩
 rw [if_neg c8] at H
 have jm:decide (jf < 0)=false:=decide_eq_false c8
 clear c8
 obtain rfl:=Option.some.inj H
 go_wp2_with (first|((with_reducible refine aD (f:=55) rfl ?_);refine aU (some 14) rfl rfl Try.func55 (by kernel_rfl) rfl #[.slice j5 j3.length j6, .int .i64 jb] rfl dK ?_;(with_reducible refine (bW.calls k _ _ j3 jb jf _ (aC_ (Kd.aI j9.out lN)) ja.out A7.out).mono ?_);rintro e w' ⟨rfl,⟨nd,rfl⟩⟩;refine ⟨_,rfl,?_⟩))
 go_ret
 exact ⟨rr_,lN⟩
attribute [local go_sem] max2_int min2_int max_two min_two max_three min_three max_four min_four
set_option linter.unusedVariables false
set_option linter.unusedSimpArgs false
set_option linter.unusedVariables false
structure AJ (W0:World) (xr:List Int) (xt:List (List S70)) (A43r:Option Addr) (c43r:Nat) (A43t:Option Addr) (c43t:Nat) (b2:Bool) (W:World):Prop where
 hB:Below W0.heap.size W0 W
 hC:b2=true→Kd.C (Kd.int .i64) W A43r xr.length xr∧xr.length≤c43r∧Kd.C (Kd.slice 70 k70) W A43t xt.length xt∧xt.length≤c43t
def gV (W0:World) (d1 d4 d6 d7:Nat) (left:Int) (gb:Bool) (A:Option Addr) (c:Nat) (l:List Int) (B:Option Addr) (d:Nat) (tl:List (List S66)) (Axr:Option Addr) (cxr:Nat) (xr:List Int) (Axt:Option Addr) (cxt:Nat) (xt:List (List S70)) (Avr:Option Addr) (cvr:Nat) (vr:List Int) (Avt:Option Addr) (cvt:Nat) (vt:List (List S70)) (Agr:Option Addr) (cgr:Nat) (gr:List Int) (Agt:Option Addr) (cgt:Nat) (gt:List (List S70)) (Ayr:Option Addr) (cyr:Nat) (Ayt:Option Addr) (cyt:Nat) (A43r:Option Addr) (c43r:Nat) (A43t:Option Addr) (c43t:Nat) (b0 b1 b2 b3 b4:Bool):Act:=
 { tmps:=#[(.agg #[(.slice A l.length c),(.slice B tl.length d)]),(.pointer (some ⟨d1,0,none⟩)),(.bool false),(.int .i64 left),(.pointer (some ⟨d4,0,none⟩)),(.bool gb),(.pointer (some ⟨d6,0,none⟩)),(.pointer (some ⟨d7,0,none⟩)),(.bool gb),undef,undef,undef,undef,undef,(.agg #[(.slice A l.length c),(.slice B tl.length d)]),(.int .i64 1048576),(.int .i64 left),(.int .i64 left),(.bool false),(.tuple #[(.agg #[(.slice Avr vr.length cvr),(.slice Avt vt.length cvt)]), .bool gb]),(.agg #[(.slice A l.length c),(.slice B tl.length d)]),(.agg #[(.slice Ayr xr.length cyr),(.slice Ayt xt.length cyt)]),(.tuple #[(.agg #[(.slice Avr vr.length cvr),(.slice Avt vt.length cvt)]), .bool gb]),(.agg #[(.slice Avr vr.length cvr),(.slice Avt vt.length cvt)]),(.bool gb),(.agg #[(.slice A l.length c),(.slice B tl.length d)]),(.agg #[(.slice Axr xr.length cxr),(.slice Axt xt.length cxt)]),(.tuple #[(.agg #[(.slice Agr gr.length cgr),(.slice Agt gt.length cgt)]), .bool gb]),(.agg #[(.slice Axr xr.length cxr),(.slice Axt xt.length cxt)]),(.tuple #[(.agg #[(.slice Agr gr.length cgr),(.slice Agt gt.length cgt)]), .bool gb]),(.agg #[(.slice Agr gr.length cgr),(.slice Agt gt.length cgt)]),(.bool gb),(.agg #[(.slice Agr gr.length cgr),(.slice Agt gt.length cgt)]),(.agg #[(.slice Avr vr.length cvr),(.slice Avt vt.length cvt)]),(.bool true),(.bool false),(.bool false),(.bool gb),(.bool gb),(.bool false),(.bool false),cond b0 (.agg #[(.slice Axr xr.length cxr),(.slice Axt xt.length cxt)]) undef,cond b1 (.agg #[(.slice A l.length c),(.slice B tl.length d)]) undef,cond b2 (.agg #[(.slice A43r xr.length c43r),(.slice A43t xt.length c43t)]) undef,cond b3 (.bool true) undef,cond b4 (.bool false) undef,undef,undef,undef,undef,undef,undef,undef,undef,undef,undef,undef,undef,undef,undef,undef,undef,undef,undef,undef,undef,undef,undef,undef,undef,undef,undef,undef,undef,undef,undef,undef,undef,undef,undef,undef,undef,undef,undef,undef,undef,undef,undef,undef,undef,undef,undef,undef,undef,undef,undef],defers:=[] }
def tC (W0:World) (d1 d4 d6 d7:Nat) (left:Int) (gb:Bool) (A:Option Addr) (c:Nat) (l:List Int) (B:Option Addr) (d:Nat) (tl:List (List S66)) (Axr:Option Addr) (cxr:Nat) (xr:List Int) (Axt:Option Addr) (cxt:Nat) (xt:List (List S70)) (Avr:Option Addr) (cvr:Nat) (vr:List Int) (Avt:Option Addr) (cvt:Nat) (vt:List (List S70)) (Agr:Option Addr) (cgr:Nat) (gr:List Int) (Agt:Option Addr) (cgt:Nat) (gt:List (List S70)) (Ayr:Option Addr) (cyr:Nat) (Ayt:Option Addr) (cyt:Nat) (b0 b1 b2 b3 b4:Bool) (a:Act) (W:World):Prop:=
 ∃ (A43r:Option Addr) (c43r:Nat) (A43t:Option Addr) (c43t:Nat),a=gV W0 d1 d4 d6 d7 left gb A c l B d tl Axr cxr xr Axt cxt xt Avr cvr vr Avt cvt vt Agr cgr gr Agt cgt gt Ayr cyr Ayt cyt A43r c43r A43t c43t b0 b1 b2 b3 b4∧AJ W0 xr xt A43r c43r A43t c43t b2 W
theorem fI.calls (k:Nat) (A:Option Addr) (c:Nat) (l:List Int) (B:Option Addr) (d:Nat) (tl:List (List S66)) (r:Bool) (w:World) (hr:Kd.C (Kd.int .i64) w A l.length l) (hl:l.length≤c) (hr1:Kd.C (Kd.slice 66 k66) w B tl.length tl) (hl1:tl.length≤d) (h:fI.f k l tl=some r):
  Calls Try.prog 5 #[(.agg #[(.slice A l.length c),(.slice B tl.length d)])] w fun e w'=>e= .returned (.bool r)∧Below w.heap.size w w':=by
 unfold fI.f at h
 replace h:=Option.bind_eq_some_iff.mp h
 obtain ⟨left,hsz,h⟩:=h
 have HR:=am hr
 have HL:=am hl
 have j8:=am hr1
 have j9:=am hl1
 clear hr hl hr1 hl1
 have HSZ:=am hsz
 have HB:=am (Below.refl w.heap.size w)
 clear hsz
 by_cases hlt:left < 0
 case pos=>
  rw [if_pos hlt] at h
  obtain rfl:=Option.some.inj h
  have c1:decide (left < 0)=true:=decide_eq_true hlt
  clear hlt
  go_enter Try.func5,Try.ntmps5
  go_wp2_with (first|((with_reducible refine bJ (N:=1) rfl ?_);refine bR rfl (N:=1) rfl (cs:=#[(.slice A l.length c),(.slice B tl.length d)]) (t:=47) rn_ ?_;intro d1 hg w1 hbox hb;have B1:=am hbox;replace HB:=am hb;clear hbox hg hb;have zB1_0:w1.cell? ⟨d1,0,none⟩=some (.slice A l.length c):=aA B1.out 0;have zB1_1:w1.cell? ⟨d1,1,none⟩=some (.slice B tl.length d):=aA B1.out 1)|((with_reducible refine aD (f:=20) rfl ?_);refine aU (some 16) rfl rfl Try.func20 (by kernel_rfl) rfl #[(.agg #[(.slice A l.length c),(.slice B tl.length d)]), .int .i64 1048576] rfl (by (try simp only [List.map_toArray,List.map_cons,List.map_nil]);first|done|rfl) ?_;(with_reducible refine (gG.calls k _ _ l _ _ tl 1048576 left _ (Kd.aI HR.out HB.out) HL.out (Kd.aI j8.out HB.out) j9.out HSZ.out).mono ?_);rintro e w2 ⟨rfl,hb⟩;refine ⟨_,rfl,?_⟩;replace B1:=am (aJ B1.out hb);replace HB:=am (aC HB.out hb);clear hb zB1_0 zB1_1;have zB1_0:w2.cell? ⟨d1,0,none⟩=some (.slice A l.length c):=aA B1.out 0;have zB1_1:w2.cell? ⟨d1,1,none⟩=some (.slice B tl.length d):=aA B1.out 1)|fail)
  go_ret
  exact ⟨rfl,HB.out⟩
 rw [if_neg hlt] at h
 have c1:decide (left < 0)=false:=decide_eq_false hlt
 clear hlt
 replace h:=Option.bind_eq_some_iff.mp h
 obtain ⟨⟨xr,xt⟩,h_,h⟩:=h
 (try dsimp only at h_ h)
 have HTO:=am h_
 clear h_
 replace h:=Option.bind_eq_some_iff.mp h
 obtain ⟨⟨vr,vt,wb⟩,h_,h⟩:=h
 (try dsimp only at h_ h)
 have HSP:=am h_
 clear h_
 replace h:=Option.bind_eq_some_iff.mp h
 obtain ⟨⟨gr,gt,gb⟩,h_,h⟩:=h
 (try dsimp only at h_ h)
 have HIM:=am h_
 clear h_
 replace h:=Option.bind_eq_some_iff.mp h
 obtain ⟨e1,h_,h⟩:=h
 (try dsimp only at h_ h)
 have HE1:=am h_
 clear h_
 by_cases q1:e1=false
 case pos=>rw [if_pos q1] at h;exact absurd h (by simp)
 rw [if_neg q1] at h
 obtain rfl:e1=true:=by simpa using q1
 by_cases q2:gb≠wb
 case pos=>rw [if_pos q2] at h;exact absurd h (by simp)
 rw [if_neg q2] at h
 obtain rfl:gb=wb:=by simpa using q2
 replace h:=Option.bind_eq_some_iff.mp h
 obtain ⟨e2,h_,h⟩:=h
 (try dsimp only at h_ h)
 have HE2:=am h_
 clear h_
 by_cases q3:e2=false
 case pos=>rw [if_pos q3] at h;exact absurd h (by simp)
 rw [if_neg q3] at h
 obtain rfl:e2=true:=by simpa using q3
 replace h:=Option.bind_eq_some_iff.mp h
 obtain ⟨⟨m1,nr,nt⟩,h_,h⟩:=h
 (try dsimp only at h_ h)
 have HM1:=am h_
 clear h_
 by_cases q4:m1 < 0
 case pos=>rw [if_pos q4] at h;exact absurd h (by simp)
 rw [if_neg q4] at h
 replace h:=Option.bind_eq_some_iff.mp h
 obtain ⟨⟨m,pr,pt⟩,h_,h⟩:=h
 (try dsimp only at h_ h)
 have HM:=am h_
 clear h_
 replace h:=Option.bind_eq_some_iff.mp h
 obtain ⟨q,h_,h⟩:=h
 (try dsimp only at h_ h)
 have HQ:=am h_
 clear h_
 by_cases q5:q < 0
 case pos=>rw [if_pos q5] at h;exact absurd h (by simp)
 rw [if_neg q5] at h
 by_cases q6:q≠m
 case pos=>rw [if_pos q6] at h;exact absurd h (by simp)
 rw [if_neg q6] at h
 obtain rfl:q=m:=by simpa using q6
 obtain rfl:=Option.some.inj h
 have c2:decide (m1 < 0)=false:=decide_eq_false q4
 have c3:decide (q < 0)=false:=decide_eq_false q5
 have c4:(q != q)=false:=by simp
 have c5:(gb != gb)=false:=by simp
 clear q1 q2 q3 q4 q5 q6 h
 go_enter Try.func5,Try.ntmps5
 go_upto_region 6 with (first|((with_reducible refine bJ (N:=1) rfl ?_);refine bR rfl (N:=1) rfl (cs:=#[(.slice A l.length c),(.slice B tl.length d)]) (t:=47) rn_ ?_;intro d1 hg w1 hbox hb;have B1:=am hbox;replace HB:=am hb;clear hbox hg hb;have zB1_0:w1.cell? ⟨d1,0,none⟩=some (.slice A l.length c):=aA B1.out 0;have zB1_1:w1.cell? ⟨d1,1,none⟩=some (.slice B tl.length d):=aA B1.out 1)|((with_reducible refine aD (f:=20) rfl ?_);refine aU (some 16) rfl rfl Try.func20 (by kernel_rfl) rfl #[(.agg #[(.slice A l.length c),(.slice B tl.length d)]), .int .i64 1048576] rfl (by (try simp only [List.map_toArray,List.map_cons,List.map_nil]);first|done|rfl) ?_;(with_reducible refine (gG.calls k _ _ l _ _ tl 1048576 left _ (Kd.aI HR.out HB.out) HL.out (Kd.aI j8.out HB.out) j9.out HSZ.out).mono ?_);rintro e w2 ⟨rfl,hb⟩;refine ⟨_,rfl,?_⟩;replace B1:=am (aJ B1.out hb);replace HB:=am (aC HB.out hb);clear hb zB1_0 zB1_1;have zB1_0:w2.cell? ⟨d1,0,none⟩=some (.slice A l.length c):=aA B1.out 0;have zB1_1:w2.cell? ⟨d1,1,none⟩=some (.slice B tl.length d):=aA B1.out 1)|((with_reducible refine aD (f:=22) rfl ?_);refine aU (some 21) rfl rfl Try.func22 (by kernel_rfl) rfl #[(.agg #[(.slice A l.length c),(.slice B tl.length d)])] rfl (by (try simp only [List.map_toArray,List.map_cons,List.map_nil]);first|done|rfl) ?_;(with_reducible refine (gY.callsS k _ _ l _ _ tl xr xt _ (Kd.aI HR.out HB.out) HL.out (Kd.aI j8.out HB.out) j9.out HTO.out).mono ?_);rintro e w3 ⟨Ayr,cyr,Ayt,cyt,midy,rfl,h0,h1,hb⟩;refine ⟨_,rfl,?_⟩;have Ryr:=am h0;have Ryt:=am h1;clear zB1_0 zB1_1;replace B1:=am (aJ B1.out hb);replace HB:=am (aC HB.out hb);clear h0 h1 hb)|((with_reducible refine aD (f:=21) rfl ?_);refine aU (some 22) rfl rfl Try.func21 (by kernel_rfl) rfl #[(.agg #[(.slice Ayr xr.length cyr),(.slice Ayt xt.length cyt)])] rfl (by (try simp only [List.map_toArray,List.map_cons,List.map_nil]);first|done|rfl) ?_;(with_reducible refine (aY.calls k _ _ xr _ _ xt vr vt gb _ (Kd.cZ Ryr.out).2.2 (Kd.cZ Ryr.out).2.1 (Kd.cZ (rJ Ryt.out)).2.2 (Kd.cZ (rJ Ryt.out)).2.1 HSP.out).mono ?_);rintro e w4 ⟨v0_,v1_,rfl,h0,h1,hb⟩;refine ⟨_,rfl,?_⟩;obtain ⟨Avr,cvr,rfl⟩:=Kd.nI h0;obtain ⟨Avt,cvt,rfl⟩:=Kd.iB h1;have Rvr:=am (Kd.lC (Kd.kE h0) HB.out.size);have Rvt:=am (Kd.kK (Kd.yT h1) HB.out.size);replace B1:=am (aJ B1.out hb);replace HB:=am (aC HB.out hb);clear h0 h1 hb Ryr Ryt)|fail)
 have hb:Below w4.heap.size w4 (w4.alloc (.cells #[(.slice Avr vr.length cvr),(.slice Avt vt.length cvt)] 51)):=cB (Below.refl _ _) _
 have B4:=am (rT w4 (.cells #[(.slice Avr vr.length cvr),(.slice Avt vt.length cvt)] 51))
 replace B1:=am (aJ B1.out hb)
 replace Rvr:=am (Kd.eT Rvr.out hb)
 replace Rvt:=am (Kd.gU Rvt.out hb)
 replace HB:=am (aC HB.out hb)
 clear hb
 generalize w4.alloc (.cells #[(.slice Avr vr.length cvr),(.slice Avt vt.length cvt)] 51)=w5 at B1 Rvr Rvt B4 HB ⊢
 generalize w4.heap.size=d4 at B4 ⊢
 obtain ⟨s2,es2⟩:∃ s,s=w5.heap.size:=⟨_,rfl⟩
 have T2:Aside0 (d1 < s2∧d4 < s2):=⟨by rw [es2];exact ⟨dM B1.out,dM B4.out⟩⟩
 replace Rvr:=am (Kd.gL (ok':=fun q=>q < s2) (Kd.kE Rvr.out) (fun q hq=>by rw [es2];exact hq.2.2.1))
 replace Rvt:=am (Kd.eX (ok':=fun q=>q < s2) (Kd.yT Rvt.out) (fun q hq=>by rw [es2];exact hq.2))
 have zB1_0:w5.cell? ⟨d1,0,none⟩=some (.slice A l.length c):=aA B1.out 0
 have zB1_1:w5.cell? ⟨d1,1,none⟩=some (.slice B tl.length d):=aA B1.out 1
 go_upto_region 7 with (first|((with_reducible refine aD (f:=22) rfl ?_);refine aU (some 26) rfl rfl Try.func22 (by kernel_rfl) rfl #[(.agg #[(.slice A l.length c),(.slice B tl.length d)])] rfl (by (try simp only [List.map_toArray,List.map_cons,List.map_nil]);first|done|rfl) ?_;(with_reducible refine (gY.callsS k _ _ l _ _ tl xr xt _ (Kd.aI HR.out HB.out) HL.out (Kd.aI j8.out HB.out) j9.out HTO.out).mono ?_);rintro e w6 ⟨Axr,cxr,Axt,cxt,midx,rfl,h0,h1,hb⟩;refine ⟨_,rfl,?_⟩;have T3:Aside0 (s2≤w6.heap.size):=⟨by rw [es2];exact hb.size⟩;have Rxr:=am (Kd.gL (ok':=fun q=>(s2≤q∧q < w6.heap.size)∧q < midx) (Kd.lC (Kd.kE h0) HB.out.size) (fun q hq=>⟨⟨by rw [es2];exact hq.1.1,hq.2.2.1⟩,hq.1.2⟩));have Rxt:=am (Kd.fE (ok':=fun q=>(s2≤q∧q < w6.heap.size)∧midx≤q) (Kd.iR (Kd.iD h1) HB.out.size) (fun q hq=>⟨⟨by rw [es2];exact hq.1.1,hq.2.2.1⟩,hq.1.2⟩));clear zB1_0 zB1_1 es2;replace B1:=am (aJ B1.out hb);replace Rvr:=am (Kd.eT Rvr.out hb);replace Rvt:=am (Kd.gU Rvt.out hb);replace B4:=am (aJ B4.out hb);replace HB:=am (aC HB.out hb);clear h0 h1 hb)|fail)
 have hb:Below w6.heap.size w6 (w6.alloc (.cells #[(.slice Axr xr.length cxr),(.slice Axt xt.length cxt)] 51)):=cB (Below.refl _ _) _
 have B6:=am (rT w6 (.cells #[(.slice Axr xr.length cxr),(.slice Axt xt.length cxt)] 51))
 replace B1:=am (aJ B1.out hb)
 replace Rvr:=am (Kd.eT Rvr.out hb)
 replace Rvt:=am (Kd.gU Rvt.out hb)
 replace B4:=am (aJ B4.out hb)
 replace Rxr:=am (Kd.eT Rxr.out hb)
 replace Rxt:=am (Kd.fC Rxt.out hb)
 replace HB:=am (aC HB.out hb)
 clear hb
 generalize w6.alloc (.cells #[(.slice Axr xr.length cxr),(.slice Axt xt.length cxt)] 51)=w7 at B1 Rvr Rvt B4 Rxr Rxt B6 HB ⊢
 generalize w6.heap.size=d6 at B6 T3 Rxr Rxt ⊢
 obtain ⟨s4,es4⟩:∃ s,s=w7.heap.size:=⟨_,rfl⟩
 have T4:Aside0 (d6 < s4):=⟨by rw [es4];exact dM B6.out⟩
 have zB6_0:w7.cell? ⟨d6,0,none⟩=some (.slice Axr xr.length cxr):=aA B6.out 0
 have zB6_1:w7.cell? ⟨d6,1,none⟩=some (.slice Axt xt.length cxt):=aA B6.out 1
 go_upto_region 8 with (first|((with_reducible refine aD (f:=23) rfl ?_);refine aU (some 29) rfl rfl Try.func23 (by kernel_rfl) rfl #[(.agg #[(.slice Axr xr.length cxr),(.slice Axt xt.length cxt)])] rfl (by (try simp only [List.map_toArray,List.map_cons,List.map_nil]);first|done|rfl) ?_;(with_reducible refine (aV.callsS k _ _ xr _ _ xt gr gt gb _ (Kd.cZ Rxr.out).2.2 (Kd.cZ Rxr.out).2.1 (Kd.cZ (rJ Rxt.out)).2.2 (Kd.cZ (rJ Rxt.out)).2.1 HIM.out).mono ?_);rintro e w8 ⟨Agr,cgr,Agt,cgt,midg,rfl,h0,h1,hb⟩;refine ⟨_,rfl,?_⟩;have T5:Aside0 (s4≤w8.heap.size):=⟨by rw [es4];exact hb.size⟩;have Rgr:=am (Kd.gL (ok':=fun q=>(s4≤q∧q < w8.heap.size)∧q < midg) (Kd.lC (Kd.kE h0) HB.out.size) (fun q hq=>⟨⟨by rw [es4];exact hq.1.1,hq.2.2.1⟩,hq.1.2⟩));have Rgt:=am (Kd.fE (ok':=fun q=>(s4≤q∧q < w8.heap.size)∧midg≤q) (Kd.iR (Kd.iD h1) HB.out.size) (fun q hq=>⟨⟨by rw [es4];exact hq.1.1,hq.2.2.1⟩,hq.1.2⟩));clear zB6_0 zB6_1 es4;replace B1:=am (aJ B1.out hb);replace Rvr:=am (Kd.eT Rvr.out hb);replace Rvt:=am (Kd.gU Rvt.out hb);replace B4:=am (aJ B4.out hb);replace Rxr:=am (Kd.eT Rxr.out hb);replace Rxt:=am (Kd.fC Rxt.out hb);replace B6:=am (aJ B6.out hb);replace HB:=am (aC HB.out hb);clear h0 h1 hb)|fail)
 have hb:Below w8.heap.size w8 (w8.alloc (.cells #[(.slice Agr gr.length cgr),(.slice Agt gt.length cgt)] 51)):=cB (Below.refl _ _) _
 have B7:=am (rT w8 (.cells #[(.slice Agr gr.length cgr),(.slice Agt gt.length cgt)] 51))
 replace B1:=am (aJ B1.out hb)
 replace Rvr:=am (Kd.eT Rvr.out hb)
 replace Rvt:=am (Kd.gU Rvt.out hb)
 replace B4:=am (aJ B4.out hb)
 replace Rxr:=am (Kd.eT Rxr.out hb)
 replace Rxt:=am (Kd.fC Rxt.out hb)
 replace B6:=am (aJ B6.out hb)
 replace Rgr:=am (Kd.eT Rgr.out hb)
 replace Rgt:=am (Kd.fC Rgt.out hb)
 replace HB:=am (aC HB.out hb)
 clear hb
 generalize w8.alloc (.cells #[(.slice Agr gr.length cgr),(.slice Agt gt.length cgt)] 51)=w9 at B1 Rvr Rvt B4 Rxr Rxt B6 Rgr Rgt B7 HB ⊢
 generalize w8.heap.size=d7 at B7 T5 Rgr Rgt ⊢
 have zB7_0:w9.cell? ⟨d7,0,none⟩=some (.slice Agr gr.length cgr):=aA B7.out 0
 have zB7_1:w9.cell? ⟨d7,1,none⟩=some (.slice Agt gt.length cgt):=aA B7.out 1
 have zB4_0:w9.cell? ⟨d4,0,none⟩=some (.slice Avr vr.length cvr):=aA B4.out 0
 have zB4_1:w9.cell? ⟨d4,1,none⟩=some (.slice Avt vt.length cvt):=aA B4.out 1
 go_upto_region 10 with (first|((with_reducible refine aD (f:=24) rfl ?_);refine aU (some 34) rfl rfl Try.func24 (by kernel_rfl) rfl #[(.agg #[(.slice Agr gr.length cgr),(.slice Agt gt.length cgt)]),(.agg #[(.slice Avr vr.length cvr),(.slice Avt vt.length cvt)])] rfl (by (try simp only [List.map_toArray,List.map_cons,List.map_nil]);first|done|rfl) ?_;(with_reducible refine (eP.calls k _ _ gr _ _ gt _ _ vr _ _ vt true _ (Kd.cZ Rgr.out).2.2 (Kd.cZ Rgr.out).2.1 (Kd.cZ (rJ Rgt.out)).2.2 (Kd.cZ (rJ Rgt.out)).2.1 (Kd.cZ Rvr.out).2.2 (Kd.cZ Rvr.out).2.1 (Kd.kM Rvt.out).2.2 (Kd.kM Rvt.out).2.1 HE1.out).mono ?_);rintro e jf ⟨rfl,hb⟩;refine ⟨_,rfl,?_⟩;replace B1:=am (aJ B1.out hb);replace Rvr:=am (Kd.eT Rvr.out hb);replace Rvt:=am (Kd.gU Rvt.out hb);replace B4:=am (aJ B4.out hb);replace Rxr:=am (Kd.eT Rxr.out hb);replace Rxt:=am (Kd.fC Rxt.out hb);replace B6:=am (aJ B6.out hb);replace Rgr:=am (Kd.eT Rgr.out hb);replace Rgt:=am (Kd.fC Rgt.out hb);replace B7:=am (aJ B7.out hb);replace HB:=am (aC HB.out hb);clear hb zB7_0 zB7_1 zB4_0 zB4_1)|fail)
 refine wp_region_any (by kernel_rfl) ?_
 replace B1:=am (eH B1.out)
 replace Rvr:=am (Kd.tF Rvr.out)
 replace Rvt:=am (Kd.AP Rvt.out)
 replace B4:=am (eH B4.out)
 replace Rxr:=am (Kd.tF Rxr.out)
 replace Rxt:=am (Kd.FB Rxt.out)
 replace B6:=am (eH B6.out)
 replace Rgr:=am (Kd.tF Rgr.out)
 replace Rgt:=am (Kd.FB Rgt.out)
 replace B7:=am (eH B7.out)
 replace HB:=am (bX HB.out)
 show wpAny _ _ _ _ _ _ _ jf.drew
 generalize jf.drew=W0 at B1 Rvr Rvt B4 Rxr Rxt B6 Rgr Rgt B7 HB ⊢
 refine FC (n:=5) (T:=(true,[([],[]),([],[]),([1],[1]),([0,2,2],[0,2]),([3],[3])])) rfl (by kernel_rfl) (by decide) (fun b a W=>tC W0 d1 d4 d6 d7 left gb A c l B d tl Axr cxr xr Axt cxt xt Avr cvr vr Avt cvt vt Agr cgr gr Agt cgt gt Ayr cyr Ayt cyt (b 0) (b 1) (b 2) (b 3) (b 4) a W) ?hstep ?hdone _ _ ?hstart
 case hstart=>exact ⟨none,0,none,0,rfl,⟨Below.refl _ _,fun e=>Bool.noConfusion e⟩⟩
 case hstep=>
  intro i b a W hi hbi hneed hcl hI
  have hcase:i=0∨i=1∨i=2∨i=3∨i=4:=by omega
  rcases hcase with rfl|rfl|rfl|rfl|rfl
  ·
   have z3:=zz_ (fun h=>hcl 3 _ h rfl 0 (by decide)) hbi
   have z4:=zz_ (fun h=>hcl 4 _ h rfl 3 (by decide)) z3
   simp only [hbi,z3,z4] at hI
   obtain ⟨j3,j4,j5,j6,rfl,h⟩:=hI
   refine wpOp_step rfl (fun K' hK'=>?_)
   simp (decide:=true) only [if_true,if_false,reduceIte,z3,z4] at hK'
   have hx_:=aJ B6.out h.hB
   have z0:W.cell? ⟨d6,0,none⟩=some (.slice Axr xr.length cxr):=aA hx_ 0
   have z1:W.cell? ⟨d6,1,none⟩=some (.slice Axt xt.length cxt):=aA hx_ 1
   refine fT (W:=W) (w1:=W) (v:=(.agg #[(.slice Axr xr.length cxr),(.slice Axt xt.length cxt)])) (by rfl) ?_ ?_
   ·(try simp only [gV,cond_true,cond_false])
    go_simp
    (try rfl)
   refine hK' _ _ (⟨j3,j4,j5,j6,?_,h⟩)
   show Act.put _ (some 41) _=_
   simp only [gV,Act.put,List.setIfInBounds_toArray,List.set_cons_zero,List.set_cons_succ,gT,gZ]
   rfl
  ·
   have z2:=zz_ (fun h=>hcl 2 _ h rfl 1 (by decide)) hbi
   have z3:=zz_ (fun h=>hcl 3 _ h rfl 2 (by decide)) z2
   have z4:=zz_ (fun h=>hcl 4 _ h rfl 3 (by decide)) z3
   simp only [hbi,z2,z3,z4] at hI
   obtain ⟨j3,j4,j5,j6,rfl,h⟩:=hI
   refine wpOp_step rfl (fun K' hK'=>?_)
   simp (decide:=true) only [if_true,if_false,reduceIte,z2,z3,z4] at hK'
   have hx_:=aJ B1.out h.hB
   have z0:W.cell? ⟨d1,0,none⟩=some (.slice A l.length c):=aA hx_ 0
   have z1:W.cell? ⟨d1,1,none⟩=some (.slice B tl.length d):=aA hx_ 1
   refine fT (W:=W) (w1:=W) (v:=(.agg #[(.slice A l.length c),(.slice B tl.length d)])) (by rfl) ?_ ?_
   ·(try simp only [gV,cond_true,cond_false])
    go_simp
    (try rfl)
   refine hK' _ _ (⟨j3,j4,j5,j6,?_,h⟩)
   show Act.put _ (some 42) _=_
   simp only [gV,Act.put,List.setIfInBounds_toArray,List.set_cons_zero,List.set_cons_succ,gT,gZ]
   rfl
  ·
   have hn_:=hneed _ rfl
   have n1:=hn_ 1 (by decide)
   have z3:=zz_ (fun h=>hcl 3 _ h rfl 2 (by decide)) hbi
   have z4:=zz_ (fun h=>hcl 4 _ h rfl 3 (by decide)) z3
   simp only [hbi,n1,z3,z4] at hI
   obtain ⟨j3,j4,j5,j6,rfl,h⟩:=hI
   refine wpOp_step rfl (fun K' hK'=>?_)
   simp (decide:=true) only [if_true,if_false,reduceIte,n1,z3,z4] at hK'
   refine lH Try.func22 (by kernel_rfl) rfl #[(.agg #[(.slice A l.length c),(.slice B tl.length d)])] (by rfl) rfl rfl (by (try simp only [List.map_toArray,List.map_cons,List.map_nil]);first|done|rfl) ?_
   refine (gY.callsS k _ _ l _ _ tl xr xt _ (Kd.aI HR.out (aC HB.out h.hB)) HL.out (Kd.aI j8.out (aC HB.out h.hB)) j9.out HTO.out).mono ?_
   rintro e W' ⟨A_r,c_r,A_t,c_t,mid_,rfl,h0,h1,hb⟩
   refine ⟨_,rfl,hK' _ _ (⟨A_r,c_r,A_t,c_t,?_,⟨aC h.hB hb,fun _=>⟨(Kd.cZ h0).2.2,(Kd.cZ h0).2.1,(Kd.cZ (rJ h1)).2.2,(Kd.cZ (rJ h1)).2.1⟩⟩⟩)⟩
   show Act.put _ (some 43) _=_
   simp only [gV,Act.put,List.setIfInBounds_toArray,List.set_cons_zero,List.set_cons_succ]
   rfl
  ·
   have hn_:=hneed _ rfl
   have n0:=hn_ 0 (by decide)
   have n2:=hn_ 2 (by decide)
   have n1:=hcl 2 _ n2 rfl 1 (by decide)
   have z4:=zz_ (fun h=>hcl 4 _ h rfl 3 (by decide)) hbi
   simp only [hbi,n0,n1,n2,z4] at hI
   obtain ⟨j3,j4,j5,j6,rfl,h⟩:=hI
   refine wpOp_step rfl (fun K' hK'=>?_)
   simp (decide:=true) only [if_true,if_false,reduceIte,n0,n1,n2,z4] at hK'
   refine lH Try.func24 (by kernel_rfl) rfl #[(.agg #[(.slice Axr xr.length cxr),(.slice Axt xt.length cxt)]),(.agg #[(.slice j3 xr.length j4),(.slice j5 xt.length j6)])] (by rfl) rfl rfl (by (try simp only [List.map_toArray,List.map_cons,List.map_nil]);first|done|rfl) ?_
   refine (eP.calls k _ _ xr _ _ xt _ _ xr _ _ xt true _ (Kd.aI (Kd.cZ Rxr.out).2.2 h.hB) (Kd.cZ Rxr.out).2.1 (Kd.aI (Kd.cZ (rJ Rxt.out)).2.2 h.hB) (Kd.cZ (rJ Rxt.out)).2.1 (h.hC rfl).1 (h.hC rfl).2.1 (h.hC rfl).2.2.1 (h.hC rfl).2.2.2 HE2.out).mono ?_
   rintro e W' ⟨rfl,hb⟩
   refine ⟨_,rfl,hK' _ _ (⟨j3,j4,j5,j6,?_,⟨aC h.hB hb,fun e=>⟨Kd.aI (h.hC e).1 hb,(h.hC e).2.1,Kd.aI (h.hC e).2.2.1 hb,(h.hC e).2.2.2⟩⟩⟩)⟩
   show Act.put _ (some 44) _=_
   simp only [gV,Act.put,List.setIfInBounds_toArray,List.set_cons_zero,List.set_cons_succ]
   rfl
  ·
   have hn_:=hneed _ rfl
   have n3:=hn_ 3 (by decide)
   have n0:=hcl 3 _ n3 rfl 0 (by decide)
   have n2:=hcl 3 _ n3 rfl 2 (by decide)
   have n1:=hcl 2 _ n2 rfl 1 (by decide)
   simp only [hbi,n0,n1,n2,n3] at hI
   obtain ⟨j3,j4,j5,j6,rfl,h⟩:=hI
   refine wpOp_step rfl (fun K' hK'=>?_)
   simp (decide:=true) only [if_true,if_false,reduceIte,n0,n1,n2,n3] at hK'
   refine fT (W:=W) (w1:=W) (v:=?_) (by rfl) ?_ ?_
   rotate_left
   ·(try simp only [gV,cond_true,cond_false])
    go_simp
    first|with_reducible rfl|rfl
   refine hK' _ _ (⟨j3,j4,j5,j6,?_,h⟩)
   show Act.put _ (some 45) _=_
   simp only [gV,Act.put,List.setIfInBounds_toArray,List.set_cons_zero,List.set_cons_succ,gT,gZ]
   rfl
 case hdone=>
  intro b a W1 hall hI
  replace hI:tC W0 d1 d4 d6 d7 left gb A c l B d tl Axr cxr xr Axt cxt xt Avr cvr vr Avt cvt vt Agr cgr gr Agt cgt gt Ayr cyr Ayt cyt (b 0) (b 1) (b 2) (b 3) (b 4) a W1:=hI
  rw [hall 0 (by decide),hall 1 (by decide),hall 2 (by decide),hall 3 (by decide),hall 4 (by decide)] at hI
  obtain ⟨j3,j4,j5,j6,rfl,h⟩:=hI
  simp only [gV,cond_true]
  have hb:=h.hB
  replace B1:=am (aJ B1.out hb)
  replace Rvr:=am (Kd.eT Rvr.out hb)
  replace Rvt:=am (Kd.gU Rvt.out hb)
  replace B4:=am (aJ B4.out hb)
  replace Rxr:=am (Kd.eT Rxr.out hb)
  replace Rxt:=am (Kd.fC Rxt.out hb)
  replace B6:=am (aJ B6.out hb)
  replace Rgr:=am (Kd.eT Rgr.out hb)
  replace Rgt:=am (Kd.fC Rgt.out hb)
  replace B7:=am (aJ B7.out hb)
  replace HB:=am (aC HB.out hb)
  clear h hall hb
  have hM_:=gQ.callsS k (fun q=>(s2≤q∧q < d6)∧q < midx) (fun q=>(s2≤q∧q < d6)∧midx≤q) _ _ xr _ _ xt 1 m1 _ _ w W1 HB.out Rxr.out Rxt.out (fun q a b=>absurd a.2 (Nat.not_lt_of_le b.2)) HM1.out
  have zB6_0:W1.cell? ⟨d6,0,none⟩=some (.slice Axr xr.length cxr):=aA B6.out 0
  have zB6_1:W1.cell? ⟨d6,1,none⟩=some (.slice Axt xt.length cxt):=aA B6.out 1
  go_upto_region 14 with (first|((with_reducible refine aD (f:=25) rfl ?_);refine aU (some 48) rfl rfl Try.func25 (by kernel_rfl) rfl #[(.agg #[(.slice Axr xr.length cxr),(.slice Axt xt.length cxt)]), .int .i64 1] rfl (by (try simp only [List.map_toArray,List.map_cons,List.map_nil]);first|done|rfl) ?_;(with_reducible refine (hM_).mono ?_);rintro e jc ⟨rfl,hr2,ja,hb,hk⟩;refine ⟨_,rfl,?_⟩;replace B1:=am (mI B1.out hk (fun hs_=>(by have hs_:=hs_.elim (fun a=>a.1) (fun a=>a.1);have t2:=T2.out;have t3:=T3.out;have t4:=T4.out;have t5:=T5.out;have h1_:=hs_.1;have h2_:=hs_.2;omega)));replace Rvr:=am (Kd.rQ Rvr.out (fun q hq hlt_=>hk.2 q hlt_ (fun hs_=>(by have hs_:=hs_.elim (fun a=>a.1) (fun a=>a.1);have t2:=T2.out;have t3:=T3.out;have t4:=T4.out;have t5:=T5.out;have h1_:=hs_.1;have h2_:=hs_.2;omega))));replace Rvt:=am (Kd.AQ Rvt.out (fun q hq hlt_=>hk.2 q hlt_ (fun hs_=>(by have hs_:=hs_.elim (fun a=>a.1) (fun a=>a.1);have t2:=T2.out;have t3:=T3.out;have t4:=T4.out;have t5:=T5.out;have h1_:=hs_.1;have h2_:=hs_.2;omega))));replace B4:=am (mI B4.out hk (fun hs_=>(by have hs_:=hs_.elim (fun a=>a.1) (fun a=>a.1);have t2:=T2.out;have t3:=T3.out;have t4:=T4.out;have t5:=T5.out;have h1_:=hs_.1;have h2_:=hs_.2;omega)));replace B6:=am (mI B6.out hk (fun hs_=>(by have hs_:=hs_.elim (fun a=>a.1) (fun a=>a.1);have t2:=T2.out;have t3:=T3.out;have t4:=T4.out;have t5:=T5.out;have h1_:=hs_.1;have h2_:=hs_.2;omega)));replace Rgr:=am (Kd.rQ Rgr.out (fun q hq hlt_=>hk.2 q hlt_ (fun hs_=>(by have hs_:=hs_.elim (fun a=>a.1) (fun a=>a.1);have t2:=T2.out;have t3:=T3.out;have t4:=T4.out;have t5:=T5.out;have h1_:=hs_.1;have h2_:=hs_.2;omega))));replace Rgt:=am (Kd.oQ Rgt.out (fun q hq hlt_=>hk.2 q hlt_ (fun hs_=>(by have hs_:=hs_.elim (fun a=>a.1) (fun a=>a.1);have t2:=T2.out;have t3:=T3.out;have t4:=T4.out;have t5:=T5.out;have h1_:=hs_.1;have h2_:=hs_.2;omega))));replace B7:=am (mI B7.out hk (fun hs_=>(by have hs_:=hs_.elim (fun a=>a.1) (fun a=>a.1);have t2:=T2.out;have t3:=T3.out;have t4:=T4.out;have t5:=T5.out;have h1_:=hs_.1;have h2_:=hs_.2;omega)));replace HB:=am (hb);clear Rxr Rxt hb hk hr2 ja hM_ zB6_0 zB6_1)|fail)
  have zB7_0:jc.cell? ⟨d7,0,none⟩=some (.slice Agr gr.length cgr):=aA B7.out 0
  have zB7_1:jc.cell? ⟨d7,1,none⟩=some (.slice Agt gt.length cgt):=aA B7.out 1
  have zB4_0:jc.cell? ⟨d4,0,none⟩=some (.slice Avr vr.length cvr):=aA B4.out 0
  have zB4_1:jc.cell? ⟨d4,1,none⟩=some (.slice Avt vt.length cvt):=aA B4.out 1
  go_upto_region 17 with (first|(go_at_call 24;(with_reducible refine (eP.calls k _ _ gr _ _ gt _ _ vr _ _ vt true _ (Kd.cZ Rgr.out).2.2 (Kd.cZ Rgr.out).2.1 (Kd.cZ (rJ Rgt.out)).2.2 (Kd.cZ (rJ Rgt.out)).2.1 (Kd.cZ Rvr.out).2.2 (Kd.cZ Rvr.out).2.1 (Kd.kM Rvt.out).2.2 (Kd.kM Rvt.out).2.1 HE1.out).mono ?_);rintro e je ⟨rfl,hb⟩;replace B1:=am (aJ B1.out hb);replace Rvr:=am (Kd.eT Rvr.out hb);replace Rvt:=am (Kd.gU Rvt.out hb);replace B4:=am (aJ B4.out hb);replace B6:=am (aJ B6.out hb);replace Rgr:=am (Kd.eT Rgr.out hb);replace Rgt:=am (Kd.fC Rgt.out hb);replace B7:=am (aJ B7.out hb);replace HB:=am (aC HB.out hb);clear hb zB7_0 zB7_1 zB4_0 zB4_1)|fail)
  have hM_:=gQ.callsS k (fun q=>(s4≤q∧q < d7)∧q < midg) (fun q=>(s4≤q∧q < d7)∧midg≤q) _ _ gr _ _ gt 1 q _ _ w je HB.out Rgr.out Rgt.out (fun q a b=>absurd a.2 (Nat.not_lt_of_le b.2)) HM.out
  have zB7_0:je.cell? ⟨d7,0,none⟩=some (.slice Agr gr.length cgr):=aA B7.out 0
  have zB7_1:je.cell? ⟨d7,1,none⟩=some (.slice Agt gt.length cgt):=aA B7.out 1
  go_upto_region 18 with (first|((with_reducible refine aD (f:=25) rfl ?_);refine aU (some 64) rfl rfl Try.func25 (by kernel_rfl) rfl #[(.agg #[(.slice Agr gr.length cgr),(.slice Agt gt.length cgt)]), .int .i64 1] rfl (by (try simp only [List.map_toArray,List.map_cons,List.map_nil]);first|done|rfl) ?_;(with_reducible refine (hM_).mono ?_);rintro e jg ⟨rfl,hr2,ja,hb,hk⟩;refine ⟨_,rfl,?_⟩;replace B1:=am (mI B1.out hk (fun hs_=>(by have hs_:=hs_.elim (fun a=>a.1) (fun a=>a.1);have t2:=T2.out;have t3:=T3.out;have t4:=T4.out;have t5:=T5.out;have h1_:=hs_.1;have h2_:=hs_.2;omega)));replace Rvr:=am (Kd.rQ Rvr.out (fun q hq hlt_=>hk.2 q hlt_ (fun hs_=>(by have hs_:=hs_.elim (fun a=>a.1) (fun a=>a.1);have t2:=T2.out;have t3:=T3.out;have t4:=T4.out;have t5:=T5.out;have h1_:=hs_.1;have h2_:=hs_.2;omega))));replace Rvt:=am (Kd.AQ Rvt.out (fun q hq hlt_=>hk.2 q hlt_ (fun hs_=>(by have hs_:=hs_.elim (fun a=>a.1) (fun a=>a.1);have t2:=T2.out;have t3:=T3.out;have t4:=T4.out;have t5:=T5.out;have h1_:=hs_.1;have h2_:=hs_.2;omega))));replace B4:=am (mI B4.out hk (fun hs_=>(by have hs_:=hs_.elim (fun a=>a.1) (fun a=>a.1);have t2:=T2.out;have t3:=T3.out;have t4:=T4.out;have t5:=T5.out;have h1_:=hs_.1;have h2_:=hs_.2;omega)));replace B6:=am (mI B6.out hk (fun hs_=>(by have hs_:=hs_.elim (fun a=>a.1) (fun a=>a.1);have t2:=T2.out;have t3:=T3.out;have t4:=T4.out;have t5:=T5.out;have h1_:=hs_.1;have h2_:=hs_.2;omega)));replace B7:=am (mI B7.out hk (fun hs_=>(by have hs_:=hs_.elim (fun a=>a.1) (fun a=>a.1);have t2:=T2.out;have t3:=T3.out;have t4:=T4.out;have t5:=T5.out;have h1_:=hs_.1;have h2_:=hs_.2;omega)));replace HB:=am (hb);have e_:=(Kd.cZ hr2).1;rw [e_] at hr2;replace Rgr:=am hr2;have B7_:=B7.out;rw [e_] at B7_;have e2_:=(Kd.AV ja).1;rw [e2_] at ja B7_;replace Rgt:=am ja;replace B7:=am B7_;clear B7_ e_ e2_ hb hk hr2 ja hM_ zB7_0 zB7_1)|fail)
  have zB7_0:jg.cell? ⟨d7,0,none⟩=some (.slice Agr pr.length cgr):=aA B7.out 0
  have zB7_1:jg.cell? ⟨d7,1,none⟩=some (.slice Agt pt.length cgt):=aA B7.out 1
  go_upto_region 24 with (first|((with_reducible refine aD (f:=26) rfl ?_);refine aU (some 67) rfl rfl Try.func26 (by kernel_rfl) rfl #[(.agg #[(.slice Agr pr.length cgr),(.slice Agt pt.length cgt)]), .int .i64 1] rfl (by (try simp only [List.map_toArray,List.map_cons,List.map_nil]);first|done|rfl) ?_;(with_reducible refine (fP.calls k _ _ pr _ _ pt 1 q _ (Kd.cZ Rgr.out).2.2 (Kd.cZ Rgr.out).2.1 (Kd.cZ (rJ Rgt.out)).2.2 (Kd.cZ (rJ Rgt.out)).2.1 HQ.out).mono ?_);rintro e jh ⟨rfl,hb⟩;refine ⟨_,rfl,?_⟩;replace B1:=am (aJ B1.out hb);replace Rvr:=am (Kd.eT Rvr.out hb);replace Rvt:=am (Kd.gU Rvt.out hb);replace B4:=am (aJ B4.out hb);replace B6:=am (aJ B6.out hb);replace Rgr:=am (Kd.eT Rgr.out hb);replace Rgt:=am (Kd.fC Rgt.out hb);replace B7:=am (aJ B7.out hb);replace HB:=am (aC HB.out hb);clear hb zB7_0 zB7_1)|fail)
  have zB1_0:jh.cell? ⟨d1,0,none⟩=some (.slice A l.length c):=aA B1.out 0
  have zB1_1:jh.cell? ⟨d1,1,none⟩=some (.slice B tl.length d):=aA B1.out 1
  go_upto_region 25 with (first|((with_reducible refine aD (f:=22) rfl ?_);refine aU (some 75) rfl rfl Try.func22 (by kernel_rfl) rfl #[(.agg #[(.slice A l.length c),(.slice B tl.length d)])] rfl (by (try simp only [List.map_toArray,List.map_cons,List.map_nil]);first|done|rfl) ?_;(with_reducible refine (gY.callsS k _ _ l _ _ tl xr xt _ (Kd.aI HR.out HB.out) HL.out (Kd.aI j8.out HB.out) j9.out HTO.out).mono ?_);rintro e jk ⟨Aur,cur,Aut,cut,midu,rfl,h0,h1,hb⟩;refine ⟨_,rfl,?_⟩;have Rur:=am h0;have Rut:=am h1;clear zB1_0 zB1_1;replace B1:=am (aJ B1.out hb);replace Rvr:=am (Kd.eT Rvr.out hb);replace Rvt:=am (Kd.gU Rvt.out hb);replace B4:=am (aJ B4.out hb);replace B6:=am (aJ B6.out hb);replace Rgr:=am (Kd.eT Rgr.out hb);replace Rgt:=am (Kd.fC Rgt.out hb);replace B7:=am (aJ B7.out hb);replace HB:=am (aC HB.out hb);clear h0 h1 hb)|((with_reducible refine aD (f:=23) rfl ?_);refine aU (some 76) rfl rfl Try.func23 (by kernel_rfl) rfl #[(.agg #[(.slice Aur xr.length cur),(.slice Aut xt.length cut)])] rfl (by (try simp only [List.map_toArray,List.map_cons,List.map_nil]);first|done|rfl) ?_;(with_reducible refine (aV.callsS k _ _ xr _ _ xt gr gt gb _ (Kd.cZ Rur.out).2.2 (Kd.cZ Rur.out).2.1 (Kd.cZ (rJ Rut.out)).2.2 (Kd.cZ (rJ Rut.out)).2.1 HIM.out).mono ?_);rintro e jb ⟨Ahr,chr,Aht,cht,midh,rfl,h0,h1,hb⟩;refine ⟨_,rfl,?_⟩;have Rhr:=am (Kd.lC h0 HB.out.size);have Rht:=am (Kd.iR h1 HB.out.size);replace B1:=am (aJ B1.out hb);replace Rvr:=am (Kd.eT Rvr.out hb);replace Rvt:=am (Kd.gU Rvt.out hb);replace B4:=am (aJ B4.out hb);replace B6:=am (aJ B6.out hb);replace Rgr:=am (Kd.eT Rgr.out hb);replace Rgt:=am (Kd.fC Rgt.out hb);replace B7:=am (aJ B7.out hb);replace HB:=am (aC HB.out hb);clear h0 h1 hb Rur Rut)|fail)
  have hb:Below jb.heap.size jb (jb.alloc (.cells #[(.slice Ahr gr.length chr),(.slice Aht gt.length cht)] 51)):=cB (Below.refl _ _) _
  have j7:=am (rT jb (.cells #[(.slice Ahr gr.length chr),(.slice Aht gt.length cht)] 51))
  replace B1:=am (aJ B1.out hb)
  replace Rvr:=am (Kd.eT Rvr.out hb)
  replace Rvt:=am (Kd.gU Rvt.out hb)
  replace B4:=am (aJ B4.out hb)
  replace B6:=am (aJ B6.out hb)
  replace Rgr:=am (Kd.eT Rgr.out hb)
  replace Rgt:=am (Kd.fC Rgt.out hb)
  replace B7:=am (aJ B7.out hb)
  replace Rhr:=am (Kd.eT Rhr.out hb)
  replace Rht:=am (Kd.fC Rht.out hb)
  replace HB:=am (aC HB.out hb)
  clear hb
  generalize jb.alloc (.cells #[(.slice Ahr gr.length chr),(.slice Aht gt.length cht)] 51)=jd at B1 Rvr Rvt B4 B6 Rgr Rgt B7 Rhr Rht j7 HB ⊢
  generalize jb.heap.size=ji at j7 ⊢
  have zB12_0:jd.cell? ⟨ji,0,none⟩=some (.slice Ahr gr.length chr):=aA j7.out 0
  have zB12_1:jd.cell? ⟨ji,1,none⟩=some (.slice Aht gt.length cht):=aA j7.out 1
  have zB4_0:jd.cell? ⟨d4,0,none⟩=some (.slice Avr vr.length cvr):=aA B4.out 0
  have zB4_1:jd.cell? ⟨d4,1,none⟩=some (.slice Avt vt.length cvt):=aA B4.out 1
  go_upto_region 28 with (first|((with_reducible refine aD (f:=24) rfl ?_);refine aU (some 81) rfl rfl Try.func24 (by kernel_rfl) rfl #[(.agg #[(.slice Ahr gr.length chr),(.slice Aht gt.length cht)]),(.agg #[(.slice Avr vr.length cvr),(.slice Avt vt.length cvt)])] rfl (by (try simp only [List.map_toArray,List.map_cons,List.map_nil]);first|done|rfl) ?_;(with_reducible refine (eP.calls k _ _ gr _ _ gt _ _ vr _ _ vt true _ (Kd.cZ Rhr.out).2.2 (Kd.cZ Rhr.out).2.1 (Kd.cZ (rJ Rht.out)).2.2 (Kd.cZ (rJ Rht.out)).2.1 (Kd.cZ Rvr.out).2.2 (Kd.cZ Rvr.out).2.1 (Kd.kM Rvt.out).2.2 (Kd.kM Rvt.out).2.1 HE1.out).mono ?_);rintro e jj ⟨rfl,hb⟩;refine ⟨_,rfl,?_⟩;replace B1:=am (aJ B1.out hb);replace Rvr:=am (Kd.eT Rvr.out hb);replace Rvt:=am (Kd.gU Rvt.out hb);replace B4:=am (aJ B4.out hb);replace B6:=am (aJ B6.out hb);replace Rgr:=am (Kd.eT Rgr.out hb);replace Rgt:=am (Kd.fC Rgt.out hb);replace B7:=am (aJ B7.out hb);replace Rhr:=am (Kd.eT Rhr.out hb);replace Rht:=am (Kd.fC Rht.out hb);replace j7:=am (aJ j7.out hb);replace HB:=am (aC HB.out hb);clear hb zB12_0 zB12_1 zB4_0 zB4_1)|fail)
  have zB7_0:jj.cell? ⟨d7,0,none⟩=some (.slice Agr pr.length cgr):=aA B7.out 0
  have zB7_1:jj.cell? ⟨d7,1,none⟩=some (.slice Agt pt.length cgt):=aA B7.out 1
  go_wp2_with (first|((with_reducible refine aD (f:=26) rfl ?_);refine aU (some 90) rfl rfl Try.func26 (by kernel_rfl) rfl #[(.agg #[(.slice Agr pr.length cgr),(.slice Agt pt.length cgt)]), .int .i64 1] rfl (by (try simp only [List.map_toArray,List.map_cons,List.map_nil]);first|done|rfl) ?_;(with_reducible refine (fP.calls k _ _ pr _ _ pt 1 q _ (Kd.cZ Rgr.out).2.2 (Kd.cZ Rgr.out).2.1 (Kd.cZ (rJ Rgt.out)).2.2 (Kd.cZ (rJ Rgt.out)).2.1 HQ.out).mono ?_);rintro e jl ⟨rfl,hb⟩;refine ⟨_,rfl,?_⟩;replace B1:=am (aJ B1.out hb);replace Rvr:=am (Kd.eT Rvr.out hb);replace Rvt:=am (Kd.gU Rvt.out hb);replace B4:=am (aJ B4.out hb);replace B6:=am (aJ B6.out hb);replace Rgr:=am (Kd.eT Rgr.out hb);replace Rgt:=am (Kd.fC Rgt.out hb);replace B7:=am (aJ B7.out hb);replace Rhr:=am (Kd.eT Rhr.out hb);replace Rht:=am (Kd.fC Rht.out hb);replace j7:=am (aJ j7.out hb);replace HB:=am (aC HB.out hb);clear hb zB7_0 zB7_1)|fail)
  go_ret
  exact ⟨rfl,HB.out⟩
end Go.Proofs.Ythiegfpcfedbgaa.PA

namespace Go.Proofs.Ythiegfpcfedbgaa.Core
open Go.RowKit Go.Proofs.YthiegfpcfedbgaaW.PrintWords Go.Proofs.YthiegfpcfedbgaaW.PrintMore
section
variable {α β:Type} {g h:Nat→Option α} {P Q:α→Prop}
def EvP (g:Nat→Option α) (P:α→Prop):Prop:=∃ r,Ev g r∧P r
theorem EvP.ret {r:α} (h:P r):EvP (fun _=>some r) P:=⟨r,Ev.now r,h⟩
theorem EvP.mono (h:EvP g P) (k:∀ a,P a→Q a):EvP g Q:=by
 obtain ⟨r,h1,h2⟩:=h
 exact ⟨r,h1,k r h2⟩
theorem EvP.bind {f:Nat→α→Option β} {R:β→Prop} (h:EvP g P) (k:∀ a,P a→EvP (fun n=>f n a) R):EvP (fun n=>(g n).bind (f n)) R:=by
 obtain ⟨a,h1,h2⟩:=h
 obtain ⟨r,k1,k2⟩:=k a h2
 exact ⟨r,Ev.bind h1 k1,k2⟩
theorem EvP.gN {o:Option α} {a:α} {f:Nat→α→Option β} {R:β→Prop} (h:o=some a) (k:EvP (fun n=>f n a) R):EvP (fun n=>o.bind (f n)) R:=by
 subst h
 exact k
theorem EvP.ite {c:Prop} [Decidable c] (h1:c→EvP g P) (h2:¬ c→EvP h P):EvP (fun n=>if c then g n else h n) P:=by
 by_cases hc:c
 ·simp only [if_pos hc]
  exact h1 hc
 ·simp only [if_neg hc]
  exact h2 hc
theorem EvP.yes {c:Prop} [Decidable c] (hc:c) (h1:EvP g P):EvP (fun n=>if c then g n else h n) P:=by
 simp only [if_pos hc]
 exact h1
theorem EvP.no {c:Prop} [Decidable c] (hc:¬ c) (h1:EvP h P):EvP (fun n=>if c then g n else h n) P:=by
 simp only [if_neg hc]
 exact h1
theorem EvP.step {f:Nat→Option α} (h:∀ k,g (k + 1)=f k) (k:EvP f P):EvP g P:=by
 obtain ⟨r,h1,h2⟩:=k
 exact ⟨r,Ev.step h h1,h2⟩
theorem EvP.ends {r:α} (h:EvP g (·=r)):∃ k,g k=some r:=by
  obtain ⟨a,h1,h2⟩:=h
  subst h2
  exact h1.rounds
theorem EvP.congr {f:Nat→Option α} (h:∀ k,g k=f k) (k:EvP f P):EvP g P:=by
 obtain ⟨r,h1,h2⟩:=k
 exact ⟨r,Ev.congr h h1,h2⟩
theorem EvP.bV {f:Nat→α→Option β} {R:β→Prop} {a:α} (h:EvP g (·=a)) (k:EvP (fun n=>f n a) R):EvP (fun n=>(g n).bind (f n)) R:=
  EvP.bind h (fun b hb=>by subst hb;exact k)
end
theorem w64 {n:Int} (h1:-9223372036854775808≤n) (h2:n≤9223372036854775807):wrap64 n=n:=by
 unfold wrap64
 omega
theorem xP (xs:List Int) (i:Nat) (h:i < xs.length):rd xs (i:Int)=xs[i]:=by
 unfold rd
 rw [Int.toNat_natCast,List.getD_eq_getElem?_getD,List.getElem?_eq_getElem h]
 rfl
theorem aBu (xs:List Int) (i:Int) (h0:0≤i) (h:i < xs.length):rd xs i ∈ xs:=by
 unfold rd
 rw [List.getD_eq_getElem?_getD,List.getElem?_eq_getElem (by omega)]
 exact List.getElem_mem _
end Go.Proofs.Ythiegfpcfedbgaa.Core

namespace Go.Proofs.Ythiegfpcfedbgaa.PA
open Go.RowKit Go.Proofs.YthiegfpcfedbgaaW.PrintWords Go.Proofs.YthiegfpcfedbgaaW.PrintMore Go.Proofs.Ythiegfpcfedbgaa.Core
def vw (n:Int):Bool:=decide (-2147483648≤n) && decide (n≤2147483647)
theorem WI {n:Int}:vw n=true ↔ -2147483648≤n∧n≤2147483647:=by
 unfold vw
 rw [Bool.and_eq_true,decide_eq_true_eq,decide_eq_true_eq]
theorem aAp (b:Int):0≤Go.bits .and .i64 b 31∧Go.bits .and .i64 b 31≤31:=by
 simp only [Go.bits]
 rw [show IntKind.i64.bits=64 from rfl,IntKind.wrap_i64,BitVec.toNat_and]
 have h:(BitVec.ofInt 64 b).toNat &&& (BitVec.ofInt 64 31).toNat≤(BitVec.ofInt 64 31).toNat:=Nat.and_le_right
 have e:(BitVec.ofInt 64 31).toNat=31:=by decide
 rw [e] at h ⊢
 omega
theorem pY (a:Int):wrap32 (wrap64 a)=wrap32 a:=by
 unfold wrap32 wrap64
 omega
theorem aAn (a:Int):wrap64 (wrap32 a)=wrap32 a:=by
 unfold wrap32 wrap64
 omega
def ap (op a b:Int):Int:=
 if op=1 then Go.bits .or .i64 a b else if op=2 then Go.bits .xor .i64 a b else if op=3 then Go.bits .and .i64 a b
 else if op=4 then (if a=b then 1 else 0) else if op=5 then (if a < b then 1 else 0)
 else if op=6 then wrap32 (shl .i64 a (Go.bits .and .i64 b 31)) else if op=7 then shr .i64 a (Go.bits .and .i64 b 31)
 else if op=8 then wrap32 (a + b) else if op=9 then wrap32 (a - b) else if op=10 then wrap32 (a * b)
 else if op=11 then (if b=0 then -1 else wrap32 (Int.tdiv a b)) else if b=0 then a else Int.tmod a b
theorem oJ (a b c:Int):fD.f a b c=some (decide (b≤a) && decide (a≤c)):=by
 unfold fD.f
 by_cases h:a≥b
 ·rw [if_pos h,decide_eq_true h,Bool.true_and]
 ·rw [if_neg h,decide_eq_false h,Bool.false_and]
theorem pU (a:Int):iH.f a=some (vw a):=by
 unfold iH.f
 rw [oJ]
 rfl
theorem OY (l m:List Int) (hl:l.length≤1000000000) (hm:l.length=m.length):∀ (d j:Nat),j + d=l.length→EvP (fun k=>dV.l0 k l m (j:Int)) (·=decide (l.drop j=m.drop j)):=by
  intro d
  induction d with
  |zero=>
    intro j hj
    refine EvP.step (fun k=>dV.l0.eq_2 (k:=k) ..) (EvP.no (by omega) (EvP.ret ?_))
    rw [List.drop_eq_nil_of_le (by omega),List.drop_eq_nil_of_le (by omega)]
    rfl
  |succ d ih=>
    intro j hj
    have hlt:j < l.length:=by omega
    have hlm:j < m.length:=by omega
    refine EvP.step (fun k=>dV.l0.eq_2 (k:=k) ..) (EvP.yes (by omega) (EvP.yes (by omega) (EvP.yes (by omega) ?_)))
    rw [xP l j hlt,xP m j hlm,List.drop_eq_getElem_cons hlt,List.drop_eq_getElem_cons hlm]
    refine EvP.ite (fun h=>?_) (fun h=>EvP.ret ?_)
    · rw [h,w64 (by omega) (by omega)]
      refine (ih (j + 1) (by omega)).mono fun a ha=>?_
      rw [ha]
      exact decide_eq_decide.mpr ⟨fun e=>by rw [e],fun e=>(List.cons.inj e).2⟩
    · exact (decide_eq_false (fun e=>h (List.cons.inj e).1)).symm
theorem DY (l m:List Int) (hl:l.length≤1000000000):EvP (fun k=>dV.f k l m) (·=decide (l=m)):=by
  unfold dV.f
  refine EvP.ite (fun h=>?_) (fun h=>EvP.ret ?_)
  · exact OY l m hl (by omega) l.length 0 (by omega)
  · rw [decide_eq_false]
    rintro rfl
    exact h rfl
def marked:Nat→Int→List Int
 |0,_=>[]
 |n + 1,k=>k :: marked n (k + 1)
theorem vH:∀ n k,(marked n k).length=n
 |0,_=>rfl
 |n + 1,k=>by rw [marked,List.length_cons,vH n]
theorem KN (L:Nat) (hL:L≤1000000000):∀ (d j:Nat) (l:List Int) (k0:Int),l.length=L→j + d=L→-1000000000000≤k0→k0≤1000000000000→
    EvP (fun k=>dI.l0 k l (k0 + j) (j:Int)) (·=(k0 + L,l.take j ++ marked d (k0 + j))):=by
  intro d
  induction d with
  |zero=>
    intro j l k0 hl hj h1 h2
    refine EvP.step (fun k=>dI.l0.eq_2 (k:=k) ..) (EvP.no (by omega) (EvP.ret ?_))
    rw [List.take_of_length_le (by omega),marked,List.append_nil,show j=L by omega]
  |succ d ih=>
    intro j l k0 hl hj h1 h2
    refine EvP.step (fun k=>dI.l0.eq_2 (k:=k) ..) (EvP.yes (by omega) (EvP.yes (by omega) ?_))
    rw [w64 (by omega) (by omega),w64 (by omega) (by omega),Int.toNat_natCast]
    have h:=ih (j + 1) (l.set j (k0 + j)) k0 (by rw [List.length_set];exact hl) (by omega) h1 h2
    rw [show k0 + ((j + 1:Nat):Int)=k0 + j + 1 by omega,show ((j + 1:Nat):Int)=(j:Int) + 1 by omega] at h
    refine h.mono fun a ha=>?_
    rw [ha,marked,List.take_succ_eq_append_getElem (by rw [List.length_set];omega),List.getElem_set_self,List.take_set_of_le (by omega),List.append_assoc]
    rfl
theorem KM (l:List Int) (k0:Int) (hl:l.length≤1000000000) (h1:-1000000000000≤k0) (h2:k0≤1000000000000):EvP (fun k=>dI.f k l k0) (·=(k0 + l.length,marked l.length k0)):=by
  unfold dI.f
  have h:=KN l.length hl l.length 0 l k0 rfl (by omega) h1 h2
  rw [show k0 + ((0:Nat):Int)=k0 by omega] at h
  exact h
theorem KF (L:Nat) (hL:L≤1000000000) (k0:Int) (h1:-1000000000000≤k0) (h2:k0≤1000000000000):∀ (d j:Nat) (l:List Int),l.length=L→j + d=L→l.drop j=marked d (k0 + j)→
    EvP (fun k=>dH.l0 k l (k0 + j) (j:Int)) (·=k0 + L):=by
  intro d
  induction d with
  |zero=>
    intro j l hl hj hd
    refine EvP.step (fun k=>dH.l0.eq_2 (k:=k) ..) (EvP.no (by omega) (EvP.ret ?_))
    omega
  |succ d ih=>
    intro j l hl hj hd
    have hlt:j < l.length:=by omega
    rw [List.drop_eq_getElem_cons hlt,marked] at hd
    obtain ⟨hd1,hd2⟩:=List.cons.inj hd
    refine EvP.step (fun k=>dH.l0.eq_2 (k:=k) ..) (EvP.yes (by omega) (EvP.yes (by omega) ?_))
    rw [xP l j hlt,w64 (by omega) (by omega),w64 (by omega) (by omega)]
    refine EvP.yes hd1 ?_
    have h:=ih (j + 1) l hl (by omega) (by rw [hd2];congr 1;omega)
    rw [show k0 + ((j + 1:Nat):Int)=k0 + j + 1 by omega,show ((j + 1:Nat):Int)=(j:Int) + 1 by omega] at h
    exact h
theorem KE (n:Nat) (k0:Int) (hl:n≤1000000000) (h1:-1000000000000≤k0) (h2:k0≤1000000000000):EvP (fun k=>dH.f k (marked n k0) k0) (·=k0 + n):=by
  unfold dH.f
  have h:=KF n hl k0 h1 h2 n 0 (marked n k0) (vH _ _) (by omega) (by rw [List.drop_zero];congr 1;omega)
  rw [show k0 + ((0:Nat):Int)=k0 by omega] at h
  exact h
theorem PZ (l:List Int) (hl:l.length≤1000000000):∀ (d j:Nat) (m:List Int),m.length=l.length→j + d=l.length→EvP (fun k=>eB.l0 k l m (j:Int)) (·=m.take j ++ l.drop j):=by
  intro d
  induction d with
  |zero=>
    intro j m hm hj
    refine EvP.step (fun k=>eB.l0.eq_2 (k:=k) ..) (EvP.no (by omega) (EvP.ret ?_))
    rw [List.take_of_length_le (by omega),List.drop_eq_nil_of_le (by omega),List.append_nil]
  |succ d ih=>
    intro j m hm hj
    have hlt:j < l.length:=by omega
    refine EvP.step (fun k=>eB.l0.eq_2 (k:=k) ..) (EvP.yes (by omega) (EvP.yes (by omega) (EvP.yes (by omega) ?_)))
    rw [w64 (by omega) (by omega),Int.toNat_natCast,xP l j hlt]
    refine (ih (j + 1) (m.set j l[j]) (by rw [List.length_set];exact hm) (by omega)).mono fun a ha=>?_
    rw [ha,List.take_succ_eq_append_getElem (by rw [List.length_set];omega),List.getElem_set_self,List.take_set_of_le (by omega),List.append_assoc,List.drop_eq_getElem_cons hlt]
    rfl
theorem PY (l:List Int) (hl:l.length≤1000000000):EvP (fun k=>eB.f k l) (·=l):=by
  unfold eB.f
  refine EvP.yes (by omega) (EvP.yes (by omega) ?_)
  exact PZ l hl l.length 0 _ (by rw [List.length_replicate];omega) (by omega)
theorem SI (l:List Int) (hl:l.length≤1000000000):gD.f l=some l:=by
 unfold gD.f
 simp only [Option.bind_some,List.length_nil,List.nil_append]
 rw [if_pos (by omega)]
theorem PU (l:List Int) (n:Int) (h1:0≤n) (h2:n≤9223372036854775807) (hl:l.length≤9223372036854775807):lY.f l n=some (if n - l.length < 0 then -1 else n - l.length):=by
 unfold lY.f
 rw [w64 (by omega) (by omega)]
 by_cases h:n - (l.length:Int) < 0
 ·rw [if_pos h,if_pos h]
 ·rw [if_neg h,if_neg h]
inductive X where
 |num (n:Int)
 |var (v:Int)
 |bin (op:Int) (a b:X)
namespace X
def ok:X→Prop
 |num n=>0≤n∧n≤99999
 |var v=>0≤v∧v < 4
 |bin op a b=>(1≤op∧op≤12)∧a.ok∧b.ok
def depth:X→Nat
 |num _=>1
 |var _=>1
 |bin _ a b=>max a.depth b.depth + 1
def size:X→Nat
 |num _=>1
 |var _=>1
 |bin _ a b=>a.size + b.size + 1
def eval (g:Int→Int):X→Int
 |num n=>n
 |var v=>g v
 |bin op a b=>ap op (a.eval g) (b.eval g)
def rH (op:Int):X→X→X
 |num m,num n=>if 0≤ap op m n∧ap op m n≤99999 then num (ap op m n) else bin op (num m) (num n)
 |a,b=>bin op a b
def fold:X→X
 |num n=>num n
 |var v=>var v
 |bin op a b=>rH op a.fold b.fold
def isNum:X→Bool
 |num _=>true
 | _=>false
theorem vU:∀ x:X,x.size + 1≤2 ^ x.depth
 |num _|var _=>by simp [size,depth]
 |bin _ a b=>by
  have ha:=vU a
  have hb:=vU b
  have h1:2 ^ a.depth≤2 ^ max a.depth b.depth:=Nat.pow_le_pow_right (by omega) (Nat.le_max_left _ _)
  have h2:2 ^ b.depth≤2 ^ max a.depth b.depth:=Nat.pow_le_pow_right (by omega) (Nat.le_max_right _ _)
  simp only [size,depth,Nat.pow_succ]
  omega
theorem SV {op:Int} (ho:1≤op∧op≤12):∀ {a b:X},a.ok→b.ok→(rH op a b).ok:=by
 intro a b ha hb
 unfold rH
 split
 ·split
  ·assumption
  ·exact ⟨ho,ha,hb⟩
 ·exact ⟨ho,ha,hb⟩
theorem oI:∀ x:X,x.ok→x.fold.ok
 |num _,h=>h
 |var _,h=>h
 |bin _ a b,h=>SV h.1 (oI a h.2.1) (oI b h.2.2)
theorem IW (op:Int) (a b:X):(rH op a b).depth≤max a.depth b.depth + 1:=by
 unfold rH
 split
 ·split
  ·simp [depth]
  ·exact Nat.le_refl _
 ·exact Nat.le_refl _
theorem vO:∀ x:X,x.fold.depth≤x.depth
 |num _=>Nat.le_refl _
 |var _=>Nat.le_refl _
 |bin op a b=>by
  have ha:=vO a
  have hb:=vO b
  have h:=IW op a.fold b.fold
  simp only [fold,depth]
  omega
theorem IX {op:Int} {a b:X} (h:∀ m n,a=num m→b=num n→¬ (0≤ap op m n∧ap op m n≤99999)):rH op a b=bin op a b:=by
 unfold rH
 split
 ·rw [if_neg (h _ _ rfl rfl)]
 ·rfl
end X
end Go.Proofs.Ythiegfpcfedbgaa.PA

