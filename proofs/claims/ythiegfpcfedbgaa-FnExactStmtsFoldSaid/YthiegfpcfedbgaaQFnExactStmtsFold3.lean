/- Part 4. -/
import Derived.Test.YthiegfpcfedbgaaQFnExactStmtsFold2
import Derived.Laws.BitsLemmas
set_option maxHeartbeats 8000000
set_option maxRecDepth 100000
namespace Go.Proofs.Ythiegfpcfedbgaa.PA
open Go.RowKit Go.Proofs.YthiegfpcfedbgaaW.PrintWords Go.Proofs.YthiegfpcfedbgaaW.PrintLast Go.Proofs.YthiegfpcfedbgaaW.PrintMore
attribute [local go_sem] max2_int min2_int max_two min_two max_three min_three max_four min_four
set_option linter.unusedVariables false
set_option linter.unusedSimpArgs false
theorem aT.mono_l:∀ k,(∀ y0 y1,LeO (aT.f k y0 y1) (aT.f (k + 1) y0 y1))∧(∀ y0 y1 y2,LeO (aT.l0 k y0 y1 y2) (aT.l0 (k + 1) y0 y1 y2))
 |0=>⟨fun _ _ r h=>by simp [aT.f] at h,fun _ _ _ r h=>by simp [aT.l0] at h⟩
 |k + 1=>by
  obtain ⟨ih0,ih1⟩:=aT.mono_l k
  refine ⟨?_,?_⟩
  ·intro y0 y1
   unfold aT.f
   exact mo_
  ·intro y0 y1 y2
   unfold aT.l0
   exact mo_
theorem aT.mono:∀ a0 a1 k,LeO (aT.f k a0 a1) (aT.f (k + 1) a0 a1):=by
 intro a0 a1 k
 obtain ⟨ih0,ih1⟩:=aT.mono_l k
 exact ih0 a0 a1
theorem aT.calls (k:Nat):∀ (A0:Option Addr) (c0:Nat) (l0:List (S28)) (a1:Int) (r:Int) (w:World) (hr0:Kd.C k28 w A0 l0.length l0) (hc0:l0.length≤c0) (h:aT.f k l0 a1=some r),
  Calls Try.prog 35 #[.slice A0 l0.length c0, .int .i64 a1] w fun e w'=>e= .returned (.int .i64 r)∧fC w w':=by
 induction k using Nat.strongRecOn with
 | _ k ih=>
 intro A0 c0 l0 a1 r w hr0 hc0 h
 cases k with
 |zero=>exact absurd h (by simp [aT.f])
 |succ k=>
 simp only [aT.f] at h
 have jq:=am hr0
 have jM:=am hc0
 clear hr0 hc0
 have H:(aT.l0 k l0 a1 0)=some r:=h
 clear h
 have H':=am H
 clear H
 go_enter Try.func35,Try.ntmps35
 go_wp2
 go_loopg [1,5] k (fun kq v1 v5 w'=>∃ (j4:Int) (j3:Int),v1= .int .i64 j4∧v5= .int .i64 j3∧Aside0 (aT.l0 kq l0 j4 j3=some r)∧Aside0 (kq≤k)∧fC w w')
 case atStart=>exact ⟨(a1),(0),sd_,sd_,H',⟨Nat.le_refl _⟩,eO⟩
 case round=>
  clear H'
  obtain ⟨j4,j3,rfl,rfl,HA,jD,⟨m1,rfl⟩⟩:=hrel
  cases gk with
  |zero=>exact absurd HA.out (by simp [aT.l0])
  |succ k1=>
   have H:=HA.out
   clear HA
   simp only [aT.l0] at H
   by_cases c3:j3 < (l0.length:Int)
   ·rw [if_pos c3] at H
    have jE:decide (j3 < (l0.length:Int))=true:=decide_eq_true c3
    clear c3
    by_cases c4:0≤j3
    ·rw [if_pos c4] at H
     have jL:decide (0≤j3)=true:=decide_eq_true c4
     clear c4
     by_cases c5:((aW l0 j3).f0)=j4
     ·rw [if_pos c5] at H
      have jF:(((aW l0 j3).f0) == j4)=true:=beq_iff_eq.mpr c5
      have jG:(((aW l0 j3).f0) != j4)=false:=bne_eq_false_iff_eq.mpr c5
      clear c5
      by_cases c6:((aW l0 j3).f1)=(wrap64 (j4 + 1))
      ·rw [if_pos c6] at H
       have jH:(((aW l0 j3).f1) == (wrap64 (j4 + 1)))=true:=beq_iff_eq.mpr c6
       have jI:(((aW l0 j3).f1) != (wrap64 (j4 + 1)))=false:=bne_eq_false_iff_eq.mpr c6
       clear c6
       obtain ⟨jz,A7,H⟩:=bsa H
       (try dsimp only at H)
       by_cases c8:jz < 0
       ·rw [if_pos c8] at H
        have jJ:decide (jz < 0)=true:=decide_eq_true c8
        clear c8
        obtain rfl:=Option.some.inj H
        have ja:0≤(j3:Int):=of_decide_eq_true bR
        have jb:j3 < (l0.length:Int):=of_decide_eq_true bR
        obtain ⟨j7,j8,j9,jt,jc,jd,j5,hl21_2,hi21_2⟩:=gJ jq.out j3 ja jb
        cases jt
        have je:=am hi21_2
        have jf:=am hl21_2
        clear hi21_2 hl21_2
        replace ja:=eq_true ja
        replace jb:=eq_true jb
        have jj:0≤(j3:Int):=of_decide_eq_true bR
        have jk:j3 < (l0.length:Int):=of_decide_eq_true bR
        obtain ⟨jl,jr,js,jA,jm,jn,j6,hl22_2,hi22_2⟩:=gJ jq.out j3 jj jk
        obtain rfl:j7=jl:=(by injection jA)
        have jo:=am hi22_2
        have jp:=am hl22_2
        clear hi22_2 hl22_2
        replace jj:=eq_true jj
        replace jk:=eq_true jk
        have ea_:=Option.some.inj (j5.symm.trans j6)
        injection ea_ with ea_ en_ ec_
        subst ea_
        subst ec_
        clear en_
        have ju:0≤(j3:Int):=of_decide_eq_true bR
        have jv:j3 < (l0.length:Int):=of_decide_eq_true bR
        obtain ⟨jw,jB,jC,jK,jx,jy,jg,hl23_2,hi23_2⟩:=gJ jq.out j3 ju jv
        obtain rfl:j7=jw:=(by injection jK)
        have jh:=am hi23_2
        have ji:=am hl23_2
        clear hi23_2 hl23_2
        replace ju:=eq_true ju
        replace jv:=eq_true jv
        have ea_:=Option.some.inj (j5.symm.trans jg)
        injection ea_ with ea_ en_ ec_
        subst ea_
        subst ec_
        clear en_
        go_wp2_with (first|((with_reducible refine aD (f:=35) rfl ?_);refine aM (some 36) rfl rfl Try.func35 (by kernel_rfl) rfl #[.slice j8 ((aW l0 j3).f2).length j9, .int .i64 (wrap64 ((wrap64 (j4 + 1)) + 1))] rfl dB ?_;(with_reducible refine (ih k1 (by have:=jD.out;omega) _ _ ((aW l0 j3).f2) (wrap64 ((wrap64 (j4 + 1)) + 1)) jz _ (aC_ jh.out) ji.out A7.out).mono ?_);rintro e w' ⟨rfl,⟨nd,rfl⟩⟩;refine ⟨_,rfl,?_⟩))
        go_ret
        exact ⟨sd_,eO⟩
       rw [if_neg c8] at H
       have jJ:decide (jz < 0)=false:=decide_eq_false c8
       clear c8
       have H':=am H
       clear H
       have ja:0≤(j3:Int):=of_decide_eq_true bR
       have jb:j3 < (l0.length:Int):=of_decide_eq_true bR
       obtain ⟨j7,j8,j9,jt,jc,jd,j5,hl21_2,hi21_2⟩:=gJ jq.out j3 ja jb
       cases jt
       have je:=am hi21_2
       have jf:=am hl21_2
       clear hi21_2 hl21_2
       replace ja:=eq_true ja
       replace jb:=eq_true jb
       have jj:0≤(j3:Int):=of_decide_eq_true bR
       have jk:j3 < (l0.length:Int):=of_decide_eq_true bR
       obtain ⟨jl,jr,js,jA,jm,jn,j6,hl22_2,hi22_2⟩:=gJ jq.out j3 jj jk
       obtain rfl:j7=jl:=(by injection jA)
       have jo:=am hi22_2
       have jp:=am hl22_2
       clear hi22_2 hl22_2
       replace jj:=eq_true jj
       replace jk:=eq_true jk
       have ea_:=Option.some.inj (j5.symm.trans j6)
       injection ea_ with ea_ en_ ec_
       subst ea_
       subst ec_
       clear en_
       have ju:0≤(j3:Int):=of_decide_eq_true bR
       have jv:j3 < (l0.length:Int):=of_decide_eq_true bR
       obtain ⟨jw,jB,jC,jK,jx,jy,jg,hl23_2,hi23_2⟩:=gJ jq.out j3 ju jv
       obtain rfl:j7=jw:=(by injection jK)
       have jh:=am hi23_2
       have ji:=am hl23_2
       clear hi23_2 hl23_2
       replace ju:=eq_true ju
       replace jv:=eq_true jv
       have ea_:=Option.some.inj (j5.symm.trans jg)
       injection ea_ with ea_ en_ ec_
       subst ea_
       subst ec_
       clear en_
       go_wp2_with (first|((with_reducible refine aD (f:=35) rfl ?_);refine aM (some 36) rfl rfl Try.func35 (by kernel_rfl) rfl #[.slice j8 ((aW l0 j3).f2).length j9, .int .i64 (wrap64 ((wrap64 (j4 + 1)) + 1))] rfl dB ?_;(with_reducible refine (ih k1 (by have:=jD.out;omega) _ _ ((aW l0 j3).f2) (wrap64 ((wrap64 (j4 + 1)) + 1)) jz _ (aC_ jh.out) ji.out A7.out).mono ?_);rintro e w' ⟨rfl,⟨nd,rfl⟩⟩;refine ⟨_,rfl,?_⟩))
       go_roundg k1
       case measure=>have:=jD.out;omega
       case rel=>exact ⟨(jz),(wrap64 (j3 + 1)),sd_,sd_,H',⟨by have:=jD.out;omega⟩,eO⟩
      rw [if_neg c6] at H
      have jH:(((aW l0 j3).f1) == (wrap64 (j4 + 1)))=false:=beq_eq_false_iff_ne.mpr c6
      have jI:(((aW l0 j3).f1) != (wrap64 (j4 + 1)))=true:=bne_iff_ne.mpr c6
      obtain rfl:=Option.some.inj H
      have ja:0≤(j3:Int):=of_decide_eq_true bR
      have jb:j3 < (l0.length:Int):=of_decide_eq_true bR
      obtain ⟨j7,j8,j9,jt,jc,jd,j5,hl21_2,hi21_2⟩:=gJ jq.out j3 ja jb
      cases jt
      have je:=am hi21_2
      have jf:=am hl21_2
      clear hi21_2 hl21_2
      replace ja:=eq_true ja
      replace jb:=eq_true jb
      have jj:0≤(j3:Int):=of_decide_eq_true bR
      have jk:j3 < (l0.length:Int):=of_decide_eq_true bR
      obtain ⟨jl,jr,js,jA,jm,jn,j6,hl22_2,hi22_2⟩:=gJ jq.out j3 jj jk
      obtain rfl:j7=jl:=(by injection jA)
      have jo:=am hi22_2
      have jp:=am hl22_2
      clear hi22_2 hl22_2
      replace jj:=eq_true jj
      replace jk:=eq_true jk
      have ea_:=Option.some.inj (j5.symm.trans j6)
      injection ea_ with ea_ en_ ec_
      subst ea_
      subst ec_
      clear en_
      go_wp2
      go_ret
      exact ⟨sd_,eO⟩
     rw [if_neg c5] at H
     have jF:(((aW l0 j3).f0) == j4)=false:=beq_eq_false_iff_ne.mpr c5
     have jG:(((aW l0 j3).f0) != j4)=true:=bne_iff_ne.mpr c5
     obtain rfl:=Option.some.inj H
     have ja:0≤(j3:Int):=of_decide_eq_true bR
     have jb:j3 < (l0.length:Int):=of_decide_eq_true bR
     obtain ⟨j7,j8,j9,jt,jc,jd,j5,hl21_2,hi21_2⟩:=gJ jq.out j3 ja jb
     cases jt
     have je:=am hi21_2
     have jf:=am hl21_2
     clear hi21_2 hl21_2
     replace ja:=eq_true ja
     replace jb:=eq_true jb
     go_wp2
     go_ret
     exact ⟨sd_,eO⟩
    rw [if_neg c4] at H
    exact absurd H (by simp)
   rw [if_neg c3] at H
   have jE:decide (j3 < (l0.length:Int))=false:=decide_eq_false c3
   clear c3
   obtain rfl:=Option.some.inj H
   go_wp2
   go_ret
   exact ⟨sd_,eO⟩
theorem bA.mono_l:∀ k,(∀ y0 y1,LeO (bA.f k y0 y1) (bA.f (k + 1) y0 y1))∧(∀ y0 y1 y2,LeO (bA.l0 k y0 y1 y2) (bA.l0 (k + 1) y0 y1 y2))
 |0=>⟨fun _ _ r h=>by simp [bA.f] at h,fun _ _ _ r h=>by simp [bA.l0] at h⟩
 |k + 1=>by
  obtain ⟨ih0,ih1⟩:=bA.mono_l k
  refine ⟨?_,?_⟩
  ·intro y0 y1
   unfold bA.f
   have m0:=@aT.mono
   exact mo_
  ·intro y0 y1 y2
   unfold bA.l0
   have m0:=@aT.mono
   exact mo_
theorem bA.mono:∀ a0 a1 k,LeO (bA.f k a0 a1) (bA.f (k + 1) a0 a1):=by
 intro a0 a1 k
 obtain ⟨ih0,ih1⟩:=bA.mono_l k
 exact ih0 a0 a1
theorem bA.calls (k:Nat):∀ (A0:Option Addr) (c0:Nat) (l0:List (S70)) (a1:Int) (r:Int) (w:World) (hr0:Kd.C k70 w A0 l0.length l0) (hc0:l0.length≤c0) (h:bA.f k l0 a1=some r),
  Calls Try.prog 19 #[.slice A0 l0.length c0, .int .i64 a1] w fun e w'=>e= .returned (.int .i64 r)∧fC w w':=by
 induction k using Nat.strongRecOn with
 | _ k ih=>
 intro A0 c0 l0 a1 r w hr0 hc0 h
 cases k with
 |zero=>exact absurd h (by simp [bA.f])
 |succ k=>
 simp only [bA.f] at h
 have ji:=am hr0
 have JD:=am hc0
 clear hr0 hc0
 have H:(bA.l0 k l0 a1 0)=some r:=h
 clear h
 have H':=am H
 clear H
 go_enter Try.func19,Try.ntmps19
 go_wp2
 go_loopg [1,5] k (fun kq v1 v5 w'=>∃ (j8:Int) (j3:Int),v1= .int .i64 j8∧v5= .int .i64 j3∧Aside0 (bA.l0 kq l0 j8 j3=some r)∧Aside0 (kq≤k)∧fC w w')
 case atStart=>exact ⟨(a1),(0),sd_,sd_,H',⟨Nat.le_refl _⟩,eO⟩
 case round=>
  clear H'
  obtain ⟨j8,j3,rfl,rfl,HA,zT,⟨m1,rfl⟩⟩:=hrel
  cases gk with
  |zero=>exact absurd HA.out (by simp [bA.l0])
  |succ k1=>
   have H:=HA.out
   clear HA
   simp only [bA.l0] at H
   by_cases c3:j3 < (l0.length:Int)
   ·rw [if_pos c3] at H
    have Jm:decide (j3 < (l0.length:Int))=true:=decide_eq_true c3
    clear c3
    by_cases c4:0≤j3
    ·rw [if_pos c4] at H
     have JC:decide (0≤j3)=true:=decide_eq_true c4
     clear c4
     by_cases c5:((aC l0 j3).f0)=j8
     ·rw [if_pos c5] at H
      have Jn:(((aC l0 j3).f0) == j8)=true:=beq_iff_eq.mpr c5
      have Jo:(((aC l0 j3).f0) != j8)=false:=bne_eq_false_iff_eq.mpr c5
      clear c5
      by_cases c6:((aC l0 j3).f1)=(wrap64 (j8 + 1))
      ·rw [if_pos c6] at H
       have Jp:(((aC l0 j3).f1) == (wrap64 (j8 + 1)))=true:=beq_iff_eq.mpr c6
       have Jq:(((aC l0 j3).f1) != (wrap64 (j8 + 1)))=false:=bne_eq_false_iff_eq.mpr c6
       clear c6
       by_cases c7:((aC l0 j3).f2)=(wrap64 ((wrap64 (j8 + 1)) + 1))
       ·rw [if_pos c7] at H
        have Jr:(((aC l0 j3).f2) == (wrap64 ((wrap64 (j8 + 1)) + 1)))=true:=beq_iff_eq.mpr c7
        have Js:(((aC l0 j3).f2) != (wrap64 ((wrap64 (j8 + 1)) + 1)))=false:=bne_eq_false_iff_eq.mpr c7
        clear c7
        by_cases c8:((aC l0 j3).f3.f0)=(wrap64 ((wrap64 ((wrap64 (j8 + 1)) + 1)) + 1))
        ·rw [if_pos c8] at H
         have Jt:(((aC l0 j3).f3.f0) == (wrap64 ((wrap64 ((wrap64 (j8 + 1)) + 1)) + 1)))=true:=beq_iff_eq.mpr c8
         have Ju:(((aC l0 j3).f3.f0) != (wrap64 ((wrap64 ((wrap64 (j8 + 1)) + 1)) + 1)))=false:=bne_eq_false_iff_eq.mpr c8
         clear c8
         by_cases c9:((aC l0 j3).f3.f1)=(wrap64 ((wrap64 ((wrap64 ((wrap64 (j8 + 1)) + 1)) + 1)) + 1))
         ·rw [if_pos c9] at H
          have Jv:(((aC l0 j3).f3.f1) == (wrap64 ((wrap64 ((wrap64 ((wrap64 (j8 + 1)) + 1)) + 1)) + 1)))=true:=beq_iff_eq.mpr c9
          have Jw:(((aC l0 j3).f3.f1) != (wrap64 ((wrap64 ((wrap64 ((wrap64 (j8 + 1)) + 1)) + 1)) + 1)))=false:=bne_eq_false_iff_eq.mpr c9
          clear c9
          obtain ⟨zq,Jz,H⟩:=bsm H
          (try dsimp only at H)
          have Jl:=am Jz
          clear Jz
          by_cases J7:zq < 0
          ·rw [if_pos J7] at H
           have Jb:decide (zq < 0)=true:=decide_eq_true J7
           clear J7
           obtain rfl:=Option.some.inj H
           have jo:0≤(j3:Int):=of_decide_eq_true bR
           have jp:j3 < (l0.length:Int):=of_decide_eq_true bR
           obtain ⟨j7,jm,jn,jq,jr,jD,jE,qV,js,jt,ju,jv,jw,j4,j5,j6,hl24_5,hi24_5,hl24_6,hi24_6,hl24_7,hi24_7⟩:=dJ ji.out j3 jo jp
           cases qV
           have jx:=am hi24_5
           have jy:=am hl24_5
           clear hi24_5 hl24_5
           have jz:=am hi24_6
           have jA:=am hl24_6
           clear hi24_6 hl24_6
           have jB:=am hi24_7
           have jC:=am hl24_7
           clear hi24_7 hl24_7
           replace jo:=eq_true jo
           replace jp:=eq_true jp
           have jF:0≤(j3:Int):=of_decide_eq_true bR
           have jG:j3 < (l0.length:Int):=of_decide_eq_true bR
           obtain ⟨jH,qc,qd,qe,qf,qg,qh,z2,jI,jJ,jK,jL,jM,j9,ja,jb,hl25_5,hi25_5,hl25_6,hi25_6,hl25_7,hi25_7⟩:=dJ ji.out j3 jF jG
           obtain rfl:j7=jH:=(by injection z2)
           have jN:=am hi25_5
           have jO:=am hl25_5
           clear hi25_5 hl25_5
           have jP:=am hi25_6
           have jQ:=am hl25_6
           clear hi25_6 hl25_6
           have jR:=am hi25_7
           have jS:=am hl25_7
           clear hi25_7 hl25_7
           replace jF:=eq_true jF
           replace jG:=eq_true jG
           have ea_:=Option.some.inj (j4.symm.trans j9)
           injection ea_ with ea_ en_ ec_
           subst ea_
           subst ec_
           clear en_
           have ea_:=Option.some.inj (j5.symm.trans ja)
           injection ea_ with ea_ en_ ec_
           subst ea_
           subst ec_
           clear en_
           have ea_:=Option.some.inj (j6.symm.trans jb)
           injection ea_ with ea_ en_ ec_
           subst ea_
           subst ec_
           clear en_
           have jY:0≤(j3:Int):=of_decide_eq_true bR
           have jZ:j3 < (l0.length:Int):=of_decide_eq_true bR
           obtain ⟨q0,qB,qC,qD,qE,qF,qG,zr,q1,q2,q3,q4,q5,jc,jd,je,hl26_5,hi26_5,hl26_6,hi26_6,hl26_7,hi26_7⟩:=dJ ji.out j3 jY jZ
           obtain rfl:j7=q0:=(by injection zr)
           have q6:=am hi26_5
           have q7:=am hl26_5
           clear hi26_5 hl26_5
           have q8:=am hi26_6
           have q9:=am hl26_6
           clear hi26_6 hl26_6
           have qa:=am hi26_7
           have qb:=am hl26_7
           clear hi26_7 hl26_7
           replace jY:=eq_true jY
           replace jZ:=eq_true jZ
           have ea_:=Option.some.inj (j4.symm.trans jc)
           injection ea_ with ea_ en_ ec_
           subst ea_
           subst ec_
           clear en_
           have ea_:=Option.some.inj (j5.symm.trans jd)
           injection ea_ with ea_ en_ ec_
           subst ea_
           subst ec_
           clear en_
           have ea_:=Option.some.inj (j6.symm.trans je)
           injection ea_ with ea_ en_ ec_
           subst ea_
           subst ec_
           clear en_
           have qi:0≤(j3:Int):=of_decide_eq_true bR
           have qj:j3 < (l0.length:Int):=of_decide_eq_true bR
           obtain ⟨qk,qW,qX,qY,qZ,z0,z1,zs,ql,qm,qn,qo,qp,jf,jg,jh,hl27_5,hi27_5,hl27_6,hi27_6,hl27_7,hi27_7⟩:=dJ ji.out j3 qi qj
           obtain rfl:j7=qk:=(by injection zs)
           have qq:=am hi27_5
           have qr:=am hl27_5
           clear hi27_5 hl27_5
           have qs:=am hi27_6
           have qt:=am hl27_6
           clear hi27_6 hl27_6
           have qu:=am hi27_7
           have qv:=am hl27_7
           clear hi27_7 hl27_7
           replace qi:=eq_true qi
           replace qj:=eq_true qj
           have ea_:=Option.some.inj (j4.symm.trans jf)
           injection ea_ with ea_ en_ ec_
           subst ea_
           subst ec_
           clear en_
           have ea_:=Option.some.inj (j5.symm.trans jg)
           injection ea_ with ea_ en_ ec_
           subst ea_
           subst ec_
           clear en_
           have ea_:=Option.some.inj (j6.symm.trans jh)
           injection ea_ with ea_ en_ ec_
           subst ea_
           subst ec_
           clear en_
           have qH:0≤(j3:Int):=of_decide_eq_true bR
           have qI:j3 < (l0.length:Int):=of_decide_eq_true bR
           obtain ⟨qJ,zk,zl,zm,zn,zo,zp,zM,qK,qL,qM,qN,qO,jj,jk,jl,hl28_5,hi28_5,hl28_6,hi28_6,hl28_7,hi28_7⟩:=dJ ji.out j3 qH qI
           obtain rfl:j7=qJ:=(by injection zM)
           have qP:=am hi28_5
           have qQ:=am hl28_5
           clear hi28_5 hl28_5
           have qR:=am hi28_6
           have qS:=am hl28_6
           clear hi28_6 hl28_6
           have qT:=am hi28_7
           have qU:=am hl28_7
           clear hi28_7 hl28_7
           replace qH:=eq_true qH
           replace qI:=eq_true qI
           have ea_:=Option.some.inj (j4.symm.trans jj)
           injection ea_ with ea_ en_ ec_
           subst ea_
           subst ec_
           clear en_
           have ea_:=Option.some.inj (j5.symm.trans jk)
           injection ea_ with ea_ en_ ec_
           subst ea_
           subst ec_
           clear en_
           have ea_:=Option.some.inj (j6.symm.trans jl)
           injection ea_ with ea_ en_ ec_
           subst ea_
           subst ec_
           clear en_
           have z3:0≤(j3:Int):=of_decide_eq_true bR
           have z4:j3 < (l0.length:Int):=of_decide_eq_true bR
           obtain ⟨z5,zt,zu,zv,zw,zx,zy,zU,z6,z7,z8,z9,za,jT,jU,jV,hl29_5,hi29_5,hl29_6,hi29_6,hl29_7,hi29_7⟩:=dJ ji.out j3 z3 z4
           obtain rfl:j7=z5:=(by injection zU)
           have jW:=am hi29_5
           have jX:=am hl29_5
           clear hi29_5 hl29_5
           have zb:=am hi29_6
           have zc:=am hl29_6
           clear hi29_6 hl29_6
           have zd:=am hi29_7
           have ze:=am hl29_7
           clear hi29_7 hl29_7
           replace z3:=eq_true z3
           replace z4:=eq_true z4
           have ea_:=Option.some.inj (j4.symm.trans jT)
           injection ea_ with ea_ en_ ec_
           subst ea_
           subst ec_
           clear en_
           have ea_:=Option.some.inj (j5.symm.trans jU)
           injection ea_ with ea_ en_ ec_
           subst ea_
           subst ec_
           clear en_
           have ea_:=Option.some.inj (j6.symm.trans jV)
           injection ea_ with ea_ en_ ec_
           subst ea_
           subst ec_
           clear en_
           go_wp2_with (first|((with_reducible refine aD (f:=35) rfl ?_);refine aM (some 66) rfl rfl Try.func35 (by kernel_rfl) rfl #[.slice jm ((aC l0 j3).f3.f2).length jn, .int .i64 (wrap64 ((wrap64 ((wrap64 ((wrap64 ((wrap64 (j8 + 1)) + 1)) + 1)) + 1)) + 1))] rfl dB ?_;(with_reducible refine (aT.calls k1 _ _ ((aC l0 j3).f3.f2) (wrap64 ((wrap64 ((wrap64 ((wrap64 ((wrap64 (j8 + 1)) + 1)) + 1)) + 1)) + 1)) zq _ (aC_ jW.out) jX.out Jl.out).mono ?_);rintro e w' ⟨rfl,⟨nd,rfl⟩⟩;refine ⟨_,rfl,?_⟩))
           go_ret
           exact ⟨sd_,eO⟩
          rw [if_neg J7] at H
          have Jb:decide (zq < 0)=false:=decide_eq_false J7
          clear J7
          obtain ⟨zL,Jx,H⟩:=bsa H
          (try dsimp only at H)
          by_cases J8:zL < 0
          ·rw [if_pos J8] at H
           have Jc:decide (zL < 0)=true:=decide_eq_true J8
           clear J8
           obtain rfl:=Option.some.inj H
           have jo:0≤(j3:Int):=of_decide_eq_true bR
           have jp:j3 < (l0.length:Int):=of_decide_eq_true bR
           obtain ⟨j7,jm,jn,jq,jr,jD,jE,qV,js,jt,ju,jv,jw,j4,j5,j6,hl24_5,hi24_5,hl24_6,hi24_6,hl24_7,hi24_7⟩:=dJ ji.out j3 jo jp
           cases qV
           have jx:=am hi24_5
           have jy:=am hl24_5
           clear hi24_5 hl24_5
           have jz:=am hi24_6
           have jA:=am hl24_6
           clear hi24_6 hl24_6
           have jB:=am hi24_7
           have jC:=am hl24_7
           clear hi24_7 hl24_7
           replace jo:=eq_true jo
           replace jp:=eq_true jp
           have jF:0≤(j3:Int):=of_decide_eq_true bR
           have jG:j3 < (l0.length:Int):=of_decide_eq_true bR
           obtain ⟨jH,qc,qd,qe,qf,qg,qh,z2,jI,jJ,jK,jL,jM,j9,ja,jb,hl25_5,hi25_5,hl25_6,hi25_6,hl25_7,hi25_7⟩:=dJ ji.out j3 jF jG
           obtain rfl:j7=jH:=(by injection z2)
           have jN:=am hi25_5
           have jO:=am hl25_5
           clear hi25_5 hl25_5
           have jP:=am hi25_6
           have jQ:=am hl25_6
           clear hi25_6 hl25_6
           have jR:=am hi25_7
           have jS:=am hl25_7
           clear hi25_7 hl25_7
           replace jF:=eq_true jF
           replace jG:=eq_true jG
           have ea_:=Option.some.inj (j4.symm.trans j9)
           injection ea_ with ea_ en_ ec_
           subst ea_
           subst ec_
           clear en_
           have ea_:=Option.some.inj (j5.symm.trans ja)
           injection ea_ with ea_ en_ ec_
           subst ea_
           subst ec_
           clear en_
           have ea_:=Option.some.inj (j6.symm.trans jb)
           injection ea_ with ea_ en_ ec_
           subst ea_
           subst ec_
           clear en_
           have jY:0≤(j3:Int):=of_decide_eq_true bR
           have jZ:j3 < (l0.length:Int):=of_decide_eq_true bR
           obtain ⟨q0,qB,qC,qD,qE,qF,qG,zr,q1,q2,q3,q4,q5,jc,jd,je,hl26_5,hi26_5,hl26_6,hi26_6,hl26_7,hi26_7⟩:=dJ ji.out j3 jY jZ
           obtain rfl:j7=q0:=(by injection zr)
           have q6:=am hi26_5
           have q7:=am hl26_5
           clear hi26_5 hl26_5
           have q8:=am hi26_6
           have q9:=am hl26_6
           clear hi26_6 hl26_6
           have qa:=am hi26_7
           have qb:=am hl26_7
           clear hi26_7 hl26_7
           replace jY:=eq_true jY
           replace jZ:=eq_true jZ
           have ea_:=Option.some.inj (j4.symm.trans jc)
           injection ea_ with ea_ en_ ec_
           subst ea_
           subst ec_
           clear en_
           have ea_:=Option.some.inj (j5.symm.trans jd)
           injection ea_ with ea_ en_ ec_
           subst ea_
           subst ec_
           clear en_
           have ea_:=Option.some.inj (j6.symm.trans je)
           injection ea_ with ea_ en_ ec_
           subst ea_
           subst ec_
           clear en_
           have qi:0≤(j3:Int):=of_decide_eq_true bR
           have qj:j3 < (l0.length:Int):=of_decide_eq_true bR
           obtain ⟨qk,qW,qX,qY,qZ,z0,z1,zs,ql,qm,qn,qo,qp,jf,jg,jh,hl27_5,hi27_5,hl27_6,hi27_6,hl27_7,hi27_7⟩:=dJ ji.out j3 qi qj
           obtain rfl:j7=qk:=(by injection zs)
           have qq:=am hi27_5
           have qr:=am hl27_5
           clear hi27_5 hl27_5
           have qs:=am hi27_6
           have qt:=am hl27_6
           clear hi27_6 hl27_6
           have qu:=am hi27_7
           have qv:=am hl27_7
           clear hi27_7 hl27_7
           replace qi:=eq_true qi
           replace qj:=eq_true qj
           have ea_:=Option.some.inj (j4.symm.trans jf)
           injection ea_ with ea_ en_ ec_
           subst ea_
           subst ec_
           clear en_
           have ea_:=Option.some.inj (j5.symm.trans jg)
           injection ea_ with ea_ en_ ec_
           subst ea_
           subst ec_
           clear en_
           have ea_:=Option.some.inj (j6.symm.trans jh)
           injection ea_ with ea_ en_ ec_
           subst ea_
           subst ec_
           clear en_
           have qH:0≤(j3:Int):=of_decide_eq_true bR
           have qI:j3 < (l0.length:Int):=of_decide_eq_true bR
           obtain ⟨qJ,zk,zl,zm,zn,zo,zp,zM,qK,qL,qM,qN,qO,jj,jk,jl,hl28_5,hi28_5,hl28_6,hi28_6,hl28_7,hi28_7⟩:=dJ ji.out j3 qH qI
           obtain rfl:j7=qJ:=(by injection zM)
           have qP:=am hi28_5
           have qQ:=am hl28_5
           clear hi28_5 hl28_5
           have qR:=am hi28_6
           have qS:=am hl28_6
           clear hi28_6 hl28_6
           have qT:=am hi28_7
           have qU:=am hl28_7
           clear hi28_7 hl28_7
           replace qH:=eq_true qH
           replace qI:=eq_true qI
           have ea_:=Option.some.inj (j4.symm.trans jj)
           injection ea_ with ea_ en_ ec_
           subst ea_
           subst ec_
           clear en_
           have ea_:=Option.some.inj (j5.symm.trans jk)
           injection ea_ with ea_ en_ ec_
           subst ea_
           subst ec_
           clear en_
           have ea_:=Option.some.inj (j6.symm.trans jl)
           injection ea_ with ea_ en_ ec_
           subst ea_
           subst ec_
           clear en_
           have z3:0≤(j3:Int):=of_decide_eq_true bR
           have z4:j3 < (l0.length:Int):=of_decide_eq_true bR
           obtain ⟨z5,zt,zu,zv,zw,zx,zy,zU,z6,z7,z8,z9,za,jT,jU,jV,hl29_5,hi29_5,hl29_6,hi29_6,hl29_7,hi29_7⟩:=dJ ji.out j3 z3 z4
           obtain rfl:j7=z5:=(by injection zU)
           have jW:=am hi29_5
           have jX:=am hl29_5
           clear hi29_5 hl29_5
           have zb:=am hi29_6
           have zc:=am hl29_6
           clear hi29_6 hl29_6
           have zd:=am hi29_7
           have ze:=am hl29_7
           clear hi29_7 hl29_7
           replace z3:=eq_true z3
           replace z4:=eq_true z4
           have ea_:=Option.some.inj (j4.symm.trans jT)
           injection ea_ with ea_ en_ ec_
           subst ea_
           subst ec_
           clear en_
           have ea_:=Option.some.inj (j5.symm.trans jU)
           injection ea_ with ea_ en_ ec_
           subst ea_
           subst ec_
           clear en_
           have ea_:=Option.some.inj (j6.symm.trans jV)
           injection ea_ with ea_ en_ ec_
           subst ea_
           subst ec_
           clear en_
           go_wp2_with (first|((with_reducible refine aD (f:=35) rfl ?_);refine aM (some 66) rfl rfl Try.func35 (by kernel_rfl) rfl #[.slice jm ((aC l0 j3).f3.f2).length jn, .int .i64 (wrap64 ((wrap64 ((wrap64 ((wrap64 ((wrap64 (j8 + 1)) + 1)) + 1)) + 1)) + 1))] rfl dB ?_;(with_reducible refine (aT.calls k1 _ _ ((aC l0 j3).f3.f2) (wrap64 ((wrap64 ((wrap64 ((wrap64 ((wrap64 (j8 + 1)) + 1)) + 1)) + 1)) + 1)) zq _ (aC_ jW.out) jX.out Jl.out).mono ?_);rintro e w' ⟨rfl,⟨nd,rfl⟩⟩;refine ⟨_,rfl,?_⟩;have zz:0≤(j3:Int):=of_decide_eq_true bR;have zA:j3 < (l0.length:Int):=of_decide_eq_true bR;obtain ⟨zB,zN,zO,zP,zQ,zR,zS,Jd,zC,zD,zE,zF,zG,qw,qx,qy,hl31_5,hi31_5,hl31_6,hi31_6,hl31_7,hi31_7⟩:=dJ ji.out j3 zz zA;obtain rfl:j7=zB:=(by injection Jd);have zH:=am hi31_5;have zI:=am hl31_5;clear hi31_5 hl31_5;have qz:=am hi31_6;have qA:=am hl31_6;clear hi31_6 hl31_6;have zJ:=am hi31_7;have zK:=am hl31_7;clear hi31_7 hl31_7;replace zz:=eq_true zz;replace zA:=eq_true zA;have ea_:=Option.some.inj (j4.symm.trans qw);injection ea_ with ea_ en_ ec_;subst ea_;subst ec_;clear en_;have ea_:=Option.some.inj (j5.symm.trans qx);injection ea_ with ea_ en_ ec_;subst ea_;subst ec_;clear en_;have ea_:=Option.some.inj (j6.symm.trans qy);injection ea_ with ea_ en_ ec_;subst ea_;subst ec_;clear en_)|((with_reducible refine aD (f:=19) rfl ?_);refine aM (some 75) rfl rfl Try.func19 (by kernel_rfl) rfl #[.slice jq ((aC l0 j3).f4).length jr, .int .i64 zq] rfl dB ?_;(with_reducible refine (ih k1 (by have:=zT.out;omega) _ _ ((aC l0 j3).f4) zq zL _ (aC_ qz.out) qA.out Jx.out).mono ?_);rintro e w' ⟨rfl,⟨nd,rfl⟩⟩;refine ⟨_,rfl,?_⟩))
           go_ret
           exact ⟨sd_,eO⟩
          rw [if_neg J8] at H
          have Jc:decide (zL < 0)=false:=decide_eq_false J8
          clear J8
          obtain ⟨J9,JA,H⟩:=bsm H
          (try dsimp only at H)
          have JB:=am JA
          clear JA
          by_cases Ja:J9 < 0
          ·rw [if_pos Ja] at H
           have Je:decide (J9 < 0)=true:=decide_eq_true Ja
           clear Ja
           obtain rfl:=Option.some.inj H
           have jo:0≤(j3:Int):=of_decide_eq_true bR
           have jp:j3 < (l0.length:Int):=of_decide_eq_true bR
           obtain ⟨j7,jm,jn,jq,jr,jD,jE,qV,js,jt,ju,jv,jw,j4,j5,j6,hl24_5,hi24_5,hl24_6,hi24_6,hl24_7,hi24_7⟩:=dJ ji.out j3 jo jp
           cases qV
           have jx:=am hi24_5
           have jy:=am hl24_5
           clear hi24_5 hl24_5
           have jz:=am hi24_6
           have jA:=am hl24_6
           clear hi24_6 hl24_6
           have jB:=am hi24_7
           have jC:=am hl24_7
           clear hi24_7 hl24_7
           replace jo:=eq_true jo
           replace jp:=eq_true jp
           have jF:0≤(j3:Int):=of_decide_eq_true bR
           have jG:j3 < (l0.length:Int):=of_decide_eq_true bR
           obtain ⟨jH,qc,qd,qe,qf,qg,qh,z2,jI,jJ,jK,jL,jM,j9,ja,jb,hl25_5,hi25_5,hl25_6,hi25_6,hl25_7,hi25_7⟩:=dJ ji.out j3 jF jG
           obtain rfl:j7=jH:=(by injection z2)
           have jN:=am hi25_5
           have jO:=am hl25_5
           clear hi25_5 hl25_5
           have jP:=am hi25_6
           have jQ:=am hl25_6
           clear hi25_6 hl25_6
           have jR:=am hi25_7
           have jS:=am hl25_7
           clear hi25_7 hl25_7
           replace jF:=eq_true jF
           replace jG:=eq_true jG
           have ea_:=Option.some.inj (j4.symm.trans j9)
           injection ea_ with ea_ en_ ec_
           subst ea_
           subst ec_
           clear en_
           have ea_:=Option.some.inj (j5.symm.trans ja)
           injection ea_ with ea_ en_ ec_
           subst ea_
           subst ec_
           clear en_
           have ea_:=Option.some.inj (j6.symm.trans jb)
           injection ea_ with ea_ en_ ec_
           subst ea_
           subst ec_
           clear en_
           have jY:0≤(j3:Int):=of_decide_eq_true bR
           have jZ:j3 < (l0.length:Int):=of_decide_eq_true bR
           obtain ⟨q0,qB,qC,qD,qE,qF,qG,zr,q1,q2,q3,q4,q5,jc,jd,je,hl26_5,hi26_5,hl26_6,hi26_6,hl26_7,hi26_7⟩:=dJ ji.out j3 jY jZ
           obtain rfl:j7=q0:=(by injection zr)
           have q6:=am hi26_5
           have q7:=am hl26_5
           clear hi26_5 hl26_5
           have q8:=am hi26_6
           have q9:=am hl26_6
           clear hi26_6 hl26_6
           have qa:=am hi26_7
           have qb:=am hl26_7
           clear hi26_7 hl26_7
           replace jY:=eq_true jY
           replace jZ:=eq_true jZ
           have ea_:=Option.some.inj (j4.symm.trans jc)
           injection ea_ with ea_ en_ ec_
           subst ea_
           subst ec_
           clear en_
           have ea_:=Option.some.inj (j5.symm.trans jd)
           injection ea_ with ea_ en_ ec_
           subst ea_
           subst ec_
           clear en_
           have ea_:=Option.some.inj (j6.symm.trans je)
           injection ea_ with ea_ en_ ec_
           subst ea_
           subst ec_
           clear en_
           have qi:0≤(j3:Int):=of_decide_eq_true bR
           have qj:j3 < (l0.length:Int):=of_decide_eq_true bR
           obtain ⟨qk,qW,qX,qY,qZ,z0,z1,zs,ql,qm,qn,qo,qp,jf,jg,jh,hl27_5,hi27_5,hl27_6,hi27_6,hl27_7,hi27_7⟩:=dJ ji.out j3 qi qj
           obtain rfl:j7=qk:=(by injection zs)
           have qq:=am hi27_5
           have qr:=am hl27_5
           clear hi27_5 hl27_5
           have qs:=am hi27_6
           have qt:=am hl27_6
           clear hi27_6 hl27_6
           have qu:=am hi27_7
           have qv:=am hl27_7
           clear hi27_7 hl27_7
           replace qi:=eq_true qi
           replace qj:=eq_true qj
           have ea_:=Option.some.inj (j4.symm.trans jf)
           injection ea_ with ea_ en_ ec_
           subst ea_
           subst ec_
           clear en_
           have ea_:=Option.some.inj (j5.symm.trans jg)
           injection ea_ with ea_ en_ ec_
           subst ea_
           subst ec_
           clear en_
           have ea_:=Option.some.inj (j6.symm.trans jh)
           injection ea_ with ea_ en_ ec_
           subst ea_
           subst ec_
           clear en_
           have qH:0≤(j3:Int):=of_decide_eq_true bR
           have qI:j3 < (l0.length:Int):=of_decide_eq_true bR
           obtain ⟨qJ,zk,zl,zm,zn,zo,zp,zM,qK,qL,qM,qN,qO,jj,jk,jl,hl28_5,hi28_5,hl28_6,hi28_6,hl28_7,hi28_7⟩:=dJ ji.out j3 qH qI
           obtain rfl:j7=qJ:=(by injection zM)
           have qP:=am hi28_5
           have qQ:=am hl28_5
           clear hi28_5 hl28_5
           have qR:=am hi28_6
           have qS:=am hl28_6
           clear hi28_6 hl28_6
           have qT:=am hi28_7
           have qU:=am hl28_7
           clear hi28_7 hl28_7
           replace qH:=eq_true qH
           replace qI:=eq_true qI
           have ea_:=Option.some.inj (j4.symm.trans jj)
           injection ea_ with ea_ en_ ec_
           subst ea_
           subst ec_
           clear en_
           have ea_:=Option.some.inj (j5.symm.trans jk)
           injection ea_ with ea_ en_ ec_
           subst ea_
           subst ec_
           clear en_
           have ea_:=Option.some.inj (j6.symm.trans jl)
           injection ea_ with ea_ en_ ec_
           subst ea_
           subst ec_
           clear en_
           have z3:0≤(j3:Int):=of_decide_eq_true bR
           have z4:j3 < (l0.length:Int):=of_decide_eq_true bR
           obtain ⟨z5,zt,zu,zv,zw,zx,zy,zU,z6,z7,z8,z9,za,jT,jU,jV,hl29_5,hi29_5,hl29_6,hi29_6,hl29_7,hi29_7⟩:=dJ ji.out j3 z3 z4
           obtain rfl:j7=z5:=(by injection zU)
           have jW:=am hi29_5
           have jX:=am hl29_5
           clear hi29_5 hl29_5
           have zb:=am hi29_6
           have zc:=am hl29_6
           clear hi29_6 hl29_6
           have zd:=am hi29_7
           have ze:=am hl29_7
           clear hi29_7 hl29_7
           replace z3:=eq_true z3
           replace z4:=eq_true z4
           have ea_:=Option.some.inj (j4.symm.trans jT)
           injection ea_ with ea_ en_ ec_
           subst ea_
           subst ec_
           clear en_
           have ea_:=Option.some.inj (j5.symm.trans jU)
           injection ea_ with ea_ en_ ec_
           subst ea_
           subst ec_
           clear en_
           have ea_:=Option.some.inj (j6.symm.trans jV)
           injection ea_ with ea_ en_ ec_
           subst ea_
           subst ec_
           clear en_
           go_wp2_with (first|((with_reducible refine aD (f:=35) rfl ?_);refine aM (some 66) rfl rfl Try.func35 (by kernel_rfl) rfl #[.slice jm ((aC l0 j3).f3.f2).length jn, .int .i64 (wrap64 ((wrap64 ((wrap64 ((wrap64 ((wrap64 (j8 + 1)) + 1)) + 1)) + 1)) + 1))] rfl dB ?_;(with_reducible refine (aT.calls k1 _ _ ((aC l0 j3).f3.f2) (wrap64 ((wrap64 ((wrap64 ((wrap64 ((wrap64 (j8 + 1)) + 1)) + 1)) + 1)) + 1)) zq _ (aC_ jW.out) jX.out Jl.out).mono ?_);rintro e w' ⟨rfl,⟨nd,rfl⟩⟩;refine ⟨_,rfl,?_⟩;have zz:0≤(j3:Int):=of_decide_eq_true bR;have zA:j3 < (l0.length:Int):=of_decide_eq_true bR;obtain ⟨zB,zN,zO,zP,zQ,zR,zS,Jd,zC,zD,zE,zF,zG,qw,qx,qy,hl31_5,hi31_5,hl31_6,hi31_6,hl31_7,hi31_7⟩:=dJ ji.out j3 zz zA;obtain rfl:j7=zB:=(by injection Jd);have zH:=am hi31_5;have zI:=am hl31_5;clear hi31_5 hl31_5;have qz:=am hi31_6;have qA:=am hl31_6;clear hi31_6 hl31_6;have zJ:=am hi31_7;have zK:=am hl31_7;clear hi31_7 hl31_7;replace zz:=eq_true zz;replace zA:=eq_true zA;have ea_:=Option.some.inj (j4.symm.trans qw);injection ea_ with ea_ en_ ec_;subst ea_;subst ec_;clear en_;have ea_:=Option.some.inj (j5.symm.trans qx);injection ea_ with ea_ en_ ec_;subst ea_;subst ec_;clear en_;have ea_:=Option.some.inj (j6.symm.trans qy);injection ea_ with ea_ en_ ec_;subst ea_;subst ec_;clear en_)|((with_reducible refine aD (f:=19) rfl ?_);refine aM (some 75) rfl rfl Try.func19 (by kernel_rfl) rfl #[.slice jq ((aC l0 j3).f4).length jr, .int .i64 zq] rfl dB ?_;(with_reducible refine (ih k1 (by have:=zT.out;omega) _ _ ((aC l0 j3).f4) zq zL _ (aC_ qz.out) qA.out Jx.out).mono ?_);rintro e w' ⟨rfl,⟨nd,rfl⟩⟩;refine ⟨_,rfl,?_⟩;have zV:0≤(j3:Int):=of_decide_eq_true bR;have zW:j3 < (l0.length:Int):=of_decide_eq_true bR;obtain ⟨zX,Jf,Jg,Jh,Ji,Jj,Jk,Jy,zY,zZ,J0,J1,J2,zf,zg,zh,hl33_5,hi33_5,hl33_6,hi33_6,hl33_7,hi33_7⟩:=dJ ji.out j3 zV zW;obtain rfl:j7=zX:=(by injection Jy);have J3:=am hi33_5;have J4:=am hl33_5;clear hi33_5 hl33_5;have J5:=am hi33_6;have J6:=am hl33_6;clear hi33_6 hl33_6;have zi:=am hi33_7;have zj:=am hl33_7;clear hi33_7 hl33_7;replace zV:=eq_true zV;replace zW:=eq_true zW;have ea_:=Option.some.inj (j4.symm.trans zf);injection ea_ with ea_ en_ ec_;subst ea_;subst ec_;clear en_;have ea_:=Option.some.inj (j5.symm.trans zg);injection ea_ with ea_ en_ ec_;subst ea_;subst ec_;clear en_;have ea_:=Option.some.inj (j6.symm.trans zh);injection ea_ with ea_ en_ ec_;subst ea_;subst ec_;clear en_)|((with_reducible refine aD (f:=19) rfl ?_);refine aM (some 84) rfl rfl Try.func19 (by kernel_rfl) rfl #[.slice jD ((aC l0 j3).f5).length jE, .int .i64 zL] rfl dB ?_;(with_reducible refine (ih k1 (by have:=zT.out;omega) _ _ ((aC l0 j3).f5) zL J9 _ (aC_ zi.out) zj.out JB.out).mono ?_);rintro e w' ⟨rfl,⟨nd,rfl⟩⟩;refine ⟨_,rfl,?_⟩))
           go_ret
           exact ⟨sd_,eO⟩
          rw [if_neg Ja] at H
          have Je:decide (J9 < 0)=false:=decide_eq_false Ja
          clear Ja
          have H':=am H
          clear H
          have jo:0≤(j3:Int):=of_decide_eq_true bR
          have jp:j3 < (l0.length:Int):=of_decide_eq_true bR
          obtain ⟨j7,jm,jn,jq,jr,jD,jE,qV,js,jt,ju,jv,jw,j4,j5,j6,hl24_5,hi24_5,hl24_6,hi24_6,hl24_7,hi24_7⟩:=dJ ji.out j3 jo jp
          cases qV
          have jx:=am hi24_5
          have jy:=am hl24_5
          clear hi24_5 hl24_5
          have jz:=am hi24_6
          have jA:=am hl24_6
          clear hi24_6 hl24_6
          have jB:=am hi24_7
          have jC:=am hl24_7
          clear hi24_7 hl24_7
          replace jo:=eq_true jo
          replace jp:=eq_true jp
          have jF:0≤(j3:Int):=of_decide_eq_true bR
          have jG:j3 < (l0.length:Int):=of_decide_eq_true bR
          obtain ⟨jH,qc,qd,qe,qf,qg,qh,z2,jI,jJ,jK,jL,jM,j9,ja,jb,hl25_5,hi25_5,hl25_6,hi25_6,hl25_7,hi25_7⟩:=dJ ji.out j3 jF jG
          obtain rfl:j7=jH:=(by injection z2)
          have jN:=am hi25_5
          have jO:=am hl25_5
          clear hi25_5 hl25_5
          have jP:=am hi25_6
          have jQ:=am hl25_6
          clear hi25_6 hl25_6
          have jR:=am hi25_7
          have jS:=am hl25_7
          clear hi25_7 hl25_7
          replace jF:=eq_true jF
          replace jG:=eq_true jG
          have ea_:=Option.some.inj (j4.symm.trans j9)
          injection ea_ with ea_ en_ ec_
          subst ea_
          subst ec_
          clear en_
          have ea_:=Option.some.inj (j5.symm.trans ja)
          injection ea_ with ea_ en_ ec_
          subst ea_
          subst ec_
          clear en_
          have ea_:=Option.some.inj (j6.symm.trans jb)
          injection ea_ with ea_ en_ ec_
          subst ea_
          subst ec_
          clear en_
          have jY:0≤(j3:Int):=of_decide_eq_true bR
          have jZ:j3 < (l0.length:Int):=of_decide_eq_true bR
          obtain ⟨q0,qB,qC,qD,qE,qF,qG,zr,q1,q2,q3,q4,q5,jc,jd,je,hl26_5,hi26_5,hl26_6,hi26_6,hl26_7,hi26_7⟩:=dJ ji.out j3 jY jZ
          obtain rfl:j7=q0:=(by injection zr)
          have q6:=am hi26_5
          have q7:=am hl26_5
          clear hi26_5 hl26_5
          have q8:=am hi26_6
          have q9:=am hl26_6
          clear hi26_6 hl26_6
          have qa:=am hi26_7
          have qb:=am hl26_7
          clear hi26_7 hl26_7
          replace jY:=eq_true jY
          replace jZ:=eq_true jZ
          have ea_:=Option.some.inj (j4.symm.trans jc)
          injection ea_ with ea_ en_ ec_
          subst ea_
          subst ec_
          clear en_
          have ea_:=Option.some.inj (j5.symm.trans jd)
          injection ea_ with ea_ en_ ec_
          subst ea_
          subst ec_
          clear en_
          have ea_:=Option.some.inj (j6.symm.trans je)
          injection ea_ with ea_ en_ ec_
          subst ea_
          subst ec_
          clear en_
          have qi:0≤(j3:Int):=of_decide_eq_true bR
          have qj:j3 < (l0.length:Int):=of_decide_eq_true bR
          obtain ⟨qk,qW,qX,qY,qZ,z0,z1,zs,ql,qm,qn,qo,qp,jf,jg,jh,hl27_5,hi27_5,hl27_6,hi27_6,hl27_7,hi27_7⟩:=dJ ji.out j3 qi qj
          obtain rfl:j7=qk:=(by injection zs)
          have qq:=am hi27_5
          have qr:=am hl27_5
          clear hi27_5 hl27_5
          have qs:=am hi27_6
          have qt:=am hl27_6
          clear hi27_6 hl27_6
          have qu:=am hi27_7
          have qv:=am hl27_7
          clear hi27_7 hl27_7
          replace qi:=eq_true qi
          replace qj:=eq_true qj
          have ea_:=Option.some.inj (j4.symm.trans jf)
          injection ea_ with ea_ en_ ec_
          subst ea_
          subst ec_
          clear en_
          have ea_:=Option.some.inj (j5.symm.trans jg)
          injection ea_ with ea_ en_ ec_
          subst ea_
          subst ec_
          clear en_
          have ea_:=Option.some.inj (j6.symm.trans jh)
          injection ea_ with ea_ en_ ec_
          subst ea_
          subst ec_
          clear en_
          have qH:0≤(j3:Int):=of_decide_eq_true bR
          have qI:j3 < (l0.length:Int):=of_decide_eq_true bR
          obtain ⟨qJ,zk,zl,zm,zn,zo,zp,zM,qK,qL,qM,qN,qO,jj,jk,jl,hl28_5,hi28_5,hl28_6,hi28_6,hl28_7,hi28_7⟩:=dJ ji.out j3 qH qI
          obtain rfl:j7=qJ:=(by injection zM)
          have qP:=am hi28_5
          have qQ:=am hl28_5
          clear hi28_5 hl28_5
          have qR:=am hi28_6
          have qS:=am hl28_6
          clear hi28_6 hl28_6
          have qT:=am hi28_7
          have qU:=am hl28_7
          clear hi28_7 hl28_7
          replace qH:=eq_true qH
          replace qI:=eq_true qI
          have ea_:=Option.some.inj (j4.symm.trans jj)
          injection ea_ with ea_ en_ ec_
          subst ea_
          subst ec_
          clear en_
          have ea_:=Option.some.inj (j5.symm.trans jk)
          injection ea_ with ea_ en_ ec_
          subst ea_
          subst ec_
          clear en_
          have ea_:=Option.some.inj (j6.symm.trans jl)
          injection ea_ with ea_ en_ ec_
          subst ea_
          subst ec_
          clear en_
          have z3:0≤(j3:Int):=of_decide_eq_true bR
          have z4:j3 < (l0.length:Int):=of_decide_eq_true bR
          obtain ⟨z5,zt,zu,zv,zw,zx,zy,zU,z6,z7,z8,z9,za,jT,jU,jV,hl29_5,hi29_5,hl29_6,hi29_6,hl29_7,hi29_7⟩:=dJ ji.out j3 z3 z4
          obtain rfl:j7=z5:=(by injection zU)
          have jW:=am hi29_5
          have jX:=am hl29_5
          clear hi29_5 hl29_5
          have zb:=am hi29_6
          have zc:=am hl29_6
          clear hi29_6 hl29_6
          have zd:=am hi29_7
          have ze:=am hl29_7
          clear hi29_7 hl29_7
          replace z3:=eq_true z3
          replace z4:=eq_true z4
          have ea_:=Option.some.inj (j4.symm.trans jT)
          injection ea_ with ea_ en_ ec_
          subst ea_
          subst ec_
          clear en_
          have ea_:=Option.some.inj (j5.symm.trans jU)
          injection ea_ with ea_ en_ ec_
          subst ea_
          subst ec_
          clear en_
          have ea_:=Option.some.inj (j6.symm.trans jV)
          injection ea_ with ea_ en_ ec_
          subst ea_
          subst ec_
          clear en_
          go_wp2_with (first|((with_reducible refine aD (f:=35) rfl ?_);refine aM (some 66) rfl rfl Try.func35 (by kernel_rfl) rfl #[.slice jm ((aC l0 j3).f3.f2).length jn, .int .i64 (wrap64 ((wrap64 ((wrap64 ((wrap64 ((wrap64 (j8 + 1)) + 1)) + 1)) + 1)) + 1))] rfl dB ?_;(with_reducible refine (aT.calls k1 _ _ ((aC l0 j3).f3.f2) (wrap64 ((wrap64 ((wrap64 ((wrap64 ((wrap64 (j8 + 1)) + 1)) + 1)) + 1)) + 1)) zq _ (aC_ jW.out) jX.out Jl.out).mono ?_);rintro e w' ⟨rfl,⟨nd,rfl⟩⟩;refine ⟨_,rfl,?_⟩;have zz:0≤(j3:Int):=of_decide_eq_true bR;have zA:j3 < (l0.length:Int):=of_decide_eq_true bR;obtain ⟨zB,zN,zO,zP,zQ,zR,zS,Jd,zC,zD,zE,zF,zG,qw,qx,qy,hl31_5,hi31_5,hl31_6,hi31_6,hl31_7,hi31_7⟩:=dJ ji.out j3 zz zA;obtain rfl:j7=zB:=(by injection Jd);have zH:=am hi31_5;have zI:=am hl31_5;clear hi31_5 hl31_5;have qz:=am hi31_6;have qA:=am hl31_6;clear hi31_6 hl31_6;have zJ:=am hi31_7;have zK:=am hl31_7;clear hi31_7 hl31_7;replace zz:=eq_true zz;replace zA:=eq_true zA;have ea_:=Option.some.inj (j4.symm.trans qw);injection ea_ with ea_ en_ ec_;subst ea_;subst ec_;clear en_;have ea_:=Option.some.inj (j5.symm.trans qx);injection ea_ with ea_ en_ ec_;subst ea_;subst ec_;clear en_;have ea_:=Option.some.inj (j6.symm.trans qy);injection ea_ with ea_ en_ ec_;subst ea_;subst ec_;clear en_)|((with_reducible refine aD (f:=19) rfl ?_);refine aM (some 75) rfl rfl Try.func19 (by kernel_rfl) rfl #[.slice jq ((aC l0 j3).f4).length jr, .int .i64 zq] rfl dB ?_;(with_reducible refine (ih k1 (by have:=zT.out;omega) _ _ ((aC l0 j3).f4) zq zL _ (aC_ qz.out) qA.out Jx.out).mono ?_);rintro e w' ⟨rfl,⟨nd,rfl⟩⟩;refine ⟨_,rfl,?_⟩;have zV:0≤(j3:Int):=of_decide_eq_true bR;have zW:j3 < (l0.length:Int):=of_decide_eq_true bR;obtain ⟨zX,Jf,Jg,Jh,Ji,Jj,Jk,Jy,zY,zZ,J0,J1,J2,zf,zg,zh,hl33_5,hi33_5,hl33_6,hi33_6,hl33_7,hi33_7⟩:=dJ ji.out j3 zV zW;obtain rfl:j7=zX:=(by injection Jy);have J3:=am hi33_5;have J4:=am hl33_5;clear hi33_5 hl33_5;have J5:=am hi33_6;have J6:=am hl33_6;clear hi33_6 hl33_6;have zi:=am hi33_7;have zj:=am hl33_7;clear hi33_7 hl33_7;replace zV:=eq_true zV;replace zW:=eq_true zW;have ea_:=Option.some.inj (j4.symm.trans zf);injection ea_ with ea_ en_ ec_;subst ea_;subst ec_;clear en_;have ea_:=Option.some.inj (j5.symm.trans zg);injection ea_ with ea_ en_ ec_;subst ea_;subst ec_;clear en_;have ea_:=Option.some.inj (j6.symm.trans zh);injection ea_ with ea_ en_ ec_;subst ea_;subst ec_;clear en_)|((with_reducible refine aD (f:=19) rfl ?_);refine aM (some 84) rfl rfl Try.func19 (by kernel_rfl) rfl #[.slice jD ((aC l0 j3).f5).length jE, .int .i64 zL] rfl dB ?_;(with_reducible refine (ih k1 (by have:=zT.out;omega) _ _ ((aC l0 j3).f5) zL J9 _ (aC_ zi.out) zj.out JB.out).mono ?_);rintro e w' ⟨rfl,⟨nd,rfl⟩⟩;refine ⟨_,rfl,?_⟩))
          go_roundg k1
          case measure=>have:=zT.out;omega
          case rel=>exact ⟨(J9),(wrap64 (j3 + 1)),sd_,sd_,H',⟨by have:=zT.out;omega⟩,eO⟩
         rw [if_neg c9] at H
         have Jv:(((aC l0 j3).f3.f1) == (wrap64 ((wrap64 ((wrap64 ((wrap64 (j8 + 1)) + 1)) + 1)) + 1)))=false:=beq_eq_false_iff_ne.mpr c9
         have Jw:(((aC l0 j3).f3.f1) != (wrap64 ((wrap64 ((wrap64 ((wrap64 (j8 + 1)) + 1)) + 1)) + 1)))=true:=bne_iff_ne.mpr c9
         obtain rfl:=Option.some.inj H
         have jo:0≤(j3:Int):=of_decide_eq_true bR
         have jp:j3 < (l0.length:Int):=of_decide_eq_true bR
         obtain ⟨j7,jm,jn,jq,jr,jD,jE,qV,js,jt,ju,jv,jw,j4,j5,j6,hl24_5,hi24_5,hl24_6,hi24_6,hl24_7,hi24_7⟩:=dJ ji.out j3 jo jp
         cases qV
         have jx:=am hi24_5
         have jy:=am hl24_5
         clear hi24_5 hl24_5
         have jz:=am hi24_6
         have jA:=am hl24_6
         clear hi24_6 hl24_6
         have jB:=am hi24_7
         have jC:=am hl24_7
         clear hi24_7 hl24_7
         replace jo:=eq_true jo
         replace jp:=eq_true jp
         have jF:0≤(j3:Int):=of_decide_eq_true bR
         have jG:j3 < (l0.length:Int):=of_decide_eq_true bR
         obtain ⟨jH,qc,qd,qe,qf,qg,qh,z2,jI,jJ,jK,jL,jM,j9,ja,jb,hl25_5,hi25_5,hl25_6,hi25_6,hl25_7,hi25_7⟩:=dJ ji.out j3 jF jG
         obtain rfl:j7=jH:=(by injection z2)
         have jN:=am hi25_5
         have jO:=am hl25_5
         clear hi25_5 hl25_5
         have jP:=am hi25_6
         have jQ:=am hl25_6
         clear hi25_6 hl25_6
         have jR:=am hi25_7
         have jS:=am hl25_7
         clear hi25_7 hl25_7
         replace jF:=eq_true jF
         replace jG:=eq_true jG
         have ea_:=Option.some.inj (j4.symm.trans j9)
         injection ea_ with ea_ en_ ec_
         subst ea_
         subst ec_
         clear en_
         have ea_:=Option.some.inj (j5.symm.trans ja)
         injection ea_ with ea_ en_ ec_
         subst ea_
         subst ec_
         clear en_
         have ea_:=Option.some.inj (j6.symm.trans jb)
         injection ea_ with ea_ en_ ec_
         subst ea_
         subst ec_
         clear en_
         have jY:0≤(j3:Int):=of_decide_eq_true bR
         have jZ:j3 < (l0.length:Int):=of_decide_eq_true bR
         obtain ⟨q0,qB,qC,qD,qE,qF,qG,zr,q1,q2,q3,q4,q5,jc,jd,je,hl26_5,hi26_5,hl26_6,hi26_6,hl26_7,hi26_7⟩:=dJ ji.out j3 jY jZ
         obtain rfl:j7=q0:=(by injection zr)
         have q6:=am hi26_5
         have q7:=am hl26_5
         clear hi26_5 hl26_5
         have q8:=am hi26_6
         have q9:=am hl26_6
         clear hi26_6 hl26_6
         have qa:=am hi26_7
         have qb:=am hl26_7
         clear hi26_7 hl26_7
         replace jY:=eq_true jY
         replace jZ:=eq_true jZ
         have ea_:=Option.some.inj (j4.symm.trans jc)
         injection ea_ with ea_ en_ ec_
         subst ea_
         subst ec_
         clear en_
         have ea_:=Option.some.inj (j5.symm.trans jd)
         injection ea_ with ea_ en_ ec_
         subst ea_
         subst ec_
         clear en_
         have ea_:=Option.some.inj (j6.symm.trans je)
         injection ea_ with ea_ en_ ec_
         subst ea_
         subst ec_
         clear en_
         have qi:0≤(j3:Int):=of_decide_eq_true bR
         have qj:j3 < (l0.length:Int):=of_decide_eq_true bR
         obtain ⟨qk,qW,qX,qY,qZ,z0,z1,zs,ql,qm,qn,qo,qp,jf,jg,jh,hl27_5,hi27_5,hl27_6,hi27_6,hl27_7,hi27_7⟩:=dJ ji.out j3 qi qj
         obtain rfl:j7=qk:=(by injection zs)
         have qq:=am hi27_5
         have qr:=am hl27_5
         clear hi27_5 hl27_5
         have qs:=am hi27_6
         have qt:=am hl27_6
         clear hi27_6 hl27_6
         have qu:=am hi27_7
         have qv:=am hl27_7
         clear hi27_7 hl27_7
         replace qi:=eq_true qi
         replace qj:=eq_true qj
         have ea_:=Option.some.inj (j4.symm.trans jf)
         injection ea_ with ea_ en_ ec_
         subst ea_
         subst ec_
         clear en_
         have ea_:=Option.some.inj (j5.symm.trans jg)
         injection ea_ with ea_ en_ ec_
         subst ea_
         subst ec_
         clear en_
         have ea_:=Option.some.inj (j6.symm.trans jh)
         injection ea_ with ea_ en_ ec_
         subst ea_
         subst ec_
         clear en_
         have qH:0≤(j3:Int):=of_decide_eq_true bR
         have qI:j3 < (l0.length:Int):=of_decide_eq_true bR
         obtain ⟨qJ,zk,zl,zm,zn,zo,zp,zM,qK,qL,qM,qN,qO,jj,jk,jl,hl28_5,hi28_5,hl28_6,hi28_6,hl28_7,hi28_7⟩:=dJ ji.out j3 qH qI
         obtain rfl:j7=qJ:=(by injection zM)
         have qP:=am hi28_5
         have qQ:=am hl28_5
         clear hi28_5 hl28_5
         have qR:=am hi28_6
         have qS:=am hl28_6
         clear hi28_6 hl28_6
         have qT:=am hi28_7
         have qU:=am hl28_7
         clear hi28_7 hl28_7
         replace qH:=eq_true qH
         replace qI:=eq_true qI
         have ea_:=Option.some.inj (j4.symm.trans jj)
         injection ea_ with ea_ en_ ec_
         subst ea_
         subst ec_
         clear en_
         have ea_:=Option.some.inj (j5.symm.trans jk)
         injection ea_ with ea_ en_ ec_
         subst ea_
         subst ec_
         clear en_
         have ea_:=Option.some.inj (j6.symm.trans jl)
         injection ea_ with ea_ en_ ec_
         subst ea_
         subst ec_
         clear en_
         go_wp2
         go_ret
         exact ⟨sd_,eO⟩
        rw [if_neg c8] at H
        have Jt:(((aC l0 j3).f3.f0) == (wrap64 ((wrap64 ((wrap64 (j8 + 1)) + 1)) + 1)))=false:=beq_eq_false_iff_ne.mpr c8
        have Ju:(((aC l0 j3).f3.f0) != (wrap64 ((wrap64 ((wrap64 (j8 + 1)) + 1)) + 1)))=true:=bne_iff_ne.mpr c8
        obtain rfl:=Option.some.inj H
        have jo:0≤(j3:Int):=of_decide_eq_true bR
        have jp:j3 < (l0.length:Int):=of_decide_eq_true bR
        obtain ⟨j7,jm,jn,jq,jr,jD,jE,qV,js,jt,ju,jv,jw,j4,j5,j6,hl24_5,hi24_5,hl24_6,hi24_6,hl24_7,hi24_7⟩:=dJ ji.out j3 jo jp
        cases qV
        have jx:=am hi24_5
        have jy:=am hl24_5
        clear hi24_5 hl24_5
        have jz:=am hi24_6
        have jA:=am hl24_6
        clear hi24_6 hl24_6
        have jB:=am hi24_7
        have jC:=am hl24_7
        clear hi24_7 hl24_7
        replace jo:=eq_true jo
        replace jp:=eq_true jp
        have jF:0≤(j3:Int):=of_decide_eq_true bR
        have jG:j3 < (l0.length:Int):=of_decide_eq_true bR
        obtain ⟨jH,qc,qd,qe,qf,qg,qh,z2,jI,jJ,jK,jL,jM,j9,ja,jb,hl25_5,hi25_5,hl25_6,hi25_6,hl25_7,hi25_7⟩:=dJ ji.out j3 jF jG
        obtain rfl:j7=jH:=(by injection z2)
        have jN:=am hi25_5
        have jO:=am hl25_5
        clear hi25_5 hl25_5
        have jP:=am hi25_6
        have jQ:=am hl25_6
        clear hi25_6 hl25_6
        have jR:=am hi25_7
        have jS:=am hl25_7
        clear hi25_7 hl25_7
        replace jF:=eq_true jF
        replace jG:=eq_true jG
        have ea_:=Option.some.inj (j4.symm.trans j9)
        injection ea_ with ea_ en_ ec_
        subst ea_
        subst ec_
        clear en_
        have ea_:=Option.some.inj (j5.symm.trans ja)
        injection ea_ with ea_ en_ ec_
        subst ea_
        subst ec_
        clear en_
        have ea_:=Option.some.inj (j6.symm.trans jb)
        injection ea_ with ea_ en_ ec_
        subst ea_
        subst ec_
        clear en_
        have jY:0≤(j3:Int):=of_decide_eq_true bR
        have jZ:j3 < (l0.length:Int):=of_decide_eq_true bR
        obtain ⟨q0,qB,qC,qD,qE,qF,qG,zr,q1,q2,q3,q4,q5,jc,jd,je,hl26_5,hi26_5,hl26_6,hi26_6,hl26_7,hi26_7⟩:=dJ ji.out j3 jY jZ
        obtain rfl:j7=q0:=(by injection zr)
        have q6:=am hi26_5
        have q7:=am hl26_5
        clear hi26_5 hl26_5
        have q8:=am hi26_6
        have q9:=am hl26_6
        clear hi26_6 hl26_6
        have qa:=am hi26_7
        have qb:=am hl26_7
        clear hi26_7 hl26_7
        replace jY:=eq_true jY
        replace jZ:=eq_true jZ
        have ea_:=Option.some.inj (j4.symm.trans jc)
        injection ea_ with ea_ en_ ec_
        subst ea_
        subst ec_
        clear en_
        have ea_:=Option.some.inj (j5.symm.trans jd)
        injection ea_ with ea_ en_ ec_
        subst ea_
        subst ec_
        clear en_
        have ea_:=Option.some.inj (j6.symm.trans je)
        injection ea_ with ea_ en_ ec_
        subst ea_
        subst ec_
        clear en_
        have qi:0≤(j3:Int):=of_decide_eq_true bR
        have qj:j3 < (l0.length:Int):=of_decide_eq_true bR
        obtain ⟨qk,qW,qX,qY,qZ,z0,z1,zs,ql,qm,qn,qo,qp,jf,jg,jh,hl27_5,hi27_5,hl27_6,hi27_6,hl27_7,hi27_7⟩:=dJ ji.out j3 qi qj
        obtain rfl:j7=qk:=(by injection zs)
        have qq:=am hi27_5
        have qr:=am hl27_5
        clear hi27_5 hl27_5
        have qs:=am hi27_6
        have qt:=am hl27_6
        clear hi27_6 hl27_6
        have qu:=am hi27_7
        have qv:=am hl27_7
        clear hi27_7 hl27_7
        replace qi:=eq_true qi
        replace qj:=eq_true qj
        have ea_:=Option.some.inj (j4.symm.trans jf)
        injection ea_ with ea_ en_ ec_
        subst ea_
        subst ec_
        clear en_
        have ea_:=Option.some.inj (j5.symm.trans jg)
        injection ea_ with ea_ en_ ec_
        subst ea_
        subst ec_
        clear en_
        have ea_:=Option.some.inj (j6.symm.trans jh)
        injection ea_ with ea_ en_ ec_
        subst ea_
        subst ec_
        clear en_
        go_wp2
        go_ret
        exact ⟨sd_,eO⟩
       rw [if_neg c7] at H
       have Jr:(((aC l0 j3).f2) == (wrap64 ((wrap64 (j8 + 1)) + 1)))=false:=beq_eq_false_iff_ne.mpr c7
       have Js:(((aC l0 j3).f2) != (wrap64 ((wrap64 (j8 + 1)) + 1)))=true:=bne_iff_ne.mpr c7
       obtain rfl:=Option.some.inj H
       have jo:0≤(j3:Int):=of_decide_eq_true bR
       have jp:j3 < (l0.length:Int):=of_decide_eq_true bR
       obtain ⟨j7,jm,jn,jq,jr,jD,jE,qV,js,jt,ju,jv,jw,j4,j5,j6,hl24_5,hi24_5,hl24_6,hi24_6,hl24_7,hi24_7⟩:=dJ ji.out j3 jo jp
       cases qV
       have jx:=am hi24_5
       have jy:=am hl24_5
       clear hi24_5 hl24_5
       have jz:=am hi24_6
       have jA:=am hl24_6
       clear hi24_6 hl24_6
       have jB:=am hi24_7
       have jC:=am hl24_7
       clear hi24_7 hl24_7
       replace jo:=eq_true jo
       replace jp:=eq_true jp
       have jF:0≤(j3:Int):=of_decide_eq_true bR
       have jG:j3 < (l0.length:Int):=of_decide_eq_true bR
       obtain ⟨jH,qc,qd,qe,qf,qg,qh,z2,jI,jJ,jK,jL,jM,j9,ja,jb,hl25_5,hi25_5,hl25_6,hi25_6,hl25_7,hi25_7⟩:=dJ ji.out j3 jF jG
       obtain rfl:j7=jH:=(by injection z2)
       have jN:=am hi25_5
       have jO:=am hl25_5
       clear hi25_5 hl25_5
       have jP:=am hi25_6
       have jQ:=am hl25_6
       clear hi25_6 hl25_6
       have jR:=am hi25_7
       have jS:=am hl25_7
       clear hi25_7 hl25_7
       replace jF:=eq_true jF
       replace jG:=eq_true jG
       have ea_:=Option.some.inj (j4.symm.trans j9)
       injection ea_ with ea_ en_ ec_
       subst ea_
       subst ec_
       clear en_
       have ea_:=Option.some.inj (j5.symm.trans ja)
       injection ea_ with ea_ en_ ec_
       subst ea_
       subst ec_
       clear en_
       have ea_:=Option.some.inj (j6.symm.trans jb)
       injection ea_ with ea_ en_ ec_
       subst ea_
       subst ec_
       clear en_
       have jY:0≤(j3:Int):=of_decide_eq_true bR
       have jZ:j3 < (l0.length:Int):=of_decide_eq_true bR
       obtain ⟨q0,qB,qC,qD,qE,qF,qG,zr,q1,q2,q3,q4,q5,jc,jd,je,hl26_5,hi26_5,hl26_6,hi26_6,hl26_7,hi26_7⟩:=dJ ji.out j3 jY jZ
       obtain rfl:j7=q0:=(by injection zr)
       have q6:=am hi26_5
       have q7:=am hl26_5
       clear hi26_5 hl26_5
       have q8:=am hi26_6
       have q9:=am hl26_6
       clear hi26_6 hl26_6
       have qa:=am hi26_7
       have qb:=am hl26_7
       clear hi26_7 hl26_7
       replace jY:=eq_true jY
       replace jZ:=eq_true jZ
       have ea_:=Option.some.inj (j4.symm.trans jc)
       injection ea_ with ea_ en_ ec_
       subst ea_
       subst ec_
       clear en_
       have ea_:=Option.some.inj (j5.symm.trans jd)
       injection ea_ with ea_ en_ ec_
       subst ea_
       subst ec_
       clear en_
       have ea_:=Option.some.inj (j6.symm.trans je)
       injection ea_ with ea_ en_ ec_
       subst ea_
       subst ec_
       clear en_
       go_wp2
       go_ret
       exact ⟨sd_,eO⟩
      rw [if_neg c6] at H
      have Jp:(((aC l0 j3).f1) == (wrap64 (j8 + 1)))=false:=beq_eq_false_iff_ne.mpr c6
      have Jq:(((aC l0 j3).f1) != (wrap64 (j8 + 1)))=true:=bne_iff_ne.mpr c6
      obtain rfl:=Option.some.inj H
      have jo:0≤(j3:Int):=of_decide_eq_true bR
      have jp:j3 < (l0.length:Int):=of_decide_eq_true bR
      obtain ⟨j7,jm,jn,jq,jr,jD,jE,qV,js,jt,ju,jv,jw,j4,j5,j6,hl24_5,hi24_5,hl24_6,hi24_6,hl24_7,hi24_7⟩:=dJ ji.out j3 jo jp
      cases qV
      have jx:=am hi24_5
      have jy:=am hl24_5
      clear hi24_5 hl24_5
      have jz:=am hi24_6
      have jA:=am hl24_6
      clear hi24_6 hl24_6
      have jB:=am hi24_7
      have jC:=am hl24_7
      clear hi24_7 hl24_7
      replace jo:=eq_true jo
      replace jp:=eq_true jp
      have jF:0≤(j3:Int):=of_decide_eq_true bR
      have jG:j3 < (l0.length:Int):=of_decide_eq_true bR
      obtain ⟨jH,qc,qd,qe,qf,qg,qh,z2,jI,jJ,jK,jL,jM,j9,ja,jb,hl25_5,hi25_5,hl25_6,hi25_6,hl25_7,hi25_7⟩:=dJ ji.out j3 jF jG
      obtain rfl:j7=jH:=(by injection z2)
      have jN:=am hi25_5
      have jO:=am hl25_5
      clear hi25_5 hl25_5
      have jP:=am hi25_6
      have jQ:=am hl25_6
      clear hi25_6 hl25_6
      have jR:=am hi25_7
      have jS:=am hl25_7
      clear hi25_7 hl25_7
      replace jF:=eq_true jF
      replace jG:=eq_true jG
      have ea_:=Option.some.inj (j4.symm.trans j9)
      injection ea_ with ea_ en_ ec_
      subst ea_
      subst ec_
      clear en_
      have ea_:=Option.some.inj (j5.symm.trans ja)
      injection ea_ with ea_ en_ ec_
      subst ea_
      subst ec_
      clear en_
      have ea_:=Option.some.inj (j6.symm.trans jb)
      injection ea_ with ea_ en_ ec_
      subst ea_
      subst ec_
      clear en_
      go_wp2
      go_ret
      exact ⟨sd_,eO⟩
     rw [if_neg c5] at H
     have Jn:(((aC l0 j3).f0) == j8)=false:=beq_eq_false_iff_ne.mpr c5
     have Jo:(((aC l0 j3).f0) != j8)=true:=bne_iff_ne.mpr c5
     obtain rfl:=Option.some.inj H
     have jo:0≤(j3:Int):=of_decide_eq_true bR
     have jp:j3 < (l0.length:Int):=of_decide_eq_true bR
     obtain ⟨j7,jm,jn,jq,jr,jD,jE,qV,js,jt,ju,jv,jw,j4,j5,j6,hl24_5,hi24_5,hl24_6,hi24_6,hl24_7,hi24_7⟩:=dJ ji.out j3 jo jp
     cases qV
     have jx:=am hi24_5
     have jy:=am hl24_5
     clear hi24_5 hl24_5
     have jz:=am hi24_6
     have jA:=am hl24_6
     clear hi24_6 hl24_6
     have jB:=am hi24_7
     have jC:=am hl24_7
     clear hi24_7 hl24_7
     replace jo:=eq_true jo
     replace jp:=eq_true jp
     go_wp2
     go_ret
     exact ⟨sd_,eO⟩
    rw [if_neg c4] at H
    exact absurd H (by simp)
   rw [if_neg c3] at H
   have Jm:decide (j3 < (l0.length:Int))=false:=decide_eq_false c3
   clear c3
   obtain rfl:=Option.some.inj H
   go_wp2
   go_ret
   exact ⟨sd_,eO⟩
attribute [local go_sem] max2_int min2_int max_two min_two max_three min_three max_four min_four
set_option linter.unusedVariables false
set_option linter.unusedSimpArgs false
set_option linter.unusedVariables false
theorem dX.calls (k:Nat) (A:Option Addr) (c:Nat) (l:List (S66)) (r:Bool) (w:World) (hr:Kd.C k66 w A l.length l) (hl:l.length≤c) (h:dX.f k l=some r):
  Calls Try.prog 4 #[(.slice A l.length c)] w fun e w'=>e= .returned (.bool r)∧Below w.heap.size w w':=by
 unfold dX.f at h
 replace h:=Option.bind_eq_some_iff.mp h
 obtain ⟨left,hsz,h⟩:=h
 have HR:=am hr
 have HL:=am hl
 clear hr hl
 have HSZ:=am hsz
 have HB:=am (Below.refl w.heap.size w)
 clear hsz
 by_cases hlt:left < 0
 case pos=>
  rw [if_pos hlt] at h
  obtain rfl:=Option.some.inj h
  have c1:decide (left < 0)=true:=decide_eq_true hlt
  clear hlt
  go_enter Try.func4,Try.ntmps4
  go_wp2_with (first|((with_reducible refine aD (f:=13) rfl ?_);refine aM (some 16) rfl rfl Try.func13 (by kernel_rfl) rfl #[(.slice A l.length c), .int .i64 1048576] rfl (by (try simp only [List.map_toArray,List.map_cons,List.map_nil]);first|done|rfl) ?_;(with_reducible refine (bC.calls k _ _ l 1048576 left _ (Kd.aH HR.out HB.out) HL.out HSZ.out).mono ?_);rintro e w2 ⟨rfl,hb⟩;refine ⟨_,rfl,?_⟩;replace HB:=am (aB HB.out hb);clear hb)|fail)
  go_ret
  exact ⟨rfl,HB.out⟩
 rw [if_neg hlt] at h
 have c1:decide (left < 0)=false:=decide_eq_false hlt
 clear hlt
 replace h:=Option.bind_eq_some_iff.mp h
 obtain ⟨xl,h_,h⟩:=h
 (try dsimp only at h_ h)
 have HTO:=am h_
 clear h_
 replace h:=Option.bind_eq_some_iff.mp h
 obtain ⟨⟨vl,wb⟩,h_,h⟩:=h
 (try dsimp only at h_ h)
 have HSP:=am h_
 clear h_
 replace h:=Option.bind_eq_some_iff.mp h
 obtain ⟨⟨gl,gb⟩,h_,h⟩:=h
 (try dsimp only at h_ h)
 have HIM:=am h_
 clear h_
 replace h:=Option.bind_eq_some_iff.mp h
 obtain ⟨e1,h_,h⟩:=h
 (try dsimp only at h_ h)
 have HE1:=am h_
 clear h_
 by_cases q1:e1=false
 case pos=>rw [if_pos q1] at h;exact absurd h (by simp)
 rw [if_neg q1] at h
 obtain rfl:e1=true:=by simpa using q1
 by_cases q2:gb≠wb
 case pos=>rw [if_pos q2] at h;exact absurd h (by simp)
 rw [if_neg q2] at h
 obtain rfl:gb=wb:=by simpa using q2
 replace h:=Option.bind_eq_some_iff.mp h
 obtain ⟨e2,h_,h⟩:=h
 (try dsimp only at h_ h)
 have HE2:=am h_
 clear h_
 by_cases q3:e2=false
 case pos=>rw [if_pos q3] at h;exact absurd h (by simp)
 rw [if_neg q3] at h
 obtain rfl:e2=true:=by simpa using q3
 replace h:=Option.bind_eq_some_iff.mp h
 obtain ⟨⟨m1,nl⟩,h_,h⟩:=h
 (try dsimp only at h_ h)
 have HM1:=am h_
 clear h_
 by_cases q4:m1 < 0
 case pos=>rw [if_pos q4] at h;exact absurd h (by simp)
 rw [if_neg q4] at h
 replace h:=Option.bind_eq_some_iff.mp h
 obtain ⟨⟨m,pl⟩,h_,h⟩:=h
 (try dsimp only at h_ h)
 have HM:=am h_
 clear h_
 replace h:=Option.bind_eq_some_iff.mp h
 obtain ⟨q,h_,h⟩:=h
 (try dsimp only at h_ h)
 have HQ:=am h_
 clear h_
 by_cases q5:q < 0
 case pos=>rw [if_pos q5] at h;exact absurd h (by simp)
 rw [if_neg q5] at h
 by_cases q6:q≠m
 case pos=>rw [if_pos q6] at h;exact absurd h (by simp)
 rw [if_neg q6] at h
 obtain rfl:q=m:=by simpa using q6
 obtain rfl:=Option.some.inj h
 have c2:decide (m1 < 0)=false:=decide_eq_false q4
 have c3:decide (q < 0)=false:=decide_eq_false q5
 have c4:(q != q)=false:=by simp
 have c5:(gb != gb)=false:=by simp
 clear q1 q2 q3 q4 q5 q6 h
 go_enter Try.func4,Try.ntmps4
 go_upto_region 6 with (first|((with_reducible refine aD (f:=13) rfl ?_);refine aM (some 16) rfl rfl Try.func13 (by kernel_rfl) rfl #[(.slice A l.length c), .int .i64 1048576] rfl (by (try simp only [List.map_toArray,List.map_cons,List.map_nil]);first|done|rfl) ?_;(with_reducible refine (bC.calls k _ _ l 1048576 left _ (Kd.aH HR.out HB.out) HL.out HSZ.out).mono ?_);rintro e w2 ⟨rfl,hb⟩;refine ⟨_,rfl,?_⟩;replace HB:=am (aB HB.out hb);clear hb)|((with_reducible refine aD (f:=15) rfl ?_);refine aM (some 21) rfl rfl Try.func15 (by kernel_rfl) rfl #[(.slice A l.length c)] rfl (by (try simp only [List.map_toArray,List.map_cons,List.map_nil]);first|done|rfl) ?_;(with_reducible refine (bJ.callsS k _ _ l xl _ (Kd.aH HR.out HB.out) HL.out HTO.out).mono ?_);rintro e w3 ⟨v,rfl,h0,hb⟩;refine ⟨_,rfl,?_⟩;obtain ⟨Ay,cy,rfl⟩:=Kd.eP h0;have Ry:=am h0;replace HB:=am (aB HB.out hb);clear h0 hb)|((with_reducible refine aD (f:=14) rfl ?_);refine aM (some 22) rfl rfl Try.func14 (by kernel_rfl) rfl #[(.slice Ay xl.length cy)] rfl (by (try simp only [List.map_toArray,List.map_cons,List.map_nil]);first|done|rfl) ?_;(with_reducible refine (dW.calls k _ _ xl vl gb _ (Kd.dY (gT Ry.out)).2.2 (Kd.dY (gT Ry.out)).2.1 HSP.out).mono ?_);rintro e w4 ⟨v,rfl,h0,hb⟩;refine ⟨_,rfl,?_⟩;obtain ⟨Av,cv,rfl⟩:=Kd.gV h0;have Rv:=am (Kd.iF (Kd.vJ h0) HB.out.size);replace HB:=am (aB HB.out hb);clear h0 hb Ry)|fail)
 obtain ⟨s2,es2⟩:∃ s,s=w4.heap.size:=⟨_,rfl⟩
 have T2:Aside0 True:=⟨trivial⟩
 replace Rv:=am (Kd.eD (ok':=fun q=>q < s2) (Kd.vJ Rv.out) (fun q hq=>by rw [es2];exact hq.2))
 go_upto_region 7 with (first|((with_reducible refine aD (f:=15) rfl ?_);refine aM (some 26) rfl rfl Try.func15 (by kernel_rfl) rfl #[(.slice A l.length c)] rfl (by (try simp only [List.map_toArray,List.map_cons,List.map_nil]);first|done|rfl) ?_;(with_reducible refine (bJ.callsS k _ _ l xl _ (Kd.aH HR.out HB.out) HL.out HTO.out).mono ?_);rintro e w6 ⟨v,rfl,h0,hb⟩;refine ⟨_,rfl,?_⟩;obtain ⟨Ax,cx,rfl⟩:=Kd.eP h0;have T3:Aside0 (s2≤w6.heap.size):=⟨by rw [es2];exact hb.size⟩;have Rx:=am (Kd.dU (ok':=fun q=>s2≤q∧q < w6.heap.size) (Kd.gL (Kd.fZ h0) HB.out.size) (fun q hq=>⟨by rw [es2];exact hq.1,hq.2.2.1⟩));clear es2;replace Rv:=am (Kd.fT Rv.out hb);replace HB:=am (aB HB.out hb);clear h0 hb)|fail)
 obtain ⟨s4,es4⟩:∃ s,s=w6.heap.size:=⟨_,rfl⟩
 have T4:Aside0 True:=⟨trivial⟩
 rw [← es4] at T3
 rw [← es4] at Rx
 go_upto_region 8 with (first|((with_reducible refine aD (f:=16) rfl ?_);refine aM (some 29) rfl rfl Try.func16 (by kernel_rfl) rfl #[(.slice Ax xl.length cx)] rfl (by (try simp only [List.map_toArray,List.map_cons,List.map_nil]);first|done|rfl) ?_;(with_reducible refine (eU.callsS k _ _ xl gl gb _ (Kd.dY (gT Rx.out)).2.2 (Kd.dY (gT Rx.out)).2.1 HIM.out).mono ?_);rintro e w8 ⟨v,rfl,h0,hb⟩;refine ⟨_,rfl,?_⟩;obtain ⟨Ag,cg,rfl⟩:=Kd.eP h0;have T5:Aside0 (s4≤w8.heap.size):=⟨by rw [es4];exact hb.size⟩;have Rg:=am (Kd.dU (ok':=fun q=>s4≤q∧q < w8.heap.size) (Kd.gL (Kd.fZ h0) HB.out.size) (fun q hq=>⟨by rw [es4];exact hq.1,hq.2.2.1⟩));clear es4;replace Rv:=am (Kd.fT Rv.out hb);replace Rx:=am (Kd.dM Rx.out hb);replace HB:=am (aB HB.out hb);clear h0 hb)|fail)
 obtain ⟨d7,ed7⟩:∃ s,s=w8.heap.size:=⟨_,rfl⟩
 rw [← ed7] at T5
 rw [← ed7] at Rg
 clear ed7
 go_upto_region 10 with (first|((with_reducible refine aD (f:=17) rfl ?_);refine aM (some 34) rfl rfl Try.func17 (by kernel_rfl) rfl #[(.slice Ag gl.length cg),(.slice Av vl.length cv)] rfl (by (try simp only [List.map_toArray,List.map_cons,List.map_nil]);first|done|rfl) ?_;(with_reducible refine (aO.calls k _ _ gl _ _ vl true _ (Kd.dY (gT Rg.out)).2.2 (Kd.dY (gT Rg.out)).2.1 (Kd.iM Rv.out).2.2 (Kd.iM Rv.out).2.1 HE1.out).mono ?_);rintro e j4 ⟨rfl,hb⟩;refine ⟨_,rfl,?_⟩;replace Rv:=am (Kd.fT Rv.out hb);replace Rx:=am (Kd.dM Rx.out hb);replace Rg:=am (Kd.dM Rg.out hb);replace HB:=am (aB HB.out hb);clear hb)|fail)
 go_upto_region 12 with (first|((with_reducible refine aD (f:=15) rfl ?_);refine aM (some 43) rfl rfl Try.func15 (by kernel_rfl) rfl #[(.slice A l.length c)] rfl (by (try simp only [List.map_toArray,List.map_cons,List.map_nil]);first|done|rfl) ?_;(with_reducible refine (bJ.callsS k _ _ l xl _ (Kd.aH HR.out HB.out) HL.out HTO.out).mono ?_);rintro e w10a ⟨v,rfl,h0,hb⟩;refine ⟨_,rfl,?_⟩;obtain ⟨Az,cz,rfl⟩:=Kd.eP h0;have Rz:=am h0;replace Rv:=am (Kd.fT Rv.out hb);replace Rx:=am (Kd.dM Rx.out hb);replace Rg:=am (Kd.dM Rg.out hb);replace HB:=am (aB HB.out hb);clear h0 hb)|((with_reducible refine aD (f:=17) rfl ?_);refine aM (some 44) rfl rfl Try.func17 (by kernel_rfl) rfl #[(.slice Ax xl.length cx),(.slice Az xl.length cz)] rfl (by (try simp only [List.map_toArray,List.map_cons,List.map_nil]);first|done|rfl) ?_;(with_reducible refine (aO.calls k _ _ xl _ _ xl true _ (Kd.dY (gT Rx.out)).2.2 (Kd.dY (gT Rx.out)).2.1 (Kd.dY (gT Rz.out)).2.2 (Kd.dY (gT Rz.out)).2.1 HE2.out).mono ?_);rintro e W1 ⟨rfl,hb⟩;refine ⟨_,rfl,?_⟩;replace Rv:=am (Kd.fT Rv.out hb);replace Rx:=am (Kd.dM Rx.out hb);replace Rg:=am (Kd.dM Rg.out hb);replace HB:=am (aB HB.out hb);clear hb Rz)|fail)
 go_upto_region 14 with (first|((with_reducible refine aD (f:=18) rfl ?_);refine aM (some 48) rfl rfl Try.func18 (by kernel_rfl) rfl #[(.slice Ax xl.length cx), .int .i64 1] rfl (by (try simp only [List.map_toArray,List.map_cons,List.map_nil]);first|done|rfl) ?_;(with_reducible refine (bH.calls k w.heap.size (fun q=>s2≤q∧q < s4) _ xl 1 m1 nl _ Rx.out HM1.out).mono ?_);rintro e j5 ⟨rfl,j3,hb,hk⟩;refine ⟨_,rfl,?_⟩;replace Rv:=am (Kd.vS Rv.out (fun q hq hlt_=>hk.2 q hlt_ (fun hs_=>(by have t2:=T2.out;have t3:=T3.out;have t4:=T4.out;have t5:=T5.out;have h1_:=hs_.1;have h2_:=hs_.2;omega))));replace Rg:=am (Kd.nM Rg.out (fun q hq hlt_=>hk.2 q hlt_ (fun hs_=>(by have t2:=T2.out;have t3:=T3.out;have t4:=T4.out;have t5:=T5.out;have h1_:=hs_.1;have h2_:=hs_.2;omega))));replace HB:=am (HB.out.trans hb);clear Rx hb hk j3)|fail)
 go_upto_region 17 with (first|(go_at_call 17;(with_reducible refine (aO.calls k _ _ gl _ _ vl true _ (Kd.dY (gT Rg.out)).2.2 (Kd.dY (gT Rg.out)).2.1 (Kd.iM Rv.out).2.2 (Kd.iM Rv.out).2.1 HE1.out).mono ?_);rintro e j6 ⟨rfl,hb⟩;replace Rv:=am (Kd.fT Rv.out hb);replace Rg:=am (Kd.dM Rg.out hb);replace HB:=am (aB HB.out hb);clear hb)|fail)
 go_upto_region 18 with (first|((with_reducible refine aD (f:=18) rfl ?_);refine aM (some 64) rfl rfl Try.func18 (by kernel_rfl) rfl #[(.slice Ag gl.length cg), .int .i64 1] rfl (by (try simp only [List.map_toArray,List.map_cons,List.map_nil]);first|done|rfl) ?_;(with_reducible refine (bH.calls k w.heap.size (fun q=>s4≤q∧q < d7) _ gl 1 q pl _ Rg.out HM.out).mono ?_);rintro e j7 ⟨rfl,j3,hb,hk⟩;refine ⟨_,rfl,?_⟩;replace Rv:=am (Kd.vS Rv.out (fun q hq hlt_=>hk.2 q hlt_ (fun hs_=>(by have t2:=T2.out;have t3:=T3.out;have t4:=T4.out;have t5:=T5.out;have h1_:=hs_.1;have h2_:=hs_.2;omega))));replace HB:=am (HB.out.trans hb);have e_:=(Kd.vV j3).1;rw [e_] at j3 ⊢;replace Rg:=am j3;clear e_ hb hk j3)|fail)
 go_upto_region 24 with (first|((with_reducible refine aD (f:=19) rfl ?_);refine aM (some 67) rfl rfl Try.func19 (by kernel_rfl) rfl #[(.slice Ag pl.length cg), .int .i64 1] rfl (by (try simp only [List.map_toArray,List.map_cons,List.map_nil]);first|done|rfl) ?_;(with_reducible refine (bA.calls k _ _ pl 1 q _ (Kd.dY (gT Rg.out)).2.2 (Kd.dY (gT Rg.out)).2.1 HQ.out).mono ?_);rintro e j8 ⟨rfl,hb⟩;refine ⟨_,rfl,?_⟩;replace hb:=hb.below;replace Rv:=am (Kd.fT Rv.out hb);replace Rg:=am (Kd.dM Rg.out hb);replace HB:=am (aB HB.out hb);clear hb)|fail)
 go_upto_region 25 with (first|((with_reducible refine aD (f:=15) rfl ?_);refine aM (some 75) rfl rfl Try.func15 (by kernel_rfl) rfl #[(.slice A l.length c)] rfl (by (try simp only [List.map_toArray,List.map_cons,List.map_nil]);first|done|rfl) ?_;(with_reducible refine (bJ.callsS k _ _ l xl _ (Kd.aH HR.out HB.out) HL.out HTO.out).mono ?_);rintro e j9 ⟨v,rfl,h0,hb⟩;refine ⟨_,rfl,?_⟩;obtain ⟨Au,cu,rfl⟩:=Kd.eP h0;have Ru:=am h0;replace Rv:=am (Kd.fT Rv.out hb);replace Rg:=am (Kd.dM Rg.out hb);replace HB:=am (aB HB.out hb);clear h0 hb)|((with_reducible refine aD (f:=16) rfl ?_);refine aM (some 76) rfl rfl Try.func16 (by kernel_rfl) rfl #[(.slice Au xl.length cu)] rfl (by (try simp only [List.map_toArray,List.map_cons,List.map_nil]);first|done|rfl) ?_;(with_reducible refine (eU.callsS k _ _ xl gl gb _ (Kd.dY (gT Ru.out)).2.2 (Kd.dY (gT Ru.out)).2.1 HIM.out).mono ?_);rintro e ja ⟨v,rfl,h0,hb⟩;refine ⟨_,rfl,?_⟩;obtain ⟨Ah,ch,rfl⟩:=Kd.eP h0;have Rh:=am (Kd.gL h0 HB.out.size);replace Rv:=am (Kd.fT Rv.out hb);replace Rg:=am (Kd.dM Rg.out hb);replace HB:=am (aB HB.out hb);clear h0 hb Ru)|fail)
 go_upto_region 28 with (first|((with_reducible refine aD (f:=17) rfl ?_);refine aM (some 81) rfl rfl Try.func17 (by kernel_rfl) rfl #[(.slice Ah gl.length ch),(.slice Av vl.length cv)] rfl (by (try simp only [List.map_toArray,List.map_cons,List.map_nil]);first|done|rfl) ?_;(with_reducible refine (aO.calls k _ _ gl _ _ vl true _ (Kd.dY (gT Rh.out)).2.2 (Kd.dY (gT Rh.out)).2.1 (Kd.iM Rv.out).2.2 (Kd.iM Rv.out).2.1 HE1.out).mono ?_);rintro e jb ⟨rfl,hb⟩;refine ⟨_,rfl,?_⟩;replace Rv:=am (Kd.fT Rv.out hb);replace Rg:=am (Kd.dM Rg.out hb);replace Rh:=am (Kd.dM Rh.out hb);replace HB:=am (aB HB.out hb);clear hb)|fail)
 go_wp2_with (first|((with_reducible refine aD (f:=19) rfl ?_);refine aM (some 90) rfl rfl Try.func19 (by kernel_rfl) rfl #[(.slice Ag pl.length cg), .int .i64 1] rfl (by (try simp only [List.map_toArray,List.map_cons,List.map_nil]);first|done|rfl) ?_;(with_reducible refine (bA.calls k _ _ pl 1 q _ (Kd.dY (gT Rg.out)).2.2 (Kd.dY (gT Rg.out)).2.1 HQ.out).mono ?_);rintro e jc ⟨rfl,hb⟩;refine ⟨_,rfl,?_⟩;replace hb:=hb.below;replace Rv:=am (Kd.fT Rv.out hb);replace Rg:=am (Kd.dM Rg.out hb);replace Rh:=am (Kd.dM Rh.out hb);replace HB:=am (aB HB.out hb);clear hb)|fail)
 go_ret
 exact ⟨rfl,HB.out⟩
end Go.Proofs.Ythiegfpcfedbgaa.PA

namespace Go.Proofs.Ythiegfpcfedbgaa.Core
open Go.RowKit Go.Proofs.YthiegfpcfedbgaaW.PrintWords Go.Proofs.YthiegfpcfedbgaaW.PrintMore
section
variable {α β:Type} {g h:Nat→Option α} {P Q:α→Prop}
def EvP (g:Nat→Option α) (P:α→Prop):Prop:=∃ r,Ev g r∧P r
theorem EvP.ret {r:α} (h:P r):EvP (fun _=>some r) P:=⟨r,Ev.now r,h⟩
theorem EvP.mono (h:EvP g P) (k:∀ a,P a→Q a):EvP g Q:=by
 obtain ⟨r,h1,h2⟩:=h
 exact ⟨r,h1,k r h2⟩
theorem EvP.bind {f:Nat→α→Option β} {R:β→Prop} (h:EvP g P) (k:∀ a,P a→EvP (fun n=>f n a) R):EvP (fun n=>(g n).bind (f n)) R:=by
 obtain ⟨a,h1,h2⟩:=h
 obtain ⟨r,k1,k2⟩:=k a h2
 exact ⟨r,Ev.bind h1 k1,k2⟩
theorem EvP.fE {o:Option α} {a:α} {f:Nat→α→Option β} {R:β→Prop} (h:o=some a) (k:EvP (fun n=>f n a) R):EvP (fun n=>o.bind (f n)) R:=by
 subst h
 exact k
theorem EvP.ite {c:Prop} [Decidable c] (h1:c→EvP g P) (h2:¬ c→EvP h P):EvP (fun n=>if c then g n else h n) P:=by
 by_cases hc:c
 ·simp only [if_pos hc]
  exact h1 hc
 ·simp only [if_neg hc]
  exact h2 hc
theorem EvP.yes {c:Prop} [Decidable c] (hc:c) (h1:EvP g P):EvP (fun n=>if c then g n else h n) P:=by
 simp only [if_pos hc]
 exact h1
theorem EvP.no {c:Prop} [Decidable c] (hc:¬ c) (h1:EvP h P):EvP (fun n=>if c then g n else h n) P:=by
 simp only [if_neg hc]
 exact h1
theorem EvP.step {f:Nat→Option α} (h:∀ k,g (k + 1)=f k) (k:EvP f P):EvP g P:=by
 obtain ⟨r,h1,h2⟩:=k
 exact ⟨r,Ev.step h h1,h2⟩
theorem EvP.ends {r:α} (h:EvP g (·=r)):∃ k,g k=some r:=by
  obtain ⟨a,h1,h2⟩:=h
  subst h2
  exact h1.rounds
theorem EvP.congr {f:Nat→Option α} (h:∀ k,g k=f k) (k:EvP f P):EvP g P:=by
 obtain ⟨r,h1,h2⟩:=k
 exact ⟨r,Ev.congr h h1,h2⟩
theorem EvP.bO {f:Nat→α→Option β} {R:β→Prop} {a:α} (h:EvP g (·=a)) (k:EvP (fun n=>f n a) R):EvP (fun n=>(g n).bind (f n)) R:=
  EvP.bind h (fun b hb=>by subst hb;exact k)
end
theorem w64 {n:Int} (h1:-9223372036854775808≤n) (h2:n≤9223372036854775807):wrap64 n=n:=by
 unfold wrap64
 omega
theorem OJ (xs:List Int) (i:Int) (h0:0≤i) (h:i < xs.length):rd xs i ∈ xs:=by
 unfold rd
 rw [List.getD_eq_getElem?_getD,List.getElem?_eq_getElem (by omega)]
 exact List.getElem_mem _
end Go.Proofs.Ythiegfpcfedbgaa.Core

namespace Go.Proofs.Ythiegfpcfedbgaa.PA
open Go.RowKit Go.Proofs.YthiegfpcfedbgaaW.PrintWords Go.Proofs.YthiegfpcfedbgaaW.PrintMore Go.Proofs.Ythiegfpcfedbgaa.Core
def vw (n:Int):Bool:=decide (-2147483648≤n) && decide (n≤2147483647)
theorem LC {n:Int}:vw n=true ↔ -2147483648≤n∧n≤2147483647:=by
 unfold vw
 rw [Bool.and_eq_true,decide_eq_true_eq,decide_eq_true_eq]
theorem MS (b:Int):0≤Go.bits .and .i64 b 31∧Go.bits .and .i64 b 31≤31:=by
 simp only [Go.bits]
 rw [show IntKind.i64.bits=64 from rfl,IntKind.wrap_i64,BitVec.toNat_and]
 have h:(BitVec.ofInt 64 b).toNat &&& (BitVec.ofInt 64 31).toNat≤(BitVec.ofInt 64 31).toNat:=Nat.and_le_right
 have e:(BitVec.ofInt 64 31).toNat=31:=by decide
 rw [e] at h ⊢
 omega
theorem nK (a:Int):wrap32 (wrap64 a)=wrap32 a:=by
 unfold wrap32 wrap64
 omega
theorem MQ (a:Int):wrap64 (wrap32 a)=wrap32 a:=by
 unfold wrap32 wrap64
 omega
def ap (op a b:Int):Int:=
 if op=1 then Go.bits .or .i64 a b else if op=2 then Go.bits .xor .i64 a b else if op=3 then Go.bits .and .i64 a b
 else if op=4 then (if a=b then 1 else 0) else if op=5 then (if a < b then 1 else 0)
 else if op=6 then wrap32 (shl .i64 a (Go.bits .and .i64 b 31)) else if op=7 then shr .i64 a (Go.bits .and .i64 b 31)
 else if op=8 then wrap32 (a + b) else if op=9 then wrap32 (a - b) else if op=10 then wrap32 (a * b)
 else if op=11 then (if b=0 then -1 else wrap32 (Int.tdiv a b)) else if b=0 then a else Int.tmod a b
theorem nZ (a b c:Int):dL.f a b c=some (decide (b≤a) && decide (a≤c)):=by
 unfold dL.f
 by_cases h:a≥b
 ·rw [if_pos h,decide_eq_true h,Bool.true_and]
 ·rw [if_neg h,decide_eq_false h,Bool.false_and]
theorem nG (a:Int):fP.f a=some (vw a):=by
 unfold fP.f
 rw [nZ]
 rfl
inductive X where
 |num (n:Int)
 |var (v:Int)
 |bin (op:Int) (a b:X)
namespace X
def ok:X→Prop
 |num n=>0≤n∧n≤99999
 |var v=>0≤v∧v < 4
 |bin op a b=>(1≤op∧op≤12)∧a.ok∧b.ok
def depth:X→Nat
 |num _=>1
 |var _=>1
 |bin _ a b=>max a.depth b.depth + 1
def size:X→Nat
 |num _=>1
 |var _=>1
 |bin _ a b=>a.size + b.size + 1
def eval (g:Int→Int):X→Int
 |num n=>n
 |var v=>g v
 |bin op a b=>ap op (a.eval g) (b.eval g)
def nO (op:Int):X→X→X
 |num m,num n=>if 0≤ap op m n∧ap op m n≤99999 then num (ap op m n) else bin op (num m) (num n)
 |a,b=>bin op a b
def fold:X→X
 |num n=>num n
 |var v=>var v
 |bin op a b=>nO op a.fold b.fold
def isNum:X→Bool
 |num _=>true
 | _=>false
theorem rZ:∀ x:X,x.size + 1≤2 ^ x.depth
 |num _|var _=>by simp [size,depth]
 |bin _ a b=>by
  have ha:=rZ a
  have hb:=rZ b
  have h1:2 ^ a.depth≤2 ^ max a.depth b.depth:=Nat.pow_le_pow_right (by omega) (Nat.le_max_left _ _)
  have h2:2 ^ b.depth≤2 ^ max a.depth b.depth:=Nat.pow_le_pow_right (by omega) (Nat.le_max_right _ _)
  simp only [size,depth,Nat.pow_succ]
  omega
theorem KC {op:Int} (ho:1≤op∧op≤12):∀ {a b:X},a.ok→b.ok→(nO op a b).ok:=by
 intro a b ha hb
 unfold nO
 split
 ·split
  ·assumption
  ·exact ⟨ho,ha,hb⟩
 ·exact ⟨ho,ha,hb⟩
theorem lX:∀ x:X,x.ok→x.fold.ok
 |num _,h=>h
 |var _,h=>h
 |bin _ a b,h=>KC h.1 (lX a h.2.1) (lX b h.2.2)
theorem BN (op:Int) (a b:X):(nO op a b).depth≤max a.depth b.depth + 1:=by
 unfold nO
 split
 ·split
  ·simp [depth]
  ·exact Nat.le_refl _
 ·exact Nat.le_refl _
theorem rR:∀ x:X,x.fold.depth≤x.depth
 |num _=>Nat.le_refl _
 |var _=>Nat.le_refl _
 |bin op a b=>by
  have ha:=rR a
  have hb:=rR b
  have h:=BN op a.fold b.fold
  simp only [fold,depth]
  omega
theorem BO {op:Int} {a b:X} (h:∀ m n,a=num m→b=num n→¬ (0≤ap op m n∧ap op m n≤99999)):nO op a b=bin op a b:=by
 unfold nO
 split
 ·rw [if_neg (h _ _ rfl rfl)]
 ·rfl
end X
def emb:X→S28
 | .num n=>⟨0,n,[]⟩
 | .var v=>⟨13,v,[]⟩
 | .bin op a b=>⟨op,0,[emb a,emb b]⟩
theorem AY (l:List S28) (i:Nat) (h:i < l.length):aW l (i:Int)=l[i]:=by
 unfold aW
 rw [Int.toNat_natCast,List.getD_eq_getElem?_getD,List.getElem?_eq_getElem h]
 rfl
theorem NA (a b:S28):aW [a,b] 0=a:=rfl
theorem NC (a b:S28):aW [a,b] 1=b:=rfl
theorem rP (a:S28):(⟨a.f0,a.f1,a.f2⟩:S28)=a:=by
 cases a
 rfl
def vx:Nat→Int→Int→List S28→Bool
 |0,_,_,_=>false
 |d + 1,op,n,l=>
  if op=0 then decide (0≤n) && (decide (n≤99999) && decide (l.length=0))
  else if op=13 then decide (0≤n) && (decide (n < 4) && decide (l.length=0))
  else decide (1≤op) && (decide (op≤12) && (decide (n=0) && (match l with
   |[a,b]=>vx d a.f0 a.f1 a.f2 && vx d b.f0 b.f1 b.f2
   | _=>false)))
theorem EN {α:Type} {l:List α} (h:l.length=2):∃ a b,l=[a,b]:=by
 match l,h with
 |[a,b],_=>exact ⟨a,b,rfl⟩
theorem BD:∀ (d:Nat) (op n:Int) (l:List S28),vx d op n l=true→∃ x:X,x.ok∧x.depth≤d∧emb x=⟨op,n,l⟩
 |0,_,_,_,h=>by cases h
 |d + 1,op,n,l,h=>by
  unfold vx at h
  by_cases h0:op=0
  ·rw [if_pos h0] at h
   simp only [Bool.and_eq_true,decide_eq_true_eq] at h
   subst h0
   exact ⟨.num n,⟨h.1,h.2.1⟩,by simp [X.depth],by rw [emb,List.eq_nil_of_length_eq_zero h.2.2]⟩
  ·rw [if_neg h0] at h
   by_cases j3:op=13
   ·rw [if_pos j3] at h
    simp only [Bool.and_eq_true,decide_eq_true_eq] at h
    subst j3
    exact ⟨.var n,⟨h.1,h.2.1⟩,by simp [X.depth],by rw [emb,List.eq_nil_of_length_eq_zero h.2.2]⟩
   ·rw [if_neg j3] at h
    simp only [Bool.and_eq_true,decide_eq_true_eq] at h
    obtain ⟨h1,h2,h3,h4⟩:=h
    split at h4
    ·rename_i a b
     simp only [Bool.and_eq_true] at h4
     obtain ⟨x,x1,x2,x3⟩:=BD d a.f0 a.f1 a.f2 h4.1
     obtain ⟨y,y1,y2,y3⟩:=BD d b.f0 b.f1 b.f2 h4.2
     exact ⟨.bin op x y,⟨⟨h1,h2⟩,x1,y1⟩,by simp only [X.depth];omega,by rw [emb,x3,y3,h3,rP,rP]⟩
    ·cases h4
theorem oK (a:Int):fK.f a=some (decide (1≤a) && decide (a≤12)):=by
 unfold fK.f
 by_cases h:a≥1
 ·rw [if_pos h,decide_eq_true h,Bool.true_and]
 ·rw [if_neg h,decide_eq_false h,Bool.false_and]
theorem oL (a:Int):eH.f a=some (decide (1≤a) && decide (a≤12)):=by
 unfold eH.f
 rw [nZ]
 rfl
theorem kK:∀ (d:Nat) (op n:Int) (l:List S28),d≤1000→EvP (fun k=>bS.f k op n l (d:Int)) (·=vx d op n l)
  |0,op,n,l,hd=>by
    refine EvP.step (fun k=>bS.f.eq_2 (k:=k) ..) ?_
    refine EvP.ite (fun h=>?_) (fun h=>?_)
    · refine EvP.ite (fun _=>EvP.ite (fun _=>EvP.ite (fun _=>EvP.ret ?_) (fun _=>EvP.ret ?_)) (fun _=>EvP.ret ?_)) (fun _=>EvP.ret ?_) <;> simp [vx]
    · refine EvP.ite (fun h=>?_) (fun h=>?_)
      · refine EvP.ite (fun _=>EvP.ite (fun _=>EvP.ite (fun _=>EvP.ret ?_) (fun _=>EvP.ret ?_)) (fun _=>EvP.ret ?_)) (fun _=>EvP.ret ?_) <;> simp [vx]
      · refine EvP.fE (oK op) (EvP.ite (fun _=>EvP.ite (fun _=>EvP.ite (fun _=>EvP.no (by omega) (EvP.ret ?_)) (fun _=>EvP.ret ?_)) (fun _=>EvP.ret ?_)) (fun _=>EvP.ret ?_)) <;> simp [vx]
  |d + 1,op,n,l,hd=>by
    refine EvP.step (fun k=>bS.f.eq_2 (k:=k) ..) ?_
    unfold vx
    refine EvP.ite (fun h=>?_) (fun h=>?_)
    · rw [if_pos h]
      refine EvP.ite (fun h1=>EvP.ite (fun h2=>EvP.ite (fun h3=>EvP.ret ?_) (fun h3=>EvP.ret ?_)) (fun h2=>EvP.ret ?_)) (fun h1=>EvP.ret ?_)
      · rw [decide_eq_true (show 0≤n from h1),decide_eq_true h2,decide_eq_true (show l.length=0 by omega)]
        simp
      · rw [decide_eq_false (p:=l.length=0) (by omega)]
        simp
      · rw [decide_eq_false h2]
        simp
      · rw [decide_eq_false (p:=0≤n) h1]
        simp
    · rw [if_neg h]
      refine EvP.ite (fun h=>?_) (fun j3=>?_)
      · rw [if_pos h]
        refine EvP.ite (fun h1=>EvP.ite (fun h2=>EvP.ite (fun h3=>EvP.ret ?_) (fun h3=>EvP.ret ?_)) (fun h2=>EvP.ret ?_)) (fun h1=>EvP.ret ?_)
        · rw [decide_eq_true (show 0≤n from h1),decide_eq_true h2,decide_eq_true (show l.length=0 by omega)]
          simp
        · rw [decide_eq_false (p:=l.length=0) (by omega)]
          simp
        · rw [decide_eq_false h2]
          simp
        · rw [decide_eq_false (p:=0≤n) h1]
          simp
      · rw [if_neg j3]
        refine EvP.fE (oK op) (EvP.ite (fun h1=>?_) (fun h1=>EvP.ret ?_))
        · simp only [Bool.and_eq_true,decide_eq_true_eq] at h1
          rw [decide_eq_true h1.1,decide_eq_true h1.2]
          refine EvP.ite (fun h2=>?_) (fun h2=>EvP.ret (by rw [decide_eq_false h2];rfl))
          rw [decide_eq_true h2]
          refine EvP.ite (fun h3=>?_) (fun h3=>EvP.ret ?_)
          · obtain ⟨a,b,rfl⟩:=EN (show l.length=2 by omega)
            refine EvP.ite (fun h4=>?_) (fun h4=>EvP.ret ?_)
            · rw [w64 (by omega) (by omega),show ((d + 1:Nat):Int) - 1=(d:Int) by omega,NA,NC]
              refine EvP.yes (by simp) (EvP.bO (kK d _ _ _ (by omega)) (EvP.ite (fun h5=>?_) (fun h5=>EvP.ret ?_)))
              · refine EvP.yes (by simp) (EvP.bO (kK d _ _ _ (by omega)) (EvP.ret ?_))
                simp [h5]
              · simp [h5]
            · have hd0:d=0:=by omega
              subst hd0
              rfl
          · split
            · simp at h3
            · rfl
        · symm
          rw [Bool.eq_false_iff]
          intro e
          simp only [Bool.and_eq_true,decide_eq_true_eq] at e h1
          exact h1 ⟨e.1,e.2.1⟩
theorem oG:∀ (d:Nat) (op n:Int) (l:List S28),d≤1000→EvP (fun k=>dZ.f k op n l (d:Int)) (·=vx d op n l)
  |0,op,n,l,hd=>EvP.step (fun k=>dZ.f.eq_2 (k:=k) ..) (EvP.yes (by omega) (EvP.ret rfl))
  |d + 1,op,n,l,hd=>by
    have hlen:((l.length:Int) == 0)=decide (l.length=0):=by
      rw [Bool.eq_iff_iff,beq_iff_eq,decide_eq_true_eq]
      omega
    refine EvP.step (fun k=>dZ.f.eq_2 (k:=k) ..) (EvP.no (by omega) ?_)
    unfold vx
    refine EvP.ite (fun h=>?_) (fun h=>?_)
    · rw [if_pos h,nZ]
      refine EvP.fE rfl (EvP.ite (fun h1=>EvP.ret ?_) (fun h1=>EvP.ret ?_))
      · rw [hlen]
        simp only [Bool.and_eq_true,decide_eq_true_eq] at h1
        rw [decide_eq_true h1.1,decide_eq_true h1.2]
        rfl
      · rw [← Bool.and_assoc,Bool.eq_false_iff.mpr h1]
        rfl
    · rw [if_neg h]
      refine EvP.ite (fun h=>?_) (fun j3=>?_)
      · rw [if_pos h,nZ]
        have e3:decide (n < 4)=decide (n≤3):=decide_eq_decide.mpr (by omega)
        rw [e3]
        refine EvP.fE rfl (EvP.ite (fun h1=>EvP.ret ?_) (fun h1=>EvP.ret ?_))
        · rw [hlen]
          simp only [Bool.and_eq_true,decide_eq_true_eq] at h1
          rw [decide_eq_true h1.1,decide_eq_true h1.2]
          rfl
        · rw [← Bool.and_assoc,Bool.eq_false_iff.mpr h1]
          rfl
      · rw [if_neg j3]
        refine EvP.fE (oL op) (EvP.ite (fun h1=>?_) (fun h1=>EvP.ret ?_))
        · simp only [Bool.and_eq_true,decide_eq_true_eq] at h1
          rw [decide_eq_true h1.1,decide_eq_true h1.2]
          refine EvP.ite (fun h2=>?_) (fun h2=>EvP.ret (by rw [decide_eq_false h2];rfl))
          rw [decide_eq_true h2]
          refine EvP.ite (fun h3=>?_) (fun h3=>EvP.ret ?_)
          · obtain ⟨a,b,rfl⟩:=EN (show l.length=2 by omega)
            rw [w64 (by omega) (by omega),show ((d + 1:Nat):Int) - 1=(d:Int) by omega,NA,NC]
            refine EvP.yes (by simp) (EvP.bO (oG d _ _ _ (by omega)) (EvP.ite (fun h5=>?_) (fun h5=>EvP.ret ?_)))
            · refine EvP.yes (by simp) (EvP.bO (oG d _ _ _ (by omega)) (EvP.ret ?_))
              simp [h5]
            · simp [h5]
          · split
            · simp at h3
            · rfl
        · rw [← Bool.and_assoc,Bool.eq_false_iff.mpr h1]
          rfl
theorem iK (op n:Int) (l:List S28):EvP (fun k=>bM.f k op n l) (·=vx 5 op n l):=by
  unfold bM.f
  exact EvP.bO (oG 5 op n l (by omega)) (EvP.ret rfl)
theorem sW (op n:Int) (l:List S28):EvP (fun k=>dV.f k op n l) (·=vx 5 op n l):=by
  unfold dV.f
  exact EvP.bO (kK 5 op n l (by omega)) (EvP.ret rfl)
def tri (e:S28):Int × Int × List S28:=(e.f0,e.f1,e.f2)
theorem kJ (a:Int):fU.f a=some (wrap32 a):=by
 unfold fU.f
 rw [MQ]
theorem kM (a:Int):fF.f a=some (wrap32 a):=by
 have ht:Int.tmod a 4294967296=a % 4294967296∨(a < 0∧Int.tmod a 4294967296= -((-a) % 4294967296)):=by
  rcases Int.le_total 0 a with h|h
  ·exact .inl (Int.tmod_eq_emod_of_nonneg h)
  ·by_cases h0:a=0
   ·subst h0
    exact .inl rfl
   ·refine .inr ⟨by omega,?_⟩
    rw [← Int.tmod_eq_emod_of_nonneg (show 0≤-a by omega),Int.neg_tmod,Int.neg_neg]
 unfold fF.f
 generalize Int.tmod a 4294967296=m at ht ⊢
 unfold wrap32
 by_cases h1:m > 2147483647
 ·rw [if_pos h1,w64 (by omega) (by omega)]
  congr 1
  omega
 ·by_cases h2:m < -2147483648
  ·rw [if_neg h1,if_pos h2,w64 (by omega) (by omega)]
   congr 1
   omega
  ·rw [if_neg h1,if_neg h2]
   congr 1
   omega
theorem rH (b:Bool):iN.f b=some (if b=true then 1 else 0):=by
 unfold iN.f
 cases b <;> rfl
theorem pG (b:Bool):iD.f b=some (if b=true then 1 else 0):=by
 unfold iD.f
 cases b <;> rfl
theorem wX (op a b:Int):fV.f op a b=some (ap op a b):=by
 unfold fV.f ap
 have hs:=MS b
 by_cases h1:op=1
 ·rw [if_pos h1,if_pos h1]
 rw [if_neg h1,if_neg h1]
 by_cases h2:op=2
 ·rw [if_pos h2,if_pos h2]
 rw [if_neg h2,if_neg h2]
 by_cases h3:op=3
 ·rw [if_pos h3,if_pos h3]
 rw [if_neg h3,if_neg h3]
 by_cases h4:op=4
 ·rw [if_pos h4,if_pos h4,rH]
  simp
 rw [if_neg h4,if_neg h4]
 by_cases h5:op=5
 ·rw [if_pos h5,if_pos h5,rH]
  simp
 rw [if_neg h5,if_neg h5]
 by_cases h6:op=6
 ·rw [if_pos h6,if_pos h6,if_pos hs.1,kJ,Option.bind_some]
 rw [if_neg h6,if_neg h6]
 by_cases h7:op=7
 ·rw [if_pos h7,if_pos h7,if_pos hs.1]
 rw [if_neg h7,if_neg h7]
 by_cases h8:op=8
 ·rw [if_pos h8,if_pos h8,kJ,Option.bind_some,nK]
 rw [if_neg h8,if_neg h8]
 by_cases h9:op=9
 ·rw [if_pos h9,if_pos h9,kJ,Option.bind_some,nK]
 rw [if_neg h9,if_neg h9]
 by_cases j3:op=10
 ·rw [if_pos j3,if_pos j3,kJ,Option.bind_some,nK]
 rw [if_neg j3,if_neg j3]
 by_cases j4:op=11
 ·rw [if_pos j4,if_pos j4]
  by_cases hb:b=0
  ·rw [if_pos hb,if_pos hb]
  ·rw [if_neg hb,if_neg hb,kJ,Option.bind_some,nK]
 rw [if_neg j4,if_neg j4]
 by_cases hb:b=0
 ·rw [if_pos hb,if_pos hb]
 ·rw [if_neg hb,if_neg hb]
theorem xB (op a b:Int) (ho:1≤op∧op≤12) (ha:vw a=true) (hb:vw b=true):EvP (fun k=>dA.f k op a b) (·=(ap op a b,true)):=by
  have hs:=MS b
  unfold dA.f ap
  refine EvP.fE (oL op) (EvP.yes (by simp;exact ho) (EvP.fE (nG a) (EvP.yes ha (EvP.fE (nG b) ?_))))
  rw [hb]
  refine EvP.step (fun k=>dA.j0.eq_2 (k:=k) ..) (EvP.no (by simp) ?_)
  refine EvP.ite (fun h=>EvP.ret (by rw [if_pos h])) (fun h=>?_)
  rw [if_neg h]
  refine EvP.ite (fun h=>EvP.ret (by rw [if_pos h])) (fun h=>?_)
  rw [if_neg h]
  refine EvP.ite (fun h=>EvP.ret (by rw [if_pos h])) (fun h=>?_)
  rw [if_neg h]
  refine EvP.ite (fun h=>EvP.fE (pG _) (EvP.ret (by rw [if_pos h];simp))) (fun h=>?_)
  rw [if_neg h]
  refine EvP.ite (fun h=>EvP.fE (pG _) (EvP.ret (by rw [if_pos h];simp))) (fun h=>?_)
  rw [if_neg h]
  refine EvP.ite (fun h=>?_) (fun h=>?_)
  · rw [if_pos h]
    unfold gH.f
    rw [if_neg (by simp),if_pos hs.1,kM,Option.bind_some]
    exact EvP.fE rfl (EvP.ret rfl)
  rw [if_neg h]
  refine EvP.ite (fun h=>?_) (fun h=>?_)
  · rw [if_pos h]
    unfold gH.f
    rw [if_pos rfl,if_pos hs.1]
    exact EvP.fE rfl (EvP.ret rfl)
  rw [if_neg h]
  refine EvP.ite (fun h=>EvP.fE (kM _) (EvP.ret (by rw [if_pos h,nK]))) (fun h=>?_)
  rw [if_neg h]
  refine EvP.ite (fun h=>EvP.fE (kM _) (EvP.ret (by rw [if_pos h,nK]))) (fun h=>?_)
  rw [if_neg h]
  refine EvP.ite (fun h=>EvP.fE (kM _) (EvP.ret (by rw [if_pos h,nK]))) (fun h=>?_)
  rw [if_neg h]
  refine EvP.ite (fun h=>?_) (fun h=>?_)
  · rw [if_pos h]
    unfold iW.f
    by_cases hz:b=0
    · rw [if_pos hz,if_pos hz]
      exact EvP.fE rfl (EvP.ret rfl)
    · rw [if_neg hz,if_neg hz,kM,Option.bind_some,nK]
      exact EvP.fE rfl (EvP.ret rfl)
  rw [if_neg h]
  unfold iX.f
  by_cases hz:b=0
  · rw [if_pos hz,if_pos hz]
    exact EvP.fE rfl (EvP.ret rfl)
  · rw [if_neg hz,if_neg hz]
    exact EvP.fE rfl (EvP.ret rfl)
mutual
def trE:S24→S28
 |⟨a,b,l⟩=>⟨a,b,rC l⟩
def rC:List S24→List S28
 |[]=>[]
 |x :: xs=>trE x :: rC xs
end
mutual
def iL:S24→Nat
 |⟨_,_,l⟩=>iV l
def iV:List S24→Nat
 |[]=>0
 |x :: xs=>iL x + 1 + iV xs
end
theorem KY (x:S24):trE x=⟨x.f0,x.f1,rC x.f2⟩:=by
 cases x
 rw [trE]
theorem yQ (x:S24):iL x=iV x.f2:=by
 cases x
 rw [iL]
theorem vD:∀ l:List S24,(rC l).length=l.length
 |[]=>by rw [rC];rfl
 |x :: xs=>by rw [rC,List.length_cons,List.length_cons,vD xs]
theorem kI:∀ l:List S24,l.length≤iV l
 |[]=>Nat.zero_le _
 |x :: xs=>by
  have:=kI xs
  rw [iV,List.length_cons]
  omega
theorem uL:∀ (l:List S24) (x:S24),x ∈ l→iL x≤iV l
 |y :: ys,x,h=>by
  rw [iV]
  rcases List.mem_cons.1 h with rfl|h
  ·omega
  ·have:=uL ys x h
   omega
theorem DV (l:List S24) (i:Nat) (h:i < l.length):iV (l.drop i)=iL l[i] + 1 + iV (l.drop (i + 1)):=by
 rw [List.drop_eq_getElem_cons h,iV]
theorem AA {P:S24→Prop} (h:∀ e:S24,(∀ x ∈ e.f2,P x)→P e) (e:S24):P e:=
 S24.rec (motive_1:=P) (motive_2:=fun l=>∀ x ∈ l,P x) (fun a b l ih=>h ⟨a,b,l⟩ ih) (fun x hx=>by simp at hx) (fun y ys h1 h2 x hx=>by
  rcases List.mem_cons.1 hx with rfl|hx
  ·exact h1
  ·exact h2 x hx) e
theorem CJ (l:List S24) (i:Nat) (h:i < l.length):fM l (i:Int)=l[i]:=by
 unfold fM
 rw [Int.toNat_natCast,List.getD_eq_getElem?_getD,List.getElem?_eq_getElem h]
 rfl
def lefts (c:Nat) (n:Int):Int:=if (c:Int)≤n then n - c else -1
theorem EF (l:List S24) (hl:l.length≤1048576) (he:∀ x ∈ l,∀ n:Int,0≤n→n≤1048576→EvP (fun k=>bV.f k x.f0 x.f1 x.f2 n) (·=lefts (iL x) n)):
    ∀ (d j:Nat) (n:Int),j + d=l.length→0≤n→n≤1048576→EvP (fun k=>bB.l0 k l n (j:Int)) (·=lefts (iV (l.drop j) - d) n):=by
  intro d
  induction d with
  |zero=>
    intro j n hj h0 h1
    refine EvP.step (fun k=>bB.l0.eq_2 (k:=k) ..) (EvP.no (by omega) (EvP.ret ?_))
    rw [List.drop_eq_nil_of_le (by omega)]
    unfold lefts
    rw [if_pos (by simp [iV];omega)]
    simp [iV]
  |succ d ih=>
    intro j n hj h0 h1
    have hlt:j < l.length:=by omega
    have hc:=DV l j hlt
    have hd:d≤iV (l.drop (j + 1)):=by
      have:=kI (l.drop (j + 1))
      rw [List.length_drop] at this
      omega
    refine EvP.step (fun k=>bB.l0.eq_2 (k:=k) ..) (EvP.yes (by omega) (EvP.yes (by omega) ?_))
    rw [CJ l j hlt,w64 (n:=(j:Int) + 1) (by omega) (by omega)]
    refine EvP.bO (he _ (List.getElem_mem hlt) n h0 h1) ?_
    by_cases h2:(iL l[j]:Int)≤n
    · have e:lefts (iL l[j]) n=n - iL l[j]:=if_pos h2
      rw [e]
      refine EvP.no (by omega) ?_
      refine (ih (j + 1) (n - iL l[j]) (by omega) (by omega) (by omega)).mono fun a ha=>?_
      rw [ha]
      unfold lefts
      by_cases h3:((iV (l.drop (j + 1)) - d:Nat):Int)≤n - iL l[j]
      · rw [if_pos h3,if_pos (by omega)]
        omega
      · rw [if_neg h3,if_neg (by omega)]
    · have e:lefts (iL l[j]) n= -1:=if_neg h2
      rw [e]
      refine EvP.yes (by omega) (EvP.ret ?_)
      unfold lefts
      rw [if_neg (by omega)]
theorem EG (l:List S24) (hl:l.length≤maxLen) (he:∀ x ∈ l,∀ n:Int,0≤n→n≤1048576→EvP (fun k=>bV.f k x.f0 x.f1 x.f2 n) (·=lefts (iL x) n)) (n:Int) (h0:0≤n) (h1:n≤1048576):
    EvP (fun k=>bB.f k l n) (·=lefts (iV l) n):=by
  have hm:maxLen=9223372036854775807:=rfl
  have hc:=kI l
  refine EvP.step (fun k=>bB.f.eq_2 (k:=k) ..) ?_
  rw [w64 (by omega) (by omega)]
  refine EvP.ite (fun h=>EvP.ret ?_) (fun h=>?_)
  · unfold lefts
    rw [if_neg (by omega)]
  · refine (EF l (by omega) he l.length 0 (n - l.length) (by omega) (by omega) (by omega)).mono fun a ha=>?_
    rw [ha,List.drop_zero]
    unfold lefts
    by_cases h3:((iV l - l.length:Nat):Int)≤n - l.length
    · rw [if_pos h3,if_pos (by omega)]
      omega
    · rw [if_neg h3,if_neg (by omega)]
theorem GN (e:S24):DN e→∀ n:Int,0≤n→n≤1048576→EvP (fun k=>bV.f k e.f0 e.f1 e.f2 n) (·=lefts (iL e) n):=by
  refine AA (P:=fun e=>DN e→∀ n:Int,0≤n→n≤1048576→EvP (fun k=>bV.f k e.f0 e.f1 e.f2 n) (·=lefts (iL e) n)) (fun e ih hw n h0 h1=>?_) e
  cases hw with
  |mk _ _ _ hl hx=>
    refine EvP.step (fun k=>bV.f.eq_2 (k:=k) ..) ?_
    refine EvP.bO (EG e.f2 hl (fun x hm=>ih x hm (hx x hm)) n h0 h1) ?_
    rw [yQ]
    refine EvP.ite (fun h=>EvP.ret ?_) (fun h=>EvP.ret rfl)
    unfold lefts at h ⊢
    by_cases h3:(iV e.f2:Int)≤n
    · rw [if_pos h3] at h
      omega
    · rw [if_neg h3]
theorem EJ (l:List S24) (hl:l.length≤1048576) (he:∀ x ∈ l,EvP (fun k=>dP.f k x.f0 x.f1 x.f2) (·=tri (trE x))):
    ∀ (d j:Nat) (m:List S28),j + d=l.length→m.length=l.length→EvP (fun k=>bZ.l0 k l m (j:Int)) (·=m.take j ++ rC (l.drop j)):=by
  intro d
  induction d with
  |zero=>
    intro j m hj hm
    refine EvP.step (fun k=>bZ.l0.eq_2 (k:=k) ..) (EvP.no (by omega) (EvP.ret ?_))
    rw [List.drop_eq_nil_of_le (by omega),List.take_of_length_le (by omega)]
    simp [rC]
  |succ d ih=>
    intro j m hj hm
    have hlt:j < l.length:=by omega
    refine EvP.step (fun k=>bZ.l0.eq_2 (k:=k) ..) (EvP.yes (by omega) (EvP.yes (by omega) ?_))
    rw [CJ l j hlt,w64 (n:=(j:Int) + 1) (by omega) (by omega),Int.toNat_natCast]
    refine EvP.bO (he _ (List.getElem_mem hlt)) (EvP.yes (by omega) ?_)
    simp only [tri,rP]
    refine (ih (j + 1) (m.set j (trE l[j])) (by omega) (by rw [List.length_set];exact hm)).mono fun a ha=>?_
    rw [ha,List.take_succ_eq_append_getElem (by rw [List.length_set];omega),List.getElem_set_self,List.take_set_of_le (by omega),List.append_assoc,List.drop_eq_getElem_cons hlt,rC]
    rfl
theorem EK (l:List S24) (hl:l.length≤1048576) (he:∀ x ∈ l,EvP (fun k=>dP.f k x.f0 x.f1 x.f2) (·=tri (trE x))):EvP (fun k=>bZ.f k l) (·=rC l):=by
  refine EvP.step (fun k=>bZ.f.eq_2 (k:=k) ..) (EvP.yes (by omega) (EvP.yes (by omega) ?_))
  exact EJ l hl he l.length 0 _ (by omega) (by rw [List.length_replicate];omega)
theorem GR (e:S24):iL e≤1048576→EvP (fun k=>dP.f k e.f0 e.f1 e.f2) (·=tri (trE e)):=by
  refine AA (P:=fun e=>iL e≤1048576→EvP (fun k=>dP.f k e.f0 e.f1 e.f2) (·=tri (trE e))) (fun e ih hc=>?_) e
  rw [yQ] at hc
  have hl:=kI e.f2
  refine EvP.step (fun k=>dP.f.eq_2 (k:=k) ..) ?_
  refine EvP.bO (EK e.f2 (by omega) (fun x hm=>ih x hm (by have:=uL e.f2 x hm;omega))) (EvP.ret ?_)
  rw [KY]
  rfl
theorem DX (m:List S28) (hl:m.length≤1048576) (he:∀ x ∈ m,EvP (fun k=>bN.f k x.f0 x.f1 x.f2 x.f0 x.f1 x.f2) (·=true)):
    ∀ (d j:Nat),j + d=m.length→EvP (fun k=>aR.l0 k m m (j:Int)) (·=true):=by
  intro d
  induction d with
  |zero=>
    intro j hj
    exact EvP.step (fun k=>aR.l0.eq_2 (k:=k) ..) (EvP.no (by omega) (EvP.ret rfl))
  |succ d ih=>
    intro j hj
    have hlt:j < m.length:=by omega
    refine EvP.step (fun k=>aR.l0.eq_2 (k:=k) ..) (EvP.yes (by omega) (EvP.yes (by omega) (EvP.yes (by omega) ?_)))
    rw [AY m j hlt,w64 (n:=(j:Int) + 1) (by omega) (by omega)]
    exact EvP.bO (he _ (List.getElem_mem hlt)) (EvP.yes rfl (ih (j + 1) (by omega)))
theorem DY (m:List S28) (hl:m.length≤1048576) (he:∀ x ∈ m,EvP (fun k=>bN.f k x.f0 x.f1 x.f2 x.f0 x.f1 x.f2) (·=true)):EvP (fun k=>aR.f k m m) (·=true):=
  EvP.step (fun k=>aR.f.eq_2 (k:=k) ..) (EvP.yes rfl (DX m hl he m.length 0 (by omega)))
inductive Short:S28→Prop
 |mk (x:S28) (h:x.f2.length≤1048576) (g:∀ y ∈ x.f2,Short y):Short x
theorem yS (e:S28) (h:Short e):EvP (fun k=>bN.f k e.f0 e.f1 e.f2 e.f0 e.f1 e.f2) (·=true):=by
  induction h with
  |mk x h g ih=>
    refine EvP.step (fun k=>bN.f.eq_2 (k:=k) ..) (EvP.yes rfl (EvP.yes rfl ?_))
    exact EvP.bO (DY x.f2 h ih) (EvP.yes rfl (EvP.ret rfl))
theorem KZ {l:List S24} {y:S28} (h:y ∈ rC l):∃ x ∈ l,y=trE x:=by
 induction l with
 |nil=>simp [rC] at h
 |cons a l ih=>
  rw [rC] at h
  rcases List.mem_cons.1 h with rfl|h
  ·exact ⟨a,List.mem_cons_self,rfl⟩
  ·obtain ⟨x,hx,e⟩:=ih h
   exact ⟨x,List.mem_cons_of_mem _ hx,e⟩
theorem GJ (e:S24):iL e≤1048576→Short (trE e):=by
 refine AA (P:=fun e=>iL e≤1048576→Short (trE e)) (fun e ih hc=>?_) e
 rw [yQ] at hc
 have hl:=kI e.f2
 rw [KY]
 refine .mk _ (by rw [vD];omega) fun y hy=>?_
 obtain ⟨x,hx,rfl⟩:=KZ hy
 exact ih x hx (by have:=uL e.f2 x hx;omega)
theorem uT:∀ x:X,Short (emb x)
 | .num _=> .mk _ (by simp [emb]) (fun y hy=>by simp [emb] at hy)
 | .var _=> .mk _ (by simp [emb]) (fun y hy=>by simp [emb] at hy)
 | .bin _ a b=> .mk _ (by simp [emb]) (fun y hy=>by
  simp only [emb,List.mem_cons,List.not_mem_nil,or_false] at hy
  rcases hy with rfl|rfl
  ·exact uT a
  ·exact uT b)
mutual
def nE:S28→Nat
 |⟨_,_,l⟩=>nEs l + 1
def nEs:List S28→Nat
 |[]=>0
 |x :: xs=>nE x + nEs xs
end
mutual
def mkE:S28→Int→S28
 |⟨_,_,l⟩,n=>⟨n,n + 1,lN l (n + 2)⟩
def lN:List S28→Int→List S28
 |[],_=>[]
 |x :: xs,n=>mkE x n :: lN xs (n + 2 * nE x)
end
theorem AU (x:S28):nE x=nEs x.f2 + 1:=by
 cases x
 rw [nE]
theorem MX (x:S28) (n:Int):mkE x n=⟨n,n + 1,lN x.f2 (n + 2)⟩:=by
 cases x
 rw [mkE]
theorem uY:∀ (l:List S28) (n:Int),(lN l n).length=l.length
 |[],_=>by rw [lN]
 |x :: xs,n=>by rw [lN,List.length_cons,List.length_cons,uY xs]
theorem mR:∀ l:List S28,l.length≤nEs l
 |[]=>Nat.zero_le _
 |x :: xs=>by
  have:=mR xs
  rw [nEs,List.length_cons,AU]
  omega
theorem CB (l:List S28) (i:Nat) (h:i < l.length):nEs (l.drop i)=nE l[i] + nEs (l.drop (i + 1)):=by
 rw [List.drop_eq_getElem_cons h,nEs]
theorem MU {P:S28→Prop} (h:∀ e:S28,(∀ x ∈ e.f2,P x)→P e) (e:S28):P e:=
 S28.rec (motive_1:=P) (motive_2:=fun l=>∀ x ∈ l,P x) (fun a b l ih=>h ⟨a,b,l⟩ ih) (fun x hx=>by simp at hx) (fun y ys h1 h2 x hx=>by
  rcases List.mem_cons.1 hx with rfl|hx
  ·exact h1
  ·exact h2 x hx) e
theorem AO (l:List S28) (hL:l.length≤1099511627776) (he:∀ x ∈ l,∀ n:Int,0≤n→n + 2 * nEs x.f2≤1099511627776→EvP (fun k=>bE.f k x.f2 n) (·=(n + 2 * nEs x.f2,lN x.f2 n))):
    ∀ (d j:Nat) (m:List S28) (n:Int),j + d=l.length→m.length=l.length→m.drop j=l.drop j→0≤n→n + 2 * nEs (l.drop j)≤1099511627776→EvP (fun k=>bE.l0 k m n (j:Int)) (·=(n + 2 * nEs (l.drop j),m.take j ++ lN (l.drop j) n)):=by
  intro d
  induction d with
  |zero=>
    intro j m n hj hm hd h0 h1
    refine EvP.step (fun k=>bE.l0.eq_2 (k:=k) ..) (EvP.no (by omega) (EvP.ret ?_))
    rw [List.drop_eq_nil_of_le (by omega),List.take_of_length_le (by omega),nEs,lN]
    simp
  |succ d ih=>
    intro j m n hj hm hd h0 h1
    have hlt:j < l.length:=by omega
    have hc:=CB l j hlt
    have hn:=AU l[j]
    have hl:=mR (l.drop j)
    rw [List.length_drop] at hl
    have hg:m[j]'(by omega)=l[j]:=by
      have h2:=congrArg (·[0]?) hd
      simp only [List.getElem?_drop,Nat.add_zero] at h2
      rw [List.getElem?_eq_getElem (by omega),List.getElem?_eq_getElem hlt] at h2
      exact Option.some.inj h2
    refine EvP.step (fun k=>bE.l0.eq_2 (k:=k) ..) (EvP.yes (by omega) (EvP.yes (by omega) ?_))
    rw [AY m j (by omega),hg,w64 (n:=n + 1) (by omega) (by omega),w64 (n:=n + 1 + 1) (by omega) (by omega),w64 (n:=(j:Int) + 1) (by omega) (by omega),Int.toNat_natCast]
    refine EvP.bO (he _ (List.getElem_mem hlt) (n + 1 + 1) (by omega) (by omega)) ?_
    dsimp only
    refine (ih (j + 1) (m.set j _) (n + 1 + 1 + 2 * nEs l[j].f2) (by omega) (by rw [List.length_set];exact hm) ?_ (by omega) (by omega)).mono fun a ha=>?_
    · rw [List.drop_set_of_lt (by omega),← List.drop_drop,hd,List.drop_drop]
    · rw [ha,List.take_succ_eq_append_getElem (by rw [List.length_set];omega),List.getElem_set_self,List.take_set_of_le (by omega),List.append_assoc,List.drop_eq_getElem_cons hlt,nEs,lN,MX]
      rw [show n + 1 + 1=n + 2 by omega,show n + 2 + 2 * (nEs l[j].f2:Int)=n + 2 * (nE l[j]:Int) by omega]
      refine Prod.ext ?_ ?_
      · show n + 2 * (nE l[j]:Int) + 2 * (nEs (l.drop (j + 1)):Int)=n + 2 * ((nE l[j] + nEs (l.drop (j + 1)):Nat):Int)
        omega
      · rfl
theorem tH (l:List S28) (he:∀ x ∈ l,∀ n:Int,0≤n→n + 2 * nEs x.f2≤1099511627776→EvP (fun k=>bE.f k x.f2 n) (·=(n + 2 * nEs x.f2,lN x.f2 n))) (n:Int) (h0:0≤n) (h1:n + 2 * nEs l≤1099511627776):
    EvP (fun k=>bE.f k l n) (·=(n + 2 * nEs l,lN l n)):=
  EvP.step (fun k=>bE.f.eq_2 (k:=k) ..) (AO l (by have:=mR l;omega) he l.length 0 l n (by omega) rfl rfl h0 h1)
theorem AL (x:S28):∀ n:Int,0≤n→n + 2 * nEs x.f2≤1099511627776→EvP (fun k=>bE.f k x.f2 n) (·=(n + 2 * nEs x.f2,lN x.f2 n)):=
  MU (P:=fun x=>∀ n:Int,0≤n→n + 2 * nEs x.f2≤1099511627776→EvP (fun k=>bE.f k x.f2 n) (·=(n + 2 * nEs x.f2,lN x.f2 n))) (fun e ih n h0 h1=>tH e.f2 ih n h0 h1) x
theorem AJ (l:List S28) (n:Int) (h0:0≤n) (h1:n + 2 * nEs l≤1099511627776):EvP (fun k=>bE.f k l n) (·=(n + 2 * nEs l,lN l n)):=
  tH l (fun x _=>AL x) n h0 h1
theorem yV (l:List S28) (hL:l.length≤1099511627776) (he:∀ x ∈ l,∀ n:Int,0≤n→n + 2 * nEs x.f2≤1099511627776→EvP (fun k=>aT.f k (lN x.f2 n) n) (·=n + 2 * nEs x.f2)):
    ∀ (d j:Nat) (m:List S28) (n:Int),j + d=l.length→m.length=l.length→m.drop j=lN (l.drop j) n→0≤n→n + 2 * nEs (l.drop j)≤1099511627776→EvP (fun k=>aT.l0 k m n (j:Int)) (·=n + 2 * nEs (l.drop j)):=by
  intro d
  induction d with
  |zero=>
    intro j m n hj hm hd h0 h1
    refine EvP.step (fun k=>aT.l0.eq_2 (k:=k) ..) (EvP.no (by omega) (EvP.ret ?_))
    rw [List.drop_eq_nil_of_le (by omega),nEs]
    simp
  |succ d ih=>
    intro j m n hj hm hd h0 h1
    have hlt:j < l.length:=by omega
    have hc:=CB l j hlt
    have hn:=AU l[j]
    have hl:=mR (l.drop j)
    rw [List.length_drop] at hl
    rw [List.drop_eq_getElem_cons (show j < m.length by omega),List.drop_eq_getElem_cons hlt,lN] at hd
    injection hd with hg hd
    rw [MX] at hg
    refine EvP.step (fun k=>aT.l0.eq_2 (k:=k) ..) (EvP.yes (by omega) (EvP.yes (by omega) ?_))
    rw [AY m j (by omega),hg,w64 (n:=n + 1) (by omega) (by omega),w64 (n:=n + 1 + 1) (by omega) (by omega),w64 (n:=(j:Int) + 1) (by omega) (by omega)]
    dsimp only
    refine EvP.yes rfl (EvP.yes rfl ?_)
    rw [show n + 1 + 1=n + 2 by omega]
    refine EvP.bO (he _ (List.getElem_mem hlt) (n + 2) (by omega) (by omega)) (EvP.no (by omega) ?_)
    refine (ih (j + 1) m (n + 2 + 2 * nEs l[j].f2) (by omega) hm ?_ (by omega) (by omega)).mono fun a ha=>?_
    · rw [hd,show n + 2 + 2 * (nEs l[j].f2:Int)=n + 2 * (nE l[j]:Int) by omega]
    · rw [ha]
      omega
theorem sV (l:List S28) (he:∀ x ∈ l,∀ n:Int,0≤n→n + 2 * nEs x.f2≤1099511627776→EvP (fun k=>aT.f k (lN x.f2 n) n) (·=n + 2 * nEs x.f2)) (n:Int) (h0:0≤n) (h1:n + 2 * nEs l≤1099511627776):
    EvP (fun k=>aT.f k (lN l n) n) (·=n + 2 * nEs l):=
  EvP.step (fun k=>aT.f.eq_2 (k:=k) ..) (yV l (by have:=mR l;omega) he l.length 0 _ n (by omega) (uY l n) rfl h0 h1)
theorem yU (x:S28):∀ n:Int,0≤n→n + 2 * nEs x.f2≤1099511627776→EvP (fun k=>aT.f k (lN x.f2 n) n) (·=n + 2 * nEs x.f2):=
  MU (P:=fun x=>∀ n:Int,0≤n→n + 2 * nEs x.f2≤1099511627776→EvP (fun k=>aT.f k (lN x.f2 n) n) (·=n + 2 * nEs x.f2)) (fun e ih n h0 h1=>sV e.f2 ih n h0 h1) x
theorem yT (l:List S28) (n:Int) (h0:0≤n) (h1:n + 2 * nEs l≤1099511627776):EvP (fun k=>aT.f k (lN l n) n) (·=n + 2 * nEs l):=
  sV l (fun x _=>yU x) n h0 h1
theorem EA:∀ x:X,nE (emb x)=x.size
 | .num _=>by rw [AU];simp [emb,nEs,X.size]
 | .var _=>by rw [AU];simp [emb,nEs,X.size]
 | .bin _ a b=>by
  have ha:=EA a
  have hb:=EA b
  rw [AU]
  simp only [emb,nEs,X.size]
  omega
theorem CF:∀ l:List S24,(∀ x ∈ l,nE (trE x)=iL x + 1)→nEs (rC l)=iV l
 |[],_=>by rw [rC,nEs,iV]
 |x :: xs,h=>by
  rw [rC,nEs,iV,h x List.mem_cons_self,CF xs (fun y hy=>h y (List.mem_cons_of_mem _ hy))]
theorem OH (x:S24):nE (trE x)=iL x + 1:=
 AA (P:=fun x=>nE (trE x)=iL x + 1) (fun e ih=>by rw [KY,AU,yQ,CF e.f2 ih]) x
mutual
def cS:S70→Nat
 |⟨_,_,_,_,b,e⟩=>cSs b + cSs e
def cSs:List S70→Nat
 |[]=>0
 |x :: xs=>cS x + 1 + cSs xs
end
theorem yM (x:S70):cS x=cSs x.f4 + cSs x.f5:=by
 cases x
 rw [cS]
theorem eT:∀ l:List S70,l.length≤cSs l
 |[]=>Nat.zero_le _
 |x :: xs=>by
  have:=eT xs
  rw [cSs,List.length_cons]
  omega
theorem vY:∀ l m:List S70,cSs (l ++ m)=cSs l + cSs m
 |[],m=>by rw [cSs];simp
 |x :: xs,m=>by
  rw [List.cons_append,cSs,cSs,vY xs m]
  omega
theorem mZ:∀ (l:List S70) (x:S70),x ∈ l→cS x < cSs l
 |y :: ys,x,h=>by
  rw [cSs]
  rcases List.mem_cons.1 h with rfl|h
  ·omega
  ·have:=mZ ys x h
   omega
theorem BK (l:List S70) (i:Nat) (h:i < l.length):cSs (l.drop i)=cS l[i] + 1 + cSs (l.drop (i + 1)):=by
 rw [List.drop_eq_getElem_cons h,cSs]
theorem MF (x:S70):cSs [x]=cS x + 1:=by
 rw [cSs,cSs]
theorem FD:cSs []=0:=by rw [cSs]
theorem oD (l:List S70) (i:Nat) (h:i < l.length):aC l (i:Int)=l[i]:=by
 unfold aC
 rw [Int.toNat_natCast,List.getD_eq_getElem?_getD,List.getElem?_eq_getElem h]
 rfl
def wP (use:Bool) (va:Int):Bool:=if use=true then decide (0≤va) && decide (va≤3) else va == 0
def sP (boxes:Int) (use:Bool) (bx:Int):Bool:=if use=true then decide (0≤bx) && decide (bx≤boxes - 1) else bx == 0
def pU (op n:Int) (la:List S28):Bool:=op == 0 && (n == 0 && la.length == 0)
def iI (boxes:Int) (nv nb ne nd no:Bool) (va bx op n:Int) (la:List S28) (lb le:Nat):Bool:=
 wP nv va && (sP boxes nb bx && ((if ne=true then vx 5 op n la else pU op n la) && ((nd || lb == 0) && (no || le == 0))))
def vF (boxes kd va bx op n:Int) (la:List S28) (lb le:Nat):Bool:=
 if kd=1 then iI boxes true false true false false va bx op n la lb le
 else if kd=2 then iI boxes false false true true true va bx op n la lb le
 else if kd=3 then iI boxes false false true true false va bx op n la lb le
 else if kd=4 then iI boxes false true true false false va bx op n la lb le
 else if kd=5 then iI boxes true true false false false va bx op n la lb le
 else if kd=7 then iI boxes false false true false false va bx op n la lb le
 else if kd=6 then iI boxes false false false false false va bx op n la lb le
 else false
def stS (boxes:Int) (s:S70):Bool:=vF boxes s.f0 s.f1 s.f2 s.f3.f0 s.f3.f1 s.f3.f2 s.f4.length s.f5.length
def mQ (s:S70):Bool:=s.f0 == 2 || s.f0 == 3
def gK (boxes:Int):Nat→S70→Bool
 |0,s=>stS boxes s && !mQ s
 |d + 1,s=>stS boxes s && (!mQ s || (s.f4.all (gK boxes d) && s.f5.all (gK boxes d)))
def okL (boxes:Int) (d:Nat) (l:List S70):Bool:=l.all (gK boxes d)
theorem KR {boxes:Int} {d:Nat} {s:S70} (h:gK boxes d s=true):stS boxes s=true:=by
 cases d <;> (simp only [gK,Bool.and_eq_true] at h;exact h.1)
theorem xX {boxes kd va bx op n:Int} {la:List S28} {lb le:Nat} (h:vF boxes kd va bx op n la lb le=true) (h2:kd≠2) (h3:kd≠3):lb=0∧le=0:=by
 unfold vF at h
 rw [if_neg h2,if_neg h3] at h
 repeat' split at h
 all_goals first
  |(cases h;done)
  |(simp only [iI,Bool.and_eq_true,Bool.false_or,beq_iff_eq] at h;exact h.2.2.2)
theorem FH {boxes:Int} {s:S70} (h:stS boxes s=true) (h2:¬ (s.f0=2∨s.f0=3)):cS s=0:=by
 obtain ⟨h4,h5⟩:=xX h (fun e=>h2 (.inl e)) (fun e=>h2 (.inr e))
 rw [yM,List.eq_nil_of_length_eq_zero h4,List.eq_nil_of_length_eq_zero h5,cSs]
theorem pQ (s:S70):mQ s=true ↔ s.f0=2∨s.f0=3:=by
 unfold mQ
 simp
theorem MH (use:Bool) (va:Int):inr va 4 use=wP use va:=by
 rw [Bool.eq_iff_iff]
 cases use
 ·simp [inr,wP]
 ·simp [inr,wP]
  omega
theorem CW (nv nb ne nd no:Bool) (va bx op n:Int) (la:List S28) (lb le:Nat) (boxes:Int):
    EvP (fun k=>gD k nv nb ne nd no va bx op n la lb le boxes) (·=iI boxes nv nb ne nd no va bx op n la lb le):=by
  unfold gD iI
  rw [MH]
  refine EvP.ite (fun h1=>?_) (fun h1=>EvP.ret (by rw [Bool.eq_false_iff.mpr h1];rfl))
  rw [h1,Bool.true_and]
  have hb:(inr bx boxes nb=true∧¬ (nb=true∧boxes≤bx)) ↔ sP boxes nb bx=true:=by
    cases nb
    · simp [inr,sP]
    · simp [inr,sP]
      omega
  refine EvP.ite (fun h2=>EvP.ite (fun h3=>EvP.ret ?_) (fun h3=>?_)) (fun h2=>EvP.ret ?_)
  · have:sP boxes nb bx=false:=Bool.eq_false_iff.mpr (fun e=>(hb.mpr e).2 h3)
    rw [this]
    rfl
  · rw [hb.mp ⟨h2,h3⟩,Bool.true_and]
    refine EvP.ite (fun h4=>?_) (fun h4=>?_)
    · rw [if_pos h4]
      refine EvP.bO (sW op n la) (EvP.ite (fun h5=>EvP.ret (by rw [h5,Bool.true_and])) (fun h5=>EvP.ret (by rw [Bool.eq_false_iff.mpr h5];rfl)))
    · rw [if_neg h4]
      unfold pU
      refine EvP.ite (fun h5=>EvP.ite (fun h6=>EvP.ite (fun h7=>EvP.ret ?_) (fun h7=>EvP.ret ?_)) (fun h6=>EvP.ret ?_)) (fun h5=>EvP.ret ?_)
      · rw [beq_eq_false_iff_ne.mpr (show la.length≠0 by omega)]
        simp
      · rw [h5,h6,beq_iff_eq.mpr (show la.length=0 by omega)]
        simp
      · rw [beq_eq_false_iff_ne.mpr h6]
        simp
      · rw [beq_eq_false_iff_ne.mpr h5]
        simp
  · have:sP boxes nb bx=false:=Bool.eq_false_iff.mpr (fun e=>h2 (hb.mpr e).1)
    rw [this]
    rfl
theorem tC (kd va bx op n:Int) (la:List S28) (lb le:Nat) (boxes:Int):
    EvP (fun k=>bT.f k kd va bx op n la lb le boxes) (·=vF boxes kd va bx op n la lb le):=by
  unfold bT.f vF
  have hr:=fun nv nb ne nd no=>CW nv nb ne nd no va bx op n la lb le boxes
  repeat (refine EvP.ite (fun h=>?_) (fun h=>?_);· rw [if_pos h];exact hr _ _ _ _ _
          rw [if_neg h])
  exact EvP.ret rfl
def EO (boxes:Int) (d:Nat) (l:List S70) (cnt:Int) (p:Bool × Int):Prop:=
 p.1=(okL boxes d l && decide (cnt + cSs l≤16))∧(p.1=true→p.2=cnt + cSs l)
theorem rG (boxes blocks:Int) (d:Nat) (hd:d≤3) (hb:blocks=3 - d) (l:List S70) (hl:cSs l≤1000000000)
  (sub:∀ d',d=d' + 1→∀ (m:List S70) (cnt:Int),cSs m≤1000000000→0≤cnt→cnt≤16→EvP (fun k=>aZ.f k m boxes (wrap64 (blocks + 1)) cnt) (EO boxes d' m cnt)):
  ∀ (r j:Nat) (cnt:Int),j + r=l.length→0≤cnt→cnt≤16→
   EvP (fun k=>aZ.l0 k l boxes blocks (j:Int) cnt) (fun p=>p.1=(okL boxes d (l.drop j) && decide (cnt + cSs (l.drop j) - r≤16))∧(p.1=true→p.2=cnt + cSs (l.drop j) - r)):=by
 intro r
 have hlen:=eT l
 induction r with
 |zero=>
  intro j cnt hj h0 h1
  refine EvP.step (fun k=>aZ.l0.eq_2 (k:=k) ..) (EvP.no (by omega) (EvP.ret ?_))
  rw [List.drop_eq_nil_of_le (by omega),FD]
  constructor
  ·simp [okL]
   omega
  ·intro _
   simp
 |succ r ih=>
  intro j cnt hj h0 h1
  have hlt:j < l.length:=by omega
  have hc:=BK l j hlt
  have hr:r≤cSs (l.drop (j + 1)):=by
   have:=eT (l.drop (j + 1))
   rw [List.length_drop] at this
   omega
  have hm:=mZ l _ (List.getElem_mem hlt)
  have hcs:=yM l[j]
  have hall:okL boxes d (l.drop j)=(gK boxes d l[j] && okL boxes d (l.drop (j + 1))):=by
   rw [List.drop_eq_getElem_cons hlt]
   rfl
  rw [hall]
  refine EvP.step (fun k=>aZ.l0.eq_2 (k:=k) ..) (EvP.yes (by omega) (EvP.yes (by omega) ?_))
  rw [oD l j hlt,w64 (n:=(j:Int) + 1) (by omega) (by omega)]
  refine EvP.bO (tC _ _ _ _ _ _ _ _ _) (EvP.ite (fun hs=>?_) (fun hs=>EvP.ret ?_))
  ·have hs:stS boxes l[j]=true:=hs
   refine EvP.no (by omega) (EvP.ite (fun hk=>?_) (fun hk=>?_))
   ·have hbk:mQ l[j]=true:=(pQ _).mpr hk
    cases d with
    |zero=>
     refine EvP.yes (by omega) (EvP.ret ?_)
     have:gK boxes 0 l[j]=false:=by simp [gK,hbk]
     rw [this]
     exact ⟨rfl,fun h=>by cases h⟩
    |succ d'=>
     have ho:gK boxes (d' + 1) l[j]=(okL boxes d' l[j].f4 && okL boxes d' l[j].f5):=by
      simp only [gK,hs,hbk,okL]
      rfl
     rw [ho]
     refine EvP.no (by omega) (EvP.bind (sub d' rfl _ cnt (by omega) h0 h1) fun p hp=>?_)
     obtain ⟨hp1,hp2⟩:=hp
     refine EvP.ite (fun hy=>?_) (fun hy=>EvP.ret ?_)
     ·have e2:=hp2 hy
      rw [hy] at hp1
      have hq:=hp1.symm
      rw [Bool.and_eq_true,decide_eq_true_eq] at hq
      rw [e2]
      refine EvP.bind (sub d' rfl _ _ (by omega) (by omega) hq.2) fun q hq'=>?_
      obtain ⟨hq1,hq2⟩:=hq'
      refine EvP.ite (fun hz=>?_) (fun hz=>EvP.ret ?_)
      ·have e3:=hq2 hz
       rw [hz] at hq1
       have hq3:=hq1.symm
       rw [Bool.and_eq_true,decide_eq_true_eq] at hq3
       rw [e3]
       refine (ih (j + 1) _ (by omega) (by omega) hq3.2).mono fun a ha=>?_
       rw [hq.1,hq3.1,Bool.true_and,Bool.true_and]
       refine ⟨ha.1.trans ?_,fun h=>(ha.2 h).trans ?_⟩
       ·congr 1
        exact decide_eq_decide.mpr (by omega)
       ·omega
      ·have hz':=Bool.eq_false_iff.mpr hz
       rw [hz'] at hq1
       refine ⟨?_,fun h=>by cases h⟩
       show false=_
       symm
       rw [Bool.eq_false_iff]
       intro e
       simp only [Bool.and_eq_true,decide_eq_true_eq] at e
       have:(okL boxes d' l[j].f5 && decide (cnt + ↑(cSs l[j].f4) + ↑(cSs l[j].f5)≤16))=true:=by
        rw [e.1.1.2,decide_eq_true (by omega)]
        rfl
       rw [this] at hq1
       cases hq1
     ·have hy':=Bool.eq_false_iff.mpr hy
      rw [hy'] at hp1
      refine ⟨?_,fun h=>by cases h⟩
      show false=_
      symm
      rw [Bool.eq_false_iff]
      intro e
      simp only [Bool.and_eq_true,decide_eq_true_eq] at e
      have:(okL boxes d' l[j].f4 && decide (cnt + ↑(cSs l[j].f4)≤16))=true:=by
       rw [e.1.1.1,decide_eq_true (by omega)]
       rfl
      rw [this] at hp1
      cases hp1
   ·have hbk:mQ l[j]=false:=Bool.eq_false_iff.mpr (fun e=>hk ((pQ _).mp e))
    have ho:gK boxes d l[j]=true:=by
     cases d <;> simp [gK,hs,hbk]
    have hz:=FH hs hk
    rw [ho,Bool.true_and]
    refine (ih (j + 1) cnt (by omega) h0 h1).mono fun a ha=>?_
    refine ⟨ha.1.trans ?_,fun h=>(ha.2 h).trans ?_⟩
    ·congr 1
     exact decide_eq_decide.mpr (by omega)
    ·omega
  ·have hs:stS boxes l[j]=false:=Bool.eq_false_iff.mpr hs
   have ho:gK boxes d l[j]=false:=Bool.eq_false_iff.mpr (fun e=>by rw [KR e] at hs;cases hs)
   rw [ho]
   exact ⟨rfl,fun h=>by cases h⟩
theorem rV (boxes:Int):∀ (d:Nat) (blocks:Int) (l:List S70) (cnt:Int),d≤3→blocks=3 - d→cSs l≤1000000000→0≤cnt→cnt≤16→
  EvP (fun k=>aZ.f k l boxes blocks cnt) (EO boxes d l cnt):=by
 intro d
 induction d with
 |zero=>
  intro blocks l cnt hd hb hl h0 h1
  have hlen:=eT l
  refine EvP.step (fun k=>aZ.f.eq_2 (k:=k) ..) ?_
  rw [w64 (n:=cnt + (l.length:Int)) (by omega) (by omega)]
  refine EvP.ite (fun h=>EvP.ret ?_) (fun h=>?_)
  ·refine ⟨?_,fun h=>by cases h⟩
   rw [decide_eq_false (by omega)]
   simp
  ·refine (rG boxes blocks 0 hd hb l hl (fun d' e=>by omega) l.length 0 _ (by omega) (by omega) (by omega)).mono fun a ha=>?_
   rw [List.drop_zero] at ha
   refine ⟨ha.1.trans ?_,fun h=>(ha.2 h).trans ?_⟩
   ·congr 1
    exact decide_eq_decide.mpr (by omega)
   ·omega
 |succ d ih=>
  intro blocks l cnt hd hb hl h0 h1
  have hlen:=eT l
  refine EvP.step (fun k=>aZ.f.eq_2 (k:=k) ..) ?_
  rw [w64 (n:=cnt + (l.length:Int)) (by omega) (by omega)]
  refine EvP.ite (fun h=>EvP.ret ?_) (fun h=>?_)
  ·refine ⟨?_,fun h=>by cases h⟩
   rw [decide_eq_false (by omega)]
   simp
  ·refine (rG boxes blocks (d + 1) hd hb l hl (fun d' e m cnt hm h0 h1=>?_) l.length 0 _ (by omega) (by omega) (by omega)).mono fun a ha=>?_
   ·have e':d=d':=by omega
    subst e'
    rw [w64 (by omega) (by omega)]
    exact ih _ m cnt (by omega) (by omega) hm h0 h1
   ·rw [List.drop_zero] at ha
    refine ⟨ha.1.trans ?_,fun h=>(ha.2 h).trans ?_⟩
    ·congr 1
     exact decide_eq_decide.mpr (by omega)
    ·omega
def okT (boxes:Int) (l:List S70):Bool:=okL boxes 3 l && decide (cSs l≤16)
theorem rW (boxes:Int) (l:List S70) (hl:cSs l≤1000000000):EvP (fun k=>dN.f k l boxes) (·=okT boxes l):=by
  unfold dN.f
  refine EvP.bind (rV boxes 3 0 l 0 (by omega) (by omega) hl (by omega) (by omega)) fun p hp=>EvP.ret ?_
  rw [hp.1]
  unfold okT
  congr 1
  exact decide_eq_decide.mpr (by omega)
theorem mP (l:List S70) (hl:cSs l≤1000000000):EvP (fun k=>eF.f k l) (·=okT 3 l):=by
  unfold eF.f
  exact EvP.bO (rW 3 l hl) (EvP.ret rfl)
theorem iC (a b c d e:Int) (l:List S28) (m n:List S70) (u:Bool):bX.f a b c d e l m n u=some (wP u b):=by
 unfold bX.f wP
 rw [nZ]
 cases u <;> rfl
theorem iB (a b c d e:Int) (l:List S28) (m n:List S70) (u:Bool):dG.f a b c d e l m n u=some (sP 3 u c):=by
 unfold dG.f sP
 rw [nZ]
 cases u <;> rfl
theorem nQ (op n:Int) (l:List S28):gI.f op n l=some (pU op n l):=by
 unfold gI.f pU
 have hlen:((l.length:Int) == 0)=(l.length == 0):=by
  rw [Bool.eq_iff_iff,beq_iff_eq,beq_iff_eq]
  omega
 by_cases h:op=0
 ·rw [if_pos h,h]
  by_cases h2:n=0
  ·rw [if_pos h2,h2,hlen]
   rfl
  ·rw [if_neg h2,beq_eq_false_iff_ne.mpr h2]
   rfl
 ·rw [if_neg h,beq_eq_false_iff_ne.mpr h]
  rfl
theorem nI (kd va bx op n:Int) (la:List S28) (m1 m2:List S70) (h2:kd≠2) (h3:kd≠3):
    EvP (fun k=>bG.f k kd va bx op n la m1 m2) (·=vF 3 kd va bx op n la m1.length m2.length):=by
  unfold bG.f
  have yes:∀ b:Bool,((m1.length == 0 && m2.length == 0)=!b)→EvP (fun k=>bG.j0 k b kd va bx op n la m1 m2) (·=vF 3 kd va bx op n la m1.length m2.length):=by
    intro b hb
    refine EvP.step (fun k=>bG.j0.eq_2 (k:=k) ..) ?_
    refine EvP.ite (fun h=>EvP.ret ?_) (fun h=>?_)
    · symm
      rw [Bool.eq_false_iff]
      intro e
      obtain ⟨z1,z2⟩:=xX e h2 h3
      rw [z1,z2,h] at hb
      cases hb
    · have hb':(m1.length == 0 && m2.length == 0)=true:=by
        rw [hb,Bool.eq_false_iff.mpr h]
        rfl
      unfold vF
      have hT:∀ a b c:Bool,(a && (b && (c && ((false || m1.length == 0) && (false || m2.length == 0)))))=(a && (b && c)):=by
        intro a b c
        rw [Bool.false_or,Bool.false_or,hb',Bool.and_true]
      refine EvP.ite (fun h1=>?_) (fun h1=>?_)
      · rw [if_pos h1]
        unfold iI
        rw [hT]
        refine EvP.fE (iC ..) (EvP.ite (fun hv=>EvP.fE (iB ..) (EvP.ite (fun hx=>EvP.bO (iK ..) (EvP.ret ?_)) (fun hx=>EvP.ret ?_))) (fun hv=>EvP.ret ?_)) <;> simp [*]
      · rw [if_neg h1,if_neg h2,if_neg h3]
        refine EvP.ite (fun h1=>?_) (fun h1=>?_)
        · rw [if_pos h1]
          unfold iI
          rw [hT]
          refine EvP.fE (iC ..) (EvP.ite (fun hv=>EvP.fE (iB ..) (EvP.ite (fun hx=>EvP.bO (iK ..) (EvP.ret ?_)) (fun hx=>EvP.ret ?_))) (fun hv=>EvP.ret ?_)) <;> simp [*]
        · rw [if_neg h1]
          refine EvP.ite (fun h1=>?_) (fun h1=>?_)
          · rw [if_pos h1]
            unfold iI
            rw [hT]
            refine EvP.fE (iC ..) (EvP.ite (fun hv=>EvP.fE (iB ..) (EvP.ite (fun hx=>EvP.fE (nQ ..) (EvP.ret ?_)) (fun hx=>EvP.ret ?_))) (fun hv=>EvP.ret ?_)) <;> simp [*]
          · rw [if_neg h1]
            refine EvP.ite (fun h6=>?_) (fun h6=>?_)
            · rw [if_neg (by omega),if_pos h6]
              unfold iI
              rw [hT]
              refine EvP.fE (iC ..) (EvP.ite (fun hv=>EvP.fE (iB ..) (EvP.ite (fun hx=>EvP.fE (nQ ..) (EvP.ret ?_)) (fun hx=>EvP.ret ?_))) (fun hv=>EvP.ret ?_)) <;> simp [*]
            · refine EvP.ite (fun h7=>?_) (fun h7=>?_)
              · rw [if_pos h7]
                unfold iI
                rw [hT]
                refine EvP.fE (iC ..) (EvP.ite (fun hv=>EvP.fE (iB ..) (EvP.ite (fun hx=>EvP.bO (iK ..) (EvP.ret ?_)) (fun hx=>EvP.ret ?_))) (fun hv=>EvP.ret ?_)) <;> simp [*]
              · rw [if_neg h7,if_neg h6]
                exact EvP.ret rfl
  refine EvP.ite (fun h=>yes true ?_) (fun h=>yes _ ?_)
  · rw [beq_eq_false_iff_ne.mpr (show m1.length≠0 by omega)]
    rfl
  · rw [beq_iff_eq.mpr (show m1.length=0 by omega),Bool.true_and,← decide_not,Bool.eq_iff_iff,beq_iff_eq,decide_eq_true_eq]
    omega
theorem uD (l:List S70) (hl:l.length≤1000000000) (x1:Int) (d:Nat) (sub:∀ x ∈ l,EvP (fun k=>aY.f k x.f0 x.f1 x.f2 x.f3.f0 x.f3.f1 x.f3.f2 x.f4 x.f5 x1) (·=gK 3 d x)):
    ∀ (r j:Nat),j + r=l.length→EvP (fun k=>aU.l0 k l x1 (j:Int)) (·=okL 3 d (l.drop j)):=by
  intro r
  induction r with
  |zero=>
    intro j hj
    refine EvP.step (fun k=>aU.l0.eq_2 (k:=k) ..) (EvP.no (by omega) (EvP.ret ?_))
    rw [List.drop_eq_nil_of_le (by omega)]
    rfl
  |succ r ih=>
    intro j hj
    have hlt:j < l.length:=by omega
    refine EvP.step (fun k=>aU.l0.eq_2 (k:=k) ..) (EvP.yes (by omega) (EvP.yes (by omega) ?_))
    rw [oD l j hlt,w64 (n:=(j:Int) + 1) (by omega) (by omega)]
    have hall:okL 3 d (l.drop j)=(gK 3 d l[j] && okL 3 d (l.drop (j + 1))):=by
      rw [List.drop_eq_getElem_cons hlt]
      rfl
    rw [hall]
    refine EvP.bO (sub _ (List.getElem_mem hlt)) (EvP.ite (fun h=>?_) (fun h=>EvP.ret ?_))
    · rw [h,Bool.true_and]
      exact ih (j + 1) (by omega)
    · rw [Bool.eq_false_iff.mpr h]
      rfl
theorem nH (l:List S70) (hl:l.length≤1000000000) (x1:Int) (d:Nat) (sub:∀ x ∈ l,EvP (fun k=>aY.f k x.f0 x.f1 x.f2 x.f3.f0 x.f3.f1 x.f3.f2 x.f4 x.f5 x1) (·=gK 3 d x)):
    EvP (fun k=>aU.f k l x1) (·=okL 3 d l):=
  EvP.step (fun k=>aU.f.eq_2 (k:=k) ..) (uD l hl x1 d sub l.length 0 (by omega))
theorem xD:∀ (d:Nat) (x1:Int) (x:S70),d≤3→x1=d→cS x≤1000000000→EvP (fun k=>aY.f k x.f0 x.f1 x.f2 x.f3.f0 x.f3.f1 x.f3.f2 x.f4 x.f5 x1) (·=gK 3 d x):=by
  intro d
  induction d with
  |zero=>
    intro x1 x hd h1 hc
    have j1:EvP (fun k=>aY.j1 k x1 true x.f0 x.f1 x.f2 x.f3.f0 x.f3.f1 x.f3.f2 x.f4 x.f5) (·=false):=
      EvP.step (fun k=>aY.j1.eq_2 (k:=k) ..) (EvP.yes rfl (EvP.ret rfl))
    refine EvP.step (fun k=>aY.f.eq_2 (k:=k) ..) (EvP.ite (fun h2=>?_) (fun h2=>?_))
    · have:gK 3 0 x=false:=by simp [gK,mQ,h2]
      rw [this]
      refine EvP.step (fun k=>aY.j0.eq_2 (k:=k) ..) (EvP.no Bool.false_ne_true (EvP.yes (by omega) j1))
    · refine EvP.step (fun k=>aY.j0.eq_2 (k:=k) ..) (EvP.ite (fun h3=>?_) (fun h3=>EvP.yes (by omega) ?_))
      · have h3:x.f0≠3:=bne_iff_ne.mp h3
        refine EvP.bO (nI _ _ _ _ _ _ _ _ h2 h3) (EvP.ret ?_)
        simp [gK,mQ,h2,h3,stS]
      · have h3:x.f0=3:=by simpa using h3
        have:gK 3 0 x=false:=by simp [gK,mQ,h3]
        rw [this]
        exact j1
  |succ d ih=>
    intro x1 x hd h1 hc
    have hcs:=yM x
    have e1:wrap64 (x1 - 1)=(d:Int):=by
      rw [w64 (by omega) (by omega)]
      omega
    have len4:=eT x.f4
    have len5:=eT x.f5
    have sub:∀ m:List S70,cSs m≤1000000000→EvP (fun k=>aU.f k m (wrap64 (x1 - 1))) (·=okL 3 d m):=by
      intro m hm
      have:=eT m
      refine nH m (by omega) _ d (fun y hy=>ih _ y (by omega) e1 ?_)
      have:=mZ m y hy
      omega
    have j1:∀ b:Bool,mQ x=true→(b=(x.f0 == 3 && decide ((x.f5.length:Int) > 0)))→EvP (fun k=>aY.j1 k x1 b x.f0 x.f1 x.f2 x.f3.f0 x.f3.f1 x.f3.f2 x.f4 x.f5) (·=gK 3 (d + 1) x):=by
      intro b hb hbb
      have ho:gK 3 (d + 1) x=(stS 3 x && (okL 3 d x.f4 && okL 3 d x.f5)):=by
        simp only [gK,hb,okL]
        rfl
      rw [ho]
      refine EvP.step (fun k=>aY.j1.eq_2 (k:=k) ..) (EvP.ite (fun h=>EvP.ret ?_) (fun h=>?_))
      · rw [h] at hbb
        have h4:=hbb.symm
        simp only [Bool.and_eq_true,beq_iff_eq,decide_eq_true_eq] at h4
        have:stS 3 x=false:=by
          have hne:(x.f5.length == 0)=false:=beq_eq_false_iff_ne.mpr (by omega)
          simp [stS,vF,h4.1,iI,hne]
        rw [this]
        rfl
      · have hst:stS 3 x=(wP false x.f1 && (sP 3 false x.f2 && vx 5 x.f3.f0 x.f3.f1 x.f3.f2)):=by
          rcases (pQ x).mp hb with h2|h2
          · simp [stS,vF,h2,iI]
          · have h5:x.f5.length=0:=by
              rw [Bool.eq_false_iff.mpr h,h2] at hbb
              have:=hbb.symm
              simp only [beq_self_eq_true,Bool.true_and,decide_eq_false_iff_not] at this
              omega
            simp [stS,vF,h2,iI,h5]
        rw [hst]
        refine EvP.fE (iC ..) (EvP.ite (fun hv=>EvP.fE (iB ..) (EvP.ite (fun hx=>EvP.bO (iK ..) (EvP.ite (fun he=>?_) (fun he=>EvP.ret ?_))) (fun hx=>EvP.ret ?_))) (fun hv=>EvP.ret ?_))
        · refine EvP.bO (sub x.f4 (by omega)) (EvP.ite (fun h4=>EvP.bO (sub x.f5 (by omega)) (EvP.ret ?_)) (fun h4=>EvP.ret ?_)) <;> simp [*]
        all_goals simp [*]
    refine EvP.step (fun k=>aY.f.eq_2 (k:=k) ..) (EvP.ite (fun h2=>?_) (fun h2=>?_))
    · refine EvP.step (fun k=>aY.j0.eq_2 (k:=k) ..) (EvP.no Bool.false_ne_true (EvP.no (by omega) (EvP.no (by omega) (j1 false ?_ ?_))))
      · simp [mQ,h2]
      · simp [h2]
    · refine EvP.step (fun k=>aY.j0.eq_2 (k:=k) ..) (EvP.ite (fun h3=>?_) (fun h3=>EvP.no (by omega) ?_))
      · have h3:x.f0≠3:=bne_iff_ne.mp h3
        refine EvP.bO (nI _ _ _ _ _ _ _ _ h2 h3) (EvP.ret ?_)
        simp [gK,mQ,h2,h3,stS]
      · have h3:x.f0=3:=by simpa using h3
        refine EvP.yes h3 (j1 _ ?_ ?_)
        · simp [mQ,h3]
        · simp [h3]
theorem tZ (l:List S70) (hl:cSs l≤1000000000):EvP (fun k=>aU.f k l 3) (·=okL 3 3 l):=by
  have:=eT l
  refine nH l (by omega) _ 3 (fun y hy=>xD 3 3 y (by omega) (by omega) ?_)
  have:=mZ l y hy
  omega
theorem uU:∀ (c:Nat) (l:List S70),cSs l≤c→c≤1000000000→EvP (fun k=>aV.f k l) (·=(cSs l:Int)):=by
  intro c
  induction c with
  |zero=>
    intro l hl hc
    have:=eT l
    refine EvP.step (fun k=>aV.f.eq_2 (k:=k) ..) (EvP.step (fun k=>aV.l0.eq_2 (k:=k) ..) (EvP.no (by omega) (EvP.ret ?_)))
    omega
  |succ c ih=>
    intro l hl hc
    have hlen:=eT l
    have loop:∀ (r j:Nat) (a:Int),j + r=l.length→0≤a→a + cSs (l.drop j)≤1000000000→EvP (fun k=>aV.l0 k l a (j:Int)) (·=a + cSs (l.drop j)):=by
      intro r
      induction r with
      |zero=>
        intro j a hj h0 h1
        refine EvP.step (fun k=>aV.l0.eq_2 (k:=k) ..) (EvP.no (by omega) (EvP.ret ?_))
        rw [List.drop_eq_nil_of_le (by omega),FD]
        omega
      |succ r ih2=>
        intro j a hj h0 h1
        have hlt:j < l.length:=by omega
        have hd:=BK l j hlt
        have hm:=mZ l _ (List.getElem_mem hlt)
        have hcs:=yM l[j]
        refine EvP.step (fun k=>aV.l0.eq_2 (k:=k) ..) (EvP.yes (by omega) (EvP.yes (by omega) ?_))
        rw [oD l j hlt,w64 (n:=(j:Int) + 1) (by omega) (by omega)]
        refine EvP.bO (ih _ (by omega) (by omega)) (EvP.bO (ih _ (by omega) (by omega)) ?_)
        rw [w64 (n:=a + 1) (by omega) (by omega),w64 (n:=a + 1 + (cSs l[j].f4:Int)) (by omega) (by omega),w64 (by omega) (by omega)]
        refine (ih2 (j + 1) _ (by omega) (by omega) (by omega)).mono fun b hb=>?_
        omega
    refine EvP.step (fun k=>aV.f.eq_2 (k:=k) ..) ((loop l.length 0 0 (by omega) (by omega) (by rw [List.drop_zero];omega)).mono fun b hb=>?_)
    rw [List.drop_zero] at hb
    omega
theorem mU (l:List S70) (hl:cSs l≤1000000000):EvP (fun k=>dO.f k l) (·=okT 3 l):=by
  unfold dO.f okT
  refine EvP.bO (tZ l hl) (EvP.ite (fun h=>EvP.bO (uU _ l hl (by omega)) (EvP.ret ?_)) (fun h=>EvP.ret ?_))
  · rw [h,Bool.true_and]
    exact decide_eq_decide.mpr (by omega)
  · rw [Bool.eq_false_iff.mpr h]
    rfl
theorem vO {boxes:Int} {l:List S70}:okT boxes l=true ↔ okL boxes 3 l=true∧cSs l≤16:=by
 unfold okT
 rw [Bool.and_eq_true,decide_eq_true_eq]
mutual
def trS:S66→S70
 |⟨a,b,c,e,m,n⟩=>⟨a,b,c,trE e,kN m,kN n⟩
def kN:List S66→List S70
 |[]=>[]
 |x :: xs=>trS x :: kN xs
end
mutual
def lK:S66→Nat
 |⟨_,_,_,e,m,n⟩=>iL e + fG m + fG n
def fG:List S66→Nat
 |[]=>0
 |x :: xs=>lK x + 1 + fG xs
end
theorem FQ (x:S66):trS x=⟨x.f0,x.f1,x.f2,trE x.f3,kN x.f4,kN x.f5⟩:=by
 cases x
 rw [trS]
theorem wB (x:S66):lK x=iL x.f3 + fG x.f4 + fG x.f5:=by
 cases x
 rw [lK]
theorem nJ:∀ l:List S66,(kN l).length=l.length
 |[]=>by rw [kN];rfl
 |x :: xs=>by rw [kN,List.length_cons,List.length_cons,nJ xs]
theorem gG:∀ l:List S66,l.length≤fG l
 |[]=>Nat.zero_le _
 |x :: xs=>by
  have:=gG xs
  rw [fG,List.length_cons]
  omega
theorem kS:∀ (l:List S66) (x:S66),x ∈ l→lK x≤fG l
 |y :: ys,x,h=>by
  rw [fG]
  rcases List.mem_cons.1 h with rfl|h
  ·omega
  ·have:=kS ys x h
   omega
theorem DW (l:List S66) (i:Nat) (h:i < l.length):fG (l.drop i)=lK l[i] + 1 + fG (l.drop (i + 1)):=by
 rw [List.drop_eq_getElem_cons h,fG]
theorem wD {P:S66→Prop} (h:∀ e:S66,(∀ x ∈ e.f4,P x)→(∀ x ∈ e.f5,P x)→P e) (e:S66):P e:=
 S66.rec (motive_1:=P) (motive_2:=fun l=>∀ x ∈ l,P x) (fun a b c e m n ih1 ih2=>h ⟨a,b,c,e,m,n⟩ ih1 ih2) (fun x hx=>by simp at hx) (fun y ys h1 h2 x hx=>by
  rcases List.mem_cons.1 hx with rfl|hx
  ·exact h1
  ·exact h2 x hx) e
theorem uH (l:List S66) (he:∀ x ∈ l,cS (trS x)≤lK x):cSs (kN l)≤fG l:=by
 induction l with
 |nil=>rw [kN,cSs];exact Nat.zero_le _
 |cons a l ih=>
  have h1:=he a List.mem_cons_self
  have h2:=ih (fun x hx=>he x (List.mem_cons_of_mem _ hx))
  rw [kN,cSs,fG]
  omega
theorem OX (e:S66):cS (trS e)≤lK e:=by
 refine wD (P:=fun e=>cS (trS e)≤lK e) (fun e i1 i2=>?_) e
 have h1:=uH e.f4 i1
 have h2:=uH e.f5 i2
 rw [FQ,yM,wB]
 dsimp only
 omega
theorem NW (l:List S66):cSs (kN l)≤fG l:=uH l (fun x _=>OX x)
theorem CK (l:List S66) (i:Nat) (h:i < l.length):bW l (i:Int)=l[i]:=by
 unfold bW
 rw [Int.toNat_natCast,List.getD_eq_getElem?_getD,List.getElem?_eq_getElem h]
 rfl
theorem EI (l:List S66) (hl:l.length≤1048576) (he:∀ x ∈ l,∀ n:Int,0≤n→n≤1048576→EvP (fun k=>bQ.f k x.f0 x.f1 x.f2 x.f3.f0 x.f3.f1 x.f3.f2 x.f4 x.f5 n) (·=lefts (lK x) n)):
    ∀ (d j:Nat) (n:Int),j + d=l.length→0≤n→n≤1048576→EvP (fun k=>bC.l0 k l n (j:Int)) (·=lefts (fG (l.drop j) - d) n):=by
  intro d
  induction d with
  |zero=>
    intro j n hj h0 h1
    refine EvP.step (fun k=>bC.l0.eq_2 (k:=k) ..) (EvP.no (by omega) (EvP.ret ?_))
    rw [List.drop_eq_nil_of_le (by omega)]
    unfold lefts
    rw [if_pos (by simp [fG];omega)]
    simp [fG]
  |succ d ih=>
    intro j n hj h0 h1
    have hlt:j < l.length:=by omega
    have hc:=DW l j hlt
    have hd:d≤fG (l.drop (j + 1)):=by
      have:=gG (l.drop (j + 1))
      rw [List.length_drop] at this
      omega
    refine EvP.step (fun k=>bC.l0.eq_2 (k:=k) ..) (EvP.yes (by omega) (EvP.yes (by omega) ?_))
    rw [CK l j hlt,w64 (n:=(j:Int) + 1) (by omega) (by omega)]
    refine EvP.bO (he _ (List.getElem_mem hlt) n h0 h1) ?_
    by_cases h2:(lK l[j]:Int)≤n
    · have e:lefts (lK l[j]) n=n - lK l[j]:=if_pos h2
      rw [e]
      refine EvP.no (by omega) ?_
      refine (ih (j + 1) (n - lK l[j]) (by omega) (by omega) (by omega)).mono fun a ha=>?_
      rw [ha]
      unfold lefts
      by_cases h3:((fG (l.drop (j + 1)) - d:Nat):Int)≤n - lK l[j]
      · rw [if_pos h3,if_pos (by omega)]
        omega
      · rw [if_neg h3,if_neg (by omega)]
    · have e:lefts (lK l[j]) n= -1:=if_neg h2
      rw [e]
      refine EvP.yes (by omega) (EvP.ret ?_)
      unfold lefts
      rw [if_neg (by omega)]
theorem sI (l:List S66) (hl:l.length≤maxLen) (he:∀ x ∈ l,∀ n:Int,0≤n→n≤1048576→EvP (fun k=>bQ.f k x.f0 x.f1 x.f2 x.f3.f0 x.f3.f1 x.f3.f2 x.f4 x.f5 n) (·=lefts (lK x) n)) (n:Int) (h0:0≤n) (h1:n≤1048576):
    EvP (fun k=>bC.f k l n) (·=lefts (fG l) n):=by
  have hm:maxLen=9223372036854775807:=rfl
  have hc:=gG l
  refine EvP.step (fun k=>bC.f.eq_2 (k:=k) ..) ?_
  rw [w64 (by omega) (by omega)]
  refine EvP.ite (fun h=>EvP.ret ?_) (fun h=>?_)
  · unfold lefts
    rw [if_neg (by omega)]
  · refine (EI l (by omega) he l.length 0 (n - l.length) (by omega) (by omega) (by omega)).mono fun a ha=>?_
    rw [ha,List.drop_zero]
    unfold lefts
    by_cases h3:((fG l - l.length:Nat):Int)≤n - l.length
    · rw [if_pos h3,if_pos (by omega)]
      omega
    · rw [if_neg h3,if_neg (by omega)]
theorem GQ (e:S66):yK e→∀ n:Int,0≤n→n≤1048576→EvP (fun k=>bQ.f k e.f0 e.f1 e.f2 e.f3.f0 e.f3.f1 e.f3.f2 e.f4 e.f5 n) (·=lefts (lK e) n):=by
  refine wD (P:=fun e=>yK e→∀ n:Int,0≤n→n≤1048576→EvP (fun k=>bQ.f k e.f0 e.f1 e.f2 e.f3.f0 e.f3.f1 e.f3.f2 e.f4 e.f5 n) (·=lefts (lK e) n)) (fun e i1 i2 hw n h0 h1=>?_) e
  cases hw with
  |mk _ _ _ _ he hl4 j3 hl5 j4=>
    refine EvP.step (fun k=>bQ.f.eq_2 (k:=k) ..) ?_
    refine EvP.bO (GN e.f3 he n h0 h1) ?_
    rw [wB]
    by_cases c1:(iL e.f3:Int)≤n
    · rw [show lefts (iL e.f3) n=n - iL e.f3 from if_pos c1]
      refine EvP.no (by omega) (EvP.bO (sI e.f4 hl4 (fun x hm=>i1 x hm (j3 x hm)) _ (by omega) (by omega)) ?_)
      by_cases c2:(fG e.f4:Int)≤n - iL e.f3
      · rw [show lefts (fG e.f4) (n - iL e.f3)=n - iL e.f3 - fG e.f4 from if_pos c2]
        refine EvP.no (by omega) (EvP.bO (sI e.f5 hl5 (fun x hm=>i2 x hm (j4 x hm)) _ (by omega) (by omega)) ?_)
        by_cases c3:(fG e.f5:Int)≤n - iL e.f3 - fG e.f4
        · rw [show lefts (fG e.f5) (n - iL e.f3 - fG e.f4)=n - iL e.f3 - fG e.f4 - fG e.f5 from if_pos c3]
          refine EvP.no (by omega) (EvP.ret ?_)
          unfold lefts
          rw [if_pos (by omega)]
          omega
        · rw [show lefts (fG e.f5) (n - iL e.f3 - fG e.f4)= -1 from if_neg c3]
          refine EvP.yes (by omega) (EvP.ret ?_)
          unfold lefts
          rw [if_neg (by omega)]
      · rw [show lefts (fG e.f4) (n - iL e.f3)= -1 from if_neg c2]
        refine EvP.yes (by omega) (EvP.ret ?_)
        unfold lefts
        rw [if_neg (by omega)]
    · rw [show lefts (iL e.f3) n= -1 from if_neg c1]
      refine EvP.yes (by omega) (EvP.ret ?_)
      unfold lefts
      rw [if_neg (by omega)]
theorem EH (l:List S66) (hl:l.length≤maxLen) (hx:∀ x ∈ l,yK x) (n:Int) (h0:0≤n) (h1:n≤1048576):EvP (fun k=>bC.f k l n) (·=lefts (fG l) n):=
  sI l hl (fun x hm=>GQ x (hx x hm)) n h0 h1
theorem EM (l:List S66) (hl:l.length≤1048576) (he:∀ x ∈ l,EvP (fun k=>eX.f k x) (·=trS x)):
    ∀ (d j:Nat) (m:List S70),j + d=l.length→m.length=l.length→EvP (fun k=>bJ.l0 k l m (j:Int)) (·=m.take j ++ kN (l.drop j)):=by
  intro d
  induction d with
  |zero=>
    intro j m hj hm
    refine EvP.step (fun k=>bJ.l0.eq_2 (k:=k) ..) (EvP.no (by omega) (EvP.ret ?_))
    rw [List.drop_eq_nil_of_le (by omega),List.take_of_length_le (by omega)]
    simp [kN]
  |succ d ih=>
    intro j m hj hm
    have hlt:j < l.length:=by omega
    refine EvP.step (fun k=>bJ.l0.eq_2 (k:=k) ..) (EvP.yes (by omega) (EvP.yes (by omega) ?_))
    rw [CK l j hlt,w64 (n:=(j:Int) + 1) (by omega) (by omega),Int.toNat_natCast]
    refine EvP.bO (he _ (List.getElem_mem hlt)) (EvP.yes (by omega) ?_)
    refine (ih (j + 1) (m.set j (trS l[j])) (by omega) (by rw [List.length_set];exact hm)).mono fun a ha=>?_
    rw [ha,List.take_succ_eq_append_getElem (by rw [List.length_set];omega),List.getElem_set_self,List.take_set_of_le (by omega),List.append_assoc,List.drop_eq_getElem_cons hlt,kN]
    rfl
theorem sJ (l:List S66) (hl:l.length≤1048576) (he:∀ x ∈ l,EvP (fun k=>eX.f k x) (·=trS x)):EvP (fun k=>bJ.f k l) (·=kN l):=by
  refine EvP.step (fun k=>bJ.f.eq_2 (k:=k) ..) (EvP.yes (by omega) ?_)
  exact EM l hl he l.length 0 _ (by omega) (by rw [List.length_replicate])
theorem GU (e:S66):lK e≤1048576→EvP (fun k=>eX.f k e) (·=trS e):=by
  refine wD (P:=fun e=>lK e≤1048576→EvP (fun k=>eX.f k e) (·=trS e)) (fun e i1 i2 hc=>?_) e
  rw [wB] at hc
  have h4:=gG e.f4
  have h5:=gG e.f5
  refine EvP.step (fun k=>eX.f.eq_2 (k:=k) ..) ?_
  refine EvP.bO (GR e.f3 (by omega)) (EvP.bO (sJ e.f4 (by omega) (fun x hm=>i1 x hm (by have:=kS e.f4 x hm;omega))) (EvP.bO (sJ e.f5 (by omega) (fun x hm=>i2 x hm (by have:=kS e.f5 x hm;omega))) (EvP.ret ?_)))
  rw [FQ]
  simp only [tri,rP]
theorem EL (l:List S66) (hc:fG l≤1048576):EvP (fun k=>bJ.f k l) (·=kN l):=
  sJ l (by have:=gG l;omega) (fun x hm=>GU x (by have:=kS l x hm;omega))
theorem DZ (m:List S70) (hl:m.length≤1048576) (he:∀ x ∈ m,EvP (fun k=>bU.f k x.f0 x.f1 x.f2 x.f3.f0 x.f3.f1 x.f3.f2 x.f4 x.f5 x.f0 x.f1 x.f2 x.f3.f0 x.f3.f1 x.f3.f2 x.f4 x.f5) (·=true)):
    ∀ (d j:Nat),j + d=m.length→EvP (fun k=>aO.l0 k m m (j:Int)) (·=true):=by
  intro d
  induction d with
  |zero=>
    intro j hj
    exact EvP.step (fun k=>aO.l0.eq_2 (k:=k) ..) (EvP.no (by omega) (EvP.ret rfl))
  |succ d ih=>
    intro j hj
    have hlt:j < m.length:=by omega
    refine EvP.step (fun k=>aO.l0.eq_2 (k:=k) ..) (EvP.yes (by omega) (EvP.yes (by omega) (EvP.yes (by omega) ?_)))
    rw [oD m j hlt,w64 (n:=(j:Int) + 1) (by omega) (by omega)]
    exact EvP.bO (he _ (List.getElem_mem hlt)) (EvP.yes rfl (ih (j + 1) (by omega)))
theorem nW (m:List S70) (hl:m.length≤1048576) (he:∀ x ∈ m,EvP (fun k=>bU.f k x.f0 x.f1 x.f2 x.f3.f0 x.f3.f1 x.f3.f2 x.f4 x.f5 x.f0 x.f1 x.f2 x.f3.f0 x.f3.f1 x.f3.f2 x.f4 x.f5) (·=true)):EvP (fun k=>aO.f k m m) (·=true):=
  EvP.step (fun k=>aO.f.eq_2 (k:=k) ..) (EvP.yes rfl (DZ m hl he m.length 0 (by omega)))
inductive oO:S70→Prop
 |mk (x:S70) (he:Short x.f3) (h4:x.f4.length≤1048576) (g4:∀ y ∈ x.f4,oO y) (h5:x.f5.length≤1048576) (g5:∀ y ∈ x.f5,oO y):oO x
theorem sU (e:S70) (h:oO e):EvP (fun k=>bU.f k e.f0 e.f1 e.f2 e.f3.f0 e.f3.f1 e.f3.f2 e.f4 e.f5 e.f0 e.f1 e.f2 e.f3.f0 e.f3.f1 e.f3.f2 e.f4 e.f5) (·=true):=by
  induction h with
  |mk x he h4 g4 h5 g5 i4 i5=>
    refine EvP.step (fun k=>bU.f.eq_2 (k:=k) ..) (EvP.yes rfl (EvP.yes rfl (EvP.yes rfl ?_)))
    exact EvP.bO (yS _ he) (EvP.yes rfl (EvP.bO (nW x.f4 h4 i4) (EvP.yes rfl (EvP.bO (nW x.f5 h5 i5) (EvP.yes rfl (EvP.ret rfl))))))
theorem wO {l:List S66} {y:S70} (h:y ∈ kN l):∃ x ∈ l,y=trS x:=by
 induction l with
 |nil=>simp [kN] at h
 |cons a l ih=>
  rw [kN] at h
  rcases List.mem_cons.1 h with rfl|h
  ·exact ⟨a,List.mem_cons_self,rfl⟩
  ·obtain ⟨x,hx,e⟩:=ih h
   exact ⟨x,List.mem_cons_of_mem _ hx,e⟩
theorem GK (e:S66):lK e≤1048576→oO (trS e):=by
 refine wD (P:=fun e=>lK e≤1048576→oO (trS e)) (fun e i1 i2 hc=>?_) e
 rw [wB] at hc
 have h4:=gG e.f4
 have h5:=gG e.f5
 rw [FQ]
 refine .mk _ (GJ e.f3 (by omega)) (by rw [nJ];omega) (fun y hy=>?_) (by rw [nJ];omega) (fun y hy=>?_)
 ·obtain ⟨x,hx,rfl⟩:=wO hy
  exact i1 x hx (by have:=kS e.f4 x hx;omega)
 ·obtain ⟨x,hx,rfl⟩:=wO hy
  exact i2 x hx (by have:=kS e.f5 x hx;omega)
theorem wV (l:List S66) (hc:fG l≤1048576):EvP (fun k=>aO.f k (kN l) (kN l)) (·=true):=
  nW _ (by rw [nJ];have:=gG l;omega) (fun y hy=>by
    obtain ⟨x,hx,rfl⟩:=wO hy
    exact sU _ (GK x (by have:=kS l x hx;omega)))
theorem KM {c:Nat} (h:¬ lefts c 1048576 < 0):c≤1048576:=by
 unfold lefts at h
 by_cases h2:(c:Int)≤1048576
 ·omega
 ·rw [if_neg h2] at h
  omega
theorem PW (a:S70):(⟨a.f0,a.f1,a.f2,a.f3,a.f4,a.f5⟩:S70)=a:=by
 cases a
 rfl
inductive ST where
 |mk (kd va bx:Int) (x:X) (b e:List ST)
namespace ST
def kd:ST→Int|⟨a,_,_,_,_,_⟩=>a
def va:ST→Int|⟨_,a,_,_,_,_⟩=>a
def bx:ST→Int|⟨_,_,a,_,_,_⟩=>a
def x:ST→X|⟨_,_,_,a,_,_⟩=>a
def b:ST→List ST|⟨_,_,_,_,a,_⟩=>a
def e:ST→List ST|⟨_,_,_,_,_,a⟩=>a
end ST
mutual
def lM:ST→S70
 |⟨kd,va,bx,x,b,e⟩=>⟨kd,va,bx,emb x,bP b,bP e⟩
def bP:List ST→List S70
 |[]=>[]
 |s :: ss=>lM s :: bP ss
end
def tL (kd va bx:Int) (x:X) (b e:List ST):List ST:=
 if kd=2 then (match x with
  | .num n=>if n=0 then e else b
  | y=>[⟨kd,va,bx,y,b,e⟩])
 else if kd=3 then (match x with
  | .num n=>if n=0 then [] else [⟨kd,va,bx, .num n,b,e⟩]
  | y=>[⟨kd,va,bx,y,b,e⟩])
 else [⟨kd,va,bx,x,b,e⟩]
mutual
def kR:ST→List ST
 |⟨kd,va,bx,x,b,e⟩=>tL kd va bx x.fold (dQ b) (dQ e)
def dQ:List ST→List ST
 |[]=>[]
 |s :: ss=>kR s ++ dQ ss
end
theorem uM (t:ST):lM t=⟨t.kd,t.va,t.bx,emb t.x,bP t.b,bP t.e⟩:=by
 cases t
 rw [lM]
 rfl
theorem vN (t:ST):kR t=tL t.kd t.va t.bx t.x.fold (dQ t.b) (dQ t.e):=by
 cases t
 rw [kR]
 rfl
theorem fJ:∀ l:List ST,(bP l).length=l.length
 |[]=>by rw [bP];rfl
 |x :: xs=>by rw [bP,List.length_cons,List.length_cons,fJ xs]
theorem lW:∀ l m:List ST,bP (l ++ m)=bP l ++ bP m
 |[],m=>by rw [bP];rfl
 |x :: xs,m=>by rw [List.cons_append,bP,bP,lW xs m];rfl
theorem xI:∀ (l:List ST) (i:Nat) (h:i < l.length),(bP l)[i]'(by rw [fJ];exact h)=lM l[i]
 |x :: xs,0,_=>by simp [bP]
 |x :: xs,i + 1,h=>by
  have h2:=xI xs i (by simpa using h)
  simp only [bP,List.getElem_cons_succ]
  exact h2
theorem AB {P:ST→Prop} (h:∀ t:ST,(∀ y ∈ t.b,P y)→(∀ y ∈ t.e,P y)→P t) (t:ST):P t:=
 @ST.rec (motive_1:=P) (motive_2:=fun l=>∀ y ∈ l,P y) (fun a b c d m n i1 i2=>h ⟨a,b,c,d,m,n⟩ i1 i2) (fun y hy=>by simp at hy) (fun y ys h1 h2 z hz=>by
  rcases List.mem_cons.1 hz with rfl|hz
  ·exact h1
  ·exact h2 z hz) t
inductive AX:ST→Prop
 |mk (t:ST) (h1:t.x.ok) (h2:t.x.depth≤5) (hb:∀ y ∈ t.b,AX y) (he:∀ y ∈ t.e,AX y):AX t
theorem KQ (boxes:Int):∀ (d:Nat) (s:S70),gK boxes d s=true→∃ t,lM t=s∧AX t:=by
 have ex:∀ s:S70,stS boxes s=true→∃ x:X,emb x=s.f3∧x.ok∧x.depth≤5:=by
  intro s h
  have hv:vx 5 s.f3.f0 s.f3.f1 s.f3.f2=true∨pU s.f3.f0 s.f3.f1 s.f3.f2=true:=by
   unfold stS vF iI at h
   repeat' split at h
   all_goals first
    |(cases h;done)
    |(simp only [Bool.and_eq_true] at h;first|exact .inl h.2.2.1|exact .inr h.2.2.1)
    |skip
   all_goals simp_all
  rcases hv with hv|hv
  ·obtain ⟨x,h1,h2,h3⟩:=BD 5 _ _ _ hv
   exact ⟨x,h3.trans (rP _),h1,h2⟩
  ·unfold pU at hv
   simp only [Bool.and_eq_true,beq_iff_eq] at hv
   refine ⟨.num 0,?_,⟨by omega,by omega⟩,by simp [X.depth]⟩
   rw [emb,← rP s.f3,hv.1,hv.2.1,List.eq_nil_of_length_eq_zero hv.2.2]
 have mk:∀ (s:S70),stS boxes s=true→(∃ l,bP l=s.f4∧∀ y ∈ l,AX y)→(∃ l,bP l=s.f5∧∀ y ∈ l,AX y)→∃ t,lM t=s∧AX t:=by
  rintro s h ⟨l,h4,a4⟩ ⟨m,h5,a5⟩
  obtain ⟨x,hx,hok,hd⟩:=ex s h
  refine ⟨⟨s.f0,s.f1,s.f2,x,l,m⟩,?_, .mk _ hok hd a4 a5⟩
  rw [lM,hx,h4,h5]
  exact PW s
 have nils:∀ s:S70,stS boxes s=true→mQ s=false→(∃ l,bP l=s.f4∧∀ y ∈ l,AX y)∧(∃ l,bP l=s.f5∧∀ y ∈ l,AX y):=by
  intro s h hb
  have hf:=FH h (fun e=>by rw [(pQ s).mpr e] at hb;cases hb)
  rw [yM] at hf
  have l4:=eT s.f4
  have l5:=eT s.f5
  rw [List.eq_nil_of_length_eq_zero (show s.f4.length=0 by omega),List.eq_nil_of_length_eq_zero (show s.f5.length=0 by omega)]
  exact ⟨⟨[],by rw [bP],by simp⟩,⟨[],by rw [bP],by simp⟩⟩
 intro d
 induction d with
 |zero=>
  intro s h
  simp only [gK,Bool.and_eq_true] at h
  obtain ⟨n4,n5⟩:=nils s h.1 (by simpa using h.2)
  exact mk s h.1 n4 n5
 |succ d ih=>
  intro s h
  have lists:∀ l:List S70,l.all (gK boxes d)=true→∃ m,bP m=l∧∀ y ∈ m,AX y:=by
   intro l
   induction l with
   |nil=>exact fun _=>⟨[],by rw [bP],by simp⟩
   |cons y ys ihl=>
    intro h
    rw [List.all_cons,Bool.and_eq_true] at h
    obtain ⟨t,ht,at_⟩:=ih y h.1
    obtain ⟨m,hm,am⟩:=ihl h.2
    refine ⟨t :: m,by rw [bP,ht,hm],fun z hz=>?_⟩
    rcases List.mem_cons.1 hz with rfl|hz
    ·exact at_
    ·exact am z hz
  simp only [gK,Bool.and_eq_true,Bool.or_eq_true] at h
  cases hb:mQ s with
  |false=>
   obtain ⟨n4,n5⟩:=nils s h.1 hb
   exact mk s h.1 n4 n5
  |true=>
   rw [hb] at h
   rcases h.2 with h2|h2
   ·cases h2
   ·exact mk s h.1 (lists _ h2.1) (lists _ h2.2)
theorem KP (boxes:Int) (d:Nat):∀ l:List S70,okL boxes d l=true→∃ m,bP m=l∧∀ y ∈ m,AX y
 |[],_=>⟨[],by rw [bP],by simp⟩
 |y :: ys,h=>by
  have h':(gK boxes d y && okL boxes d ys)=true:=h
  rw [Bool.and_eq_true] at h'
  obtain ⟨t,ht,at_⟩:=KQ boxes d y h'.1
  obtain ⟨m,hm,am⟩:=KP boxes d ys h'.2
  refine ⟨t :: m,by rw [bP,ht,hm],fun z hz=>?_⟩
  rcases List.mem_cons.1 hz with rfl|hz
  ·exact at_
  ·exact am z hz
theorem vB (kd va bx:Int) (x:X) (b e:List ST):(tL kd va bx x b e=b∧kd=2)∨(tL kd va bx x b e=e∧kd=2)∨tL kd va bx x b e=[]∨(tL kd va bx x b e=[⟨kd,va,bx,x,b,e⟩]∧¬ (kd=2∧x.isNum=true)∧¬ (kd=3∧x= .num 0)):=by
 unfold tL
 by_cases h2:kd=2
 ·rw [if_pos h2]
  cases x with
  |num n=>
   dsimp only
   by_cases h:n=0
   ·rw [if_pos h]
    exact .inr (.inl ⟨rfl,h2⟩)
   ·rw [if_neg h]
    exact .inl ⟨rfl,h2⟩
  |var v=>exact .inr (.inr (.inr ⟨rfl,by simp [X.isNum],by simp⟩))
  |bin o p q=>exact .inr (.inr (.inr ⟨rfl,by simp [X.isNum],by simp⟩))
 ·rw [if_neg h2]
  by_cases h3:kd=3
  ·rw [if_pos h3]
   cases x with
   |num n=>
    dsimp only
    by_cases h:n=0
    ·rw [if_pos h]
     exact .inr (.inr (.inl rfl))
    ·rw [if_neg h]
     exact .inr (.inr (.inr ⟨rfl,by simp [h2],by simp [h]⟩))
   |var v=>exact .inr (.inr (.inr ⟨rfl,by simp [h2],by simp⟩))
   |bin o p q=>exact .inr (.inr (.inr ⟨rfl,by simp [h2],by simp⟩))
  ·rw [if_neg h3]
   exact .inr (.inr (.inr ⟨rfl,by simp [h2],by simp [h3]⟩))
def cT (l:List ST):Nat:=cSs (bP l)
theorem uI (l m:List ST):cT (l ++ m)=cT l + cT m:=by
 unfold cT
 rw [lW,vY]
theorem uK (t:ST):cT [t]=cT t.b + cT t.e + 1:=by
 unfold cT
 rw [bP,bP,MF,uM,yM]
theorem yN (t:ST) (l:List ST):cT (t :: l)=cT t.b + cT t.e + 1 + cT l:=by
 rw [show t :: l=[t] ++ l from rfl,uI,uK]
theorem IY:cT []=0:=by
 unfold cT
 rw [bP,cSs]
theorem nU (l:List ST) (h:∀ y ∈ l,cT (kR y)≤cT [y]):cT (dQ l)≤cT l:=by
 induction l with
 |nil=>rw [dQ];exact Nat.le_refl _
 |cons y ys ih=>
  have h1:=h y List.mem_cons_self
  have h2:=ih (fun z hz=>h z (List.mem_cons_of_mem _ hz))
  rw [dQ,uI,yN]
  rw [uK] at h1
  omega
theorem vZ (t:ST):cT (kR t)≤cT [t]:=by
 refine AB (P:=fun t=>cT (kR t)≤cT [t]) (fun t i1 i2=>?_) t
 have h1:=nU t.b i1
 have h2:=nU t.e i2
 rw [vN,uK]
 rcases vB t.kd t.va t.bx t.x.fold (dQ t.b) (dQ t.e) with ⟨h,_⟩|⟨h,_⟩|h|⟨h,_⟩
 ·rw [h];omega
 ·rw [h];omega
 ·rw [h,IY];omega
 ·rw [h,uK]
  show cT (dQ t.b) + cT (dQ t.e) + 1≤_
  omega
theorem uJ (l:List ST):cT (dQ l)≤cT l:=nU l (fun y _=>vZ y)
theorem nT (l:List ST) (h:∀ y ∈ l,∀ z ∈ kR y,AX z):∀ z ∈ dQ l,AX z:=by
 induction l with
 |nil=>rw [dQ];simp
 |cons y ys ih=>
  intro z hz
  rw [dQ,List.mem_append] at hz
  rcases hz with hz|hz
  ·exact h y List.mem_cons_self z hz
  ·exact ih (fun w hw=>h w (List.mem_cons_of_mem _ hw)) z hz
theorem IX (t:ST):AX t→∀ z ∈ kR t,AX z:=by
 refine AB (P:=fun t=>AX t→∀ z ∈ kR t,AX z) (fun t i1 i2 ha=>?_) t
 cases ha with
 |mk _ h1 h2 hb he=>
  have g1:=nT t.b (fun y hy=>i1 y hy (hb y hy))
  have g2:=nT t.e (fun y hy=>i2 y hy (he y hy))
  rw [vN]
  rcases vB t.kd t.va t.bx t.x.fold (dQ t.b) (dQ t.e) with ⟨h,_⟩|⟨h,_⟩|h|⟨h,_⟩
  ·rw [h];exact g1
  ·rw [h];exact g2
  ·rw [h];simp
  ·rw [h]
   intro z hz
   rw [List.mem_singleton] at hz
   subst hz
   exact .mk _ (X.lX _ h1) (Nat.le_trans (X.rR _) h2) g1 g2
theorem FU (l:List ST) (h:∀ y ∈ l,AX y):∀ z ∈ dQ l,AX z:=nT l (fun y hy=>IX y (h y hy))
mutual
def mS:S70→Nat
 |⟨_,_,_,e,b,l⟩=>5 + 2 * nEs e.f2 + mSs b + mSs l
def mSs:List S70→Nat
 |[]=>0
 |x :: xs=>mS x + mSs xs
end
mutual
def mkS:S70→Int→S70
 |⟨_,_,_,e,b,l⟩,n=>⟨n,n + 1,n + 2,⟨n + 3,n + 4,lN e.f2 (n + 5)⟩,oZ b (n + 5 + 2 * nEs e.f2),oZ l (n + 5 + 2 * nEs e.f2 + mSs b)⟩
def oZ:List S70→Int→List S70
 |[],_=>[]
 |x :: xs,n=>mkS x n :: oZ xs (n + mS x)
end
theorem KN (x:S70):mS x=5 + 2 * nEs x.f3.f2 + mSs x.f4 + mSs x.f5:=by
 cases x
 rw [mS]
theorem MZ (x:S70) (n:Int):mkS x n=⟨n,n + 1,n + 2,⟨n + 3,n + 4,lN x.f3.f2 (n + 5)⟩,oZ x.f4 (n + 5 + 2 * nEs x.f3.f2),oZ x.f5 (n + 5 + 2 * nEs x.f3.f2 + mSs x.f4)⟩:=by
 cases x
 rw [mkS]
theorem uZ:∀ (l:List S70) (n:Int),(oZ l n).length=l.length
 |[],_=>by rw [oZ]
 |x :: xs,n=>by rw [oZ,List.length_cons,List.length_cons,uZ xs]
theorem rX:∀ l:List S70,l.length≤mSs l
 |[]=>Nat.zero_le _
 |x :: xs=>by
  have:=rX xs
  rw [mSs,List.length_cons,KN]
  omega
theorem BZ (l:List S70) (i:Nat) (h:i < l.length):mSs (l.drop i)=mS l[i] + mSs (l.drop (i + 1)):=by
 rw [List.drop_eq_getElem_cons h,mSs]
theorem MV {P:S70→Prop} (h:∀ e:S70,(∀ x ∈ e.f4,P x)→(∀ x ∈ e.f5,P x)→P e) (e:S70):P e:=
 S70.rec (motive_1:=P) (motive_2:=fun l=>∀ x ∈ l,P x) (fun a b c e m n ih1 ih2=>h ⟨a,b,c,e,m,n⟩ ih1 ih2) (fun x hx=>by simp at hx) (fun y ys h1 h2 x hx=>by
  rcases List.mem_cons.1 hx with rfl|hx
  ·exact h1
  ·exact h2 x hx) e
def sN (m:List S70):Prop:=∀ n:Int,0≤n→n + mSs m≤1099511627776→EvP (fun k=>bH.f k m n) (·=(n + mSs m,oZ m n))
theorem AQ (l:List S70) (hL:l.length≤1099511627776) (he:∀ x ∈ l,sN x.f4∧sN x.f5):
    ∀ (d j:Nat) (m:List S70) (n:Int),j + d=l.length→m.length=l.length→m.drop j=l.drop j→0≤n→n + mSs (l.drop j)≤1099511627776→EvP (fun k=>bH.l0 k m n (j:Int)) (·=(n + mSs (l.drop j),m.take j ++ oZ (l.drop j) n)):=by
  intro d
  induction d with
  |zero=>
    intro j m n hj hm hd h0 h1
    refine EvP.step (fun k=>bH.l0.eq_2 (k:=k) ..) (EvP.no (by omega) (EvP.ret ?_))
    rw [List.drop_eq_nil_of_le (by omega),List.take_of_length_le (by omega),mSs,oZ]
    simp
  |succ d ih=>
    intro j m n hj hm hd h0 h1
    have hlt:j < l.length:=by omega
    have hc:=BZ l j hlt
    have hn:=KN l[j]
    have hg:m[j]'(by omega)=l[j]:=by
      have h2:=congrArg (·[0]?) hd
      simp only [List.getElem?_drop,Nat.add_zero] at h2
      rw [List.getElem?_eq_getElem (by omega),List.getElem?_eq_getElem hlt] at h2
      exact Option.some.inj h2
    obtain ⟨q4,q5⟩:=he _ (List.getElem_mem hlt)
    refine EvP.step (fun k=>bH.l0.eq_2 (k:=k) ..) (EvP.yes (by omega) (EvP.yes (by omega) ?_))
    rw [oD m j (by omega),hg,w64 (n:=n + 1) (by omega) (by omega),w64 (n:=n + 1 + 1) (by omega) (by omega),w64 (n:=n + 1 + 1 + 1) (by omega) (by omega),w64 (n:=n + 1 + 1 + 1 + 1) (by omega) (by omega),w64 (n:=n + 1 + 1 + 1 + 1 + 1) (by omega) (by omega),w64 (n:=(j:Int) + 1) (by omega) (by omega),Int.toNat_natCast]
    rw [show n + 1 + 1 + 1 + 1 + 1=n + 5 by omega,show n + 1 + 1 + 1 + 1=n + 4 by omega,show n + 1 + 1 + 1=n + 3 by omega,show n + 1 + 1=n + 2 by omega]
    refine EvP.bO (AJ _ (n + 5) (by omega) (by omega)) ?_
    dsimp only
    refine EvP.bO (q4 _ (by omega) (by omega)) ?_
    dsimp only
    refine EvP.bO (q5 _ (by omega) (by omega)) ?_
    dsimp only
    refine (ih (j + 1) (m.set j _) _ (by omega) (by rw [List.length_set];exact hm) ?_ (by omega) (by omega)).mono fun a ha=>?_
    · rw [List.drop_set_of_lt (by omega),← List.drop_drop,hd,List.drop_drop]
    · rw [ha,List.take_succ_eq_append_getElem (by rw [List.length_set];omega),List.getElem_set_self,List.take_set_of_le (by omega),List.append_assoc,List.drop_eq_getElem_cons hlt,mSs,oZ,MZ]
      rw [show n + 5 + 2 * (nEs l[j].f3.f2:Int) + (mSs l[j].f4:Int) + (mSs l[j].f5:Int)=n + (mS l[j]:Int) by omega]
      refine Prod.ext ?_ ?_
      · show n + (mS l[j]:Int) + (mSs (l.drop (j + 1)):Int)=n + ((mS l[j] + mSs (l.drop (j + 1)):Nat):Int)
        omega
      · rfl
theorem oC (l:List S70) (he:∀ x ∈ l,sN x.f4∧sN x.f5):sN l:=fun n h0 h1=>
 EvP.step (fun k=>bH.f.eq_2 (k:=k) ..) (AQ l (by have:=rX l;omega) he l.length 0 l n (by omega) rfl rfl h0 h1)
theorem AP (x:S70):sN x.f4∧sN x.f5:=MV (P:=fun x=>sN x.f4∧sN x.f5) (fun e i4 i5=>⟨oC e.f4 i4,oC e.f5 i5⟩) x
theorem tJ (l:List S70) (n:Int) (h0:0≤n) (h1:n + mSs l≤1099511627776):EvP (fun k=>bH.f k l n) (·=(n + mSs l,oZ l n)):=oC l (fun x _=>AP x) n h0 h1
def sM (m:List S70):Prop:=∀ n:Int,0≤n→n + mSs m≤1099511627776→EvP (fun k=>bA.f k (oZ m n) n) (·=n + mSs m)
theorem yZ (l:List S70) (hL:l.length≤1099511627776) (he:∀ x ∈ l,sM x.f4∧sM x.f5):
    ∀ (d j:Nat) (m:List S70) (n:Int),j + d=l.length→m.length=l.length→m.drop j=oZ (l.drop j) n→0≤n→n + mSs (l.drop j)≤1099511627776→EvP (fun k=>bA.l0 k m n (j:Int)) (·=n + mSs (l.drop j)):=by
  intro d
  induction d with
  |zero=>
    intro j m n hj hm hd h0 h1
    refine EvP.step (fun k=>bA.l0.eq_2 (k:=k) ..) (EvP.no (by omega) (EvP.ret ?_))
    rw [List.drop_eq_nil_of_le (by omega),mSs]
    simp
  |succ d ih=>
    intro j m n hj hm hd h0 h1
    have hlt:j < l.length:=by omega
    have hc:=BZ l j hlt
    have hn:=KN l[j]
    rw [List.drop_eq_getElem_cons (show j < m.length by omega),List.drop_eq_getElem_cons hlt,oZ] at hd
    injection hd with hg hd
    rw [MZ] at hg
    obtain ⟨q4,q5⟩:=he _ (List.getElem_mem hlt)
    refine EvP.step (fun k=>bA.l0.eq_2 (k:=k) ..) (EvP.yes (by omega) (EvP.yes (by omega) ?_))
    rw [oD m j (by omega),hg,w64 (n:=n + 1) (by omega) (by omega),w64 (n:=n + 1 + 1) (by omega) (by omega),w64 (n:=n + 1 + 1 + 1) (by omega) (by omega),w64 (n:=n + 1 + 1 + 1 + 1) (by omega) (by omega),w64 (n:=n + 1 + 1 + 1 + 1 + 1) (by omega) (by omega),w64 (n:=(j:Int) + 1) (by omega) (by omega)]
    rw [show n + 1 + 1 + 1 + 1 + 1=n + 5 by omega,show n + 1 + 1 + 1 + 1=n + 4 by omega,show n + 1 + 1 + 1=n + 3 by omega,show n + 1 + 1=n + 2 by omega]
    dsimp only
    refine EvP.yes rfl (EvP.yes rfl (EvP.yes rfl (EvP.yes rfl (EvP.yes rfl ?_))))
    refine EvP.bO (yT _ (n + 5) (by omega) (by omega)) (EvP.no (by omega) ?_)
    refine EvP.bO (q4 _ (by omega) (by omega)) (EvP.no (by omega) ?_)
    refine EvP.bO (q5 _ (by omega) (by omega)) (EvP.no (by omega) ?_)
    refine (ih (j + 1) m _ (by omega) hm ?_ (by omega) (by omega)).mono fun a ha=>?_
    · rw [hd,show n + 5 + 2 * (nEs l[j].f3.f2:Int) + (mSs l[j].f4:Int) + (mSs l[j].f5:Int)=n + (mS l[j]:Int) by omega]
    · rw [ha]
      omega
theorem nX (l:List S70) (he:∀ x ∈ l,sM x.f4∧sM x.f5):sM l:=fun n h0 h1=>
 EvP.step (fun k=>bA.f.eq_2 (k:=k) ..) (yZ l (by have:=rX l;omega) he l.length 0 _ n (by omega) (uZ l n) rfl h0 h1)
theorem yY (x:S70):sM x.f4∧sM x.f5:=MV (P:=fun x=>sM x.f4∧sM x.f5) (fun e i4 i5=>⟨nX e.f4 i4,nX e.f5 i5⟩) x
theorem yX (l:List S70) (n:Int) (h0:0≤n) (h1:n + mSs l≤1099511627776):EvP (fun k=>bA.f k (oZ l n) n) (·=n + mSs l):=nX l (fun x _=>yY x) n h0 h1
theorem nD:∀ l:List S66,(∀ x ∈ l,mS (trS x)≤5 * (lK x + 1))→mSs (kN l)≤5 * fG l
 |[],_=>by rw [kN,mSs];exact Nat.zero_le _
 |x :: xs,h=>by
  have h1:=h x List.mem_cons_self
  have h2:=nD xs (fun y hy=>h y (List.mem_cons_of_mem _ hy))
  rw [kN,mSs,fG]
  omega
theorem OG (x:S66):mS (trS x)≤5 * (lK x + 1):=
 wD (P:=fun x=>mS (trS x)≤5 * (lK x + 1)) (fun e i4 i5=>by
  have h4:=nD e.f4 i4
  have h5:=nD e.f5 i5
  have h3:=OH e.f3
  have h2:=AU (trE e.f3)
  rw [FQ,KN,wB]
  dsimp only
  omega) x
theorem KO (l:List S66):mSs (kN l)≤5 * fG l:=nD l (fun x _=>OG x)
theorem lY:∀ l:List ST,(∀ t ∈ l,mS (lM t)≤65 * (cS (lM t) + 1))→mSs (bP l)≤65 * cSs (bP l)
 |[],_=>by rw [bP,mSs];exact Nat.zero_le _
 |t :: ts,h=>by
  have h1:=h t List.mem_cons_self
  have h2:=lY ts (fun y hy=>h y (List.mem_cons_of_mem _ hy))
  rw [bP,mSs,cSs]
  omega
theorem MK (t:ST):AX t→mS (lM t)≤65 * (cS (lM t) + 1):=
 AB (P:=fun t=>AX t→mS (lM t)≤65 * (cS (lM t) + 1)) (fun t i4 i5 ha=>by
  cases ha with
  |mk _ h1 h2 hb he=>
   have h4:=lY t.b (fun y hy=>i4 y hy (hb y hy))
   have h5:=lY t.e (fun y hy=>i5 y hy (he y hy))
   have h3:=EA t.x
   have h6:=AU (emb t.x)
   have h7:=X.rZ t.x
   have h8:2 ^ t.x.depth≤2 ^ 5:=Nat.pow_le_pow_right (by omega) h2
   rw [uM,KN,yM]
   dsimp only
   omega) t
theorem FZ (l:List ST) (h:∀ t ∈ l,AX t):mSs (bP l)≤65 * cT l:=lY l (fun t ht=>MK t (h t ht))
theorem uN {l:List ST} {y:S70} (h:y ∈ bP l):∃ t ∈ l,y=lM t:=by
 induction l with
 |nil=>simp [bP] at h
 |cons a l ih=>
  rw [bP] at h
  rcases List.mem_cons.1 h with rfl|h
  ·exact ⟨a,List.mem_cons_self,rfl⟩
  ·obtain ⟨x,hx,e⟩:=ih h
   exact ⟨x,List.mem_cons_of_mem _ hx,e⟩
theorem ED (t:ST):cS (lM t)≤1048576→oO (lM t):=
 AB (P:=fun t=>cS (lM t)≤1048576→oO (lM t)) (fun t i4 i5 hc=>by
  rw [uM,yM] at hc
  dsimp only at hc
  have h4:=eT (bP t.b)
  have h5:=eT (bP t.e)
  rw [uM]
  refine .mk _ (uT t.x) (by dsimp only;omega) (fun y hy=>?_) (by dsimp only;omega) (fun y hy=>?_)
  ·have:=mZ _ y hy
   obtain ⟨x,hx,rfl⟩:=uN hy
   exact i4 x hx (by dsimp only at this;omega)
  ·have:=mZ _ y hy
   obtain ⟨x,hx,rfl⟩:=uN hy
   exact i5 x hx (by dsimp only at this;omega)) t
theorem uX (l:List ST) (hc:cT l≤1048576):EvP (fun k=>aO.f k (bP l) (bP l)) (·=true):=
  nW _ (by have:=eT (bP l);unfold cT at hc;omega) (fun y hy=>by
    have h:=mZ _ y hy
    obtain ⟨t,ht,rfl⟩:=uN hy
    exact sU _ (ED t (by unfold cT at hc;omega)))
theorem yR {x:X} (h:x.ok):(emb x).f0=0 ↔ ∃ n,x= .num n:=by
 cases x with
 |num n=>exact ⟨fun _=>⟨n,rfl⟩,fun _=>rfl⟩
 |var v=>
  refine ⟨fun e=>?_,fun ⟨n,e⟩=>by cases e⟩
  simp [emb] at e
 |bin op a b=>
  refine ⟨fun e=>?_,fun ⟨n,e⟩=>by cases e⟩
  have e:op=0:=e
  have ho:=h.1
  omega
theorem kV:∀ x:X,x.ok→EvP (fun k=>aX.f k (emb x).f0 (emb x).f1 (emb x).f2) (·=tri (emb x.fold))
  | .num n,h=>EvP.step (fun k=>aX.f.eq_2 (k:=k) ..) (EvP.yes rfl (EvP.ret rfl))
  | .var v,h=>EvP.step (fun k=>aX.f.eq_2 (k:=k) ..) (EvP.yes rfl (EvP.ret rfl))
  | .bin op a b,h=>by
    have ha:=X.lX a h.2.1
    have hb:=X.lX b h.2.2
    have he:(X.bin op a b).fold=X.nO op a.fold b.fold:=rfl
    rw [he]
    refine EvP.step (fun k=>aX.f.eq_2 (k:=k) ..) (EvP.no (by simp [emb]) (EvP.yes (by simp [emb]) ?_))
    refine EvP.bO (kV a h.2.1) (EvP.yes (by simp [emb]) (EvP.bO (kV b h.2.2) ?_))
    generalize a.fold=x at ha ⊢
    generalize b.fold=y at hb ⊢
    simp only [tri]
    have stay:(¬ ∃ m n,x= .num m∧y= .num n)→X.nO op x y= .bin op x y:=fun hn=>X.BO fun m n e1 e2=>absurd ⟨m,n,e1,e2⟩ hn
    refine EvP.ite (fun hx=>?_) (fun hx=>?_)
    · obtain ⟨m,rfl⟩:=(yR ha).1 hx
      refine EvP.step (fun k=>aX.j0.eq_2 (k:=k) ..) (EvP.ite (fun hy=>?_) (fun hy=>EvP.ret ?_))
      · obtain ⟨n,rfl⟩:=(yR hb).1 (by simpa using hy)
        refine EvP.fE (wX _ _ _) ?_
        simp only [emb,X.nO]
        refine EvP.ite (fun h1=>EvP.ite (fun h2=>EvP.ret ?_) (fun h2=>EvP.ret ?_)) (fun h1=>EvP.ret ?_)
        · rw [if_pos ⟨h1,h2⟩]
          rfl
        · rw [if_neg (fun e=>h2 e.2)]
          rfl
        · rw [if_neg (fun e=>h1 e.1)]
          rfl
      · rw [stay (fun ⟨m',n,_,e⟩=>hy (by rw [e];rfl))]
        simp only [emb,rP]
    · refine EvP.step (fun k=>aX.j0.eq_2 (k:=k) ..) (EvP.no (by simp) (EvP.ret ?_))
      rw [stay (fun ⟨m',n,e,_⟩=>hx (by rw [e];rfl))]
      simp only [emb,rP]
theorem mV:∀ x:X,x.ok→EvP (fun k=>bK.f k (emb x).f0 (emb x).f1 (emb x).f2) (·=tri (emb x.fold))
  | .num n,h=>EvP.step (fun k=>bK.f.eq_2 (k:=k) ..) (EvP.yes rfl (EvP.fE rfl (EvP.ret rfl)))
  | .var v,h=>EvP.step (fun k=>bK.f.eq_2 (k:=k) ..) (EvP.yes rfl (EvP.fE rfl (EvP.ret rfl)))
  | .bin op a b,h=>by
    have ha:=X.lX a h.2.1
    have hb:=X.lX b h.2.2
    have he:(X.bin op a b).fold=X.nO op a.fold b.fold:=rfl
    rw [he]
    refine EvP.step (fun k=>bK.f.eq_2 (k:=k) ..) (EvP.no (by simp [emb]) (EvP.yes (by simp [emb]) ?_))
    refine EvP.bO (mV a h.2.1) (EvP.yes (by simp [emb]) (EvP.bO (mV b h.2.2) ?_))
    generalize a.fold=x at ha ⊢
    generalize b.fold=y at hb ⊢
    simp only [tri]
    have stay:(¬ ∃ m n,x= .num m∧y= .num n)→X.nO op x y= .bin op x y:=fun hn=>X.BO fun m n e1 e2=>absurd ⟨m,n,e1,e2⟩ hn
    refine EvP.ite (fun hx=>?_) (fun hx=>?_)
    · obtain ⟨m,rfl⟩:=(yR ha).1 hx
      refine EvP.step (fun k=>bK.j0.eq_2 (k:=k) ..) (EvP.ite (fun hy=>?_) (fun hy=>EvP.fE rfl (EvP.ret ?_)))
      · obtain ⟨n,rfl⟩:=(yR hb).1 (by simpa using hy)
        have hm:0≤m∧m≤99999:=ha
        have hn:0≤n∧n≤99999:=hb
        refine EvP.bO (xB _ _ _ h.1 (LC.2 (by simp only [emb];omega)) (LC.2 (by simp only [emb];omega))) (EvP.fE (nZ _ _ _) ?_)
        simp only [emb,X.nO]
        refine EvP.ite (fun h1=>EvP.fE rfl (EvP.ret ?_)) (fun h1=>EvP.fE rfl (EvP.ret ?_))
        · rw [Bool.and_eq_true] at h1
          rw [if_pos ⟨of_decide_eq_true h1.1,of_decide_eq_true h1.2⟩]
          rfl
        · rw [Bool.and_eq_true] at h1
          rw [if_neg (fun e=>h1 ⟨decide_eq_true e.1,decide_eq_true e.2⟩)]
          rfl
      · rw [stay (fun ⟨m',n,_,e⟩=>hy (by rw [e];rfl))]
        simp only [emb,rP]
    · refine EvP.step (fun k=>bK.j0.eq_2 (k:=k) ..) (EvP.no (by simp) (EvP.fE rfl (EvP.ret ?_)))
      rw [stay (fun ⟨m',n,e,_⟩=>hx (by rw [e];rfl))]
      simp only [emb,rP]
def Bytes (b:List Int):Prop:=b.length≤2000∧∀ x ∈ b,0≤x∧x≤255
theorem Bytes.rd {b:List Int} (h:Bytes b) (i:Int) (h0:0≤i) (h1:i < b.length):0≤Go.Proofs.YthiegfpcfedbgaaW.PrintWords.rd b i∧Go.Proofs.YthiegfpcfedbgaaW.PrintWords.rd b i≤255:=h.2 _ (OJ b i h0 h1)
set_option linter.unusedSimpArgs false
theorem kE (l:List ST):l.length≤cT l:=by
 have h:=eT (bP l)
 rw [fJ] at h
 exact h
theorem BL (l:List ST) (j:Nat):cT (l.take j) + cT (l.drop j)=cT l:=by
 rw [← uI,List.take_append_drop]
theorem FM (l:List ST) (j:Nat) (h:j < l.length):aC (bP l) (j:Int)=lM l[j]:=by
 rw [oD _ j (by rw [fJ];exact h),xI l j h]
theorem FL (kd va bx:Int) (y:X) (hy:y.ok) (b e:List ST):
  tL kd va bx y b e=if kd=2∧(emb y).f0=0∧(emb y).f1≠0 then b else if kd=2∧(emb y).f0=0 then e else if kd=3∧(emb y).f0=0∧(emb y).f1=0 then [] else [⟨kd,va,bx,y,b,e⟩]:=by
 unfold tL
 cases y with
 |num n=>
  by_cases h2:kd=2
  ·subst h2
   by_cases hn:n=0 <;> simp [emb,hn]
  ·by_cases h3:kd=3
   ·subst h3
    by_cases hn:n=0 <;> simp [emb,hn]
   ·simp [emb,h2,h3]
 |var v=>by_cases h2:kd=2 <;> by_cases h3:kd=3 <;> simp [emb,h2,h3]
 |bin o p q=>
  have ho:o≠0:=by have:=hy.1;omega
  by_cases h2:kd=2 <;> by_cases h3:kd=3 <;> simp [emb,h2,h3,ho]
theorem tF:∀ (c:Nat) (l:List ST),(∀ t ∈ l,AX t)→cT l≤c→c≤1000000000→EvP (fun k=>aI.f k (bP l)) (·=bP (dQ l)):=by
  intro c
  induction c with
  |zero=>
    intro l _ hl hc
    have:=kE l
    obtain rfl:=List.eq_nil_of_length_eq_zero (show l.length=0 by omega)
    refine EvP.step (fun k=>aI.f.eq_2 (k:=k) ..) (EvP.step (fun k=>aI.l0.eq_2 (k:=k) ..) (EvP.no (by rw [bP];simp) (EvP.ret ?_)))
    rw [dQ,bP]
  |succ c ih=>
    intro l ha hl hc
    have hlen:=fJ l
    have loop:∀ (r j:Nat) (acc:List ST),j + r=l.length→acc.length + cT (l.drop j)≤2000000000→EvP (fun k=>aI.l0 k (bP acc) (bP l) ((bP l).length:Int) (j:Int)) (·=bP (acc ++ dQ (l.drop j))):=by
      intro r
      induction r with
      |zero=>
        intro j acc hj h1
        refine EvP.step (fun k=>aI.l0.eq_2 (k:=k) ..) (EvP.no (by omega) (EvP.ret ?_))
        rw [List.drop_eq_nil_of_le (by omega),dQ,List.append_nil]
      |succ r ih2=>
        intro j acc hj h1
        have hlt:j < l.length:=by omega
        have hl2:=kE l
        have hsp:=BL l j
        have hd:=List.drop_eq_getElem_cons hlt
        have hcd:cT (l.drop j)=cT l[j].b + cT l[j].e + 1 + cT (l.drop (j + 1)):=by rw [hd,yN]
        have hrd:=FM l j hlt
        have hat:=ha _ (List.getElem_mem hlt)
        have hft:=vZ l[j]
        rw [uK] at hft
        have hfl:=kE (kR l[j])
        have hb1:=kE (dQ l[j].b)
        have hb2:=uJ l[j].b
        have he1:=kE (dQ l[j].e)
        have he2:=uJ l[j].e
        generalize l[j]=t at *
        obtain ⟨hok,_,hab,hae⟩:t.x.ok∧t.x.depth≤5∧(∀ y ∈ t.b,AX y)∧(∀ y ∈ t.e,AX y):=by
          cases hat with
          |mk _ a b c d=>exact ⟨a,b,c,d⟩
        refine EvP.step (fun k=>aI.l0.eq_2 (k:=k) ..) (EvP.yes (by omega) (EvP.yes (by omega) (EvP.yes (by omega) ?_)))
        rw [hrd,uM t]
        dsimp only
        refine EvP.bO (ih _ hab (by omega) (by omega)) (EvP.bO (ih _ hae (by omega) (by omega)) (EvP.bO (kV _ hok) ?_))
        have hyo:=X.lX _ hok
        have hf:kR t=_:=(vN t).trans (FL _ _ _ _ hyo _ _)
        have next:∀ p:List ST,kR t=p→EvP (fun k=>aI.l0 k (bP acc ++ bP p) (bP l) ((bP l).length:Int) ((j:Int) + 1)) (·=bP (acc ++ dQ (l.drop j))):=by
          rintro p rfl
          rw [← lW]
          refine (ih2 (j + 1) (acc ++ kR t) (by omega) (by rw [List.length_append];omega)).mono fun b hb=>?_
          rw [hb,hd,dQ,List.append_assoc]
        have la:=fJ acc
        have lb:=fJ (dQ t.b)
        have le:=fJ (dQ t.e)
        dsimp only [tri]
        have one:kR t=[⟨t.kd,t.va,t.bx,t.x.fold,dQ t.b,dQ t.e⟩]→EvP (fun k=>aI.l0 k (bP acc ++ [(⟨t.kd,t.va,t.bx,⟨(emb t.x.fold).f0,(emb t.x.fold).f1,(emb t.x.fold).f2⟩,bP (dQ t.b),bP (dQ t.e)⟩:S70)]) (bP l) ((bP l).length:Int) ((j:Int) + 1)) (·=bP (acc ++ dQ (l.drop j))):=by
          intro h
          have h2:=next _ h
          rw [bP,bP,lM] at h2
          rw [rP]
          exact h2
        clear ih ih2
        by_cases h2:t.kd=2
        · refine EvP.yes h2 ?_
          by_cases ho:(emb t.x.fold).f0=0
          · refine EvP.yes ho (EvP.step (fun k=>aI.j1.eq_2 (k:=k) ..) ?_)
            by_cases hn:(emb t.x.fold).f1=0
            · refine EvP.no (by simp [hn]) (EvP.yes h2 (EvP.step (fun k=>aI.j2.eq_2 (k:=k) ..) (EvP.yes (by simp [ho]) (EvP.yes (by omega) ?_))))
              rw [w64 (n:=(j:Int) + 1) (by omega) (by omega)]
              exact next _ (by rw [hf,if_neg (fun e=>e.2.2 hn),if_pos ⟨h2,ho⟩])
            · refine EvP.yes (by simp [hn]) (EvP.yes (by omega) ?_)
              rw [w64 (n:=(j:Int) + 1) (by omega) (by omega)]
              exact next _ (by rw [hf,if_pos ⟨h2,ho,hn⟩])
          · refine EvP.no ho (EvP.step (fun k=>aI.j1.eq_2 (k:=k) ..) (EvP.no (by simp) (EvP.yes h2 (EvP.step (fun k=>aI.j2.eq_2 (k:=k) ..) (EvP.no (by simp [ho]) (EvP.no (by omega) (EvP.yes (by omega) ?_)))))))
            rw [w64 (n:=(j:Int) + 1) (by omega) (by omega)]
            exact one (by rw [hf,if_neg (fun e=>ho e.2.1),if_neg (fun e=>ho e.2),if_neg (fun e=>ho e.2.1)])
        · refine EvP.no h2 (EvP.step (fun k=>aI.j1.eq_2 (k:=k) ..) (EvP.no (by simp) (EvP.no h2 (EvP.step (fun k=>aI.j2.eq_2 (k:=k) ..) (EvP.no (by simp) ?_)))))
          rw [w64 (n:=(j:Int) + 1) (by omega) (by omega)]
          by_cases h3:t.kd=3
          · refine EvP.yes h3 ?_
            by_cases ho:(emb t.x.fold).f0=0
            · refine EvP.yes (by simp [ho]) ?_
              by_cases hn:(emb t.x.fold).f1=0
              · refine EvP.yes hn ?_
                have h4:=next [] (by rw [hf,if_neg (fun e=>h2 e.1),if_neg (fun e=>h2 e.1),if_pos ⟨h3,ho,hn⟩])
                rw [bP,List.append_nil] at h4
                exact h4
              · exact EvP.no hn (EvP.yes (by omega) (one (by rw [hf,if_neg (fun e=>h2 e.1),if_neg (fun e=>h2 e.1),if_neg (fun e=>hn e.2.2)])))
            · exact EvP.no (by simp [ho]) (EvP.yes (by omega) (one (by rw [hf,if_neg (fun e=>h2 e.1),if_neg (fun e=>h2 e.1),if_neg (fun e=>ho e.2.1)])))
          · exact EvP.no h3 (EvP.yes (by omega) (one (by rw [hf,if_neg (fun e=>h2 e.1),if_neg (fun e=>h2 e.1),if_neg (fun e=>h3 e.1)])))
    refine EvP.step (fun k=>aI.f.eq_2 (k:=k) ..) ?_
    have h:=loop l.length 0 [] (by omega) (by rw [List.drop_zero];simp;omega)
    rw [List.drop_zero,List.nil_append,bP] at h
    exact h
theorem sG (t:ST) (hok:t.x.ok) (hb:EvP (fun k=>aJ.f k (bP t.b)) (·=bP (dQ t.b))) (he:EvP (fun k=>aJ.f k (bP t.e)) (·=bP (dQ t.e))):
    EvP (fun k=>dI.f k (lM t)) (·=bP (kR t)):=by
  refine EvP.step (fun k=>dI.f.eq_2 (k:=k) ..) ?_
  rw [uM t]
  dsimp only
  refine EvP.bO (mV _ hok) (EvP.bO hb (EvP.bO he (EvP.ret ?_)))
  have hyo:=X.lX _ hok
  rw [vN,FL _ _ _ _ hyo]
  dsimp only [tri,xR]
  by_cases h2:t.kd=2
  · by_cases ho:(emb t.x.fold).f0=0
    · by_cases hn:(emb t.x.fold).f1=0 <;> simp [h2,ho,hn]
    · simp [h2,ho,bP,lM,rP]
  · by_cases h3:t.kd=3
    · by_cases ho:(emb t.x.fold).f0=0
      · by_cases hn:(emb t.x.fold).f1=0
        · simp [h3,ho,hn,bP]
        · simp [h3,ho,hn,bP,lM]
          rw [← ho,rP]
      · simp [h3,ho,bP,lM,rP]
    · simp [h2,h3,bP,lM,rP]
theorem sF:∀ (c:Nat) (l:List ST),(∀ t ∈ l,AX t)→cT l≤c→c≤1000000000→EvP (fun k=>aJ.f k (bP l)) (·=bP (dQ l)):=by
  intro c
  induction c with
  |zero=>
    intro l _ hl hc
    have:=kE l
    obtain rfl:=List.eq_nil_of_length_eq_zero (show l.length=0 by omega)
    refine EvP.step (fun k=>aJ.f.eq_2 (k:=k) ..) (EvP.step (fun k=>aJ.l0.eq_2 (k:=k) ..) (EvP.no (by rw [bP];simp) (EvP.ret ?_)))
    rw [dQ,bP]
  |succ c ih=>
    intro l ha hl hc
    have hlen:=fJ l
    have loop:∀ (r j:Nat) (acc:List ST),j + r=l.length→acc.length + cT (l.drop j)≤2000000000→EvP (fun k=>aJ.l0 k (bP l) (bP acc) (j:Int)) (·=bP (acc ++ dQ (l.drop j))):=by
      intro r
      induction r with
      |zero=>
        intro j acc hj h1
        refine EvP.step (fun k=>aJ.l0.eq_2 (k:=k) ..) (EvP.no (by omega) (EvP.ret ?_))
        rw [List.drop_eq_nil_of_le (by omega),dQ,List.append_nil]
      |succ r ih2=>
        intro j acc hj h1
        have hlt:j < l.length:=by omega
        have hl2:=kE l
        have hsp:=BL l j
        have hd:=List.drop_eq_getElem_cons hlt
        have hcd:cT (l.drop j)=cT l[j].b + cT l[j].e + 1 + cT (l.drop (j + 1)):=by rw [hd,yN]
        have hrd:=FM l j hlt
        have hat:=ha _ (List.getElem_mem hlt)
        have hft:=vZ l[j]
        rw [uK] at hft
        have hfl:=kE (kR l[j])
        generalize l[j]=t at *
        obtain ⟨hok,_,hab,hae⟩:t.x.ok∧t.x.depth≤5∧(∀ y ∈ t.b,AX y)∧(∀ y ∈ t.e,AX y):=by
          cases hat with
          |mk _ a b c d=>exact ⟨a,b,c,d⟩
        have la:=fJ acc
        have lf:=fJ (kR t)
        refine EvP.step (fun k=>aJ.l0.eq_2 (k:=k) ..) (EvP.yes (by omega) (EvP.yes (by omega) ?_))
        rw [hrd]
        refine EvP.bO (sG t hok (ih _ hab (by omega) (by omega)) (ih _ hae (by omega) (by omega))) (EvP.yes (by omega) ?_)
        rw [w64 (n:=(j:Int) + 1) (by omega) (by omega),← lW]
        refine (ih2 (j + 1) (acc ++ kR t) (by omega) (by rw [List.length_append];omega)).mono fun b hb=>?_
        rw [hb,hd,dQ,List.append_assoc]
    refine EvP.step (fun k=>aJ.f.eq_2 (k:=k) ..) ?_
    have h:=loop l.length 0 [] (by omega) (by rw [List.drop_zero];simp;omega)
    rw [List.drop_zero,List.nil_append,bP] at h
    exact h
theorem sZ {l:List S70} (hl:cSs l≤1000000000) (h:okT 3 l=false):EvP (fun k=>eU.f k l) (·=([],false)):=by
  unfold eU.f
  exact EvP.bO (mP l hl) (EvP.no (by rw [h];simp) (EvP.ret rfl))
theorem tY {l:List S70} (hl:cSs l≤1000000000) (h:okT 3 l=false):EvP (fun k=>dW.f k l) (·=([],false)):=by
  unfold dW.f
  exact EvP.bO (mU l hl) (EvP.no (by rw [h];simp) (EvP.ret rfl))
theorem rU (m:List ST) (ha:∀ t ∈ m,AX t) (h:okT 3 (bP m)=true):EvP (fun k=>eU.f k (bP m)) (·=(bP (dQ m),true)):=by
  have hc:=(vO.1 h).2
  unfold eU.f
  exact EvP.bO (mP _ (by omega)) (EvP.yes h (EvP.bO (tF 16 m ha hc (by omega)) (EvP.ret rfl)))
theorem sD (m:List ST) (ha:∀ t ∈ m,AX t) (h:okT 3 (bP m)=true):EvP (fun k=>dW.f k (bP m)) (·=(bP (dQ m),true)):=by
  have hc:=(vO.1 h).2
  unfold dW.f
  exact EvP.bO (mU _ (by omega)) (EvP.yes h (EvP.bO (sF 16 m ha hc (by omega)) (EvP.ret rfl)))
theorem folds (l:List S70):(okT 3 l=false)∨∃ m:List ST,(∀ t ∈ m,AX t)∧bP m=l∧okT 3 (bP m)=true:=by
 cases h:okT 3 l with
 |false=>exact .inl rfl
 |true=>
  obtain ⟨m,hm,ha⟩:=KP 3 3 l (vO.1 h).1
  exact .inr ⟨m,ha,hm,by rw [hm];exact h⟩
end Go.Proofs.Ythiegfpcfedbgaa.PA

namespace Go.Proofs.Ythiegfpcfedbgaa.Pure
open Go.RowKit Go.Proofs.Ythiegfpcfedbgaa.PA Go.Proofs.YthiegfpcfedbgaaW.PrintWords Go.Proofs.YthiegfpcfedbgaaW.PrintLast Go.Proofs.YthiegfpcfedbgaaW.PrintMore Go.Proofs.Ythiegfpcfedbgaa.Core
theorem NY (l:List S70) (hl:cSs l≤1000000000):∃ r:List S70 × Bool,EvP (fun k=>dW.f k l) (·=r)∧EvP (fun k=>eU.f k l) (·=r)∧EvP (fun k=>aO.f k r.1 r.1) (·=true)∧mSs r.1≤1040:=by
  rcases folds l with h|⟨m,ha,rfl,h⟩
  · exact ⟨_,tY hl h,sZ hl h,uX [] (by rw [IY];omega),by simp [mSs]⟩
  · have hc:=(vO.1 h).2
    have hf:=uJ m
    have hm:=FZ (dQ m) (FU m ha)
    unfold cT at hf hm
    refine ⟨_,sD m ha h,rU m ha h,uX (dQ m) (by unfold cT;omega),?_⟩
    show mSs (bP (dQ m))≤1040
    omega
theorem FnExactStmtsFold:dX.Pure:=by
 intro l hl
 refine EvP.ends (r:=true) ?_
 unfold dX.f
 refine EvP.bO (EH l hl.1 hl.2 1048576 (by omega) (by omega)) (EvP.ite (fun _=>EvP.ret rfl) (fun h=>?_))
 have hc:=KM h
 have hs:=NW l
 have hm:=KO l
 obtain ⟨r,h1,h2,h3,h4⟩:=NY (kN l) (by omega)
 obtain ⟨gl,gb⟩:=r
 dsimp only at h3 h4
 refine EvP.bO (EL l hc) (EvP.bO h1 (EvP.bO h2 (EvP.bO h3 (EvP.no (by simp) (EvP.no (by simp) ?_)))))
 refine EvP.bO (wV l hc) (EvP.no (by simp) ?_)
 refine EvP.bO (tJ (kN l) 1 (by omega) (by omega)) (EvP.no (by show ¬ (1 + (mSs (kN l):Int) < 0);omega) ?_)
 refine EvP.bO (tJ gl 1 (by omega) (by omega)) ?_
 exact EvP.bO (yX gl 1 (by omega) (by omega)) (EvP.no (by omega) (EvP.no (by simp) (EvP.ret rfl)))
end Go.Proofs.Ythiegfpcfedbgaa.Pure

