/- Part 4. -/
import Derived.Test.YtodhbeeibagiaaaQFnProgramFoldTwice2
set_option maxHeartbeats 8000000
set_option maxRecDepth 100000
namespace Go.Proofs.Ytodhbeeibagiaaa.PA
open Go.RowKit Go.Proofs.YtodhbeeibagiaaaW.PrintWords Go.Proofs.YtodhbeeibagiaaaW.PrintLast Go.Proofs.YtodhbeeibagiaaaW.PrintMore
attribute [local go_sem] max2_int min2_int max_two min_two max_three min_three max_four min_four
set_option linter.unusedVariables false
set_option linter.unusedSimpArgs false
theorem nS.calls (a0:Int) (a1:Int) (a2:Int) (r:Int) (w:World) (h:nS.f a0 a1 a2=some r):
  Calls Try.prog 94 #[.int .i64 a0, .int .i64 a1, .int .i64 a2] w fun e w'=>e= .returned (.int .i64 r)∧iX w w':=by
 have H:(if a0=1 then (some (Go.bits .or .i64 a1 a2)) else (if a0=2 then (some (Go.bits .xor .i64 a1 a2)) else (if a0=3 then (some (Go.bits .and .i64 a1 a2)) else (if a0=4 then ((mG.f (a1 == a2)).bind fun ju=>(some ju)) else (if a0=5 then ((mG.f (decide (a1 < a2))).bind fun jv=>(some jv)) else (if a0=6 then (if 0≤(Go.bits .and .i64 a2 31) then ((iK.f (shl .i64 a1 (Go.bits .and .i64 a2 31))).bind fun jb=>(some jb)) else (none)) else (if a0=7 then (if 0≤(Go.bits .and .i64 a2 31) then (some (shr .i64 a1 (Go.bits .and .i64 a2 31))) else (none)) else (if a0=8 then ((iK.f (wrap64 (a1 + a2))).bind fun jw=>(some jw)) else (if a0=9 then ((iK.f (wrap64 (a1 - a2))).bind fun jx=>(some jx)) else (if a0=10 then ((iK.f (wrap64 (a1 * a2))).bind fun jy=>(some jy)) else (if a0=11 then (if a2=0 then (some (-1)) else ((iK.f (wrap64 (Int.tdiv a1 a2))).bind fun jz=>(some jz))) else (if a2=0 then (some a1) else (some (Int.tmod a1 a2))))))))))))))=some r:=h
 clear h
 by_cases c4:a0=1
 ·rw [if_pos c4] at H
  have jA:(a0 == 1)=true:=beq_iff_eq.mpr c4
  have jB:(a0 != 1)=false:=bne_eq_false_iff_eq.mpr c4
  clear c4
  obtain rfl:=Option.some.inj H
  go_enter Try.func94,Try.ntmps94
  go_wp2
  go_ret
  exact ⟨sd_,gM⟩
 rw [if_neg c4] at H
 have jA:(a0 == 1)=false:=beq_eq_false_iff_ne.mpr c4
 have jB:(a0 != 1)=true:=bne_iff_ne.mpr c4
 by_cases c5:a0=2
 ·rw [if_pos c5] at H
  have jC:(a0 == 2)=true:=beq_iff_eq.mpr c5
  have jD:(a0 != 2)=false:=bne_eq_false_iff_eq.mpr c5
  clear c5
  obtain rfl:=Option.some.inj H
  go_enter Try.func94,Try.ntmps94
  go_wp2
  go_ret
  exact ⟨sd_,gM⟩
 rw [if_neg c5] at H
 have jC:(a0 == 2)=false:=beq_eq_false_iff_ne.mpr c5
 have jD:(a0 != 2)=true:=bne_iff_ne.mpr c5
 by_cases c6:a0=3
 ·rw [if_pos c6] at H
  have jE:(a0 == 3)=true:=beq_iff_eq.mpr c6
  have jF:(a0 != 3)=false:=bne_eq_false_iff_eq.mpr c6
  clear c6
  obtain rfl:=Option.some.inj H
  go_enter Try.func94,Try.ntmps94
  go_wp2
  go_ret
  exact ⟨sd_,gM⟩
 rw [if_neg c6] at H
 have jE:(a0 == 3)=false:=beq_eq_false_iff_ne.mpr c6
 have jF:(a0 != 3)=true:=bne_iff_ne.mpr c6
 by_cases c7:a0=4
 ·rw [if_pos c7] at H
  have jG:(a0 == 4)=true:=beq_iff_eq.mpr c7
  have jH:(a0 != 4)=false:=bne_eq_false_iff_eq.mpr c7
  clear c7
  obtain ⟨ju,A8,H⟩:=bsa H
  (try dsimp only at H)
  obtain rfl:=Option.some.inj H
  go_enter Try.func94,Try.ntmps94
  go_wp2_with (first|((with_reducible refine aN (f:=106) rfl ?_);refine gl_ 28 Try.func106 #[.bool (a1 == a2)] ?_;(with_reducible refine (mG.calls (a1 == a2) ju _ A8.out).mono ?_);rintro e w' ⟨rfl,⟨nd,rfl⟩⟩;refine ⟨_,rfl,?_⟩))
  go_ret
  exact ⟨sd_,gM⟩
 rw [if_neg c7] at H
 have jG:(a0 == 4)=false:=beq_eq_false_iff_ne.mpr c7
 have jH:(a0 != 4)=true:=bne_iff_ne.mpr c7
 by_cases c9:a0=5
 ·rw [if_pos c9] at H
  have jI:(a0 == 5)=true:=beq_iff_eq.mpr c9
  have jJ:(a0 != 5)=false:=bne_eq_false_iff_eq.mpr c9
  clear c9
  obtain ⟨jv,jK,H⟩:=bsm H
  (try dsimp only at H)
  have jT:=am jK
  clear jK
  obtain rfl:=Option.some.inj H
  go_enter Try.func94,Try.ntmps94
  go_wp2_with (first|((with_reducible refine aN (f:=106) rfl ?_);refine gl_ 34 Try.func106 #[.bool (decide (a1 < a2))] ?_;(with_reducible refine (mG.calls (decide (a1 < a2)) jv _ jT.out).mono ?_);rintro e w' ⟨rfl,⟨nd,rfl⟩⟩;refine ⟨_,rfl,?_⟩))
  go_ret
  exact ⟨sd_,gM⟩
 rw [if_neg c9] at H
 have jI:(a0 == 5)=false:=beq_eq_false_iff_ne.mpr c9
 have jJ:(a0 != 5)=true:=bne_iff_ne.mpr c9
 by_cases j3:a0=6
 ·rw [if_pos j3] at H
  have jc:(a0 == 6)=true:=beq_iff_eq.mpr j3
  have jd:(a0 != 6)=false:=bne_eq_false_iff_eq.mpr j3
  clear j3
  by_cases je:0≤(Go.bits .and .i64 a2 31)
  ·rw [if_pos je] at H
   have jL:=eq_true je
   have jM:decide (0≤(Go.bits .and .i64 a2 31))=true:=decide_eq_true je
   clear je
   obtain ⟨ji13,hji13⟩:∃ j_:Int,(shl .i64 a1 (Go.bits .and .i64 a2 31))=j_:=⟨_,rfl⟩
   replace H:((iK.f (ji13)).bind fun jb=>(some jb))=some r:=by first|(rw [hji13] at H;exact H)|(simp only [hji13] at H ⊢;exact H)
   have hji13_:(IntKind.i64.wrap (a1 * 2 ^ min (Go.bits .and .i64 a2 31).toNat 64))=ji13:=hji13
   have hji13z:(Go.bits .and .i64 a2 31)≤64→(IntKind.i64.wrap (a1 * 2 ^ (Go.bits .and .i64 a2 31).toNat))=ji13:=IQ hji13
   have hji13y:(wrap64 (a1 * 2 ^ min (Go.bits .and .i64 a2 31).toNat 64))=ji13:=(dS _).symm.trans hji13_
   have hji13x:(Go.bits .and .i64 a2 31)≤64→(wrap64 (a1 * 2 ^ (Go.bits .and .i64 a2 31).toNat))=ji13:=fun h_=>(dS _).symm.trans (hji13z h_)
   obtain ⟨jb,jN,H⟩:=bsm H
   (try dsimp only at H)
   have jU:=am jN
   clear jN
   obtain rfl:=Option.some.inj H
   go_enter Try.func94,Try.ntmps94
   go_wp2_with (first|((with_reducible refine aN (f:=107) rfl ?_);refine sN (some 41) rfl rfl Try.func107 (by kernel_rfl) rfl #[.int .i64 ji13] rfl (by (try simp only [List.map_toArray,List.map_cons,List.map_nil]);first|done|(simp only [hji13];rfl)|rfl|(simp only [List.length_drop,List.length_take];rfl)) ?_;(with_reducible refine (iK.calls ji13 jb _ jU.out).mono ?_);rintro e w' ⟨rfl,⟨nd,rfl⟩⟩;refine ⟨_,rfl,?_⟩))
   go_ret
   exact ⟨by first|rfl|(simp;done)|(simp only [← hji13] <;> (first|rfl|simp))|(simp [*];done),gM⟩
  rw [if_neg je] at H
  exact absurd H (by simp)
 rw [if_neg j3] at H
 have jc:(a0 == 6)=false:=beq_eq_false_iff_ne.mpr j3
 have jd:(a0 != 6)=true:=bne_iff_ne.mpr j3
 by_cases j4:a0=7
 ·rw [if_pos j4] at H
  have jf:(a0 == 7)=true:=beq_iff_eq.mpr j4
  have jg:(a0 != 7)=false:=bne_eq_false_iff_eq.mpr j4
  clear j4
  by_cases jh:0≤(Go.bits .and .i64 a2 31)
  ·rw [if_pos jh] at H
   have jO:=eq_true jh
   have jP:decide (0≤(Go.bits .and .i64 a2 31))=true:=decide_eq_true jh
   clear jh
   obtain ⟨ji17,hji17⟩:∃ j_:Int,(shr .i64 a1 (Go.bits .and .i64 a2 31))=j_:=⟨_,rfl⟩
   replace H:(some ji17)=some r:=by first|(rw [hji17] at H;exact H)|(simp only [hji17] at H ⊢;exact H)
   have hji17_:(a1 / 2 ^ min (Go.bits .and .i64 a2 31).toNat 64)=ji17:=hji17
   have hji17z:(Go.bits .and .i64 a2 31)≤64→(a1 / 2 ^ (Go.bits .and .i64 a2 31).toNat)=ji17:=IU hji17
   obtain rfl:=Option.some.inj H
   go_enter Try.func94,Try.ntmps94
   go_wp2
   go_ret
   exact ⟨by first|rfl|(simp;done)|(simp only [← hji17] <;> (first|rfl|simp))|(simp [*];done),gM⟩
  rw [if_neg jh] at H
  exact absurd H (by simp)
 rw [if_neg j4] at H
 have jf:(a0 == 7)=false:=beq_eq_false_iff_ne.mpr j4
 have jg:(a0 != 7)=true:=bne_iff_ne.mpr j4
 by_cases j5:a0=8
 ·rw [if_pos j5] at H
  have ji:(a0 == 8)=true:=beq_iff_eq.mpr j5
  have jj:(a0 != 8)=false:=bne_eq_false_iff_eq.mpr j5
  clear j5
  obtain ⟨jw,jV,H⟩:=bsa H
  (try dsimp only at H)
  obtain rfl:=Option.some.inj H
  go_enter Try.func94,Try.ntmps94
  go_wp2_with (first|((with_reducible refine aN (f:=107) rfl ?_);refine gl_ 53 Try.func107 #[.int .i64 (wrap64 (a1 + a2))] ?_;(with_reducible refine (iK.calls (wrap64 (a1 + a2)) jw _ jV.out).mono ?_);rintro e w' ⟨rfl,⟨nd,rfl⟩⟩;refine ⟨_,rfl,?_⟩))
  go_ret
  exact ⟨sd_,gM⟩
 rw [if_neg j5] at H
 have ji:(a0 == 8)=false:=beq_eq_false_iff_ne.mpr j5
 have jj:(a0 != 8)=true:=bne_iff_ne.mpr j5
 by_cases j6:a0=9
 ·rw [if_pos j6] at H
  have jk:(a0 == 9)=true:=beq_iff_eq.mpr j6
  have jl:(a0 != 9)=false:=bne_eq_false_iff_eq.mpr j6
  clear j6
  obtain ⟨jx,jQ,H⟩:=bsm H
  (try dsimp only at H)
  have jW:=am jQ
  clear jQ
  obtain rfl:=Option.some.inj H
  go_enter Try.func94,Try.ntmps94
  go_wp2_with (first|((with_reducible refine aN (f:=107) rfl ?_);refine gl_ 59 Try.func107 #[.int .i64 (wrap64 (a1 - a2))] ?_;(with_reducible refine (iK.calls (wrap64 (a1 - a2)) jx _ jW.out).mono ?_);rintro e w' ⟨rfl,⟨nd,rfl⟩⟩;refine ⟨_,rfl,?_⟩))
  go_ret
  exact ⟨sd_,gM⟩
 rw [if_neg j6] at H
 have jk:(a0 == 9)=false:=beq_eq_false_iff_ne.mpr j6
 have jl:(a0 != 9)=true:=bne_iff_ne.mpr j6
 by_cases j7:a0=10
 ·rw [if_pos j7] at H
  have jm:(a0 == 10)=true:=beq_iff_eq.mpr j7
  have jn:(a0 != 10)=false:=bne_eq_false_iff_eq.mpr j7
  clear j7
  obtain ⟨jy,jR,H⟩:=bsm H
  (try dsimp only at H)
  have jX:=am jR
  clear jR
  obtain rfl:=Option.some.inj H
  go_enter Try.func94,Try.ntmps94
  go_wp2_with (first|((with_reducible refine aN (f:=107) rfl ?_);refine gl_ 65 Try.func107 #[.int .i64 (wrap64 (a1 * a2))] ?_;(with_reducible refine (iK.calls (wrap64 (a1 * a2)) jy _ jX.out).mono ?_);rintro e w' ⟨rfl,⟨nd,rfl⟩⟩;refine ⟨_,rfl,?_⟩))
  go_ret
  exact ⟨sd_,gM⟩
 rw [if_neg j7] at H
 have jm:(a0 == 10)=false:=beq_eq_false_iff_ne.mpr j7
 have jn:(a0 != 10)=true:=bne_iff_ne.mpr j7
 by_cases j8:a0=11
 ·rw [if_pos j8] at H
  have jo:(a0 == 11)=true:=beq_iff_eq.mpr j8
  have jp:(a0 != 11)=false:=bne_eq_false_iff_eq.mpr j8
  clear j8
  by_cases j9:a2=0
  ·rw [if_pos j9] at H
   have jq:(a2 == 0)=true:=beq_iff_eq.mpr j9
   have jr:(a2 != 0)=false:=bne_eq_false_iff_eq.mpr j9
   clear j9
   obtain rfl:=Option.some.inj H
   go_enter Try.func94,Try.ntmps94
   go_wp2
   go_ret
   exact ⟨sd_,gM⟩
  rw [if_neg j9] at H
  have jq:(a2 == 0)=false:=beq_eq_false_iff_ne.mpr j9
  have jr:(a2 != 0)=true:=bne_iff_ne.mpr j9
  obtain ⟨jz,jS,H⟩:=bsm H
  (try dsimp only at H)
  have jY:=am jS
  clear jS
  obtain rfl:=Option.some.inj H
  go_enter Try.func94,Try.ntmps94
  go_wp2_with (first|((with_reducible refine aN (f:=107) rfl ?_);refine gl_ 73 Try.func107 #[.int .i64 (wrap64 (Int.tdiv a1 a2))] ?_;(with_reducible refine (iK.calls (wrap64 (Int.tdiv a1 a2)) jz _ jY.out).mono ?_);rintro e w' ⟨rfl,⟨nd,rfl⟩⟩;refine ⟨_,rfl,?_⟩))
  go_ret
  exact ⟨sd_,gM⟩
 rw [if_neg j8] at H
 have jo:(a0 == 11)=false:=beq_eq_false_iff_ne.mpr j8
 have jp:(a0 != 11)=true:=bne_iff_ne.mpr j8
 by_cases ja:a2=0
 ·rw [if_pos ja] at H
  have js:(a2 == 0)=true:=beq_iff_eq.mpr ja
  have jt:(a2 != 0)=false:=bne_eq_false_iff_eq.mpr ja
  clear ja
  obtain rfl:=Option.some.inj H
  go_enter Try.func94,Try.ntmps94
  go_wp2
  go_ret
  exact ⟨sd_,gM⟩
 rw [if_neg ja] at H
 have js:(a2 == 0)=false:=beq_eq_false_iff_ne.mpr ja
 have jt:(a2 != 0)=true:=bne_iff_ne.mpr ja
 obtain rfl:=Option.some.inj H
 go_enter Try.func94,Try.ntmps94
 go_wp2
 go_ret
 exact ⟨sd_,gM⟩
theorem bZ.mono_l:∀ k,(∀ y0 y1 y2,LeO (bZ.f k y0 y1 y2) (bZ.f (k + 1) y0 y1 y2))∧(∀ y0 y1 y2 y3 y4 y5 y6 y7 y8 y9,LeO (bZ.j0 k y0 y1 y2 y3 y4 y5 y6 y7 y8 y9) (bZ.j0 (k + 1) y0 y1 y2 y3 y4 y5 y6 y7 y8 y9))
 |0=>⟨fun _ _ _ r h=>by simp [bZ.f] at h,fun _ _ _ _ _ _ _ _ _ _ r h=>by simp [bZ.j0] at h⟩
 |k + 1=>by
  obtain ⟨ih0,ih1⟩:=bZ.mono_l k
  refine ⟨?_,?_⟩
  ·intro y0 y1 y2
   unfold bZ.f
   exact mo_
  ·intro y0 y1 y2 y3 y4 y5 y6 y7 y8 y9
   unfold bZ.j0
   exact mo_
theorem bZ.mono:∀ a0 a1 a2 k,LeO (bZ.f k a0 a1 a2) (bZ.f (k + 1) a0 a1 a2):=by
 intro a0 a1 a2 k
 obtain ⟨ih0,ih1⟩:=bZ.mono_l k
 exact ih0 a0 a1 a2
def bZ.T3:Bool × List (List Nat × List Nat):=(true,[([],[]),([0],[0]),([1],[1]),([2],[2]),([3],[3]),([],[]),([5],[5]),([6],[6]),([7],[7]),([8,4],[8]),([],[]),([],[]),([10,4,9,0,1,2,3,4,10,11],[4,10]),([11,9,12,0,1,2,3,4,5,6,7,8,9,10,11,12],[9,11])])
def bZ.B3:List Nat:=[0,1,3,7,15,0,32,96,224,511,0,0,4095,8191]
theorem bZ.aCc:lJ .any (opsOf Try.f78 3)=bZ.T3:=by kernel_rfl
theorem bZ.TA:iW bZ.T3.2 bZ.B3=true:=by kernel_rfl
theorem bZ.calls (k:Nat):∀ (jo:Int) (jr:Int) (q7:Option Addr) (jt:Nat) (j9:List (S32)) (r1:Int) (r2:Int) (r3:List (S32)) (w:World) (hr0_2:Kd.C k32 w q7 j9.length j9) (hc0_2:j9.length≤jt) (h:bZ.f k jo jr j9=some (r1,r2,r3)),
  Calls Try.prog 78 #[.agg #[.int .i64 jo, .int .i64 jr, .slice q7 j9.length jt]] w fun e w'=>∃ v2_:Value,e= .returned (.agg #[.int .i64 r1, .int .i64 r2,v2_])∧Kd.N k32 32 w' w.heap.size (fun k_=>(w.heap.size≤k_)) v2_ r3∧Below w.heap.size w w':=by
 induction k using Nat.strongRecOn with
 | _ k ih=>
 intro jo jr q7 jt j9 r1 r2 r3 w hr0_2 hc0_2 h
 cases k with
 |zero=>exact absurd h (by simp [bZ.f])
 |succ k=>
 simp only [bZ.f] at h
 have hu32:=Try.underlying32
 have q8:=am hr0_2
 have Z0:=am hc0_2
 clear hr0_2 hc0_2
 have HB:=am (Below.refl w.heap.size w)
 have H:(if (j9.length:Int)=0 then (some (jo,jr,([]:List (S32)))) else (if 0 < (j9.length:Int) then ((bZ.f k ((aY j9 0).f0) ((aY j9 0).f1) ((aY j9 0).f2)).bind fun q4=>(if 1 < (j9.length:Int) then ((bZ.f k ((aY j9 1).f0) ((aY j9 1).f1) ((aY j9 1).f2)).bind fun q5=>(if q4.1=0 then (bZ.j0 k (q5.1 == 0) jo jr j9 q4.1 q4.2.1 q4.2.2 q5.1 q5.2.1 q5.2.2) else (bZ.j0 k false jo jr j9 q4.1 q4.2.1 q4.2.2 q5.1 q5.2.1 q5.2.2))) else (none))) else (none)))=some (r1,r2,r3):=h
 clear h
 have HH_:=am H
 clear H
 go_enter Try.func78,Try.ntmps78
 go_upto_region 1 with (first|((with_reducible refine bQ (N:=1) rfl ?_);refine dJ rfl (N:=1) rfl (cs:=#[.int .i64 jo, .int .i64 jr, .slice q7 j9.length jt]) (t:=32) rn_ ?_;intro j8 hg w3 hbox hb;have ja:=am (hbox);have Y9:=am ((by rw [hg];exact (aJ gK):w.heap.size≤j8));have GE99:=am ((by rw [hg];exact (aJ gK):w.heap.size≤j8));replace HB:=am (aG gK hb);clear hb hbox hg)|((with_reducible refine bQ (N:=2) rfl ?_);refine dJ rfl (N:=2) rfl (cs:=#[.int .i64 0, .int .i64 0, .slice none 0 0]) (t:=32) rn_ ?_;intro j6 hg w4 hbox hb;have j7:=am (hbox);have Z1:=am ((by rw [hg];exact (aJ kX):w.heap.size≤j6));have GE100:=am ((by rw [hg];exact (aJ kX):w.heap.size≤j6));replace HB:=am (aG kX hb);have jS:=am ((by rw [hg];exact Nat.ne_of_lt (fO ja.out):j8≠j6));have jT:=am ((by rw [hg];exact Nat.ne_of_gt (fO ja.out):j6≠j8));replace ja:=bbP ja hb;clear hb hbox hg;have Ya:=jS.out;have Yb:=jT.out;obtain ⟨QG,QH,QI,QJ,QK,QL⟩:=fZ ja.out))
 have H:=HH_.out
 clear HH_
 by_cases c2:(j9.length:Int)=0
 ·rw [if_pos c2] at H
  have QM:((j9.length:Int) == 0)=true:=beq_iff_eq.mpr c2
  have QN:((j9.length:Int) != 0)=false:=bne_eq_false_iff_eq.mpr c2
  clear c2
  simp only [Option.some.injEq,Prod.mk.injEq] at H
  obtain ⟨rfl,rfl,rfl⟩:=H
  obtain ⟨QO,QP,QQ,QR,QS,QT⟩:=fZ j7.out
  go_wp2
  refine bodyPost_ret (results_cell_row rfl _ _ j6 32 #[.int .i64 jo, .int .i64 jr, .slice none 0 0] (0,0) _ rfl (aM (aM (aM j7.out 0 _ rfl) 1 _ rfl) 2 _ rfl) Try.underlying32 rfl (by kernel_rfl)) rfl ?_
  exact ⟨_,iM,by first|exact Kd.oU _ _ _ _ _|exact Kd.sP _ _ _ _ _|exact Kd.sU _ _ _ _ _|exact Kd.sQ _ _ _ _ _|exact Kd.sS _ _ _ _ _,mM⟩
 rw [if_neg c2] at H
 have QM:((j9.length:Int) == 0)=false:=beq_eq_false_iff_ne.mpr c2
 have QN:((j9.length:Int) != 0)=true:=bne_iff_ne.mpr c2
 have Yc:¬ (j9=[]):=fun h_=>c2 (by rw [h_];rfl)
 by_cases c8:0 < (j9.length:Int)
 ·rw [if_pos c8] at H
  have Yd:decide (0 < (j9.length:Int))=true:=decide_eq_true c8
  have Ye:decide (0 < j9.length)=true:=decide_eq_true (by omega)
  clear c8
  obtain ⟨⟨jK,js,jp⟩,A9,H⟩:=bsa H
  (try dsimp only at H)
  by_cases c10:1 < (j9.length:Int)
  ·rw [if_pos c10] at H
   have Z2:decide (1 < (j9.length:Int))=true:=decide_eq_true c10
   have Z3:decide (1 < j9.length)=true:=decide_eq_true (by omega)
   clear c10
   obtain ⟨⟨jR,jv,jq⟩,qq,H⟩:=bsm H
   (try dsimp only at H)
   have qW:=am qq
   clear qq
   have qf:=am H
   clear H
   try go_wp2
   replace ja:=am (bT ja.out)
   replace j7:=am (bT j7.out)
   replace HB:=am (bG HB.out)
   have qg:0≤(0:Int):=(by omega)
   have qh:0 < (j9.length:Int):=of_decide_eq_true gL
   obtain ⟨j5,jz,jA,QU,jL,jM,jN,hl106_2,hi106_2⟩:=rC q8.out 0 qg qh
   have hw106_2:=jN
   (try rw [show ((0:Int)).toNat=0 from rfl] at hw106_2)
   (try rw [show 0 * 3=0 from rfl] at hw106_2)
   (try rw [Addr.add_zero'] at hw106_2)
   have hw106_1:=jM
   (try rw [show ((0:Int)).toNat=0 from rfl] at hw106_1)
   (try rw [show 0 * 3=0 from rfl] at hw106_1)
   (try rw [Addr.add_zero'] at hw106_1)
   have hw106_0:=jL
   (try rw [show ((0:Int)).toNat=0 from rfl] at hw106_0)
   (try rw [show 0 * 3=0 from rfl] at hw106_0)
   (try rw [Addr.add_zero'] at hw106_0)
   cases QU
   have Z4:(0 < j9.length)=True:=eq_true (by omega)
   (try rw [show ((0:Int)).toNat=0 from rfl] at jL)
   (try rw [show 0 * 3=0 from rfl] at jL)
   (try rw [Addr.add_zero'] at jL)
   (try rw [show ((0:Int)).toNat=0 from rfl] at jM)
   (try rw [show 0 * 3=0 from rfl] at jM)
   (try rw [Addr.add_zero'] at jM)
   (try rw [show ((0:Int)).toNat=0 from rfl] at jN)
   (try rw [show 0 * 3=0 from rfl] at jN)
   (try rw [Addr.add_zero'] at jN)
   replace jL:=(HB.out.cell (World.block_lt_of_cell? w _ jL)).trans jL
   replace jM:=(HB.out.cell (World.block_lt_of_cell? w _ jM)).trans jM
   replace jN:=(HB.out.cell (World.block_lt_of_cell? w _ jN)).trans jN
   have jV:=am hi106_2
   have jY:=am hl106_2
   clear hi106_2 hl106_2
   replace qg:=eq_true qg
   replace qh:=eq_true qh
   have qi:0≤(1:Int):=(by omega)
   have qj:1 < (j9.length:Int):=of_decide_eq_true gL
   obtain ⟨qr,jB,jC,QV,jO,jP,jQ,hl107_2,hi107_2⟩:=rC q8.out 1 qi qj
   have hw107_2:=jQ
   (try rw [show ((1:Int)).toNat=1 from rfl] at hw107_2)
   (try rw [show 1 * 3=3 from rfl] at hw107_2)
   (try simp only [Nat.reduceMul,Nat.reduceEqDiff,Go.Addr.add,↓reduceIte] at hw107_2)
   have hw107_1:=jP
   (try rw [show ((1:Int)).toNat=1 from rfl] at hw107_1)
   (try rw [show 1 * 3=3 from rfl] at hw107_1)
   (try simp only [Nat.reduceMul,Nat.reduceEqDiff,Go.Addr.add,↓reduceIte] at hw107_1)
   have hw107_0:=jO
   (try rw [show ((1:Int)).toNat=1 from rfl] at hw107_0)
   (try rw [show 1 * 3=3 from rfl] at hw107_0)
   (try simp only [Nat.reduceMul,Nat.reduceEqDiff,Go.Addr.add,↓reduceIte] at hw107_0)
   obtain rfl:j5=qr:=(by injection QV)
   (try simp only [show (1:Int).toNat=1 from rfl,Nat.reduceMul,Nat.reduceEqDiff,Go.Addr.add,↓reduceIte] at jO)
   (try simp only [show (1:Int).toNat=1 from rfl,Nat.reduceMul,Nat.reduceEqDiff,Go.Addr.add,↓reduceIte] at jP)
   (try simp only [show (1:Int).toNat=1 from rfl,Nat.reduceMul,Nat.reduceEqDiff,Go.Addr.add,↓reduceIte] at jQ)
   have Z5:(1 < j9.length)=True:=eq_true (by omega)
   (try rw [show ((1:Int)).toNat=1 from rfl] at jO)
   (try rw [show 1 * 3=3 from rfl] at jO)
   (try rw [show ((1:Int)).toNat=1 from rfl] at jP)
   (try rw [show 1 * 3=3 from rfl] at jP)
   (try rw [show ((1:Int)).toNat=1 from rfl] at jQ)
   (try rw [show 1 * 3=3 from rfl] at jQ)
   replace jO:=(HB.out.cell (World.block_lt_of_cell? w _ jO)).trans jO
   replace jP:=(HB.out.cell (World.block_lt_of_cell? w _ jP)).trans jP
   replace jQ:=(HB.out.cell (World.block_lt_of_cell? w _ jQ)).trans jQ
   have jW:=am hi107_2
   have jZ:=am hl107_2
   clear hi107_2 hl107_2
   replace qi:=eq_true qi
   replace qj:=eq_true qj
   have hS0_:∀ w':World,w'.heap[j8]?=some (.cells #[.int .i64 jo, .int .i64 jr, .slice (some j5) j9.length jt] 32 (0,0))→Below w.heap.size w w'→(w'.cell? ⟨j8,0,none⟩=some (.int .i64 jo)∧w'.cell? ⟨j8,1,none⟩=some (.int .i64 jr)∧w'.cell? ⟨j8,2,none⟩=some (.slice (some j5) j9.length jt)∧w'.cell? j5=some (.int .i64 ((aY j9 0).f0))∧w'.cell? ⟨j5.block,j5.off + 1,none⟩=some (.int .i64 ((aY j9 0).f1))∧w'.cell? ⟨j5.block,j5.off + 2,none⟩=some (.slice jz ((aY j9 0).f2).length jA)∧w'.cell? ⟨j5.block,j5.off + 3,none⟩=some (.int .i64 ((aY j9 1).f0))∧w'.cell? ⟨j5.block,j5.off + 3 + 1,none⟩=some (.int .i64 ((aY j9 1).f1))∧w'.cell? ⟨j5.block,j5.off + 3 + 2,none⟩=some (.slice jB ((aY j9 1).f2).length jC)):=fun w' b_ h_=>⟨(aA b_ 0).trans rfl,(aA b_ 1).trans rfl,(aA b_ 2).trans rfl,((h_.cell (World.block_lt_of_cell? w _ hw106_0)).trans hw106_0),((h_.cell (World.block_lt_of_cell? w _ hw106_1)).trans hw106_1),((h_.cell (World.block_lt_of_cell? w _ hw106_2)).trans hw106_2),((h_.cell (World.block_lt_of_cell? w _ hw107_0)).trans hw107_0),((h_.cell (World.block_lt_of_cell? w _ hw107_1)).trans hw107_1),((h_.cell (World.block_lt_of_cell? w _ hw107_2)).trans hw107_2)⟩
   refine mR (n:=14) (S:=fun w'=>w'.cell? ⟨j8,0,none⟩=some (.int .i64 jo)∧w'.cell? ⟨j8,1,none⟩=some (.int .i64 jr)∧w'.cell? ⟨j8,2,none⟩=some (.slice (some j5) j9.length jt)∧w'.cell? j5=some (.int .i64 ((aY j9 0).f0))∧w'.cell? ⟨j5.block,j5.off + 1,none⟩=some (.int .i64 ((aY j9 0).f1))∧w'.cell? ⟨j5.block,j5.off + 2,none⟩=some (.slice jz ((aY j9 0).f2).length jA)∧w'.cell? ⟨j5.block,j5.off + 3,none⟩=some (.int .i64 ((aY j9 1).f0))∧w'.cell? ⟨j5.block,j5.off + 3 + 1,none⟩=some (.int .i64 ((aY j9 1).f1))∧w'.cell? ⟨j5.block,j5.off + 3 + 2,none⟩=some (.slice jB ((aY j9 1).f2).length jC)) (ds:=[]) (bz 14 0) (by kernel_rfl) rfl rfl (hS0_ _ ja.out HB.out) (fun hHeld=>?_);refine kE bZ.aCc bZ.TA (fun HT_ HW_=>?_)
   generalize w4.drew=Yq at ja j7 HB jV jW jL jM jN jO jP jQ hHeld ⊢
   refine pr_ 0 15 (bz 14 1) HT_ ?_
   refine pr_ 5 20 (bz 14 33) HT_ ?_
   refine aAx 1 16 (bz 14 35) HT_ HW_ hHeld ?_
   refine pr_ 2 17 (bz 14 39) HT_ ?_
   refine aAx 3 18 (bz 14 47) HT_ HW_ hHeld ?_
   refine aAx 6 21 (bz 14 111) HT_ HW_ hHeld ?_
   refine pr_ 7 22 (bz 14 239) HT_ ?_
   refine aAx 8 23 (bz 14 495) HT_ HW_ hHeld ?_
   refine vW (σ:=Value × Value × Nat × Nat) 2 (bz 14 4095) (fun s_=>[(19, .agg #[.int .i64 jK, .int .i64 js,s_.1]),(24, .agg #[.int .i64 jR, .int .i64 jv,s_.2.1]),(3, .pointer (some ⟨s_.2.2.1,0,none⟩)),(4, .pointer (some ⟨s_.2.2.2,0,none⟩))]) (fun s_ w'=>(w'.cell? ⟨j8,0,none⟩=some (.int .i64 jo)∧w'.cell? ⟨j8,1,none⟩=some (.int .i64 jr)∧w'.cell? ⟨j8,2,none⟩=some (.slice (some j5) j9.length jt)∧w'.cell? j5=some (.int .i64 ((aY j9 0).f0))∧w'.cell? ⟨j5.block,j5.off + 1,none⟩=some (.int .i64 ((aY j9 0).f1))∧w'.cell? ⟨j5.block,j5.off + 2,none⟩=some (.slice jz ((aY j9 0).f2).length jA)∧w'.cell? ⟨j5.block,j5.off + 3,none⟩=some (.int .i64 ((aY j9 1).f0))∧w'.cell? ⟨j5.block,j5.off + 3 + 1,none⟩=some (.int .i64 ((aY j9 1).f1))∧w'.cell? ⟨j5.block,j5.off + 3 + 2,none⟩=some (.slice jB ((aY j9 1).f2).length jC))∧(Kd.N k32 32 w' w.heap.size (fun k_=>(w.heap.size≤k_)∧some k_≠(s_.2.1:Value).ownBlock∧k_≠j8∧k_≠j6∧k_≠s_.2.2.1∧k_≠s_.2.2.2) s_.1 jp)∧(Kd.N k32 32 w' w.heap.size (fun k_=>(w.heap.size≤k_)∧some k_≠(s_.1:Value).ownBlock∧k_≠j8∧k_≠j6∧k_≠s_.2.2.1∧k_≠s_.2.2.2) s_.2.1 jq)∧(w'.heap[j8]?=some (.cells #[.int .i64 jo, .int .i64 jr, .slice (some j5) j9.length jt] 32 (0,0)))∧(w'.heap[j6]?=some (.cells #[.int .i64 0, .int .i64 0, .slice none 0 0] 32 (0,0)))∧(w'.heap[s_.2.2.1]?=some (.cells #[.int .i64 0, .int .i64 0, .slice none 0 0] 32 (0,0)))∧(w'.heap[s_.2.2.2]?=some (.cells #[.int .i64 0, .int .i64 0, .slice none 0 0] 32 (0,0)))∧(w.heap.size≤s_.2.2.1)∧(w.heap.size≤s_.2.2.1)∧(j8≠s_.2.2.1)∧(s_.2.2.1≠j8)∧(j6≠s_.2.2.1)∧(s_.2.2.1≠j6)∧(s_.2.2.2≠s_.2.2.1)∧(s_.2.2.1≠s_.2.2.2)∧(w.heap.size≤s_.2.2.2)∧(w.heap.size≤s_.2.2.2)∧(j8≠s_.2.2.2)∧(s_.2.2.2≠j8)∧(j6≠s_.2.2.2)∧(s_.2.2.2≠j6)∧(Below w.heap.size w w')) ?_ ?_
   rotate_left
   ·intro hJ4_9_10_11
    refine vW (σ:=Value × Value × Nat) 3 (bz 14 2047) (fun s_=>[(19, .agg #[.int .i64 jK, .int .i64 js,s_.1]),(24, .agg #[.int .i64 jR, .int .i64 jv,s_.2.1]),(3, .pointer (some ⟨s_.2.2,0,none⟩))]) (fun s_ w'=>(w'.cell? ⟨j8,0,none⟩=some (.int .i64 jo)∧w'.cell? ⟨j8,1,none⟩=some (.int .i64 jr)∧w'.cell? ⟨j8,2,none⟩=some (.slice (some j5) j9.length jt)∧w'.cell? j5=some (.int .i64 ((aY j9 0).f0))∧w'.cell? ⟨j5.block,j5.off + 1,none⟩=some (.int .i64 ((aY j9 0).f1))∧w'.cell? ⟨j5.block,j5.off + 2,none⟩=some (.slice jz ((aY j9 0).f2).length jA)∧w'.cell? ⟨j5.block,j5.off + 3,none⟩=some (.int .i64 ((aY j9 1).f0))∧w'.cell? ⟨j5.block,j5.off + 3 + 1,none⟩=some (.int .i64 ((aY j9 1).f1))∧w'.cell? ⟨j5.block,j5.off + 3 + 2,none⟩=some (.slice jB ((aY j9 1).f2).length jC))∧(Kd.N k32 32 w' w.heap.size (fun k_=>(w.heap.size≤k_)∧some k_≠(s_.2.1:Value).ownBlock∧k_≠j8∧k_≠j6∧k_≠s_.2.2) s_.1 jp)∧(Kd.N k32 32 w' w.heap.size (fun k_=>(w.heap.size≤k_)∧some k_≠(s_.1:Value).ownBlock∧k_≠j8∧k_≠j6∧k_≠s_.2.2) s_.2.1 jq)∧(w'.heap[j8]?=some (.cells #[.int .i64 jo, .int .i64 jr, .slice (some j5) j9.length jt] 32 (0,0)))∧(w'.heap[j6]?=some (.cells #[.int .i64 0, .int .i64 0, .slice none 0 0] 32 (0,0)))∧(w'.heap[s_.2.2]?=some (.cells #[.int .i64 0, .int .i64 0, .slice none 0 0] 32 (0,0)))∧(w.heap.size≤s_.2.2)∧(w.heap.size≤s_.2.2)∧(j8≠s_.2.2)∧(s_.2.2≠j8)∧(j6≠s_.2.2)∧(s_.2.2≠j6)∧(Below w.heap.size w w')) ?_ ?_
    rotate_left
    ·intro hJ4_9_10
     refine vW (σ:=Value × Value × Nat) 3 (bz 14 3071) (fun s_=>[(19, .agg #[.int .i64 jK, .int .i64 js,s_.1]),(24, .agg #[.int .i64 jR, .int .i64 jv,s_.2.1]),(4, .pointer (some ⟨s_.2.2,0,none⟩))]) (fun s_ w'=>(w'.cell? ⟨j8,0,none⟩=some (.int .i64 jo)∧w'.cell? ⟨j8,1,none⟩=some (.int .i64 jr)∧w'.cell? ⟨j8,2,none⟩=some (.slice (some j5) j9.length jt)∧w'.cell? j5=some (.int .i64 ((aY j9 0).f0))∧w'.cell? ⟨j5.block,j5.off + 1,none⟩=some (.int .i64 ((aY j9 0).f1))∧w'.cell? ⟨j5.block,j5.off + 2,none⟩=some (.slice jz ((aY j9 0).f2).length jA)∧w'.cell? ⟨j5.block,j5.off + 3,none⟩=some (.int .i64 ((aY j9 1).f0))∧w'.cell? ⟨j5.block,j5.off + 3 + 1,none⟩=some (.int .i64 ((aY j9 1).f1))∧w'.cell? ⟨j5.block,j5.off + 3 + 2,none⟩=some (.slice jB ((aY j9 1).f2).length jC))∧(Kd.N k32 32 w' w.heap.size (fun k_=>(w.heap.size≤k_)∧some k_≠(s_.2.1:Value).ownBlock∧k_≠j8∧k_≠j6∧k_≠s_.2.2) s_.1 jp)∧(Kd.N k32 32 w' w.heap.size (fun k_=>(w.heap.size≤k_)∧some k_≠(s_.1:Value).ownBlock∧k_≠j8∧k_≠j6∧k_≠s_.2.2) s_.2.1 jq)∧(w'.heap[j8]?=some (.cells #[.int .i64 jo, .int .i64 jr, .slice (some j5) j9.length jt] 32 (0,0)))∧(w'.heap[j6]?=some (.cells #[.int .i64 0, .int .i64 0, .slice none 0 0] 32 (0,0)))∧(w'.heap[s_.2.2]?=some (.cells #[.int .i64 0, .int .i64 0, .slice none 0 0] 32 (0,0)))∧(w.heap.size≤s_.2.2)∧(w.heap.size≤s_.2.2)∧(j8≠s_.2.2)∧(s_.2.2≠j8)∧(j6≠s_.2.2)∧(s_.2.2≠j6)∧(Below w.heap.size w w')) ?_ ?_
     rotate_left
     ·intro hJ4_9_11
      refine vW (σ:=Value × Nat × Nat) 3 (bz 14 3583) (fun s_=>[(19, .agg #[.int .i64 jK, .int .i64 js,s_.1]),(3, .pointer (some ⟨s_.2.1,0,none⟩)),(4, .pointer (some ⟨s_.2.2,0,none⟩))]) (fun s_ w'=>(w'.cell? ⟨j8,0,none⟩=some (.int .i64 jo)∧w'.cell? ⟨j8,1,none⟩=some (.int .i64 jr)∧w'.cell? ⟨j8,2,none⟩=some (.slice (some j5) j9.length jt)∧w'.cell? j5=some (.int .i64 ((aY j9 0).f0))∧w'.cell? ⟨j5.block,j5.off + 1,none⟩=some (.int .i64 ((aY j9 0).f1))∧w'.cell? ⟨j5.block,j5.off + 2,none⟩=some (.slice jz ((aY j9 0).f2).length jA)∧w'.cell? ⟨j5.block,j5.off + 3,none⟩=some (.int .i64 ((aY j9 1).f0))∧w'.cell? ⟨j5.block,j5.off + 3 + 1,none⟩=some (.int .i64 ((aY j9 1).f1))∧w'.cell? ⟨j5.block,j5.off + 3 + 2,none⟩=some (.slice jB ((aY j9 1).f2).length jC))∧(Kd.N k32 32 w' w.heap.size (fun k_=>(w.heap.size≤k_)∧k_≠j8∧k_≠j6∧k_≠s_.2.1∧k_≠s_.2.2) s_.1 jp)∧(w'.heap[j8]?=some (.cells #[.int .i64 jo, .int .i64 jr, .slice (some j5) j9.length jt] 32 (0,0)))∧(w'.heap[j6]?=some (.cells #[.int .i64 0, .int .i64 0, .slice none 0 0] 32 (0,0)))∧(w'.heap[s_.2.1]?=some (.cells #[.int .i64 0, .int .i64 0, .slice none 0 0] 32 (0,0)))∧(w'.heap[s_.2.2]?=some (.cells #[.int .i64 0, .int .i64 0, .slice none 0 0] 32 (0,0)))∧(w.heap.size≤s_.2.1)∧(w.heap.size≤s_.2.1)∧(j8≠s_.2.1)∧(s_.2.1≠j8)∧(j6≠s_.2.1)∧(s_.2.1≠j6)∧(s_.2.2≠s_.2.1)∧(s_.2.1≠s_.2.2)∧(w.heap.size≤s_.2.2)∧(w.heap.size≤s_.2.2)∧(j8≠s_.2.2)∧(s_.2.2≠j8)∧(j6≠s_.2.2)∧(s_.2.2≠j6)∧(Below w.heap.size w w')) ?_ ?_
      rotate_left
      ·intro hJ4_10_11
       refine vW (σ:=Value × Value) 4 (bz 14 1023) (fun s_=>[(19, .agg #[.int .i64 jK, .int .i64 js,s_.1]),(24, .agg #[.int .i64 jR, .int .i64 jv,s_.2])]) (fun s_ w'=>(w'.cell? ⟨j8,0,none⟩=some (.int .i64 jo)∧w'.cell? ⟨j8,1,none⟩=some (.int .i64 jr)∧w'.cell? ⟨j8,2,none⟩=some (.slice (some j5) j9.length jt)∧w'.cell? j5=some (.int .i64 ((aY j9 0).f0))∧w'.cell? ⟨j5.block,j5.off + 1,none⟩=some (.int .i64 ((aY j9 0).f1))∧w'.cell? ⟨j5.block,j5.off + 2,none⟩=some (.slice jz ((aY j9 0).f2).length jA)∧w'.cell? ⟨j5.block,j5.off + 3,none⟩=some (.int .i64 ((aY j9 1).f0))∧w'.cell? ⟨j5.block,j5.off + 3 + 1,none⟩=some (.int .i64 ((aY j9 1).f1))∧w'.cell? ⟨j5.block,j5.off + 3 + 2,none⟩=some (.slice jB ((aY j9 1).f2).length jC))∧(Kd.N k32 32 w' w.heap.size (fun k_=>(w.heap.size≤k_)∧some k_≠(s_.2:Value).ownBlock∧k_≠j8∧k_≠j6) s_.1 jp)∧(Kd.N k32 32 w' w.heap.size (fun k_=>(w.heap.size≤k_)∧some k_≠(s_.1:Value).ownBlock∧k_≠j8∧k_≠j6) s_.2 jq)∧(w'.heap[j8]?=some (.cells #[.int .i64 jo, .int .i64 jr, .slice (some j5) j9.length jt] 32 (0,0)))∧(w'.heap[j6]?=some (.cells #[.int .i64 0, .int .i64 0, .slice none 0 0] 32 (0,0)))∧(Below w.heap.size w w')) ?_ ?_
       rotate_left
       ·intro hJ4_9
        refine vW (σ:=Value × Nat) 4 (bz 14 1535) (fun s_=>[(19, .agg #[.int .i64 jK, .int .i64 js,s_.1]),(3, .pointer (some ⟨s_.2,0,none⟩))]) (fun s_ w'=>(w'.cell? ⟨j8,0,none⟩=some (.int .i64 jo)∧w'.cell? ⟨j8,1,none⟩=some (.int .i64 jr)∧w'.cell? ⟨j8,2,none⟩=some (.slice (some j5) j9.length jt)∧w'.cell? j5=some (.int .i64 ((aY j9 0).f0))∧w'.cell? ⟨j5.block,j5.off + 1,none⟩=some (.int .i64 ((aY j9 0).f1))∧w'.cell? ⟨j5.block,j5.off + 2,none⟩=some (.slice jz ((aY j9 0).f2).length jA)∧w'.cell? ⟨j5.block,j5.off + 3,none⟩=some (.int .i64 ((aY j9 1).f0))∧w'.cell? ⟨j5.block,j5.off + 3 + 1,none⟩=some (.int .i64 ((aY j9 1).f1))∧w'.cell? ⟨j5.block,j5.off + 3 + 2,none⟩=some (.slice jB ((aY j9 1).f2).length jC))∧(Kd.N k32 32 w' w.heap.size (fun k_=>(w.heap.size≤k_)∧k_≠j8∧k_≠j6∧k_≠s_.2) s_.1 jp)∧(w'.heap[j8]?=some (.cells #[.int .i64 jo, .int .i64 jr, .slice (some j5) j9.length jt] 32 (0,0)))∧(w'.heap[j6]?=some (.cells #[.int .i64 0, .int .i64 0, .slice none 0 0] 32 (0,0)))∧(w'.heap[s_.2]?=some (.cells #[.int .i64 0, .int .i64 0, .slice none 0 0] 32 (0,0)))∧(w.heap.size≤s_.2)∧(w.heap.size≤s_.2)∧(j8≠s_.2)∧(s_.2≠j8)∧(j6≠s_.2)∧(s_.2≠j6)∧(Below w.heap.size w w')) ?_ ?_
        rotate_left
        ·intro hJ4_10
         refine vW (σ:=Value × Nat) 4 (bz 14 2559) (fun s_=>[(19, .agg #[.int .i64 jK, .int .i64 js,s_.1]),(4, .pointer (some ⟨s_.2,0,none⟩))]) (fun s_ w'=>(w'.cell? ⟨j8,0,none⟩=some (.int .i64 jo)∧w'.cell? ⟨j8,1,none⟩=some (.int .i64 jr)∧w'.cell? ⟨j8,2,none⟩=some (.slice (some j5) j9.length jt)∧w'.cell? j5=some (.int .i64 ((aY j9 0).f0))∧w'.cell? ⟨j5.block,j5.off + 1,none⟩=some (.int .i64 ((aY j9 0).f1))∧w'.cell? ⟨j5.block,j5.off + 2,none⟩=some (.slice jz ((aY j9 0).f2).length jA)∧w'.cell? ⟨j5.block,j5.off + 3,none⟩=some (.int .i64 ((aY j9 1).f0))∧w'.cell? ⟨j5.block,j5.off + 3 + 1,none⟩=some (.int .i64 ((aY j9 1).f1))∧w'.cell? ⟨j5.block,j5.off + 3 + 2,none⟩=some (.slice jB ((aY j9 1).f2).length jC))∧(Kd.N k32 32 w' w.heap.size (fun k_=>(w.heap.size≤k_)∧k_≠j8∧k_≠j6∧k_≠s_.2) s_.1 jp)∧(w'.heap[j8]?=some (.cells #[.int .i64 jo, .int .i64 jr, .slice (some j5) j9.length jt] 32 (0,0)))∧(w'.heap[j6]?=some (.cells #[.int .i64 0, .int .i64 0, .slice none 0 0] 32 (0,0)))∧(w'.heap[s_.2]?=some (.cells #[.int .i64 0, .int .i64 0, .slice none 0 0] 32 (0,0)))∧(w.heap.size≤s_.2)∧(w.heap.size≤s_.2)∧(j8≠s_.2)∧(s_.2≠j8)∧(j6≠s_.2)∧(s_.2≠j6)∧(Below w.heap.size w w')) ?_ ?_
         rotate_left
         ·intro hJ4_11
          refine vW (σ:=Nat × Nat) 4 (bz 14 3567) (fun s_=>[(3, .pointer (some ⟨s_.1,0,none⟩)),(4, .pointer (some ⟨s_.2,0,none⟩))]) (fun s_ w'=>(w'.cell? ⟨j8,0,none⟩=some (.int .i64 jo)∧w'.cell? ⟨j8,1,none⟩=some (.int .i64 jr)∧w'.cell? ⟨j8,2,none⟩=some (.slice (some j5) j9.length jt)∧w'.cell? j5=some (.int .i64 ((aY j9 0).f0))∧w'.cell? ⟨j5.block,j5.off + 1,none⟩=some (.int .i64 ((aY j9 0).f1))∧w'.cell? ⟨j5.block,j5.off + 2,none⟩=some (.slice jz ((aY j9 0).f2).length jA)∧w'.cell? ⟨j5.block,j5.off + 3,none⟩=some (.int .i64 ((aY j9 1).f0))∧w'.cell? ⟨j5.block,j5.off + 3 + 1,none⟩=some (.int .i64 ((aY j9 1).f1))∧w'.cell? ⟨j5.block,j5.off + 3 + 2,none⟩=some (.slice jB ((aY j9 1).f2).length jC))∧(w'.heap[j8]?=some (.cells #[.int .i64 jo, .int .i64 jr, .slice (some j5) j9.length jt] 32 (0,0)))∧(w'.heap[j6]?=some (.cells #[.int .i64 0, .int .i64 0, .slice none 0 0] 32 (0,0)))∧(w'.heap[s_.1]?=some (.cells #[.int .i64 0, .int .i64 0, .slice none 0 0] 32 (0,0)))∧(w'.heap[s_.2]?=some (.cells #[.int .i64 0, .int .i64 0, .slice none 0 0] 32 (0,0)))∧(w.heap.size≤s_.1)∧(w.heap.size≤s_.1)∧(j8≠s_.1)∧(s_.1≠j8)∧(j6≠s_.1)∧(s_.1≠j6)∧(s_.2≠s_.1)∧(s_.1≠s_.2)∧(w.heap.size≤s_.2)∧(w.heap.size≤s_.2)∧(j8≠s_.2)∧(s_.2≠j8)∧(j6≠s_.2)∧(s_.2≠j6)∧(Below w.heap.size w w')) ?_ ?_
          rotate_left
          ·intro hJ10_11
           refine vW (σ:=Value) 5 (bz 14 511) (fun s_=>[(19, .agg #[.int .i64 jK, .int .i64 js,s_])]) (fun s_ w'=>(w'.cell? ⟨j8,0,none⟩=some (.int .i64 jo)∧w'.cell? ⟨j8,1,none⟩=some (.int .i64 jr)∧w'.cell? ⟨j8,2,none⟩=some (.slice (some j5) j9.length jt)∧w'.cell? j5=some (.int .i64 ((aY j9 0).f0))∧w'.cell? ⟨j5.block,j5.off + 1,none⟩=some (.int .i64 ((aY j9 0).f1))∧w'.cell? ⟨j5.block,j5.off + 2,none⟩=some (.slice jz ((aY j9 0).f2).length jA)∧w'.cell? ⟨j5.block,j5.off + 3,none⟩=some (.int .i64 ((aY j9 1).f0))∧w'.cell? ⟨j5.block,j5.off + 3 + 1,none⟩=some (.int .i64 ((aY j9 1).f1))∧w'.cell? ⟨j5.block,j5.off + 3 + 2,none⟩=some (.slice jB ((aY j9 1).f2).length jC))∧(Kd.N k32 32 w' w.heap.size (fun k_=>(w.heap.size≤k_)∧k_≠j8∧k_≠j6) s_ jp)∧(w'.heap[j8]?=some (.cells #[.int .i64 jo, .int .i64 jr, .slice (some j5) j9.length jt] 32 (0,0)))∧(w'.heap[j6]?=some (.cells #[.int .i64 0, .int .i64 0, .slice none 0 0] 32 (0,0)))∧(Below w.heap.size w w')) ?_ ?_
           rotate_left
           ·intro hJ4
            refine vW (σ:=Nat) 5 (bz 14 1519) (fun s_=>[(3, .pointer (some ⟨s_,0,none⟩))]) (fun s_ w'=>(w'.cell? ⟨j8,0,none⟩=some (.int .i64 jo)∧w'.cell? ⟨j8,1,none⟩=some (.int .i64 jr)∧w'.cell? ⟨j8,2,none⟩=some (.slice (some j5) j9.length jt)∧w'.cell? j5=some (.int .i64 ((aY j9 0).f0))∧w'.cell? ⟨j5.block,j5.off + 1,none⟩=some (.int .i64 ((aY j9 0).f1))∧w'.cell? ⟨j5.block,j5.off + 2,none⟩=some (.slice jz ((aY j9 0).f2).length jA)∧w'.cell? ⟨j5.block,j5.off + 3,none⟩=some (.int .i64 ((aY j9 1).f0))∧w'.cell? ⟨j5.block,j5.off + 3 + 1,none⟩=some (.int .i64 ((aY j9 1).f1))∧w'.cell? ⟨j5.block,j5.off + 3 + 2,none⟩=some (.slice jB ((aY j9 1).f2).length jC))∧(w'.heap[j8]?=some (.cells #[.int .i64 jo, .int .i64 jr, .slice (some j5) j9.length jt] 32 (0,0)))∧(w'.heap[j6]?=some (.cells #[.int .i64 0, .int .i64 0, .slice none 0 0] 32 (0,0)))∧(w'.heap[s_]?=some (.cells #[.int .i64 0, .int .i64 0, .slice none 0 0] 32 (0,0)))∧(w.heap.size≤s_)∧(w.heap.size≤s_)∧(j8≠s_)∧(s_≠j8)∧(j6≠s_)∧(s_≠j6)∧(Below w.heap.size w w')) ?_ ?_
            rotate_left
            ·intro hJ10
             refine vW (σ:=Nat) 5 (bz 14 2543) (fun s_=>[(4, .pointer (some ⟨s_,0,none⟩))]) (fun s_ w'=>(w'.cell? ⟨j8,0,none⟩=some (.int .i64 jo)∧w'.cell? ⟨j8,1,none⟩=some (.int .i64 jr)∧w'.cell? ⟨j8,2,none⟩=some (.slice (some j5) j9.length jt)∧w'.cell? j5=some (.int .i64 ((aY j9 0).f0))∧w'.cell? ⟨j5.block,j5.off + 1,none⟩=some (.int .i64 ((aY j9 0).f1))∧w'.cell? ⟨j5.block,j5.off + 2,none⟩=some (.slice jz ((aY j9 0).f2).length jA)∧w'.cell? ⟨j5.block,j5.off + 3,none⟩=some (.int .i64 ((aY j9 1).f0))∧w'.cell? ⟨j5.block,j5.off + 3 + 1,none⟩=some (.int .i64 ((aY j9 1).f1))∧w'.cell? ⟨j5.block,j5.off + 3 + 2,none⟩=some (.slice jB ((aY j9 1).f2).length jC))∧(w'.heap[j8]?=some (.cells #[.int .i64 jo, .int .i64 jr, .slice (some j5) j9.length jt] 32 (0,0)))∧(w'.heap[j6]?=some (.cells #[.int .i64 0, .int .i64 0, .slice none 0 0] 32 (0,0)))∧(w'.heap[s_]?=some (.cells #[.int .i64 0, .int .i64 0, .slice none 0 0] 32 (0,0)))∧(w.heap.size≤s_)∧(w.heap.size≤s_)∧(j8≠s_)∧(s_≠j8)∧(j6≠s_)∧(s_≠j6)∧(Below w.heap.size w w')) ?_ ?_
             rotate_left
             ·intro hJ11
              refine WV (i:=4) (j:=10) (k:=11) (Ni:=some 19) (Nj:=some 3) (Nk:=some 4) (bz 14 511) (bz 14 1519) (bz 14 2543) rfl rfl rfl rfl rfl rfl (MW HT_.out (by kernel_rfl)) (by decide) (by decide) (by decide) (fun K hK=>?_) (fun K hK=>?_) (fun K hK=>?_)
              ·skip
               refine kU Try.func78 (by kernel_rfl) rfl #[.agg #[.int .i64 ((aY j9 0).f0), .int .i64 ((aY j9 0).f1), .slice jz ((aY j9 0).f2).length jA]] (by rfl) rfl rfl nX ?_
               with_reducible refine (ih k (by omega) ((aY j9 0).f0) ((aY j9 0).f1) _ _ ((aY j9 0).f2) jK js jp _ (aC_ (Kd.aV jV.out HB.out)) jY.out A9.out).mono ?_
               rintro e Z6 ⟨jw,rfl,ho0,hb⟩
               refine ⟨_,rfl,?_⟩
               have jn:=am (Kd.dH (Kd.aD (ok':=fun k_=>(w.heap.size≤k_)∧k_≠j8∧k_≠j6) ho0 (fun k_ hk_=>⟨(Nat.le_trans (aJ mM) hk_),(fG ja.out k_ hk_),(fG j7.out k_ hk_)⟩)) (aJ mM))
               replace ja:=bbP ja hb
               replace j7:=bbP j7 hb
               replace HB:=am (aG mM hb)
               (try clear hb)
               (try clear hb2)
               (try clear hk)
               (try clear hi)
               (try clear ho0)
               refine hK.out _ _ (hS0_ _ ja.out HB.out) (fun hHeld=>?_)
               clear hK K
               refine fB (a':=?_) ?_ ?_
               rotate_left
               ·show Act.put _ (some 19) _=_
                simp only [Act.put,List.setIfInBounds_toArray,List.set_cons_zero,List.set_cons_succ,dS,dV]
                rfl
               exact fB nm_ (hJ4 (jw) _ ⟨hHeld,(aN_ jn.out),(aG_ ja.out),(aG_ j7.out),mM⟩)
              ·skip
               refine mD ?hg (N:=3) ?hd (cs:=#[.int .i64 0, .int .i64 0, .slice none 0 0]) (t:=32) ?hr ?_;(case hd=>rfl);(case hg=>rfl);(case hr=>first|(go_simp;done)|(go_simp;rfl))
               intro j3 hg Z6 hbox hb
               have jb:=am (hbox)
               have ju:=am ((by rw [hg];exact (aJ mM):w.heap.size≤j3))
               have GE111:=am ((by rw [hg];exact (aJ mM):w.heap.size≤j3))
               replace HB:=am (aG mM hb)
               have je:=am ((by rw [hg];exact Nat.ne_of_lt (fO ja.out):j8≠j3))
               have jl:=am ((by rw [hg];exact Nat.ne_of_gt (fO ja.out):j3≠j8))
               replace ja:=bbP ja hb
               have jc:=am ((by rw [hg];exact Nat.ne_of_lt (fO j7.out):j6≠j3))
               have jj:=am ((by rw [hg];exact Nat.ne_of_gt (fO j7.out):j3≠j6))
               replace j7:=bbP j7 hb
               clear hb hbox hg
               refine hK.out _ _ (hS0_ _ ja.out HB.out) (fun hHeld=>?_)
               clear hK K
               refine fB (a':=?_) ?_ ?_
               rotate_left
               ·show Act.put _ (some 3) _=_
                simp only [Act.put,List.setIfInBounds_toArray,List.set_cons_zero,List.set_cons_succ,dS,dV]
                rfl
               exact fB nm_ (hJ10 (j3) _ ⟨hHeld,(aG_ ja.out),(aG_ j7.out),(aG_ jb.out),ju.out,GE111.out,je.out,jl.out,jc.out,jj.out,oV⟩)
              ·skip
               refine mD ?hg (N:=4) ?hd (cs:=#[.int .i64 0, .int .i64 0, .slice none 0 0]) (t:=32) ?hr ?_;(case hd=>rfl);(case hg=>rfl);(case hr=>first|(go_simp;done)|(go_simp;rfl))
               intro j4 hg Z6 hbox hb
               have jd:=am (hbox)
               have jx:=am ((by rw [hg];exact (aJ mM):w.heap.size≤j4))
               have GE112:=am ((by rw [hg];exact (aJ mM):w.heap.size≤j4))
               replace HB:=am (aG mM hb)
               have jg:=am ((by rw [hg];exact Nat.ne_of_lt (fO ja.out):j8≠j4))
               have jm:=am ((by rw [hg];exact Nat.ne_of_gt (fO ja.out):j4≠j8))
               replace ja:=bbP ja hb
               have jf:=am ((by rw [hg];exact Nat.ne_of_lt (fO j7.out):j6≠j4))
               have jk:=am ((by rw [hg];exact Nat.ne_of_gt (fO j7.out):j4≠j6))
               replace j7:=bbP j7 hb
               clear hb hbox hg
               refine hK.out _ _ (hS0_ _ ja.out HB.out) (fun hHeld=>?_)
               clear hK K
               refine fB (a':=?_) ?_ ?_
               rotate_left
               ·show Act.put _ (some 4) _=_
                simp only [Act.put,List.setIfInBounds_toArray,List.set_cons_zero,List.set_cons_succ,dS,dV]
                rfl
               exact fB nm_ (hJ11 (j4) _ ⟨hHeld,(aG_ ja.out),(aG_ j7.out),(aG_ jd.out),jx.out,GE112.out,jg.out,jm.out,jf.out,jk.out,oW⟩)
             ·skip
              rintro j4 q6 ⟨hS_,h0_,h1_,h2_,h3_,h4_,h5_,h6_,h7_,h8_,h9_⟩
              replace ja:Aside0 (q6.heap[j8]?=some (.cells #[.int .i64 jo, .int .i64 jr, .slice (some j5) j9.length jt] 32 (0,0))):=⟨h0_⟩
              replace j7:Aside0 (q6.heap[j6]?=some (.cells #[.int .i64 0, .int .i64 0, .slice none 0 0] 32 (0,0))):=⟨h1_⟩
              have jd:Aside0 (q6.heap[j4]?=some (.cells #[.int .i64 0, .int .i64 0, .slice none 0 0] 32 (0,0))):=⟨h2_⟩
              have jx:Aside0 (w.heap.size≤j4):=⟨h3_⟩
              have GE112:Aside0 (w.heap.size≤j4):=⟨h4_⟩
              have jg:Aside0 (j8≠j4):=⟨h5_⟩
              have jm:Aside0 (j4≠j8):=⟨h6_⟩
              have jf:Aside0 (j6≠j4):=⟨h7_⟩
              have jk:Aside0 (j4≠j6):=⟨h8_⟩
              replace HB:Aside0 (Below w.heap.size w q6):=⟨h9_⟩
              clear h0_ h1_ h2_ h3_ h4_ h5_ h6_ h7_ h8_ h9_
              have hHeld:=hS0_ _ ja.out HB.out
              refine fB (a':=?_) ?_ ?_
              rotate_left
              ·simp only [nD,Act.put,List.setIfInBounds_toArray,List.set_cons_zero,List.set_cons_succ]
               rfl
              refine SA (i:=4) (j:=10) (Ni:=some 19) (Nj:=some 3) (bz 14 2559) (bz 14 3567) rfl rfl rfl rfl (vN HT_.out (by kernel_rfl)) (by decide) (by decide) (fun K hK=>?_) (fun K hK=>?_)
              ·skip
               refine kU Try.func78 (by kernel_rfl) rfl #[.agg #[.int .i64 ((aY j9 0).f0), .int .i64 ((aY j9 0).f1), .slice jz ((aY j9 0).f2).length jA]] (by rfl) rfl rfl nX ?_
               with_reducible refine (ih k (by omega) ((aY j9 0).f0) ((aY j9 0).f1) _ _ ((aY j9 0).f2) jK js jp _ (aC_ (Kd.aV jV.out HB.out)) jY.out A9.out).mono ?_
               rintro e jU ⟨jw,rfl,ho0,hb⟩
               refine ⟨_,rfl,?_⟩
               have jn:=am (Kd.dH (Kd.aD (ok':=fun k_=>(w.heap.size≤k_)∧k_≠j8∧k_≠j6∧k_≠j4) ho0 (fun k_ hk_=>⟨(Nat.le_trans (aJ oW) hk_),(fG ja.out k_ hk_),(fG j7.out k_ hk_),(fG jd.out k_ hk_)⟩)) (aJ oW))
               replace ja:=bbP ja hb
               replace j7:=bbP j7 hb
               replace jd:=bbP jd hb
               replace HB:=am (aG oW hb)
               (try clear hb)
               (try clear hb2)
               (try clear hk)
               (try clear hi)
               (try clear ho0)
               refine hK.out _ _ (hS0_ _ ja.out HB.out) (fun hHeld=>?_)
               clear hK K
               refine fB (a':=?_) ?_ ?_
               rotate_left
               ·show Act.put _ (some 19) _=_
                simp only [Act.put,List.setIfInBounds_toArray,List.set_cons_zero,List.set_cons_succ,dS,dV]
                rfl
               exact fB nm_ (hJ4_11 (jw,j4) _ ⟨hHeld,(aN_ jn.out),(aG_ ja.out),(aG_ j7.out),(aG_ jd.out),jx.out,GE112.out,jg.out,jm.out,jf.out,jk.out,oW⟩)
              ·skip
               refine mD ?hg (N:=3) ?hd (cs:=#[.int .i64 0, .int .i64 0, .slice none 0 0]) (t:=32) ?hr ?_;(case hd=>rfl);(case hg=>rfl);(case hr=>first|(go_simp;done)|(go_simp;rfl))
               intro j3 hg jU hbox hb
               have jb:=am (hbox)
               have ju:=am ((by rw [hg];exact (aJ oW):w.heap.size≤j3))
               have GE111:=am ((by rw [hg];exact (aJ oW):w.heap.size≤j3))
               replace HB:=am (aG oW hb)
               have je:=am ((by rw [hg];exact Nat.ne_of_lt (fO ja.out):j8≠j3))
               have jl:=am ((by rw [hg];exact Nat.ne_of_gt (fO ja.out):j3≠j8))
               replace ja:=bbP ja hb
               have jc:=am ((by rw [hg];exact Nat.ne_of_lt (fO j7.out):j6≠j3))
               have jj:=am ((by rw [hg];exact Nat.ne_of_gt (fO j7.out):j3≠j6))
               replace j7:=bbP j7 hb
               have jh:=am ((by rw [hg];exact Nat.ne_of_lt (fO jd.out):j4≠j3))
               have ji:=am ((by rw [hg];exact Nat.ne_of_gt (fO jd.out):j3≠j4))
               replace jd:=bbP jd hb
               clear hb hbox hg
               refine hK.out _ _ (hS0_ _ ja.out HB.out) (fun hHeld=>?_)
               clear hK K
               refine fB (a':=?_) ?_ ?_
               rotate_left
               ·show Act.put _ (some 3) _=_
                simp only [Act.put,List.setIfInBounds_toArray,List.set_cons_zero,List.set_cons_succ,dS,dV]
                rfl
               exact fB nm_ (hJ10_11 (j3,j4) _ ⟨hHeld,(aG_ ja.out),(aG_ j7.out),(aG_ jb.out),(aG_ jd.out),ju.out,GE111.out,je.out,jl.out,jc.out,jj.out,jh.out,ji.out,jx.out,GE112.out,jg.out,jm.out,jf.out,jk.out,NC⟩)
            ·skip
             rintro j3 q6 ⟨hS_,h0_,h1_,h2_,h3_,h4_,h5_,h6_,h7_,h8_,h9_⟩
             replace ja:Aside0 (q6.heap[j8]?=some (.cells #[.int .i64 jo, .int .i64 jr, .slice (some j5) j9.length jt] 32 (0,0))):=⟨h0_⟩
             replace j7:Aside0 (q6.heap[j6]?=some (.cells #[.int .i64 0, .int .i64 0, .slice none 0 0] 32 (0,0))):=⟨h1_⟩
             have jb:Aside0 (q6.heap[j3]?=some (.cells #[.int .i64 0, .int .i64 0, .slice none 0 0] 32 (0,0))):=⟨h2_⟩
             have ju:Aside0 (w.heap.size≤j3):=⟨h3_⟩
             have GE111:Aside0 (w.heap.size≤j3):=⟨h4_⟩
             have je:Aside0 (j8≠j3):=⟨h5_⟩
             have jl:Aside0 (j3≠j8):=⟨h6_⟩
             have jc:Aside0 (j6≠j3):=⟨h7_⟩
             have jj:Aside0 (j3≠j6):=⟨h8_⟩
             replace HB:Aside0 (Below w.heap.size w q6):=⟨h9_⟩
             clear h0_ h1_ h2_ h3_ h4_ h5_ h6_ h7_ h8_ h9_
             have hHeld:=hS0_ _ ja.out HB.out
             refine fB (a':=?_) ?_ ?_
             rotate_left
             ·simp only [nD,Act.put,List.setIfInBounds_toArray,List.set_cons_zero,List.set_cons_succ]
              rfl
             refine SA (i:=4) (j:=11) (Ni:=some 19) (Nj:=some 4) (bz 14 1535) (bz 14 3567) rfl rfl rfl rfl (vN HT_.out (by kernel_rfl)) (by decide) (by decide) (fun K hK=>?_) (fun K hK=>?_)
             ·skip
              refine kU Try.func78 (by kernel_rfl) rfl #[.agg #[.int .i64 ((aY j9 0).f0), .int .i64 ((aY j9 0).f1), .slice jz ((aY j9 0).f2).length jA]] (by rfl) rfl rfl nX ?_
              with_reducible refine (ih k (by omega) ((aY j9 0).f0) ((aY j9 0).f1) _ _ ((aY j9 0).f2) jK js jp _ (aC_ (Kd.aV jV.out HB.out)) jY.out A9.out).mono ?_
              rintro e jU ⟨jw,rfl,ho0,hb⟩
              refine ⟨_,rfl,?_⟩
              have jn:=am (Kd.dH (Kd.aD (ok':=fun k_=>(w.heap.size≤k_)∧k_≠j8∧k_≠j6∧k_≠j3) ho0 (fun k_ hk_=>⟨(Nat.le_trans (aJ oV) hk_),(fG ja.out k_ hk_),(fG j7.out k_ hk_),(fG jb.out k_ hk_)⟩)) (aJ oV))
              replace ja:=bbP ja hb
              replace j7:=bbP j7 hb
              replace jb:=bbP jb hb
              replace HB:=am (aG oV hb)
              (try clear hb)
              (try clear hb2)
              (try clear hk)
              (try clear hi)
              (try clear ho0)
              refine hK.out _ _ (hS0_ _ ja.out HB.out) (fun hHeld=>?_)
              clear hK K
              refine fB (a':=?_) ?_ ?_
              rotate_left
              ·show Act.put _ (some 19) _=_
               simp only [Act.put,List.setIfInBounds_toArray,List.set_cons_zero,List.set_cons_succ,dS,dV]
               rfl
              exact fB nm_ (hJ4_10 (jw,j3) _ ⟨hHeld,(aN_ jn.out),(aG_ ja.out),(aG_ j7.out),(aG_ jb.out),ju.out,GE111.out,je.out,jl.out,jc.out,jj.out,oV⟩)
             ·skip
              refine mD ?hg (N:=4) ?hd (cs:=#[.int .i64 0, .int .i64 0, .slice none 0 0]) (t:=32) ?hr ?_;(case hd=>rfl);(case hg=>rfl);(case hr=>first|(go_simp;done)|(go_simp;rfl))
              intro j4 hg jU hbox hb
              have jd:=am (hbox)
              have jx:=am ((by rw [hg];exact (aJ oV):w.heap.size≤j4))
              have GE112:=am ((by rw [hg];exact (aJ oV):w.heap.size≤j4))
              replace HB:=am (aG oV hb)
              have jg:=am ((by rw [hg];exact Nat.ne_of_lt (fO ja.out):j8≠j4))
              have jm:=am ((by rw [hg];exact Nat.ne_of_gt (fO ja.out):j4≠j8))
              replace ja:=bbP ja hb
              have jf:=am ((by rw [hg];exact Nat.ne_of_lt (fO j7.out):j6≠j4))
              have jk:=am ((by rw [hg];exact Nat.ne_of_gt (fO j7.out):j4≠j6))
              replace j7:=bbP j7 hb
              have ji:=am ((by rw [hg];exact Nat.ne_of_lt (fO jb.out):j3≠j4))
              have jh:=am ((by rw [hg];exact Nat.ne_of_gt (fO jb.out):j4≠j3))
              replace jb:=bbP jb hb
              clear hb hbox hg
              refine hK.out _ _ (hS0_ _ ja.out HB.out) (fun hHeld=>?_)
              clear hK K
              refine fB (a':=?_) ?_ ?_
              rotate_left
              ·show Act.put _ (some 4) _=_
               simp only [Act.put,List.setIfInBounds_toArray,List.set_cons_zero,List.set_cons_succ,dS,dV]
               rfl
              exact fB nm_ (hJ10_11 (j3,j4) _ ⟨hHeld,(aG_ ja.out),(aG_ j7.out),(aG_ jb.out),(aG_ jd.out),ju.out,GE111.out,je.out,jl.out,jc.out,jj.out,jh.out,ji.out,jx.out,GE112.out,jg.out,jm.out,jf.out,jk.out,rA⟩)
           ·skip
            rintro jw q6 ⟨hS_,h0_,h1_,h2_,h3_⟩
            have jn:Aside0 (Kd.N k32 32 q6 w.heap.size (fun k_=>(w.heap.size≤k_)∧k_≠j8∧k_≠j6) jw jp):=⟨h0_⟩
            replace ja:Aside0 (q6.heap[j8]?=some (.cells #[.int .i64 jo, .int .i64 jr, .slice (some j5) j9.length jt] 32 (0,0))):=⟨h1_⟩
            replace j7:Aside0 (q6.heap[j6]?=some (.cells #[.int .i64 0, .int .i64 0, .slice none 0 0] 32 (0,0))):=⟨h2_⟩
            replace HB:Aside0 (Below w.heap.size w q6):=⟨h3_⟩
            clear h0_ h1_ h2_ h3_
            have hHeld:=hS0_ _ ja.out HB.out
            refine fB (a':=?_) ?_ ?_
            rotate_left
            ·simp only [nD,Act.put,List.setIfInBounds_toArray,List.set_cons_zero,List.set_cons_succ]
             rfl
            refine WV (i:=9) (j:=10) (k:=11) (Ni:=some 24) (Nj:=some 3) (Nk:=some 4) (bz 14 1023) (bz 14 1535) (bz 14 2559) rfl rfl rfl rfl rfl rfl (MW HT_.out (by kernel_rfl)) (by decide) (by decide) (by decide) (fun K hK=>?_) (fun K hK=>?_) (fun K hK=>?_)
            ·skip
             refine kU Try.func78 (by kernel_rfl) rfl #[.agg #[.int .i64 ((aY j9 1).f0), .int .i64 ((aY j9 1).f1), .slice jB ((aY j9 1).f2).length jC]] (by rfl) rfl rfl nX ?_
             with_reducible refine (ih k (by omega) ((aY j9 1).f0) ((aY j9 1).f1) _ _ ((aY j9 1).f2) jR jv jq _ (aC_ (Kd.aV jW.out HB.out)) jZ.out qW.out).mono ?_
             rintro e jU ⟨jJ,rfl,ho0,hb⟩
             refine ⟨_,rfl,?_⟩
             have jy:=am (Kd.dH (Kd.aD (ok':=fun k_=>(w.heap.size≤k_)∧some k_≠(jw:Value).ownBlock∧k_≠j8∧k_≠j6) ho0 (fun k_ hk_=>⟨(Nat.le_trans (aJ mM) hk_),(Kd.fresh' (Kd.iH (aN_ jn.out)) k_ hk_),(fG ja.out k_ hk_),(fG j7.out k_ hk_)⟩)) (aJ mM))
             replace jn:=am (Kd.fM (aN_ jn.out) (by first|exact Kd.dL ho0|exact Kd.dL (Kd.R_N ho0)) hb)
             replace ja:=bbP ja hb
             replace j7:=bbP j7 hb
             replace HB:=am (aG mM hb)
             (try clear hb)
             (try clear hb2)
             (try clear hk)
             (try clear hi)
             (try clear ho0)
             refine hK.out _ _ (hS0_ _ ja.out HB.out) (fun hHeld=>?_)
             clear hK K
             refine fB (a':=?_) ?_ ?_
             rotate_left
             ·show Act.put _ (some 24) _=_
              simp only [Act.put,List.setIfInBounds_toArray,List.set_cons_zero,List.set_cons_succ,dS,dV]
              rfl
             exact fB nm_ (hJ4_9 (jw,jJ) _ ⟨hHeld,(eO (Kd.aD jn.out (fun _ hk=>⟨hk.1.1,⟨hk.2,⟨hk.1.2.1,hk.1.2.2⟩⟩⟩))),(aN_ jy.out),(aG_ ja.out),(aG_ j7.out),mM⟩)
            ·skip
             refine mD ?hg (N:=3) ?hd (cs:=#[.int .i64 0, .int .i64 0, .slice none 0 0]) (t:=32) ?hr ?_;(case hd=>rfl);(case hg=>rfl);(case hr=>first|(go_simp;done)|(go_simp;rfl))
             intro j3 hg jU hbox hb
             replace jn:=am (Kd.dG (Kd.fC (aN_ jn.out) j3 (Nat.le_of_eq hg.symm)) hb)
             have jb:=am (hbox)
             have ju:=am ((by rw [hg];exact (aJ mM):w.heap.size≤j3))
             have GE111:=am ((by rw [hg];exact (aJ mM):w.heap.size≤j3))
             replace HB:=am (aG mM hb)
             have je:=am ((by rw [hg];exact Nat.ne_of_lt (fO ja.out):j8≠j3))
             have jl:=am ((by rw [hg];exact Nat.ne_of_gt (fO ja.out):j3≠j8))
             replace ja:=bbP ja hb
             have jc:=am ((by rw [hg];exact Nat.ne_of_lt (fO j7.out):j6≠j3))
             have jj:=am ((by rw [hg];exact Nat.ne_of_gt (fO j7.out):j3≠j6))
             replace j7:=bbP j7 hb
             clear hb hbox hg
             refine hK.out _ _ (hS0_ _ ja.out HB.out) (fun hHeld=>?_)
             clear hK K
             refine fB (a':=?_) ?_ ?_
             rotate_left
             ·show Act.put _ (some 3) _=_
              simp only [Act.put,List.setIfInBounds_toArray,List.set_cons_zero,List.set_cons_succ,dS,dV]
              rfl
             exact fB nm_ (hJ4_10 (jw,j3) _ ⟨hHeld,(eO (Kd.aD jn.out (fun _ hk=>⟨hk.1.1,⟨hk.1.2.1,⟨hk.1.2.2,hk.2⟩⟩⟩))),(aG_ ja.out),(aG_ j7.out),(aG_ jb.out),ju.out,GE111.out,je.out,jl.out,jc.out,jj.out,oV⟩)
            ·skip
             refine mD ?hg (N:=4) ?hd (cs:=#[.int .i64 0, .int .i64 0, .slice none 0 0]) (t:=32) ?hr ?_;(case hd=>rfl);(case hg=>rfl);(case hr=>first|(go_simp;done)|(go_simp;rfl))
             intro j4 hg jU hbox hb
             replace jn:=am (Kd.dG (Kd.fC (aN_ jn.out) j4 (Nat.le_of_eq hg.symm)) hb)
             have jd:=am (hbox)
             have jx:=am ((by rw [hg];exact (aJ mM):w.heap.size≤j4))
             have GE112:=am ((by rw [hg];exact (aJ mM):w.heap.size≤j4))
             replace HB:=am (aG mM hb)
             have jg:=am ((by rw [hg];exact Nat.ne_of_lt (fO ja.out):j8≠j4))
             have jm:=am ((by rw [hg];exact Nat.ne_of_gt (fO ja.out):j4≠j8))
             replace ja:=bbP ja hb
             have jf:=am ((by rw [hg];exact Nat.ne_of_lt (fO j7.out):j6≠j4))
             have jk:=am ((by rw [hg];exact Nat.ne_of_gt (fO j7.out):j4≠j6))
             replace j7:=bbP j7 hb
             clear hb hbox hg
             refine hK.out _ _ (hS0_ _ ja.out HB.out) (fun hHeld=>?_)
             clear hK K
             refine fB (a':=?_) ?_ ?_
             rotate_left
             ·show Act.put _ (some 4) _=_
              simp only [Act.put,List.setIfInBounds_toArray,List.set_cons_zero,List.set_cons_succ,dS,dV]
              rfl
             exact fB nm_ (hJ4_11 (jw,j4) _ ⟨hHeld,(eO (Kd.aD jn.out (fun _ hk=>⟨hk.1.1,⟨hk.1.2.1,⟨hk.1.2.2,hk.2⟩⟩⟩))),(aG_ ja.out),(aG_ j7.out),(aG_ jd.out),jx.out,GE112.out,jg.out,jm.out,jf.out,jk.out,oW⟩)
          ·skip
           rintro ⟨j3,j4⟩ jU ⟨hS_,h0_,h1_,h2_,h3_,h4_,h5_,h6_,h7_,h8_,h9_,h10_,h11_,h12_,h13_,h14_,h15_,h16_,h17_,h18_⟩
           replace ja:Aside0 (jU.heap[j8]?=some (.cells #[.int .i64 jo, .int .i64 jr, .slice (some j5) j9.length jt] 32 (0,0))):=⟨h0_⟩
           replace j7:Aside0 (jU.heap[j6]?=some (.cells #[.int .i64 0, .int .i64 0, .slice none 0 0] 32 (0,0))):=⟨h1_⟩
           have jb:Aside0 (jU.heap[j3]?=some (.cells #[.int .i64 0, .int .i64 0, .slice none 0 0] 32 (0,0))):=⟨h2_⟩
           have jd:Aside0 (jU.heap[j4]?=some (.cells #[.int .i64 0, .int .i64 0, .slice none 0 0] 32 (0,0))):=⟨h3_⟩
           have ju:Aside0 (w.heap.size≤j3):=⟨h4_⟩
           have GE111:Aside0 (w.heap.size≤j3):=⟨h5_⟩
           have je:Aside0 (j8≠j3):=⟨h6_⟩
           have jl:Aside0 (j3≠j8):=⟨h7_⟩
           have jc:Aside0 (j6≠j3):=⟨h8_⟩
           have jj:Aside0 (j3≠j6):=⟨h9_⟩
           have jh:Aside0 (j4≠j3):=⟨h10_⟩
           have ji:Aside0 (j3≠j4):=⟨h11_⟩
           have jx:Aside0 (w.heap.size≤j4):=⟨h12_⟩
           have GE112:Aside0 (w.heap.size≤j4):=⟨h13_⟩
           have jg:Aside0 (j8≠j4):=⟨h14_⟩
           have jm:Aside0 (j4≠j8):=⟨h15_⟩
           have jf:Aside0 (j6≠j4):=⟨h16_⟩
           have jk:Aside0 (j4≠j6):=⟨h17_⟩
           replace HB:Aside0 (Below w.heap.size w jU):=⟨h18_⟩
           clear h0_ h1_ h2_ h3_ h4_ h5_ h6_ h7_ h8_ h9_ h10_ h11_ h12_ h13_ h14_ h15_ h16_ h17_ h18_
           have hHeld:=hS0_ _ ja.out HB.out
           refine fB (a':=?_) ?_ ?_
           rotate_left
           ·simp only [nD,Act.put,List.setIfInBounds_toArray,List.set_cons_zero,List.set_cons_succ]
            rfl
           refine lH (i:=4) (N:=some 19) (bz 14 3583) rfl rfl (gG HT_.out (by kernel_rfl)) (by decide) (fun K hK=>?_)
           refine kU Try.func78 (by kernel_rfl) rfl #[.agg #[.int .i64 ((aY j9 0).f0), .int .i64 ((aY j9 0).f1), .slice jz ((aY j9 0).f2).length jA]] (by rfl) rfl rfl nX ?_
           with_reducible refine (ih k (by omega) ((aY j9 0).f0) ((aY j9 0).f1) _ _ ((aY j9 0).f2) jK js jp _ (aC_ (Kd.aV jV.out HB.out)) jY.out A9.out).mono ?_
           rintro e jX ⟨jw,rfl,ho0,hb⟩
           refine ⟨_,rfl,?_⟩
           have jn:=am (Kd.dH (Kd.aD (ok':=fun k_=>(w.heap.size≤k_)∧k_≠j8∧k_≠j6∧k_≠j3∧k_≠j4) ho0 (fun k_ hk_=>⟨(Nat.le_trans (aJ rA) hk_),(fG ja.out k_ hk_),(fG j7.out k_ hk_),(fG jb.out k_ hk_),(fG jd.out k_ hk_)⟩)) (aJ rA))
           replace ja:=bbP ja hb
           replace j7:=bbP j7 hb
           replace jb:=bbP jb hb
           replace jd:=bbP jd hb
           replace HB:=am (aG rA hb)
           (try clear hb)
           (try clear hb2)
           (try clear hk)
           (try clear hi)
           (try clear ho0)
           refine hK.out _ _ (hS0_ _ ja.out HB.out) (fun hHeld=>?_)
           clear hK K
           refine fB (a':=?_) ?_ ?_
           rotate_left
           ·show Act.put _ (some 19) _=_
            simp only [Act.put,List.setIfInBounds_toArray,List.set_cons_zero,List.set_cons_succ,dS,dV]
            rfl
           exact fB nm_ (hJ4_10_11 (jw,j3,j4) _ ⟨hHeld,(aN_ jn.out),(aG_ ja.out),(aG_ j7.out),(aG_ jb.out),(aG_ jd.out),ju.out,GE111.out,je.out,jl.out,jc.out,jj.out,jh.out,ji.out,jx.out,GE112.out,jg.out,jm.out,jf.out,jk.out,rA⟩)
         ·skip
          rintro ⟨jw,j4⟩ jU ⟨hS_,h0_,h1_,h2_,h3_,h4_,h5_,h6_,h7_,h8_,h9_,h10_⟩
          have jn:Aside0 (Kd.N k32 32 jU w.heap.size (fun k_=>(w.heap.size≤k_)∧k_≠j8∧k_≠j6∧k_≠j4) jw jp):=⟨h0_⟩
          replace ja:Aside0 (jU.heap[j8]?=some (.cells #[.int .i64 jo, .int .i64 jr, .slice (some j5) j9.length jt] 32 (0,0))):=⟨h1_⟩
          replace j7:Aside0 (jU.heap[j6]?=some (.cells #[.int .i64 0, .int .i64 0, .slice none 0 0] 32 (0,0))):=⟨h2_⟩
          have jd:Aside0 (jU.heap[j4]?=some (.cells #[.int .i64 0, .int .i64 0, .slice none 0 0] 32 (0,0))):=⟨h3_⟩
          have jx:Aside0 (w.heap.size≤j4):=⟨h4_⟩
          have GE112:Aside0 (w.heap.size≤j4):=⟨h5_⟩
          have jg:Aside0 (j8≠j4):=⟨h6_⟩
          have jm:Aside0 (j4≠j8):=⟨h7_⟩
          have jf:Aside0 (j6≠j4):=⟨h8_⟩
          have jk:Aside0 (j4≠j6):=⟨h9_⟩
          replace HB:Aside0 (Below w.heap.size w jU):=⟨h10_⟩
          clear h0_ h1_ h2_ h3_ h4_ h5_ h6_ h7_ h8_ h9_ h10_
          have hHeld:=hS0_ _ ja.out HB.out
          refine fB (a':=?_) ?_ ?_
          rotate_left
          ·simp only [nD,Act.put,List.setIfInBounds_toArray,List.set_cons_zero,List.set_cons_succ]
           rfl
          refine SA (i:=9) (j:=10) (Ni:=some 24) (Nj:=some 3) (bz 14 3071) (bz 14 3583) rfl rfl rfl rfl (vN HT_.out (by kernel_rfl)) (by decide) (by decide) (fun K hK=>?_) (fun K hK=>?_)
          ·skip
           refine kU Try.func78 (by kernel_rfl) rfl #[.agg #[.int .i64 ((aY j9 1).f0), .int .i64 ((aY j9 1).f1), .slice jB ((aY j9 1).f2).length jC]] (by rfl) rfl rfl nX ?_
           with_reducible refine (ih k (by omega) ((aY j9 1).f0) ((aY j9 1).f1) _ _ ((aY j9 1).f2) jR jv jq _ (aC_ (Kd.aV jW.out HB.out)) jZ.out qW.out).mono ?_
           rintro e jX ⟨jJ,rfl,ho0,hb⟩
           refine ⟨_,rfl,?_⟩
           have jy:=am (Kd.dH (Kd.aD (ok':=fun k_=>(w.heap.size≤k_)∧some k_≠(jw:Value).ownBlock∧k_≠j8∧k_≠j6∧k_≠j4) ho0 (fun k_ hk_=>⟨(Nat.le_trans (aJ oW) hk_),(Kd.fresh' (Kd.iH (aN_ jn.out)) k_ hk_),(fG ja.out k_ hk_),(fG j7.out k_ hk_),(fG jd.out k_ hk_)⟩)) (aJ oW))
           replace jn:=am (Kd.fM (aN_ jn.out) (by first|exact Kd.dL ho0|exact Kd.dL (Kd.R_N ho0)) hb)
           replace ja:=bbP ja hb
           replace j7:=bbP j7 hb
           replace jd:=bbP jd hb
           replace HB:=am (aG oW hb)
           (try clear hb)
           (try clear hb2)
           (try clear hk)
           (try clear hi)
           (try clear ho0)
           refine hK.out _ _ (hS0_ _ ja.out HB.out) (fun hHeld=>?_)
           clear hK K
           refine fB (a':=?_) ?_ ?_
           rotate_left
           ·show Act.put _ (some 24) _=_
            simp only [Act.put,List.setIfInBounds_toArray,List.set_cons_zero,List.set_cons_succ,dS,dV]
            rfl
           exact fB nm_ (hJ4_9_11 (jw,jJ,j4) _ ⟨hHeld,(eO (Kd.aD jn.out (fun _ hk=>⟨hk.1.1,⟨hk.2,⟨hk.1.2.1,⟨hk.1.2.2.1,hk.1.2.2.2⟩⟩⟩⟩))),(aN_ jy.out),(aG_ ja.out),(aG_ j7.out),(aG_ jd.out),jx.out,GE112.out,jg.out,jm.out,jf.out,jk.out,oW⟩)
          ·skip
           refine mD ?hg (N:=3) ?hd (cs:=#[.int .i64 0, .int .i64 0, .slice none 0 0]) (t:=32) ?hr ?_;(case hd=>rfl);(case hg=>rfl);(case hr=>first|(go_simp;done)|(go_simp;rfl))
           intro j3 hg jX hbox hb
           replace jn:=am (Kd.dG (Kd.fC (aN_ jn.out) j3 (Nat.le_of_eq hg.symm)) hb)
           have jb:=am (hbox)
           have ju:=am ((by rw [hg];exact (aJ oW):w.heap.size≤j3))
           have GE111:=am ((by rw [hg];exact (aJ oW):w.heap.size≤j3))
           replace HB:=am (aG oW hb)
           have je:=am ((by rw [hg];exact Nat.ne_of_lt (fO ja.out):j8≠j3))
           have jl:=am ((by rw [hg];exact Nat.ne_of_gt (fO ja.out):j3≠j8))
           replace ja:=bbP ja hb
           have jc:=am ((by rw [hg];exact Nat.ne_of_lt (fO j7.out):j6≠j3))
           have jj:=am ((by rw [hg];exact Nat.ne_of_gt (fO j7.out):j3≠j6))
           replace j7:=bbP j7 hb
           have jh:=am ((by rw [hg];exact Nat.ne_of_lt (fO jd.out):j4≠j3))
           have ji:=am ((by rw [hg];exact Nat.ne_of_gt (fO jd.out):j3≠j4))
           replace jd:=bbP jd hb
           clear hb hbox hg
           refine hK.out _ _ (hS0_ _ ja.out HB.out) (fun hHeld=>?_)
           clear hK K
           refine fB (a':=?_) ?_ ?_
           rotate_left
           ·show Act.put _ (some 3) _=_
            simp only [Act.put,List.setIfInBounds_toArray,List.set_cons_zero,List.set_cons_succ,dS,dV]
            rfl
           exact fB nm_ (hJ4_10_11 (jw,j3,j4) _ ⟨hHeld,(eO (Kd.aD jn.out (fun _ hk=>⟨hk.1.1,⟨hk.1.2.1,⟨hk.1.2.2.1,⟨hk.2,hk.1.2.2.2⟩⟩⟩⟩))),(aG_ ja.out),(aG_ j7.out),(aG_ jb.out),(aG_ jd.out),ju.out,GE111.out,je.out,jl.out,jc.out,jj.out,jh.out,ji.out,jx.out,GE112.out,jg.out,jm.out,jf.out,jk.out,NC⟩)
        ·skip
         rintro ⟨jw,j3⟩ jU ⟨hS_,h0_,h1_,h2_,h3_,h4_,h5_,h6_,h7_,h8_,h9_,h10_⟩
         have jn:Aside0 (Kd.N k32 32 jU w.heap.size (fun k_=>(w.heap.size≤k_)∧k_≠j8∧k_≠j6∧k_≠j3) jw jp):=⟨h0_⟩
         replace ja:Aside0 (jU.heap[j8]?=some (.cells #[.int .i64 jo, .int .i64 jr, .slice (some j5) j9.length jt] 32 (0,0))):=⟨h1_⟩
         replace j7:Aside0 (jU.heap[j6]?=some (.cells #[.int .i64 0, .int .i64 0, .slice none 0 0] 32 (0,0))):=⟨h2_⟩
         have jb:Aside0 (jU.heap[j3]?=some (.cells #[.int .i64 0, .int .i64 0, .slice none 0 0] 32 (0,0))):=⟨h3_⟩
         have ju:Aside0 (w.heap.size≤j3):=⟨h4_⟩
         have GE111:Aside0 (w.heap.size≤j3):=⟨h5_⟩
         have je:Aside0 (j8≠j3):=⟨h6_⟩
         have jl:Aside0 (j3≠j8):=⟨h7_⟩
         have jc:Aside0 (j6≠j3):=⟨h8_⟩
         have jj:Aside0 (j3≠j6):=⟨h9_⟩
         replace HB:Aside0 (Below w.heap.size w jU):=⟨h10_⟩
         clear h0_ h1_ h2_ h3_ h4_ h5_ h6_ h7_ h8_ h9_ h10_
         have hHeld:=hS0_ _ ja.out HB.out
         refine fB (a':=?_) ?_ ?_
         rotate_left
         ·simp only [nD,Act.put,List.setIfInBounds_toArray,List.set_cons_zero,List.set_cons_succ]
          rfl
         refine SA (i:=9) (j:=11) (Ni:=some 24) (Nj:=some 4) (bz 14 2047) (bz 14 3583) rfl rfl rfl rfl (vN HT_.out (by kernel_rfl)) (by decide) (by decide) (fun K hK=>?_) (fun K hK=>?_)
         ·skip
          refine kU Try.func78 (by kernel_rfl) rfl #[.agg #[.int .i64 ((aY j9 1).f0), .int .i64 ((aY j9 1).f1), .slice jB ((aY j9 1).f2).length jC]] (by rfl) rfl rfl nX ?_
          with_reducible refine (ih k (by omega) ((aY j9 1).f0) ((aY j9 1).f1) _ _ ((aY j9 1).f2) jR jv jq _ (aC_ (Kd.aV jW.out HB.out)) jZ.out qW.out).mono ?_
          rintro e jX ⟨jJ,rfl,ho0,hb⟩
          refine ⟨_,rfl,?_⟩
          have jy:=am (Kd.dH (Kd.aD (ok':=fun k_=>(w.heap.size≤k_)∧some k_≠(jw:Value).ownBlock∧k_≠j8∧k_≠j6∧k_≠j3) ho0 (fun k_ hk_=>⟨(Nat.le_trans (aJ oV) hk_),(Kd.fresh' (Kd.iH (aN_ jn.out)) k_ hk_),(fG ja.out k_ hk_),(fG j7.out k_ hk_),(fG jb.out k_ hk_)⟩)) (aJ oV))
          replace jn:=am (Kd.fM (aN_ jn.out) (by first|exact Kd.dL ho0|exact Kd.dL (Kd.R_N ho0)) hb)
          replace ja:=bbP ja hb
          replace j7:=bbP j7 hb
          replace jb:=bbP jb hb
          replace HB:=am (aG oV hb)
          (try clear hb)
          (try clear hb2)
          (try clear hk)
          (try clear hi)
          (try clear ho0)
          refine hK.out _ _ (hS0_ _ ja.out HB.out) (fun hHeld=>?_)
          clear hK K
          refine fB (a':=?_) ?_ ?_
          rotate_left
          ·show Act.put _ (some 24) _=_
           simp only [Act.put,List.setIfInBounds_toArray,List.set_cons_zero,List.set_cons_succ,dS,dV]
           rfl
          exact fB nm_ (hJ4_9_10 (jw,jJ,j3) _ ⟨hHeld,(eO (Kd.aD jn.out (fun _ hk=>⟨hk.1.1,⟨hk.2,⟨hk.1.2.1,⟨hk.1.2.2.1,hk.1.2.2.2⟩⟩⟩⟩))),(aN_ jy.out),(aG_ ja.out),(aG_ j7.out),(aG_ jb.out),ju.out,GE111.out,je.out,jl.out,jc.out,jj.out,oV⟩)
         ·skip
          refine mD ?hg (N:=4) ?hd (cs:=#[.int .i64 0, .int .i64 0, .slice none 0 0]) (t:=32) ?hr ?_;(case hd=>rfl);(case hg=>rfl);(case hr=>first|(go_simp;done)|(go_simp;rfl))
          intro j4 hg jX hbox hb
          replace jn:=am (Kd.dG (Kd.fC (aN_ jn.out) j4 (Nat.le_of_eq hg.symm)) hb)
          have jd:=am (hbox)
          have jx:=am ((by rw [hg];exact (aJ oV):w.heap.size≤j4))
          have GE112:=am ((by rw [hg];exact (aJ oV):w.heap.size≤j4))
          replace HB:=am (aG oV hb)
          have jg:=am ((by rw [hg];exact Nat.ne_of_lt (fO ja.out):j8≠j4))
          have jm:=am ((by rw [hg];exact Nat.ne_of_gt (fO ja.out):j4≠j8))
          replace ja:=bbP ja hb
          have jf:=am ((by rw [hg];exact Nat.ne_of_lt (fO j7.out):j6≠j4))
          have jk:=am ((by rw [hg];exact Nat.ne_of_gt (fO j7.out):j4≠j6))
          replace j7:=bbP j7 hb
          have ji:=am ((by rw [hg];exact Nat.ne_of_lt (fO jb.out):j3≠j4))
          have jh:=am ((by rw [hg];exact Nat.ne_of_gt (fO jb.out):j4≠j3))
          replace jb:=bbP jb hb
          clear hb hbox hg
          refine hK.out _ _ (hS0_ _ ja.out HB.out) (fun hHeld=>?_)
          clear hK K
          refine fB (a':=?_) ?_ ?_
          rotate_left
          ·show Act.put _ (some 4) _=_
           simp only [Act.put,List.setIfInBounds_toArray,List.set_cons_zero,List.set_cons_succ,dS,dV]
           rfl
          exact fB nm_ (hJ4_10_11 (jw,j3,j4) _ ⟨hHeld,(eO (Kd.aD jn.out (fun _ hk=>⟨hk.1.1,⟨hk.1.2.1,⟨hk.1.2.2.1,⟨hk.1.2.2.2,hk.2⟩⟩⟩⟩))),(aG_ ja.out),(aG_ j7.out),(aG_ jb.out),(aG_ jd.out),ju.out,GE111.out,je.out,jl.out,jc.out,jj.out,jh.out,ji.out,jx.out,GE112.out,jg.out,jm.out,jf.out,jk.out,rA⟩)
       ·skip
        rintro ⟨jw,jJ⟩ jU ⟨hS_,h0_,h1_,h2_,h3_,h4_⟩
        have jn:Aside0 (Kd.N k32 32 jU w.heap.size (fun k_=>(w.heap.size≤k_)∧some k_≠(jJ:Value).ownBlock∧k_≠j8∧k_≠j6) jw jp):=⟨h0_⟩
        have jy:Aside0 (Kd.N k32 32 jU w.heap.size (fun k_=>(w.heap.size≤k_)∧some k_≠(jw:Value).ownBlock∧k_≠j8∧k_≠j6) jJ jq):=⟨h1_⟩
        replace ja:Aside0 (jU.heap[j8]?=some (.cells #[.int .i64 jo, .int .i64 jr, .slice (some j5) j9.length jt] 32 (0,0))):=⟨h2_⟩
        replace j7:Aside0 (jU.heap[j6]?=some (.cells #[.int .i64 0, .int .i64 0, .slice none 0 0] 32 (0,0))):=⟨h3_⟩
        replace HB:Aside0 (Below w.heap.size w jU):=⟨h4_⟩
        clear h0_ h1_ h2_ h3_ h4_
        have hHeld:=hS0_ _ ja.out HB.out
        refine fB (a':=?_) ?_ ?_
        rotate_left
        ·simp only [nD,Act.put,List.setIfInBounds_toArray,List.set_cons_zero,List.set_cons_succ]
         rfl
        refine SA (i:=10) (j:=11) (Ni:=some 3) (Nj:=some 4) (bz 14 2047) (bz 14 3071) rfl rfl rfl rfl (vN HT_.out (by kernel_rfl)) (by decide) (by decide) (fun K hK=>?_) (fun K hK=>?_)
        ·skip
         refine mD ?hg (N:=3) ?hd (cs:=#[.int .i64 0, .int .i64 0, .slice none 0 0]) (t:=32) ?hr ?_;(case hd=>rfl);(case hg=>rfl);(case hr=>first|(go_simp;done)|(go_simp;rfl))
         intro j3 hg jX hbox hb
         replace jn:=am (Kd.dG (Kd.fC (aN_ jn.out) j3 (Nat.le_of_eq hg.symm)) hb)
         replace jy:=am (Kd.dG (Kd.fC (aN_ jy.out) j3 (Nat.le_of_eq hg.symm)) hb)
         have jb:=am (hbox)
         have ju:=am ((by rw [hg];exact (aJ mM):w.heap.size≤j3))
         have GE111:=am ((by rw [hg];exact (aJ mM):w.heap.size≤j3))
         replace HB:=am (aG mM hb)
         have je:=am ((by rw [hg];exact Nat.ne_of_lt (fO ja.out):j8≠j3))
         have jl:=am ((by rw [hg];exact Nat.ne_of_gt (fO ja.out):j3≠j8))
         replace ja:=bbP ja hb
         have jc:=am ((by rw [hg];exact Nat.ne_of_lt (fO j7.out):j6≠j3))
         have jj:=am ((by rw [hg];exact Nat.ne_of_gt (fO j7.out):j3≠j6))
         replace j7:=bbP j7 hb
         clear hb hbox hg
         refine hK.out _ _ (hS0_ _ ja.out HB.out) (fun hHeld=>?_)
         clear hK K
         refine fB (a':=?_) ?_ ?_
         rotate_left
         ·show Act.put _ (some 3) _=_
          simp only [Act.put,List.setIfInBounds_toArray,List.set_cons_zero,List.set_cons_succ,dS,dV]
          rfl
         exact fB nm_ (hJ4_9_10 (jw,jJ,j3) _ ⟨hHeld,(eO (Kd.aD jn.out (fun _ hk=>⟨hk.1.1,⟨hk.1.2.1,⟨hk.1.2.2.1,⟨hk.1.2.2.2,hk.2⟩⟩⟩⟩))),(eO (Kd.aD jy.out (fun _ hk=>⟨hk.1.1,⟨hk.1.2.1,⟨hk.1.2.2.1,⟨hk.1.2.2.2,hk.2⟩⟩⟩⟩))),(aG_ ja.out),(aG_ j7.out),(aG_ jb.out),ju.out,GE111.out,je.out,jl.out,jc.out,jj.out,oV⟩)
        ·skip
         refine mD ?hg (N:=4) ?hd (cs:=#[.int .i64 0, .int .i64 0, .slice none 0 0]) (t:=32) ?hr ?_;(case hd=>rfl);(case hg=>rfl);(case hr=>first|(go_simp;done)|(go_simp;rfl))
         intro j4 hg jX hbox hb
         replace jn:=am (Kd.dG (Kd.fC (aN_ jn.out) j4 (Nat.le_of_eq hg.symm)) hb)
         replace jy:=am (Kd.dG (Kd.fC (aN_ jy.out) j4 (Nat.le_of_eq hg.symm)) hb)
         have jd:=am (hbox)
         have jx:=am ((by rw [hg];exact (aJ mM):w.heap.size≤j4))
         have GE112:=am ((by rw [hg];exact (aJ mM):w.heap.size≤j4))
         replace HB:=am (aG mM hb)
         have jg:=am ((by rw [hg];exact Nat.ne_of_lt (fO ja.out):j8≠j4))
         have jm:=am ((by rw [hg];exact Nat.ne_of_gt (fO ja.out):j4≠j8))
         replace ja:=bbP ja hb
         have jf:=am ((by rw [hg];exact Nat.ne_of_lt (fO j7.out):j6≠j4))
         have jk:=am ((by rw [hg];exact Nat.ne_of_gt (fO j7.out):j4≠j6))
         replace j7:=bbP j7 hb
         clear hb hbox hg
         refine hK.out _ _ (hS0_ _ ja.out HB.out) (fun hHeld=>?_)
         clear hK K
         refine fB (a':=?_) ?_ ?_
         rotate_left
         ·show Act.put _ (some 4) _=_
          simp only [Act.put,List.setIfInBounds_toArray,List.set_cons_zero,List.set_cons_succ,dS,dV]
          rfl
         exact fB nm_ (hJ4_9_11 (jw,jJ,j4) _ ⟨hHeld,(eO (Kd.aD jn.out (fun _ hk=>⟨hk.1.1,⟨hk.1.2.1,⟨hk.1.2.2.1,⟨hk.1.2.2.2,hk.2⟩⟩⟩⟩))),(eO (Kd.aD jy.out (fun _ hk=>⟨hk.1.1,⟨hk.1.2.1,⟨hk.1.2.2.1,⟨hk.1.2.2.2,hk.2⟩⟩⟩⟩))),(aG_ ja.out),(aG_ j7.out),(aG_ jd.out),jx.out,GE112.out,jg.out,jm.out,jf.out,jk.out,oW⟩)
      ·skip
       rintro ⟨jw,j3,j4⟩ jX ⟨hS_,h0_,h1_,h2_,h3_,h4_,h5_,h6_,h7_,h8_,h9_,h10_,h11_,h12_,h13_,h14_,h15_,h16_,h17_,h18_,h19_⟩
       have jn:Aside0 (Kd.N k32 32 jX w.heap.size (fun k_=>(w.heap.size≤k_)∧k_≠j8∧k_≠j6∧k_≠j3∧k_≠j4) jw jp):=⟨h0_⟩
       replace ja:Aside0 (jX.heap[j8]?=some (.cells #[.int .i64 jo, .int .i64 jr, .slice (some j5) j9.length jt] 32 (0,0))):=⟨h1_⟩
       replace j7:Aside0 (jX.heap[j6]?=some (.cells #[.int .i64 0, .int .i64 0, .slice none 0 0] 32 (0,0))):=⟨h2_⟩
       have jb:Aside0 (jX.heap[j3]?=some (.cells #[.int .i64 0, .int .i64 0, .slice none 0 0] 32 (0,0))):=⟨h3_⟩
       have jd:Aside0 (jX.heap[j4]?=some (.cells #[.int .i64 0, .int .i64 0, .slice none 0 0] 32 (0,0))):=⟨h4_⟩
       have ju:Aside0 (w.heap.size≤j3):=⟨h5_⟩
       have GE111:Aside0 (w.heap.size≤j3):=⟨h6_⟩
       have je:Aside0 (j8≠j3):=⟨h7_⟩
       have jl:Aside0 (j3≠j8):=⟨h8_⟩
       have jc:Aside0 (j6≠j3):=⟨h9_⟩
       have jj:Aside0 (j3≠j6):=⟨h10_⟩
       have jh:Aside0 (j4≠j3):=⟨h11_⟩
       have ji:Aside0 (j3≠j4):=⟨h12_⟩
       have jx:Aside0 (w.heap.size≤j4):=⟨h13_⟩
       have GE112:Aside0 (w.heap.size≤j4):=⟨h14_⟩
       have jg:Aside0 (j8≠j4):=⟨h15_⟩
       have jm:Aside0 (j4≠j8):=⟨h16_⟩
       have jf:Aside0 (j6≠j4):=⟨h17_⟩
       have jk:Aside0 (j4≠j6):=⟨h18_⟩
       replace HB:Aside0 (Below w.heap.size w jX):=⟨h19_⟩
       clear h0_ h1_ h2_ h3_ h4_ h5_ h6_ h7_ h8_ h9_ h10_ h11_ h12_ h13_ h14_ h15_ h16_ h17_ h18_ h19_
       have hHeld:=hS0_ _ ja.out HB.out
       refine fB (a':=?_) ?_ ?_
       rotate_left
       ·simp only [nD,Act.put,List.setIfInBounds_toArray,List.set_cons_zero,List.set_cons_succ]
        rfl
       refine lH (i:=9) (N:=some 24) (bz 14 4095) rfl rfl (gG HT_.out (by kernel_rfl)) (by decide) (fun K hK=>?_)
       refine kU Try.func78 (by kernel_rfl) rfl #[.agg #[.int .i64 ((aY j9 1).f0), .int .i64 ((aY j9 1).f1), .slice jB ((aY j9 1).f2).length jC]] (by rfl) rfl rfl nX ?_
       with_reducible refine (ih k (by omega) ((aY j9 1).f0) ((aY j9 1).f1) _ _ ((aY j9 1).f2) jR jv jq _ (aC_ (Kd.aV jW.out HB.out)) jZ.out qW.out).mono ?_
       rintro e q3 ⟨jJ,rfl,ho0,hb⟩
       refine ⟨_,rfl,?_⟩
       have jy:=am (Kd.dH (Kd.aD (ok':=fun k_=>(w.heap.size≤k_)∧some k_≠(jw:Value).ownBlock∧k_≠j8∧k_≠j6∧k_≠j3∧k_≠j4) ho0 (fun k_ hk_=>⟨(Nat.le_trans (aJ rA) hk_),(Kd.fresh' (Kd.iH (aN_ jn.out)) k_ hk_),(fG ja.out k_ hk_),(fG j7.out k_ hk_),(fG jb.out k_ hk_),(fG jd.out k_ hk_)⟩)) (aJ rA))
       replace jn:=am (Kd.fM (aN_ jn.out) (by first|exact Kd.dL ho0|exact Kd.dL (Kd.R_N ho0)) hb)
       replace ja:=bbP ja hb
       replace j7:=bbP j7 hb
       replace jb:=bbP jb hb
       replace jd:=bbP jd hb
       replace HB:=am (aG rA hb)
       (try clear hb)
       (try clear hb2)
       (try clear hk)
       (try clear hi)
       (try clear ho0)
       refine hK.out _ _ (hS0_ _ ja.out HB.out) (fun hHeld=>?_)
       clear hK K
       refine fB (a':=?_) ?_ ?_
       rotate_left
       ·show Act.put _ (some 24) _=_
        simp only [Act.put,List.setIfInBounds_toArray,List.set_cons_zero,List.set_cons_succ,dS,dV]
        rfl
       exact fB nm_ (hJ4_9_10_11 (jw,jJ,j3,j4) _ ⟨hHeld,(eO (Kd.aD jn.out (fun _ hk=>⟨hk.1.1,⟨hk.2,⟨hk.1.2.1,⟨hk.1.2.2.1,⟨hk.1.2.2.2.1,hk.1.2.2.2.2⟩⟩⟩⟩⟩))),(aN_ jy.out),(aG_ ja.out),(aG_ j7.out),(aG_ jb.out),(aG_ jd.out),ju.out,GE111.out,je.out,jl.out,jc.out,jj.out,jh.out,ji.out,jx.out,GE112.out,jg.out,jm.out,jf.out,jk.out,rA⟩)
     ·skip
      rintro ⟨jw,jJ,j4⟩ jX ⟨hS_,h0_,h1_,h2_,h3_,h4_,h5_,h6_,h7_,h8_,h9_,h10_,h11_⟩
      have jn:Aside0 (Kd.N k32 32 jX w.heap.size (fun k_=>(w.heap.size≤k_)∧some k_≠(jJ:Value).ownBlock∧k_≠j8∧k_≠j6∧k_≠j4) jw jp):=⟨h0_⟩
      have jy:Aside0 (Kd.N k32 32 jX w.heap.size (fun k_=>(w.heap.size≤k_)∧some k_≠(jw:Value).ownBlock∧k_≠j8∧k_≠j6∧k_≠j4) jJ jq):=⟨h1_⟩
      replace ja:Aside0 (jX.heap[j8]?=some (.cells #[.int .i64 jo, .int .i64 jr, .slice (some j5) j9.length jt] 32 (0,0))):=⟨h2_⟩
      replace j7:Aside0 (jX.heap[j6]?=some (.cells #[.int .i64 0, .int .i64 0, .slice none 0 0] 32 (0,0))):=⟨h3_⟩
      have jd:Aside0 (jX.heap[j4]?=some (.cells #[.int .i64 0, .int .i64 0, .slice none 0 0] 32 (0,0))):=⟨h4_⟩
      have jx:Aside0 (w.heap.size≤j4):=⟨h5_⟩
      have GE112:Aside0 (w.heap.size≤j4):=⟨h6_⟩
      have jg:Aside0 (j8≠j4):=⟨h7_⟩
      have jm:Aside0 (j4≠j8):=⟨h8_⟩
      have jf:Aside0 (j6≠j4):=⟨h9_⟩
      have jk:Aside0 (j4≠j6):=⟨h10_⟩
      replace HB:Aside0 (Below w.heap.size w jX):=⟨h11_⟩
      clear h0_ h1_ h2_ h3_ h4_ h5_ h6_ h7_ h8_ h9_ h10_ h11_
      have hHeld:=hS0_ _ ja.out HB.out
      refine fB (a':=?_) ?_ ?_
      rotate_left
      ·simp only [nD,Act.put,List.setIfInBounds_toArray,List.set_cons_zero,List.set_cons_succ]
       rfl
      refine lH (i:=10) (N:=some 3) (bz 14 4095) rfl rfl (gG HT_.out (by kernel_rfl)) (by decide) (fun K hK=>?_)
      refine mD ?hg (N:=3) ?hd (cs:=#[.int .i64 0, .int .i64 0, .slice none 0 0]) (t:=32) ?hr ?_;(case hd=>rfl);(case hg=>rfl);(case hr=>first|(go_simp;done)|(go_simp;rfl))
      intro j3 hg q3 hbox hb
      replace jn:=am (Kd.dG (Kd.fC (aN_ jn.out) j3 (Nat.le_of_eq hg.symm)) hb)
      replace jy:=am (Kd.dG (Kd.fC (aN_ jy.out) j3 (Nat.le_of_eq hg.symm)) hb)
      have jb:=am (hbox)
      have ju:=am ((by rw [hg];exact (aJ oW):w.heap.size≤j3))
      have GE111:=am ((by rw [hg];exact (aJ oW):w.heap.size≤j3))
      replace HB:=am (aG oW hb)
      have je:=am ((by rw [hg];exact Nat.ne_of_lt (fO ja.out):j8≠j3))
      have jl:=am ((by rw [hg];exact Nat.ne_of_gt (fO ja.out):j3≠j8))
      replace ja:=bbP ja hb
      have jc:=am ((by rw [hg];exact Nat.ne_of_lt (fO j7.out):j6≠j3))
      have jj:=am ((by rw [hg];exact Nat.ne_of_gt (fO j7.out):j3≠j6))
      replace j7:=bbP j7 hb
      have jh:=am ((by rw [hg];exact Nat.ne_of_lt (fO jd.out):j4≠j3))
      have ji:=am ((by rw [hg];exact Nat.ne_of_gt (fO jd.out):j3≠j4))
      replace jd:=bbP jd hb
      clear hb hbox hg
      refine hK.out _ _ (hS0_ _ ja.out HB.out) (fun hHeld=>?_)
      clear hK K
      refine fB (a':=?_) ?_ ?_
      rotate_left
      ·show Act.put _ (some 3) _=_
       simp only [Act.put,List.setIfInBounds_toArray,List.set_cons_zero,List.set_cons_succ,dS,dV]
       rfl
      exact fB nm_ (hJ4_9_10_11 (jw,jJ,j3,j4) _ ⟨hHeld,(eO (Kd.aD jn.out (fun _ hk=>⟨hk.1.1,⟨hk.1.2.1,⟨hk.1.2.2.1,⟨hk.1.2.2.2.1,⟨hk.2,hk.1.2.2.2.2⟩⟩⟩⟩⟩))),(eO (Kd.aD jy.out (fun _ hk=>⟨hk.1.1,⟨hk.1.2.1,⟨hk.1.2.2.1,⟨hk.1.2.2.2.1,⟨hk.2,hk.1.2.2.2.2⟩⟩⟩⟩⟩))),(aG_ ja.out),(aG_ j7.out),(aG_ jb.out),(aG_ jd.out),ju.out,GE111.out,je.out,jl.out,jc.out,jj.out,jh.out,ji.out,jx.out,GE112.out,jg.out,jm.out,jf.out,jk.out,NC⟩)
    ·skip
     rintro ⟨jw,jJ,j3⟩ jX ⟨hS_,h0_,h1_,h2_,h3_,h4_,h5_,h6_,h7_,h8_,h9_,h10_,h11_⟩
     have jn:Aside0 (Kd.N k32 32 jX w.heap.size (fun k_=>(w.heap.size≤k_)∧some k_≠(jJ:Value).ownBlock∧k_≠j8∧k_≠j6∧k_≠j3) jw jp):=⟨h0_⟩
     have jy:Aside0 (Kd.N k32 32 jX w.heap.size (fun k_=>(w.heap.size≤k_)∧some k_≠(jw:Value).ownBlock∧k_≠j8∧k_≠j6∧k_≠j3) jJ jq):=⟨h1_⟩
     replace ja:Aside0 (jX.heap[j8]?=some (.cells #[.int .i64 jo, .int .i64 jr, .slice (some j5) j9.length jt] 32 (0,0))):=⟨h2_⟩
     replace j7:Aside0 (jX.heap[j6]?=some (.cells #[.int .i64 0, .int .i64 0, .slice none 0 0] 32 (0,0))):=⟨h3_⟩
     have jb:Aside0 (jX.heap[j3]?=some (.cells #[.int .i64 0, .int .i64 0, .slice none 0 0] 32 (0,0))):=⟨h4_⟩
     have ju:Aside0 (w.heap.size≤j3):=⟨h5_⟩
     have GE111:Aside0 (w.heap.size≤j3):=⟨h6_⟩
     have je:Aside0 (j8≠j3):=⟨h7_⟩
     have jl:Aside0 (j3≠j8):=⟨h8_⟩
     have jc:Aside0 (j6≠j3):=⟨h9_⟩
     have jj:Aside0 (j3≠j6):=⟨h10_⟩
     replace HB:Aside0 (Below w.heap.size w jX):=⟨h11_⟩
     clear h0_ h1_ h2_ h3_ h4_ h5_ h6_ h7_ h8_ h9_ h10_ h11_
     have hHeld:=hS0_ _ ja.out HB.out
     refine fB (a':=?_) ?_ ?_
     rotate_left
     ·simp only [nD,Act.put,List.setIfInBounds_toArray,List.set_cons_zero,List.set_cons_succ]
      rfl
     refine lH (i:=11) (N:=some 4) (bz 14 4095) rfl rfl (gG HT_.out (by kernel_rfl)) (by decide) (fun K hK=>?_)
     refine mD ?hg (N:=4) ?hd (cs:=#[.int .i64 0, .int .i64 0, .slice none 0 0]) (t:=32) ?hr ?_;(case hd=>rfl);(case hg=>rfl);(case hr=>first|(go_simp;done)|(go_simp;rfl))
     intro j4 hg q3 hbox hb
     replace jn:=am (Kd.dG (Kd.fC (aN_ jn.out) j4 (Nat.le_of_eq hg.symm)) hb)
     replace jy:=am (Kd.dG (Kd.fC (aN_ jy.out) j4 (Nat.le_of_eq hg.symm)) hb)
     have jd:=am (hbox)
     have jx:=am ((by rw [hg];exact (aJ oV):w.heap.size≤j4))
     have GE112:=am ((by rw [hg];exact (aJ oV):w.heap.size≤j4))
     replace HB:=am (aG oV hb)
     have jg:=am ((by rw [hg];exact Nat.ne_of_lt (fO ja.out):j8≠j4))
     have jm:=am ((by rw [hg];exact Nat.ne_of_gt (fO ja.out):j4≠j8))
     replace ja:=bbP ja hb
     have jf:=am ((by rw [hg];exact Nat.ne_of_lt (fO j7.out):j6≠j4))
     have jk:=am ((by rw [hg];exact Nat.ne_of_gt (fO j7.out):j4≠j6))
     replace j7:=bbP j7 hb
     have ji:=am ((by rw [hg];exact Nat.ne_of_lt (fO jb.out):j3≠j4))
     have jh:=am ((by rw [hg];exact Nat.ne_of_gt (fO jb.out):j4≠j3))
     replace jb:=bbP jb hb
     clear hb hbox hg
     refine hK.out _ _ (hS0_ _ ja.out HB.out) (fun hHeld=>?_)
     clear hK K
     refine fB (a':=?_) ?_ ?_
     rotate_left
     ·show Act.put _ (some 4) _=_
      simp only [Act.put,List.setIfInBounds_toArray,List.set_cons_zero,List.set_cons_succ,dS,dV]
      rfl
     exact fB nm_ (hJ4_9_10_11 (jw,jJ,j3,j4) _ ⟨hHeld,(eO (Kd.aD jn.out (fun _ hk=>⟨hk.1.1,⟨hk.1.2.1,⟨hk.1.2.2.1,⟨hk.1.2.2.2.1,⟨hk.1.2.2.2.2,hk.2⟩⟩⟩⟩⟩))),(eO (Kd.aD jy.out (fun _ hk=>⟨hk.1.1,⟨hk.1.2.1,⟨hk.1.2.2.1,⟨hk.1.2.2.2.1,⟨hk.1.2.2.2.2,hk.2⟩⟩⟩⟩⟩))),(aG_ ja.out),(aG_ j7.out),(aG_ jb.out),(aG_ jd.out),ju.out,GE111.out,je.out,jl.out,jc.out,jj.out,jh.out,ji.out,jx.out,GE112.out,jg.out,jm.out,jf.out,jk.out,rA⟩)
   rintro ⟨jw,jJ,j3,j4⟩ q3 ⟨hS_,h0_,h1_,h2_,h3_,h4_,h5_,h6_,h7_,h8_,h9_,h10_,h11_,h12_,h13_,h14_,h15_,h16_,h17_,h18_,h19_,h20_⟩
   have jn:Aside0 (Kd.N k32 32 q3 w.heap.size (fun k_=>(w.heap.size≤k_)∧some k_≠(jJ:Value).ownBlock∧k_≠j8∧k_≠j6∧k_≠j3∧k_≠j4) jw jp):=⟨h0_⟩
   have jy:Aside0 (Kd.N k32 32 q3 w.heap.size (fun k_=>(w.heap.size≤k_)∧some k_≠(jw:Value).ownBlock∧k_≠j8∧k_≠j6∧k_≠j3∧k_≠j4) jJ jq):=⟨h1_⟩
   replace ja:Aside0 (q3.heap[j8]?=some (.cells #[.int .i64 jo, .int .i64 jr, .slice (some j5) j9.length jt] 32 (0,0))):=⟨h2_⟩
   replace j7:Aside0 (q3.heap[j6]?=some (.cells #[.int .i64 0, .int .i64 0, .slice none 0 0] 32 (0,0))):=⟨h3_⟩
   have jb:Aside0 (q3.heap[j3]?=some (.cells #[.int .i64 0, .int .i64 0, .slice none 0 0] 32 (0,0))):=⟨h4_⟩
   have jd:Aside0 (q3.heap[j4]?=some (.cells #[.int .i64 0, .int .i64 0, .slice none 0 0] 32 (0,0))):=⟨h5_⟩
   have ju:Aside0 (w.heap.size≤j3):=⟨h6_⟩
   have GE111:Aside0 (w.heap.size≤j3):=⟨h7_⟩
   have je:Aside0 (j8≠j3):=⟨h8_⟩
   have jl:Aside0 (j3≠j8):=⟨h9_⟩
   have jc:Aside0 (j6≠j3):=⟨h10_⟩
   have jj:Aside0 (j3≠j6):=⟨h11_⟩
   have jh:Aside0 (j4≠j3):=⟨h12_⟩
   have ji:Aside0 (j3≠j4):=⟨h13_⟩
   have jx:Aside0 (w.heap.size≤j4):=⟨h14_⟩
   have GE112:Aside0 (w.heap.size≤j4):=⟨h15_⟩
   have jg:Aside0 (j8≠j4):=⟨h16_⟩
   have jm:Aside0 (j4≠j8):=⟨h17_⟩
   have jf:Aside0 (j6≠j4):=⟨h18_⟩
   have jk:Aside0 (j4≠j6):=⟨h19_⟩
   replace HB:Aside0 (Below w.heap.size w q3):=⟨h20_⟩
   clear h0_ h1_ h2_ h3_ h4_ h5_ h6_ h7_ h8_ h9_ h10_ h11_ h12_ h13_ h14_ h15_ h16_ h17_ h18_ h19_ h20_
   have hHeld:=hS0_ _ ja.out HB.out
   obtain ⟨jF,jG,qs⟩:=Kd.dD jn.out
   (first|subst qs|(injection qs with f1_ f2_ f3_;have f4_:=f1_.symm;have f5_:=f3_.symm;clear f1_ f2_ f3_;subst f4_;subst f5_))
   obtain ⟨jH,jI,qt⟩:=Kd.dD jy.out
   (first|subst qt|(injection qt with f1_ f2_ f3_;have f4_:=f1_.symm;have f5_:=f3_.symm;clear f1_ f2_ f3_;subst f4_;subst f5_))
   refine fB (a':=?_) ?_ ?_
   rotate_left
   ·simp only [nD,Act.put,List.setIfInBounds_toArray,List.set_cons_zero,List.set_cons_succ]
    rfl
   refine lH (i:=12) (N:=none) (bz 14 8191) rfl rfl (gG HT_.out (by kernel_rfl)) (by decide) (fun K hK=>?_)
   have Yf:q3.cell? ⟨j3,0,none⟩=some (.int .i64 0):=(aA jb.out 0).trans rfl
   have hfs23:=aU jb.out 0
   have hns23_0:=je.out
   have hns23_1:=jc.out
   have hns23_3:=jh.out
   have hms23_0:=jl.out
   have hms23_1:=jj.out
   have hms23_3:=ji.out
   have Yg:q3.cell? ⟨j3,1,none⟩=some (.int .i64 0):=(aA jb.out 1).trans rfl
   have hfs24:=aU jb.out 1
   have hns24_0:=je.out
   have hns24_1:=jc.out
   have hns24_3:=jh.out
   have hms24_0:=jl.out
   have hms24_1:=jj.out
   have hms24_3:=ji.out
   have Yh:q3.cell? ⟨j3,2,none⟩=some (.slice none 0 0):=(aA jb.out 2).trans rfl
   have hfs26:=aU jb.out 2
   have hns26_0:=je.out
   have hns26_1:=jc.out
   have hns26_3:=jh.out
   have hms26_0:=jl.out
   have hms26_1:=jj.out
   have hms26_3:=ji.out
   refine rO (w1:=?_) (by rfl) rfl ?_ ?_
   rotate_left
   ·go_simp
    rfl
   refine hK.out _ _ (hS0_ _ (aZ (p:=⟨j3,_,none⟩) (aZ (p:=⟨j3,_,none⟩) (aZ (p:=⟨j3,_,none⟩) ja.out je.out _) je.out _) je.out _) (below_set (below_set (below_set HB.out ju.out) ju.out) ju.out)) (fun hHeld=>?_)
   clear hK K
   refine lH (i:=13) (N:=none) (bz 14 16383) rfl rfl (gG HT_.out (by kernel_rfl)) (by decide) (fun K hK=>?_)
   have Yi:q3.cell? ⟨j4,0,none⟩=some (.int .i64 0):=(aA jd.out 0).trans rfl
   have hfs27:=aU jd.out 0
   have hns27_0:=jg.out
   have hns27_1:=jf.out
   have hns27_2:=ji.out
   have hms27_0:=jm.out
   have hms27_1:=jk.out
   have hms27_2:=jh.out
   have Yj:q3.cell? ⟨j4,1,none⟩=some (.int .i64 0):=(aA jd.out 1).trans rfl
   have hfs28:=aU jd.out 1
   have hns28_0:=jg.out
   have hns28_1:=jf.out
   have hns28_2:=ji.out
   have hms28_0:=jm.out
   have hms28_1:=jk.out
   have hms28_2:=jh.out
   have Yk:q3.cell? ⟨j4,2,none⟩=some (.slice none 0 0):=(aA jd.out 2).trans rfl
   have hfs30:=aU jd.out 2
   have hns30_0:=jg.out
   have hns30_1:=jf.out
   have hns30_2:=ji.out
   have hms30_0:=jm.out
   have hms30_1:=jk.out
   have hms30_2:=jh.out
   refine rO (w1:=?_) (by rfl) rfl ?_ ?_
   rotate_left
   ·go_simp
    rfl
   refine hK.out _ _ (hS0_ _ (aZ (p:=⟨j4,_,none⟩) (aZ (p:=⟨j4,_,none⟩) (aZ (p:=⟨j4,_,none⟩) (aZ (p:=⟨j3,_,none⟩) (aZ (p:=⟨j3,_,none⟩) (aZ (p:=⟨j3,_,none⟩) ja.out je.out _) je.out _) je.out _) jg.out _) jg.out _) jg.out _) (below_set (below_set (below_set (below_set (below_set (below_set HB.out ju.out) ju.out) ju.out) jx.out) jx.out) jx.out)) (fun hHeld=>?_)
   clear hK K
   refine pE (lV HT_.out (by kernel_rfl)) ?_
   go_upto_region 4 with (fail)
   go_cut [32] (fun Yl wc=>∃ (kq:Nat) (q1:Bool),Yl= .bool q1∧Aside0 (bZ.j0 kq q1 jo jr j9 jK js jp jR jv jq=some (r1,r2,r3))∧Aside0 (kq≤k)∧Aside0 (Kd.N k32 32 wc w.heap.size (fun k_=>(w.heap.size≤k_)∧some k_≠((.slice jH jq.length jI):Value).ownBlock∧k_≠j8∧k_≠j6∧k_≠j3∧k_≠j4) (.slice jF jp.length jG) jp)∧Aside0 (Kd.N k32 32 wc w.heap.size (fun k_=>(w.heap.size≤k_)∧some k_≠((.slice jF jp.length jG):Value).ownBlock∧k_≠j8∧k_≠j6∧k_≠j3∧k_≠j4) (.slice jH jq.length jI) jq)∧Aside0 (wc.heap[j8]?=some (.cells #[.int .i64 jo, .int .i64 jr,(.slice (some j5) j9.length jt)] 32 (0,0)))∧Aside0 (wc.heap[j6]?=some (.cells #[.int .i64 0, .int .i64 0,(.slice none 0 0)] 32 (0,0)))∧Aside0 (wc.heap[j3]?=some (.cells #[.int .i64 jK, .int .i64 js,(.slice jF jp.length jG)] 32 (0,0)))∧Aside0 (wc.heap[j4]?=some (.cells #[.int .i64 jR, .int .i64 jv,(.slice jH jq.length jI)] 32 (0,0)))∧Aside0 (Below w.heap.size w wc))
   case first=>
    have H:=qf.out
    clear qf
    by_cases qk:jK=0
    ·rw [if_pos qk] at H
     have q2:(jK == 0)=true:=beq_iff_eq.mpr qk
     have qu:(jK != 0)=false:=bne_eq_false_iff_eq.mpr qk
     clear qk
     (first|rw [q2]|(simp only [dS,dV];rw [q2])|skip)
     have H':=am H
     clear H
     have Z7:=jl.out
     have Z8:=je.out
     have Z9:=jj.out
     have Za:=jc.out
     have Zb:=ji.out
     have Zc:=jh.out
     obtain ⟨qX,qY,qZ,z0,z1,z2⟩:=fZ jb.out
     have Zd:=jm.out
     have Ze:=jg.out
     have Zf:=jk.out
     have Zg:=jf.out
     obtain ⟨z3,z4,z5,z6,z7,z8⟩:=fZ jd.out
     go_wp2
     go_meet
     case rel=>exact ⟨_,((jR == 0)),sd_,H',⟨by first|omega|exact Nat.le_refl _⟩,⟨eO (Kd.aD (Kd.aT (p:=⟨j4,2,none⟩) (Kd.aT (p:=⟨j4,1,none⟩) (Kd.aT (p:=⟨j4,0,none⟩) (Kd.aT (p:=⟨j3,2,none⟩) (Kd.aT (p:=⟨j3,1,none⟩) (Kd.aT (p:=⟨j3,0,none⟩) (Kd.aD (Kd.aD jn.out (fun k_ hk=>(⟨hk,hk.2.2.2.2.1⟩:_∧k_≠j3))) (fun k_ hk=>(⟨hk,hk.1.2.2.2.2.2⟩:_∧k_≠j4))) (fun _ hk=>hk.1.2) (.int .i64 jK)) (fun _ hk=>hk.1.2) (.int .i64 js)) (fun _ hk=>hk.1.2) (.slice jF jp.length jG)) (fun _ hk=>hk.2) (.int .i64 jR)) (fun _ hk=>hk.2) (.int .i64 jv)) (fun _ hk=>hk.2) (.slice jH jq.length jI)) (fun _ hk=>⟨hk.1.1.1,⟨hk.1.1.2.1,⟨hk.1.1.2.2.1,⟨hk.1.1.2.2.2.1,⟨hk.1.1.2.2.2.2.1,hk.1.1.2.2.2.2.2⟩⟩⟩⟩⟩))⟩,⟨eO (Kd.aD (Kd.aT (p:=⟨j4,2,none⟩) (Kd.aT (p:=⟨j4,1,none⟩) (Kd.aT (p:=⟨j4,0,none⟩) (Kd.aT (p:=⟨j3,2,none⟩) (Kd.aT (p:=⟨j3,1,none⟩) (Kd.aT (p:=⟨j3,0,none⟩) (Kd.aD (Kd.aD jy.out (fun k_ hk=>(⟨hk,hk.2.2.2.2.1⟩:_∧k_≠j3))) (fun k_ hk=>(⟨hk,hk.1.2.2.2.2.2⟩:_∧k_≠j4))) (fun _ hk=>hk.1.2) (.int .i64 jK)) (fun _ hk=>hk.1.2) (.int .i64 js)) (fun _ hk=>hk.1.2) (.slice jF jp.length jG)) (fun _ hk=>hk.2) (.int .i64 jR)) (fun _ hk=>hk.2) (.int .i64 jv)) (fun _ hk=>hk.2) (.slice jH jq.length jI)) (fun _ hk=>⟨hk.1.1.1,⟨hk.1.1.2.1,⟨hk.1.1.2.2.1,⟨hk.1.1.2.2.2.1,⟨hk.1.1.2.2.2.2.1,hk.1.1.2.2.2.2.2⟩⟩⟩⟩⟩))⟩,⟨(aZ (aZ (aZ (aZ (aZ (aZ ja.out je.out _) je.out _) je.out _) jg.out _) jg.out _) jg.out _)⟩,⟨(aZ (aZ (aZ (aZ (aZ (aZ j7.out jc.out _) jc.out _) jc.out _) jf.out _) jf.out _) jf.out _)⟩,⟨(aZ (aZ (aZ (aM (aM (aM jb.out 0 _ rfl) 1 _ rfl) 2 _ rfl) ji.out _) ji.out _) ji.out _)⟩,⟨(aM (aM (aM (aZ (aZ (aZ jd.out jh.out _) jh.out _) jh.out _) 0 _ rfl) 1 _ rfl) 2 _ rfl)⟩,⟨rA⟩⟩
    rw [if_neg qk] at H
    have q2:(jK == 0)=false:=beq_eq_false_iff_ne.mpr qk
    have qu:(jK != 0)=true:=bne_iff_ne.mpr qk
    (first|rw [q2]|(simp only [dS,dV];rw [q2])|skip)
    have H':=am H
    clear H
    have Zh:=jl.out
    have Zi:=je.out
    have Zj:=jj.out
    have Zk:=jc.out
    have Zl:=ji.out
    have Zm:=jh.out
    obtain ⟨z9,za,zb,zc,zd,ze⟩:=fZ jb.out
    go_wp2
    go_meet
    case rel=>exact ⟨_,(false),sd_,H',⟨by first|omega|exact Nat.le_refl _⟩,⟨eO (Kd.aD (Kd.aT (p:=⟨j4,2,none⟩) (Kd.aT (p:=⟨j4,1,none⟩) (Kd.aT (p:=⟨j4,0,none⟩) (Kd.aT (p:=⟨j3,2,none⟩) (Kd.aT (p:=⟨j3,1,none⟩) (Kd.aT (p:=⟨j3,0,none⟩) (Kd.aD (Kd.aD jn.out (fun k_ hk=>(⟨hk,hk.2.2.2.2.1⟩:_∧k_≠j3))) (fun k_ hk=>(⟨hk,hk.1.2.2.2.2.2⟩:_∧k_≠j4))) (fun _ hk=>hk.1.2) (.int .i64 jK)) (fun _ hk=>hk.1.2) (.int .i64 js)) (fun _ hk=>hk.1.2) (.slice jF jp.length jG)) (fun _ hk=>hk.2) (.int .i64 jR)) (fun _ hk=>hk.2) (.int .i64 jv)) (fun _ hk=>hk.2) (.slice jH jq.length jI)) (fun _ hk=>⟨hk.1.1.1,⟨hk.1.1.2.1,⟨hk.1.1.2.2.1,⟨hk.1.1.2.2.2.1,⟨hk.1.1.2.2.2.2.1,hk.1.1.2.2.2.2.2⟩⟩⟩⟩⟩))⟩,⟨eO (Kd.aD (Kd.aT (p:=⟨j4,2,none⟩) (Kd.aT (p:=⟨j4,1,none⟩) (Kd.aT (p:=⟨j4,0,none⟩) (Kd.aT (p:=⟨j3,2,none⟩) (Kd.aT (p:=⟨j3,1,none⟩) (Kd.aT (p:=⟨j3,0,none⟩) (Kd.aD (Kd.aD jy.out (fun k_ hk=>(⟨hk,hk.2.2.2.2.1⟩:_∧k_≠j3))) (fun k_ hk=>(⟨hk,hk.1.2.2.2.2.2⟩:_∧k_≠j4))) (fun _ hk=>hk.1.2) (.int .i64 jK)) (fun _ hk=>hk.1.2) (.int .i64 js)) (fun _ hk=>hk.1.2) (.slice jF jp.length jG)) (fun _ hk=>hk.2) (.int .i64 jR)) (fun _ hk=>hk.2) (.int .i64 jv)) (fun _ hk=>hk.2) (.slice jH jq.length jI)) (fun _ hk=>⟨hk.1.1.1,⟨hk.1.1.2.1,⟨hk.1.1.2.2.1,⟨hk.1.1.2.2.2.1,⟨hk.1.1.2.2.2.2.1,hk.1.1.2.2.2.2.2⟩⟩⟩⟩⟩))⟩,⟨(aZ (aZ (aZ (aZ (aZ (aZ ja.out je.out _) je.out _) je.out _) jg.out _) jg.out _) jg.out _)⟩,⟨(aZ (aZ (aZ (aZ (aZ (aZ j7.out jc.out _) jc.out _) jc.out _) jf.out _) jf.out _) jf.out _)⟩,⟨(aZ (aZ (aZ (aM (aM (aM jb.out 0 _ rfl) 1 _ rfl) 2 _ rfl) ji.out _) ji.out _) ji.out _)⟩,⟨(aM (aM (aM (aZ (aZ (aZ jd.out jh.out _) jh.out _) jh.out _) 0 _ rfl) 1 _ rfl) 2 _ rfl)⟩,⟨rA⟩⟩
   case rest=>
    clear qf
    obtain ⟨kq,q1,rfl,HA,HJ11,jD,jE,ja,j7,jb,jd,HB⟩:=hcut
    cases kq with
    |zero=>exact absurd HA.out (by simp [bZ.j0])
    |succ Ym=>
     have H:=HA.out
     clear HA
     simp only [bZ.j0] at H
     by_cases zf:q1=true
     ·subst zf
      rw [if_pos rfl] at H
      obtain ⟨q0,qv,H⟩:=bsm H
      (try dsimp only at H)
      have QW:=am qv
      clear qv
      by_cases qo:q0≥0
      ·rw [if_pos qo] at H
       have qw:decide (0≤q0)=true:=decide_eq_true qo
       clear qo
       by_cases qp:q0≤99999
       ·rw [if_pos qp] at H
        have qx:decide (q0≤99999)=true:=decide_eq_true qp
        clear qp
        simp only [Option.some.injEq,Prod.mk.injEq] at H
        obtain ⟨rfl,rfl,rfl⟩:=H
        have Zn:=jS.out
        have Zo:=jT.out
        have Zp:=je.out
        have Zq:=jl.out
        have Zr:=jg.out
        have Zs:=jm.out
        obtain ⟨zg,zh,zi,zj,zk,zl⟩:=fZ ja.out
        have Zt:=jj.out
        have Zu:=jc.out
        have Zv:=ji.out
        have Zw:=jh.out
        obtain ⟨zm,zn,zo,zp,zq,zr⟩:=fZ jb.out
        have Zx:=jk.out
        have Zy:=jf.out
        obtain ⟨zs,zt,zu,zv,zw,zx⟩:=fZ jd.out
        go_wp2_with (first|((with_reducible refine aN (f:=94) rfl ?_);refine gl_ 39 Try.func94 #[.int .i64 jo, .int .i64 js, .int .i64 jv] ?_;(with_reducible refine (nS.calls jo js jv q0 _ QW.out).mono ?_);rintro e w' ⟨rfl,⟨nd,rfl⟩⟩;refine ⟨_,rfl,?_⟩;(try (rw [oP wc];generalize hq_:World.drewN wc _=wc;replace jD:Aside0 (Kd.N k32 32 wc w.heap.size (fun k_=>(w.heap.size≤k_)∧some k_≠(.slice jH jq.length jI:Value).ownBlock∧k_≠j8∧k_≠j6∧k_≠j3∧k_≠j4) (.slice jF jp.length jG) jp):=⟨by rw [← hq_];exact (aN_ jD.out)⟩;replace jE:Aside0 (Kd.N k32 32 wc w.heap.size (fun k_=>(w.heap.size≤k_)∧some k_≠(.slice jF jp.length jG:Value).ownBlock∧k_≠j8∧k_≠j6∧k_≠j3∧k_≠j4) (.slice jH jq.length jI) jq):=⟨by rw [← hq_];exact (aN_ jE.out)⟩;replace ja:Aside0 (wc.heap[j8]?=some (.cells #[.int .i64 jo, .int .i64 jr, .slice (some j5) j9.length jt] 32 (0,0))):=⟨by rw [← hq_];exact (aG_ ja.out)⟩;replace j7:Aside0 (wc.heap[j6]?=some (.cells #[.int .i64 0, .int .i64 0, .slice none 0 0] 32 (0,0))):=⟨by rw [← hq_];exact (aG_ j7.out)⟩;replace jb:Aside0 (wc.heap[j3]?=some (.cells #[.int .i64 jK, .int .i64 js, .slice jF jp.length jG] 32 (0,0))):=⟨by rw [← hq_];exact (aG_ jb.out)⟩;replace jd:Aside0 (wc.heap[j4]?=some (.cells #[.int .i64 jR, .int .i64 jv, .slice jH jq.length jI] 32 (0,0))):=⟨by rw [← hq_];exact (aG_ jd.out)⟩;replace HB:Aside0 (Below w.heap.size w wc):=⟨by rw [← hq_];exact rA⟩;clear hq_;obtain ⟨zy,zz⟩:=mJ ja.out;have zA:wc.cell? ⟨j8,1,none⟩=some (.int .i64 jr):=(aA ja.out 1).trans rfl;have zB:=aU ja.out 1;have zC:wc.cell? ⟨j8,2,none⟩=some (.slice (some j5) j9.length jt):=(aA ja.out 2).trans rfl;have zD:=aU ja.out 2;obtain ⟨zE,zF⟩:=mJ j7.out;have zG:wc.cell? ⟨j6,1,none⟩=some (.int .i64 0):=(aA j7.out 1).trans rfl;have zH:=aU j7.out 1;have zI:wc.cell? ⟨j6,2,none⟩=some (.slice none 0 0):=(aA j7.out 2).trans rfl;have zJ:=aU j7.out 2;obtain ⟨zK,zL⟩:=mJ jb.out;have zM:wc.cell? ⟨j3,1,none⟩=some (.int .i64 js):=(aA jb.out 1).trans rfl;have zN:=aU jb.out 1;have zO:wc.cell? ⟨j3,2,none⟩=some (.slice jF jp.length jG):=(aA jb.out 2).trans rfl;have zP:=aU jb.out 2;obtain ⟨zQ,zR⟩:=mJ jd.out;have zS:wc.cell? ⟨j4,1,none⟩=some (.int .i64 jv):=(aA jd.out 1).trans rfl;have zT:=aU jd.out 1;have zU:wc.cell? ⟨j4,2,none⟩=some (.slice jH jq.length jI):=(aA jd.out 2).trans rfl;have zV:=aU jd.out 2));obtain ⟨zW,zX,zY,zZ,J0,J1⟩:=fZ j7.out))
        refine bodyPost_ret (results_cell_row rfl _ _ j6 32 #[.int .i64 0, .int .i64 q0, .slice none 0 0] (0,0) _ rfl (aM (aM (aM j7.out 0 _ rfl) 1 _ rfl) 2 _ rfl) Try.underlying32 rfl (by kernel_rfl)) rfl ?_
        exact ⟨_,iM,by first|exact Kd.oU _ _ _ _ _|exact Kd.sP _ _ _ _ _|exact Kd.sU _ _ _ _ _|exact Kd.sQ _ _ _ _ _|exact Kd.sS _ _ _ _ _,rA⟩
       rw [if_neg qp] at H
       have qx:decide (q0≤99999)=false:=decide_eq_false qp
       clear qp
       obtain ⟨ql,hy_⟩:∃ y_:List (S32),y_=(([(⟨jK,js,jp⟩:S32),(⟨jR,jv,jq⟩:S32)]:List (S32))):=⟨_,rfl⟩
       replace H:(some (jo,0,ql))=some (r1,r2,r3):=rx_
       have q9:=am hy_
       clear hy_
       simp only [Option.some.injEq,Prod.mk.injEq] at H
       obtain ⟨rfl,rfl,rfl⟩:=H
       have Zz:=jS.out
       have ZA:=jT.out
       have ZB:=je.out
       have ZC:=jl.out
       have ZD:=jg.out
       have ZE:=jm.out
       obtain ⟨J2,J3,J4,J5,J6,J7⟩:=fZ ja.out
       have ZF:=jj.out
       have ZG:=jc.out
       have ZH:=ji.out
       have ZI:=jh.out
       obtain ⟨J8,J9,Ja,Jb,Jc,Jd⟩:=fZ jb.out
       have ZJ:=jk.out
       have ZK:=jf.out
       obtain ⟨Je,Jf,Jg,Jh,Ji,Jj⟩:=fZ jd.out
       go_wp2_with (first|((with_reducible refine aN (f:=94) rfl ?_);refine gl_ 39 Try.func94 #[.int .i64 jo, .int .i64 js, .int .i64 jv] ?_;(with_reducible refine (nS.calls jo js jv q0 _ QW.out).mono ?_);rintro e w' ⟨rfl,⟨nd,rfl⟩⟩;refine ⟨_,rfl,?_⟩;(try (rw [oP wc];generalize hq_:World.drewN wc _=wc;replace jD:Aside0 (Kd.N k32 32 wc w.heap.size (fun k_=>(w.heap.size≤k_)∧some k_≠(.slice jH jq.length jI:Value).ownBlock∧k_≠j8∧k_≠j6∧k_≠j3∧k_≠j4) (.slice jF jp.length jG) jp):=⟨by rw [← hq_];exact (aN_ jD.out)⟩;replace jE:Aside0 (Kd.N k32 32 wc w.heap.size (fun k_=>(w.heap.size≤k_)∧some k_≠(.slice jF jp.length jG:Value).ownBlock∧k_≠j8∧k_≠j6∧k_≠j3∧k_≠j4) (.slice jH jq.length jI) jq):=⟨by rw [← hq_];exact (aN_ jE.out)⟩;replace ja:Aside0 (wc.heap[j8]?=some (.cells #[.int .i64 jo, .int .i64 jr, .slice (some j5) j9.length jt] 32 (0,0))):=⟨by rw [← hq_];exact (aG_ ja.out)⟩;replace j7:Aside0 (wc.heap[j6]?=some (.cells #[.int .i64 0, .int .i64 0, .slice none 0 0] 32 (0,0))):=⟨by rw [← hq_];exact (aG_ j7.out)⟩;replace jb:Aside0 (wc.heap[j3]?=some (.cells #[.int .i64 jK, .int .i64 js, .slice jF jp.length jG] 32 (0,0))):=⟨by rw [← hq_];exact (aG_ jb.out)⟩;replace jd:Aside0 (wc.heap[j4]?=some (.cells #[.int .i64 jR, .int .i64 jv, .slice jH jq.length jI] 32 (0,0))):=⟨by rw [← hq_];exact (aG_ jd.out)⟩;replace HB:Aside0 (Below w.heap.size w wc):=⟨by rw [← hq_];exact rA⟩;clear hq_;obtain ⟨Jk,Jl⟩:=mJ ja.out;have Jm:wc.cell? ⟨j8,1,none⟩=some (.int .i64 jr):=(aA ja.out 1).trans rfl;have Jn:=aU ja.out 1;have Jo:wc.cell? ⟨j8,2,none⟩=some (.slice (some j5) j9.length jt):=(aA ja.out 2).trans rfl;have Jp:=aU ja.out 2;obtain ⟨Jq,Jr⟩:=mJ j7.out;have Js:wc.cell? ⟨j6,1,none⟩=some (.int .i64 0):=(aA j7.out 1).trans rfl;have Jt:=aU j7.out 1;have Ju:wc.cell? ⟨j6,2,none⟩=some (.slice none 0 0):=(aA j7.out 2).trans rfl;have Jv:=aU j7.out 2;obtain ⟨Jw,Jx⟩:=mJ jb.out;have Jy:wc.cell? ⟨j3,1,none⟩=some (.int .i64 js):=(aA jb.out 1).trans rfl;have Jz:=aU jb.out 1;have JA:wc.cell? ⟨j3,2,none⟩=some (.slice jF jp.length jG):=(aA jb.out 2).trans rfl;have JB:=aU jb.out 2;obtain ⟨JC,JD⟩:=mJ jd.out;have JE:wc.cell? ⟨j4,1,none⟩=some (.int .i64 jv):=(aA jd.out 1).trans rfl;have JF:=aU jd.out 1;have JG:wc.cell? ⟨j4,2,none⟩=some (.slice jH jq.length jI):=(aA jd.out 2).trans rfl;have JH:=aU jd.out 2)))|((with_reducible refine bQ (N:=52) rfl ?_);refine Kd.oQ k32 _ 32 rfl (N':=52) rfl (xs:=([(⟨jK,js,jp⟩:S32),(⟨jR,jv,jq⟩:S32)]:List (S32))) (inner:=[.int .i64 jK, .int .i64 js, .slice jF jp.length jG, .int .i64 jR, .int .i64 jv, .slice jH jq.length jI]) (ok:=(fun k_=>(w.heap.size≤k_)∧k_≠j8∧k_≠j6∧k_≠j3∧k_≠j4)) (okp:=(fun k_=>(w.heap.size≤k_)∧k_≠j8∧k_≠j6∧k_≠j3∧k_≠j4)) rn_ ?hp (fun _ hk=>hk) ((show ∀ k_,wc.heap.size≤k_→(fun k_=>(w.heap.size≤k_)∧k_≠j8∧k_≠j6∧k_≠j3∧k_≠j4) k_ from fun k_ hk=>⟨(Nat.le_trans (aJ rA) hk),fG ja.out k_ hk,fG j7.out k_ hk,fG jb.out k_ hk,fG jd.out k_ hk⟩) _ (Nat.le_refl _)) (Below.refl _ _) (Nat.le_refl _) (by simp) ?_;(case hp=>exact (eY.c3 (show Kd.FK k32 _ _ (⟨jK,js,jp⟩:S32) [.int .i64 jK, .int .i64 js, .slice jF jp.length jG] from (uH _ _ (⟨jK,js,jp⟩:S32) (Kd.bN (Kd.aD (ok':=(fun k_=>(w.heap.size≤k_)∧k_≠j8∧k_≠j6∧k_≠j3∧k_≠j4)) (jD.out) (fun k_ hk=>⟨hk.1,⟨hk.2.2.1,⟨hk.2.2.2.1,⟨hk.2.2.2.2.1,hk.2.2.2.2.2⟩⟩⟩⟩))).2.1 (Kd.N_F (Kd.aD (ok':=(fun k_=>(w.heap.size≤k_)∧k_≠j8∧k_≠j6∧k_≠j3∧k_≠j4)) (jD.out) (fun k_ hk=>⟨hk.1,⟨hk.2.2.1,⟨hk.2.2.2.1,⟨hk.2.2.2.2.1,hk.2.2.2.2.2⟩⟩⟩⟩))))) (eY.c3 (show Kd.FK k32 _ _ (⟨jR,jv,jq⟩:S32) [.int .i64 jR, .int .i64 jv, .slice jH jq.length jI] from (uH _ _ (⟨jR,jv,jq⟩:S32) (Kd.bN (Kd.aD (ok':=(fun k_=>(w.heap.size≤k_)∧k_≠j8∧k_≠j6∧k_≠j3∧k_≠j4)) (jE.out) (fun k_ hk=>⟨hk.1,⟨hk.2.2.1,⟨hk.2.2.2.1,⟨hk.2.2.2.2.1,hk.2.2.2.2.2⟩⟩⟩⟩))).2.1 (Kd.N_F (Kd.aD (ok':=(fun k_=>(w.heap.size≤k_)∧k_≠j8∧k_≠j6∧k_≠j3∧k_≠j4)) (jE.out) (fun k_ hk=>⟨hk.1,⟨hk.2.2.1,⟨hk.2.2.2.1,⟨hk.2.2.2.2.1,hk.2.2.2.2.2⟩⟩⟩⟩))))) (eY.none _ _))));intro Yn Yr ho67 hb hg_ hnew_;clear hg_ hnew_;(first|rw [← q9.out] at ho67|(simp only [Int.reduceToNat] at ho67;rw [← q9.out] at ho67));have qa:=am (Kd.dH ho67 (aJ rA));replace ja:=bbP ja hb;replace j7:=bbP j7 hb;replace jb:=bbP jb hb;replace jd:=bbP jd hb;replace HB:=am (aG rA hb);clear jD jE hb ho67;obtain ⟨qy,qz,QX⟩:=Kd.dD qa.out;subst QX;obtain ⟨JI,JJ,JK,JL,JM,JN⟩:=fZ j7.out))
       refine bodyPost_ret (results_cell_row rfl _ _ j6 32 #[.int .i64 jo, .int .i64 0, .slice qy ql.length qz] (0,0) _ rfl (aM (aM (aM j7.out 0 _ rfl) 1 _ rfl) 2 _ rfl) Try.underlying32 rfl (by kernel_rfl)) rfl ?_
       exact ⟨_,iM,eO (Kd.aD (Kd.aT (p:=⟨j6,2,none⟩) (Kd.aT (p:=⟨j6,1,none⟩) (Kd.aT (p:=⟨j6,0,none⟩) (Kd.aD qa.out (fun k_ hk=>(⟨hk,hk.2.2.1⟩:_∧k_≠j6))) (fun _ hk=>hk.2) (.int .i64 jo)) (fun _ hk=>hk.2) (.int .i64 0)) (fun _ hk=>hk.2) (.slice qy ql.length qz)) (fun _ hk=>hk.1.1)),rA⟩
      rw [if_neg qo] at H
      have qw:decide (0≤q0)=false:=decide_eq_false qo
      clear qo
      obtain ⟨qm,hy_⟩:∃ y_:List (S32),y_=(([(⟨jK,js,jp⟩:S32),(⟨jR,jv,jq⟩:S32)]:List (S32))):=⟨_,rfl⟩
      replace H:(some (jo,0,qm))=some (r1,r2,r3):=rx_
      have qb:=am hy_
      clear hy_
      simp only [Option.some.injEq,Prod.mk.injEq] at H
      obtain ⟨rfl,rfl,rfl⟩:=H
      have ZL:=jS.out
      have ZM:=jT.out
      have ZN:=je.out
      have ZO:=jl.out
      have ZP:=jg.out
      have ZQ:=jm.out
      obtain ⟨JO,JP,JQ,JR,JS,JT⟩:=fZ ja.out
      have ZR:=jj.out
      have ZS:=jc.out
      have ZT:=ji.out
      have ZU:=jh.out
      obtain ⟨JU,JV,JW,JX,JY,JZ⟩:=fZ jb.out
      have ZV:=jk.out
      have ZW:=jf.out
      obtain ⟨Q0,Q1,Q2,Q3,Q4,Q5⟩:=fZ jd.out
      go_wp2_with (first|((with_reducible refine aN (f:=94) rfl ?_);refine gl_ 39 Try.func94 #[.int .i64 jo, .int .i64 js, .int .i64 jv] ?_;(with_reducible refine (nS.calls jo js jv q0 _ QW.out).mono ?_);rintro e w' ⟨rfl,⟨nd,rfl⟩⟩;refine ⟨_,rfl,?_⟩;(try (rw [oP wc];generalize hq_:World.drewN wc _=wc;replace jD:Aside0 (Kd.N k32 32 wc w.heap.size (fun k_=>(w.heap.size≤k_)∧some k_≠(.slice jH jq.length jI:Value).ownBlock∧k_≠j8∧k_≠j6∧k_≠j3∧k_≠j4) (.slice jF jp.length jG) jp):=⟨by rw [← hq_];exact (aN_ jD.out)⟩;replace jE:Aside0 (Kd.N k32 32 wc w.heap.size (fun k_=>(w.heap.size≤k_)∧some k_≠(.slice jF jp.length jG:Value).ownBlock∧k_≠j8∧k_≠j6∧k_≠j3∧k_≠j4) (.slice jH jq.length jI) jq):=⟨by rw [← hq_];exact (aN_ jE.out)⟩;replace ja:Aside0 (wc.heap[j8]?=some (.cells #[.int .i64 jo, .int .i64 jr, .slice (some j5) j9.length jt] 32 (0,0))):=⟨by rw [← hq_];exact (aG_ ja.out)⟩;replace j7:Aside0 (wc.heap[j6]?=some (.cells #[.int .i64 0, .int .i64 0, .slice none 0 0] 32 (0,0))):=⟨by rw [← hq_];exact (aG_ j7.out)⟩;replace jb:Aside0 (wc.heap[j3]?=some (.cells #[.int .i64 jK, .int .i64 js, .slice jF jp.length jG] 32 (0,0))):=⟨by rw [← hq_];exact (aG_ jb.out)⟩;replace jd:Aside0 (wc.heap[j4]?=some (.cells #[.int .i64 jR, .int .i64 jv, .slice jH jq.length jI] 32 (0,0))):=⟨by rw [← hq_];exact (aG_ jd.out)⟩;replace HB:Aside0 (Below w.heap.size w wc):=⟨by rw [← hq_];exact rA⟩;clear hq_;obtain ⟨Q6,Q7⟩:=mJ ja.out;have Q8:wc.cell? ⟨j8,1,none⟩=some (.int .i64 jr):=(aA ja.out 1).trans rfl;have Q9:=aU ja.out 1;have Qa:wc.cell? ⟨j8,2,none⟩=some (.slice (some j5) j9.length jt):=(aA ja.out 2).trans rfl;have Qb:=aU ja.out 2;obtain ⟨qA,qB⟩:=mJ j7.out;have qC:wc.cell? ⟨j6,1,none⟩=some (.int .i64 0):=(aA j7.out 1).trans rfl;have qD:=aU j7.out 1;have qE:wc.cell? ⟨j6,2,none⟩=some (.slice none 0 0):=(aA j7.out 2).trans rfl;have qF:=aU j7.out 2;obtain ⟨qG,qH⟩:=mJ jb.out;have qI:wc.cell? ⟨j3,1,none⟩=some (.int .i64 js):=(aA jb.out 1).trans rfl;have qJ:=aU jb.out 1;have qK:wc.cell? ⟨j3,2,none⟩=some (.slice jF jp.length jG):=(aA jb.out 2).trans rfl;have qL:=aU jb.out 2;obtain ⟨qM,qN⟩:=mJ jd.out;have qO:wc.cell? ⟨j4,1,none⟩=some (.int .i64 jv):=(aA jd.out 1).trans rfl;have qP:=aU jd.out 1;have qQ:wc.cell? ⟨j4,2,none⟩=some (.slice jH jq.length jI):=(aA jd.out 2).trans rfl;have qR:=aU jd.out 2)))|((with_reducible refine bQ (N:=52) rfl ?_);refine Kd.oQ k32 _ 32 rfl (N':=52) rfl (xs:=([(⟨jK,js,jp⟩:S32),(⟨jR,jv,jq⟩:S32)]:List (S32))) (inner:=[.int .i64 jK, .int .i64 js, .slice jF jp.length jG, .int .i64 jR, .int .i64 jv, .slice jH jq.length jI]) (ok:=(fun k_=>(w.heap.size≤k_)∧k_≠j8∧k_≠j6∧k_≠j3∧k_≠j4)) (okp:=(fun k_=>(w.heap.size≤k_)∧k_≠j8∧k_≠j6∧k_≠j3∧k_≠j4)) rn_ ?hp (fun _ hk=>hk) ((show ∀ k_,wc.heap.size≤k_→(fun k_=>(w.heap.size≤k_)∧k_≠j8∧k_≠j6∧k_≠j3∧k_≠j4) k_ from fun k_ hk=>⟨(Nat.le_trans (aJ rA) hk),fG ja.out k_ hk,fG j7.out k_ hk,fG jb.out k_ hk,fG jd.out k_ hk⟩) _ (Nat.le_refl _)) (Below.refl _ _) (Nat.le_refl _) (by simp) ?_;(case hp=>exact (eY.c3 (show Kd.FK k32 _ _ (⟨jK,js,jp⟩:S32) [.int .i64 jK, .int .i64 js, .slice jF jp.length jG] from (uH _ _ (⟨jK,js,jp⟩:S32) (Kd.bN (Kd.aD (ok':=(fun k_=>(w.heap.size≤k_)∧k_≠j8∧k_≠j6∧k_≠j3∧k_≠j4)) (jD.out) (fun k_ hk=>⟨hk.1,⟨hk.2.2.1,⟨hk.2.2.2.1,⟨hk.2.2.2.2.1,hk.2.2.2.2.2⟩⟩⟩⟩))).2.1 (Kd.N_F (Kd.aD (ok':=(fun k_=>(w.heap.size≤k_)∧k_≠j8∧k_≠j6∧k_≠j3∧k_≠j4)) (jD.out) (fun k_ hk=>⟨hk.1,⟨hk.2.2.1,⟨hk.2.2.2.1,⟨hk.2.2.2.2.1,hk.2.2.2.2.2⟩⟩⟩⟩))))) (eY.c3 (show Kd.FK k32 _ _ (⟨jR,jv,jq⟩:S32) [.int .i64 jR, .int .i64 jv, .slice jH jq.length jI] from (uH _ _ (⟨jR,jv,jq⟩:S32) (Kd.bN (Kd.aD (ok':=(fun k_=>(w.heap.size≤k_)∧k_≠j8∧k_≠j6∧k_≠j3∧k_≠j4)) (jE.out) (fun k_ hk=>⟨hk.1,⟨hk.2.2.1,⟨hk.2.2.2.1,⟨hk.2.2.2.2.1,hk.2.2.2.2.2⟩⟩⟩⟩))).2.1 (Kd.N_F (Kd.aD (ok':=(fun k_=>(w.heap.size≤k_)∧k_≠j8∧k_≠j6∧k_≠j3∧k_≠j4)) (jE.out) (fun k_ hk=>⟨hk.1,⟨hk.2.2.1,⟨hk.2.2.2.1,⟨hk.2.2.2.2.1,hk.2.2.2.2.2⟩⟩⟩⟩))))) (eY.none _ _))));intro Yo Ys ho80 hb hg_ hnew_;clear hg_ hnew_;(first|rw [← qb.out] at ho80|(simp only [Int.reduceToNat] at ho80;rw [← qb.out] at ho80));have qc:=am (Kd.dH ho80 (aJ rA));replace ja:=bbP ja hb;replace j7:=bbP j7 hb;replace jb:=bbP jb hb;replace jd:=bbP jd hb;replace HB:=am (aG rA hb);clear jD jE hb ho80;obtain ⟨qS,qT,QY⟩:=Kd.dD qc.out;subst QY;obtain ⟨Qc,Qd,Qe,Qf,Qg,Qh⟩:=fZ j7.out))
      refine bodyPost_ret (results_cell_row rfl _ _ j6 32 #[.int .i64 jo, .int .i64 0, .slice qS qm.length qT] (0,0) _ rfl (aM (aM (aM j7.out 0 _ rfl) 1 _ rfl) 2 _ rfl) Try.underlying32 rfl (by kernel_rfl)) rfl ?_
      exact ⟨_,iM,eO (Kd.aD (Kd.aT (p:=⟨j6,2,none⟩) (Kd.aT (p:=⟨j6,1,none⟩) (Kd.aT (p:=⟨j6,0,none⟩) (Kd.aD qc.out (fun k_ hk=>(⟨hk,hk.2.2.1⟩:_∧k_≠j6))) (fun _ hk=>hk.2) (.int .i64 jo)) (fun _ hk=>hk.2) (.int .i64 0)) (fun _ hk=>hk.2) (.slice qS qm.length qT)) (fun _ hk=>hk.1.1)),rA⟩
     replace zf:=Bool.eq_false_iff.mpr zf
     subst zf
     rw [if_neg (show ¬ (false=true) by decide)] at H
     obtain ⟨qn,hy_⟩:∃ y_:List (S32),y_=(([(⟨jK,js,jp⟩:S32),(⟨jR,jv,jq⟩:S32)]:List (S32))):=⟨_,rfl⟩
     replace H:(some (jo,0,qn))=some (r1,r2,r3):=rx_
     have qd:=am hy_
     clear hy_
     simp only [Option.some.injEq,Prod.mk.injEq] at H
     obtain ⟨rfl,rfl,rfl⟩:=H
     have ZX:=jS.out
     have ZY:=jT.out
     have ZZ:=je.out
     have Y0:=jl.out
     have Y1:=jg.out
     have Y2:=jm.out
     obtain ⟨Qi,Qj,Qk,Ql,Qm,Qn⟩:=fZ ja.out
     have Y3:=jj.out
     have Y4:=jc.out
     have Y5:=ji.out
     have Y6:=jh.out
     obtain ⟨Qo,Qp,Qq,Qr,Qs,Qt⟩:=fZ jb.out
     have Y7:=jk.out
     have Y8:=jf.out
     obtain ⟨Qu,Qv,Qw,Qx,Qy,Qz⟩:=fZ jd.out
     go_wp2_with (first|((with_reducible refine bQ (N:=52) rfl ?_);refine Kd.oQ k32 _ 32 rfl (N':=52) rfl (xs:=([(⟨jK,js,jp⟩:S32),(⟨jR,jv,jq⟩:S32)]:List (S32))) (inner:=[.int .i64 jK, .int .i64 js, .slice jF jp.length jG, .int .i64 jR, .int .i64 jv, .slice jH jq.length jI]) (ok:=(fun k_=>(w.heap.size≤k_)∧k_≠j8∧k_≠j6∧k_≠j3∧k_≠j4)) (okp:=(fun k_=>(w.heap.size≤k_)∧k_≠j8∧k_≠j6∧k_≠j3∧k_≠j4)) rn_ ?hp (fun _ hk=>hk) ((show ∀ k_,wc.heap.size≤k_→(fun k_=>(w.heap.size≤k_)∧k_≠j8∧k_≠j6∧k_≠j3∧k_≠j4) k_ from fun k_ hk=>⟨(Nat.le_trans (aJ rA) hk),fG ja.out k_ hk,fG j7.out k_ hk,fG jb.out k_ hk,fG jd.out k_ hk⟩) _ (Nat.le_refl _)) (Below.refl _ _) (Nat.le_refl _) (by simp) ?_;(case hp=>exact (eY.c3 (show Kd.FK k32 _ _ (⟨jK,js,jp⟩:S32) [.int .i64 jK, .int .i64 js, .slice jF jp.length jG] from (uH _ _ (⟨jK,js,jp⟩:S32) (Kd.bN (Kd.aD (ok':=(fun k_=>(w.heap.size≤k_)∧k_≠j8∧k_≠j6∧k_≠j3∧k_≠j4)) (jD.out) (fun k_ hk=>⟨hk.1,⟨hk.2.2.1,⟨hk.2.2.2.1,⟨hk.2.2.2.2.1,hk.2.2.2.2.2⟩⟩⟩⟩))).2.1 (Kd.N_F (Kd.aD (ok':=(fun k_=>(w.heap.size≤k_)∧k_≠j8∧k_≠j6∧k_≠j3∧k_≠j4)) (jD.out) (fun k_ hk=>⟨hk.1,⟨hk.2.2.1,⟨hk.2.2.2.1,⟨hk.2.2.2.2.1,hk.2.2.2.2.2⟩⟩⟩⟩))))) (eY.c3 (show Kd.FK k32 _ _ (⟨jR,jv,jq⟩:S32) [.int .i64 jR, .int .i64 jv, .slice jH jq.length jI] from (uH _ _ (⟨jR,jv,jq⟩:S32) (Kd.bN (Kd.aD (ok':=(fun k_=>(w.heap.size≤k_)∧k_≠j8∧k_≠j6∧k_≠j3∧k_≠j4)) (jE.out) (fun k_ hk=>⟨hk.1,⟨hk.2.2.1,⟨hk.2.2.2.1,⟨hk.2.2.2.2.1,hk.2.2.2.2.2⟩⟩⟩⟩))).2.1 (Kd.N_F (Kd.aD (ok':=(fun k_=>(w.heap.size≤k_)∧k_≠j8∧k_≠j6∧k_≠j3∧k_≠j4)) (jE.out) (fun k_ hk=>⟨hk.1,⟨hk.2.2.1,⟨hk.2.2.2.1,⟨hk.2.2.2.2.1,hk.2.2.2.2.2⟩⟩⟩⟩))))) (eY.none _ _))));intro Yp Yt ho93 hb hg_ hnew_;clear hg_ hnew_;(first|rw [← qd.out] at ho93|(simp only [Int.reduceToNat] at ho93;rw [← qd.out] at ho93));have qe:=am (Kd.dH ho93 (aJ rA));replace ja:=bbP ja hb;replace j7:=bbP j7 hb;replace jb:=bbP jb hb;replace jd:=bbP jd hb;replace HB:=am (aG rA hb);clear jD jE hb ho93;obtain ⟨qU,qV,QZ⟩:=Kd.dD qe.out;subst QZ;obtain ⟨QA,QB,QC,QD,QE,QF⟩:=fZ j7.out))
     refine bodyPost_ret (results_cell_row rfl _ _ j6 32 #[.int .i64 jo, .int .i64 0, .slice qU qn.length qV] (0,0) _ rfl (aM (aM (aM j7.out 0 _ rfl) 1 _ rfl) 2 _ rfl) Try.underlying32 rfl (by kernel_rfl)) rfl ?_
     exact ⟨_,iM,eO (Kd.aD (Kd.aT (p:=⟨j6,2,none⟩) (Kd.aT (p:=⟨j6,1,none⟩) (Kd.aT (p:=⟨j6,0,none⟩) (Kd.aD qe.out (fun k_ hk=>(⟨hk,hk.2.2.1⟩:_∧k_≠j6))) (fun _ hk=>hk.2) (.int .i64 jo)) (fun _ hk=>hk.2) (.int .i64 0)) (fun _ hk=>hk.2) (.slice qU qn.length qV)) (fun _ hk=>hk.1.1)),rA⟩
  rw [if_neg c10] at H
  exact absurd H (by simp)
 rw [if_neg c8] at H
 exact absurd H (by simp)
theorem aX.mono_l:∀ k,(∀ y0,LeO (aX.f k y0) (aX.f (k + 1) y0))∧(∀ y0 y1 y2 y3,LeO (aX.l0 k y0 y1 y2 y3) (aX.l0 (k + 1) y0 y1 y2 y3))∧(∀ y0 y1 y2 y3 y4 y5 y6 y7 y8 y9 j3 j4 j5 j6,LeO (aX.j1 k y0 y1 y2 y3 y4 y5 y6 y7 y8 y9 j3 j4 j5 j6) (aX.j1 (k + 1) y0 y1 y2 y3 y4 y5 y6 y7 y8 y9 j3 j4 j5 j6))∧(∀ y0 y1 y2 y3 y4 y5 y6 y7 y8 y9 j3 j4 j5 j6,LeO (aX.j2 k y0 y1 y2 y3 y4 y5 y6 y7 y8 y9 j3 j4 j5 j6) (aX.j2 (k + 1) y0 y1 y2 y3 y4 y5 y6 y7 y8 y9 j3 j4 j5 j6))
 |0=>⟨fun _ r h=>by simp [aX.f] at h,fun _ _ _ _ r h=>by simp [aX.l0] at h,fun _ _ _ _ _ _ _ _ _ _ _ _ _ _ r h=>by simp [aX.j1] at h,fun _ _ _ _ _ _ _ _ _ _ _ _ _ _ r h=>by simp [aX.j2] at h⟩
 |k + 1=>by
  obtain ⟨ih0,ih1,ih2,ih3⟩:=aX.mono_l k
  refine ⟨?_,?_,?_,?_⟩
  ·intro y0
   unfold aX.f
   have m0:=@bZ.mono
   exact mo_
  ·intro y0 y1 y2 y3
   unfold aX.l0
   have m0:=@bZ.mono
   exact mo_
  ·intro y0 y1 y2 y3 y4 y5 y6 y7 y8 y9 j3 j4 j5 j6
   unfold aX.j1
   have m0:=@bZ.mono
   exact mo_
  ·intro y0 y1 y2 y3 y4 y5 y6 y7 y8 y9 j3 j4 j5 j6
   unfold aX.j2
   have m0:=@bZ.mono
   exact mo_
theorem aX.mono:∀ a0 k,LeO (aX.f k a0) (aX.f (k + 1) a0):=by
 intro a0 k
 obtain ⟨ih0,ih1,ih2,ih3⟩:=aX.mono_l k
 exact ih0 a0
def aX.T5:Bool × List (List Nat × List Nat):=(true,[([],[]),([0],[0]),([1],[1]),([],[]),([3],[3]),([4,2],[4]),([],[]),([6],[6]),([7,5],[7]),([0,1,2,3,4,6,7],[]),([9,2,8,0,1,2,3,4,6,7],[2,9]),([0,1,2,3,4,5,6,7,9,10],[]),([11,5,10,0,1,2,3,4,5,6,7,9,10],[5,11]),([0,1,2,3,4,5,6,7,8,9,10,11,12],[]),([13,8,12,0,1,2,3,4,5,6,7,8,9,10,11,12],[8,13])])
def aX.B5:List Nat:=[0,1,3,0,8,31,0,64,255,223,1023,2047,4095,8191,16383]
theorem aX.WT:lJ .any (opsOf Try.f46 5)=aX.T5:=by kernel_rfl
theorem aX.LH:iW aX.T5.2 aX.B5=true:=by kernel_rfl
theorem aX.calls (k:Nat):∀ (A0:Option Addr) (c0:Nat) (l0:List (S35)) (r:List (S35)) (w:World) (hr0:Kd.C k35 w A0 l0.length l0) (hc0:l0.length≤c0) (h:aX.f k l0=some r),
  Calls Try.prog 46 #[.slice A0 l0.length c0] w fun e w'=>∃ v0_:Value,e= .returned (v0_)∧Kd.N k35 35 w' w.heap.size (fun k_=>(w.heap.size≤k_)) v0_ r∧Below w.heap.size w w':=by
 induction k using Nat.strongRecOn with
 | _ k ih=>
 intro A0 c0 l0 r w hr0 hc0 h
 cases k with
 |zero=>exact absurd h (by simp [aX.f])
 |succ k=>
 simp only [aX.f] at h
 have hu35:=Try.underlying35
 have hu32:=Try.underlying32
 have Za:=am hr0
 have Zn:=am hc0
 clear hr0 hc0
 have HB:=am (Below.refl w.heap.size w)
 have H:(aX.l0 k ([]:List (S35)) l0 (l0.length:Int) 0)=some r:=h
 clear h
 have H':=am H
 clear H
 go_enter Try.func46,Try.ntmps46
 go_wp2
 go_loopg [3,9] k (fun kq v3 v9 w'=>∃ (jk:List (S35)) (j4:Int),v9= .int .i64 j4∧Aside0 (aX.l0 kq jk l0 (l0.length:Int) j4=some r)∧Aside0 (kq≤k)∧Aside0 (Kd.N k35 35 w' w.heap.size (fun k_=>(w.heap.size≤k_)) v3 jk)∧Aside0 (Below w.heap.size w w'))
 case atStart=>exact ⟨(([]:List (S35))),(0),sd_,H',⟨Nat.le_refl _⟩,⟨by first|exact Kd.oU _ _ _ _ _|exact Kd.sP _ _ _ _ _|exact Kd.sU _ _ _ _ _|exact Kd.sQ _ _ _ _ _|exact Kd.sS _ _ _ _ _⟩,⟨gK⟩⟩
 case round=>
  clear H'
  obtain ⟨jk,j4,rfl,HA,jB,j6,HB⟩:=hrel
  cases gk with
  |zero=>exact absurd HA.out (by simp [aX.l0])
  |succ k1=>
   have H:=HA.out
   clear HA
   simp only [aX.l0] at H
   by_cases c2:j4 < (l0.length:Int)
   ·rw [if_pos c2] at H
    have qg:decide (j4 < (l0.length:Int))=true:=decide_eq_true c2
    clear c2
    by_cases c3:0≤j4
    ·rw [if_pos c3] at H
     have qt:decide (0≤j4)=true:=decide_eq_true c3
     clear c3
     by_cases c4:j4 < (l0.length:Int)
     ·rw [if_pos c4] at H
      have qu:decide (j4 < (l0.length:Int))=true:=decide_eq_true c4
      clear c4
      obtain ⟨jg,A5,H⟩:=bsa H
      (try dsimp only at H)
      obtain ⟨jh,A6,H⟩:=bsa H
      (try dsimp only at H)
      obtain ⟨⟨jj,jl,ji⟩,A7,H⟩:=bsa H
      (try dsimp only at H)
      have QO:=am H
      clear H
      have qv:0≤(j4:Int):=of_decide_eq_true gL
      have qw:j4 < (l0.length:Int):=of_decide_eq_true gL
      obtain ⟨Zb,jm,jn,jo,jp,jq,jr,Zc,js,jt,ju,jv,jw,jx,jy,jz,hl63_5,hi63_5,hl63_6,hi63_6,hl63_7,hi63_7⟩:=uS Za.out j4 qv qw
      cases Zc
      replace js:=(HB.out.cell (World.block_lt_of_cell? w _ js)).trans js
      replace jt:=(HB.out.cell (World.block_lt_of_cell? w _ jt)).trans jt
      replace ju:=(HB.out.cell (World.block_lt_of_cell? w _ ju)).trans ju
      replace jv:=(HB.out.cell (World.block_lt_of_cell? w _ jv)).trans jv
      replace jw:=(HB.out.cell (World.block_lt_of_cell? w _ jw)).trans jw
      replace jx:=(HB.out.cell (World.block_lt_of_cell? w _ jx)).trans jx
      replace jy:=(HB.out.cell (World.block_lt_of_cell? w _ jy)).trans jy
      replace jz:=(HB.out.cell (World.block_lt_of_cell? w _ jz)).trans jz
      have qh:=am hi63_5
      have qi:=am hl63_5
      clear hi63_5 hl63_5
      have qj:=am hi63_6
      have qk:=am hl63_6
      clear hi63_6 hl63_6
      have ql:=am hi63_7
      have qm:=am hl63_7
      clear hi63_7 hl63_7
      replace qv:=eq_true qv
      replace qw:=eq_true qw
      try go_wp2_with (first|((with_reducible refine bQ (N:=5) rfl ?_);refine dJ rfl (N:=5) rfl (cs:=#[.int .i64 0, .int .i64 0, .int .i64 0, .int .i64 0, .int .i64 0, .slice none 0 0, .slice none 0 0, .slice none 0 0]) (t:=35) rn_ ?_;intro j3 hg w9 hbox hb;replace j6:=am (Kd.dG (Kd.fC (aN_ j6.out) j3 (Nat.le_of_eq hg.symm)) hb);have j5:=am (hbox);have Zd:=am ((by rw [hg];exact (aJ gK):w.heap.size≤j3));have GE65:=am ((by rw [hg];exact (aJ gK):w.heap.size≤j3));replace HB:=am (aG gK hb);clear hb hbox hg;obtain ⟨jH,jI,jJ,jK,jL,jM,jN,jO,jP,jQ,jR,jS,jT,jU,jV,jW⟩:=eX j5.out))
      have QP:Aside0 (Kd.N k35 35 ((((((((w9.setCell ⟨j3,0,none⟩ (.int .i64 ((aC l0 j4).f0))).setCell ⟨j3,1,none⟩ (.int .i64 ((aC l0 j4).f1))).setCell ⟨j3,2,none⟩ (.int .i64 ((aC l0 j4).f2))).setCell ⟨j3,3,none⟩ (.int .i64 ((aC l0 j4).f3.f0))).setCell ⟨j3,4,none⟩ (.int .i64 ((aC l0 j4).f3.f1))).setCell ⟨j3,5,none⟩ (.slice jm ((aC l0 j4).f3.f2).length jn)).setCell ⟨j3,6,none⟩ (.slice jo ((aC l0 j4).f4).length jp)).setCell ⟨j3,7,none⟩ (.slice jq ((aC l0 j4).f5).length jr)) w.heap.size (fun k_=>(w.heap.size≤k_)∧k_≠j3) u3 jk):=⟨eO (Kd.aD (Kd.aT (p:=⟨j3,7,none⟩) (Kd.aT (p:=⟨j3,6,none⟩) (Kd.aT (p:=⟨j3,5,none⟩) (Kd.aT (p:=⟨j3,4,none⟩) (Kd.aT (p:=⟨j3,3,none⟩) (Kd.aT (p:=⟨j3,2,none⟩) (Kd.aT (p:=⟨j3,1,none⟩) (Kd.aT (p:=⟨j3,0,none⟩) (Kd.aD j6.out (fun k_ hk=>(⟨hk,hk.2⟩:_∧k_≠j3))) (fun _ hk=>hk.2) (.int .i64 ((aC l0 j4).f0))) (fun _ hk=>hk.2) (.int .i64 ((aC l0 j4).f1))) (fun _ hk=>hk.2) (.int .i64 ((aC l0 j4).f2))) (fun _ hk=>hk.2) (.int .i64 ((aC l0 j4).f3.f0))) (fun _ hk=>hk.2) (.int .i64 ((aC l0 j4).f3.f1))) (fun _ hk=>hk.2) (.slice jm ((aC l0 j4).f3.f2).length jn)) (fun _ hk=>hk.2) (.slice jo ((aC l0 j4).f4).length jp)) (fun _ hk=>hk.2) (.slice jq ((aC l0 j4).f5).length jr)) (fun _ hk=>⟨hk.1.1,hk.1.2⟩))⟩
      have QQ:Aside0 (((((((((w9.setCell ⟨j3,0,none⟩ (.int .i64 ((aC l0 j4).f0))).setCell ⟨j3,1,none⟩ (.int .i64 ((aC l0 j4).f1))).setCell ⟨j3,2,none⟩ (.int .i64 ((aC l0 j4).f2))).setCell ⟨j3,3,none⟩ (.int .i64 ((aC l0 j4).f3.f0))).setCell ⟨j3,4,none⟩ (.int .i64 ((aC l0 j4).f3.f1))).setCell ⟨j3,5,none⟩ (.slice jm ((aC l0 j4).f3.f2).length jn)).setCell ⟨j3,6,none⟩ (.slice jo ((aC l0 j4).f4).length jp)).setCell ⟨j3,7,none⟩ (.slice jq ((aC l0 j4).f5).length jr)).heap[j3]?=some (.cells #[.int .i64 ((aC l0 j4).f0), .int .i64 ((aC l0 j4).f1), .int .i64 ((aC l0 j4).f2), .int .i64 ((aC l0 j4).f3.f0), .int .i64 ((aC l0 j4).f3.f1), .slice jm ((aC l0 j4).f3.f2).length jn, .slice jo ((aC l0 j4).f4).length jp, .slice jq ((aC l0 j4).f5).length jr] 35 (0,0))):=⟨(aM (aM (aM (aM (aM (aM (aM (aM j5.out 0 _ rfl) 1 _ rfl) 2 _ rfl) 3 _ rfl) 4 _ rfl) 5 _ rfl) 6 _ rfl) 7 _ rfl)⟩
      have QR:Aside0 (Below w.heap.size w ((((((((w9.setCell ⟨j3,0,none⟩ (.int .i64 ((aC l0 j4).f0))).setCell ⟨j3,1,none⟩ (.int .i64 ((aC l0 j4).f1))).setCell ⟨j3,2,none⟩ (.int .i64 ((aC l0 j4).f2))).setCell ⟨j3,3,none⟩ (.int .i64 ((aC l0 j4).f3.f0))).setCell ⟨j3,4,none⟩ (.int .i64 ((aC l0 j4).f3.f1))).setCell ⟨j3,5,none⟩ (.slice jm ((aC l0 j4).f3.f2).length jn)).setCell ⟨j3,6,none⟩ (.slice jo ((aC l0 j4).f4).length jp)).setCell ⟨j3,7,none⟩ (.slice jq ((aC l0 j4).f5).length jr))):=⟨kV⟩
      (try clear j6)
      (try clear j5)
      (try clear HB)
      generalize ((((((((w9.setCell ⟨j3,0,none⟩ (.int .i64 ((aC l0 j4).f0))).setCell ⟨j3,1,none⟩ (.int .i64 ((aC l0 j4).f1))).setCell ⟨j3,2,none⟩ (.int .i64 ((aC l0 j4).f2))).setCell ⟨j3,3,none⟩ (.int .i64 ((aC l0 j4).f3.f0))).setCell ⟨j3,4,none⟩ (.int .i64 ((aC l0 j4).f3.f1))).setCell ⟨j3,5,none⟩ (.slice jm ((aC l0 j4).f3.f2).length jn)).setCell ⟨j3,6,none⟩ (.slice jo ((aC l0 j4).f4).length jp)).setCell ⟨j3,7,none⟩ (.slice jq ((aC l0 j4).f5).length jr))=Ze at QP QQ QR ⊢
      have j6:=QP
      have j5:=QQ
      have HB:=QR
      clear QP QQ QR
      replace j6:=am (Kd.nO j6.out)
      replace j5:=am (bT j5.out)
      replace HB:=am (bG HB.out)
      refine mR (n:=15) (S:=fun w'=>w'.cell? ⟨j3,0,none⟩=some (.int .i64 ((aC l0 j4).f0))∧w'.cell? ⟨j3,1,none⟩=some (.int .i64 ((aC l0 j4).f1))∧w'.cell? ⟨j3,2,none⟩=some (.int .i64 ((aC l0 j4).f2))∧w'.cell? ⟨j3,3,none⟩=some (.int .i64 ((aC l0 j4).f3.f0))∧w'.cell? ⟨j3,4,none⟩=some (.int .i64 ((aC l0 j4).f3.f1))∧w'.cell? ⟨j3,5,none⟩=some (.slice jm ((aC l0 j4).f3.f2).length jn)∧w'.cell? ⟨j3,6,none⟩=some (.slice jo ((aC l0 j4).f4).length jp)∧w'.cell? ⟨j3,7,none⟩=some (.slice jq ((aC l0 j4).f5).length jr)) (ds:=[10,12,14]) (bz 15 0) (by kernel_rfl) rfl rfl ⟨(aA j5.out 0).trans rfl,(aA j5.out 1).trans rfl,(aA j5.out 2).trans rfl,(aA j5.out 3).trans rfl,(aA j5.out 4).trans rfl,(aA j5.out 5).trans rfl,(aA j5.out 6).trans rfl,(aA j5.out 7).trans rfl⟩ (fun hHeld=>?_);refine kE aX.WT aX.LH (fun HT_ HW_=>?_)
      generalize Ze.drew=Zo at j6 j5 HB hHeld ⊢
      refine pr_ 0 13 (bz 15 1) HT_ ?_
      refine pr_ 3 16 (bz 15 9) HT_ ?_
      refine pr_ 6 19 (bz 15 73) HT_ ?_
      refine aCe 1 14 (bz 15 75) HT_ HW_ hHeld ?_
      refine aCe 4 17 (bz 15 91) HT_ HW_ hHeld ?_
      refine aCe 7 20 (bz 15 219) HT_ HW_ hHeld ?_
      refine lH (i:=2) (N:=some 15) (bz 15 223) rfl rfl (gG HT_.out (by kernel_rfl)) (by decide) (fun K hK=>?_)
      refine kU Try.func46 (by kernel_rfl) rfl #[.slice jo ((aC l0 j4).f4).length jp] (by rfl) rfl rfl nX ?_
      with_reducible refine (ih k1 (by have:=jB.out;omega) _ _ ((aC l0 j4).f4) jg _ (aC_ (Kd.aV qj.out HB.out)) qk.out A5.out).mono ?_
      rintro e Zp ⟨Z3,rfl,ho0,hb⟩
      refine ⟨_,rfl,?_⟩
      have jA:=am (Kd.dH (Kd.aD (ok':=fun k_=>(w.heap.size≤k_)∧some k_≠(u3:Value).ownBlock∧k_≠j3) ho0 (fun k_ hk_=>⟨(Nat.le_trans (aJ kV) hk_),(Kd.fresh' (Kd.iH (aN_ j6.out)) k_ hk_),(fG j5.out k_ hk_)⟩)) (aJ kV))
      replace j6:=am (Kd.fM (aN_ j6.out) (by first|exact Kd.dL ho0|exact Kd.dL (Kd.R_N ho0)) hb)
      replace j5:=bbP j5 hb
      replace HB:=am (aG kV hb)
      (try clear hb)
      (try clear hb2)
      (try clear hk)
      (try clear hi)
      (try clear ho0)
      refine hK.out _ _ ⟨(aA j5.out 0).trans rfl,(aA j5.out 1).trans rfl,(aA j5.out 2).trans rfl,(aA j5.out 3).trans rfl,(aA j5.out 4).trans rfl,(aA j5.out 5).trans rfl,(aA j5.out 6).trans rfl,(aA j5.out 7).trans rfl⟩ (fun hHeld=>?_)
      clear hK K
      refine fB (a':=?_) ?_ ?_
      rotate_left
      ·show Act.put _ (some 15) _=_
       simp only [Act.put,List.setIfInBounds_toArray,List.set_cons_zero,List.set_cons_succ,dS,dV]
       rfl
      refine pr_ 9 22 (bz 15 735) HT_ ?_
      refine lH (i:=5) (N:=some 18) (bz 15 767) rfl rfl (gG HT_.out (by kernel_rfl)) (by decide) (fun K hK=>?_)
      refine kU Try.func46 (by kernel_rfl) rfl #[.slice jq ((aC l0 j4).f5).length jr] (by rfl) rfl rfl nX ?_
      with_reducible refine (ih k1 (by have:=jB.out;omega) _ _ ((aC l0 j4).f5) jh _ (aC_ (Kd.aV ql.out HB.out)) qm.out A6.out).mono ?_
      rintro e Zq ⟨Zf,rfl,ho0,hb⟩
      refine ⟨_,rfl,?_⟩
      have jG:=am (Kd.dH (Kd.aD (ok':=fun k_=>(w.heap.size≤k_)∧some k_≠(u3:Value).ownBlock∧some k_≠(Z3:Value).ownBlock∧k_≠j3) ho0 (fun k_ hk_=>⟨(Nat.le_trans (aJ kV) hk_),(Kd.fresh' (Kd.iH (aN_ j6.out)) k_ hk_),(Kd.fresh' (Kd.iH (aN_ jA.out)) k_ hk_),(fG j5.out k_ hk_)⟩)) (aJ kV))
      replace j6:=am (Kd.fM (aN_ j6.out) (by first|exact Kd.dL ho0|exact Kd.dL (Kd.R_N ho0)) hb)
      replace jA:=am (Kd.fM (aN_ jA.out) (by first|exact Kd.dL ho0|exact Kd.dL (Kd.R_N ho0)) hb)
      replace j5:=bbP j5 hb
      replace HB:=am (aG kV hb)
      (try clear hb)
      (try clear hb2)
      (try clear hk)
      (try clear hi)
      (try clear ho0)
      refine hK.out _ _ ⟨(aA j5.out 0).trans rfl,(aA j5.out 1).trans rfl,(aA j5.out 2).trans rfl,(aA j5.out 3).trans rfl,(aA j5.out 4).trans rfl,(aA j5.out 5).trans rfl,(aA j5.out 6).trans rfl,(aA j5.out 7).trans rfl⟩ (fun hHeld=>?_)
      clear hK K
      refine fB (a':=?_) ?_ ?_
      rotate_left
      ·show Act.put _ (some 18) _=_
       simp only [Act.put,List.setIfInBounds_toArray,List.set_cons_zero,List.set_cons_succ,dS,dV]
       rfl
      refine lH (i:=8) (N:=some 21) (bz 15 1023) rfl rfl (gG HT_.out (by kernel_rfl)) (by decide) (fun K hK=>?_)
      refine kU Try.func78 (by kernel_rfl) rfl #[.agg #[.int .i64 ((aC l0 j4).f3.f0), .int .i64 ((aC l0 j4).f3.f1), .slice jm ((aC l0 j4).f3.f2).length jn]] (by rfl) rfl rfl nX ?_
      with_reducible refine (bZ.calls k1 ((aC l0 j4).f3.f0) ((aC l0 j4).f3.f1) _ _ ((aC l0 j4).f3.f2) jj jl ji _ (aC_ (Kd.aV qh.out HB.out)) qi.out A7.out).mono ?_
      rintro e qx ⟨Zr,rfl,ho0,hb⟩
      refine ⟨_,rfl,?_⟩
      have qf:=am (Kd.dH (Kd.aD (ok':=fun k_=>(w.heap.size≤k_)∧some k_≠(u3:Value).ownBlock∧some k_≠(Z3:Value).ownBlock∧some k_≠(Zf:Value).ownBlock∧k_≠j3) ho0 (fun k_ hk_=>⟨(Nat.le_trans (aJ kV) hk_),(Kd.fresh' (Kd.iH (aN_ j6.out)) k_ hk_),(Kd.fresh' (Kd.iH (aN_ jA.out)) k_ hk_),(Kd.fresh' (Kd.iH (aN_ jG.out)) k_ hk_),(fG j5.out k_ hk_)⟩)) (aJ kV))
      replace j6:=am (Kd.fM (aN_ j6.out) (by first|exact Kd.dL ho0|exact Kd.dL (Kd.R_N ho0)) hb)
      replace jA:=am (Kd.fM (aN_ jA.out) (by first|exact Kd.dL ho0|exact Kd.dL (Kd.R_N ho0)) hb)
      replace jG:=am (Kd.fM (aN_ jG.out) (by first|exact Kd.dL ho0|exact Kd.dL (Kd.R_N ho0)) hb)
      replace j5:=bbP j5 hb
      replace HB:=am (aG kV hb)
      (try clear hb)
      (try clear hb2)
      (try clear hk)
      (try clear hi)
      (try clear ho0)
      obtain ⟨j9,ja,qy⟩:=Kd.dD jA.out
      (first|subst qy|(injection qy with f1_ f2_ f3_;have f4_:=f1_.symm;have f5_:=f3_.symm;clear f1_ f2_ f3_;subst f4_;subst f5_))
      obtain ⟨jb,jc,qz⟩:=Kd.dD jG.out
      (first|subst qz|(injection qz with f1_ f2_ f3_;have f4_:=f1_.symm;have f5_:=f3_.symm;clear f1_ f2_ f3_;subst f4_;subst f5_))
      obtain ⟨j7,j8,qA⟩:=Kd.dD qf.out
      (first|subst qA|(injection qA with f1_ f2_ f3_;have f4_:=f1_.symm;have f5_:=f3_.symm;clear f1_ f2_ f3_;subst f4_;subst f5_))
      refine hK.out _ _ ⟨(aA j5.out 0).trans rfl,(aA j5.out 1).trans rfl,(aA j5.out 2).trans rfl,(aA j5.out 3).trans rfl,(aA j5.out 4).trans rfl,(aA j5.out 5).trans rfl,(aA j5.out 6).trans rfl,(aA j5.out 7).trans rfl⟩ (fun hHeld=>?_)
      clear hK K
      refine fB (a':=?_) ?_ ?_
      rotate_left
      ·show Act.put _ (some 21) _=_
       simp only [Act.put,List.setIfInBounds_toArray,List.set_cons_zero,List.set_cons_succ,dS,dV]
       rfl
      refine wN (i:=10) (N:=none) (bz 15 2047) rfl rfl (gG HT_.out (by kernel_rfl)) (by decide) (fun K hK=>?_)
      have Zg:qx.cell? ⟨j3,6,none⟩=some (.slice jo ((aC l0 j4).f4).length jp):=(aA j5.out 6).trans rfl
      have hfs17:=aU j5.out 6
      refine rO (w1:=?_) (by rfl) rfl ?_ ?_
      rotate_left
      ·go_simp
       rfl
      refine hK.out _ _ ?_
      clear hK K
      refine pr_ 11 23 (bz 15 4095) HT_ ?_
      refine wN (i:=12) (N:=none) (bz 15 8191) rfl rfl (gG HT_.out (by kernel_rfl)) (by decide) (fun K hK=>?_)
      have Zh:qx.cell? ⟨j3,7,none⟩=some (.slice jq ((aC l0 j4).f5).length jr):=(aA j5.out 7).trans rfl
      have hfs19:=aU j5.out 7
      refine rO (w1:=?_) (by rfl) rfl ?_ ?_
      rotate_left
      ·go_simp
       rfl
      refine hK.out _ _ ?_
      clear hK K
      refine pr_ 13 24 (bz 15 16383) HT_ ?_
      refine wN (i:=14) (N:=none) (bz 15 32767) rfl rfl (gG HT_.out (by kernel_rfl)) (by decide) (fun K hK=>?_)
      have Zi:qx.cell? ⟨j3,3,none⟩=some (.int .i64 ((aC l0 j4).f3.f0)):=(aA j5.out 3).trans rfl
      have hfs20:=aU j5.out 3
      have Zj:qx.cell? ⟨j3,4,none⟩=some (.int .i64 ((aC l0 j4).f3.f1)):=(aA j5.out 4).trans rfl
      have hfs21:=aU j5.out 4
      have Zk:qx.cell? ⟨j3,5,none⟩=some (.slice jm ((aC l0 j4).f3.f2).length jn):=(aA j5.out 5).trans rfl
      have hfs23:=aU j5.out 5
      refine rO (w1:=?_) (by rfl) rfl ?_ ?_
      rotate_left
      ·go_simp
       rfl
      refine hK.out _ _ ?_
      clear hK K
      refine pE (lV HT_.out (by kernel_rfl)) ?_
      obtain ⟨jX,jY,jZ,q0,q1,q2,q3,q4,q5,q6,q7,q8,q9,qa,qb,qc⟩:=eX j5.out
      go_upto_region 8 with (fail)
      go_cut [33] (fun Zl wc=>∃ (kq:Nat) (qd:Bool),Zl= .bool qd∧Aside0 (aX.j1 kq jk (jj == 0) l0 (l0.length:Int) j4 qd ((aC l0 j4).f0) ((aC l0 j4).f1) ((aC l0 j4).f2) jj jl ji jg jh=some r)∧Aside0 (kq≤k1)∧Aside0 (Kd.N k35 35 wc w.heap.size (fun k_=>(w.heap.size≤k_)∧some k_≠((.slice j7 ji.length j8):Value).ownBlock∧some k_≠((.slice j9 jg.length ja):Value).ownBlock∧some k_≠((.slice jb jh.length jc):Value).ownBlock∧k_≠j3) u3 jk)∧Aside0 (Kd.N k32 32 wc w.heap.size (fun k_=>(w.heap.size≤k_)∧some k_≠(u3:Value).ownBlock∧some k_≠((.slice j9 jg.length ja):Value).ownBlock∧some k_≠((.slice jb jh.length jc):Value).ownBlock∧k_≠j3) (.slice j7 ji.length j8) ji)∧Aside0 (Kd.N k35 35 wc w.heap.size (fun k_=>(w.heap.size≤k_)∧some k_≠(u3:Value).ownBlock∧some k_≠((.slice j7 ji.length j8):Value).ownBlock∧some k_≠((.slice jb jh.length jc):Value).ownBlock∧k_≠j3) (.slice j9 jg.length ja) jg)∧Aside0 (Kd.N k35 35 wc w.heap.size (fun k_=>(w.heap.size≤k_)∧some k_≠(u3:Value).ownBlock∧some k_≠((.slice j7 ji.length j8):Value).ownBlock∧some k_≠((.slice j9 jg.length ja):Value).ownBlock∧k_≠j3) (.slice jb jh.length jc) jh)∧Aside0 (wc.heap[j3]?=some (.cells #[.int .i64 ((aC l0 j4).f0), .int .i64 ((aC l0 j4).f1), .int .i64 ((aC l0 j4).f2), .int .i64 jj, .int .i64 jl,(.slice j7 ji.length j8),(.slice j9 jg.length ja),(.slice jb jh.length jc)] 35 (0,0)))∧Aside0 (Below w.heap.size w wc))
      case first=>
       have H:=QO.out
       clear QO
       by_cases qn:((aC l0 j4).f0)=2
       ·rw [if_pos qn] at H
        have jE:(((aC l0 j4).f0) == 2)=true:=beq_iff_eq.mpr qn
        have qB:(((aC l0 j4).f0) != 2)=false:=bne_eq_false_iff_eq.mpr qn
        clear qn
        (first|rw [jE]|(simp only [dS,dV];rw [jE])|skip)
        by_cases qo:jj=0
        ·rw [if_pos qo] at H
         have qC:(jj == 0)=true:=beq_iff_eq.mpr qo
         have qD:(jj != 0)=false:=bne_eq_false_iff_eq.mpr qo
         clear qo
         have H':=am H
         clear H
         obtain ⟨qS,qT,qU,qV,qW,qX,qY,qZ,z0,z1,z2,z3,z4,z5,z6,z7⟩:=eX j5.out
         go_wp2
         go_meet
         case rel=>exact ⟨_,((jl != 0)),sd_,H',⟨by have:=jB.out;first|omega|exact Nat.le_refl _⟩,⟨eO (Kd.aD (Kd.aT (p:=⟨j3,5,none⟩) (Kd.aT (p:=⟨j3,4,none⟩) (Kd.aT (p:=⟨j3,3,none⟩) (Kd.aT (p:=⟨j3,7,none⟩) (Kd.aT (p:=⟨j3,6,none⟩) (Kd.aD j6.out (fun k_ hk=>(⟨hk,hk.1.1.1.2⟩:_∧k_≠j3))) (fun _ hk=>hk.2) (.slice j9 jg.length ja)) (fun _ hk=>hk.2) (.slice jb jh.length jc)) (fun _ hk=>hk.2) (.int .i64 jj)) (fun _ hk=>hk.2) (.int .i64 jl)) (fun _ hk=>hk.2) (.slice j7 ji.length j8)) (fun _ hk=>⟨hk.1.1.1.1.1,⟨hk.1.2,⟨hk.1.1.1.2,⟨hk.1.1.2,hk.1.1.1.1.2⟩⟩⟩⟩))⟩,⟨eO (Kd.aD (Kd.aT (p:=⟨j3,5,none⟩) (Kd.aT (p:=⟨j3,4,none⟩) (Kd.aT (p:=⟨j3,3,none⟩) (Kd.aT (p:=⟨j3,7,none⟩) (Kd.aT (p:=⟨j3,6,none⟩) (Kd.aD qf.out (fun k_ hk=>(⟨hk,hk.2.2.2.2⟩:_∧k_≠j3))) (fun _ hk=>hk.2) (.slice j9 jg.length ja)) (fun _ hk=>hk.2) (.slice jb jh.length jc)) (fun _ hk=>hk.2) (.int .i64 jj)) (fun _ hk=>hk.2) (.int .i64 jl)) (fun _ hk=>hk.2) (.slice j7 ji.length j8)) (fun _ hk=>⟨hk.1.1,⟨hk.1.2.1,⟨hk.1.2.2.1,⟨hk.1.2.2.2.1,hk.1.2.2.2.2⟩⟩⟩⟩))⟩,⟨eO (Kd.aD (Kd.aT (p:=⟨j3,5,none⟩) (Kd.aT (p:=⟨j3,4,none⟩) (Kd.aT (p:=⟨j3,3,none⟩) (Kd.aT (p:=⟨j3,7,none⟩) (Kd.aT (p:=⟨j3,6,none⟩) (Kd.aD jA.out (fun k_ hk=>(⟨hk,hk.1.1.2.2⟩:_∧k_≠j3))) (fun _ hk=>hk.2) (.slice j9 jg.length ja)) (fun _ hk=>hk.2) (.slice jb jh.length jc)) (fun _ hk=>hk.2) (.int .i64 jj)) (fun _ hk=>hk.2) (.int .i64 jl)) (fun _ hk=>hk.2) (.slice j7 ji.length j8)) (fun _ hk=>⟨hk.1.1.1.1,⟨hk.1.1.1.2.1,⟨hk.1.2,⟨hk.1.1.2,hk.1.1.1.2.2⟩⟩⟩⟩))⟩,⟨eO (Kd.aD (Kd.aT (p:=⟨j3,5,none⟩) (Kd.aT (p:=⟨j3,4,none⟩) (Kd.aT (p:=⟨j3,3,none⟩) (Kd.aT (p:=⟨j3,7,none⟩) (Kd.aT (p:=⟨j3,6,none⟩) (Kd.aD jG.out (fun k_ hk=>(⟨hk,hk.1.2.2.2⟩:_∧k_≠j3))) (fun _ hk=>hk.2) (.slice j9 jg.length ja)) (fun _ hk=>hk.2) (.slice jb jh.length jc)) (fun _ hk=>hk.2) (.int .i64 jj)) (fun _ hk=>hk.2) (.int .i64 jl)) (fun _ hk=>hk.2) (.slice j7 ji.length j8)) (fun _ hk=>⟨hk.1.1.1,⟨hk.1.1.2.1,⟨hk.1.2,⟨hk.1.1.2.2.1,hk.1.1.2.2.2⟩⟩⟩⟩))⟩,⟨(aM (aM (aM (aM (aM j5.out 6 _ rfl) 7 _ rfl) 3 _ rfl) 4 _ rfl) 5 _ rfl)⟩,⟨kV⟩⟩
        rw [if_neg qo] at H
        have qC:(jj == 0)=false:=beq_eq_false_iff_ne.mpr qo
        have qD:(jj != 0)=true:=bne_iff_ne.mpr qo
        have H':=am H
        clear H
        obtain ⟨z8,z9,za,zb,zc,zd,ze,zf,zg,zh,zi,zj,zk,zl,zm,zn⟩:=eX j5.out
        go_wp2
        go_meet
        case rel=>exact ⟨_,(false),sd_,H',⟨by have:=jB.out;first|omega|exact Nat.le_refl _⟩,⟨eO (Kd.aD (Kd.aT (p:=⟨j3,5,none⟩) (Kd.aT (p:=⟨j3,4,none⟩) (Kd.aT (p:=⟨j3,3,none⟩) (Kd.aT (p:=⟨j3,7,none⟩) (Kd.aT (p:=⟨j3,6,none⟩) (Kd.aD j6.out (fun k_ hk=>(⟨hk,hk.1.1.1.2⟩:_∧k_≠j3))) (fun _ hk=>hk.2) (.slice j9 jg.length ja)) (fun _ hk=>hk.2) (.slice jb jh.length jc)) (fun _ hk=>hk.2) (.int .i64 jj)) (fun _ hk=>hk.2) (.int .i64 jl)) (fun _ hk=>hk.2) (.slice j7 ji.length j8)) (fun _ hk=>⟨hk.1.1.1.1.1,⟨hk.1.2,⟨hk.1.1.1.2,⟨hk.1.1.2,hk.1.1.1.1.2⟩⟩⟩⟩))⟩,⟨eO (Kd.aD (Kd.aT (p:=⟨j3,5,none⟩) (Kd.aT (p:=⟨j3,4,none⟩) (Kd.aT (p:=⟨j3,3,none⟩) (Kd.aT (p:=⟨j3,7,none⟩) (Kd.aT (p:=⟨j3,6,none⟩) (Kd.aD qf.out (fun k_ hk=>(⟨hk,hk.2.2.2.2⟩:_∧k_≠j3))) (fun _ hk=>hk.2) (.slice j9 jg.length ja)) (fun _ hk=>hk.2) (.slice jb jh.length jc)) (fun _ hk=>hk.2) (.int .i64 jj)) (fun _ hk=>hk.2) (.int .i64 jl)) (fun _ hk=>hk.2) (.slice j7 ji.length j8)) (fun _ hk=>⟨hk.1.1,⟨hk.1.2.1,⟨hk.1.2.2.1,⟨hk.1.2.2.2.1,hk.1.2.2.2.2⟩⟩⟩⟩))⟩,⟨eO (Kd.aD (Kd.aT (p:=⟨j3,5,none⟩) (Kd.aT (p:=⟨j3,4,none⟩) (Kd.aT (p:=⟨j3,3,none⟩) (Kd.aT (p:=⟨j3,7,none⟩) (Kd.aT (p:=⟨j3,6,none⟩) (Kd.aD jA.out (fun k_ hk=>(⟨hk,hk.1.1.2.2⟩:_∧k_≠j3))) (fun _ hk=>hk.2) (.slice j9 jg.length ja)) (fun _ hk=>hk.2) (.slice jb jh.length jc)) (fun _ hk=>hk.2) (.int .i64 jj)) (fun _ hk=>hk.2) (.int .i64 jl)) (fun _ hk=>hk.2) (.slice j7 ji.length j8)) (fun _ hk=>⟨hk.1.1.1.1,⟨hk.1.1.1.2.1,⟨hk.1.2,⟨hk.1.1.2,hk.1.1.1.2.2⟩⟩⟩⟩))⟩,⟨eO (Kd.aD (Kd.aT (p:=⟨j3,5,none⟩) (Kd.aT (p:=⟨j3,4,none⟩) (Kd.aT (p:=⟨j3,3,none⟩) (Kd.aT (p:=⟨j3,7,none⟩) (Kd.aT (p:=⟨j3,6,none⟩) (Kd.aD jG.out (fun k_ hk=>(⟨hk,hk.1.2.2.2⟩:_∧k_≠j3))) (fun _ hk=>hk.2) (.slice j9 jg.length ja)) (fun _ hk=>hk.2) (.slice jb jh.length jc)) (fun _ hk=>hk.2) (.int .i64 jj)) (fun _ hk=>hk.2) (.int .i64 jl)) (fun _ hk=>hk.2) (.slice j7 ji.length j8)) (fun _ hk=>⟨hk.1.1.1,⟨hk.1.1.2.1,⟨hk.1.2,⟨hk.1.1.2.2.1,hk.1.1.2.2.2⟩⟩⟩⟩))⟩,⟨(aM (aM (aM (aM (aM j5.out 6 _ rfl) 7 _ rfl) 3 _ rfl) 4 _ rfl) 5 _ rfl)⟩,⟨kV⟩⟩
       rw [if_neg qn] at H
       have jE:(((aC l0 j4).f0) == 2)=false:=beq_eq_false_iff_ne.mpr qn
       have qB:(((aC l0 j4).f0) != 2)=true:=bne_iff_ne.mpr qn
       (first|rw [jE]|(simp only [dS,dV];rw [jE])|skip)
       have H':=am H
       clear H
       obtain ⟨zo,zp,zq,zr,zs,zt,zu,zv,zw,zx,zy,zz,zA,zB,zC,zD⟩:=eX j5.out
       go_wp2
       go_meet
       case rel=>exact ⟨_,(false),sd_,H',⟨by have:=jB.out;first|omega|exact Nat.le_refl _⟩,⟨eO (Kd.aD (Kd.aT (p:=⟨j3,5,none⟩) (Kd.aT (p:=⟨j3,4,none⟩) (Kd.aT (p:=⟨j3,3,none⟩) (Kd.aT (p:=⟨j3,7,none⟩) (Kd.aT (p:=⟨j3,6,none⟩) (Kd.aD j6.out (fun k_ hk=>(⟨hk,hk.1.1.1.2⟩:_∧k_≠j3))) (fun _ hk=>hk.2) (.slice j9 jg.length ja)) (fun _ hk=>hk.2) (.slice jb jh.length jc)) (fun _ hk=>hk.2) (.int .i64 jj)) (fun _ hk=>hk.2) (.int .i64 jl)) (fun _ hk=>hk.2) (.slice j7 ji.length j8)) (fun _ hk=>⟨hk.1.1.1.1.1,⟨hk.1.2,⟨hk.1.1.1.2,⟨hk.1.1.2,hk.1.1.1.1.2⟩⟩⟩⟩))⟩,⟨eO (Kd.aD (Kd.aT (p:=⟨j3,5,none⟩) (Kd.aT (p:=⟨j3,4,none⟩) (Kd.aT (p:=⟨j3,3,none⟩) (Kd.aT (p:=⟨j3,7,none⟩) (Kd.aT (p:=⟨j3,6,none⟩) (Kd.aD qf.out (fun k_ hk=>(⟨hk,hk.2.2.2.2⟩:_∧k_≠j3))) (fun _ hk=>hk.2) (.slice j9 jg.length ja)) (fun _ hk=>hk.2) (.slice jb jh.length jc)) (fun _ hk=>hk.2) (.int .i64 jj)) (fun _ hk=>hk.2) (.int .i64 jl)) (fun _ hk=>hk.2) (.slice j7 ji.length j8)) (fun _ hk=>⟨hk.1.1,⟨hk.1.2.1,⟨hk.1.2.2.1,⟨hk.1.2.2.2.1,hk.1.2.2.2.2⟩⟩⟩⟩))⟩,⟨eO (Kd.aD (Kd.aT (p:=⟨j3,5,none⟩) (Kd.aT (p:=⟨j3,4,none⟩) (Kd.aT (p:=⟨j3,3,none⟩) (Kd.aT (p:=⟨j3,7,none⟩) (Kd.aT (p:=⟨j3,6,none⟩) (Kd.aD jA.out (fun k_ hk=>(⟨hk,hk.1.1.2.2⟩:_∧k_≠j3))) (fun _ hk=>hk.2) (.slice j9 jg.length ja)) (fun _ hk=>hk.2) (.slice jb jh.length jc)) (fun _ hk=>hk.2) (.int .i64 jj)) (fun _ hk=>hk.2) (.int .i64 jl)) (fun _ hk=>hk.2) (.slice j7 ji.length j8)) (fun _ hk=>⟨hk.1.1.1.1,⟨hk.1.1.1.2.1,⟨hk.1.2,⟨hk.1.1.2,hk.1.1.1.2.2⟩⟩⟩⟩))⟩,⟨eO (Kd.aD (Kd.aT (p:=⟨j3,5,none⟩) (Kd.aT (p:=⟨j3,4,none⟩) (Kd.aT (p:=⟨j3,3,none⟩) (Kd.aT (p:=⟨j3,7,none⟩) (Kd.aT (p:=⟨j3,6,none⟩) (Kd.aD jG.out (fun k_ hk=>(⟨hk,hk.1.2.2.2⟩:_∧k_≠j3))) (fun _ hk=>hk.2) (.slice j9 jg.length ja)) (fun _ hk=>hk.2) (.slice jb jh.length jc)) (fun _ hk=>hk.2) (.int .i64 jj)) (fun _ hk=>hk.2) (.int .i64 jl)) (fun _ hk=>hk.2) (.slice j7 ji.length j8)) (fun _ hk=>⟨hk.1.1.1,⟨hk.1.1.2.1,⟨hk.1.2,⟨hk.1.1.2.2.1,hk.1.1.2.2.2⟩⟩⟩⟩))⟩,⟨(aM (aM (aM (aM (aM j5.out 6 _ rfl) 7 _ rfl) 3 _ rfl) 4 _ rfl) 5 _ rfl)⟩,⟨kV⟩⟩
      case rest=>
       clear QO
       try clear c2
       try clear qg
       try clear c3
       try clear qt
       try clear c4
       try clear qu
       try clear jH
       try clear jI
       try clear jJ
       try clear jK
       try clear jL
       try clear jM
       try clear jN
       try clear jO
       try clear jX
       try clear jY
       try clear jZ
       try clear q0
       try clear q1
       try clear q2
       try clear q3
       try clear q4
       try clear jP
       try clear jQ
       try clear jR
       try clear jS
       try clear jT
       try clear jU
       try clear jV
       try clear jW
       try clear q5
       try clear q6
       try clear q7
       try clear q8
       try clear q9
       try clear qa
       try clear qb
       try clear qc
       try clear js
       try clear jt
       try clear ju
       try clear jv
       try clear jw
       try clear jx
       try clear jy
       try clear jz
       try clear qv
       try clear qw
       obtain ⟨kq,qd,rfl,HA,HJ7,j6,jd,je,jf,j5,HB⟩:=hcut
       cases kq with
       |zero=>exact absurd HA.out (by simp [aX.j1])
       |succ QS=>
        have H:=HA.out
        clear HA
        simp only [aX.j1] at H
        by_cases qE:qd=true
        ·subst qE
         rw [if_pos rfl] at H
         by_cases zE:jk.length + jg.length < 1256584717458
         ·rw [if_pos zE] at H
          have qF:=am zE
          clear zE
          obtain ⟨Z4,hy_⟩:∃ y_:List (S35),y_=(jk ++ jg):=⟨_,rfl⟩
          replace H:(aX.l0 QS Z4 l0 (l0.length:Int) (wrap64 (j4 + 1)))=some r:=rx_
          have QT:=am hy_
          clear hy_
          have H':=am H
          clear H
          obtain ⟨zF,zG,zH,zI,zJ,zK,zL,zM,zN,zO,zP,zQ,zR,zS,zT,zU⟩:=eX j5.out
          go_wp2_with (first|((with_reducible refine lG (b:= .append) (xs:=#[.tmp 46, .tmp 48]) rfl ?_);at_builtin;refine Kd.oC k35 (w0:=w) w.heap.size rfl (.tmp 46) (.tmp 48) 23 35 (.agg #[(.int .i64 0),(.int .i64 0),(.int .i64 0),(.int .i64 0),(.int .i64 0),(.slice none 0 0),(.slice none 0 0),(.slice none 0 0)]) 112 rfl Try.underlying23 tN rfl (by decide) (by omega) u3 jk jg _ _ _ (fun k_=>(w.heap.size≤k_)∧some k_≠(.slice j7 ji.length j8:Value).ownBlock∧some k_≠(.slice jb jh.length jc:Value).ownBlock∧k_≠j3) (fun k_=>((fun k_=>(w.heap.size≤k_)∧some k_≠(.slice j7 ji.length j8:Value).ownBlock∧some k_≠(.slice jb jh.length jc:Value).ownBlock∧k_≠j3)) k_∧some k_≠(u3:Value).ownBlock) rfl rfl ?aO ?aR (fun _ hk=>hk) ?aF ?aB ?aS ?aL ?_;(case aR=>exact (by skip;exact Kd.N_F (Kd.aD (ok':=(fun k_=>((fun k_=>(w.heap.size≤k_)∧some k_≠(.slice j7 ji.length j8:Value).ownBlock∧some k_≠(.slice jb jh.length jc:Value).ownBlock∧k_≠j3)) k_∧some k_≠(u3:Value).ownBlock)) (je.out) (fun k_ hk=>⟨⟨hk.1,⟨hk.2.2.1,⟨hk.2.2.2.1,hk.2.2.2.2⟩⟩⟩,hk.2.1⟩))));(case aB=>exact kV);(case aF=>exact (fun k_ hk=>⟨(Nat.le_trans (aJ kV) hk),Kd.fresh' (Kd.iH (aN_ jd.out)) k_ hk,Kd.fresh' (Kd.iH (aN_ jf.out)) k_ hk,fG j5.out k_ hk⟩));(case aO=>exact (eO (Kd.aD j6.out (fun _ hk=>⟨hk.1,⟨hk.2.1,⟨hk.2.2.2.1,hk.2.2.2.2⟩⟩⟩))));(case aS=>exact (aJ kV));(case aL=>have:=qF.out;omega);intro Zs Zt ho hb hg hat;rw [← QT.out] at ho;replace jd:=am (Kd.pQ (ok:=(fun k_=>(w.heap.size≤k_)∧some k_≠(.slice j9 jg.length ja:Value).ownBlock∧some k_≠(.slice jb jh.length jc:Value).ownBlock∧k_≠j3)) (eO (Kd.aD jd.out (fun _ hk=>⟨⟨hk.1,⟨hk.2.2.1,⟨hk.2.2.2.1,hk.2.2.2.2⟩⟩⟩,hk.2.1⟩))) hg hat);replace je:=am (Kd.pQ (ok:=(fun k_=>(w.heap.size≤k_)∧some k_≠(.slice j7 ji.length j8:Value).ownBlock∧some k_≠(.slice jb jh.length jc:Value).ownBlock∧k_≠j3)) (eO (Kd.aD je.out (fun _ hk=>⟨⟨hk.1,⟨hk.2.2.1,⟨hk.2.2.2.1,hk.2.2.2.2⟩⟩⟩,hk.2.1⟩))) hg hat);replace jf:=am (Kd.pQ (ok:=(fun k_=>(w.heap.size≤k_)∧some k_≠(.slice j7 ji.length j8:Value).ownBlock∧some k_≠(.slice j9 jg.length ja:Value).ownBlock∧k_≠j3)) (eO (Kd.aD jf.out (fun _ hk=>⟨⟨hk.1,⟨hk.2.2.1,⟨hk.2.2.2.1,hk.2.2.2.2⟩⟩⟩,hk.2.1⟩))) hg hat);replace j5:=am (gV (g:=j3) (o:= .cells #[.int .i64 ((aC l0 j4).f0), .int .i64 ((aC l0 j4).f1), .int .i64 ((aC l0 j4).f2), .int .i64 jj, .int .i64 jl, .slice j7 ji.length j8, .slice j9 jg.length ja, .slice jb jh.length jc] 35 (0,0)) (aG_ j5.out) hg (Kd.yF j6.out (fun _ hk=>hk.2.2.2.2)));replace HB:=am (hb);have QU:=am (ho);clear j6 ho hb hg hat))
          go_roundg QS
          case measure=>have:=jB.out;have:=HJ7.out;omega
          case rel=>exact ⟨(Z4),(wrap64 (j4 + 1)),sd_,H',⟨by have:=jB.out;have:=HJ7.out;omega⟩,⟨eO (Kd.aD QU.out (fun _ hk=>hk.1))⟩,⟨kV⟩⟩
         rw [if_neg zE] at H
         exact absurd H (by simp)
        replace qE:=Bool.eq_false_iff.mpr qE
        subst qE
        rw [if_neg (show ¬ (false=true) by decide)] at H
        have qp:=am H
        clear H
        go_upto_region 10 with (fail)
        go_cut [50] (fun Zm wc=>∃ (kq:Nat) (jC:Bool),Zm= .bool jC∧Aside0 (aX.j2 kq jk (jj == 0) l0 (l0.length:Int) j4 jC ((aC l0 j4).f0) ((aC l0 j4).f1) ((aC l0 j4).f2) jj jl ji jg jh=some r)∧Aside0 (kq≤QS)∧Aside0 (Kd.N k35 35 wc w.heap.size (fun k_=>(w.heap.size≤k_)∧some k_≠((.slice j7 ji.length j8):Value).ownBlock∧some k_≠((.slice j9 jg.length ja):Value).ownBlock∧some k_≠((.slice jb jh.length jc):Value).ownBlock∧k_≠j3) u3 jk)∧Aside0 (Kd.N k32 32 wc w.heap.size (fun k_=>(w.heap.size≤k_)∧some k_≠(u3:Value).ownBlock∧some k_≠((.slice j9 jg.length ja):Value).ownBlock∧some k_≠((.slice jb jh.length jc):Value).ownBlock∧k_≠j3) (.slice j7 ji.length j8) ji)∧Aside0 (Kd.N k35 35 wc w.heap.size (fun k_=>(w.heap.size≤k_)∧some k_≠(u3:Value).ownBlock∧some k_≠((.slice j7 ji.length j8):Value).ownBlock∧some k_≠((.slice jb jh.length jc):Value).ownBlock∧k_≠j3) (.slice j9 jg.length ja) jg)∧Aside0 (Kd.N k35 35 wc w.heap.size (fun k_=>(w.heap.size≤k_)∧some k_≠(u3:Value).ownBlock∧some k_≠((.slice j7 ji.length j8):Value).ownBlock∧some k_≠((.slice j9 jg.length ja):Value).ownBlock∧k_≠j3) (.slice jb jh.length jc) jh)∧Aside0 (wc.heap[j3]?=some (.cells #[.int .i64 ((aC l0 j4).f0), .int .i64 ((aC l0 j4).f1), .int .i64 ((aC l0 j4).f2), .int .i64 jj, .int .i64 jl,(.slice j7 ji.length j8),(.slice j9 jg.length ja),(.slice jb jh.length jc)] 35 (0,0)))∧Aside0 (Below w.heap.size w wc))
        case first=>
         have H:=qp.out
         clear qp
         by_cases qq:((aC l0 j4).f0)=2
         ·rw [if_pos qq] at H
          have jF:(((aC l0 j4).f0) == 2)=true:=beq_iff_eq.mpr qq
          have qG:(((aC l0 j4).f0) != 2)=false:=bne_eq_false_iff_eq.mpr qq
          clear qq
          (first|rw [jF]|(simp only [dS,dV];rw [jF])|skip)
          have H':=am H
          clear H
          obtain ⟨zV,zW,zX,zY,zZ,J0,J1,J2,J3,J4,J5,J6,J7,J8,J9,Ja⟩:=eX j5.out
          go_wp2
          go_meet
          case rel=>exact ⟨_,((jj == 0)),sd_,H',⟨by have:=jB.out;have:=HJ7.out;first|omega|exact Nat.le_refl _⟩,⟨eO j6.out⟩,⟨eO jd.out⟩,⟨eO je.out⟩,⟨eO jf.out⟩,⟨by (with_reducible repeat (first|refine dQ ?_ _|refine bT ?_|refine dF ?_ _));exact j5.out⟩,⟨kV⟩⟩
         rw [if_neg qq] at H
         have jF:(((aC l0 j4).f0) == 2)=false:=beq_eq_false_iff_ne.mpr qq
         have qG:(((aC l0 j4).f0) != 2)=true:=bne_iff_ne.mpr qq
         (first|rw [jF]|(simp only [dS,dV];rw [jF])|skip)
         have H':=am H
         clear H
         obtain ⟨Jb,Jc,Jd,Je,Jf,Jg,Jh,Ji,Jj,Jk,Jl,Jm,Jn,Jo,Jp,Jq⟩:=eX j5.out
         go_wp2
         go_meet
         case rel=>exact ⟨_,(false),sd_,H',⟨by have:=jB.out;have:=HJ7.out;first|omega|exact Nat.le_refl _⟩,⟨eO j6.out⟩,⟨eO jd.out⟩,⟨eO je.out⟩,⟨eO jf.out⟩,⟨by (with_reducible repeat (first|refine dQ ?_ _|refine bT ?_|refine dF ?_ _));exact j5.out⟩,⟨kV⟩⟩
        case rest=>
         clear qp
         try clear c2
         try clear qg
         try clear c3
         try clear qt
         try clear c4
         try clear qu
         try clear qE
         try clear jH
         try clear jI
         try clear jJ
         try clear jK
         try clear jL
         try clear jM
         try clear jN
         try clear jO
         try clear jX
         try clear jY
         try clear jZ
         try clear q0
         try clear q1
         try clear q2
         try clear q3
         try clear q4
         try clear jP
         try clear jQ
         try clear jR
         try clear jS
         try clear jT
         try clear jU
         try clear jV
         try clear jW
         try clear q5
         try clear q6
         try clear q7
         try clear q8
         try clear q9
         try clear qa
         try clear qb
         try clear qc
         try clear js
         try clear jt
         try clear ju
         try clear jv
         try clear jw
         try clear jx
         try clear jy
         try clear jz
         try clear qv
         try clear qw
         obtain ⟨kq,jC,rfl,HA,HJ33,j6,jd,je,jf,j5,HB⟩:=hcut
         cases kq with
         |zero=>exact absurd HA.out (by simp [aX.j2])
         |succ jD=>
          have H:=HA.out
          clear HA
          simp only [aX.j2] at H
          by_cases Jr:jC=true
          ·subst Jr
           rw [if_pos rfl] at H
           by_cases Js:jk.length + jh.length < 1256584717458
           ·rw [if_pos Js] at H
            have qH:=am Js
            clear Js
            obtain ⟨Z5,hy_⟩:∃ y_:List (S35),y_=(jk ++ jh):=⟨_,rfl⟩
            replace H:(aX.l0 jD Z5 l0 (l0.length:Int) (wrap64 (j4 + 1)))=some r:=rx_
            have QV:=am hy_
            clear hy_
            have H':=am H
            clear H
            obtain ⟨Jt,Ju,Jv,Jw,Jx,Jy,Jz,JA,JB,JC,JD,JE,JF,JG,JH,JI⟩:=eX j5.out
            go_wp2_with (first|((with_reducible refine lG (b:= .append) (xs:=#[.tmp 57, .tmp 59]) rfl ?_);at_builtin;refine Kd.oC k35 (w0:=w) w.heap.size rfl (.tmp 57) (.tmp 59) 23 35 (.agg #[(.int .i64 0),(.int .i64 0),(.int .i64 0),(.int .i64 0),(.int .i64 0),(.slice none 0 0),(.slice none 0 0),(.slice none 0 0)]) 112 rfl Try.underlying23 tN rfl (by decide) (by omega) u3 jk jh _ _ _ (fun k_=>(w.heap.size≤k_)∧some k_≠(.slice j7 ji.length j8:Value).ownBlock∧some k_≠(.slice j9 jg.length ja:Value).ownBlock∧k_≠j3) (fun k_=>((fun k_=>(w.heap.size≤k_)∧some k_≠(.slice j7 ji.length j8:Value).ownBlock∧some k_≠(.slice j9 jg.length ja:Value).ownBlock∧k_≠j3)) k_∧some k_≠(u3:Value).ownBlock) rfl rfl ?aO ?aR (fun _ hk=>hk) ?aF ?aB ?aS ?aL ?_;(case aR=>exact (by skip;exact Kd.N_F (Kd.aD (ok':=(fun k_=>((fun k_=>(w.heap.size≤k_)∧some k_≠(.slice j7 ji.length j8:Value).ownBlock∧some k_≠(.slice j9 jg.length ja:Value).ownBlock∧k_≠j3)) k_∧some k_≠(u3:Value).ownBlock)) (jf.out) (fun k_ hk=>⟨⟨hk.1,⟨hk.2.2.1,⟨hk.2.2.2.1,hk.2.2.2.2⟩⟩⟩,hk.2.1⟩))));(case aB=>exact kV);(case aF=>exact (fun k_ hk=>⟨(Nat.le_trans (aJ kV) hk),Kd.fresh' (Kd.iH (aN_ jd.out)) k_ hk,Kd.fresh' (Kd.iH (aN_ je.out)) k_ hk,fG j5.out k_ hk⟩));(case aO=>exact (eO (Kd.aD j6.out (fun _ hk=>⟨hk.1,⟨hk.2.1,⟨hk.2.2.1,hk.2.2.2.2⟩⟩⟩))));(case aS=>exact (aJ kV));(case aL=>have:=qH.out;omega);intro Zu Zv ho hb hg hat;rw [← QV.out] at ho;replace jd:=am (Kd.pQ (ok:=(fun k_=>(w.heap.size≤k_)∧some k_≠(.slice j9 jg.length ja:Value).ownBlock∧some k_≠(.slice jb jh.length jc:Value).ownBlock∧k_≠j3)) (eO (Kd.aD jd.out (fun _ hk=>⟨⟨hk.1,⟨hk.2.2.1,⟨hk.2.2.2.1,hk.2.2.2.2⟩⟩⟩,hk.2.1⟩))) hg hat);replace je:=am (Kd.pQ (ok:=(fun k_=>(w.heap.size≤k_)∧some k_≠(.slice j7 ji.length j8:Value).ownBlock∧some k_≠(.slice jb jh.length jc:Value).ownBlock∧k_≠j3)) (eO (Kd.aD je.out (fun _ hk=>⟨⟨hk.1,⟨hk.2.2.1,⟨hk.2.2.2.1,hk.2.2.2.2⟩⟩⟩,hk.2.1⟩))) hg hat);replace jf:=am (Kd.pQ (ok:=(fun k_=>(w.heap.size≤k_)∧some k_≠(.slice j7 ji.length j8:Value).ownBlock∧some k_≠(.slice j9 jg.length ja:Value).ownBlock∧k_≠j3)) (eO (Kd.aD jf.out (fun _ hk=>⟨⟨hk.1,⟨hk.2.2.1,⟨hk.2.2.2.1,hk.2.2.2.2⟩⟩⟩,hk.2.1⟩))) hg hat);replace j5:=am (gV (g:=j3) (o:= .cells #[.int .i64 ((aC l0 j4).f0), .int .i64 ((aC l0 j4).f1), .int .i64 ((aC l0 j4).f2), .int .i64 jj, .int .i64 jl, .slice j7 ji.length j8, .slice j9 jg.length ja, .slice jb jh.length jc] 35 (0,0)) (aG_ j5.out) hg (Kd.yF j6.out (fun _ hk=>hk.2.2.2.2)));replace HB:=am (hb);have QW:=am (ho);clear j6 ho hb hg hat))
            go_roundg jD
            case measure=>have:=jB.out;have:=HJ7.out;have:=HJ33.out;omega
            case rel=>exact ⟨(Z5),(wrap64 (j4 + 1)),sd_,H',⟨by have:=jB.out;have:=HJ7.out;have:=HJ33.out;omega⟩,⟨eO (Kd.aD QW.out (fun _ hk=>hk.1))⟩,⟨kV⟩⟩
           rw [if_neg Js] at H
           exact absurd H (by simp)
          replace Jr:=Bool.eq_false_iff.mpr Jr
          subst Jr
          rw [if_neg (show ¬ (false=true) by decide)] at H
          by_cases qr:((aC l0 j4).f0)=3
          ·rw [if_pos qr] at H
           have qI:(((aC l0 j4).f0) == 3)=true:=beq_iff_eq.mpr qr
           have qJ:(((aC l0 j4).f0) != 3)=false:=bne_eq_false_iff_eq.mpr qr
           clear qr
           by_cases qe:(jj == 0)=true
           ·rw [if_pos qe] at H
            have qK:(jj == 0)=true:=qe
            (try (have qL:decide (jj=0)=true:=by simpa using qe))
            (try (have qM:(jj == 0)=true:=by simpa using qe))
            clear qe
            by_cases qs:jl=0
            ·rw [if_pos qs] at H
             have qN:(jl == 0)=true:=beq_iff_eq.mpr qs
             have qO:(jl != 0)=false:=bne_eq_false_iff_eq.mpr qs
             clear qs
             have H':=am H
             clear H
             obtain ⟨JJ,JK,JL,JM,JN,JO,JP,JQ,JR,JS,JT,JU,JV,JW,JX,JY⟩:=eX j5.out
             go_wp2
             go_roundg jD
             case measure=>have:=jB.out;have:=HJ7.out;have:=HJ33.out;omega
             case rel=>exact ⟨(jk),(wrap64 (j4 + 1)),sd_,H',⟨by have:=jB.out;have:=HJ7.out;have:=HJ33.out;omega⟩,⟨eO (Kd.aD j6.out (fun _ hk=>hk.1))⟩,⟨kV⟩⟩
            rw [if_neg qs] at H
            have qN:(jl == 0)=false:=beq_eq_false_iff_ne.mpr qs
            have qO:(jl != 0)=true:=bne_iff_ne.mpr qs
            by_cases JZ:jk.length < 1256584717458
            ·rw [if_pos JZ] at H
             have qP:=am JZ
             clear JZ
             obtain ⟨Z6,hy_⟩:∃ y_:List (S35),y_=(jk ++ [(⟨((aC l0 j4).f0),((aC l0 j4).f1),((aC l0 j4).f2),(⟨jj,jl,ji⟩:S32),jg,jh⟩:S35)]):=⟨_,rfl⟩
             replace H:(aX.l0 jD Z6 l0 (l0.length:Int) (wrap64 (j4 + 1)))=some r:=rx_
             have QX:=am hy_
             clear hy_
             have H':=am H
             clear H
             obtain ⟨Q0,Q1,Q2,Q3,Q4,Q5,Q6,Q7,Q8,Q9,Qa,Qb,Qc,Qd,Qe,Qf⟩:=eX j5.out
             go_wp2_with (first|((with_reducible refine lG (b:= .append) (xs:=#[.tmp 29, .tmp 31]) rfl ?_);at_builtin;refine Kd.DZ k35 (w0:=w) w.heap.size rfl (.tmp 29) (.tmp 31) 23 35 (.agg #[(.int .i64 0),(.int .i64 0),(.int .i64 0),(.int .i64 0),(.int .i64 0),(.slice none 0 0),(.slice none 0 0),(.slice none 0 0)]) 112 rfl Try.underlying23 tN rfl (by decide) (by omega) u3 jk (⟨((aC l0 j4).f0),((aC l0 j4).f1),((aC l0 j4).f2),(⟨jj,jl,ji⟩:S32),jg,jh⟩:S35) [.int .i64 ((aC l0 j4).f0), .int .i64 ((aC l0 j4).f1), .int .i64 ((aC l0 j4).f2), .int .i64 jj, .int .i64 jl, .slice j7 ji.length j8, .slice j9 jg.length ja, .slice jb jh.length jc] (fun k_=>(w.heap.size≤k_)∧k_≠j3) (fun k_=>((fun k_=>(w.heap.size≤k_)∧k_≠j3)) k_∧some k_≠(u3:Value).ownBlock) rfl rfl ?aP (fun _ hk=>hk) ?aF ?aO ?aB ?aS ?aL ?_;(case aP=>exact (kY _ _ (⟨((aC l0 j4).f0),((aC l0 j4).f1),((aC l0 j4).f2),(⟨jj,jl,ji⟩:S32),jg,jh⟩:S35) (Kd.bN (Kd.aD (ok':=(fun k_=>((fun k_=>(w.heap.size≤k_)∧k_≠j3)) k_∧some k_≠(u3:Value).ownBlock)) (jd.out) (fun k_ hk=>⟨⟨hk.1,hk.2.2.2.2⟩,hk.2.1⟩))).2.1 (Kd.N_F (Kd.aD (ok':=(fun k_=>((fun k_=>(w.heap.size≤k_)∧k_≠j3)) k_∧some k_≠(u3:Value).ownBlock)) (jd.out) (fun k_ hk=>⟨⟨hk.1,hk.2.2.2.2⟩,hk.2.1⟩))) (Kd.bN (Kd.aD (ok':=(fun k_=>((fun k_=>(w.heap.size≤k_)∧k_≠j3)) k_∧some k_≠(u3:Value).ownBlock)) (je.out) (fun k_ hk=>⟨⟨hk.1,hk.2.2.2.2⟩,hk.2.1⟩))).2.1 (Kd.N_F (Kd.aD (ok':=(fun k_=>((fun k_=>(w.heap.size≤k_)∧k_≠j3)) k_∧some k_≠(u3:Value).ownBlock)) (je.out) (fun k_ hk=>⟨⟨hk.1,hk.2.2.2.2⟩,hk.2.1⟩))) (Kd.bN (Kd.aD (ok':=(fun k_=>((fun k_=>(w.heap.size≤k_)∧k_≠j3)) k_∧some k_≠(u3:Value).ownBlock)) (jf.out) (fun k_ hk=>⟨⟨hk.1,hk.2.2.2.2⟩,hk.2.1⟩))).2.1 (Kd.N_F (Kd.aD (ok':=(fun k_=>((fun k_=>(w.heap.size≤k_)∧k_≠j3)) k_∧some k_≠(u3:Value).ownBlock)) (jf.out) (fun k_ hk=>⟨⟨hk.1,hk.2.2.2.2⟩,hk.2.1⟩)))));(case aB=>exact kV);(case aF=>exact (fun k_ hk=>⟨(Nat.le_trans (aJ kV) hk),fG j5.out k_ hk⟩));(case aO=>exact (eO (Kd.aD j6.out (fun _ hk=>⟨hk.1,hk.2.2.2.2⟩))));(case aS=>exact (aJ kV));(case aL=>have:=qP.out;omega);intro Zw Zx ho hb hg hat;rw [← QX.out] at ho;replace j5:=am (gV (g:=j3) (o:= .cells #[.int .i64 ((aC l0 j4).f0), .int .i64 ((aC l0 j4).f1), .int .i64 ((aC l0 j4).f2), .int .i64 jj, .int .i64 jl, .slice j7 ji.length j8, .slice j9 jg.length ja, .slice jb jh.length jc] 35 (0,0)) (aG_ j5.out) hg (Kd.yF j6.out (fun _ hk=>hk.2.2.2.2)));replace HB:=am (hb);have QY:=am (ho);clear j6 jd je jf ho hb hg hat))
             go_roundg jD
             case measure=>have:=jB.out;have:=HJ7.out;have:=HJ33.out;omega
             case rel=>exact ⟨(Z6),(wrap64 (j4 + 1)),sd_,H',⟨by have:=jB.out;have:=HJ7.out;have:=HJ33.out;omega⟩,⟨eO (Kd.aD QY.out (fun _ hk=>hk.1))⟩,⟨kV⟩⟩
            rw [if_neg JZ] at H
            exact absurd H (by simp)
           rw [if_neg qe] at H
           have qK:(jj == 0)=false:=by simpa using qe
           (try (have qL:decide (jj=0)=false:=by simpa using qe))
           (try (have qM:(jj == 0)=false:=by simpa using qe))
           (try (have Z7:¬ (jj=0):=by simpa using qe))
           clear qe
           by_cases Qg:jk.length < 1256584717458
           ·rw [if_pos Qg] at H
            have qQ:=am Qg
            clear Qg
            obtain ⟨Z8,hy_⟩:∃ y_:List (S35),y_=(jk ++ [(⟨((aC l0 j4).f0),((aC l0 j4).f1),((aC l0 j4).f2),(⟨jj,jl,ji⟩:S32),jg,jh⟩:S35)]):=⟨_,rfl⟩
            replace H:(aX.l0 jD Z8 l0 (l0.length:Int) (wrap64 (j4 + 1)))=some r:=rx_
            have QZ:=am hy_
            clear hy_
            have H':=am H
            clear H
            obtain ⟨Qh,Qi,Qj,Qk,Ql,Qm,Qn,Qo,Qp,Qq,Qr,Qs,Qt,Qu,Qv,Qw⟩:=eX j5.out
            go_wp2_with (first|((with_reducible refine lG (b:= .append) (xs:=#[.tmp 29, .tmp 31]) rfl ?_);at_builtin;refine Kd.DZ k35 (w0:=w) w.heap.size rfl (.tmp 29) (.tmp 31) 23 35 (.agg #[(.int .i64 0),(.int .i64 0),(.int .i64 0),(.int .i64 0),(.int .i64 0),(.slice none 0 0),(.slice none 0 0),(.slice none 0 0)]) 112 rfl Try.underlying23 tN rfl (by decide) (by omega) u3 jk (⟨((aC l0 j4).f0),((aC l0 j4).f1),((aC l0 j4).f2),(⟨jj,jl,ji⟩:S32),jg,jh⟩:S35) [.int .i64 ((aC l0 j4).f0), .int .i64 ((aC l0 j4).f1), .int .i64 ((aC l0 j4).f2), .int .i64 jj, .int .i64 jl, .slice j7 ji.length j8, .slice j9 jg.length ja, .slice jb jh.length jc] (fun k_=>(w.heap.size≤k_)∧k_≠j3) (fun k_=>((fun k_=>(w.heap.size≤k_)∧k_≠j3)) k_∧some k_≠(u3:Value).ownBlock) rfl rfl ?aP (fun _ hk=>hk) ?aF ?aO ?aB ?aS ?aL ?_;(case aP=>exact (kY _ _ (⟨((aC l0 j4).f0),((aC l0 j4).f1),((aC l0 j4).f2),(⟨jj,jl,ji⟩:S32),jg,jh⟩:S35) (Kd.bN (Kd.aD (ok':=(fun k_=>((fun k_=>(w.heap.size≤k_)∧k_≠j3)) k_∧some k_≠(u3:Value).ownBlock)) (jd.out) (fun k_ hk=>⟨⟨hk.1,hk.2.2.2.2⟩,hk.2.1⟩))).2.1 (Kd.N_F (Kd.aD (ok':=(fun k_=>((fun k_=>(w.heap.size≤k_)∧k_≠j3)) k_∧some k_≠(u3:Value).ownBlock)) (jd.out) (fun k_ hk=>⟨⟨hk.1,hk.2.2.2.2⟩,hk.2.1⟩))) (Kd.bN (Kd.aD (ok':=(fun k_=>((fun k_=>(w.heap.size≤k_)∧k_≠j3)) k_∧some k_≠(u3:Value).ownBlock)) (je.out) (fun k_ hk=>⟨⟨hk.1,hk.2.2.2.2⟩,hk.2.1⟩))).2.1 (Kd.N_F (Kd.aD (ok':=(fun k_=>((fun k_=>(w.heap.size≤k_)∧k_≠j3)) k_∧some k_≠(u3:Value).ownBlock)) (je.out) (fun k_ hk=>⟨⟨hk.1,hk.2.2.2.2⟩,hk.2.1⟩))) (Kd.bN (Kd.aD (ok':=(fun k_=>((fun k_=>(w.heap.size≤k_)∧k_≠j3)) k_∧some k_≠(u3:Value).ownBlock)) (jf.out) (fun k_ hk=>⟨⟨hk.1,hk.2.2.2.2⟩,hk.2.1⟩))).2.1 (Kd.N_F (Kd.aD (ok':=(fun k_=>((fun k_=>(w.heap.size≤k_)∧k_≠j3)) k_∧some k_≠(u3:Value).ownBlock)) (jf.out) (fun k_ hk=>⟨⟨hk.1,hk.2.2.2.2⟩,hk.2.1⟩)))));(case aB=>exact kV);(case aF=>exact (fun k_ hk=>⟨(Nat.le_trans (aJ kV) hk),fG j5.out k_ hk⟩));(case aO=>exact (eO (Kd.aD j6.out (fun _ hk=>⟨hk.1,hk.2.2.2.2⟩))));(case aS=>exact (aJ kV));(case aL=>have:=qQ.out;omega);intro Zy Zz ho hb hg hat;rw [← QZ.out] at ho;replace j5:=am (gV (g:=j3) (o:= .cells #[.int .i64 ((aC l0 j4).f0), .int .i64 ((aC l0 j4).f1), .int .i64 ((aC l0 j4).f2), .int .i64 jj, .int .i64 jl, .slice j7 ji.length j8, .slice j9 jg.length ja, .slice jb jh.length jc] 35 (0,0)) (aG_ j5.out) hg (Kd.yF j6.out (fun _ hk=>hk.2.2.2.2)));replace HB:=am (hb);have Z0:=am (ho);clear j6 jd je jf ho hb hg hat))
            go_roundg jD
            case measure=>have:=jB.out;have:=HJ7.out;have:=HJ33.out;omega
            case rel=>exact ⟨(Z8),(wrap64 (j4 + 1)),sd_,H',⟨by have:=jB.out;have:=HJ7.out;have:=HJ33.out;omega⟩,⟨eO (Kd.aD Z0.out (fun _ hk=>hk.1))⟩,⟨kV⟩⟩
           rw [if_neg Qg] at H
           exact absurd H (by simp)
          rw [if_neg qr] at H
          have qI:(((aC l0 j4).f0) == 3)=false:=beq_eq_false_iff_ne.mpr qr
          have qJ:(((aC l0 j4).f0) != 3)=true:=bne_iff_ne.mpr qr
          by_cases Qx:jk.length < 1256584717458
          ·rw [if_pos Qx] at H
           have qR:=am Qx
           clear Qx
           obtain ⟨Z9,hy_⟩:∃ y_:List (S35),y_=(jk ++ [(⟨((aC l0 j4).f0),((aC l0 j4).f1),((aC l0 j4).f2),(⟨jj,jl,ji⟩:S32),jg,jh⟩:S35)]):=⟨_,rfl⟩
           replace H:(aX.l0 jD Z9 l0 (l0.length:Int) (wrap64 (j4 + 1)))=some r:=rx_
           have Z1:=am hy_
           clear hy_
           have H':=am H
           clear H
           obtain ⟨Qy,Qz,QA,QB,QC,QD,QE,QF,QG,QH,QI,QJ,QK,QL,QM,QN⟩:=eX j5.out
           go_wp2_with (first|((with_reducible refine lG (b:= .append) (xs:=#[.tmp 29, .tmp 31]) rfl ?_);at_builtin;refine Kd.DZ k35 (w0:=w) w.heap.size rfl (.tmp 29) (.tmp 31) 23 35 (.agg #[(.int .i64 0),(.int .i64 0),(.int .i64 0),(.int .i64 0),(.int .i64 0),(.slice none 0 0),(.slice none 0 0),(.slice none 0 0)]) 112 rfl Try.underlying23 tN rfl (by decide) (by omega) u3 jk (⟨((aC l0 j4).f0),((aC l0 j4).f1),((aC l0 j4).f2),(⟨jj,jl,ji⟩:S32),jg,jh⟩:S35) [.int .i64 ((aC l0 j4).f0), .int .i64 ((aC l0 j4).f1), .int .i64 ((aC l0 j4).f2), .int .i64 jj, .int .i64 jl, .slice j7 ji.length j8, .slice j9 jg.length ja, .slice jb jh.length jc] (fun k_=>(w.heap.size≤k_)∧k_≠j3) (fun k_=>((fun k_=>(w.heap.size≤k_)∧k_≠j3)) k_∧some k_≠(u3:Value).ownBlock) rfl rfl ?aP (fun _ hk=>hk) ?aF ?aO ?aB ?aS ?aL ?_;(case aP=>exact (kY _ _ (⟨((aC l0 j4).f0),((aC l0 j4).f1),((aC l0 j4).f2),(⟨jj,jl,ji⟩:S32),jg,jh⟩:S35) (Kd.bN (Kd.aD (ok':=(fun k_=>((fun k_=>(w.heap.size≤k_)∧k_≠j3)) k_∧some k_≠(u3:Value).ownBlock)) (jd.out) (fun k_ hk=>⟨⟨hk.1,hk.2.2.2.2⟩,hk.2.1⟩))).2.1 (Kd.N_F (Kd.aD (ok':=(fun k_=>((fun k_=>(w.heap.size≤k_)∧k_≠j3)) k_∧some k_≠(u3:Value).ownBlock)) (jd.out) (fun k_ hk=>⟨⟨hk.1,hk.2.2.2.2⟩,hk.2.1⟩))) (Kd.bN (Kd.aD (ok':=(fun k_=>((fun k_=>(w.heap.size≤k_)∧k_≠j3)) k_∧some k_≠(u3:Value).ownBlock)) (je.out) (fun k_ hk=>⟨⟨hk.1,hk.2.2.2.2⟩,hk.2.1⟩))).2.1 (Kd.N_F (Kd.aD (ok':=(fun k_=>((fun k_=>(w.heap.size≤k_)∧k_≠j3)) k_∧some k_≠(u3:Value).ownBlock)) (je.out) (fun k_ hk=>⟨⟨hk.1,hk.2.2.2.2⟩,hk.2.1⟩))) (Kd.bN (Kd.aD (ok':=(fun k_=>((fun k_=>(w.heap.size≤k_)∧k_≠j3)) k_∧some k_≠(u3:Value).ownBlock)) (jf.out) (fun k_ hk=>⟨⟨hk.1,hk.2.2.2.2⟩,hk.2.1⟩))).2.1 (Kd.N_F (Kd.aD (ok':=(fun k_=>((fun k_=>(w.heap.size≤k_)∧k_≠j3)) k_∧some k_≠(u3:Value).ownBlock)) (jf.out) (fun k_ hk=>⟨⟨hk.1,hk.2.2.2.2⟩,hk.2.1⟩)))));(case aB=>exact kV);(case aF=>exact (fun k_ hk=>⟨(Nat.le_trans (aJ kV) hk),fG j5.out k_ hk⟩));(case aO=>exact (eO (Kd.aD j6.out (fun _ hk=>⟨hk.1,hk.2.2.2.2⟩))));(case aS=>exact (aJ kV));(case aL=>have:=qR.out;omega);intro ZA ZB ho hb hg hat;rw [← Z1.out] at ho;replace j5:=am (gV (g:=j3) (o:= .cells #[.int .i64 ((aC l0 j4).f0), .int .i64 ((aC l0 j4).f1), .int .i64 ((aC l0 j4).f2), .int .i64 jj, .int .i64 jl, .slice j7 ji.length j8, .slice j9 jg.length ja, .slice jb jh.length jc] 35 (0,0)) (aG_ j5.out) hg (Kd.yF j6.out (fun _ hk=>hk.2.2.2.2)));replace HB:=am (hb);have Z2:=am (ho);clear j6 jd je jf ho hb hg hat))
           go_roundg jD
           case measure=>have:=jB.out;have:=HJ7.out;have:=HJ33.out;omega
           case rel=>exact ⟨(Z9),(wrap64 (j4 + 1)),sd_,H',⟨by have:=jB.out;have:=HJ7.out;have:=HJ33.out;omega⟩,⟨eO (Kd.aD Z2.out (fun _ hk=>hk.1))⟩,⟨kV⟩⟩
          rw [if_neg Qx] at H
          exact absurd H (by simp)
     rw [if_neg c4] at H
     exact absurd H (by simp)
    rw [if_neg c3] at H
    exact absurd H (by simp)
   rw [if_neg c2] at H
   have qg:decide (j4 < (l0.length:Int))=false:=decide_eq_false c2
   clear c2
   obtain rfl:=Option.some.inj H
   go_wp2
   go_ret
   exact ⟨_,iM,eO j6.out,gK⟩
theorem kG.calls (a0:Int) (r:Bool) (w:World) (h:kG.f a0=some r):
  Calls Try.prog 125 #[.int .i64 a0] w fun e w'=>e= .returned (.bool r)∧iX w w':=by
 have H:(if a0≥1 then (some (decide (a0≤12))) else (some false))=some r:=h
 clear h
 by_cases c2:a0≥1
 ·rw [if_pos c2] at H
  have j3:decide (1≤a0)=true:=decide_eq_true c2
  clear c2
  obtain rfl:=Option.some.inj H
  go_enter Try.func125,Try.ntmps125
  go_wp2
  go_ret
  exact ⟨sd_,gM⟩
 rw [if_neg c2] at H
 have j3:decide (1≤a0)=false:=decide_eq_false c2
 clear c2
 obtain rfl:=Option.some.inj H
 go_enter Try.func125,Try.ntmps125
 go_wp2
 go_ret
 exact ⟨sd_,gM⟩
theorem eZ.mono_l:∀ k,(∀ y0 y1 y2 y3,LeO (eZ.f k y0 y1 y2 y3) (eZ.f (k + 1) y0 y1 y2 y3))
 |0=>fun _ _ _ _ r h=>by simp [eZ.f] at h
 |k + 1=>by
  have ih0:=eZ.mono_l k
  ·intro y0 y1 y2 y3
   unfold eZ.f
   exact mo_
theorem eZ.mono:∀ a0 a1 a2 a3 k,LeO (eZ.f k a0 a1 a2 a3) (eZ.f (k + 1) a0 a1 a2 a3):=by
 intro a0 a1 a2 a3 k
 have ih0:=eZ.mono_l k
 exact ih0 a0 a1 a2 a3
theorem eZ.calls (k:Nat):∀ (j4:Int) (j8:Int) (jg:Option Addr) (jh:Nat) (j3:List (S32)) (a1:Int) (r:Bool) (w:World) (hr0_2:Kd.C k32 w jg j3.length j3) (hc0_2:j3.length≤jh) (h:eZ.f k j4 j8 j3 a1=some r),
  Calls Try.prog 124 #[.agg #[.int .i64 j4, .int .i64 j8, .slice jg j3.length jh], .int .i64 a1] w fun e w'=>e= .returned (.bool r)∧Below w.heap.size w w':=by
 induction k using Nat.strongRecOn with
 | _ k ih=>
 intro j4 j8 jg jh j3 a1 r w hr0_2 hc0_2 h
 cases k with
 |zero=>exact absurd h (by simp [eZ.f])
 |succ k=>
 simp only [eZ.f] at h
 have hu32:=Try.underlying32
 have jf:=am hr0_2
 have qd:=am hc0_2
 clear hr0_2 hc0_2
 have HB:=am (Below.refl w.heap.size w)
 have H:(if j4=0 then (if j8≥0 then (if j8≤99999 then (if (j3.length:Int)=0 then (some (decide (a1 > 0))) else (some false)) else (some false)) else (some false)) else (if j4=13 then (if j8≥0 then (if j8 < 4 then (if (j3.length:Int)=0 then (some (decide (a1 > 0))) else (some false)) else (some false)) else (some false)) else ((kG.f j4).bind fun jT=>(if jT=true then (if j8=0 then (if (j3.length:Int)=2 then (if a1 > 1 then (if 0 < (j3.length:Int) then ((eZ.f k ((aY j3 0).f0) ((aY j3 0).f1) ((aY j3 0).f2) (wrap64 (a1 - 1))).bind fun jU=>(if jU=true then (if 1 < (j3.length:Int) then ((eZ.f k ((aY j3 1).f0) ((aY j3 1).f1) ((aY j3 1).f2) (wrap64 (a1 - 1))).bind fun jV=>(some jV)) else (none)) else (some false))) else (none)) else (some false)) else (some false)) else (some false)) else (some false)))))=some r:=h
 clear h
 have HH_:=am H
 clear H
 go_enter Try.func124,Try.ntmps124
 go_upto_region 1 with (first|((with_reducible refine bQ (N:=2) rfl ?_);(try (refine kQ (by rfl) ?_;dsimp only));refine dJ rfl (N:=2) rfl (cs:=#[.int .i64 j4, .int .i64 j8, .slice jg j3.length jh]) (t:=32) rn_ ?_;intro ju hg w7 hbox hb;have jc:=am (hbox);have qp:=am ((by rw [hg];exact (aJ gK):w.heap.size≤ju));have GE23:=am ((by rw [hg];exact (aJ gK):w.heap.size≤ju));replace HB:=am (aG gK hb);clear hb hbox hg;obtain ⟨jW,jX,jY,jZ,q0,q1⟩:=fZ jc.out))
 have H:=HH_.out
 clear HH_
 by_cases c3:j4=0
 ·rw [if_pos c3] at H
  have q2:(j4 == 0)=true:=beq_iff_eq.mpr c3
  have q3:(j4 != 0)=false:=bne_eq_false_iff_eq.mpr c3
  clear c3
  by_cases c4:j8≥0
  ·rw [if_pos c4] at H
   have q4:decide (0≤j8)=true:=decide_eq_true c4
   clear c4
   by_cases c5:j8≤99999
   ·rw [if_pos c5] at H
    have q5:decide (j8≤99999)=true:=decide_eq_true c5
    clear c5
    by_cases c6:(j3.length:Int)=0
    ·rw [if_pos c6] at H
     have q6:((j3.length:Int) == 0)=true:=beq_iff_eq.mpr c6
     have q7:((j3.length:Int) != 0)=false:=bne_eq_false_iff_eq.mpr c6
     clear c6
     obtain rfl:=Option.some.inj H
     go_wp2
     go_ret
     exact ⟨rr_,oZ⟩
    rw [if_neg c6] at H
    have q6:((j3.length:Int) == 0)=false:=beq_eq_false_iff_ne.mpr c6
    have q7:((j3.length:Int) != 0)=true:=bne_iff_ne.mpr c6
    have qq:¬ (j3=[]):=fun h_=>c6 (by rw [h_];rfl)
    obtain rfl:=Option.some.inj H
    go_wp2
    go_ret
    exact ⟨rr_,oZ⟩
   rw [if_neg c5] at H
   have q5:decide (j8≤99999)=false:=decide_eq_false c5
   clear c5
   obtain rfl:=Option.some.inj H
   go_wp2
   go_ret
   exact ⟨rr_,oZ⟩
  rw [if_neg c4] at H
  have q4:decide (0≤j8)=false:=decide_eq_false c4
  clear c4
  obtain rfl:=Option.some.inj H
  go_wp2
  go_ret
  exact ⟨rr_,oZ⟩
 rw [if_neg c3] at H
 have q2:(j4 == 0)=false:=beq_eq_false_iff_ne.mpr c3
 have q3:(j4 != 0)=true:=bne_iff_ne.mpr c3
 by_cases jj:j4=13
 ·rw [if_pos jj] at H
  have jv:(j4 == 13)=true:=beq_iff_eq.mpr jj
  have jw:(j4 != 13)=false:=bne_eq_false_iff_eq.mpr jj
  clear jj
  by_cases jq:j8≥0
  ·rw [if_pos jq] at H
   have jx:decide (0≤j8)=true:=decide_eq_true jq
   clear jq
   by_cases jr:j8 < 4
   ·rw [if_pos jr] at H
    have jy:decide (j8 < 4)=true:=decide_eq_true jr
    clear jr
    by_cases ji:(j3.length:Int)=0
    ·rw [if_pos ji] at H
     have jz:((j3.length:Int) == 0)=true:=beq_iff_eq.mpr ji
     have jA:((j3.length:Int) != 0)=false:=bne_eq_false_iff_eq.mpr ji
     clear ji
     obtain rfl:=Option.some.inj H
     go_wp2
     go_ret
     exact ⟨rr_,oZ⟩
    rw [if_neg ji] at H
    have jz:((j3.length:Int) == 0)=false:=beq_eq_false_iff_ne.mpr ji
    have jA:((j3.length:Int) != 0)=true:=bne_iff_ne.mpr ji
    have qe:¬ (j3=[]):=fun h_=>ji (by rw [h_];rfl)
    obtain rfl:=Option.some.inj H
    go_wp2
    go_ret
    exact ⟨rr_,oZ⟩
   rw [if_neg jr] at H
   have jy:decide (j8 < 4)=false:=decide_eq_false jr
   clear jr
   obtain rfl:=Option.some.inj H
   go_wp2
   go_ret
   exact ⟨rr_,oZ⟩
  rw [if_neg jq] at H
  have jx:decide (0≤j8)=false:=decide_eq_false jq
  clear jq
  obtain rfl:=Option.some.inj H
  go_wp2
  go_ret
  exact ⟨rr_,oZ⟩
 rw [if_neg jj] at H
 have jv:(j4 == 13)=false:=beq_eq_false_iff_ne.mpr jj
 have jw:(j4 != 13)=true:=bne_iff_ne.mpr jj
 obtain ⟨jT,qf,H⟩:=bsm H
 (try dsimp only at H)
 have js:=am qf
 clear qf
 by_cases jJ:jT=true
 ·subst jJ
  rw [if_pos rfl] at H
  by_cases jk:j8=0
  ·rw [if_pos jk] at H
   have jB:(j8 == 0)=true:=beq_iff_eq.mpr jk
   have jC:(j8 != 0)=false:=bne_eq_false_iff_eq.mpr jk
   clear jk
   by_cases jl:(j3.length:Int)=2
   ·rw [if_pos jl] at H
    have jD:((j3.length:Int) == 2)=true:=beq_iff_eq.mpr jl
    have jE:((j3.length:Int) != 2)=false:=bne_eq_false_iff_eq.mpr jl
    clear jl
    by_cases jt:a1 > 1
    ·rw [if_pos jt] at H
     have jF:decide (1 < a1)=true:=decide_eq_true jt
     clear jt
     by_cases jK:0 < (j3.length:Int)
     ·rw [if_pos jK] at H
      have qg:decide (0 < (j3.length:Int))=true:=decide_eq_true jK
      have qh:decide (0 < j3.length)=true:=decide_eq_true (by omega)
      clear jK
      obtain ⟨jU,qi,H⟩:=bsm H
      (try dsimp only at H)
      have qj:=am qi
      clear qi
      by_cases jL:jU=true
      ·subst jL
       rw [if_pos rfl] at H
       by_cases jM:1 < (j3.length:Int)
       ·rw [if_pos jM] at H
        have qk:decide (1 < (j3.length:Int))=true:=decide_eq_true jM
        have ql:decide (1 < j3.length)=true:=decide_eq_true (by omega)
        clear jM
        obtain ⟨jV,qm,H⟩:=bsm H
        (try dsimp only at H)
        have qr:=am qm
        clear qm
        obtain rfl:=Option.some.inj H
        go_wp2_with (first|((with_reducible refine aN (f:=125) rfl ?_);refine gl_ 51 Try.func125 #[.int .i64 j4] ?_;(with_reducible refine (kG.calls j4 true _ js.out).mono ?_);rintro e w' ⟨rfl,⟨nd,rfl⟩⟩;refine ⟨_,rfl,?_⟩;have jm:0≤(0:Int):=(by omega);have jn:0 < (j3.length:Int):=of_decide_eq_true gL;obtain ⟨jG,jH,jI,q8,j5,j6,j7,hl37_2,hi37_2⟩:=rC jf.out 0 jm jn;cases q8;have q9:(0 < j3.length)=True:=eq_true (by omega);(try rw [show ((0:Int)).toNat=0 from rfl] at j5);(try rw [show 0 * 3=0 from rfl] at j5);(try rw [Addr.add_zero'] at j5);(try rw [show ((0:Int)).toNat=0 from rfl] at j6);(try rw [show 0 * 3=0 from rfl] at j6);(try rw [Addr.add_zero'] at j6);(try rw [show ((0:Int)).toNat=0 from rfl] at j7);(try rw [show 0 * 3=0 from rfl] at j7);(try rw [Addr.add_zero'] at j7);replace j5:=(HB.out.cell (World.block_lt_of_cell? w _ j5)).trans j5;replace j6:=(HB.out.cell (World.block_lt_of_cell? w _ j6)).trans j6;replace j7:=(HB.out.cell (World.block_lt_of_cell? w _ j7)).trans j7;have jd:=am hi37_2;have je:=am hl37_2;clear hi37_2 hl37_2;replace jm:=eq_true jm;replace jn:=eq_true jn)|(go_at_call 124;(with_reducible refine (ih k (by omega) ((aY j3 0).f0) ((aY j3 0).f1) _ _ ((aY j3 0).f2) (wrap64 (a1 - 1)) true _ (aC_ (Kd.aV jd.out oZ)) je.out qj.out).mono ?_);rintro e qu ⟨rfl,hb⟩;replace jc:=bbP jc hb;replace HB:=am (aG oZ hb);(try clear hb);obtain ⟨jN,jO,jP,jQ,jR,jS⟩:=fZ jc.out;have qa:0≤(1:Int):=(by omega);have qb:1 < (j3.length:Int):=of_decide_eq_true gL;obtain ⟨qc,qn,qo,qs,j9,ja,jb,hl38_2,hi38_2⟩:=rC jf.out 1 qa qb;obtain rfl:jG=qc:=(by injection qs);(try simp only [show (1:Int).toNat=1 from rfl,Nat.reduceMul,Nat.reduceEqDiff,Go.Addr.add,↓reduceIte] at j9);(try simp only [show (1:Int).toNat=1 from rfl,Nat.reduceMul,Nat.reduceEqDiff,Go.Addr.add,↓reduceIte] at ja);(try simp only [show (1:Int).toNat=1 from rfl,Nat.reduceMul,Nat.reduceEqDiff,Go.Addr.add,↓reduceIte] at jb);have qt:(1 < j3.length)=True:=eq_true (by omega);(try rw [show ((1:Int)).toNat=1 from rfl] at j9);(try rw [show 1 * 3=3 from rfl] at j9);(try rw [show ((1:Int)).toNat=1 from rfl] at ja);(try rw [show 1 * 3=3 from rfl] at ja);(try rw [show ((1:Int)).toNat=1 from rfl] at jb);(try rw [show 1 * 3=3 from rfl] at jb);replace j9:=(HB.out.cell (World.block_lt_of_cell? w _ j9)).trans j9;replace ja:=(HB.out.cell (World.block_lt_of_cell? w _ ja)).trans ja;replace jb:=(HB.out.cell (World.block_lt_of_cell? w _ jb)).trans jb;have jo:=am hi38_2;have jp:=am hl38_2;clear hi38_2 hl38_2;replace qa:=eq_true qa;replace qb:=eq_true qb)|(go_at_call 124;(with_reducible refine (ih k (by omega) ((aY j3 1).f0) ((aY j3 1).f1) _ _ ((aY j3 1).f2) (wrap64 (a1 - 1)) jV _ (aC_ (Kd.aV jo.out HB.out)) jp.out qr.out).mono ?_);rintro e qv ⟨rfl,hb⟩;replace jc:=bbP jc hb;replace HB:=am (aG oZ hb);(try clear hb)))
        go_ret
        exact ⟨rr_,oZ⟩
       rw [if_neg jM] at H
       exact absurd H (by simp)
      replace jL:=Bool.eq_false_iff.mpr jL
      subst jL
      rw [if_neg (show ¬ (false=true) by decide)] at H
      obtain rfl:=Option.some.inj H
      go_wp2_with (first|((with_reducible refine aN (f:=125) rfl ?_);refine gl_ 51 Try.func125 #[.int .i64 j4] ?_;(with_reducible refine (kG.calls j4 true _ js.out).mono ?_);rintro e w' ⟨rfl,⟨nd,rfl⟩⟩;refine ⟨_,rfl,?_⟩;have jm:0≤(0:Int):=(by omega);have jn:0 < (j3.length:Int):=of_decide_eq_true gL;obtain ⟨jG,jH,jI,q8,j5,j6,j7,hl37_2,hi37_2⟩:=rC jf.out 0 jm jn;cases q8;have q9:(0 < j3.length)=True:=eq_true (by omega);(try rw [show ((0:Int)).toNat=0 from rfl] at j5);(try rw [show 0 * 3=0 from rfl] at j5);(try rw [Addr.add_zero'] at j5);(try rw [show ((0:Int)).toNat=0 from rfl] at j6);(try rw [show 0 * 3=0 from rfl] at j6);(try rw [Addr.add_zero'] at j6);(try rw [show ((0:Int)).toNat=0 from rfl] at j7);(try rw [show 0 * 3=0 from rfl] at j7);(try rw [Addr.add_zero'] at j7);replace j5:=(HB.out.cell (World.block_lt_of_cell? w _ j5)).trans j5;replace j6:=(HB.out.cell (World.block_lt_of_cell? w _ j6)).trans j6;replace j7:=(HB.out.cell (World.block_lt_of_cell? w _ j7)).trans j7;have jd:=am hi37_2;have je:=am hl37_2;clear hi37_2 hl37_2;replace jm:=eq_true jm;replace jn:=eq_true jn)|(go_at_call 124;(with_reducible refine (ih k (by omega) ((aY j3 0).f0) ((aY j3 0).f1) _ _ ((aY j3 0).f2) (wrap64 (a1 - 1)) false _ (aC_ (Kd.aV jd.out oZ)) je.out qj.out).mono ?_);rintro e qw ⟨rfl,hb⟩;replace jc:=bbP jc hb;replace HB:=am (aG oZ hb);(try clear hb)))
      go_ret
      exact ⟨rr_,oZ⟩
     rw [if_neg jK] at H
     exact absurd H (by simp)
    rw [if_neg jt] at H
    have jF:decide (1 < a1)=false:=decide_eq_false jt
    clear jt
    obtain rfl:=Option.some.inj H
    go_wp2_with (first|((with_reducible refine aN (f:=125) rfl ?_);refine gl_ 51 Try.func125 #[.int .i64 j4] ?_;(with_reducible refine (kG.calls j4 true _ js.out).mono ?_);rintro e w' ⟨rfl,⟨nd,rfl⟩⟩;refine ⟨_,rfl,?_⟩))
    go_ret
    exact ⟨rr_,oZ⟩
   rw [if_neg jl] at H
   have jD:((j3.length:Int) == 2)=false:=beq_eq_false_iff_ne.mpr jl
   have jE:((j3.length:Int) != 2)=true:=bne_iff_ne.mpr jl
   obtain rfl:=Option.some.inj H
   go_wp2_with (first|((with_reducible refine aN (f:=125) rfl ?_);refine gl_ 51 Try.func125 #[.int .i64 j4] ?_;(with_reducible refine (kG.calls j4 true _ js.out).mono ?_);rintro e w' ⟨rfl,⟨nd,rfl⟩⟩;refine ⟨_,rfl,?_⟩))
   go_ret
   exact ⟨rr_,oZ⟩
  rw [if_neg jk] at H
  have jB:(j8 == 0)=false:=beq_eq_false_iff_ne.mpr jk
  have jC:(j8 != 0)=true:=bne_iff_ne.mpr jk
  obtain rfl:=Option.some.inj H
  go_wp2_with (first|((with_reducible refine aN (f:=125) rfl ?_);refine gl_ 51 Try.func125 #[.int .i64 j4] ?_;(with_reducible refine (kG.calls j4 true _ js.out).mono ?_);rintro e w' ⟨rfl,⟨nd,rfl⟩⟩;refine ⟨_,rfl,?_⟩))
  go_ret
  exact ⟨rr_,oZ⟩
 replace jJ:=Bool.eq_false_iff.mpr jJ
 subst jJ
 rw [if_neg (show ¬ (false=true) by decide)] at H
 obtain rfl:=Option.some.inj H
 go_wp2_with (first|((with_reducible refine aN (f:=125) rfl ?_);refine gl_ 51 Try.func125 #[.int .i64 j4] ?_;(with_reducible refine (kG.calls j4 false _ js.out).mono ?_);rintro e w' ⟨rfl,⟨nd,rfl⟩⟩;refine ⟨_,rfl,?_⟩))
 go_ret
 exact ⟨rr_,oZ⟩
theorem iE.mono:∀ a0 a1 a2 k,LeO (iE.f k a0 a1 a2) (iE.f (k + 1) a0 a1 a2):=by
 intro a0 a1 a2 k
 unfold iE.f
 have m0:=@eZ.mono
 exact mo_
theorem iE.calls (k:Nat) (j4:Int) (j5:Int) (j6:Option Addr) (j7:Nat) (j3:List (S32)) (r:Bool) (w:World) (hr0_2:Kd.C k32 w j6 j3.length j3) (hc0_2:j3.length≤j7) (h:iE.f k j4 j5 j3=some r):
  Calls Try.prog 114 #[.agg #[.int .i64 j4, .int .i64 j5, .slice j6 j3.length j7]] w fun e w'=>e= .returned (.bool r)∧Below w.heap.size w w':=by
 have hu32:=Try.underlying32
 have j9:=am hr0_2
 have ja:=am hc0_2
 clear hr0_2 hc0_2
 have HB:=am (Below.refl w.heap.size w)
 have H:((eZ.f k j4 j5 j3 5).bind fun jc=>(some jc))=some r:=h
 clear h
 obtain ⟨jc,A2,H⟩:=bsa H
 (try dsimp only at H)
 obtain rfl:=Option.some.inj H
 go_enter Try.func114,Try.ntmps114
 go_wp2_with (first|((with_reducible refine bQ (N:=1) rfl ?_);refine dJ rfl (N:=1) rfl (cs:=#[.int .i64 j4, .int .i64 j5, .slice j6 j3.length j7]) (t:=32) rn_ ?_;intro jb hg w3 hbox hb;have j8:=am (hbox);have jj:=am ((by rw [hg];exact (aJ gK):w.heap.size≤jb));have GE22:=am ((by rw [hg];exact (aJ gK):w.heap.size≤jb));replace HB:=am (aG gK hb);clear hb hbox hg;obtain ⟨jd,je,jf,jg,jh,ji⟩:=fZ j8.out)|((with_reducible refine aN (f:=124) rfl ?_);refine gl_ 4 Try.func124 #[.agg #[.int .i64 j4, .int .i64 j5, .slice j6 j3.length j7], .int .i64 5] ?_;(with_reducible refine (eZ.calls k j4 j5 _ _ j3 5 jc _ (aC_ (Kd.aV j9.out HB.out)) ja.out A2.out).mono ?_);rintro e w5 ⟨rfl,hb⟩;refine ⟨_,rfl,?_⟩;replace j8:=bbP j8 hb;replace HB:=am (aG uD hb);(try clear hb)))
 go_ret
 exact ⟨rr_,uD⟩
theorem BU.calls (n limit:Int) (needed:Bool) (w:World):
  Calls Try.prog 113 #[.int .i64 n, .int .i64 limit, .bool needed] w fun e w'=>e= .returned (.bool (inr n limit needed))∧iX w w':=by
 by_cases h0:n=0
 ·subst h0
  go_enter Try.func113,Try.ntmps113
  go_wp2
  go_ret
  exact ⟨by simp [inr],gM⟩
 have h0b:(n == 0)=false:=beq_eq_false_iff_ne.mpr h0
 cases needed with
 |false=>
  go_enter Try.func113,Try.ntmps113
  go_wp2
  go_ret
  exact ⟨by simp [inr,h0],gM⟩
 |true=>
  by_cases h1:0 < n
  ·have h1b:decide (0 < n)=true:=decide_eq_true h1
   by_cases h2:n < limit
   ·have h2b:decide (n < limit)=true:=decide_eq_true h2
    go_enter Try.func113,Try.ntmps113
    go_wp2
    go_ret
    exact ⟨by simp [inr,h0];omega,gM⟩
   have h2b:decide (n < limit)=false:=decide_eq_false h2
   go_enter Try.func113,Try.ntmps113
   go_wp2
   go_ret
   exact ⟨by simp [inr,h0];omega,gM⟩
  have h1b:decide (0 < n)=false:=decide_eq_false h1
  go_enter Try.func113,Try.ntmps113
  go_wp2
  go_ret
  exact ⟨by simp [inr,h0];omega,gM⟩
theorem nV {n limit:Int} {needed b:Bool} (w:World) (h:inr n limit needed=b):
  Calls Try.prog 113 #[.int .i64 n, .int .i64 limit, .bool needed] w fun e w'=>e= .returned (.bool b)∧iX w w':=h ▸ BU.calls n limit needed w
theorem lC.mono:∀ nv nb ne nd no va bx op n la lb le boxes k,LeO (lC k nv nb ne nd no va bx op n la lb le boxes) (lC (k + 1) nv nb ne nd no va bx op n la lb le boxes):=by
 intro nv nb ne nd no va bx op n la lb le boxes k
 unfold lC
 have m0:=@iE.mono
 exact mo_
theorem fE.mono:∀ kd va bx op n la lb le boxes k,LeO (fE.f k kd va bx op n la lb le boxes) (fE.f (k + 1) kd va bx op n la lb le boxes):=by
 intro kd va bx op n la lb le boxes k
 unfold fE.f
 have m0:=@lC.mono
 exact mo_
attribute [local irreducible] inr
theorem fE.callsP (k:Nat) (g:Addr) (kd va bx op n:Int) (Aa:Option Addr) (ca:Nat) (la:List S32) (Ab:Option Addr) (lb cb:Nat) (Ae:Option Addr) (le ce:Nat) (boxes:Int) (r:Bool) (w:World)
  (hg0:w.cell? g=some (.int .i64 kd)) (hg1:w.cell? ⟨g.block,g.off + 1,none⟩=some (.int .i64 va)) (hg2:w.cell? ⟨g.block,g.off + 2,none⟩=some (.int .i64 bx))
  (hg3:w.cell? ⟨g.block,g.off + 3,none⟩=some (.int .i64 op)) (hg4:w.cell? ⟨g.block,g.off + 4,none⟩=some (.int .i64 n)) (hg5:w.cell? ⟨g.block,g.off + 5,none⟩=some (.slice Aa la.length ca))
  (hg6:w.cell? ⟨g.block,g.off + 6,none⟩=some (.slice Ab lb cb)) (hg7:w.cell? ⟨g.block,g.off + 7,none⟩=some (.slice Ae le ce))
  (hr:Kd.C k32 w Aa la.length la) (hc:la.length≤ca) (h:fE.f k kd va bx op n la lb le boxes=some r):
  Calls Try.prog 97 #[.pointer (some g), .int .i64 boxes] w fun e w'=>e= .returned (.bool r)∧Below w.heap.size w w':=by
 have HR:=am hr
 have HC:=am hc
 have HH:=am h
 clear hr hc h
 go_enter Try.func97,Try.ntmps97
 go_upto_region 2 with (first|((with_reducible refine bQ (N:=5) rfl ?_);refine dJ (N:=5) rfl rfl (cs:=#[.bool false, .bool false, .bool false, .bool false, .bool false]) (t:=124) rn_ ?_;intro gb hg w1 hbox hb)|fail)
 have k0:=bU hb hg0
 have z0:=aA hbox 0
 have z1:=aA hbox 1
 have z2:=aA hbox 2
 have z3:=aA hbox 3
 have z4:=aA hbox 4
 have f0:=aU hbox 0
 have f1:=aU hbox 1
 have f2:=aU hbox 2
 have f3:=aU hbox 3
 have f4:=aU hbox 4
 have HBX:=am hbox
 have HB:=am hb
 have HG:=am (Nat.le_of_eq hg.symm)
 clear hbox hb hg
 go_upto_block 0 with fail
 go_cut [4,5] from 7 (fun v4 v5 wc=>∃ nv nb ne nd no,v5= .pointer (some ⟨gb,0,none⟩)∧Aside0 (lC k nv nb ne nd no va bx op n la lb le boxes=some r)∧Aside0 (wc.heap[gb]?=some (.cells #[.bool nv, .bool nb, .bool ne, .bool nd, .bool no] 124 (0,0)))∧Aside0 (Below w.heap.size w wc))
 case first=>
  have H:=HH.out
  clear HH
  unfold fE.f at H
  by_cases c1:kd=1
  ·rw [if_pos c1] at H
   subst c1
   have H':=am H
   clear H
   go_wp2
   go_meet
   case rel=>exact ⟨true,false,true,false,false,rfl,H',⟨(aM (aM HBX.out 0 (.bool true) (by rfl)) 2 (.bool true) (by rfl))⟩,⟨(below_set (below_set HB.out HG.out) HG.out)⟩⟩
  rw [if_neg c1] at H
  have d1:(kd == 1)=false:=beq_eq_false_iff_ne.mpr c1
  by_cases c2:kd=2
  ·rw [if_pos c2] at H
   subst c2
   have H':=am H
   clear H
   go_wp2
   go_meet
   case rel=>exact ⟨false,false,true,true,true,rfl,H',⟨(aM (aM (aM HBX.out 2 (.bool true) (by rfl)) 3 (.bool true) (by rfl)) 4 (.bool true) (by rfl))⟩,⟨(below_set (below_set (below_set HB.out HG.out) HG.out) HG.out)⟩⟩
  rw [if_neg c2] at H
  have d2:(kd == 2)=false:=beq_eq_false_iff_ne.mpr c2
  by_cases c3:kd=3
  ·rw [if_pos c3] at H
   subst c3
   have H':=am H
   clear H
   go_wp2
   go_meet
   case rel=>exact ⟨false,false,true,true,false,rfl,H',⟨(aM (aM HBX.out 2 (.bool true) (by rfl)) 3 (.bool true) (by rfl))⟩,⟨(below_set (below_set HB.out HG.out) HG.out)⟩⟩
  rw [if_neg c3] at H
  have d3:(kd == 3)=false:=beq_eq_false_iff_ne.mpr c3
  by_cases c4:kd=4
  ·rw [if_pos c4] at H
   subst c4
   have H':=am H
   clear H
   go_wp2
   go_meet
   case rel=>exact ⟨false,true,true,false,false,rfl,H',⟨(aM (aM HBX.out 1 (.bool true) (by rfl)) 2 (.bool true) (by rfl))⟩,⟨(below_set (below_set HB.out HG.out) HG.out)⟩⟩
  rw [if_neg c4] at H
  have d4:(kd == 4)=false:=beq_eq_false_iff_ne.mpr c4
  by_cases c5:kd=5
  ·rw [if_pos c5] at H
   subst c5
   have H':=am H
   clear H
   go_wp2
   go_meet
   case rel=>exact ⟨true,true,false,false,false,rfl,H',⟨(aM (aM HBX.out 1 (.bool true) (by rfl)) 0 (.bool true) (by rfl))⟩,⟨(below_set (below_set HB.out HG.out) HG.out)⟩⟩
  rw [if_neg c5] at H
  have d5:(kd == 5)=false:=beq_eq_false_iff_ne.mpr c5
  by_cases c7:kd=7
  ·rw [if_pos c7] at H
   subst c7
   have H':=am H
   clear H
   go_wp2
   go_meet
   case rel=>exact ⟨false,false,true,false,false,rfl,H',⟨(aM HBX.out 2 (.bool true) (by rfl))⟩,⟨(below_set HB.out HG.out)⟩⟩
  rw [if_neg c7] at H
  have d7:(kd == 7)=false:=beq_eq_false_iff_ne.mpr c7
  by_cases c6:kd=6
  ·rw [if_pos c6] at H
   subst c6
   have H':=am H
   clear H
   go_wp2
   go_meet
   case rel=>exact ⟨false,false,false,false,false,rfl,H',⟨HBX.out⟩,⟨HB.out⟩⟩
  rw [if_neg c6] at H
  have d6:(kd == 6)=false:=beq_eq_false_iff_ne.mpr c6
  obtain rfl:=Option.some.inj H
  go_wp2
  go_ret
  exact ⟨rfl,HB.out⟩
 case rest=>
  obtain ⟨nv,nb,ne,nd,no,rfl,HA,HX,HW⟩:=hcut
  have k1:=bU HW.out hg1
  have k2:=bU HW.out hg2
  have k3:=bU HW.out hg3
  have k4:=bU HW.out hg4
  have k5:=bU HW.out hg5
  have k6:=bU HW.out hg6
  have k7:=bU HW.out hg7
  have y0:wc.cell? ⟨gb,0,none⟩=some (.bool nv):=aA HX.out 0
  have y1:wc.cell? ⟨gb,1,none⟩=some (.bool nb):=aA HX.out 1
  have y2:wc.cell? ⟨gb,2,none⟩=some (.bool ne):=aA HX.out 2
  have y3:wc.cell? ⟨gb,3,none⟩=some (.bool nd):=aA HX.out 3
  have y4:wc.cell? ⟨gb,4,none⟩=some (.bool no):=aA HX.out 4
  clear k0 z0 z1 z2 z3 z4 f0 f1 f2 f3 f4 HBX HB hg0 hg1 hg2 hg3 hg4 hg5 hg6 hg7 HH
  go_upto_region 18 with fail
  (try simp only [Act.put,List.setIfInBounds_toArray,List.set_cons_zero,List.set_cons_succ])
  go_cut [69] from 37 (fun j6 wc_=>∃ (x:Bool),j6= .bool x∧Aside0 (∃ m,wc_=wc.drewN m)∧Aside0 (if x=true then r=false else (if ne=true then ((iE.f k op n la).bind fun t=>if t=true then some ((nd || lb == 0) && (no || le == 0)) else some false) else (if op=0 then (if n=0 then (if 0 < (la.length:Int) then some false else some ((nd || lb == 0) && (no || le == 0))) else some false) else some false))=some r))
  case first=>
   have H:=HA.out
   clear HA
   unfold lC at H
   by_cases i1:inr va 4 nv=true
   ·rw [if_pos i1] at H
    by_cases i2:inr bx boxes nb=true
    ·rw [if_pos i2] at H
     have I1:=am i1
     have I2:=am i2
     clear i1 i2
     by_cases i3:nb=true∧boxes≤bx
     ·rw [if_pos i3] at H
      obtain ⟨i4,i5⟩:=i3
      subst i4
      have i6:=eq_true i5
      have H':=am (Option.some.inj H)
      clear H i5
      go_big_quiet (first|(with_reducible refine Calls.quiet_of ((nV _ I1.out).mono (fun e w' hq=>⟨hq.1,hq.2.out⟩)))|(with_reducible refine Calls.quiet_of ((nV _ I2.out).mono (fun e w' hq=>⟨hq.1,hq.2.out⟩))))
      go_wp2
      go_meet
      case rel=>exact ⟨true,rfl,⟨_,rfl⟩,⟨by rw [if_pos rfl];exact H'.out.symm⟩⟩
     rw [if_neg i3] at H
     have H':=am H
     clear H
     cases nb with
     |false=>
      clear i3
      go_big_quiet (first|(with_reducible refine Calls.quiet_of ((nV _ I1.out).mono (fun e w' hq=>⟨hq.1,hq.2.out⟩)))|(with_reducible refine Calls.quiet_of ((nV _ I2.out).mono (fun e w' hq=>⟨hq.1,hq.2.out⟩))))
      go_wp2
      go_meet
      case rel=>exact ⟨false,rfl,⟨_,rfl⟩,⟨by rw [if_neg (by decide)];exact H'.out⟩⟩
     |true=>
      have i5:¬ boxes≤bx:=fun h=>i3 ⟨rfl,h⟩
      have i6:=eq_false i5
      clear i3 i5
      go_big_quiet (first|(with_reducible refine Calls.quiet_of ((nV _ I1.out).mono (fun e w' hq=>⟨hq.1,hq.2.out⟩)))|(with_reducible refine Calls.quiet_of ((nV _ I2.out).mono (fun e w' hq=>⟨hq.1,hq.2.out⟩))))
      go_wp2
      go_meet
      case rel=>exact ⟨false,rfl,⟨_,rfl⟩,⟨by rw [if_neg (by decide)];exact H'.out⟩⟩
    rw [if_neg i2] at H
    have I1:=am i1
    have I2:=am (Bool.eq_false_iff.mpr i2)
    clear i1 i2
    have H':=am (Option.some.inj H)
    clear H
    go_big_quiet (first|(with_reducible refine Calls.quiet_of ((nV _ I1.out).mono (fun e w' hq=>⟨hq.1,hq.2.out⟩)))|(with_reducible refine Calls.quiet_of ((nV _ I2.out).mono (fun e w' hq=>⟨hq.1,hq.2.out⟩))))
    go_wp2
    go_meet
    case rel=>exact ⟨true,rfl,⟨_,rfl⟩,⟨by rw [if_pos rfl];exact H'.out.symm⟩⟩
   rw [if_neg i1] at H
   have I1:=am (Bool.eq_false_iff.mpr i1)
   clear i1
   have H':=am (Option.some.inj H)
   clear H
   go_big_quiet (first|(with_reducible refine Calls.quiet_of ((nV _ I1.out).mono (fun e w' hq=>⟨hq.1,hq.2.out⟩))))
   go_wp2
   go_meet
   case rel=>exact ⟨true,rfl,⟨_,rfl⟩,⟨by rw [if_pos rfl];exact H'.out.symm⟩⟩
  case rest=>
   clear HA
   obtain ⟨x,rfl,⟨m,rfl⟩,HA⟩:=hcut
   cases x with
   |true=>
    have HA':=HA.out
    rw [if_pos rfl] at HA'
    subst HA'
    clear HA
    go_wp2
    go_ret
    exact ⟨rfl,bA HW.out _⟩
   |false=>
    have H:=HA.out
    rw [if_neg (by decide)] at H
    clear HA
    go_upto_region 20 with fail
    (try simp only [Act.put,List.setIfInBounds_toArray,List.set_cons_zero,List.set_cons_succ])
    go_cut [109] from 70 (fun j7 wd=>∃ (x:Bool),j7= .bool x∧Aside0 (Below w.heap.size w wd)∧Aside0 (Below wc.heap.size wc wd)∧Aside0 (if x=true then r=false else ((nd || lb == 0) && (no || le == 0))=r))
    case first=>
     cases ne with
     |true=>
      rw [if_pos rfl] at H
      obtain ⟨t,ht,H⟩:=bsm H
      have HE:=am ht
      have j5:=am (Kd.aV HR.out HW.out)
      clear ht
      cases t with
      |true=>
       rw [if_pos rfl] at H
       have H':=am (Option.some.inj H)
       clear H
       go_wp2_with (first|((with_reducible refine (iE.calls k op n Aa ca la _ _ ?side1 HC.out HE.out).mono ?_);(case side1=>repeat (first|exact j5.out|(with_reducible refine Kd.tZ ?_ _)|(with_reducible refine Kd.vY ?_)));rintro e wq ⟨rfl,hb⟩;have y2q:wq.cell? ⟨gb,2,none⟩=some (.bool true):=bU (w:=wc.drewN m) hb y2;have HBE:=am (show Below wc.heap.size wc wq from (bA (Below.refl _ _) m).trans hb);clear hb;(try dsimp only))|fail)
       go_meet
       case rel=>exact ⟨false,rfl,⟨aG HW.out HBE.out⟩,⟨HBE.out⟩,⟨by rw [if_neg (by decide)];exact H'.out⟩⟩
      |false=>
       rw [if_neg (by decide)] at H
       have H':=am (Option.some.inj H)
       clear H
       go_wp2_with (first|((with_reducible refine (iE.calls k op n Aa ca la _ _ ?side1 HC.out HE.out).mono ?_);(case side1=>repeat (first|exact j5.out|(with_reducible refine Kd.tZ ?_ _)|(with_reducible refine Kd.vY ?_)));rintro e wq ⟨rfl,hb⟩;have y2q:wq.cell? ⟨gb,2,none⟩=some (.bool true):=bU (w:=wc.drewN m) hb y2;have HBE:=am (show Below wc.heap.size wc wq from (bA (Below.refl _ _) m).trans hb);clear hb;(try dsimp only))|fail)
       go_meet
       case rel=>exact ⟨true,rfl,⟨aG HW.out HBE.out⟩,⟨HBE.out⟩,⟨by rw [if_pos rfl];exact H'.out.symm⟩⟩
     |false=>
      rw [if_neg (by decide)] at H
      by_cases j0:op=0
      ·rw [if_pos j0] at H
       by_cases j1:n=0
       ·rw [if_pos j1] at H
        subst j0
        subst j1
        by_cases j2:0 < (la.length:Int)
        ·rw [if_pos j2] at H
         have H':=am (Option.some.inj H)
         clear H
         have j3:=eq_true j2
         have j4:(0 < la.length)=True:=eq_true (by omega)
         clear j2
         go_wp2
         go_meet
         case rel=>exact ⟨true,sd_,⟨bA HW.out _⟩,⟨bA (Below.refl _ _) _⟩,⟨by rw [if_pos rfl];exact H'.out.symm⟩⟩
        rw [if_neg j2] at H
        have H':=am (Option.some.inj H)
        clear H
        have j3:=eq_false j2
        have j4:(0 < la.length)=False:=eq_false (by omega)
        clear j2
        go_wp2
        go_meet
        case rel=>exact ⟨false,sd_,⟨bA HW.out _⟩,⟨bA (Below.refl _ _) _⟩,⟨by rw [if_neg (by decide)];exact H'.out⟩⟩
       rw [if_neg j1] at H
       have H':=am (Option.some.inj H)
       clear H
       subst j0
       have j2:(n != 0)=true:=bne_iff_ne.mpr j1
       clear j1
       go_wp2
       go_meet
       case rel=>exact ⟨true,sd_,⟨bA HW.out _⟩,⟨bA (Below.refl _ _) _⟩,⟨by rw [if_pos rfl];exact H'.out.symm⟩⟩
      rw [if_neg j0] at H
      have H':=am (Option.some.inj H)
      clear H
      have j2:(op != 0)=true:=bne_iff_ne.mpr j0
      clear j0
      go_wp2
      go_meet
      case rel=>exact ⟨true,sd_,⟨bA HW.out _⟩,⟨bA (Below.refl _ _) _⟩,⟨by rw [if_pos rfl];exact H'.out.symm⟩⟩
    case rest=>
     clear H
     obtain ⟨x,rfl,HW2,HW3,HA⟩:=hcut
     cases x with
     |true=>
      have HA':=HA.out
      rw [if_pos rfl] at HA'
      subst HA'
      clear HA
      go_wp2
      go_ret
      exact ⟨rfl,HW2.out⟩
     |false=>
      have H:=HA.out
      rw [if_neg (by decide)] at H
      subst H
      have k6':=bU HW3.out k6
      have k7':=bU HW3.out k7
      have y3':=bU HW3.out y3
      have y4':=bU HW3.out y4
      clear HA k1 k2 k3 k4 k5 k6 k7 y0 y1 y2 y3 y4
      by_cases q6:lb=0
      ·have p6:((lb:Int) == 0)=true:=by rw [q6];rfl
       by_cases q7:le=0
       ·have p7:((le:Int) == 0)=true:=by rw [q7];rfl
        have Q6:=am q6
        have Q7:=am q7
        clear q6 q7
        cases nd <;> cases no <;> (go_wp2;go_ret;exact ⟨by simp [Q6.out,Q7.out],HW2.out⟩)
       have p7:((le:Int) == 0)=false:=beq_eq_false_iff_ne.mpr (by omega)
       have Q6:=am q6
       have Q7:=am q7
       clear q6 q7
       cases nd <;> cases no <;> (go_wp2;go_ret;exact ⟨by simp [Q6.out,Q7.out],HW2.out⟩)
      have p6:((lb:Int) == 0)=false:=beq_eq_false_iff_ne.mpr (by omega)
      have Q6:=am q6
      clear q6
      cases nd with
      |false=>
       go_wp2
       go_ret
       exact ⟨by simp [Q6.out],HW2.out⟩
      |true=>
       by_cases q7:le=0
       ·have p7:((le:Int) == 0)=true:=by rw [q7];rfl
        have Q7:=am q7
        clear q7
        cases no <;> (go_wp2;go_ret;exact ⟨by simp [p7,Q7.out],HW2.out⟩)
       have p7:((le:Int) == 0)=false:=beq_eq_false_iff_ne.mpr (by omega)
       have Q7:=am q7
       clear q7
       cases no <;> (go_wp2;go_ret;exact ⟨by simp [p7,Q7.out],HW2.out⟩)
theorem dK.mono_l:∀ k,(∀ y0 y1 y2 y3,LeO (dK.f k y0 y1 y2 y3) (dK.f (k + 1) y0 y1 y2 y3))∧(∀ y0 y1 y2 y3 y4,LeO (dK.l0 k y0 y1 y2 y3 y4) (dK.l0 (k + 1) y0 y1 y2 y3 y4))
 |0=>⟨fun _ _ _ _ r h=>by simp [dK.f] at h,fun _ _ _ _ _ r h=>by simp [dK.l0] at h⟩
 |k + 1=>by
  obtain ⟨ih0,ih1⟩:=dK.mono_l k
  refine ⟨?_,?_⟩
  ·intro y0 y1 y2 y3
   unfold dK.f
   have m0:=@fE.mono
   exact mo_
  ·intro y0 y1 y2 y3 y4
   unfold dK.l0
   have m0:=@fE.mono
   exact mo_
theorem dK.mono:∀ a0 a1 a2 a3 k,LeO (dK.f k a0 a1 a2 a3) (dK.f (k + 1) a0 a1 a2 a3):=by
 intro a0 a1 a2 a3 k
 obtain ⟨ih0,ih1⟩:=dK.mono_l k
 exact ih0 a0 a1 a2 a3
theorem aAm {w:World} {ok:Nat→Prop} {A:Option Addr} {n:Nat} {xs:List S35} (h:Kd.F k35 w ok A n xs) (i:Int) (h0:0≤i) (h1:i < n):
  ∃ ad A5 c5 A6 c6 A7 c7,A=some ad∧w.cell? (ad.add (i.toNat * 8))=some (.int .i64 (aC xs i).f0)∧w.cell? ⟨(ad.add (i.toNat * 8)).block,(ad.add (i.toNat * 8)).off + 1,none⟩=some (.int .i64 (aC xs i).f1)∧w.cell? ⟨(ad.add (i.toNat * 8)).block,(ad.add (i.toNat * 8)).off + 2,none⟩=some (.int .i64 (aC xs i).f2)∧w.cell? ⟨(ad.add (i.toNat * 8)).block,(ad.add (i.toNat * 8)).off + 3,none⟩=some (.int .i64 (aC xs i).f3.f0)∧w.cell? ⟨(ad.add (i.toNat * 8)).block,(ad.add (i.toNat * 8)).off + 4,none⟩=some (.int .i64 (aC xs i).f3.f1)∧w.cell? ⟨(ad.add (i.toNat * 8)).block,(ad.add (i.toNat * 8)).off + 5,none⟩=some (.slice A5 (aC xs i).f3.f2.length c5)∧w.cell? ⟨(ad.add (i.toNat * 8)).block,(ad.add (i.toNat * 8)).off + 6,none⟩=some (.slice A6 (aC xs i).f4.length c6)∧w.cell? ⟨(ad.add (i.toNat * 8)).block,(ad.add (i.toNat * 8)).off + 7,none⟩=some (.slice A7 (aC xs i).f5.length c7)∧(aC xs i).f3.f2.length≤c5∧Kd.F k32 w ok A5 (aC xs i).f3.f2.length (aC xs i).f3.f2∧(aC xs i).f4.length≤c6∧Kd.F k35 w ok A6 (aC xs i).f4.length (aC xs i).f4∧(aC xs i).f5.length≤c7∧Kd.F k35 w ok A7 (aC xs i).f5.length (aC xs i).f5:=by
 obtain ⟨ad,c,e,_,hK,hc0,_⟩:=Kd.SG h z35 i h0 h1
 have hc:∀ j u,c[j]?=some u→w.cell? (ad.add (i.toNat * 8 + j))=some u:=hc0
 obtain ⟨A5,c5,A6,c6,A7,c7,rfl,l5,g5,l6,g6,l7,g7⟩:=RO hK
 exact ⟨ad,A5,c5,A6,c6,A7,c7,e,hc 0 _ rfl,by rw [← kS _ _ 1 (by omega)];exact hc 1 _ rfl,by rw [← kS _ _ 2 (by omega)];exact hc 2 _ rfl,by rw [← kS _ _ 3 (by omega)];exact hc 3 _ rfl,by rw [← kS _ _ 4 (by omega)];exact hc 4 _ rfl,by rw [← kS _ _ 5 (by omega)];exact hc 5 _ rfl,by rw [← kS _ _ 6 (by omega)];exact hc 6 _ rfl,by rw [← kS _ _ 7 (by omega)];exact hc 7 _ rfl,l5,g5,l6,g6,l7,g7⟩
theorem tC {w w1:World} {g:Nat} {a:Addr} {v:Value} (hk:aI w w1 g none) (h:w.cell? a=some v) (hne:a.block≠g):w1.cell? a=some v:=
 (World.cell?_of_block (w:=w) (hk.2 a.block (World.block_lt_of_cell? w a h) hne (by simp))).trans h
theorem dK.callsP (k:Nat):∀ (A:Option Addr) (c:Nat) (l:List S35) (boxes blocks cnt:Int) (gc B:Nat) (ok:Nat→Prop) (r:Bool) (cnt':Int) (w:World)
  (hF:Kd.F k35 w ok A l.length l) (hc:l.length≤c) (hno:¬ ok gc) (hB:B≤gc) (hb:w.heap[gc]?=some (.cells #[.int .i64 cnt] 3 (0,0))) (h:dK.f k l boxes blocks cnt=some (r,cnt')),
  Calls Try.prog 82 #[.slice A l.length c, .int .i64 boxes, .int .i64 blocks, .pointer (some ⟨gc,0,none⟩)] w fun e w'=>e= .returned (.bool r)∧w'.heap[gc]?=some (.cells #[.int .i64 cnt'] 3 (0,0))∧aI w w' gc none∧Below B w w':=by
 induction k using Nat.strongRecOn with
 | _ k ih=>
 intro A c l boxes blocks cnt gc B ok r cnt' w hF hc hno hB hb h
 cases k with
 |zero=>exact absurd h (by simp [dK.f])
 |succ k=>
 simp only [dK.f] at h
 have HF:=am hF
 have HC:=am hc
 have HNO:=am hno
 have HGB:=am hB
 have HBX:=am hb
 have z0:w.cell? ⟨gc,0,none⟩=some (.int .i64 cnt):=aA hb 0
 have f0:=aU hb 0
 have j4:=am (aM (cs':=#[.int .i64 (wrap64 (cnt + (l.length:Int)))]) hb 0 (.int .i64 (wrap64 (cnt + (l.length:Int)))) rfl)
 have j5:=am (aI.xK (aI.refl w gc none) 0 (.int .i64 (wrap64 (cnt + (l.length:Int)))))
 have HW1:=am (Below.setCell (p:=⟨gc,0,none⟩) (Below.refl B w) hB (.int .i64 (wrap64 (cnt + (l.length:Int)))))
 clear hF hc hno hb hB
 by_cases c0:16 < wrap64 (cnt + (l.length:Int))
 ·rw [if_pos c0] at h
  have h1:=Option.some.inj h
  injection h1 with h1 h2
  subst h1
  subst h2
  have j7:decide (16 < wrap64 (cnt + (l.length:Int)))=true:=decide_eq_true c0
  clear h
  go_enter Try.func82,Try.ntmps82
  go_wp2
  go_ret
  exact ⟨rfl,j4.out,j5.out,HW1.out⟩
 rw [if_neg c0] at h
 have j7:decide (16 < wrap64 (cnt + (l.length:Int)))=false:=decide_eq_false c0
 have H':=am h
 clear h
 go_enter Try.func82,Try.ntmps82
 go_wp2
 go_loopg [24] k (fun kq j8 w'=>∃ (i cq:Int),j8= .int .i64 i∧Aside0 (dK.l0 kq l boxes blocks i cq=some (r,cnt'))∧Aside0 (kq≤k)∧Aside0 (w'.heap[gc]?=some (.cells #[.int .i64 cq] 3 (0,0)))∧Aside0 (aI w w' gc none)∧Aside0 (Below B w w'))
 case atStart=>exact ⟨0,_,rfl,H',⟨Nat.le_refl _⟩,j4,j5,HW1⟩
 case round=>
  obtain ⟨i,cq,rfl,HA,HK,HBQ,HKQ,HWQ⟩:=hrel
  cases gk with
  |zero=>exact absurd HA.out (by simp [dK.l0])
  |succ k1=>
   have H:=HA.out
   clear HA
   simp only [dK.l0] at H
   by_cases c1:i < (l.length:Int)
   ·rw [if_pos c1] at H
    by_cases c2:0≤i
    ·rw [if_pos c2] at H
     obtain ⟨t,ht,H⟩:=bsm H
     have hF':=Kd.wB HF.out (fun q hq hlt=>HKQ.out.2 q hlt (fun e=>HNO.out (e ▸ hq)) (by simp))
     obtain ⟨ad,A5,c5,A6,c6,A7,c7,rfl,x0,x1,x2,x3,x4,x5,x6,x7,l5,g5,l6,g6,l7,g7⟩:=aAm hF' i c2 c1
     obtain ⟨ad_,cs_,e_,_,_,_,okad⟩:=Kd.SG hF' z35 i c2 c1
     cases e_
     have NE7:=am (show (ad.add (i.toNat * 8)).block≠gc from fun e=>HNO.out (e ▸ (add_block ad _).symm ▸ okad (by decide)))
     clear okad
     have HT:=am ht
     have j9:decide (i < (l.length:Int))=true:=decide_eq_true c1
     have p0:=eq_true c2
     have p1:=eq_true c1
     have G5:=am (Kd.OT g5)
     have L5:=am l5
     have G6:=am g6
     have L6:=am l6
     have G7:=am g7
     have L7:=am l7
     clear ht hF' g5 l5 g6 l6 g7 l7 c1 c2 z0 f0
     cases t with
     |false=>
      rw [if_neg (by decide)] at H
      have h1:=Option.some.inj H
      injection h1 with h1 h2
      subst h1
      subst h2
      clear H
      go_wp2_with (first|((with_reducible refine (fE.callsP k1 (ad.add (i.toNat * 8)) _ _ _ _ _ A5 c5 _ A6 _ c6 A7 _ c7 _ _ _ x0 x1 x2 x3 x4 x5 x6 x7 G5.out L5.out HT.out).mono ?_);rintro e wa ⟨rfl,hb⟩;have y0:=bU hb x0;have y6:=bU hb x6;have y7:=bU hb x7;have BXA:=am (bY HBQ.out hb);have KA:=am (aI.trans HKQ.out (aI.of_below hb gc none) (.inl rfl));have WA:=am (HWQ.out.trans (hb.mono (Nat.le_of_lt (Nat.lt_of_le_of_lt HGB.out (gQ HBQ.out)))));have G6A:=am (Kd.iU G6.out hb);have G7A:=am (Kd.iU G7.out hb);clear hb;(try dsimp only)))
      go_ret
      exact ⟨rfl,BXA.out,KA.out,WA.out⟩
     |true=>
      rw [if_pos rfl] at H
      by_cases c3:3 < blocks
      ·rw [if_pos c3] at H
       have ja:decide (3 < blocks)=true:=decide_eq_true c3
       have h1:=Option.some.inj H
       injection h1 with h1 h2
       subst h1
       subst h2
       clear H
       go_wp2_with (first|((with_reducible refine (fE.callsP k1 (ad.add (i.toNat * 8)) _ _ _ _ _ A5 c5 _ A6 _ c6 A7 _ c7 _ _ _ x0 x1 x2 x3 x4 x5 x6 x7 G5.out L5.out HT.out).mono ?_);rintro e wa ⟨rfl,hb⟩;have y0:=bU hb x0;have y6:=bU hb x6;have y7:=bU hb x7;have BXA:=am (bY HBQ.out hb);have KA:=am (aI.trans HKQ.out (aI.of_below hb gc none) (.inl rfl));have WA:=am (HWQ.out.trans (hb.mono (Nat.le_of_lt (Nat.lt_of_le_of_lt HGB.out (gQ HBQ.out)))));have G6A:=am (Kd.iU G6.out hb);have G7A:=am (Kd.iU G7.out hb);clear hb;(try dsimp only)))
       go_ret
       exact ⟨rfl,BXA.out,KA.out,WA.out⟩
      rw [if_neg c3] at H
      have ja:decide (3 < blocks)=false:=decide_eq_false c3
      by_cases c4:(aC l i).f0=2∨(aC l i).f0=3
      ·rw [if_pos c4] at H
       by_cases j3:3≤blocks
       ·rw [if_pos j3] at H
        have jb:decide (3≤blocks)=true:=decide_eq_true j3
        clear c3 j3
        have h1:=Option.some.inj H
        injection h1 with h1 h2
        subst h1
        subst h2
        clear H
        rcases c4 with c4|c4
        ·have d2:((aC l i).f0 != 2)=false:=bne_eq_false_iff_eq.mpr c4
         clear c4
         go_wp2_with (first|((with_reducible refine (fE.callsP k1 (ad.add (i.toNat * 8)) _ _ _ _ _ A5 c5 _ A6 _ c6 A7 _ c7 _ _ _ x0 x1 x2 x3 x4 x5 x6 x7 G5.out L5.out HT.out).mono ?_);rintro e wa ⟨rfl,hb⟩;have y0:=bU hb x0;have y6:=bU hb x6;have y7:=bU hb x7;have BXA:=am (bY HBQ.out hb);have KA:=am (aI.trans HKQ.out (aI.of_below hb gc none) (.inl rfl));have WA:=am (HWQ.out.trans (hb.mono (Nat.le_of_lt (Nat.lt_of_le_of_lt HGB.out (gQ HBQ.out)))));have G6A:=am (Kd.iU G6.out hb);have G7A:=am (Kd.iU G7.out hb);clear hb;(try dsimp only)))
         go_ret
         exact ⟨rfl,BXA.out,KA.out,WA.out⟩
        ·have d2:((aC l i).f0 != 2)=true:=bne_iff_ne.mpr (by omega)
         have d3:((aC l i).f0 != 3)=false:=bne_eq_false_iff_eq.mpr c4
         clear c4
         go_wp2_with (first|((with_reducible refine (fE.callsP k1 (ad.add (i.toNat * 8)) _ _ _ _ _ A5 c5 _ A6 _ c6 A7 _ c7 _ _ _ x0 x1 x2 x3 x4 x5 x6 x7 G5.out L5.out HT.out).mono ?_);rintro e wa ⟨rfl,hb⟩;have y0:=bU hb x0;have y6:=bU hb x6;have y7:=bU hb x7;have BXA:=am (bY HBQ.out hb);have KA:=am (aI.trans HKQ.out (aI.of_below hb gc none) (.inl rfl));have WA:=am (HWQ.out.trans (hb.mono (Nat.le_of_lt (Nat.lt_of_le_of_lt HGB.out (gQ HBQ.out)))));have G6A:=am (Kd.iU G6.out hb);have G7A:=am (Kd.iU G7.out hb);clear hb;(try dsimp only)))
         go_ret
         exact ⟨rfl,BXA.out,KA.out,WA.out⟩
       rw [if_neg j3] at H
       have jb:decide (3≤blocks)=false:=decide_eq_false j3
       clear c3 j3
       obtain ⟨⟨r1,jc⟩,hp,H⟩:=bsm H
       have HP:=am hp
       clear hp
       cases r1 with
       |false=>
        rw [if_neg Bool.false_ne_true] at H
        have h1:=Option.some.inj H
        injection h1 with h1 h2
        subst h1
        subst h2
        clear H
        rcases c4 with c4|c4
        ·have d2:((aC l i).f0 != 2)=false:=bne_eq_false_iff_eq.mpr c4
         clear c4
         go_wp2_with (first|((with_reducible refine (fE.callsP k1 (ad.add (i.toNat * 8)) _ _ _ _ _ A5 c5 _ A6 _ c6 A7 _ c7 _ _ _ x0 x1 x2 x3 x4 x5 x6 x7 G5.out L5.out HT.out).mono ?_);rintro e wa ⟨rfl,hb⟩;have y0:=bU hb x0;have y6:=bU hb x6;have y7:=bU hb x7;have BXA:=am (bY HBQ.out hb);have KA:=am (aI.trans HKQ.out (aI.of_below hb gc none) (.inl rfl));have WA:=am (HWQ.out.trans (hb.mono (Nat.le_of_lt (Nat.lt_of_le_of_lt HGB.out (gQ HBQ.out)))));have G6A:=am (Kd.iU G6.out hb);have G7A:=am (Kd.iU G7.out hb);clear hb;(try dsimp only))|((with_reducible refine (ih k1 (by have:=HK.out;omega) A6 c6 _ boxes (wrap64 (blocks + 1)) cq gc B ok _ _ _ G6A.out L6.out HNO.out HGB.out BXA.out HP.out).mono ?_);rintro e wb ⟨rfl,hx,hk,hw⟩;have ne7:=am hk;have u7:=tC hk y7 NE7.out;have G7B:=am (Kd.wB G7A.out (fun q hq hlt=>hk.2 q hlt (fun e=>HNO.out (e ▸ hq)) (by simp)));have BXB:=am hx;have KB:=am (aI.trans KA.out hk (.inl rfl));have WB:=am (WA.out.trans hw);clear hx hk hw;(try dsimp only)))
         go_ret
         exact ⟨rfl,BXB.out,KB.out,WB.out⟩
        ·have d2:((aC l i).f0 != 2)=true:=bne_iff_ne.mpr (by omega)
         have d3:((aC l i).f0 != 3)=false:=bne_eq_false_iff_eq.mpr c4
         clear c4
         go_wp2_with (first|((with_reducible refine (fE.callsP k1 (ad.add (i.toNat * 8)) _ _ _ _ _ A5 c5 _ A6 _ c6 A7 _ c7 _ _ _ x0 x1 x2 x3 x4 x5 x6 x7 G5.out L5.out HT.out).mono ?_);rintro e wa ⟨rfl,hb⟩;have y0:=bU hb x0;have y6:=bU hb x6;have y7:=bU hb x7;have BXA:=am (bY HBQ.out hb);have KA:=am (aI.trans HKQ.out (aI.of_below hb gc none) (.inl rfl));have WA:=am (HWQ.out.trans (hb.mono (Nat.le_of_lt (Nat.lt_of_le_of_lt HGB.out (gQ HBQ.out)))));have G6A:=am (Kd.iU G6.out hb);have G7A:=am (Kd.iU G7.out hb);clear hb;(try dsimp only))|((with_reducible refine (ih k1 (by have:=HK.out;omega) A6 c6 _ boxes (wrap64 (blocks + 1)) cq gc B ok _ _ _ G6A.out L6.out HNO.out HGB.out BXA.out HP.out).mono ?_);rintro e wb ⟨rfl,hx,hk,hw⟩;have ne7:=am hk;have u7:=tC hk y7 NE7.out;have G7B:=am (Kd.wB G7A.out (fun q hq hlt=>hk.2 q hlt (fun e=>HNO.out (e ▸ hq)) (by simp)));have BXB:=am hx;have KB:=am (aI.trans KA.out hk (.inl rfl));have WB:=am (WA.out.trans hw);clear hx hk hw;(try dsimp only)))
         go_ret
         exact ⟨rfl,BXB.out,KB.out,WB.out⟩
       |true=>
        rw [if_pos rfl] at H
        obtain ⟨⟨r2,j6⟩,hq,H⟩:=bsm H
        have HQ:=am hq
        clear hq
        cases r2 with
        |false=>
         rw [if_neg Bool.false_ne_true] at H
         have h1:=Option.some.inj H
         injection h1 with h1 h2
         subst h1
         subst h2
         clear H
         rcases c4 with c4|c4
         ·have d2:((aC l i).f0 != 2)=false:=bne_eq_false_iff_eq.mpr c4
          clear c4
          go_wp2_with (first|((with_reducible refine (fE.callsP k1 (ad.add (i.toNat * 8)) _ _ _ _ _ A5 c5 _ A6 _ c6 A7 _ c7 _ _ _ x0 x1 x2 x3 x4 x5 x6 x7 G5.out L5.out HT.out).mono ?_);rintro e wa ⟨rfl,hb⟩;have y0:=bU hb x0;have y6:=bU hb x6;have y7:=bU hb x7;have BXA:=am (bY HBQ.out hb);have KA:=am (aI.trans HKQ.out (aI.of_below hb gc none) (.inl rfl));have WA:=am (HWQ.out.trans (hb.mono (Nat.le_of_lt (Nat.lt_of_le_of_lt HGB.out (gQ HBQ.out)))));have G6A:=am (Kd.iU G6.out hb);have G7A:=am (Kd.iU G7.out hb);clear hb;(try dsimp only))|((with_reducible refine (ih k1 (by have:=HK.out;omega) A6 c6 _ boxes (wrap64 (blocks + 1)) cq gc B ok _ _ _ G6A.out L6.out HNO.out HGB.out BXA.out HP.out).mono ?_);rintro e wb ⟨rfl,hx,hk,hw⟩;have ne7:=am hk;have u7:=tC hk y7 NE7.out;have G7B:=am (Kd.wB G7A.out (fun q hq hlt=>hk.2 q hlt (fun e=>HNO.out (e ▸ hq)) (by simp)));have BXB:=am hx;have KB:=am (aI.trans KA.out hk (.inl rfl));have WB:=am (WA.out.trans hw);clear hx hk hw;(try dsimp only))|((with_reducible refine (ih k1 (by have:=HK.out;omega) A7 c7 _ boxes (wrap64 (blocks + 1)) _ gc B ok _ _ _ G7B.out L7.out HNO.out HGB.out BXB.out HQ.out).mono ?_);rintro e wd ⟨rfl,hx,hk,hw⟩;have BXD:=am hx;have KD:=am (aI.trans KB.out hk (.inl rfl));have WD:=am (WB.out.trans hw);clear hx hk hw;(try dsimp only)))
          go_ret
          exact ⟨rfl,BXD.out,KD.out,WD.out⟩
         ·have d2:((aC l i).f0 != 2)=true:=bne_iff_ne.mpr (by omega)
          have d3:((aC l i).f0 != 3)=false:=bne_eq_false_iff_eq.mpr c4
          clear c4
          go_wp2_with (first|((with_reducible refine (fE.callsP k1 (ad.add (i.toNat * 8)) _ _ _ _ _ A5 c5 _ A6 _ c6 A7 _ c7 _ _ _ x0 x1 x2 x3 x4 x5 x6 x7 G5.out L5.out HT.out).mono ?_);rintro e wa ⟨rfl,hb⟩;have y0:=bU hb x0;have y6:=bU hb x6;have y7:=bU hb x7;have BXA:=am (bY HBQ.out hb);have KA:=am (aI.trans HKQ.out (aI.of_below hb gc none) (.inl rfl));have WA:=am (HWQ.out.trans (hb.mono (Nat.le_of_lt (Nat.lt_of_le_of_lt HGB.out (gQ HBQ.out)))));have G6A:=am (Kd.iU G6.out hb);have G7A:=am (Kd.iU G7.out hb);clear hb;(try dsimp only))|((with_reducible refine (ih k1 (by have:=HK.out;omega) A6 c6 _ boxes (wrap64 (blocks + 1)) cq gc B ok _ _ _ G6A.out L6.out HNO.out HGB.out BXA.out HP.out).mono ?_);rintro e wb ⟨rfl,hx,hk,hw⟩;have ne7:=am hk;have u7:=tC hk y7 NE7.out;have G7B:=am (Kd.wB G7A.out (fun q hq hlt=>hk.2 q hlt (fun e=>HNO.out (e ▸ hq)) (by simp)));have BXB:=am hx;have KB:=am (aI.trans KA.out hk (.inl rfl));have WB:=am (WA.out.trans hw);clear hx hk hw;(try dsimp only))|((with_reducible refine (ih k1 (by have:=HK.out;omega) A7 c7 _ boxes (wrap64 (blocks + 1)) _ gc B ok _ _ _ G7B.out L7.out HNO.out HGB.out BXB.out HQ.out).mono ?_);rintro e wd ⟨rfl,hx,hk,hw⟩;have BXD:=am hx;have KD:=am (aI.trans KB.out hk (.inl rfl));have WD:=am (WB.out.trans hw);clear hx hk hw;(try dsimp only)))
          go_ret
          exact ⟨rfl,BXD.out,KD.out,WD.out⟩
        |true=>
         rw [if_pos rfl] at H
         have H':=am H
         clear H
         rcases c4 with c4|c4
         ·have d2:((aC l i).f0 != 2)=false:=bne_eq_false_iff_eq.mpr c4
          clear c4
          go_wp2_with (first|((with_reducible refine (fE.callsP k1 (ad.add (i.toNat * 8)) _ _ _ _ _ A5 c5 _ A6 _ c6 A7 _ c7 _ _ _ x0 x1 x2 x3 x4 x5 x6 x7 G5.out L5.out HT.out).mono ?_);rintro e wa ⟨rfl,hb⟩;have y0:=bU hb x0;have y6:=bU hb x6;have y7:=bU hb x7;have BXA:=am (bY HBQ.out hb);have KA:=am (aI.trans HKQ.out (aI.of_below hb gc none) (.inl rfl));have WA:=am (HWQ.out.trans (hb.mono (Nat.le_of_lt (Nat.lt_of_le_of_lt HGB.out (gQ HBQ.out)))));have G6A:=am (Kd.iU G6.out hb);have G7A:=am (Kd.iU G7.out hb);clear hb;(try dsimp only))|((with_reducible refine (ih k1 (by have:=HK.out;omega) A6 c6 _ boxes (wrap64 (blocks + 1)) cq gc B ok _ _ _ G6A.out L6.out HNO.out HGB.out BXA.out HP.out).mono ?_);rintro e wb ⟨rfl,hx,hk,hw⟩;have ne7:=am hk;have u7:=tC hk y7 NE7.out;have G7B:=am (Kd.wB G7A.out (fun q hq hlt=>hk.2 q hlt (fun e=>HNO.out (e ▸ hq)) (by simp)));have BXB:=am hx;have KB:=am (aI.trans KA.out hk (.inl rfl));have WB:=am (WA.out.trans hw);clear hx hk hw;(try dsimp only))|((with_reducible refine (ih k1 (by have:=HK.out;omega) A7 c7 _ boxes (wrap64 (blocks + 1)) _ gc B ok _ _ _ G7B.out L7.out HNO.out HGB.out BXB.out HQ.out).mono ?_);rintro e wd ⟨rfl,hx,hk,hw⟩;have BXD:=am hx;have KD:=am (aI.trans KB.out hk (.inl rfl));have WD:=am (WB.out.trans hw);clear hx hk hw;(try dsimp only)))
          go_roundg k1
          case measure=>have:=HK.out;omega
          case rel=>exact ⟨wrap64 (i + 1),j6,sd_,H',⟨by have:=HK.out;omega⟩,BXD,KD,WD⟩
         ·have d2:((aC l i).f0 != 2)=true:=bne_iff_ne.mpr (by omega)
          have d3:((aC l i).f0 != 3)=false:=bne_eq_false_iff_eq.mpr c4
          clear c4
          go_wp2_with (first|((with_reducible refine (fE.callsP k1 (ad.add (i.toNat * 8)) _ _ _ _ _ A5 c5 _ A6 _ c6 A7 _ c7 _ _ _ x0 x1 x2 x3 x4 x5 x6 x7 G5.out L5.out HT.out).mono ?_);rintro e wa ⟨rfl,hb⟩;have y0:=bU hb x0;have y6:=bU hb x6;have y7:=bU hb x7;have BXA:=am (bY HBQ.out hb);have KA:=am (aI.trans HKQ.out (aI.of_below hb gc none) (.inl rfl));have WA:=am (HWQ.out.trans (hb.mono (Nat.le_of_lt (Nat.lt_of_le_of_lt HGB.out (gQ HBQ.out)))));have G6A:=am (Kd.iU G6.out hb);have G7A:=am (Kd.iU G7.out hb);clear hb;(try dsimp only))|((with_reducible refine (ih k1 (by have:=HK.out;omega) A6 c6 _ boxes (wrap64 (blocks + 1)) cq gc B ok _ _ _ G6A.out L6.out HNO.out HGB.out BXA.out HP.out).mono ?_);rintro e wb ⟨rfl,hx,hk,hw⟩;have ne7:=am hk;have u7:=tC hk y7 NE7.out;have G7B:=am (Kd.wB G7A.out (fun q hq hlt=>hk.2 q hlt (fun e=>HNO.out (e ▸ hq)) (by simp)));have BXB:=am hx;have KB:=am (aI.trans KA.out hk (.inl rfl));have WB:=am (WA.out.trans hw);clear hx hk hw;(try dsimp only))|((with_reducible refine (ih k1 (by have:=HK.out;omega) A7 c7 _ boxes (wrap64 (blocks + 1)) _ gc B ok _ _ _ G7B.out L7.out HNO.out HGB.out BXB.out HQ.out).mono ?_);rintro e wd ⟨rfl,hx,hk,hw⟩;have BXD:=am hx;have KD:=am (aI.trans KB.out hk (.inl rfl));have WD:=am (WB.out.trans hw);clear hx hk hw;(try dsimp only)))
          go_roundg k1
          case measure=>have:=HK.out;omega
          case rel=>exact ⟨wrap64 (i + 1),j6,sd_,H',⟨by have:=HK.out;omega⟩,BXD,KD,WD⟩
      rw [if_neg c4] at H
      have d2:((aC l i).f0 != 2)=true:=bne_iff_ne.mpr (fun e=>c4 (.inl e))
      have d3:((aC l i).f0 != 3)=true:=bne_iff_ne.mpr (fun e=>c4 (.inr e))
      have H':=am H
      clear H c3 c4
      go_wp2_with (first|((with_reducible refine (fE.callsP k1 (ad.add (i.toNat * 8)) _ _ _ _ _ A5 c5 _ A6 _ c6 A7 _ c7 _ _ _ x0 x1 x2 x3 x4 x5 x6 x7 G5.out L5.out HT.out).mono ?_);rintro e wa ⟨rfl,hb⟩;have y0:=bU hb x0;have y6:=bU hb x6;have y7:=bU hb x7;have BXA:=am (bY HBQ.out hb);have KA:=am (aI.trans HKQ.out (aI.of_below hb gc none) (.inl rfl));have WA:=am (HWQ.out.trans (hb.mono (Nat.le_of_lt (Nat.lt_of_le_of_lt HGB.out (gQ HBQ.out)))));have G6A:=am (Kd.iU G6.out hb);have G7A:=am (Kd.iU G7.out hb);clear hb;(try dsimp only)))
      go_roundg k1
      case measure=>have:=HK.out;omega
      case rel=>exact ⟨wrap64 (i + 1),cq,sd_,H',⟨by have:=HK.out;omega⟩,BXA,KA,WA⟩
    rw [if_neg c2] at H
    exact absurd H (by simp)
   rw [if_neg c1] at H
   have j9:decide (i < (l.length:Int))=false:=decide_eq_false c1
   have h1:=Option.some.inj H
   injection h1 with h1 h2
   subst h1
   subst h2
   clear H
   go_wp2
   go_ret
   exact ⟨rfl,HBQ.out,HKQ.out,HWQ.out⟩
theorem gH.mono:∀ l0 a1 k,LeO (gH.f k l0 a1) (gH.f (k + 1) l0 a1):=by
 intro l0 a1 k
 unfold gH.f
 exact LeO.bind (dK.mono _ _ _ _ _) (fun _=>LeO.refl _)
theorem gH.calls (k:Nat) (A0:Option Addr) (c0:Nat) (l0:List (S35)) (a1:Int) (r:Bool) (w:World) (hr0:Kd.C k35 w A0 l0.length l0) (hc0:l0.length≤c0) (h:gH.f k l0 a1=some r):
  Calls Try.prog 50 #[.slice A0 l0.length c0, .int .i64 a1] w fun e w'=>e= .returned (.bool r)∧Below w.heap.size w w':=by
 unfold gH.f at h
 replace h:=Option.bind_eq_some_iff.mp h
 obtain ⟨⟨r',cnt'⟩,hv,h⟩:=h
 obtain rfl:=Option.some.inj h
 have HV:=am hv
 have HF:=am (Kd.C_F TT hr0)
 have j3:=am hc0
 clear hr0 hc0 h hv
 go_enter Try.func50,Try.ntmps50
 go_upto_region 2 with (first|((with_reducible refine bQ (N:=5) rfl ?_);refine dJ (N:=5) rfl rfl (cs:=#[.int .i64 0]) (t:=3) rn_ ?_;intro gb hg w1 hbox hb;have z0:w1.cell? ⟨gb,0,none⟩=some (.int .i64 0):=aA hbox 0;have f0:=aU hbox 0;have HG:=am (Nat.le_of_eq hg.symm);have HBX:=am (aM (cs':=#[.int .i64 0]) hbox 0 (.int .i64 0) rfl);have HB:=am (below_set (j:=0) (v:= .int .i64 0) hb (Nat.le_of_eq hg.symm));clear hbox hb hg)|fail)
 go_wp2_with (first|((with_reducible refine (dK.callsP k A0 c0 l0 a1 0 0 _ w.heap.size (fun q=>q < w.heap.size) r' cnt' _ (Kd.iU HF.out HB.out) j3.out (Nat.not_lt.mpr HG.out) HG.out HBX.out HV.out).mono ?_);rintro e w2 ⟨rfl,_,_,hw⟩;have HW:=am (HB.out.trans hw);clear hw;(try dsimp only))|fail)
 go_ret
 exact ⟨rfl,HW.out⟩
theorem dP.mono_l:∀ k,(∀ y0 y1 y2 y3,LeO (dP.l0 k y0 y1 y2 y3) (dP.l0 (k + 1) y0 y1 y2 y3))
 |0=>fun _ _ _ _ r h=>by simp [dP.l0] at h
 |k + 1=>by
  have ih0:=dP.mono_l k
  ·intro y0 y1 y2 y3
   unfold dP.l0
   exact mo_
theorem dP.mono:∀ a0 k,LeO (dP.f k a0) (dP.f (k + 1) a0):=by
 intro a0 k
 have ih0:=dP.mono_l k
 unfold dP.f
 exact mo_
theorem dP.calls (k:Nat) (A0:Option Addr) (c0:Nat) (l0:List Int) (r:Bool) (w:World) (hr0:Kd.C (Kd.int .i64) w A0 l0.length l0) (hc0:l0.length≤c0) (h:dP.f k l0=some r):
  Calls Try.prog 62 #[.slice A0 l0.length c0] w fun e w'=>e= .returned (.bool r)∧iX w w':=by
 have j9:=am hr0
 have jg:=am hc0
 clear hr0 hc0
 have H:(dP.l0 k l0 l0 (l0.length:Int) 0)=some r:=h
 clear h
 have H':=am H
 clear H
 go_enter Try.func62,Try.ntmps62
 go_wp2
 go_loopg [7] k (fun kq v7 w'=>∃ (j3:Int),v7= .int .i64 j3∧Aside0 (dP.l0 kq l0 l0 (l0.length:Int) j3=some r)∧Aside0 (kq≤k)∧iX w w')
 case atStart=>exact ⟨(0),sd_,H',⟨Nat.le_refl _⟩,gM⟩
 case round=>
  clear H'
  obtain ⟨j3,rfl,HA,jd,⟨m1,rfl⟩⟩:=hrel
  cases gk with
  |zero=>exact absurd HA.out (by simp [dP.l0])
  |succ k1=>
   have H:=HA.out
   clear HA
   simp only [dP.l0] at H
   by_cases c2:j3 < (l0.length:Int)
   ·rw [if_pos c2] at H
    have ja:decide (j3 < (l0.length:Int))=true:=decide_eq_true c2
    clear c2
    by_cases c3:0≤j3
    ·rw [if_pos c3] at H
     have je:decide (0≤j3)=true:=decide_eq_true c3
     clear c3
     by_cases c4:j3 < (l0.length:Int)
     ·rw [if_pos c4] at H
      have jf:decide (j3 < (l0.length:Int))=true:=decide_eq_true c4
      clear c4
      by_cases c5:(rd l0 j3) < 1
      ·rw [if_pos c5] at H
       have jb:decide ((rd l0 j3) < 1)=true:=decide_eq_true c5
       clear c5
       obtain rfl:=Option.some.inj H
       have j4:0≤(j3:Int):=of_decide_eq_true gL
       have j5:j3 < (l0.length:Int):=of_decide_eq_true gL
       obtain ⟨j7,j8,j6⟩:=Kd.nJ j9.out j3 j4 j5
       cases j8
       replace j4:=eq_true j4
       replace j5:=eq_true j5
       go_wp2
       go_ret
       exact ⟨sd_,gM⟩
      rw [if_neg c5] at H
      have jb:decide ((rd l0 j3) < 1)=false:=decide_eq_false c5
      clear c5
      by_cases c6:(rd l0 j3) > 4
      ·rw [if_pos c6] at H
       have jc:decide (4 < (rd l0 j3))=true:=decide_eq_true c6
       clear c6
       obtain rfl:=Option.some.inj H
       have j4:0≤(j3:Int):=of_decide_eq_true gL
       have j5:j3 < (l0.length:Int):=of_decide_eq_true gL
       obtain ⟨j7,j8,j6⟩:=Kd.nJ j9.out j3 j4 j5
       cases j8
       replace j4:=eq_true j4
       replace j5:=eq_true j5
       go_wp2
       go_ret
       exact ⟨sd_,gM⟩
      rw [if_neg c6] at H
      have jc:decide (4 < (rd l0 j3))=false:=decide_eq_false c6
      clear c6
      have H':=am H
      clear H
      have j4:0≤(j3:Int):=of_decide_eq_true gL
      have j5:j3 < (l0.length:Int):=of_decide_eq_true gL
      obtain ⟨j7,j8,j6⟩:=Kd.nJ j9.out j3 j4 j5
      cases j8
      replace j4:=eq_true j4
      replace j5:=eq_true j5
      go_wp2
      go_roundg k1
      case measure=>have:=jd.out;omega
      case rel=>exact ⟨(wrap64 (j3 + 1)),sd_,H',⟨by have:=jd.out;omega⟩,gM⟩
     rw [if_neg c4] at H
     exact absurd H (by simp)
    rw [if_neg c3] at H
    exact absurd H (by simp)
   rw [if_neg c2] at H
   have ja:decide (j3 < (l0.length:Int))=false:=decide_eq_false c2
   clear c2
   obtain rfl:=Option.some.inj H
   go_wp2
   go_ret
   exact ⟨sd_,gM⟩
theorem bD.mono_l:∀ k,(∀ y0 y1 y2,LeO (bD.j0 k y0 y1 y2) (bD.j0 (k + 1) y0 y1 y2))∧(∀ y0 y1 y2 y3 y4,LeO (bD.l0 k y0 y1 y2 y3 y4) (bD.l0 (k + 1) y0 y1 y2 y3 y4))
 |0=>⟨fun _ _ _ r h=>by simp [bD.j0] at h,fun _ _ _ _ _ r h=>by simp [bD.l0] at h⟩
 |k + 1=>by
  obtain ⟨ih0,ih1⟩:=bD.mono_l k
  refine ⟨?_,?_⟩
  ·intro y0 y1 y2
   unfold bD.j0
   have m0:=@dP.mono
   have m1:=@gH.mono
   exact mo_
  ·intro y0 y1 y2 y3 y4
   unfold bD.l0
   have m0:=@dP.mono
   have m1:=@gH.mono
   exact mo_
theorem bD.mono:∀ a0 a1 k,LeO (bD.f k a0 a1) (bD.f (k + 1) a0 a1):=by
 intro a0 a1 k
 obtain ⟨ih0,ih1⟩:=bD.mono_l k
 unfold bD.f
 have m0:=@dP.mono
 have m1:=@gH.mono
 exact mo_
theorem bD.calls (k:Nat) (j8:Option Addr) (j9:Nat) (j5:List Int) (jd:Option Addr) (je:Nat) (j3:List (List (S35))) (r:Bool) (w:World) (hr0_0:Kd.C (Kd.int .i64) w j8 j5.length j5) (hc0_0:j5.length≤j9) (hr0_1:Kd.C (Kd.slice 35 k35) w jd j3.length j3) (hc0_1:j3.length≤je) (h:bD.f k j5 j3=some r):
  Calls Try.prog 31 #[.agg #[.slice j8 j5.length j9, .slice jd j3.length je]] w fun e w'=>e= .returned (.bool r)∧Below w.heap.size w w':=by
 have hu46:=Try.underlying46
 have jf:=am hr0_0
 have jg:=am hc0_0
 clear hr0_0 hc0_0
 have jp:=am hr0_1
 have jW:=am hc0_1
 clear hr0_1 hc0_1
 have HB:=am (Below.refl w.heap.size w)
 have H:((dP.f k j5).bind fun jF=>(if jF=true then (if (j3.length:Int) < 1 then (bD.j0 k true j5 j3) else (bD.j0 k (decide ((j3.length:Int) > 3)) j5 j3)) else (bD.j0 k true j5 j3)))=some r:=h
 clear h
 have jG:=am H
 clear H
 go_enter Try.func31,Try.ntmps31
 go_upto_region 1 with (first|((with_reducible refine bQ (N:=1) rfl ?_);(try (refine kQ (by rfl) ?_;dsimp only));refine dJ rfl (N:=1) rfl (cs:=#[.slice j8 j5.length j9, .slice jd j3.length je]) (t:=46) rn_ ?_;intro jk hg w3 hbox hb;have j6:=am (hbox);have q3:=am ((by rw [hg];exact (aJ gK):w.heap.size≤jk));have GE22:=am ((by rw [hg];exact (aJ gK):w.heap.size≤jk));replace HB:=am (aG gK hb);clear hb hbox hg))
 (try simp only [Act.put,List.setIfInBounds_toArray,List.set_cons_zero,List.set_cons_succ])
 go_cut [20] (fun q4 wc=>∃ (kq:Nat) (jc:Bool),q4= .bool jc∧Aside0 (bD.j0 kq jc j5 j3=some r)∧Aside0 (kq≤k)∧Aside0 (wc.heap[jk]?=some (.cells #[(.slice j8 j5.length j9),(.slice jd j3.length je)] 46 (0,0)))∧Aside0 (Below w.heap.size w wc))
 case first=>
  have H:=jG.out
  clear jG
  obtain ⟨jF,A4,H⟩:=bsa H
  (try dsimp only at H)
  by_cases c5:jF=true
  ·subst c5
   rw [if_pos rfl] at H
   by_cases c6:(j3.length:Int) < 1
   ·rw [if_pos c6] at H
    have jh:decide ((j3.length:Int) < 1)=true:=decide_eq_true c6
    have jH:decide (j3.length < 1)=true:=decide_eq_true (by omega)
    clear c6
    (first|rw [jh]|(simp only [dS,dV];rw [jh])|skip)
    have H':=am H
    clear H
    obtain ⟨jI,jJ,jK,jL⟩:=fT j6.out
    go_wp2_with (first|((with_reducible refine aN (f:=62) rfl ?_);refine gl_ 7 Try.func62 #[.slice j8 j5.length j9] ?_;(with_reducible refine (dP.calls k _ _ j5 true _ (aC_ (Kd.aV jf.out HB.out)) jg.out A4.out).mono ?_);rintro e w' ⟨rfl,⟨nd,rfl⟩⟩;refine ⟨_,rfl,?_⟩))
    go_meet
    case rel=>exact ⟨_,(true),sd_,H',⟨by first|omega|exact Nat.le_refl _⟩,⟨by (with_reducible repeat (first|refine dQ ?_ _|refine bT ?_|refine dF ?_ _));exact j6.out⟩,⟨uD⟩⟩
   rw [if_neg c6] at H
   have jh:decide ((j3.length:Int) < 1)=false:=decide_eq_false c6
   have jH:decide (j3.length < 1)=false:=decide_eq_false (by omega)
   clear c6
   (first|rw [jh]|(simp only [dS,dV];rw [jh])|skip)
   have H':=am H
   clear H
   obtain ⟨jM,jN,jO,jP⟩:=fT j6.out
   go_wp2_with (first|((with_reducible refine aN (f:=62) rfl ?_);refine gl_ 7 Try.func62 #[.slice j8 j5.length j9] ?_;(with_reducible refine (dP.calls k _ _ j5 true _ (aC_ (Kd.aV jf.out HB.out)) jg.out A4.out).mono ?_);rintro e w' ⟨rfl,⟨nd,rfl⟩⟩;refine ⟨_,rfl,?_⟩))
   go_meet
   case rel=>exact ⟨_,(decide ((j3.length:Int) > 3)),sd_,H',⟨by first|omega|exact Nat.le_refl _⟩,⟨by (with_reducible repeat (first|refine dQ ?_ _|refine bT ?_|refine dF ?_ _));exact j6.out⟩,⟨uD⟩⟩
  replace c5:=Bool.eq_false_iff.mpr c5
  subst c5
  rw [if_neg (show ¬ (false=true) by decide)] at H
  have H':=am H
  clear H
  obtain ⟨jQ,jR,jS,jT⟩:=fT j6.out
  go_wp2_with (first|((with_reducible refine aN (f:=62) rfl ?_);refine gl_ 7 Try.func62 #[.slice j8 j5.length j9] ?_;(with_reducible refine (dP.calls k _ _ j5 false _ (aC_ (Kd.aV jf.out HB.out)) jg.out A4.out).mono ?_);rintro e w' ⟨rfl,⟨nd,rfl⟩⟩;refine ⟨_,rfl,?_⟩))
  go_meet
  case rel=>exact ⟨_,(true),sd_,H',⟨by first|omega|exact Nat.le_refl _⟩,⟨by (with_reducible repeat (first|refine dQ ?_ _|refine bT ?_|refine dF ?_ _));exact j6.out⟩,⟨uD⟩⟩
 case rest=>
  clear jG
  obtain ⟨kq,jc,rfl,HA,HJ1,j6,HB⟩:=hcut
  cases kq with
  |zero=>exact absurd HA.out (by simp [bD.j0])
  |succ jX=>
   have H:=HA.out
   clear HA
   simp only [bD.j0] at H
   by_cases c10:jc=true
   ·subst c10
    rw [if_pos rfl] at H
    obtain rfl:=Option.some.inj H
    go_wp2
    go_ret
    exact ⟨rr_,uD⟩
   replace c10:=Bool.eq_false_iff.mpr c10
   subst c10
   rw [if_neg (show ¬ (false=true) by decide)] at H
   have H':=am H
   clear H
   obtain ⟨jl,jm,jn,jo⟩:=fT j6.out
   go_wp2
   go_loopg [24] jX (fun kq q5 w'=>∃ (j4:Int),q5= .int .i64 j4∧Aside0 (bD.l0 kq j3 (j3.length:Int) j4 j5 j3=some r)∧Aside0 (kq≤jX)∧Aside0 (w'.heap[jk]?=some (.cells #[(.slice j8 j5.length j9),(.slice jd j3.length je)] 46 (0,0)))∧Aside0 (Below w.heap.size w w'))
   case atStart=>exact ⟨(0),sd_,H',⟨Nat.le_refl _⟩,⟨by (with_reducible repeat (first|refine dQ ?_ _|refine bT ?_|refine dF ?_ _));exact j6.out⟩,⟨uD⟩⟩
   case round=>
    clear H'
    try clear c10
    try clear jl
    try clear jm
    try clear jn
    try clear jo
    obtain ⟨j4,rfl,HA,jY,j6,HB⟩:=hrel
    cases gk with
    |zero=>exact absurd HA.out (by simp [bD.l0])
    |succ k2=>
     have H:=HA.out
     clear HA
     simp only [bD.l0] at H
     by_cases js:j4 < (j3.length:Int)
     ·rw [if_pos js] at H
      have jt:decide (j4 < (j3.length:Int))=true:=decide_eq_true js
      clear js
      by_cases ju:0≤j4
      ·rw [if_pos ju] at H
       have jZ:decide (0≤j4)=true:=decide_eq_true ju
       clear ju
       by_cases jv:j4 < (j3.length:Int)
       ·rw [if_pos jv] at H
        have q0:decide (j4 < (j3.length:Int))=true:=decide_eq_true jv
        clear jv
        obtain ⟨q6,q1,H⟩:=bsm H
        (try dsimp only at H)
        have q2:=am q1
        clear q1
        by_cases jw:q6=true
        ·subst jw
         rw [if_pos rfl] at H
         have H':=am H
         clear H
         have jq:0≤(j4:Int):=of_decide_eq_true gL
         have jr:j4 < (j3.length:Int):=of_decide_eq_true gL
         obtain ⟨jU,ji,jj,jV,j7,hl26_0,hi26_0⟩:=sF jp.out j4 jq jr
         cases jV
         replace j7:=(HB.out.cell (World.block_lt_of_cell? w _ j7)).trans j7
         have ja:=am hi26_0
         have jb:=am hl26_0
         clear hi26_0 hl26_0
         replace jq:=eq_true jq
         replace jr:=eq_true jr
         obtain ⟨jx,jy,jz,jA⟩:=fT j6.out
         go_wp2_with (first|((with_reducible refine aN (f:=50) rfl ?_);refine gl_ 32 Try.func50 #[.slice ji (fJ j3 j4).length jj, .int .i64 (j5.length:Int)] ?_;(with_reducible refine (gH.calls k2 _ _ (fJ j3 j4) (j5.length:Int) true _ (aC_ (Kd.aV ja.out HB.out)) jb.out q2.out).mono ?_);rintro e q7 ⟨rfl,hb⟩;refine ⟨_,rfl,?_⟩;replace j6:=bbP j6 hb;replace HB:=am (aG uD hb);(try clear hb)))
         go_roundg k2
         case measure=>have:=HJ1.out;have:=jY.out;omega
         case rel=>exact ⟨(wrap64 (j4 + 1)),sd_,H',⟨by have:=HJ1.out;have:=jY.out;omega⟩,⟨by (with_reducible repeat (first|refine dQ ?_ _|refine bT ?_|refine dF ?_ _));exact j6.out⟩,⟨uD⟩⟩
        replace jw:=Bool.eq_false_iff.mpr jw
        subst jw
        rw [if_neg (show ¬ (false=true) by decide)] at H
        obtain rfl:=Option.some.inj H
        have jq:0≤(j4:Int):=of_decide_eq_true gL
        have jr:j4 < (j3.length:Int):=of_decide_eq_true gL
        obtain ⟨jU,ji,jj,jV,j7,hl26_0,hi26_0⟩:=sF jp.out j4 jq jr
        cases jV
        replace j7:=(HB.out.cell (World.block_lt_of_cell? w _ j7)).trans j7
        have ja:=am hi26_0
        have jb:=am hl26_0
        clear hi26_0 hl26_0
        replace jq:=eq_true jq
        replace jr:=eq_true jr
        obtain ⟨jB,jC,jD,jE⟩:=fT j6.out
        go_wp2_with (first|((with_reducible refine aN (f:=50) rfl ?_);refine gl_ 32 Try.func50 #[.slice ji (fJ j3 j4).length jj, .int .i64 (j5.length:Int)] ?_;(with_reducible refine (gH.calls k2 _ _ (fJ j3 j4) (j5.length:Int) false _ (aC_ (Kd.aV ja.out HB.out)) jb.out q2.out).mono ?_);rintro e q8 ⟨rfl,hb⟩;refine ⟨_,rfl,?_⟩;replace j6:=bbP j6 hb;replace HB:=am (aG uD hb);(try clear hb)))
        go_ret
        exact ⟨rr_,uD⟩
       rw [if_neg jv] at H
       exact absurd H (by simp)
      rw [if_neg ju] at H
      exact absurd H (by simp)
     rw [if_neg js] at H
     have jt:decide (j4 < (j3.length:Int))=false:=decide_eq_false js
     clear js
     obtain rfl:=Option.some.inj H
     go_wp2
     go_ret
     exact ⟨rr_,uD⟩
theorem iP.calls (A0:Option Addr) (c0:Nat) (l0:List Int) (r:List Int) (w:World) (hr0:Kd.C (Kd.int .i64) w A0 l0.length l0) (hc0:l0.length≤c0) (h:iP.f l0=some r):
  Calls Try.prog 58 #[.slice A0 l0.length c0] w fun e w'=>∃ v0_:Value,e= .returned (v0_)∧Kd.R (Kd.int .i64) 3 w' w.heap.size (fun _=>True) v0_ r∧Below w.heap.size w w':=by
 have j9:=am hr0
 have jc:=am hc0
 clear hr0 hc0
 have HB:=am (Below.refl w.heap.size w)
 have H:((some (([]:List Int):List Int)).bind fun j3=>(if j3.length + l0.length < 17592186044416 then (some (j3 ++ l0)) else (none)))=some r:=h
 clear h
 obtain ⟨j3,hy_⟩:∃ y_:List Int,y_=(([]:List Int)):=⟨_,rfl⟩
 replace H:(if j3.length + l0.length < 17592186044416 then (some (j3 ++ l0)) else (none))=some r:=rx_
 have j4:=am hy_
 clear hy_
 by_cases c2:j3.length + l0.length < 17592186044416
 ·rw [if_pos c2] at H
  have j7:=am c2
  clear c2
  obtain ⟨ja,hy_⟩:∃ y_:List Int,y_=(j3 ++ l0):=⟨_,rfl⟩
  replace H:(some ja)=some r:=rx_
  have j5:=am hy_
  clear hy_
  obtain rfl:=Option.some.inj H
  cases A0 with
  |none=>
   have hl:l0=[]:=by
    have hr:=j9.out
    rcases Nat.eq_zero_or_pos l0.length with h0|h0
    ·exact List.eq_nil_of_length_eq_zero h0
    ·obtain ⟨ad,e,_⟩:=hr.2.2 h0
     cases e
   have hy:ja=[]:=by rw [j5.out,j4.out,hl];rfl
   rw [hy]
   have hnl:=fun (w:World) (n c n' c':Nat)=>Lib.run_eql_slice_nil (P:=Try.prog) w 43 3 none n c n' c' Try.underlying43
   go_enter Try.func58,Try.ntmps58
   go_wp2
   go_ret
   exact ⟨_,rfl,Kd.oU _ _ _ _ _,HB.out⟩
  |some ad=>
   have hnl:=fun (w:World) (n c n' c':Nat)=>Lib.run_eql_slice_nil (P:=Try.prog) w 43 3 (some ad) n c n' c' Try.underlying43
   go_enter Try.func58,Try.ntmps58
   go_wp2_with (first|((with_reducible refine bQ (N:=5) rfl ?_);refine Kd.CP (Kd.int .i64) _ 3 rfl (N:=5) rfl (xs:=([]:List Int)) (inner:=[]) (ok:=fun _=>True) (okp:=fun _=>True) rn_ ?hp (fun _ hk=>hk) trivial (Below.refl _ _) (Nat.le_refl _) (by simp) ?_;(case hp=>exact (eY.none _ _));intro jb w3 ho4 hb hg_ hnew_;clear hg_ hnew_;(first|rw [← j4.out] at ho4|(simp only [Int.reduceToNat] at ho4;rw [← j4.out] at ho4));have j6:=am (Kd.kC ho4 (aJ gK));replace HB:=am (aG gK hb);clear hb ho4)|((with_reducible refine lG (b:= .append) (xs:=#[.tmp 5, .tmp 6]) rfl ?_);at_builtin;refine Kd.uQ (Kd.int .i64) (w0:=w) w.heap.size rfl (.tmp 5) (.tmp 6) 43 3 (.int .i64 0) 8 rfl Try.underlying43 info3 rfl (by decide) (by omega) jb j3 l0 _ _ _ (fun _=>True) (fun _=>False) rfl rfl ?aO ?aR (fun _ _ h=>h) (fun _ h=>h.elim) ?aF ?aB ?aS ?aL ?_;(case aR=>repeat (first|exact (Kd.aV j9.out HB.out)|(with_reducible refine Kd.wV ?_ _)|(with_reducible refine Kd.tZ ?_ _)|(with_reducible refine Kd.vY ?_)));(case aB=>exact gK);(case aF=>exact (fun _ _=>trivial));(case aO=>exact (aR_ j6.out));(case aS=>exact (aJ gK));(case aL=>have:=j7.out;omega);intro jd w5 ho hb hg hat;rw [← j5.out] at ho;replace HB:=am (hb);have j8:=am (ho);clear j6 ho hb hg hat))
   go_ret
   exact ⟨_,iM,iC j8.out,gK⟩
 rw [if_neg c2] at H
 exact absurd H (by simp)
theorem bK.mono_l:∀ k,(∀ y0 y1 y2 y3 y4,LeO (bK.l0 k y0 y1 y2 y3 y4) (bK.l0 (k + 1) y0 y1 y2 y3 y4))
 |0=>fun _ _ _ _ _ r h=>by simp [bK.l0] at h
 |k + 1=>by
  have ih0:=bK.mono_l k
  ·intro y0 y1 y2 y3 y4
   unfold bK.l0
   have m0:=@bD.mono
   have m1:=@aX.mono
   exact mo_
theorem bK.mono:∀ a0 a1 k,LeO (bK.f k a0 a1) (bK.f (k + 1) a0 a1):=by
 intro a0 a1 k
 have ih0:=bK.mono_l k
 unfold bK.f
 have m0:=@bD.mono
 have m1:=@aX.mono
 exact mo_
def bK.T7:Bool × List (List Nat × List Nat):=(true,[([],[]),([0],[0]),([],[]),([2],[2]),([3],[3]),([1,4,3],[1,4]),([0,1,2,3,4,5],[]),([6,5,5,0,1,2,3,4,5],[5,6])])
def bK.B7:List Nat:=[0,1,0,4,12,31,63,127]
theorem bK.aCd:lJ .any (opsOf Try.f27 7)=bK.T7:=by kernel_rfl
theorem bK.TB:iW bK.T7.2 bK.B7=true:=by kernel_rfl
theorem bK.calls (k:Nat) (jm:Option Addr) (jn:Nat) (je:List Int) (js:Option Addr) (jo:Nat) (j5:List (List (S35))) (r1:List Int) (r2:List (List (S35))) (r3:Bool) (w:World) (hr0_0:Kd.C (Kd.int .i64) w jm je.length je) (hc0_0:je.length≤jn) (hr0_1:Kd.C (Kd.slice 35 k35) w js j5.length j5) (hc0_1:j5.length≤jo) (h:bK.f k je j5=some (r1,r2,r3)):
  Calls Try.prog 27 #[.agg #[.slice jm je.length jn, .slice js j5.length jo]] w fun e w'=>∃ v0_ v1_:Value,e= .returned (.tuple #[.agg #[v0_,v1_], .bool r3])∧Kd.R (Kd.int .i64) 3 w' w.heap.size (fun k_=>(w.heap.size≤k_)) v0_ r1∧Kd.N (Kd.slice 35 k35) 23 w' w.heap.size (fun k_=>(w.heap.size≤k_)∧some k_≠(v0_:Value).ownBlock) v1_ r2∧Below w.heap.size w w':=by
 have hu46:=Try.underlying46
 have jt:=am hr0_0
 have ju:=am hc0_0
 clear hr0_0 hc0_0
 have jv:=am hr0_1
 have jK:=am hc0_1
 clear hr0_1 hc0_1
 have HB:=am (Below.refl w.heap.size w)
 have H:((bD.f k je j5).bind fun qk=>(if qk=true then ((iP.f je).bind fun jj=>(bK.l0 k j5 (j5.length:Int) 0 jj ([]:List (List (S35))))) else (some (([]:List Int),([]:List (List (S35))),false))))=some (r1,r2,r3):=h
 clear h
 obtain ⟨qk,A2,H⟩:=bsa H
 (try dsimp only at H)
 have HH_:=am H
 clear H
 go_enter Try.func27,Try.ntmps27
 go_upto_region 1 with (first|((with_reducible refine bQ (N:=1) rfl ?_);refine dJ rfl (N:=1) rfl (cs:=#[.slice jm je.length jn, .slice js j5.length jo]) (t:=46) rn_ ?_;intro jf hg w5 hbox hb;have j3:=am (hbox);have qG:=am ((by rw [hg];exact (aJ gK):w.heap.size≤jf));have GE38:=am ((by rw [hg];exact (aJ gK):w.heap.size≤jf));replace HB:=am (aG gK hb);clear hb hbox hg)|((with_reducible refine bQ (N:=2) rfl ?_);refine dJ rfl (N:=2) rfl (cs:=#[.slice none 0 0, .slice none 0 0]) (t:=46) rn_ ?_;intro ja hg w6 hbox hb;have j4:=am (hbox);have qH:=am ((by rw [hg];exact (aJ NM):w.heap.size≤ja));have GE41:=am ((by rw [hg];exact (aJ NM):w.heap.size≤ja));replace HB:=am (aG NM hb);have jq:=am ((by rw [hg];exact Nat.ne_of_lt (fO j3.out):jf≠ja));have jr:=am ((by rw [hg];exact Nat.ne_of_gt (fO j3.out):ja≠jf));replace j3:=bbP j3 hb;clear hb hbox hg;have qI:=jq.out;have qJ:=jr.out;obtain ⟨jL,jM,jN,jO⟩:=fT j3.out))
 have H:=HH_.out
 clear HH_
 by_cases c3:qk=true
 ·subst c3
  rw [if_pos rfl] at H
  obtain ⟨jj,A4,H⟩:=bsa H
  (try dsimp only at H)
  have H':=am H
  clear H
  go_wp2_with (first|((with_reducible refine aN (f:=31) rfl ?_);refine gl_ 8 Try.func31 #[.agg #[.slice jm je.length jn, .slice js j5.length jo]] ?_;(with_reducible refine (bD.calls k _ _ je _ _ j5 true _ (aC_ (Kd.aV jt.out HB.out)) ju.out (aC_ (Kd.aV jv.out HB.out)) jK.out A2.out).mono ?_);rintro e w9 ⟨rfl,hb⟩;refine ⟨_,rfl,?_⟩;replace j3:=bbP j3 hb;replace j4:=bbP j4 hb;replace HB:=am (aG AO hb);(try clear hb);obtain ⟨jw,jx,jy,jz⟩:=fT j3.out)|((with_reducible refine aN (f:=58) rfl ?_);refine gl_ 13 Try.func58 #[.slice jm je.length jn] ?_;(with_reducible refine (iP.calls _ _ je jj _ (aC_ (Kd.aV jt.out HB.out)) ju.out A4.out).mono ?_);rintro e qQ ⟨qR,rfl,ho0,hb⟩;refine ⟨_,rfl,?_⟩;have jA:=am (Kd.kC (Kd.yJ (M:=fun k_=>(w.heap.size≤k_)) ho0 (aJ AO) (fun k_ h_=>h_)) (aJ AO));replace j3:=bbP j3 hb;replace j4:=bbP j4 hb;replace HB:=am (aG AO hb);(try clear hb);(try clear ho0);obtain ⟨jg,jh,ql⟩:=Kd.kP jA.out;subst ql)|((with_reducible refine bQ (N:=4) rfl ?_);refine dJ rfl (N:=4) rfl (cs:=#[.slice none 0 0, .slice none 0 0]) (t:=46) rn_ ?_;intro j8 hg qS hbox hb;replace jA:=am (Kd.dW (aR_ jA.out) hb);have j6:=am (hbox);have qK:=am ((by rw [hg];exact (aJ AO):w.heap.size≤j8));have GE45:=am ((by rw [hg];exact (aJ AO):w.heap.size≤j8));replace HB:=am (aG AO hb);have jc:=am ((by rw [hg];exact Nat.ne_of_lt (fO j3.out):jf≠j8));have jk:=am ((by rw [hg];exact Nat.ne_of_gt (fO j3.out):j8≠jf));replace j3:=bbP j3 hb;have jd:=am ((by rw [hg];exact Nat.ne_of_lt (fO j4.out):ja≠j8));have jl:=am ((by rw [hg];exact Nat.ne_of_gt (fO j4.out):j8≠ja));replace j4:=bbP j4 hb;clear hb hbox hg;have qt:=jk.out;have qu:=jc.out;have qv:=jl.out;have qw:=jd.out;obtain ⟨jB,jC,jD,jE⟩:=fT j6.out;obtain ⟨jF,jG,jH,jI⟩:=fT j3.out))
  go_loopg [18] k (fun kq qL w'=>∃ (j7:Int) (ji:List (List (S35))) (u47:Value),qL= .int .i64 j7∧Aside0 (bK.l0 kq j5 (j5.length:Int) j7 jj ji=some (r1,r2,r3))∧Aside0 (kq≤k)∧Aside0 (Kd.R (Kd.int .i64) 3 w' w.heap.size (fun k_=>(w.heap.size≤k_)) (.slice jg jj.length jh) jj)∧Aside0 (Kd.N (Kd.slice 35 k35) 23 w' w.heap.size (fun k_=>(w.heap.size≤k_)∧some k_≠((.slice jg jj.length jh):Value).ownBlock∧k_≠jf∧k_≠ja∧k_≠j8) u47 ji)∧Aside0 (w'.heap[jf]?=some (.cells #[(.slice jm je.length jn),(.slice js j5.length jo)] 46 (0,0)))∧Aside0 (w'.heap[ja]?=some (.cells #[(.slice none 0 0),(.slice none 0 0)] 46 (0,0)))∧Aside0 (w'.heap[j8]?=some (.cells #[(.slice jg jj.length jh),u47] 46 (0,0)))∧Aside0 (Below w.heap.size w w'))
  case atStart=>exact ⟨(0),(([]:List (List (S35)))),(.slice none 0 0),sd_,H',⟨Nat.le_refl _⟩,⟨iC (Kd.cZ (Kd.dM (p:=⟨j8,1,none⟩) (Kd.dM (p:=⟨j8,0,none⟩) (Kd.eF jA.out j6.out (by decide)) (fun _ hk=>hk.2) (.slice jg jj.length jh)) (fun _ hk=>hk.2) (.slice none 0 0)) (fun _ hk=>hk.1.1))⟩,⟨by first|exact Kd.oU _ _ _ _ _|exact Kd.sP _ _ _ _ _|exact Kd.sU _ _ _ _ _|exact Kd.sQ _ _ _ _ _|exact Kd.sS _ _ _ _ _⟩,⟨(aZ (aZ j3.out jc.out _) jc.out _)⟩,⟨(aZ (aZ j4.out jd.out _) jd.out _)⟩,⟨(aM (aM j6.out 0 _ rfl) 1 _ rfl)⟩,⟨AA⟩⟩
  case round=>
   clear H'
   try clear c3
   try clear jw
   try clear jx
   try clear jB
   try clear jC
   try clear jF
   try clear jG
   try clear jL
   try clear jM
   try clear jy
   try clear jz
   try clear jD
   try clear jE
   try clear jH
   try clear jI
   try clear jN
   try clear jO
   obtain ⟨j7,ji,u47,rfl,HA,qx,jb,j9,j3,j4,j6,HB⟩:=hrel
   cases gk with
   |zero=>exact absurd HA.out (by simp [bK.l0])
   |succ k1=>
    have H:=HA.out
    clear HA
    simp only [bK.l0] at H
    by_cases jV:j7 < (j5.length:Int)
    ·rw [if_pos jV] at H
     have jW:decide (j7 < (j5.length:Int))=true:=decide_eq_true jV
     clear jV
     by_cases q4:0≤j7
     ·rw [if_pos q4] at H
      have qy:decide (0≤j7)=true:=decide_eq_true q4
      clear q4
      by_cases q5:j7 < (j5.length:Int)
      ·rw [if_pos q5] at H
       have qz:decide (j7 < (j5.length:Int))=true:=decide_eq_true q5
       clear q5
       obtain ⟨q6,qM,H⟩:=bsa H
       (try dsimp only at H)
       by_cases q7:ji.length < 5864062014805
       ·rw [if_pos q7] at H
        have jX:=am q7
        clear q7
        obtain ⟨jY,hy_⟩:∃ y_:List (List (S35)),y_=(ji ++ [q6]):=⟨_,rfl⟩
        replace H:(bK.l0 k1 j5 (j5.length:Int) (wrap64 (j7 + 1)) jj jY)=some (r1,r2,r3):=rx_
        have qm:=am hy_
        clear hy_
        have H':=am H
        clear H
        have qn:0≤(j7:Int):=of_decide_eq_true gL
        have qo:j7 < (j5.length:Int):=of_decide_eq_true gL
        obtain ⟨qp,jZ,q0,qN,jp,hl52_0,hi52_0⟩:=sF jv.out j7 qn qo
        cases qN
        replace jp:=(HB.out.cell (World.block_lt_of_cell? w _ jp)).trans jp
        have jP:=am hi52_0
        have jQ:=am hl52_0
        clear hi52_0 hl52_0
        replace qn:=eq_true qn
        replace qo:=eq_true qo
        try go_wp2
        replace jb:=am (Kd.vC jb.out)
        replace j9:=am (Kd.nO j9.out)
        replace j3:=am (bT j3.out)
        replace j4:=am (bT j4.out)
        replace j6:=am (bT j6.out)
        replace HB:=am (bG HB.out)
        refine mR (n:=8) (S:=fun w'=>w'.cell? ⟨j8,0,none⟩=some (.slice jg jj.length jh)∧w'.cell? ⟨j8,1,none⟩=some (u47)) (ds:=[7]) (bz 8 0) (by kernel_rfl) rfl rfl ⟨(aA j6.out 0).trans rfl,(aA j6.out 1).trans rfl⟩ (fun hHeld=>?_);refine kE bK.aCd bK.TB (fun HT_ HW_=>?_)
        generalize wr.drew=qT at jb j9 j3 j4 j6 HB hHeld ⊢
        refine pr_ 0 22 (bz 8 1) HT_ ?_
        refine pr_ 2 24 (bz 8 5) HT_ ?_
        refine RZ 1 23 (bz 8 7) HT_ HW_ hHeld ?_
        refine lH (i:=3) (N:=some 25) (bz 8 15) rfl rfl (gG HT_.out (by kernel_rfl)) (by decide) (fun K hK=>?_)
        refine kU Try.func46 (by kernel_rfl) rfl #[.slice jZ (fJ j5 j7).length q0] (by rfl) rfl rfl nX ?_
        with_reducible refine (aX.calls k1 _ _ (fJ j5 j7) q6 _ (aC_ (Kd.aV jP.out HB.out)) jQ.out qM.out).mono ?_
        rintro e qU ⟨qV,rfl,ho0,hb⟩
        refine ⟨_,rfl,?_⟩
        have jJ:=am (Kd.dH (Kd.aD (ok':=fun k_=>(w.heap.size≤k_)∧some k_≠(.slice jg jj.length jh:Value).ownBlock∧some k_≠(u47:Value).ownBlock∧k_≠jf∧k_≠ja∧k_≠j8) ho0 (fun k_ hk_=>⟨(Nat.le_trans (aJ AA) hk_),(Kd.fresh' (Kd.iY (aR_ jb.out)) k_ hk_),(Kd.fresh' (Kd.iH (aN_ j9.out)) k_ hk_),(fG j3.out k_ hk_),(fG j4.out k_ hk_),(fG j6.out k_ hk_)⟩)) (aJ AA))
        replace jb:=am (Kd.dW (aR_ jb.out) hb)
        replace j9:=am (Kd.fM (aN_ j9.out) (by first|exact Kd.dL ho0|exact Kd.dL (Kd.R_N ho0)) hb)
        replace j3:=bbP j3 hb
        replace j4:=bbP j4 hb
        replace j6:=bbP j6 hb
        replace HB:=am (aG AA hb)
        (try clear hb)
        (try clear hb2)
        (try clear hk)
        (try clear hi)
        (try clear ho0)
        obtain ⟨qq,qr,q1⟩:=Kd.dD jJ.out
        (first|subst q1|(injection q1 with f1_ f2_ f3_;have f4_:=f1_.symm;have f5_:=f3_.symm;clear f1_ f2_ f3_;subst f4_;subst f5_))
        refine hK.out _ _ ⟨(aA j6.out 0).trans rfl,(aA j6.out 1).trans rfl⟩ (fun hHeld=>?_)
        clear hK K
        refine fB (a':=?_) ?_ ?_
        rotate_left
        ·show Act.put _ (some 25) _=_
         simp only [Act.put,List.setIfInBounds_toArray,List.set_cons_zero,List.set_cons_succ,dS,dV]
         rfl
        refine lH (i:=4) (N:=some 26) (bz 8 31) rfl rfl (gG HT_.out (by kernel_rfl)) (by decide) (fun K hK=>?_)
        refine CO (w1:=?_) (v:=?_) (by rfl) rfl ?_ ?_
        rotate_left 2
        ·go_simp
         constructor
         ·rfl
         ·rfl
        refine hK.out _ _ ⟨(aA (dF j6.out _) 0).trans rfl,(aA (dF j6.out _) 1).trans rfl⟩ (fun hHeld=>?_)
        clear hK K
        refine fB (a':=?_) ?_ ?_
        rotate_left
        ·show Act.put _ (some 26) _=_
         simp only [Act.put,List.setIfInBounds_toArray,List.set_cons_zero,List.set_cons_succ,dS,dV]
         rfl
        refine lH (i:=5) (N:=some 27) (bz 8 63) rfl rfl (gG HT_.out (by kernel_rfl)) (by decide) (fun K hK=>?_)
        refine Kd.uO (Kd.slice 35 k35) (w0:=w) w.heap.size (by rfl) (.tmp 23) (.tmp 26) 44 23 (.slice none 0 0) 24 rfl Try.underlying44 ET rfl (by decide) (by omega) u47 ji q6 [.slice qq q6.length qr] (fun k_=>(w.heap.size≤k_)∧some k_≠(.slice jg jj.length jh:Value).ownBlock∧k_≠jf∧k_≠ja∧k_≠j8) (fun k_=>((fun k_=>(w.heap.size≤k_)∧some k_≠(.slice jg jj.length jh:Value).ownBlock∧k_≠jf∧k_≠ja∧k_≠j8)) k_∧some k_≠(u47:Value).ownBlock) rfl rfl ?aP (fun _ hk=>hk) ?aF ?aO ?aB ?aS ?aL ?_
        (case aP=>exact (Kd.kW (Kd.bN (Kd.aD (ok':=(fun k_=>((fun k_=>(w.heap.size≤k_)∧some k_≠(.slice jg jj.length jh:Value).ownBlock∧k_≠jf∧k_≠ja∧k_≠j8)) k_∧some k_≠(u47:Value).ownBlock)) (jJ.out) (fun k_ hk=>⟨⟨hk.1,⟨hk.2.1,⟨hk.2.2.2.1,⟨hk.2.2.2.2.1,hk.2.2.2.2.2⟩⟩⟩⟩,hk.2.2.1⟩))).2.1 (Kd.N_F (Kd.aD (ok':=(fun k_=>((fun k_=>(w.heap.size≤k_)∧some k_≠(.slice jg jj.length jh:Value).ownBlock∧k_≠jf∧k_≠ja∧k_≠j8)) k_∧some k_≠(u47:Value).ownBlock)) (jJ.out) (fun k_ hk=>⟨⟨hk.1,⟨hk.2.1,⟨hk.2.2.2.1,⟨hk.2.2.2.2.1,hk.2.2.2.2.2⟩⟩⟩⟩,hk.2.2.1⟩)))))
        (case aB=>exact AA)
        (case aF=>exact (fun k_ hk=>⟨(Nat.le_trans (aJ AA) hk),Kd.fresh' (Kd.iY (aR_ jb.out)) k_ hk,fG j3.out k_ hk,fG j4.out k_ hk,fG j6.out k_ hk⟩))
        (case aO=>exact (eO (Kd.aD j9.out (fun _ hk=>⟨hk.1.1,⟨hk.1.2.1,⟨hk.1.2.2.1,⟨hk.1.2.2.2.1,hk.1.2.2.2.2⟩⟩⟩⟩))))
        (case aS=>exact (aJ AA))
        (case aL=>have:=jX.out;omega)
        intro qW qO ho hb hg hat
        rw [← qm.out] at ho
        replace jb:=am (Kd.wW (aR_ jb.out) (Kd.vB (aN_ j9.out)) (by decide) hg)
        replace j3:=am (gV (g:=jf) (o:= .cells #[.slice jm je.length jn, .slice (some qp) j5.length jo] 46 (0,0)) (aG_ j3.out) hg (Kd.BN j9.out j3.out (by decide)))
        replace j4:=am (gV (g:=ja) (o:= .cells #[.slice none 0 0, .slice none 0 0] 46 (0,0)) (aG_ j4.out) hg (Kd.BN j9.out j4.out (by decide)))
        replace j6:=am (gV (g:=j8) (o:= .cells #[.slice jg jj.length jh,u47] 46 (0,0)) (aG_ j6.out) hg (Kd.BN j9.out j6.out (by decide)))
        replace HB:=am (hb)
        have q2:=am (ho)
        clear j9 jJ
        clear ho hb hg hat
        obtain ⟨jR,jS,q3⟩:=Kd.dD q2.out
        (first|subst q3|(injection q3 with f1_ f2_ f3_;have f4_:=f1_.symm;have f5_:=f3_.symm;clear f1_ f2_ f3_;subst f4_;subst f5_))
        refine hK.out _ _ ⟨(aA j6.out 0).trans rfl,(aA j6.out 1).trans rfl⟩ (fun hHeld=>?_)
        clear hK K
        refine fB (a':=?_) ?_ ?_
        rotate_left
        ·show Act.put _ (some 27) _=_
         simp only [Act.put,List.setIfInBounds_toArray,List.set_cons_zero,List.set_cons_succ,dS,dV]
         rfl
        refine pr_ 6 28 (bz 8 127) HT_ ?_
        refine wN (i:=7) (N:=none) (bz 8 255) rfl rfl (gG HT_.out (by kernel_rfl)) (by decide) (fun K hK=>?_)
        have qP:qO.cell? ⟨j8,1,none⟩=some (u47):=(aA j6.out 1).trans rfl
        have hfs28:=aU j6.out 1
        have hns28_0:=jc.out
        have hns28_1:=jd.out
        have hms28_0:=jk.out
        have hms28_1:=jl.out
        refine rO (w1:=?_) (by rfl) rfl ?_ ?_
        rotate_left
        ·go_simp
         rfl
        refine hK.out _ _ ?_
        clear hK K
        refine pE (lV HT_.out (by kernel_rfl)) ?_
        try go_wp2
        go_roundg k1
        case measure=>have:=qx.out;omega
        case rel=>exact ⟨(wrap64 (j7 + 1)),(jY),(.slice jR jY.length jS),sd_,H',⟨by have:=qx.out;omega⟩,⟨iC (Kd.cZ (Kd.dM (p:=⟨j8,1,none⟩) (Kd.eF jb.out j6.out (by decide)) (fun _ hk=>hk.2) (.slice jR jY.length jS)) (fun _ hk=>hk.1))⟩,⟨eO (Kd.aD (Kd.aT (p:=⟨j8,1,none⟩) (Kd.aD q2.out (fun k_ hk=>(⟨hk,hk.2.2.2.2⟩:_∧k_≠j8))) (fun _ hk=>hk.2) (.slice jR jY.length jS)) (fun _ hk=>⟨hk.1.1,⟨hk.1.2.1,⟨hk.1.2.2.1,⟨hk.1.2.2.2.1,hk.1.2.2.2.2⟩⟩⟩⟩))⟩,⟨(aZ j3.out jc.out _)⟩,⟨(aZ j4.out jd.out _)⟩,⟨(aM j6.out 1 _ rfl)⟩,⟨AA⟩⟩
       rw [if_neg q7] at H
       exact absurd H (by simp)
      rw [if_neg q5] at H
      exact absurd H (by simp)
     rw [if_neg q4] at H
     exact absurd H (by simp)
    rw [if_neg jV] at H
    have jW:decide (j7 < (j5.length:Int))=false:=decide_eq_false jV
    clear jV
    simp only [Option.some.injEq,Prod.mk.injEq] at H
    obtain ⟨rfl,rfl,rfl⟩:=H
    have qA:=jk.out
    have qB:=jc.out
    have qC:=jl.out
    have qD:=jd.out
    obtain ⟨q8,q9,qa,qb⟩:=fT j6.out
    have qE:=jr.out
    have qF:=jq.out
    obtain ⟨qc,qd,qe,qf⟩:=fT j4.out
    obtain ⟨jT,jU,qs⟩:=Kd.dD j9.out
    subst qs
    go_wp2
    refine bodyPost_ret (vK rfl _ _ ja 46 #[.slice jg jj.length jh, .slice jT ji.length jU] (0,0) _ rfl (aM (aM j4.out 0 _ rfl) 1 _ rfl) Try.underlying46 rfl (by kernel_rfl)) rfl ?_
    exact ⟨_,_,iM,iC (Kd.cZ (Kd.dM (p:=⟨ja,1,none⟩) (Kd.dM (p:=⟨ja,0,none⟩) (Kd.eF jb.out j4.out (by decide)) (fun _ hk=>hk.2) (.slice jg jj.length jh)) (fun _ hk=>hk.2) (.slice jT ji.length jU)) (fun _ hk=>hk.1)),eO (Kd.aD (Kd.aT (p:=⟨ja,1,none⟩) (Kd.aT (p:=⟨ja,0,none⟩) (Kd.aD j9.out (fun k_ hk=>(⟨hk,hk.2.2.2.1⟩:_∧k_≠ja))) (fun _ hk=>hk.2) (.slice jg jj.length jh)) (fun _ hk=>hk.2) (.slice jT ji.length jU)) (fun _ hk=>⟨hk.1.1,hk.1.2.1⟩)),AA⟩
 replace c3:=Bool.eq_false_iff.mpr c3
 subst c3
 rw [if_neg (show ¬ (false=true) by decide)] at H
 simp only [Option.some.injEq,Prod.mk.injEq] at H
 obtain ⟨rfl,rfl,rfl⟩:=H
 go_wp2_with (first|((with_reducible refine aN (f:=31) rfl ?_);refine gl_ 8 Try.func31 #[.agg #[.slice jm je.length jn, .slice js j5.length jo]] ?_;(with_reducible refine (bD.calls k _ _ je _ _ j5 false _ (aC_ (Kd.aV jt.out HB.out)) ju.out (aC_ (Kd.aV jv.out HB.out)) jK.out A2.out).mono ?_);rintro e qX ⟨rfl,hb⟩;refine ⟨_,rfl,?_⟩;replace j3:=bbP j3 hb;replace j4:=bbP j4 hb;replace HB:=am (aG AO hb);(try clear hb);obtain ⟨qg,qh,qi,qj⟩:=fT j4.out))
 refine bodyPost_ret (vK rfl _ _ ja 46 #[.slice none 0 0, .slice none 0 0] (0,0) _ rfl (aM (aM j4.out 0 _ rfl) 1 _ rfl) Try.underlying46 rfl (by kernel_rfl)) rfl ?_
 exact ⟨_,_,iM,by first|exact Kd.oU _ _ _ _ _|exact Kd.sP _ _ _ _ _|exact Kd.sU _ _ _ _ _|exact Kd.sQ _ _ _ _ _|exact Kd.sS _ _ _ _ _,by first|exact Kd.oU _ _ _ _ _|exact Kd.sP _ _ _ _ _|exact Kd.sU _ _ _ _ _|exact Kd.sQ _ _ _ _ _|exact Kd.sS _ _ _ _ _,AO⟩
theorem fV.calls (a0:Int) (a1:Int) (a2:Int) (r:Bool) (w:World) (h:fV.f a0 a1 a2=some r):
  Calls Try.prog 88 #[.int .i64 a0, .int .i64 a1, .int .i64 a2] w fun e w'=>e= .returned (.bool r)∧iX w w':=by
 have H:(if a0≥a1 then (some (decide (a0≤a2))) else (some false))=some r:=h
 clear h
 by_cases c4:a0≥a1
 ·rw [if_pos c4] at H
  have j3:decide (a1≤a0)=true:=decide_eq_true c4
  clear c4
  obtain rfl:=Option.some.inj H
  go_enter Try.func88,Try.ntmps88
  go_wp2
  go_ret
  exact ⟨sd_,gM⟩
 rw [if_neg c4] at H
 have j3:decide (a1≤a0)=false:=decide_eq_false c4
 clear c4
 obtain rfl:=Option.some.inj H
 go_enter Try.func88,Try.ntmps88
 go_wp2
 go_ret
 exact ⟨sd_,gM⟩
theorem iD.calls (a0:Int) (r:Bool) (w:World) (h:iD.f a0=some r):
  Calls Try.prog 117 #[.int .i64 a0] w fun e w'=>e= .returned (.bool r)∧iX w w':=by
 have H:((fV.f a0 1 12).bind fun j3=>(some j3))=some r:=h
 clear h
 obtain ⟨j3,A2,H⟩:=bsa H
 (try dsimp only at H)
 obtain rfl:=Option.some.inj H
 go_enter Try.func117,Try.ntmps117
 go_wp2_with (first|((with_reducible refine aN (f:=88) rfl ?_);refine gl_ 4 Try.func88 #[.int .i64 a0, .int .i64 1, .int .i64 12] ?_;(with_reducible refine (fV.calls a0 1 12 j3 _ A2.out).mono ?_);rintro e w' ⟨rfl,⟨nd,rfl⟩⟩;refine ⟨_,rfl,?_⟩))
 go_ret
 exact ⟨sd_,gM⟩
theorem iQ.calls (a0:Int) (r:Bool) (w:World) (h:iQ.f a0=some r):
  Calls Try.prog 118 #[.int .i64 a0] w fun e w'=>e= .returned (.bool r)∧iX w w':=by
 have H:((fV.f a0 (-2147483648) 2147483647).bind fun j3=>(some j3))=some r:=h
 clear h
 obtain ⟨j3,A2,H⟩:=bsa H
 (try dsimp only at H)
 obtain rfl:=Option.some.inj H
 go_enter Try.func118,Try.ntmps118
 go_wp2_with (first|((with_reducible refine aN (f:=88) rfl ?_);refine gl_ 4 Try.func88 #[.int .i64 a0, .int .i64 (-2147483648), .int .i64 2147483647] ?_;(with_reducible refine (fV.calls a0 (-2147483648) 2147483647 j3 _ A2.out).mono ?_);rintro e w' ⟨rfl,⟨nd,rfl⟩⟩;refine ⟨_,rfl,?_⟩))
 go_ret
 exact ⟨sd_,gM⟩
theorem mW.calls (a0:Bool) (r:Int) (w:World) (h:mW.f a0=some r):
  Calls Try.prog 119 #[.bool a0] w fun e w'=>e= .returned (.int .i64 r)∧iX w w':=by
 have H:(if a0=true then (some 1) else (some 0))=some r:=h
 clear h
 by_cases c2:a0=true
 ·subst c2
  rw [if_pos rfl] at H
  obtain rfl:=Option.some.inj H
  go_enter Try.func119,Try.ntmps119
  go_wp2
  go_ret
  exact ⟨sd_,gM⟩
 replace c2:=Bool.eq_false_iff.mpr c2
 subst c2
 rw [if_neg (show ¬ (false=true) by decide)] at H
 obtain rfl:=Option.some.inj H
 go_enter Try.func119,Try.ntmps119
 go_wp2
 go_ret
 exact ⟨sd_,gM⟩
theorem kL.calls (a0:Int) (r:Int) (w:World) (h:kL.f a0=some r):
  Calls Try.prog 121 #[.int .i64 a0] w fun e w'=>e= .returned (.int .i64 r)∧iX w w':=by
 have H:(if (Int.tmod a0 4294967296) > 2147483647 then (some (wrap64 ((Int.tmod a0 4294967296) - 4294967296))) else (if (Int.tmod a0 4294967296) < (-2147483648) then (some (wrap64 ((Int.tmod a0 4294967296) + 4294967296))) else (some (Int.tmod a0 4294967296))))=some r:=h
 clear h
 by_cases c2:(Int.tmod a0 4294967296) > 2147483647
 ·rw [if_pos c2] at H
  have j3:decide (2147483647 < (Int.tmod a0 4294967296))=true:=decide_eq_true c2
  clear c2
  obtain rfl:=Option.some.inj H
  go_enter Try.func121,Try.ntmps121
  go_wp2
  go_ret
  exact ⟨sd_,gM⟩
 rw [if_neg c2] at H
 have j3:decide (2147483647 < (Int.tmod a0 4294967296))=false:=decide_eq_false c2
 clear c2
 by_cases c3:(Int.tmod a0 4294967296) < (-2147483648)
 ·rw [if_pos c3] at H
  have j4:decide ((Int.tmod a0 4294967296) < (-2147483648))=true:=decide_eq_true c3
  clear c3
  obtain rfl:=Option.some.inj H
  go_enter Try.func121,Try.ntmps121
  go_wp2
  go_ret
  exact ⟨sd_,gM⟩
 rw [if_neg c3] at H
 have j4:decide ((Int.tmod a0 4294967296) < (-2147483648))=false:=decide_eq_false c3
 clear c3
 obtain rfl:=Option.some.inj H
 go_enter Try.func121,Try.ntmps121
 go_wp2
 go_ret
 exact ⟨sd_,gM⟩
theorem mE.calls (a0:Int) (a1:Int) (a2:Bool) (r:Int) (w:World) (h:mE.f a0 a1 a2=some r):
  Calls Try.prog 120 #[.int .i64 a0, .int .i64 a1, .bool a2] w fun e w'=>e= .returned (.int .i64 r)∧iX w w':=by
 have H:(if a2=true then (if 0≤(Go.bits .and .i64 a1 31) then (some (shr .i64 a0 (Go.bits .and .i64 a1 31))) else (none)) else (if 0≤(Go.bits .and .i64 a1 31) then ((kL.f (shl .i64 a0 (Go.bits .and .i64 a1 31))).bind fun j3=>(some j3)) else (none)))=some r:=h
 clear h
 by_cases c4:a2=true
 ·subst c4
  rw [if_pos rfl] at H
  by_cases c5:0≤(Go.bits .and .i64 a1 31)
  ·rw [if_pos c5] at H
   have j4:=eq_true c5
   have j5:decide (0≤(Go.bits .and .i64 a1 31))=true:=decide_eq_true c5
   clear c5
   obtain ⟨ji6,hji6⟩:∃ j_:Int,(shr .i64 a0 (Go.bits .and .i64 a1 31))=j_:=⟨_,rfl⟩
   replace H:(some ji6)=some r:=by first|(rw [hji6] at H;exact H)|(simp only [hji6] at H ⊢;exact H)
   have hji6_:(a0 / 2 ^ min (Go.bits .and .i64 a1 31).toNat 64)=ji6:=hji6
   have hji6z:(Go.bits .and .i64 a1 31)≤64→(a0 / 2 ^ (Go.bits .and .i64 a1 31).toNat)=ji6:=IU hji6
   obtain rfl:=Option.some.inj H
   go_enter Try.func120,Try.ntmps120
   go_wp2
   go_ret
   exact ⟨by first|rfl|(simp;done)|(simp only [← hji6] <;> (first|rfl|simp))|(simp [*];done),gM⟩
  rw [if_neg c5] at H
  exact absurd H (by simp)
 replace c4:=Bool.eq_false_iff.mpr c4
 subst c4
 rw [if_neg (show ¬ (false=true) by decide)] at H
 by_cases c7:0≤(Go.bits .and .i64 a1 31)
 ·rw [if_pos c7] at H
  have j6:=eq_true c7
  have j7:decide (0≤(Go.bits .and .i64 a1 31))=true:=decide_eq_true c7
  clear c7
  obtain ⟨ji8,hji8⟩:∃ j_:Int,(shl .i64 a0 (Go.bits .and .i64 a1 31))=j_:=⟨_,rfl⟩
  replace H:((kL.f (ji8)).bind fun j3=>(some j3))=some r:=by first|(rw [hji8] at H;exact H)|(simp only [hji8] at H ⊢;exact H)
  have hji8_:(IntKind.i64.wrap (a0 * 2 ^ min (Go.bits .and .i64 a1 31).toNat 64))=ji8:=hji8
  have hji8z:(Go.bits .and .i64 a1 31)≤64→(IntKind.i64.wrap (a0 * 2 ^ (Go.bits .and .i64 a1 31).toNat))=ji8:=IQ hji8
  have hji8y:(wrap64 (a0 * 2 ^ min (Go.bits .and .i64 a1 31).toNat 64))=ji8:=(dS _).symm.trans hji8_
  have hji8x:(Go.bits .and .i64 a1 31)≤64→(wrap64 (a0 * 2 ^ (Go.bits .and .i64 a1 31).toNat))=ji8:=fun h_=>(dS _).symm.trans (hji8z h_)
  obtain ⟨j3,A9,H⟩:=bsa H
  (try dsimp only at H)
  obtain rfl:=Option.some.inj H
  go_enter Try.func120,Try.ntmps120
  go_wp2_with (first|((with_reducible refine aN (f:=121) rfl ?_);refine sN (some 16) rfl rfl Try.func121 (by kernel_rfl) rfl #[.int .i64 ji8] rfl (by (try simp only [List.map_toArray,List.map_cons,List.map_nil]);first|done|(simp only [hji8];rfl)|rfl|(simp only [List.length_drop,List.length_take];rfl)) ?_;(with_reducible refine (kL.calls ji8 j3 _ A9.out).mono ?_);rintro e w' ⟨rfl,⟨nd,rfl⟩⟩;refine ⟨_,rfl,?_⟩))
  go_ret
  exact ⟨by first|rfl|(simp;done)|(simp only [← hji8] <;> (first|rfl|simp))|(simp [*];done),gM⟩
 rw [if_neg c7] at H
 exact absurd H (by simp)
theorem oG.calls (a0:Int) (a1:Int) (r:Int) (w:World) (h:oG.f a0 a1=some r):
  Calls Try.prog 122 #[.int .i64 a0, .int .i64 a1] w fun e w'=>e= .returned (.int .i64 r)∧iX w w':=by
 have H:(if a1=0 then (some (-1)) else ((kL.f (wrap64 (Int.tdiv a0 a1))).bind fun j3=>(some j3)))=some r:=h
 clear h
 by_cases c3:a1=0
 ·rw [if_pos c3] at H
  have j4:(a1 == 0)=true:=beq_iff_eq.mpr c3
  have j5:(a1 != 0)=false:=bne_eq_false_iff_eq.mpr c3
  clear c3
  obtain rfl:=Option.some.inj H
  go_enter Try.func122,Try.ntmps122
  go_wp2
  go_ret
  exact ⟨sd_,gM⟩
 rw [if_neg c3] at H
 have j4:(a1 == 0)=false:=beq_eq_false_iff_ne.mpr c3
 have j5:(a1 != 0)=true:=bne_iff_ne.mpr c3
 obtain ⟨j3,A4,H⟩:=bsa H
 (try dsimp only at H)
 obtain rfl:=Option.some.inj H
 go_enter Try.func122,Try.ntmps122
 go_wp2_with (first|((with_reducible refine aN (f:=121) rfl ?_);refine gl_ 10 Try.func121 #[.int .i64 (wrap64 (Int.tdiv a0 a1))] ?_;(with_reducible refine (kL.calls (wrap64 (Int.tdiv a0 a1)) j3 _ A4.out).mono ?_);rintro e w' ⟨rfl,⟨nd,rfl⟩⟩;refine ⟨_,rfl,?_⟩))
 go_ret
 exact ⟨sd_,gM⟩
theorem oH.calls (a0:Int) (a1:Int) (r:Int) (w:World) (h:oH.f a0 a1=some r):
  Calls Try.prog 123 #[.int .i64 a0, .int .i64 a1] w fun e w'=>e= .returned (.int .i64 r)∧iX w w':=by
 have H:(if a1=0 then (some a0) else (some (Int.tmod a0 a1)))=some r:=h
 clear h
 by_cases c3:a1=0
 ·rw [if_pos c3] at H
  have j3:(a1 == 0)=true:=beq_iff_eq.mpr c3
  have j4:(a1 != 0)=false:=bne_eq_false_iff_eq.mpr c3
  clear c3
  obtain rfl:=Option.some.inj H
  go_enter Try.func123,Try.ntmps123
  go_wp2
  go_ret
  exact ⟨sd_,gM⟩
 rw [if_neg c3] at H
 have j3:(a1 == 0)=false:=beq_eq_false_iff_ne.mpr c3
 have j4:(a1 != 0)=true:=bne_iff_ne.mpr c3
 obtain rfl:=Option.some.inj H
 go_enter Try.func123,Try.ntmps123
 go_wp2
 go_ret
 exact ⟨sd_,gM⟩
theorem fP.mono_l:∀ k,(∀ y0 y1 y2 y3,LeO (fP.j0 k y0 y1 y2 y3) (fP.j0 (k + 1) y0 y1 y2 y3))
 |0=>fun _ _ _ _ r h=>by simp [fP.j0] at h
 |k + 1=>by
  have ih0:=fP.mono_l k
  ·intro y0 y1 y2 y3
   unfold fP.j0
   exact mo_
theorem fP.mono:∀ a0 a1 a2 k,LeO (fP.f k a0 a1 a2) (fP.f (k + 1) a0 a1 a2):=by
 intro a0 a1 a2 k
 have ih0:=fP.mono_l k
 unfold fP.f
 exact mo_
theorem fP.calls (k:Nat) (a0:Int) (a1:Int) (a2:Int) (r1:Int) (r2:Bool) (w:World) (h:fP.f k a0 a1 a2=some (r1,r2)):
  Calls Try.prog 112 #[.int .i64 a0, .int .i64 a1, .int .i64 a2] w fun e w'=>e= .returned (.tuple #[.int .i64 r1, .bool r2])∧iX w w':=by
 have H:((iD.f a0).bind fun jC=>(if jC=true then ((iQ.f a1).bind fun jD=>(if jD=true then ((iQ.f a2).bind fun jB=>(fP.j0 k a0 a1 a2 (!jB))) else (fP.j0 k a0 a1 a2 true))) else (fP.j0 k a0 a1 a2 true)))=some (r1,r2):=h
 clear h
 have jE:=am H
 clear H
 go_enter Try.func112,Try.ntmps112
 go_upto_region 1 with (fail)
 go_cut [20] (fun jO wc=>∃ (kq:Nat) (j3:Bool),jO= .bool j3∧Aside0 (fP.j0 kq a0 a1 a2 j3=some (r1,r2))∧Aside0 (kq≤k)∧iX w wc)
 case first=>
  have H:=jE.out
  clear jE
  obtain ⟨jC,A5,H⟩:=bsa H
  (try dsimp only at H)
  by_cases c6:jC=true
  ·subst c6
   rw [if_pos rfl] at H
   obtain ⟨jD,A7,H⟩:=bsa H
   (try dsimp only at H)
   by_cases c8:jD=true
   ·subst c8
    rw [if_pos rfl] at H
    obtain ⟨jB,A9,H⟩:=bsa H
    (try dsimp only at H)
    have H':=am H
    clear H
    go_wp2_with (first|((with_reducible refine aN (f:=117) rfl ?_);refine gl_ 9 Try.func117 #[.int .i64 a0] ?_;(with_reducible refine (iD.calls a0 true _ A5.out).mono ?_);rintro e w' ⟨rfl,⟨nd,rfl⟩⟩;refine ⟨_,rfl,?_⟩)|(go_at_call 118;(with_reducible refine (iQ.calls a1 true _ A7.out).mono ?_);rintro e w' ⟨rfl,⟨nd,rfl⟩⟩)|(go_at_call 118;(with_reducible refine (iQ.calls a2 jB _ A9.out).mono ?_);rintro e w' ⟨rfl,⟨nd,rfl⟩⟩))
    go_meet
    case rel=>exact ⟨_,(!jB),sd_,H',⟨by first|omega|exact Nat.le_refl _⟩,gM⟩
   replace c8:=Bool.eq_false_iff.mpr c8
   subst c8
   rw [if_neg (show ¬ (false=true) by decide)] at H
   have H':=am H
   clear H
   go_wp2_with (first|((with_reducible refine aN (f:=117) rfl ?_);refine gl_ 9 Try.func117 #[.int .i64 a0] ?_;(with_reducible refine (iD.calls a0 true _ A5.out).mono ?_);rintro e w' ⟨rfl,⟨nd,rfl⟩⟩;refine ⟨_,rfl,?_⟩)|(go_at_call 118;(with_reducible refine (iQ.calls a1 false _ A7.out).mono ?_);rintro e w' ⟨rfl,⟨nd,rfl⟩⟩))
   go_meet
   case rel=>exact ⟨_,(true),sd_,H',⟨by first|omega|exact Nat.le_refl _⟩,gM⟩
  replace c6:=Bool.eq_false_iff.mpr c6
  subst c6
  rw [if_neg (show ¬ (false=true) by decide)] at H
  have H':=am H
  clear H
  go_wp2_with (first|((with_reducible refine aN (f:=117) rfl ?_);refine gl_ 9 Try.func117 #[.int .i64 a0] ?_;(with_reducible refine (iD.calls a0 false _ A5.out).mono ?_);rintro e w' ⟨rfl,⟨nd,rfl⟩⟩;refine ⟨_,rfl,?_⟩))
  go_meet
  case rel=>exact ⟨_,(true),sd_,H',⟨by first|omega|exact Nat.le_refl _⟩,gM⟩
 case rest=>
  clear jE
  obtain ⟨kq,j3,rfl,HA,HJ3,⟨mc3,rfl⟩⟩:=hcut
  cases kq with
  |zero=>exact absurd HA.out (by simp [fP.j0])
  |succ q7=>
   have H:=HA.out
   clear HA
   simp only [fP.j0] at H
   by_cases c10:j3=true
   ·subst c10
    rw [if_pos rfl] at H
    simp only [Option.some.injEq,Prod.mk.injEq] at H
    obtain ⟨rfl,rfl⟩:=H
    go_wp2
    go_ret2
    exact ⟨sd_,gM⟩
   replace c10:=Bool.eq_false_iff.mpr c10
   subst c10
   rw [if_neg (show ¬ (false=true) by decide)] at H
   by_cases j4:a0=1
   ·rw [if_pos j4] at H
    have jf:(a0 == 1)=true:=beq_iff_eq.mpr j4
    have jg:(a0 != 1)=false:=bne_eq_false_iff_eq.mpr j4
    clear j4
    simp only [Option.some.injEq,Prod.mk.injEq] at H
    obtain ⟨rfl,rfl⟩:=H
    go_wp2
    go_ret2
    exact ⟨sd_,gM⟩
   rw [if_neg j4] at H
   have jf:(a0 == 1)=false:=beq_eq_false_iff_ne.mpr j4
   have jg:(a0 != 1)=true:=bne_iff_ne.mpr j4
   by_cases j5:a0=2
   ·rw [if_pos j5] at H
    have jh:(a0 == 2)=true:=beq_iff_eq.mpr j5
    have ji:(a0 != 2)=false:=bne_eq_false_iff_eq.mpr j5
    clear j5
    simp only [Option.some.injEq,Prod.mk.injEq] at H
    obtain ⟨rfl,rfl⟩:=H
    go_wp2
    go_ret2
    exact ⟨sd_,gM⟩
   rw [if_neg j5] at H
   have jh:(a0 == 2)=false:=beq_eq_false_iff_ne.mpr j5
   have ji:(a0 != 2)=true:=bne_iff_ne.mpr j5
   by_cases j6:a0=3
   ·rw [if_pos j6] at H
    have jj:(a0 == 3)=true:=beq_iff_eq.mpr j6
    have jk:(a0 != 3)=false:=bne_eq_false_iff_eq.mpr j6
    clear j6
    simp only [Option.some.injEq,Prod.mk.injEq] at H
    obtain ⟨rfl,rfl⟩:=H
    go_wp2
    go_ret2
    exact ⟨sd_,gM⟩
   rw [if_neg j6] at H
   have jj:(a0 == 3)=false:=beq_eq_false_iff_ne.mpr j6
   have jk:(a0 != 3)=true:=bne_iff_ne.mpr j6
   by_cases j7:a0=4
   ·rw [if_pos j7] at H
    have jl:(a0 == 4)=true:=beq_iff_eq.mpr j7
    have jm:(a0 != 4)=false:=bne_eq_false_iff_eq.mpr j7
    clear j7
    obtain ⟨jP,jF,H⟩:=bsm H
    (try dsimp only at H)
    have jQ:=am jF
    clear jF
    simp only [Option.some.injEq,Prod.mk.injEq] at H
    obtain ⟨rfl,rfl⟩:=H
    go_wp2_with (first|((with_reducible refine aN (f:=119) rfl ?_);refine gl_ 42 Try.func119 #[.bool (a1 == a2)] ?_;(with_reducible refine (mW.calls (a1 == a2) jP _ jQ.out).mono ?_);rintro e w' ⟨rfl,⟨nd,rfl⟩⟩;refine ⟨_,rfl,?_⟩))
    go_ret2
    exact ⟨sd_,gM⟩
   rw [if_neg j7] at H
   have jl:(a0 == 4)=false:=beq_eq_false_iff_ne.mpr j7
   have jm:(a0 != 4)=true:=bne_iff_ne.mpr j7
   by_cases j8:a0=5
   ·rw [if_pos j8] at H
    have jn:(a0 == 5)=true:=beq_iff_eq.mpr j8
    have jo:(a0 != 5)=false:=bne_eq_false_iff_eq.mpr j8
    clear j8
    obtain ⟨jR,jG,H⟩:=bsm H
    (try dsimp only at H)
    have jS:=am jG
    clear jG
    simp only [Option.some.injEq,Prod.mk.injEq] at H
    obtain ⟨rfl,rfl⟩:=H
    go_wp2_with (first|((with_reducible refine aN (f:=119) rfl ?_);refine gl_ 48 Try.func119 #[.bool (decide (a1 < a2))] ?_;(with_reducible refine (mW.calls (decide (a1 < a2)) jR _ jS.out).mono ?_);rintro e w' ⟨rfl,⟨nd,rfl⟩⟩;refine ⟨_,rfl,?_⟩))
    go_ret2
    exact ⟨sd_,gM⟩
   rw [if_neg j8] at H
   have jn:(a0 == 5)=false:=beq_eq_false_iff_ne.mpr j8
   have jo:(a0 != 5)=true:=bne_iff_ne.mpr j8
   by_cases j9:a0=6
   ·rw [if_pos j9] at H
    have jp:(a0 == 6)=true:=beq_iff_eq.mpr j9
    have jq:(a0 != 6)=false:=bne_eq_false_iff_eq.mpr j9
    clear j9
    obtain ⟨jT,jH,H⟩:=bsm H
    (try dsimp only at H)
    have jU:=am jH
    clear jH
    simp only [Option.some.injEq,Prod.mk.injEq] at H
    obtain ⟨rfl,rfl⟩:=H
    go_wp2_with (first|((with_reducible refine aN (f:=120) rfl ?_);refine gl_ 53 Try.func120 #[.int .i64 a1, .int .i64 a2, .bool false] ?_;(with_reducible refine (mE.calls a1 a2 false jT _ jU.out).mono ?_);rintro e w' ⟨rfl,⟨nd,rfl⟩⟩;refine ⟨_,rfl,?_⟩))
    go_ret2
    exact ⟨sd_,gM⟩
   rw [if_neg j9] at H
   have jp:(a0 == 6)=false:=beq_eq_false_iff_ne.mpr j9
   have jq:(a0 != 6)=true:=bne_iff_ne.mpr j9
   by_cases ja:a0=7
   ·rw [if_pos ja] at H
    have jr:(a0 == 7)=true:=beq_iff_eq.mpr ja
    have js:(a0 != 7)=false:=bne_eq_false_iff_eq.mpr ja
    clear ja
    obtain ⟨jV,jI,H⟩:=bsm H
    (try dsimp only at H)
    have jW:=am jI
    clear jI
    simp only [Option.some.injEq,Prod.mk.injEq] at H
    obtain ⟨rfl,rfl⟩:=H
    go_wp2_with (first|((with_reducible refine aN (f:=120) rfl ?_);refine gl_ 58 Try.func120 #[.int .i64 a1, .int .i64 a2, .bool true] ?_;(with_reducible refine (mE.calls a1 a2 true jV _ jW.out).mono ?_);rintro e w' ⟨rfl,⟨nd,rfl⟩⟩;refine ⟨_,rfl,?_⟩))
    go_ret2
    exact ⟨sd_,gM⟩
   rw [if_neg ja] at H
   have jr:(a0 == 7)=false:=beq_eq_false_iff_ne.mpr ja
   have js:(a0 != 7)=true:=bne_iff_ne.mpr ja
   by_cases jb:a0=8
   ·rw [if_pos jb] at H
    have jt:(a0 == 8)=true:=beq_iff_eq.mpr jb
    have ju:(a0 != 8)=false:=bne_eq_false_iff_eq.mpr jb
    clear jb
    obtain ⟨jX,jJ,H⟩:=bsm H
    (try dsimp only at H)
    have jY:=am jJ
    clear jJ
    simp only [Option.some.injEq,Prod.mk.injEq] at H
    obtain ⟨rfl,rfl⟩:=H
    go_wp2_with (first|((with_reducible refine aN (f:=121) rfl ?_);refine gl_ 64 Try.func121 #[.int .i64 (wrap64 (a1 + a2))] ?_;(with_reducible refine (kL.calls (wrap64 (a1 + a2)) jX _ jY.out).mono ?_);rintro e w' ⟨rfl,⟨nd,rfl⟩⟩;refine ⟨_,rfl,?_⟩))
    go_ret2
    exact ⟨sd_,gM⟩
   rw [if_neg jb] at H
   have jt:(a0 == 8)=false:=beq_eq_false_iff_ne.mpr jb
   have ju:(a0 != 8)=true:=bne_iff_ne.mpr jb
   by_cases jc:a0=9
   ·rw [if_pos jc] at H
    have jv:(a0 == 9)=true:=beq_iff_eq.mpr jc
    have jw:(a0 != 9)=false:=bne_eq_false_iff_eq.mpr jc
    clear jc
    obtain ⟨jZ,jK,H⟩:=bsm H
    (try dsimp only at H)
    have q0:=am jK
    clear jK
    simp only [Option.some.injEq,Prod.mk.injEq] at H
    obtain ⟨rfl,rfl⟩:=H
    go_wp2_with (first|((with_reducible refine aN (f:=121) rfl ?_);refine gl_ 70 Try.func121 #[.int .i64 (wrap64 (a1 - a2))] ?_;(with_reducible refine (kL.calls (wrap64 (a1 - a2)) jZ _ q0.out).mono ?_);rintro e w' ⟨rfl,⟨nd,rfl⟩⟩;refine ⟨_,rfl,?_⟩))
    go_ret2
    exact ⟨sd_,gM⟩
   rw [if_neg jc] at H
   have jv:(a0 == 9)=false:=beq_eq_false_iff_ne.mpr jc
   have jw:(a0 != 9)=true:=bne_iff_ne.mpr jc
   by_cases jd:a0=10
   ·rw [if_pos jd] at H
    have jx:(a0 == 10)=true:=beq_iff_eq.mpr jd
    have jy:(a0 != 10)=false:=bne_eq_false_iff_eq.mpr jd
    clear jd
    obtain ⟨q1,jL,H⟩:=bsm H
    (try dsimp only at H)
    have q2:=am jL
    clear jL
    simp only [Option.some.injEq,Prod.mk.injEq] at H
    obtain ⟨rfl,rfl⟩:=H
    go_wp2_with (first|((with_reducible refine aN (f:=121) rfl ?_);refine gl_ 76 Try.func121 #[.int .i64 (wrap64 (a1 * a2))] ?_;(with_reducible refine (kL.calls (wrap64 (a1 * a2)) q1 _ q2.out).mono ?_);rintro e w' ⟨rfl,⟨nd,rfl⟩⟩;refine ⟨_,rfl,?_⟩))
    go_ret2
    exact ⟨sd_,gM⟩
   rw [if_neg jd] at H
   have jx:(a0 == 10)=false:=beq_eq_false_iff_ne.mpr jd
   have jy:(a0 != 10)=true:=bne_iff_ne.mpr jd
   by_cases je:a0=11
   ·rw [if_pos je] at H
    have jz:(a0 == 11)=true:=beq_iff_eq.mpr je
    have jA:(a0 != 11)=false:=bne_eq_false_iff_eq.mpr je
    clear je
    obtain ⟨q3,jM,H⟩:=bsm H
    (try dsimp only at H)
    have q4:=am jM
    clear jM
    simp only [Option.some.injEq,Prod.mk.injEq] at H
    obtain ⟨rfl,rfl⟩:=H
    go_wp2_with (first|((with_reducible refine aN (f:=122) rfl ?_);refine gl_ 81 Try.func122 #[.int .i64 a1, .int .i64 a2] ?_;(with_reducible refine (oG.calls a1 a2 q3 _ q4.out).mono ?_);rintro e w' ⟨rfl,⟨nd,rfl⟩⟩;refine ⟨_,rfl,?_⟩))
    go_ret2
    exact ⟨sd_,gM⟩
   rw [if_neg je] at H
   have jz:(a0 == 11)=false:=beq_eq_false_iff_ne.mpr je
   have jA:(a0 != 11)=true:=bne_iff_ne.mpr je
   obtain ⟨q5,jN,H⟩:=bsm H
   (try dsimp only at H)
   have q6:=am jN
   clear jN
   simp only [Option.some.injEq,Prod.mk.injEq] at H
   obtain ⟨rfl,rfl⟩:=H
   go_wp2_with (first|((with_reducible refine aN (f:=123) rfl ?_);refine gl_ 84 Try.func123 #[.int .i64 a1, .int .i64 a2] ?_;(with_reducible refine (oH.calls a1 a2 q5 _ q6.out).mono ?_);rintro e w' ⟨rfl,⟨nd,rfl⟩⟩;refine ⟨_,rfl,?_⟩))
   go_ret2
   exact ⟨sd_,gM⟩
end Go.Proofs.Ytodhbeeibagiaaa.PA

