/- Part 4. -/
import Derived.Test.YtjamfkpgmkhbnaaGreatDoorQFnSourceFold2
set_option maxHeartbeats 8000000
set_option maxRecDepth 100000
namespace Go.Proofs.YtjamfkpgmkhbnaaGreatDoor.PA
open Go.RowKit Go.Proofs.YtjamfkpgmkhbnaaGreatDoorW.PrintWords Go.Proofs.YtjamfkpgmkhbnaaGreatDoorW.PrintLast Go.Proofs.YtjamfkpgmkhbnaaGreatDoorW.PrintMore
attribute [local go_sem] max2_int min2_int max_two min_two max_three min_three max_four min_four
set_option linter.unusedVariables false
set_option linter.unusedSimpArgs false
theorem fF.mono_l:∀ k,(∀ y0 y1 y2 y3,LeO (fF.f k y0 y1 y2 y3) (fF.f (k + 1) y0 y1 y2 y3))
 |0=>fun _ _ _ _ r h=>by simp [fF.f] at h
 |k + 1=>by
  have ih0:=fF.mono_l k
  ·intro y0 y1 y2 y3;unfold fF.f;exact mo_
theorem fF.mono:∀ a0 a1 a2 a3 k,LeO (fF.f k a0 a1 a2 a3) (fF.f (k + 1) a0 a1 a2 a3):=by
 intro a0 a1 a2 a3 k;have ih0:=fF.mono_l k;exact ih0 a0 a1 a2 a3
theorem fF.calls (k:Nat):∀ (j4:Int) (j8:Int) (jg:Option Addr) (jh:Nat) (j3:List (S56)) (a1:Int) (r:Bool) (w:World) (hr0_2:Kd.C k56 w jg j3.length j3) (hc0_2:j3.length≤jh) (h:fF.f k j4 j8 j3 a1=some r),
  Calls Tryz.prog 131 #[.agg #[.int .i64 j4,.int .i64 j8,.slice jg j3.length jh],.int .i64 a1] w fun e w'=>e= .returned (.bool r)∧Below w.heap.size w w':=by
 induction k using Nat.strongRecOn with
 | _ k ih=>
 intro j4 j8 jg jh j3 a1 r w hr0_2 hc0_2 h;cases k with
 |zero=>exact absurd h (by simp [fF.f])
 |succ k=>
 simp only [fF.f] at h;have hu56:=Tryz.underlying56;have jf:=am hr0_2;have qa:=am hc0_2;clear hr0_2 hc0_2;have HB:=am (Below.refl w.heap.size w);have H:=h;clear h;have HH_:=am H;clear H;go_enter Tryz.func131,Tryz.ntmps131;go_upto_region 1 with (first|((with_reducible refine gD 2 rfl ?_);(try (refine nH (by rfl) ?_;dsimp only));refine dU rfl (N:=2) rfl (cs:=#[.int .i64 j4,.int .i64 j8,.slice jg j3.length jh]) (t:=56) rn_ ?_;intro ju hg w7 hbox hb;have jc:=am (hbox);have qm:=am ((by rw [hg];exact (aI eG):w.heap.size≤ju));have GE23:=am ((by rw [hg];exact (aI eG):w.heap.size≤ju));replace HB:=am (aA eG hb);clear hb hbox hg;obtain ⟨jT,jU,jV,jW,jX,jY⟩:=mE jc.out));have H:=HH_.out;clear HH_;by_cases c3:j4=0
 ·rw [if_pos c3] at H;have jZ:(j4 == 0)=true:=beq_iff_eq.mpr c3;have q0:(j4 != 0)=false:=bF c3;clear c3;by_cases c4:j8≥0
  ·rw [if_pos c4] at H;have q1:decide (0≤j8)=true:=dT c4;clear c4;by_cases c5:j8≤99999
   ·rw [if_pos c5] at H;have q2:decide (j8≤99999)=true:=dT c5;clear c5;by_cases c6:(j3.length:Int)=0
    ·rw [if_pos c6] at H;have q3:((j3.length:Int) == 0)=true:=beq_iff_eq.mpr c6;have q4:((j3.length:Int) != 0)=false:=bF c6;clear c6;obtain rfl:=oI H;go_wp2;go_ret;exact ⟨rr_,rQ⟩
    rw [if_neg c6] at H;have q3:((j3.length:Int) == 0)=false:=bE c6;have q4:((j3.length:Int) != 0)=true:=bne_iff_ne.mpr c6;have qn:¬ (j3=[]):=fun h_=>c6 (by rw [h_];rfl)
    obtain rfl:=oI H;go_wp2;go_ret;exact ⟨rr_,rQ⟩
   rw [if_neg c5] at H;have q2:decide (j8≤99999)=false:=dF c5;clear c5;obtain rfl:=oI H;go_wp2;go_ret;exact ⟨rr_,rQ⟩
  rw [if_neg c4] at H;have q1:decide (0≤j8)=false:=dF c4;clear c4;obtain rfl:=oI H;go_wp2;go_ret;exact ⟨rr_,rQ⟩
 rw [if_neg c3] at H;have jZ:(j4 == 0)=false:=bE c3;have q0:(j4 != 0)=true:=bne_iff_ne.mpr c3;by_cases jj:j4=13
 ·rw [if_pos jj] at H;have jv:(j4 == 13)=true:=beq_iff_eq.mpr jj;have jw:(j4 != 13)=false:=bF jj;clear jj;by_cases jq:j8≥0
  ·rw [if_pos jq] at H;have jx:decide (0≤j8)=true:=dT jq;clear jq;by_cases jr:j8 < 4
   ·rw [if_pos jr] at H;have jy:decide (j8 < 4)=true:=dT jr;clear jr;by_cases ji:(j3.length:Int)=0
    ·rw [if_pos ji] at H;have jz:((j3.length:Int) == 0)=true:=beq_iff_eq.mpr ji;have jA:((j3.length:Int) != 0)=false:=bF ji;clear ji;obtain rfl:=oI H;go_wp2;go_ret;exact ⟨rr_,rQ⟩
    rw [if_neg ji] at H;have jz:((j3.length:Int) == 0)=false:=bE ji;have jA:((j3.length:Int) != 0)=true:=bne_iff_ne.mpr ji;have qb:¬ (j3=[]):=fun h_=>ji (by rw [h_];rfl)
    obtain rfl:=oI H;go_wp2;go_ret;exact ⟨rr_,rQ⟩
   rw [if_neg jr] at H;have jy:decide (j8 < 4)=false:=dF jr;clear jr;obtain rfl:=oI H;go_wp2;go_ret;exact ⟨rr_,rQ⟩
  rw [if_neg jq] at H;have jx:decide (0≤j8)=false:=dF jq;clear jq;obtain rfl:=oI H;go_wp2;go_ret;exact ⟨rr_,rQ⟩
 rw [if_neg jj] at H;have jv:(j4 == 13)=false:=bE jj;have jw:(j4 != 13)=true:=bne_iff_ne.mpr jj;obtain ⟨qo,qc,H⟩:=bsm H;(try dsimp only at H);have js:=am qc;clear qc;by_cases jJ:qo=true
 ·subst jJ;rw [if_pos rfl] at H;by_cases jk:j8=0
  ·rw [if_pos jk] at H;have jB:(j8 == 0)=true:=beq_iff_eq.mpr jk;have jC:(j8 != 0)=false:=bF jk;clear jk;by_cases jl:(j3.length:Int)=2
   ·rw [if_pos jl] at H;have jD:((j3.length:Int) == 2)=true:=beq_iff_eq.mpr jl;have jE:((j3.length:Int) != 2)=false:=bF jl;clear jl;by_cases jt:a1 > 1
    ·rw [if_pos jt] at H;have jF:decide (1 < a1)=true:=dT jt;clear jt;by_cases jK:0 < (j3.length:Int)
     ·rw [if_pos jK] at H;have qd:decide (0 < (j3.length:Int))=true:=dT jK;have qe:decide (0 < j3.length)=true:=dT (by omega);clear jK;obtain ⟨qp,qf,H⟩:=bsm H;(try dsimp only at H);have qg:=am qf;clear qf;by_cases jL:qp=true
      ·subst jL;rw [if_pos rfl] at H;by_cases jM:1 < (j3.length:Int)
       ·rw [if_pos jM] at H;have qh:decide (1 < (j3.length:Int))=true:=dT jM;have qi:decide (1 < j3.length)=true:=dT (by omega);clear jM;obtain ⟨qq,qj,H⟩:=bsm H;(try dsimp only at H);have qr:=am qj;clear qj;obtain rfl:=oI H;go_wp2_with (first|((with_reducible refine gC 115 rfl ?_);refine gl_ 51 Tryz.func115 #[.int .i64 j4] ?_;(with_reducible refine (iE.calls j4 true _ js.out).mono ?_);rintro e w' ⟨rfl,⟨nd,rfl⟩⟩;refine ⟨_,rfl,?_⟩;have jm:0≤(0:Int):=(by omega);have jn:0 < (j3.length:Int):=of_decide_eq_true fK;obtain ⟨jG,jH,jI,q5,j5,j6,j7,hl37_2,hi37_2⟩:=rM jf.out 0 jm jn;cases q5;have q6:(0 < j3.length)=True:=eq_true (by omega);(try rw [show ((0:Int)).toNat=0 from rfl] at j5);(try rw [show 0 * 3=0 from rfl] at j5);(try rw [Addr.add_zero'] at j5);(try rw [show ((0:Int)).toNat=0 from rfl] at j6);(try rw [show 0 * 3=0 from rfl] at j6);(try rw [Addr.add_zero'] at j6);(try rw [show ((0:Int)).toNat=0 from rfl] at j7);(try rw [show 0 * 3=0 from rfl] at j7);(try rw [Addr.add_zero'] at j7);replace j5:=bcT HB.out j5;replace j6:=bcT HB.out j6;replace j7:=bcT HB.out j7;have jd:=am hi37_2;have je:=am hl37_2;clear hi37_2 hl37_2;replace jm:=eq_true jm;replace jn:=eq_true jn)|(go_at_call 131;(with_reducible refine (ih k (by omega) ((bW j3 0).f0) ((bW j3 0).f1) _ _ ((bW j3 0).f2) (wrap64 (a1 - 1)) true _ (aC_ (Kd.aX jd.out rQ)) je.out qg.out).mono ?_);rintro e qu ⟨rfl,hb⟩;replace jc:=bbP jc hb;replace HB:=am (aA rQ hb);(try clear hb);obtain ⟨jN,jO,jP,jQ,jR,jS⟩:=mE jc.out;have q7:0≤(1:Int):=(by omega);have q8:1 < (j3.length:Int):=of_decide_eq_true fK;obtain ⟨q9,qk,ql,qs,j9,ja,jb,hl38_2,hi38_2⟩:=rM jf.out 1 q7 q8;obtain rfl:jG=q9:=(by injection qs);(try simp only [show (1:Int).toNat=1 from rfl,Nat.reduceMul,Nat.reduceEqDiff,Go.Addr.add,↓reduceIte] at j9);(try simp only [show (1:Int).toNat=1 from rfl,Nat.reduceMul,Nat.reduceEqDiff,Go.Addr.add,↓reduceIte] at ja);(try simp only [show (1:Int).toNat=1 from rfl,Nat.reduceMul,Nat.reduceEqDiff,Go.Addr.add,↓reduceIte] at jb);have qt:(1 < j3.length)=True:=eq_true (by omega);(try rw [show ((1:Int)).toNat=1 from rfl] at j9);(try rw [show 1 * 3=3 from rfl] at j9);(try rw [show ((1:Int)).toNat=1 from rfl] at ja);(try rw [show 1 * 3=3 from rfl] at ja);(try rw [show ((1:Int)).toNat=1 from rfl] at jb);(try rw [show 1 * 3=3 from rfl] at jb);replace j9:=bcT HB.out j9;replace ja:=bcT HB.out ja;replace jb:=bcT HB.out jb;have jo:=am hi38_2;have jp:=am hl38_2;clear hi38_2 hl38_2;replace q7:=eq_true q7;replace q8:=eq_true q8)|(go_at_call 131;(with_reducible refine (ih k (by omega) ((bW j3 1).f0) ((bW j3 1).f1) _ _ ((bW j3 1).f2) (wrap64 (a1 - 1)) qq _ (aC_ (Kd.aX jo.out HB.out)) jp.out qr.out).mono ?_);rintro e qv ⟨rfl,hb⟩;replace jc:=bbP jc hb;replace HB:=am (aA rQ hb);(try clear hb)));go_ret;exact ⟨rr_,rQ⟩
       rw [if_neg jM] at H;cases H
      replace jL:=Bool.eq_false_iff.mpr jL;subst jL;rw [if_neg Bool.false_ne_true] at H;obtain rfl:=oI H;go_wp2_with (first|((with_reducible refine gC 115 rfl ?_);refine gl_ 51 Tryz.func115 #[.int .i64 j4] ?_;(with_reducible refine (iE.calls j4 true _ js.out).mono ?_);rintro e w' ⟨rfl,⟨nd,rfl⟩⟩;refine ⟨_,rfl,?_⟩;have jm:0≤(0:Int):=(by omega);have jn:0 < (j3.length:Int):=of_decide_eq_true fK;obtain ⟨jG,jH,jI,q5,j5,j6,j7,hl37_2,hi37_2⟩:=rM jf.out 0 jm jn;cases q5;have q6:(0 < j3.length)=True:=eq_true (by omega);(try rw [show ((0:Int)).toNat=0 from rfl] at j5);(try rw [show 0 * 3=0 from rfl] at j5);(try rw [Addr.add_zero'] at j5);(try rw [show ((0:Int)).toNat=0 from rfl] at j6);(try rw [show 0 * 3=0 from rfl] at j6);(try rw [Addr.add_zero'] at j6);(try rw [show ((0:Int)).toNat=0 from rfl] at j7);(try rw [show 0 * 3=0 from rfl] at j7);(try rw [Addr.add_zero'] at j7);replace j5:=bcT HB.out j5;replace j6:=bcT HB.out j6;replace j7:=bcT HB.out j7;have jd:=am hi37_2;have je:=am hl37_2;clear hi37_2 hl37_2;replace jm:=eq_true jm;replace jn:=eq_true jn)|(go_at_call 131;(with_reducible refine (ih k (by omega) ((bW j3 0).f0) ((bW j3 0).f1) _ _ ((bW j3 0).f2) (wrap64 (a1 - 1)) false _ (aC_ (Kd.aX jd.out rQ)) je.out qg.out).mono ?_);rintro e qw ⟨rfl,hb⟩;replace jc:=bbP jc hb;replace HB:=am (aA rQ hb);(try clear hb)));go_ret;exact ⟨rr_,rQ⟩
     rw [if_neg jK] at H;cases H
    rw [if_neg jt] at H;have jF:decide (1 < a1)=false:=dF jt;clear jt;obtain rfl:=oI H;go_wp2_with (first|((with_reducible refine gC 115 rfl ?_);refine gl_ 51 Tryz.func115 #[.int .i64 j4] ?_;(with_reducible refine (iE.calls j4 true _ js.out).mono ?_);rintro e w' ⟨rfl,⟨nd,rfl⟩⟩;refine ⟨_,rfl,?_⟩));go_ret;exact ⟨rr_,rQ⟩
   rw [if_neg jl] at H;have jD:((j3.length:Int) == 2)=false:=bE jl;have jE:((j3.length:Int) != 2)=true:=bne_iff_ne.mpr jl;obtain rfl:=oI H;go_wp2_with (first|((with_reducible refine gC 115 rfl ?_);refine gl_ 51 Tryz.func115 #[.int .i64 j4] ?_;(with_reducible refine (iE.calls j4 true _ js.out).mono ?_);rintro e w' ⟨rfl,⟨nd,rfl⟩⟩;refine ⟨_,rfl,?_⟩));go_ret;exact ⟨rr_,rQ⟩
  rw [if_neg jk] at H;have jB:(j8 == 0)=false:=bE jk;have jC:(j8 != 0)=true:=bne_iff_ne.mpr jk;obtain rfl:=oI H;go_wp2_with (first|((with_reducible refine gC 115 rfl ?_);refine gl_ 51 Tryz.func115 #[.int .i64 j4] ?_;(with_reducible refine (iE.calls j4 true _ js.out).mono ?_);rintro e w' ⟨rfl,⟨nd,rfl⟩⟩;refine ⟨_,rfl,?_⟩));go_ret;exact ⟨rr_,rQ⟩
 replace jJ:=Bool.eq_false_iff.mpr jJ;subst jJ;rw [if_neg Bool.false_ne_true] at H;obtain rfl:=oI H;go_wp2_with (first|((with_reducible refine gC 115 rfl ?_);refine gl_ 51 Tryz.func115 #[.int .i64 j4] ?_;(with_reducible refine (iE.calls j4 false _ js.out).mono ?_);rintro e w' ⟨rfl,⟨nd,rfl⟩⟩;refine ⟨_,rfl,?_⟩));go_ret;exact ⟨rr_,rQ⟩
theorem iO.mono:∀ a0 a1 a2 k,LeO (iO.f k a0 a1 a2) (iO.f (k + 1) a0 a1 a2):=by
 intro a0 a1 a2 k;unfold iO.f;have m0:=@fF.mono;exact mo_
theorem iO.calls (k:Nat) (j4:Int) (j5:Int) (j6:Option Addr) (j7:Nat) (j3:List (S56)) (r:Bool) (w:World) (hr0_2:Kd.C k56 w j6 j3.length j3) (hc0_2:j3.length≤j7) (h:iO.f k j4 j5 j3=some r):
  Calls Tryz.prog 109 #[.agg #[.int .i64 j4,.int .i64 j5,.slice j6 j3.length j7]] w fun e w'=>e= .returned (.bool r)∧Below w.heap.size w w':=by
 have hu56:=Tryz.underlying56;have j9:=am hr0_2;have ja:=am hc0_2;clear hr0_2 hc0_2;have HB:=am (Below.refl w.heap.size w);have H:((fF.f k j4 j5 j3 5).bind fun jc=>(some jc))=some r:=h;clear h;obtain ⟨jc,A2,H⟩:=bsa H;(try dsimp only at H);obtain rfl:=oI H;go_enter Tryz.func109,Tryz.ntmps109;go_wp2_with (first|((with_reducible refine gD 1 rfl ?_);refine dU rfl (N:=1) rfl (cs:=#[.int .i64 j4,.int .i64 j5,.slice j6 j3.length j7]) (t:=56) rn_ ?_;intro jb hg w3 hbox hb;have j8:=am (hbox);have jj:=am ((by rw [hg];exact (aI eG):w.heap.size≤jb));have GE22:=am ((by rw [hg];exact (aI eG):w.heap.size≤jb));replace HB:=am (aA eG hb);clear hb hbox hg;obtain ⟨jd,je,jf,jg,jh,ji⟩:=mE j8.out)|((with_reducible refine gC 131 rfl ?_);refine gl_ 4 Tryz.func131 #[.agg #[.int .i64 j4,.int .i64 j5,.slice j6 j3.length j7],.int .i64 5] ?_;(with_reducible refine (fF.calls k j4 j5 _ _ j3 5 jc _ (aC_ (Kd.aX j9.out HB.out)) ja.out A2.out).mono ?_);rintro e w5 ⟨rfl,hb⟩;refine ⟨_,rfl,?_⟩;replace j8:=bbP j8 hb;replace HB:=am (aA wD hb);(try clear hb)));go_ret;exact ⟨rr_,wD⟩
theorem FV.calls (n limit:Int) (needed:Bool) (w:World):
  Calls Tryz.prog 108 #[.int .i64 n,.int .i64 limit,.bool needed] w fun e w'=>e= .returned (.bool (inr n limit needed))∧gX w w':=by
 by_cases h0:n=0
 ·subst h0;go_enter Tryz.func108,Tryz.ntmps108;go_wp2;go_ret;exact ⟨by simp [inr],fG⟩
 have h0b:(n == 0)=false:=bE h0;cases needed with
 |false=>
  go_enter Tryz.func108,Tryz.ntmps108;go_wp2;go_ret;exact ⟨by simp [inr,h0],fG⟩
 |true=>
  by_cases h1:0 < n
  ·have h1b:decide (0 < n)=true:=dT h1;by_cases h2:n < limit
   ·have h2b:decide (n < limit)=true:=dT h2;go_enter Tryz.func108,Tryz.ntmps108;go_wp2;go_ret;exact ⟨by simp [inr,h0];omega,fG⟩
   have h2b:decide (n < limit)=false:=dF h2;go_enter Tryz.func108,Tryz.ntmps108;go_wp2;go_ret;exact ⟨by simp [inr,h0];omega,fG⟩
  have h1b:decide (0 < n)=false:=dF h1;go_enter Tryz.func108,Tryz.ntmps108;go_wp2;go_ret;exact ⟨by simp [inr,h0];omega,fG⟩
theorem pQ {n limit:Int} {needed b:Bool} (w:World) (h:inr n limit needed=b):
  Calls Tryz.prog 108 #[.int .i64 n,.int .i64 limit,.bool needed] w fun e w'=>e= .returned (.bool b)∧gX w w':=h ▸ FV.calls n limit needed w
theorem mO.mono:∀ nv nb ne nd no va bx op n la lb le boxes k,LeO (mO k nv nb ne nd no va bx op n la lb le boxes) (mO (k + 1) nv nb ne nd no va bx op n la lb le boxes):=by
 intro nv nb ne nd no va bx op n la lb le boxes k;unfold mO;have m0:=@iO.mono;exact mo_
theorem fU.mono:∀ kd va bx op n la lb le boxes k,LeO (fU.f k kd va bx op n la lb le boxes) (fU.f (k + 1) kd va bx op n la lb le boxes):=by
 intro kd va bx op n la lb le boxes k;unfold fU.f;have m0:=@mO.mono;exact mo_
attribute [local irreducible] inr
theorem fU.callsP (k:Nat) (g:Addr) (kd va bx op n:Int) (Aa:Option Addr) (ca:Nat) (la:List S56) (Ab:Option Addr) (lb cb:Nat) (Ae:Option Addr) (le ce:Nat) (boxes:Int) (r:Bool) (w:World)
  (hg0:w.cell? g=some (.int .i64 kd)) (hg1:w.cell? ⟨g.block,g.off + 1,none⟩=some (.int .i64 va)) (hg2:w.cell? ⟨g.block,g.off + 2,none⟩=some (.int .i64 bx))
  (hg3:w.cell? ⟨g.block,g.off + 3,none⟩=some (.int .i64 op)) (hg4:w.cell? ⟨g.block,g.off + 4,none⟩=some (.int .i64 n)) (hg5:w.cell? ⟨g.block,g.off + 5,none⟩=some (.slice Aa la.length ca))
  (hg6:w.cell? ⟨g.block,g.off + 6,none⟩=some (.slice Ab lb cb)) (hg7:w.cell? ⟨g.block,g.off + 7,none⟩=some (.slice Ae le ce))
  (hr:Kd.C k56 w Aa la.length la) (hc:la.length≤ca) (h:fU.f k kd va bx op n la lb le boxes=some r):
  Calls Tryz.prog 83 #[.pointer (some g),.int .i64 boxes] w fun e w'=>e= .returned (.bool r)∧Below w.heap.size w w':=by
 have HR:=am hr;have HC:=am hc;have HH:=am h;clear hr hc h;go_enter Tryz.func83,Tryz.ntmps83;go_upto_region 2 with (first|((with_reducible refine gD 5 rfl ?_);refine dU (N:=5) rfl rfl (cs:=#[.bool false,.bool false,.bool false,.bool false,.bool false]) (t:=137) rn_ ?_;intro gb hg w1 hbox hb)|fail);have k0:=dD hb hg0;have z0:=aG hbox 0;have z1:=aG hbox 1;have z2:=aG hbox 2;have z3:=aG hbox 3;have z4:=aG hbox 4;have f0:=aZ hbox 0;have f1:=aZ hbox 1;have f2:=aZ hbox 2;have f3:=aZ hbox 3;have f4:=aZ hbox 4;have HBX:=am hbox;have HB:=am hb;have HG:=am (Nat.le_of_eq hg.symm);clear hbox hb hg
 go_upto_block 0 with fail
 go_cut [4,5] from 7 (fun v4 v5 wc=>∃ nv nb ne nd no,v5= .pointer (some ⟨gb,0,none⟩)∧Aside0 (mO k nv nb ne nd no va bx op n la lb le boxes=some r)∧Aside0 (wc.heap[gb]?=some (.cells #[.bool nv,.bool nb,.bool ne,.bool nd,.bool no] 137 (0,0)))∧Aside0 (Below w.heap.size w wc))
 case first=>
  have H:=HH.out;clear HH;unfold fU.f at H;by_cases c1:kd=1
  ·rw [if_pos c1] at H;subst c1;have H':=am H;clear H;go_wp2
   go_meet
   case rel=>exact ⟨true,false,true,false,false,rfl,H',⟨(aV (aV HBX.out 0 (.bool true) (by rfl)) 2 (.bool true) (by rfl))⟩,⟨(below_set (below_set HB.out HG.out) HG.out)⟩⟩
  rw [if_neg c1] at H;have d1:(kd == 1)=false:=bE c1;by_cases c2:kd=2
  ·rw [if_pos c2] at H;subst c2;have H':=am H;clear H;go_wp2
   go_meet
   case rel=>exact ⟨false,false,true,true,true,rfl,H',⟨(aV (aV (aV HBX.out 2 (.bool true) (by rfl)) 3 (.bool true) (by rfl)) 4 (.bool true) (by rfl))⟩,⟨(below_set (below_set (below_set HB.out HG.out) HG.out) HG.out)⟩⟩
  rw [if_neg c2] at H;have d2:(kd == 2)=false:=bE c2;by_cases c3:kd=3
  ·rw [if_pos c3] at H;subst c3;have H':=am H;clear H;go_wp2
   go_meet
   case rel=>exact ⟨false,false,true,true,false,rfl,H',⟨(aV (aV HBX.out 2 (.bool true) (by rfl)) 3 (.bool true) (by rfl))⟩,⟨(below_set (below_set HB.out HG.out) HG.out)⟩⟩
  rw [if_neg c3] at H;have d3:(kd == 3)=false:=bE c3;by_cases c4:kd=4
  ·rw [if_pos c4] at H;subst c4;have H':=am H;clear H;go_wp2
   go_meet
   case rel=>exact ⟨false,true,true,false,false,rfl,H',⟨(aV (aV HBX.out 1 (.bool true) (by rfl)) 2 (.bool true) (by rfl))⟩,⟨(below_set (below_set HB.out HG.out) HG.out)⟩⟩
  rw [if_neg c4] at H;have d4:(kd == 4)=false:=bE c4;by_cases c5:kd=5
  ·rw [if_pos c5] at H;subst c5;have H':=am H;clear H;go_wp2
   go_meet
   case rel=>exact ⟨true,true,false,false,false,rfl,H',⟨(aV (aV HBX.out 1 (.bool true) (by rfl)) 0 (.bool true) (by rfl))⟩,⟨(below_set (below_set HB.out HG.out) HG.out)⟩⟩
  rw [if_neg c5] at H;have d5:(kd == 5)=false:=bE c5;by_cases c7:kd=7
  ·rw [if_pos c7] at H;subst c7;have H':=am H;clear H;go_wp2
   go_meet
   case rel=>exact ⟨false,false,true,false,false,rfl,H',⟨(aV HBX.out 2 (.bool true) (by rfl))⟩,⟨(below_set HB.out HG.out)⟩⟩
  rw [if_neg c7] at H;have d7:(kd == 7)=false:=bE c7;by_cases c6:kd=6
  ·rw [if_pos c6] at H;subst c6;have H':=am H;clear H;go_wp2
   go_meet
   case rel=>exact ⟨false,false,false,false,false,rfl,H',⟨HBX.out⟩,⟨HB.out⟩⟩
  rw [if_neg c6] at H;have d6:(kd == 6)=false:=bE c6;obtain rfl:=oI H;go_wp2;go_ret;exact ⟨rfl,HB.out⟩
 case rest=>
  obtain ⟨nv,nb,ne,nd,no,rfl,HA,HX,HW⟩:=hcut;have k1:=dD HW.out hg1;have k2:=dD HW.out hg2;have k3:=dD HW.out hg3;have k4:=dD HW.out hg4;have k5:=dD HW.out hg5;have k6:=dD HW.out hg6;have k7:=dD HW.out hg7;have y0:wc.cell? ⟨gb,0,none⟩=some (.bool nv):=aG HX.out 0;have y1:wc.cell? ⟨gb,1,none⟩=some (.bool nb):=aG HX.out 1;have y2:wc.cell? ⟨gb,2,none⟩=some (.bool ne):=aG HX.out 2;have y3:wc.cell? ⟨gb,3,none⟩=some (.bool nd):=aG HX.out 3;have y4:wc.cell? ⟨gb,4,none⟩=some (.bool no):=aG HX.out 4;clear k0 z0 z1 z2 z3 z4 f0 f1 f2 f3 f4 HBX HB hg0 hg1 hg2 hg3 hg4 hg5 hg6 hg7 HH;go_upto_region 18 with fail;(try simp only [Act.put,sA,sB,sC])
  go_cut [69] from 37 (fun j6 wc_=>∃ (x:Bool),j6= .bool x∧Aside0 (∃ m,wc_=wc.drewN m)∧Aside0 (if x=true then r=false else (if ne=true then ((iO.f k op n la).bind fun t=>if t=true then some ((nd || lb == 0) && (no || le == 0)) else some false) else (if op=0 then (if n=0 then (if 0 < (la.length:Int) then some false else some ((nd || lb == 0) && (no || le == 0))) else some false) else some false))=some r))
  case first=>
   have H:=HA.out;clear HA;unfold mO at H;by_cases i1:inr va 4 nv=true
   ·rw [if_pos i1] at H;by_cases i2:inr bx boxes nb=true
    ·rw [if_pos i2] at H;have I1:=am i1;have I2:=am i2;clear i1 i2;by_cases i3:nb=true∧boxes≤bx
     ·rw [if_pos i3] at H;obtain ⟨i4,i5⟩:=i3;subst i4;have i6:=eq_true i5;have H':=am (oI H);clear H i5
      go_big_quiet (first|(with_reducible refine Calls.quiet_of ((pQ _ I1.out).mono (fun e w' hq=>⟨hq.1,hq.2.out⟩)))|(with_reducible refine Calls.quiet_of ((pQ _ I2.out).mono (fun e w' hq=>⟨hq.1,hq.2.out⟩))))
      go_wp2
      go_meet
      case rel=>exact ⟨true,rfl,⟨_,rfl⟩,⟨by rw [if_pos rfl];exact H'.out.symm⟩⟩
     rw [if_neg i3] at H;have H':=am H;clear H;cases nb with
     |false=>
      clear i3
      go_big_quiet (first|(with_reducible refine Calls.quiet_of ((pQ _ I1.out).mono (fun e w' hq=>⟨hq.1,hq.2.out⟩)))|(with_reducible refine Calls.quiet_of ((pQ _ I2.out).mono (fun e w' hq=>⟨hq.1,hq.2.out⟩))))
      go_wp2
      go_meet
      case rel=>exact ⟨false,rfl,⟨_,rfl⟩,⟨by rw [if_neg (by decide)];exact H'.out⟩⟩
     |true=>
      have i5:¬ boxes≤bx:=fun h=>i3 ⟨rfl,h⟩
      have i6:=eq_false i5;clear i3 i5
      go_big_quiet (first|(with_reducible refine Calls.quiet_of ((pQ _ I1.out).mono (fun e w' hq=>⟨hq.1,hq.2.out⟩)))|(with_reducible refine Calls.quiet_of ((pQ _ I2.out).mono (fun e w' hq=>⟨hq.1,hq.2.out⟩))))
      go_wp2
      go_meet
      case rel=>exact ⟨false,rfl,⟨_,rfl⟩,⟨by rw [if_neg (by decide)];exact H'.out⟩⟩
    rw [if_neg i2] at H;have I1:=am i1;have I2:=am (Bool.eq_false_iff.mpr i2);clear i1 i2;have H':=am (oI H);clear H
    go_big_quiet (first|(with_reducible refine Calls.quiet_of ((pQ _ I1.out).mono (fun e w' hq=>⟨hq.1,hq.2.out⟩)))|(with_reducible refine Calls.quiet_of ((pQ _ I2.out).mono (fun e w' hq=>⟨hq.1,hq.2.out⟩))))
    go_wp2
    go_meet
    case rel=>exact ⟨true,rfl,⟨_,rfl⟩,⟨by rw [if_pos rfl];exact H'.out.symm⟩⟩
   rw [if_neg i1] at H;have I1:=am (Bool.eq_false_iff.mpr i1);clear i1;have H':=am (oI H);clear H
   go_big_quiet (first|(with_reducible refine Calls.quiet_of ((pQ _ I1.out).mono (fun e w' hq=>⟨hq.1,hq.2.out⟩))))
   go_wp2
   go_meet
   case rel=>exact ⟨true,rfl,⟨_,rfl⟩,⟨by rw [if_pos rfl];exact H'.out.symm⟩⟩
  case rest=>
   clear HA;obtain ⟨x,rfl,⟨m,rfl⟩,HA⟩:=hcut;cases x with
   |true=>
    have HA':=HA.out;rw [if_pos rfl] at HA';subst HA';clear HA;go_wp2;go_ret;exact ⟨rfl,aU HW.out _⟩
   |false=>
    have H:=HA.out;rw [if_neg (by decide)] at H;clear HA;go_upto_region 20 with fail;(try simp only [Act.put,sA,sB,sC])
    go_cut [109] from 70 (fun j7 wd=>∃ (x:Bool),j7= .bool x∧Aside0 (Below w.heap.size w wd)∧Aside0 (Below wc.heap.size wc wd)∧Aside0 (if x=true then r=false else ((nd || lb == 0) && (no || le == 0))=r))
    case first=>
     cases ne with
     |true=>
      rw [if_pos rfl] at H;obtain ⟨t,ht,H⟩:=bsm H;have HE:=am ht;have j5:=am (Kd.aX HR.out HW.out);clear ht;cases t with
      |true=>
       rw [if_pos rfl] at H;have H':=am (oI H);clear H;go_wp2_with (first|((with_reducible refine (iO.calls k op n Aa ca la _ _ ?side1 HC.out HE.out).mono ?_);(case side1=>repeat (first|exact j5.out|(with_reducible refine Kd.kZ ?_ _)|(with_reducible refine Kd.mP ?_)));rintro e wq ⟨rfl,hb⟩;have y2q:wq.cell? ⟨gb,2,none⟩=some (.bool true):=dD (w:=wc.drewN m) hb y2;have HBE:=am (show Below wc.heap.size wc wq from (aU (Below.refl _ _) m).trans hb);clear hb;(try dsimp only))|fail)
       go_meet
       case rel=>exact ⟨false,rfl,⟨aA HW.out HBE.out⟩,⟨HBE.out⟩,⟨by rw [if_neg (by decide)];exact H'.out⟩⟩
      |false=>
       rw [if_neg (by decide)] at H;have H':=am (oI H);clear H;go_wp2_with (first|((with_reducible refine (iO.calls k op n Aa ca la _ _ ?side1 HC.out HE.out).mono ?_);(case side1=>repeat (first|exact j5.out|(with_reducible refine Kd.kZ ?_ _)|(with_reducible refine Kd.mP ?_)));rintro e wq ⟨rfl,hb⟩;have y2q:wq.cell? ⟨gb,2,none⟩=some (.bool true):=dD (w:=wc.drewN m) hb y2;have HBE:=am (show Below wc.heap.size wc wq from (aU (Below.refl _ _) m).trans hb);clear hb;(try dsimp only))|fail)
       go_meet
       case rel=>exact ⟨true,rfl,⟨aA HW.out HBE.out⟩,⟨HBE.out⟩,⟨by rw [if_pos rfl];exact H'.out.symm⟩⟩
     |false=>
      rw [if_neg (by decide)] at H;by_cases j0:op=0
      ·rw [if_pos j0] at H;by_cases j1:n=0
       ·rw [if_pos j1] at H;subst j0;subst j1;by_cases j2:0 < (la.length:Int)
        ·rw [if_pos j2] at H;have H':=am (oI H);clear H;have j3:=eq_true j2;have j4:(0 < la.length)=True:=eq_true (by omega);clear j2;go_wp2
         go_meet
         case rel=>exact ⟨true,sd_,⟨aU HW.out _⟩,⟨aU (Below.refl _ _) _⟩,⟨by rw [if_pos rfl];exact H'.out.symm⟩⟩
        rw [if_neg j2] at H;have H':=am (oI H);clear H;have j3:=eq_false j2;have j4:(0 < la.length)=False:=eq_false (by omega);clear j2;go_wp2
        go_meet
        case rel=>exact ⟨false,sd_,⟨aU HW.out _⟩,⟨aU (Below.refl _ _) _⟩,⟨by rw [if_neg (by decide)];exact H'.out⟩⟩
       rw [if_neg j1] at H;have H':=am (oI H);clear H;subst j0;have j2:(n != 0)=true:=bne_iff_ne.mpr j1;clear j1;go_wp2
       go_meet
       case rel=>exact ⟨true,sd_,⟨aU HW.out _⟩,⟨aU (Below.refl _ _) _⟩,⟨by rw [if_pos rfl];exact H'.out.symm⟩⟩
      rw [if_neg j0] at H;have H':=am (oI H);clear H;have j2:(op != 0)=true:=bne_iff_ne.mpr j0;clear j0;go_wp2
      go_meet
      case rel=>exact ⟨true,sd_,⟨aU HW.out _⟩,⟨aU (Below.refl _ _) _⟩,⟨by rw [if_pos rfl];exact H'.out.symm⟩⟩
    case rest=>
     clear H;obtain ⟨x,rfl,HW2,HW3,HA⟩:=hcut;cases x with
     |true=>
      have HA':=HA.out;rw [if_pos rfl] at HA';subst HA';clear HA;go_wp2;go_ret;exact ⟨rfl,HW2.out⟩
     |false=>
      have H:=HA.out;rw [if_neg (by decide)] at H;subst H;have k6':=dD HW3.out k6;have k7':=dD HW3.out k7;have y3':=dD HW3.out y3;have y4':=dD HW3.out y4;clear HA k1 k2 k3 k4 k5 k6 k7 y0 y1 y2 y3 y4;by_cases q6:lb=0
      ·have p6:((lb:Int) == 0)=true:=by rw [q6];rfl
       by_cases q7:le=0
       ·have p7:((le:Int) == 0)=true:=by rw [q7];rfl
        have Q6:=am q6;have Q7:=am q7;clear q6 q7;cases nd <;> cases no <;> (go_wp2;go_ret;exact ⟨by simp [Q6.out,Q7.out],HW2.out⟩)
       have p7:((le:Int) == 0)=false:=bE (by omega);have Q6:=am q6;have Q7:=am q7;clear q6 q7;cases nd <;> cases no <;> (go_wp2;go_ret;exact ⟨by simp [Q6.out,Q7.out],HW2.out⟩)
      have p6:((lb:Int) == 0)=false:=bE (by omega);have Q6:=am q6;clear q6;cases nd with
      |false=>
       go_wp2;go_ret;exact ⟨by simp [Q6.out],HW2.out⟩
      |true=>
       by_cases q7:le=0
       ·have p7:((le:Int) == 0)=true:=by rw [q7];rfl
        have Q7:=am q7;clear q7;cases no <;> (go_wp2;go_ret;exact ⟨by simp [p7,Q7.out],HW2.out⟩)
       have p7:((le:Int) == 0)=false:=bE (by omega);have Q7:=am q7;clear q7;cases no <;> (go_wp2;go_ret;exact ⟨by simp [p7,Q7.out],HW2.out⟩)
theorem cZ.mono_l:∀ k,(∀ y0 y1 y2 y3,LeO (cZ.f k y0 y1 y2 y3) (cZ.f (k + 1) y0 y1 y2 y3))∧(∀ y0 y1 y2 y3 y4,LeO (cZ.l0 k y0 y1 y2 y3 y4) (cZ.l0 (k + 1) y0 y1 y2 y3 y4))
 |0=>⟨fun _ _ _ _ r h=>by simp [cZ.f] at h,fun _ _ _ _ _ r h=>by simp [cZ.l0] at h⟩
 |k + 1=>by
  obtain ⟨ih0,ih1⟩:=cZ.mono_l k;refine ⟨?_,?_⟩
  ·intro y0 y1 y2 y3;unfold cZ.f;have m0:=@fU.mono;exact mo_
  ·intro y0 y1 y2 y3 y4;unfold cZ.l0;have m0:=@fU.mono;exact mo_
theorem cZ.mono:∀ a0 a1 a2 a3 k,LeO (cZ.f k a0 a1 a2 a3) (cZ.f (k + 1) a0 a1 a2 a3):=by
 intro a0 a1 a2 a3 k;obtain ⟨ih0,ih1⟩:=cZ.mono_l k;exact ih0 a0 a1 a2 a3
theorem aHr {w:World} {ok:Nat→Prop} {A:Option Addr} {n:Nat} {xs:List S58} (h:Kd.F k58 w ok A n xs) (i:Int) (h0:0≤i) (h1:i < n):
  ∃ ad A5 c5 A6 c6 A7 c7,A=some ad∧w.cell? (ad.add (i.toNat * 8))=some (.int .i64 (aM xs i).f0)∧w.cell? ⟨(ad.add (i.toNat * 8)).block,(ad.add (i.toNat * 8)).off + 1,none⟩=some (.int .i64 (aM xs i).f1)∧w.cell? ⟨(ad.add (i.toNat * 8)).block,(ad.add (i.toNat * 8)).off + 2,none⟩=some (.int .i64 (aM xs i).f2)∧w.cell? ⟨(ad.add (i.toNat * 8)).block,(ad.add (i.toNat * 8)).off + 3,none⟩=some (.int .i64 (aM xs i).f3.f0)∧w.cell? ⟨(ad.add (i.toNat * 8)).block,(ad.add (i.toNat * 8)).off + 4,none⟩=some (.int .i64 (aM xs i).f3.f1)∧w.cell? ⟨(ad.add (i.toNat * 8)).block,(ad.add (i.toNat * 8)).off + 5,none⟩=some (.slice A5 (aM xs i).f3.f2.length c5)∧w.cell? ⟨(ad.add (i.toNat * 8)).block,(ad.add (i.toNat * 8)).off + 6,none⟩=some (.slice A6 (aM xs i).f4.length c6)∧w.cell? ⟨(ad.add (i.toNat * 8)).block,(ad.add (i.toNat * 8)).off + 7,none⟩=some (.slice A7 (aM xs i).f5.length c7)∧(aM xs i).f3.f2.length≤c5∧Kd.F k56 w ok A5 (aM xs i).f3.f2.length (aM xs i).f3.f2∧(aM xs i).f4.length≤c6∧Kd.F k58 w ok A6 (aM xs i).f4.length (aM xs i).f4∧(aM xs i).f5.length≤c7∧Kd.F k58 w ok A7 (aM xs i).f5.length (aM xs i).f5:=by
 obtain ⟨ad,c,e,_,hK,hc0,_⟩:=Kd.aEq h z58 i h0 h1;have hc:∀ j u,c[j]?=some u→w.cell? (ad.add (i.toNat * 8 + j))=some u:=hc0;obtain ⟨A5,c5,A6,c6,A7,c7,rfl,l5,g5,l6,g6,l7,g7⟩:=aDy hK;exact ⟨ad,A5,c5,A6,c6,A7,c7,e,hc 0 _ rfl,by rw [← lK _ _ 1 (by omega)];exact hc 1 _ rfl,by rw [← lK _ _ 2 (by omega)];exact hc 2 _ rfl,by rw [← lK _ _ 3 (by omega)];exact hc 3 _ rfl,by rw [← lK _ _ 4 (by omega)];exact hc 4 _ rfl,by rw [← lK _ _ 5 (by omega)];exact hc 5 _ rfl,by rw [← lK _ _ 6 (by omega)];exact hc 6 _ rfl,by rw [← lK _ _ 7 (by omega)];exact hc 7 _ rfl,l5,g5,l6,g6,l7,g7⟩
theorem FR {w w1:World} {g:Nat} {a:Addr} {v:Value} (hk:aD w w1 g none) (h:w.cell? a=some v) (hne:a.block≠g):w1.cell? a=some v:=
 (World.cell?_of_block (w:=w) (hk.2 a.block (World.block_lt_of_cell? w a h) hne (by simp))).trans h
theorem cZ.callsP (k:Nat):∀ (A:Option Addr) (c:Nat) (l:List S58) (boxes blocks cnt:Int) (gc B:Nat) (ok:Nat→Prop) (r:Bool) (cnt':Int) (w:World)
  (hF:Kd.F k58 w ok A l.length l) (hc:l.length≤c) (hno:¬ ok gc) (hB:B≤gc) (hb:w.heap[gc]?=some (.cells #[.int .i64 cnt] 3 (0,0))) (h:cZ.f k l boxes blocks cnt=some (r,cnt')),
  Calls Tryz.prog 63 #[.slice A l.length c,.int .i64 boxes,.int .i64 blocks,.pointer (some ⟨gc,0,none⟩)] w fun e w'=>e= .returned (.bool r)∧w'.heap[gc]?=some (.cells #[.int .i64 cnt'] 3 (0,0))∧aD w w' gc none∧Below B w w':=by
 induction k using Nat.strongRecOn with
 | _ k ih=>
 intro A c l boxes blocks cnt gc B ok r cnt' w hF hc hno hB hb h;cases k with
 |zero=>exact absurd h (by simp [cZ.f])
 |succ k=>
 simp only [cZ.f] at h;have HF:=am hF;have HC:=am hc;have HNO:=am hno;have HGB:=am hB;have HBX:=am hb;have z0:w.cell? ⟨gc,0,none⟩=some (.int .i64 cnt):=aG hb 0;have f0:=aZ hb 0;have j4:=am (aV (cs':=#[.int .i64 (wrap64 (cnt + (l.length:Int)))]) hb 0 (.int .i64 (wrap64 (cnt + (l.length:Int)))) rfl);have j5:=am (aD.BL (aD.refl w gc none) 0 (.int .i64 (wrap64 (cnt + (l.length:Int)))));have HW1:=am (Below.setCell (p:=⟨gc,0,none⟩) (Below.refl B w) hB (.int .i64 (wrap64 (cnt + (l.length:Int)))));clear hF hc hno hb hB;by_cases c0:16 < wrap64 (cnt + (l.length:Int))
 ·rw [if_pos c0] at h;have h1:=oI h;injection h1 with h1 h2;subst h1;subst h2;have j6:decide (16 < wrap64 (cnt + (l.length:Int)))=true:=dT c0;clear h;go_enter Tryz.func63,Tryz.ntmps63;go_wp2;go_ret;exact ⟨rfl,j4.out,j5.out,HW1.out⟩
 rw [if_neg c0] at h;have j6:decide (16 < wrap64 (cnt + (l.length:Int)))=false:=dF c0;have H':=am h;clear h;go_enter Tryz.func63,Tryz.ntmps63;go_wp2
 go_loopg [24] k (fun kq j7 w'=>∃ (i cq:Int),j7= .int .i64 i∧Aside0 (cZ.l0 kq l boxes blocks i cq=some (r,cnt'))∧Aside0 (kq≤k)∧Aside0 (w'.heap[gc]?=some (.cells #[.int .i64 cq] 3 (0,0)))∧Aside0 (aD w w' gc none)∧Aside0 (Below B w w'))
 case atStart=>exact ⟨0,_,rfl,H',⟨Nat.le_refl _⟩,j4,j5,HW1⟩
 case round=>
  obtain ⟨i,cq,rfl,HA,HK,HBQ,HKQ,HWQ⟩:=hrel;cases gk with
  |zero=>exact absurd HA.out (by simp [cZ.l0])
  |succ k1=>
   have H:=HA.out;clear HA;simp only [cZ.l0] at H;by_cases c1:i < (l.length:Int)
   ·rw [if_pos c1] at H;by_cases c2:0≤i
    ·rw [if_pos c2] at H;obtain ⟨t,ht,H⟩:=bsm H;have hF':=Kd.LU HF.out (fun q hq hlt=>HKQ.out.2 q hlt (fun e=>HNO.out (e ▸ hq)) (by simp));obtain ⟨ad,A5,c5,A6,c6,A7,c7,rfl,x0,x1,x2,x3,x4,x5,x6,x7,l5,g5,l6,g6,l7,g7⟩:=aHr hF' i c2 c1;obtain ⟨ad_,cs_,e_,_,_,_,okad⟩:=Kd.aEq hF' z58 i c2 c1;cases e_;have NE7:=am (show (ad.add (i.toNat * 8)).block≠gc from fun e=>HNO.out (e ▸ (add_block ad _).symm ▸ okad (by decide)));clear okad;have HT:=am ht;have j8:decide (i < (l.length:Int))=true:=dT c1;have p0:=eq_true c2;have p1:=eq_true c1;have G5:=am (Kd.aCe g5);have L5:=am l5;have G6:=am g6;have L6:=am l6;have G7:=am g7;have L7:=am l7;clear ht hF' g5 l5 g6 l6 g7 l7 c1 c2 z0 f0;cases t with
     |false=>
      rw [if_neg (by decide)] at H;have h1:=oI H;injection h1 with h1 h2;subst h1;subst h2;clear H;go_wp2_with (first|((with_reducible refine (fU.callsP k1 (ad.add (i.toNat * 8)) _ _ _ _ _ A5 c5 _ A6 _ c6 A7 _ c7 _ _ _ x0 x1 x2 x3 x4 x5 x6 x7 G5.out L5.out HT.out).mono ?_);rintro e wa ⟨rfl,hb⟩;have y0:=dD hb x0;have y6:=dD hb x6;have y7:=dD hb x7;have BXA:=am (eP HBQ.out hb);have KA:=am (aD.trans HKQ.out (aD.of_below hb gc none) (.inl rfl));have WA:=am (HWQ.out.trans (hb.mono (Nat.le_of_lt (Nat.lt_of_le_of_lt HGB.out (kF HBQ.out)))));have G6A:=am (Kd.mQ G6.out hb);have G7A:=am (Kd.mQ G7.out hb);clear hb;(try dsimp only)));go_ret;exact ⟨rfl,BXA.out,KA.out,WA.out⟩
     |true=>
      rw [if_pos rfl] at H;by_cases c3:3 < blocks
      ·rw [if_pos c3] at H;have j9:decide (3 < blocks)=true:=dT c3;have h1:=oI H;injection h1 with h1 h2;subst h1;subst h2;clear H;go_wp2_with (first|((with_reducible refine (fU.callsP k1 (ad.add (i.toNat * 8)) _ _ _ _ _ A5 c5 _ A6 _ c6 A7 _ c7 _ _ _ x0 x1 x2 x3 x4 x5 x6 x7 G5.out L5.out HT.out).mono ?_);rintro e wa ⟨rfl,hb⟩;have y0:=dD hb x0;have y6:=dD hb x6;have y7:=dD hb x7;have BXA:=am (eP HBQ.out hb);have KA:=am (aD.trans HKQ.out (aD.of_below hb gc none) (.inl rfl));have WA:=am (HWQ.out.trans (hb.mono (Nat.le_of_lt (Nat.lt_of_le_of_lt HGB.out (kF HBQ.out)))));have G6A:=am (Kd.mQ G6.out hb);have G7A:=am (Kd.mQ G7.out hb);clear hb;(try dsimp only)));go_ret;exact ⟨rfl,BXA.out,KA.out,WA.out⟩
      rw [if_neg c3] at H;have j9:decide (3 < blocks)=false:=dF c3;by_cases c4:(aM l i).f0=2∨(aM l i).f0=3
      ·rw [if_pos c4] at H;by_cases j3:3≤blocks
       ·rw [if_pos j3] at H;have ja:decide (3≤blocks)=true:=dT j3;clear c3 j3;have h1:=oI H;injection h1 with h1 h2;subst h1;subst h2;clear H;rcases c4 with c4|c4;case' inl=>
         have d2:((aM l i).f0 != 2)=false:=bF c4;clear c4
        case' inr=>
         have d2:((aM l i).f0 != 2)=true:=bne_iff_ne.mpr (by omega);have d3:((aM l i).f0 != 3)=false:=bF c4;clear c4
        all_goals
         go_wp2_with (first|((with_reducible refine (fU.callsP k1 (ad.add (i.toNat * 8)) _ _ _ _ _ A5 c5 _ A6 _ c6 A7 _ c7 _ _ _ x0 x1 x2 x3 x4 x5 x6 x7 G5.out L5.out HT.out).mono ?_);rintro e wa ⟨rfl,hb⟩;have y0:=dD hb x0;have y6:=dD hb x6;have y7:=dD hb x7;have BXA:=am (eP HBQ.out hb);have KA:=am (aD.trans HKQ.out (aD.of_below hb gc none) (.inl rfl));have WA:=am (HWQ.out.trans (hb.mono (Nat.le_of_lt (Nat.lt_of_le_of_lt HGB.out (kF HBQ.out)))));have G6A:=am (Kd.mQ G6.out hb);have G7A:=am (Kd.mQ G7.out hb);clear hb;(try dsimp only)));go_ret;exact ⟨rfl,BXA.out,KA.out,WA.out⟩
       rw [if_neg j3] at H;have ja:decide (3≤blocks)=false:=dF j3;clear c3 j3;obtain ⟨⟨r1,jc⟩,hp,H⟩:=bsm H;have HP:=am hp;clear hp;cases r1 with
       |false=>
        rw [if_neg Bool.false_ne_true] at H;have h1:=oI H;injection h1 with h1 h2;subst h1;subst h2;clear H;rcases c4 with c4|c4;case' inl=>
         have d2:((aM l i).f0 != 2)=false:=bF c4;clear c4
        case' inr=>
         have d2:((aM l i).f0 != 2)=true:=bne_iff_ne.mpr (by omega);have d3:((aM l i).f0 != 3)=false:=bF c4;clear c4
        all_goals
         go_wp2_with (first|((with_reducible refine (fU.callsP k1 (ad.add (i.toNat * 8)) _ _ _ _ _ A5 c5 _ A6 _ c6 A7 _ c7 _ _ _ x0 x1 x2 x3 x4 x5 x6 x7 G5.out L5.out HT.out).mono ?_);rintro e wa ⟨rfl,hb⟩;have y0:=dD hb x0;have y6:=dD hb x6;have y7:=dD hb x7;have BXA:=am (eP HBQ.out hb);have KA:=am (aD.trans HKQ.out (aD.of_below hb gc none) (.inl rfl));have WA:=am (HWQ.out.trans (hb.mono (Nat.le_of_lt (Nat.lt_of_le_of_lt HGB.out (kF HBQ.out)))));have G6A:=am (Kd.mQ G6.out hb);have G7A:=am (Kd.mQ G7.out hb);clear hb;(try dsimp only))|((with_reducible refine (ih k1 (by have:=HK.out;omega) A6 c6 _ boxes (wrap64 (blocks + 1)) cq gc B ok _ _ _ G6A.out L6.out HNO.out HGB.out BXA.out HP.out).mono ?_);rintro e wb ⟨rfl,hx,hk,hw⟩;have ne7:=am hk;have u7:=FR hk y7 NE7.out;have G7B:=am (Kd.LU G7A.out (fun q hq hlt=>hk.2 q hlt (fun e=>HNO.out (e ▸ hq)) (by simp)));have BXB:=am hx;have KB:=am (aD.trans KA.out hk (.inl rfl));have WB:=am (WA.out.trans hw);clear hx hk hw;(try dsimp only)));go_ret;exact ⟨rfl,BXB.out,KB.out,WB.out⟩
       |true=>
        rw [if_pos rfl] at H;obtain ⟨⟨r2,jb⟩,hq,H⟩:=bsm H;have HQ:=am hq;clear hq;cases r2 with
        |false=>
         rw [if_neg Bool.false_ne_true] at H;have h1:=oI H;injection h1 with h1 h2;subst h1;subst h2;clear H;rcases c4 with c4|c4;case' inl=>
          have d2:((aM l i).f0 != 2)=false:=bF c4;clear c4
         case' inr=>
          have d2:((aM l i).f0 != 2)=true:=bne_iff_ne.mpr (by omega);have d3:((aM l i).f0 != 3)=false:=bF c4;clear c4
         all_goals
          go_wp2_with (first|((with_reducible refine (fU.callsP k1 (ad.add (i.toNat * 8)) _ _ _ _ _ A5 c5 _ A6 _ c6 A7 _ c7 _ _ _ x0 x1 x2 x3 x4 x5 x6 x7 G5.out L5.out HT.out).mono ?_);rintro e wa ⟨rfl,hb⟩;have y0:=dD hb x0;have y6:=dD hb x6;have y7:=dD hb x7;have BXA:=am (eP HBQ.out hb);have KA:=am (aD.trans HKQ.out (aD.of_below hb gc none) (.inl rfl));have WA:=am (HWQ.out.trans (hb.mono (Nat.le_of_lt (Nat.lt_of_le_of_lt HGB.out (kF HBQ.out)))));have G6A:=am (Kd.mQ G6.out hb);have G7A:=am (Kd.mQ G7.out hb);clear hb;(try dsimp only))|((with_reducible refine (ih k1 (by have:=HK.out;omega) A6 c6 _ boxes (wrap64 (blocks + 1)) cq gc B ok _ _ _ G6A.out L6.out HNO.out HGB.out BXA.out HP.out).mono ?_);rintro e wb ⟨rfl,hx,hk,hw⟩;have ne7:=am hk;have u7:=FR hk y7 NE7.out;have G7B:=am (Kd.LU G7A.out (fun q hq hlt=>hk.2 q hlt (fun e=>HNO.out (e ▸ hq)) (by simp)));have BXB:=am hx;have KB:=am (aD.trans KA.out hk (.inl rfl));have WB:=am (WA.out.trans hw);clear hx hk hw;(try dsimp only))|((with_reducible refine (ih k1 (by have:=HK.out;omega) A7 c7 _ boxes (wrap64 (blocks + 1)) _ gc B ok _ _ _ G7B.out L7.out HNO.out HGB.out BXB.out HQ.out).mono ?_);rintro e wd ⟨rfl,hx,hk,hw⟩;have BXD:=am hx;have KD:=am (aD.trans KB.out hk (.inl rfl));have WD:=am (WB.out.trans hw);clear hx hk hw;(try dsimp only)));go_ret;exact ⟨rfl,BXD.out,KD.out,WD.out⟩
        |true=>
         rw [if_pos rfl] at H;have H':=am H;clear H;rcases c4 with c4|c4;case' inl=>
          have d2:((aM l i).f0 != 2)=false:=bF c4;clear c4
         case' inr=>
          have d2:((aM l i).f0 != 2)=true:=bne_iff_ne.mpr (by omega);have d3:((aM l i).f0 != 3)=false:=bF c4;clear c4
         all_goals
          go_wp2_with (first|((with_reducible refine (fU.callsP k1 (ad.add (i.toNat * 8)) _ _ _ _ _ A5 c5 _ A6 _ c6 A7 _ c7 _ _ _ x0 x1 x2 x3 x4 x5 x6 x7 G5.out L5.out HT.out).mono ?_);rintro e wa ⟨rfl,hb⟩;have y0:=dD hb x0;have y6:=dD hb x6;have y7:=dD hb x7;have BXA:=am (eP HBQ.out hb);have KA:=am (aD.trans HKQ.out (aD.of_below hb gc none) (.inl rfl));have WA:=am (HWQ.out.trans (hb.mono (Nat.le_of_lt (Nat.lt_of_le_of_lt HGB.out (kF HBQ.out)))));have G6A:=am (Kd.mQ G6.out hb);have G7A:=am (Kd.mQ G7.out hb);clear hb;(try dsimp only))|((with_reducible refine (ih k1 (by have:=HK.out;omega) A6 c6 _ boxes (wrap64 (blocks + 1)) cq gc B ok _ _ _ G6A.out L6.out HNO.out HGB.out BXA.out HP.out).mono ?_);rintro e wb ⟨rfl,hx,hk,hw⟩;have ne7:=am hk;have u7:=FR hk y7 NE7.out;have G7B:=am (Kd.LU G7A.out (fun q hq hlt=>hk.2 q hlt (fun e=>HNO.out (e ▸ hq)) (by simp)));have BXB:=am hx;have KB:=am (aD.trans KA.out hk (.inl rfl));have WB:=am (WA.out.trans hw);clear hx hk hw;(try dsimp only))|((with_reducible refine (ih k1 (by have:=HK.out;omega) A7 c7 _ boxes (wrap64 (blocks + 1)) _ gc B ok _ _ _ G7B.out L7.out HNO.out HGB.out BXB.out HQ.out).mono ?_);rintro e wd ⟨rfl,hx,hk,hw⟩;have BXD:=am hx;have KD:=am (aD.trans KB.out hk (.inl rfl));have WD:=am (WB.out.trans hw);clear hx hk hw;(try dsimp only)));go_roundg k1;case measure=>have:=HK.out;omega
          case rel=>exact ⟨wrap64 (i + 1),jb,sd_,H',⟨by have:=HK.out;omega⟩,BXD,KD,WD⟩
      rw [if_neg c4] at H;have d2:((aM l i).f0 != 2)=true:=bne_iff_ne.mpr (fun e=>c4 (.inl e));have d3:((aM l i).f0 != 3)=true:=bne_iff_ne.mpr (fun e=>c4 (.inr e));have H':=am H;clear H c3 c4;go_wp2_with (first|((with_reducible refine (fU.callsP k1 (ad.add (i.toNat * 8)) _ _ _ _ _ A5 c5 _ A6 _ c6 A7 _ c7 _ _ _ x0 x1 x2 x3 x4 x5 x6 x7 G5.out L5.out HT.out).mono ?_);rintro e wa ⟨rfl,hb⟩;have y0:=dD hb x0;have y6:=dD hb x6;have y7:=dD hb x7;have BXA:=am (eP HBQ.out hb);have KA:=am (aD.trans HKQ.out (aD.of_below hb gc none) (.inl rfl));have WA:=am (HWQ.out.trans (hb.mono (Nat.le_of_lt (Nat.lt_of_le_of_lt HGB.out (kF HBQ.out)))));have G6A:=am (Kd.mQ G6.out hb);have G7A:=am (Kd.mQ G7.out hb);clear hb;(try dsimp only)));go_roundg k1;case measure=>have:=HK.out;omega
      case rel=>exact ⟨wrap64 (i + 1),cq,sd_,H',⟨by have:=HK.out;omega⟩,BXA,KA,WA⟩
    rw [if_neg c2] at H;cases H
   rw [if_neg c1] at H;have j8:decide (i < (l.length:Int))=false:=dF c1;have h1:=oI H;injection h1 with h1 h2;subst h1;subst h2;clear H;go_wp2;go_ret;exact ⟨rfl,HBQ.out,HKQ.out,HWQ.out⟩
theorem gL.mono:∀ l0 a1 k,LeO (gL.f k l0 a1) (gL.f (k + 1) l0 a1):=by
 intro l0 a1 k;unfold gL.f;exact LeO.bind (cZ.mono _ _ _ _ _) (fun _=>LeO.refl _)
theorem gL.calls (k:Nat) (A0:Option Addr) (c0:Nat) (l0:List (S58)) (a1:Int) (r:Bool) (w:World) (hr0:Kd.C k58 w A0 l0.length l0) (hc0:l0.length≤c0) (h:gL.f k l0 a1=some r):
  Calls Tryz.prog 40 #[.slice A0 l0.length c0,.int .i64 a1] w fun e w'=>e= .returned (.bool r)∧Below w.heap.size w w':=by
 unfold gL.f at h;replace h:=Option.bind_eq_some_iff.mp h;obtain ⟨⟨r',cnt'⟩,hv,h⟩:=h;obtain rfl:=oI h;have HV:=am hv;have HF:=am (Kd.C_F WG hr0);have j3:=am hc0;clear hr0 hc0 h hv;go_enter Tryz.func40,Tryz.ntmps40;go_upto_region 2 with (first|((with_reducible refine gD 5 rfl ?_);refine dU (N:=5) rfl rfl (cs:=#[.int .i64 0]) (t:=3) rn_ ?_;intro gb hg w1 hbox hb;have z0:w1.cell? ⟨gb,0,none⟩=some (.int .i64 0):=aG hbox 0;have f0:=aZ hbox 0;have HG:=am (Nat.le_of_eq hg.symm);have HBX:=am (aV (cs':=#[.int .i64 0]) hbox 0 (.int .i64 0) rfl);have HB:=am (below_set (j:=0) (v:=.int .i64 0) hb (Nat.le_of_eq hg.symm));clear hbox hb hg)|fail);go_wp2_with (first|((with_reducible refine (cZ.callsP k A0 c0 l0 a1 0 0 _ w.heap.size (fun q=>q < w.heap.size) r' cnt' _ (Kd.mQ HF.out HB.out) j3.out (Nat.not_lt.mpr HG.out) HG.out HBX.out HV.out).mono ?_);rintro e w2 ⟨rfl,_,_,hw⟩;have HW:=am (HB.out.trans hw);clear hw;(try dsimp only))|fail);go_ret;exact ⟨rfl,HW.out⟩
theorem bE.mono_l:∀ k,(∀ y0 y1 y2,LeO (bE.j0 k y0 y1 y2) (bE.j0 (k + 1) y0 y1 y2))∧(∀ y0 y1 y2 y3 y4,LeO (bE.l0 k y0 y1 y2 y3 y4) (bE.l0 (k + 1) y0 y1 y2 y3 y4))
 |0=>⟨fun _ _ _ r h=>by simp [bE.j0] at h,fun _ _ _ _ _ r h=>by simp [bE.l0] at h⟩
 |k + 1=>by
  obtain ⟨ih0,ih1⟩:=bE.mono_l k;refine ⟨?_,?_⟩
  ·intro y0 y1 y2;unfold bE.j0;have m0:=@dH.mono;have m1:=@gL.mono;exact mo_
  ·intro y0 y1 y2 y3 y4;unfold bE.l0;have m0:=@dH.mono;have m1:=@gL.mono;exact mo_
theorem bE.mono:∀ a0 a1 k,LeO (bE.f k a0 a1) (bE.f (k + 1) a0 a1):=by
 intro a0 a1 k;obtain ⟨ih0,ih1⟩:=bE.mono_l k;unfold bE.f;have m0:=@dH.mono;have m1:=@gL.mono;exact mo_
theorem bE.calls (k:Nat) (j8:Option Addr) (j9:Nat) (j5:List Int) (jd:Option Addr) (je:Nat) (j4:List (List (S58))) (r:Bool) (w:World) (hr0_0:Kd.C (Kd.int .i64) w j8 j5.length j5) (hc0_0:j5.length≤j9) (hr0_1:Kd.C (Kd.slice 58 k58) w jd j4.length j4) (hc0_1:j4.length≤je) (h:bE.f k j5 j4=some r):
  Calls Tryz.prog 19 #[.agg #[.slice j8 j5.length j9,.slice jd j4.length je]] w fun e w'=>e= .returned (.bool r)∧Below w.heap.size w w':=by
 have hu26:=Tryz.underlying26;have jf:=am hr0_0;have jg:=am hc0_0;clear hr0_0 hc0_0;have jp:=am hr0_1;have jV:=am hc0_1;clear hr0_1 hc0_1;have HB:=am (Below.refl w.heap.size w);unfold bE.f at h;have H:=h;clear h;have jF:=am H;clear H;go_enter Tryz.func19,Tryz.ntmps19;go_upto_region 1 with (first|((with_reducible refine gD 1 rfl ?_);(try (refine nH (by rfl) ?_;dsimp only));refine dU rfl (N:=1) rfl (cs:=#[.slice j8 j5.length j9,.slice jd j4.length je]) (t:=26) rn_ ?_;intro jk hg w3 hbox hb;have j6:=am (hbox);have q2:=am ((by rw [hg];exact (aI eG):w.heap.size≤jk));have GE22:=am ((by rw [hg];exact (aI eG):w.heap.size≤jk));replace HB:=am (aA eG hb);clear hb hbox hg));(try simp only [Act.put,sA,sB,sC])
 go_cut [20] (fun q3 wc=>∃ (kq:Nat) (jc:Bool),q3= .bool jc∧Aside0 (bE.j0 kq jc j5 j4=some r)∧Aside0 (kq≤k)∧Aside0 (wc.heap[jk]?=some (.cells #[(.slice j8 j5.length j9),(.slice jd j4.length je)] 26 (0,0)))∧Aside0 (Below w.heap.size w wc))
 case first=>
  have H:=jF.out;clear jF;obtain ⟨q4,A4,H⟩:=bsa H;(try dsimp only at H);by_cases c5:q4=true
  ·subst c5;rw [if_pos rfl] at H;by_cases c6:(j4.length:Int) < 1
   ·rw [if_pos c6] at H;have jh:decide ((j4.length:Int) < 1)=true:=dT c6;have jG:decide (j4.length < 1)=true:=dT (by omega);clear c6
    (first|rw [jh]|(simp only [fA,fE];rw [jh])|skip)
    have H':=am H;clear H;obtain ⟨jH,jI,jJ,jK⟩:=iV j6.out;go_wp2_with (first|((with_reducible refine gC 39 rfl ?_);refine gl_ 7 Tryz.func39 #[.slice j8 j5.length j9] ?_;(with_reducible refine (dH.calls k _ _ j5 true _ (aC_ (Kd.aX jf.out HB.out)) jg.out A4.out).mono ?_);rintro e w' ⟨rfl,⟨nd,rfl⟩⟩;refine ⟨_,rfl,?_⟩))
    go_meet
    case rel=>exact ⟨_,(true),sd_,H',⟨by first|omega|exact Nat.le_refl _⟩,⟨by (with_reducible repeat (first|refine dW ?_ _|refine dA ?_|refine dS ?_ _));exact j6.out⟩,⟨wD⟩⟩
   rw [if_neg c6] at H;have jh:decide ((j4.length:Int) < 1)=false:=dF c6;have jG:decide (j4.length < 1)=false:=dF (by omega);clear c6
   (first|rw [jh]|(simp only [fA,fE];rw [jh])|skip)
   have H':=am H;clear H;obtain ⟨jL,jM,jN,jO⟩:=iV j6.out;go_wp2_with (first|((with_reducible refine gC 39 rfl ?_);refine gl_ 7 Tryz.func39 #[.slice j8 j5.length j9] ?_;(with_reducible refine (dH.calls k _ _ j5 true _ (aC_ (Kd.aX jf.out HB.out)) jg.out A4.out).mono ?_);rintro e w' ⟨rfl,⟨nd,rfl⟩⟩;refine ⟨_,rfl,?_⟩))
   go_meet
   case rel=>exact ⟨_,(decide ((j4.length:Int) > 3)),sd_,H',⟨by first|omega|exact Nat.le_refl _⟩,⟨by (with_reducible repeat (first|refine dW ?_ _|refine dA ?_|refine dS ?_ _));exact j6.out⟩,⟨wD⟩⟩
  replace c5:=Bool.eq_false_iff.mpr c5;subst c5;rw [if_neg Bool.false_ne_true] at H;have H':=am H;clear H;obtain ⟨jP,jQ,jR,jS⟩:=iV j6.out;go_wp2_with (first|((with_reducible refine gC 39 rfl ?_);refine gl_ 7 Tryz.func39 #[.slice j8 j5.length j9] ?_;(with_reducible refine (dH.calls k _ _ j5 false _ (aC_ (Kd.aX jf.out HB.out)) jg.out A4.out).mono ?_);rintro e w' ⟨rfl,⟨nd,rfl⟩⟩;refine ⟨_,rfl,?_⟩))
  go_meet
  case rel=>exact ⟨_,(true),sd_,H',⟨by first|omega|exact Nat.le_refl _⟩,⟨by (with_reducible repeat (first|refine dW ?_ _|refine dA ?_|refine dS ?_ _));exact j6.out⟩,⟨wD⟩⟩
 case rest=>
  clear jF;obtain ⟨kq,jc,rfl,HA,HJ1,j6,HB⟩:=hcut;cases kq with
  |zero=>exact absurd HA.out (by simp [bE.j0])
  |succ jW=>
   have H:=HA.out;clear HA;simp only [bE.j0] at H;by_cases c10:jc=true
   ·subst c10;rw [if_pos rfl] at H;obtain rfl:=oI H;go_wp2;go_ret;exact ⟨rr_,wD⟩
   replace c10:=Bool.eq_false_iff.mpr c10;subst c10;rw [if_neg Bool.false_ne_true] at H;have H':=am H;clear H;obtain ⟨jl,jm,jn,jo⟩:=iV j6.out;go_wp2
   go_loopg [24] jW (fun kq q5 w'=>∃ (j3:Int),q5= .int .i64 j3∧Aside0 (bE.l0 kq j4 (j4.length:Int) j3 j5 j4=some r)∧Aside0 (kq≤jW)∧Aside0 (w'.heap[jk]?=some (.cells #[(.slice j8 j5.length j9),(.slice jd j4.length je)] 26 (0,0)))∧Aside0 (Below w.heap.size w w'))
   case atStart=>exact ⟨(0),sd_,H',⟨Nat.le_refl _⟩,⟨by (with_reducible repeat (first|refine dW ?_ _|refine dA ?_|refine dS ?_ _));exact j6.out⟩,⟨wD⟩⟩
   case round=>
    clear H';try clear c10
    try clear jl
    try clear jm
    try clear jn
    try clear jo
    obtain ⟨j3,rfl,HA,jX,j6,HB⟩:=hrel;cases gk with
    |zero=>exact absurd HA.out (by simp [bE.l0])
    |succ k2=>
     have H:=HA.out;clear HA;simp only [bE.l0] at H;by_cases js:j3 < (j4.length:Int)
     ·rw [if_pos js] at H;have jt:decide (j3 < (j4.length:Int))=true:=dT js;clear js;by_cases ju:0≤j3
      ·rw [if_pos ju] at H;have jY:decide (0≤j3)=true:=dT ju;clear ju;by_cases jv:j3 < (j4.length:Int)
       ·rw [if_pos jv] at H;have jZ:decide (j3 < (j4.length:Int))=true:=dT jv;clear jv;obtain ⟨q6,q0,H⟩:=bsm H;(try dsimp only at H);have q1:=am q0;clear q0;by_cases jw:q6=true
        ·subst jw;rw [if_pos rfl] at H;have H':=am H;clear H;have jq:0≤(j3:Int):=of_decide_eq_true fK;have jr:j3 < (j4.length:Int):=of_decide_eq_true fK;obtain ⟨jT,ji,jj,jU,j7,hl27_0,hi27_0⟩:=wT jp.out j3 jq jr;cases jU;replace j7:=bcT HB.out j7;have ja:=am hi27_0;have jb:=am hl27_0;clear hi27_0 hl27_0;replace jq:=eq_true jq;replace jr:=eq_true jr;obtain ⟨jx,jy,jz,jA⟩:=iV j6.out;go_wp2_with (first|((with_reducible refine gC 40 rfl ?_);refine gl_ 32 Tryz.func40 #[.slice ji (gB j4 j3).length jj,.int .i64 (j5.length:Int)] ?_;(with_reducible refine (gL.calls k2 _ _ (gB j4 j3) (j5.length:Int) true _ (aC_ (Kd.aX ja.out HB.out)) jb.out q1.out).mono ?_);rintro e q7 ⟨rfl,hb⟩;refine ⟨_,rfl,?_⟩;replace j6:=bbP j6 hb;replace HB:=am (aA wD hb);(try clear hb)));go_roundg k2;case measure=>have:=HJ1.out;have:=jX.out;omega
         case rel=>exact ⟨(wrap64 (j3 + 1)),sd_,H',⟨by have:=HJ1.out;have:=jX.out;omega⟩,⟨by (with_reducible repeat (first|refine dW ?_ _|refine dA ?_|refine dS ?_ _));exact j6.out⟩,⟨wD⟩⟩
        replace jw:=Bool.eq_false_iff.mpr jw;subst jw;rw [if_neg Bool.false_ne_true] at H;obtain rfl:=oI H;have jq:0≤(j3:Int):=of_decide_eq_true fK;have jr:j3 < (j4.length:Int):=of_decide_eq_true fK;obtain ⟨jT,ji,jj,jU,j7,hl27_0,hi27_0⟩:=wT jp.out j3 jq jr;cases jU;replace j7:=bcT HB.out j7;have ja:=am hi27_0;have jb:=am hl27_0;clear hi27_0 hl27_0;replace jq:=eq_true jq;replace jr:=eq_true jr;obtain ⟨jB,jC,jD,jE⟩:=iV j6.out;go_wp2_with (first|((with_reducible refine gC 40 rfl ?_);refine gl_ 32 Tryz.func40 #[.slice ji (gB j4 j3).length jj,.int .i64 (j5.length:Int)] ?_;(with_reducible refine (gL.calls k2 _ _ (gB j4 j3) (j5.length:Int) false _ (aC_ (Kd.aX ja.out HB.out)) jb.out q1.out).mono ?_);rintro e q8 ⟨rfl,hb⟩;refine ⟨_,rfl,?_⟩;replace j6:=bbP j6 hb;replace HB:=am (aA wD hb);(try clear hb)));go_ret;exact ⟨rr_,wD⟩
       rw [if_neg jv] at H;cases H
      rw [if_neg ju] at H;cases H
     rw [if_neg js] at H;have jt:decide (j3 < (j4.length:Int))=false:=dF js;clear js;obtain rfl:=oI H;go_wp2;go_ret;exact ⟨rr_,wD⟩
theorem iC.calls (a0:Int) (r:ByteArray) (w:World) (ht_:Tab w) (h:iC.f a0=some r):
  Calls Tryz.prog 20 #[.int .i64 a0] w fun e w'=>e= .returned (.string r)∧Below w.heap.size w w':=by
 unfold iC.f at h;by_cases h1:0≤a0;case neg=>rw [if_neg h1] at h;cases h
 rw [if_pos h1] at h;by_cases h2:a0≤9223372036854775807;case neg=>rw [if_neg h2] at h;cases h
 rw [if_pos h2] at h;obtain rfl:=oI h;refine (Tryz.strconv_Itoa a0 (by omega) h2 w ht_.pow).mono ?_;rintro e w' ⟨rfl,k,os,rfl⟩;exact ⟨rfl,Lib.below_grow _ _ (Nat.le_refl _) _ _⟩
theorem dK.mono_l:∀ k,(∀ y0 y1,LeO (dK.j0 k y0 y1) (dK.j0 (k + 1) y0 y1))∧(∀ y0 y1,LeO (dK.j1 k y0 y1) (dK.j1 (k + 1) y0 y1))
 |0=>⟨fun _ _ r h=>by simp [dK.j0] at h,fun _ _ r h=>by simp [dK.j1] at h⟩
 |k + 1=>by
  obtain ⟨ih0,ih1⟩:=dK.mono_l k;refine ⟨?_,?_⟩
  ·intro y0 y1;unfold dK.j0;exact mo_
  ·intro y0 y1;unfold dK.j1;exact mo_
theorem dK.mono:∀ a0 k,LeO (dK.f k a0) (dK.f (k + 1) a0):=by
 intro a0 k;obtain ⟨ih0,ih1⟩:=dK.mono_l k;unfold dK.f;exact mo_
theorem dK.calls (k:Nat) (a0:Int) (r:Int) (w:World) (h:dK.f k a0=some r):
  Calls Tryz.prog 88 #[.int .i64 a0] w fun e w'=>e= .returned (.int .i64 r)∧gX w w':=by
 unfold dK.f at h;have H:=h;clear h;by_cases c2:a0=1
 ·rw [if_pos c2] at H;have j7:(a0 == 1)=true:=beq_iff_eq.mpr c2;have j8:(a0 != 1)=false:=bF c2;clear c2;obtain rfl:=oI H;go_enter Tryz.func88,Tryz.ntmps88;go_wp2;go_ret;exact ⟨sd_,fG⟩
 rw [if_neg c2] at H;have j7:(a0 == 1)=false:=bE c2;have j8:(a0 != 1)=true:=bne_iff_ne.mpr c2;by_cases c3:a0=2
 ·rw [if_pos c3] at H;have j9:(a0 == 2)=true:=beq_iff_eq.mpr c3;have ja:(a0 != 2)=false:=bF c3;clear c3;obtain rfl:=oI H;go_enter Tryz.func88,Tryz.ntmps88;go_wp2;go_ret;exact ⟨sd_,fG⟩
 rw [if_neg c3] at H;have j9:(a0 == 2)=false:=bE c3;have ja:(a0 != 2)=true:=bne_iff_ne.mpr c3;by_cases c4:a0=3
 ·rw [if_pos c4] at H;have jb:(a0 == 3)=true:=beq_iff_eq.mpr c4;have jc:(a0 != 3)=false:=bF c4;clear c4;obtain rfl:=oI H;go_enter Tryz.func88,Tryz.ntmps88;go_wp2;go_ret;exact ⟨sd_,fG⟩
 rw [if_neg c4] at H;have jb:(a0 == 3)=false:=bE c4;have jc:(a0 != 3)=true:=bne_iff_ne.mpr c4;by_cases c5:a0=4
 ·rw [if_pos c5] at H;have jd:(a0 == 4)=true:=beq_iff_eq.mpr c5;have je:(a0 != 4)=false:=bF c5;clear c5;obtain rfl:=oI H;go_enter Tryz.func88,Tryz.ntmps88;go_wp2;go_ret;exact ⟨sd_,fG⟩
 rw [if_neg c5] at H;have jd:(a0 == 4)=false:=bE c5;have je:(a0 != 4)=true:=bne_iff_ne.mpr c5;by_cases c6:a0=5
 ·rw [if_pos c6] at H;have jf:(a0 == 5)=true:=beq_iff_eq.mpr c6;have jg:(a0 != 5)=false:=bF c6;clear c6;obtain rfl:=oI H;go_enter Tryz.func88,Tryz.ntmps88;go_wp2;go_ret;exact ⟨sd_,fG⟩
 rw [if_neg c6] at H;have jf:(a0 == 5)=false:=bE c6;have jg:(a0 != 5)=true:=bne_iff_ne.mpr c6;have ju:=am H;clear H;go_enter Tryz.func88,Tryz.ntmps88
 go_upto_if 14 with (fail)
 go_cut [14] (fun jw wc=>∃ (kq:Nat) (j4:Bool),jw= .bool j4∧Aside0 (dK.j0 kq a0 j4=some r)∧Aside0 (kq≤k)∧gX w wc)
 case first=>
  have H:=ju.out;clear ju;by_cases c8:a0=6
  ·rw [if_pos c8] at H;have j6:(a0 == 6)=true:=beq_iff_eq.mpr c8;have jv:(a0 != 6)=false:=bF c8;clear c8
   (first|rw [j6]|(simp only [fA,fE];rw [j6])|skip)
   have H':=am H;clear H;go_wp2
   go_meet
   case rel=>exact ⟨_,((a0 == 6)),sd_,H',⟨by first|omega|exact Nat.le_refl _⟩,fG⟩
  rw [if_neg c8] at H;have j6:(a0 == 6)=false:=bE c8;have jv:(a0 != 6)=true:=bne_iff_ne.mpr c8
  (first|rw [j6]|(simp only [fA,fE];rw [j6])|skip)
  have H':=am H;clear H;go_wp2
  go_meet
  case rel=>exact ⟨_,((a0 == 7)),sd_,H',⟨by first|omega|exact Nat.le_refl _⟩,fG⟩
 case rest=>
  clear ju;try clear c2
  try clear j7
  try clear j8
  try clear c3
  try clear j9
  try clear ja
  try clear c4
  try clear jb
  try clear jc
  try clear c5
  try clear jd
  try clear je
  try clear c6
  try clear jf
  try clear jg
  obtain ⟨kq,j4,rfl,HA,HJ6,⟨mc6,rfl⟩⟩:=hcut;cases kq with
  |zero=>exact absurd HA.out (by simp [dK.j0])
  |succ jx=>
   have H:=HA.out;clear HA;simp only [dK.j0] at H;by_cases c9:j4=true
   ·subst c9;rw [if_pos rfl] at H;obtain rfl:=oI H;go_wp2;go_ret;exact ⟨sd_,fG⟩
   replace c9:=Bool.eq_false_iff.mpr c9;subst c9;rw [if_neg Bool.false_ne_true] at H;have jh:=am H;clear H
   go_upto_if 17 with (fail)
   go_cut [17] (fun jy wc=>∃ (kq:Nat) (j5:Bool),jy= .bool j5∧Aside0 (dK.j1 kq a0 j5=some r)∧Aside0 (kq≤jx)∧gX w wc)
   case first=>
    have H:=jh.out;clear jh;by_cases ji:a0=8
    ·rw [if_pos ji] at H;have j3:(a0 == 8)=true:=beq_iff_eq.mpr ji;have jm:(a0 != 8)=false:=bF ji;clear ji
     (first|rw [j3]|(simp only [fA,fE];rw [j3])|skip)
     have H':=am H;clear H;go_wp2
     go_meet
     case rel=>exact ⟨_,((a0 == 8)),sd_,H',⟨by have:=HJ6.out;first|omega|exact Nat.le_refl _⟩,fG⟩
    rw [if_neg ji] at H;have j3:(a0 == 8)=false:=bE ji;have jm:(a0 != 8)=true:=bne_iff_ne.mpr ji
    (first|rw [j3]|(simp only [fA,fE];rw [j3])|skip)
    have H':=am H;clear H;go_wp2
    go_meet
    case rel=>exact ⟨_,((a0 == 9)),sd_,H',⟨by have:=HJ6.out;first|omega|exact Nat.le_refl _⟩,fG⟩
   case rest=>
    clear jh;try clear c2
    try clear j7
    try clear j8
    try clear c3
    try clear j9
    try clear ja
    try clear c4
    try clear jb
    try clear jc
    try clear c5
    try clear jd
    try clear je
    try clear c6
    try clear jf
    try clear jg
    try clear c9
    obtain ⟨kq,j5,rfl,HA,HJ9,⟨mc9,rfl⟩⟩:=hcut;cases kq with
    |zero=>exact absurd HA.out (by simp [dK.j1])
    |succ jz=>
     have H:=HA.out;clear HA;simp only [dK.j1] at H;by_cases jt:j5=true
     ·subst jt;rw [if_pos rfl] at H;obtain rfl:=oI H;go_wp2;go_ret;exact ⟨sd_,fG⟩
     replace jt:=Bool.eq_false_iff.mpr jt;subst jt;rw [if_neg Bool.false_ne_true] at H;by_cases jj:a0=10
     ·rw [if_pos jj] at H;have jn:(a0 == 10)=true:=beq_iff_eq.mpr jj;have jo:(a0 != 10)=false:=bF jj;clear jj;obtain rfl:=oI H;go_wp2;go_ret;exact ⟨sd_,fG⟩
     rw [if_neg jj] at H;have jn:(a0 == 10)=false:=bE jj;have jo:(a0 != 10)=true:=bne_iff_ne.mpr jj;by_cases jk:a0=11
     ·rw [if_pos jk] at H;have jp:(a0 == 11)=true:=beq_iff_eq.mpr jk;have jq:(a0 != 11)=false:=bF jk;clear jk;obtain rfl:=oI H;go_wp2;go_ret;exact ⟨sd_,fG⟩
     rw [if_neg jk] at H;have jp:(a0 == 11)=false:=bE jk;have jq:(a0 != 11)=true:=bne_iff_ne.mpr jk;by_cases jl:a0=12
     ·rw [if_pos jl] at H;have jr:(a0 == 12)=true:=beq_iff_eq.mpr jl;have js:(a0 != 12)=false:=bF jl;clear jl;obtain rfl:=oI H;go_wp2;go_ret;exact ⟨sd_,fG⟩
     rw [if_neg jl] at H;have jr:(a0 == 12)=false:=bE jl;have js:(a0 != 12)=true:=bne_iff_ne.mpr jl;obtain rfl:=oI H;go_wp2;go_ret;exact ⟨sd_,fG⟩
theorem bD.mono_all:∀ k,(∀ y0 y1 y2 y3 y4,LeO (bD.f k y0 y1 y2 y3 y4) (bD.f (k + 1) y0 y1 y2 y3 y4))∧(∀ y0 y1 y2 y3 y4,LeO (bD.j0 k y0 y1 y2 y3 y4) (bD.j0 (k + 1) y0 y1 y2 y3 y4))∧(∀ y0 y1 y2 y3,LeO (bH.f k y0 y1 y2 y3) (bH.f (k + 1) y0 y1 y2 y3))
 |0=>⟨fun _ _ _ _ _ r h=>by simp [bD.f] at h,fun _ _ _ _ _ r h=>by simp [bD.j0] at h,fun _ _ _ _ r h=>by simp [bH.f] at h⟩
 |k + 1=>by
  obtain ⟨ih0,ih1,ih2⟩:=bD.mono_all k;refine ⟨?_,?_,?_⟩
  ·intro y0 y1 y2 y3 y4;unfold bD.f;have m0:=@dK.mono;exact mo_
  ·intro y0 y1 y2 y3 y4;unfold bD.j0;have m0:=@dK.mono;exact mo_
  ·intro y0 y1 y2 y3;unfold bH.f;have m0:=@dK.mono;exact mo_
theorem bD.mono:∀ a0 a1 a2 a3 a4 k,LeO (bD.f k a0 a1 a2 a3 a4) (bD.f (k + 1) a0 a1 a2 a3 a4):=by
 intro a0 a1 a2 a3 a4 k;obtain ⟨ih0,ih1,ih2⟩:=bD.mono_all k;exact ih0 a0 a1 a2 a3 a4
theorem bH.mono:∀ a0 a1 a2 a3 k,LeO (bH.f k a0 a1 a2 a3) (bH.f (k + 1) a0 a1 a2 a3):=by
 intro a0 a1 a2 a3 k;obtain ⟨ih0,ih1,ih2⟩:=bD.mono_all k;exact ih2 a0 a1 a2 a3
abbrev bD.dJ (k:Nat):Prop:=∀ (a0_0:Int) (a0_1:Int) (A0_2:Option Addr) (c0_2:Nat) (l0_2:List (S56)) (a1:Int) (P2_:Nat→Prop) (u20_:Value) (l2:List ByteArray) (r:List ByteArray) (w0 w:World) (hB:Below w0.heap.size w0 w) (hr0_2:∀ W_,Kept w W_ (fun k_=>P2_ k_)→Kd.C k56 W_ A0_2 l0_2.length l0_2) (hc0_2:l0_2.length≤c0_2) (ho2:Kd.R Kd.string 9 w w0.heap.size P2_ u20_ l2) (ht_:Tab w0) (h:bD.f k a0_0 a0_1 l0_2 a1 l2=some r),
  Calls Tryz.prog 89 #[.agg #[.int .i64 a0_0,.int .i64 a0_1,.slice A0_2 l0_2.length c0_2],.int .i64 a1,u20_] w fun e w'=>∃ v0_:Value,e= .returned (v0_)∧Kd.R Kd.string 9 w' w0.heap.size (fun k_=>(P2_ k_∨w.heap.size≤k_)) v0_ r∧Below w0.heap.size w0 w'∧Kept w w' (fun k_=>P2_ k_)
abbrev bH.dJ (k:Nat):Prop:=∀ (a0_0:Int) (a0_1:Int) (A0_2:Option Addr) (c0_2:Nat) (l0_2:List (S56)) (P1_:Nat→Prop) (u20_:Value) (l1:List ByteArray) (r:List ByteArray) (w0 w:World) (hB:Below w0.heap.size w0 w) (hr0_2:∀ W_,Kept w W_ (fun k_=>P1_ k_)→Kd.C k56 W_ A0_2 l0_2.length l0_2) (hc0_2:l0_2.length≤c0_2) (ho1:Kd.R Kd.string 9 w w0.heap.size P1_ u20_ l1) (ht_:Tab w0) (h:bH.f k a0_0 a0_1 l0_2 l1=some r),
  Calls Tryz.prog 65 #[.agg #[.int .i64 a0_0,.int .i64 a0_1,.slice A0_2 l0_2.length c0_2],u20_] w fun e w'=>∃ v0_:Value,e= .returned (v0_)∧Kd.R Kd.string 9 w' w0.heap.size (fun k_=>(P1_ k_∨w.heap.size≤k_)) v0_ r∧Below w0.heap.size w0 w'∧Kept w w' (fun k_=>P1_ k_)
theorem aT.mono_all:∀ k,(∀ y0 y1 y2 y3 y4 y5 y6 y7 y8,LeO (aT.f k y0 y1 y2 y3 y4 y5 y6 y7 y8) (aT.f (k + 1) y0 y1 y2 y3 y4 y5 y6 y7 y8))∧(∀ y0 y1,LeO (bB.f k y0 y1) (bB.f (k + 1) y0 y1))∧(∀ y0 y1 y2 y3,LeO (bB.l0 k y0 y1 y2 y3) (bB.l0 (k + 1) y0 y1 y2 y3))
 |0=>⟨fun _ _ _ _ _ _ _ _ _ r h=>by simp [aT.f] at h,fun _ _ r h=>by simp [bB.f] at h,fun _ _ _ _ r h=>by simp [bB.l0] at h⟩
 |k + 1=>by
  obtain ⟨ih0,ih1,ih2⟩:=aT.mono_all k;refine ⟨?_,?_,?_⟩
  ·intro y0 y1 y2 y3 y4 y5 y6 y7 y8;unfold aT.f;have m0:=@bH.mono;exact mo_
  ·intro y0 y1;unfold bB.f;have m0:=@bH.mono;exact mo_
  ·intro y0 y1 y2 y3;unfold bB.l0;have m0:=@bH.mono;exact mo_
theorem aT.mono:∀ a0 a1 a2 a3 a4 a5 a6 a7 a8 k,LeO (aT.f k a0 a1 a2 a3 a4 a5 a6 a7 a8) (aT.f (k + 1) a0 a1 a2 a3 a4 a5 a6 a7 a8):=by
 intro a0 a1 a2 a3 a4 a5 a6 a7 a8 k;obtain ⟨ih0,ih1,ih2⟩:=aT.mono_all k;exact ih0 a0 a1 a2 a3 a4 a5 a6 a7 a8
theorem bB.mono:∀ a0 a1 k,LeO (bB.f k a0 a1) (bB.f (k + 1) a0 a1):=by
 intro a0 a1 k;obtain ⟨ih0,ih1,ih2⟩:=aT.mono_all k;exact ih1 a0 a1
abbrev aT.dJ (k:Nat):Prop:=∀ (a0_0:Int) (a0_1:Int) (a0_2:Int) (a0_3:Int) (a0_4:Int) (A0_5:Option Addr) (c0_5:Nat) (l0_5:List (S56)) (A0_6:Option Addr) (c0_6:Nat) (l0_6:List (S58)) (A0_7:Option Addr) (c0_7:Nat) (l0_7:List (S58)) (P1_:Nat→Prop) (u20_:Value) (l1:List ByteArray) (r:List ByteArray) (w0 w:World) (hB:Below w0.heap.size w0 w) (hr0_5:∀ W_,Kept w W_ (fun k_=>P1_ k_)→Kd.C k56 W_ A0_5 l0_5.length l0_5) (hc0_5:l0_5.length≤c0_5) (hr0_6:∀ W_,Kept w W_ (fun k_=>P1_ k_)→Kd.C k58 W_ A0_6 l0_6.length l0_6) (hc0_6:l0_6.length≤c0_6) (hr0_7:∀ W_,Kept w W_ (fun k_=>P1_ k_)→Kd.C k58 W_ A0_7 l0_7.length l0_7) (hc0_7:l0_7.length≤c0_7) (ho1:Kd.R Kd.string 9 w w0.heap.size P1_ u20_ l1) (ht_:Tab w0) (h:aT.f k a0_0 a0_1 a0_2 a0_3 a0_4 l0_5 l0_6 l0_7 l1=some r),
  Calls Tryz.prog 42 #[.agg #[.int .i64 a0_0,.int .i64 a0_1,.int .i64 a0_2,.int .i64 a0_3,.int .i64 a0_4,.slice A0_5 l0_5.length c0_5,.slice A0_6 l0_6.length c0_6,.slice A0_7 l0_7.length c0_7],u20_] w fun e w'=>∃ v0_:Value,e= .returned (v0_)∧Kd.R Kd.string 9 w' w0.heap.size (fun k_=>(P1_ k_∨w.heap.size≤k_)) v0_ r∧Below w0.heap.size w0 w'∧Kept w w' (fun k_=>P1_ k_)
abbrev bB.dJ (k:Nat):Prop:=∀ (A0:Option Addr) (c0:Nat) (l0:List (S58)) (P1_:Nat→Prop) (u20_:Value) (l1:List ByteArray) (r:List ByteArray) (w0 w:World) (hB:Below w0.heap.size w0 w) (hr0:∀ W_,Kept w W_ (fun k_=>P1_ k_)→Kd.C k58 W_ A0 l0.length l0) (hc0:l0.length≤c0) (ho1:Kd.R Kd.string 9 w w0.heap.size P1_ u20_ l1) (ht_:Tab w0) (h:bB.f k l0 l1=some r),
  Calls Tryz.prog 21 #[.slice A0 l0.length c0,u20_] w fun e w'=>∃ v0_:Value,e= .returned (v0_)∧Kd.R Kd.string 9 w' w0.heap.size (fun k_=>(P1_ k_∨w.heap.size≤k_)) v0_ r∧Below w0.heap.size w0 w'∧Kept w w' (fun k_=>P1_ k_)
theorem lH.calls (a0:Int) (r:ByteArray) (w:World) (h:lH.f a0=some r):
  Calls Tryz.prog 66 #[.int .i64 a0] w fun e w'=>e= .returned (.string r)∧gX w w':=by
 unfold lH.f at h;by_cases h1:0≤a0∧a0≤3;case neg=>rw [if_neg h1] at h;cases h
 rw [if_pos h1] at h;obtain rfl:=oI h;have h4:a0=0∨a0=1∨a0=2∨a0=3:=by omega
 clear h1;rcases h4 with rfl|rfl|rfl|rfl;all_goals
  go_enter Tryz.func66,Tryz.ntmps66;go_wp2;go_ret;exact ⟨rfl,gX.refl _⟩
theorem bD.step (k:Nat) (ih_impl_operandTokens:∀ m,m < k→bD.dJ m) (ih_impl_exprTokens:∀ m,m < k→bH.dJ m):bD.dJ k:=by
 intro j4 j6 j9 ja j7 a1 P2_ jg l2 r w0 w hB hr0_2 hc0_2 ho2 ht_ h;cases k with
 |zero=>exact absurd h (by simp [bD.f])
 |succ k=>
 simp only [bD.f] at h;have hu56:=Tryz.underlying56;have je:=am hr0_2;have jf:=am hc0_2;clear hr0_2 hc0_2;have jq:=am (show Kd.R Kd.string 9 w w0.heap.size (fun k_=>(P2_ k_∨w.heap.size≤k_)) jg l2 from Kd.bN ho2 (fun k_ hk=>(.inl hk)));have HK:=am (Kept.refl w (fun k_=>P2_ k_));have HW0:=am hB.size;have HB:=am hB;clear hB;have H:=h;clear h;have jG:=am H;clear H;go_enter Tryz.func89,Tryz.ntmps89;go_upto_region 1 with (first|((with_reducible refine gD 3 rfl ?_);refine dU rfl (N:=3) rfl (cs:=#[.int .i64 j4,.int .i64 j6,.slice j9 j7.length ja]) (t:=56) rn_ ?_;intro j8 hg w5 hbox hb;replace jq:=am (Kd.fT (aR_ jq.out) hb);have j3:=am (hbox);have GW33:=am ((by rw [hg];exact (by first|exact HK.out.1|exact (show Kept w _ (fun k_=>P2_ k_) from nO).1):w.heap.size≤j8));replace HK:=am (Kept.below (S:=(fun k_=>P2_ k_)) nO hb);have GE33:=am ((by rw [hg];exact (aI eG):w0.heap.size≤j8));replace HB:=am (aA eG hb);clear hb hbox hg));(try simp only [Act.put,sA,sB,sC])
 go_cut [17] (fun jW wc=>∃ (kq:Nat) (jc:Bool),jW= .bool jc∧Aside0 (bD.j0 kq l2 jc j4 j6 j7=some r)∧Aside0 (kq≤k)∧Aside0 (Kd.R Kd.string 9 wc w0.heap.size (fun k_=>(P2_ k_∨w.heap.size≤k_)) jg l2)∧Aside0 (wc.heap[j8]?=some (.cells #[.int .i64 j4,.int .i64 j6,(.slice j9 j7.length ja)] 56 (0,0)))∧Aside0 (Kept w wc (fun k_=>P2_ k_))∧Aside0 (Below w0.heap.size w0 wc))
 case first=>
  have H:=jG.out;clear jG;obtain ⟨jX,A6,H⟩:=bsa H;(try dsimp only at H);by_cases c7:jX=true
  ·subst c7;rw [if_pos rfl] at H;obtain ⟨jT,A8,H⟩:=bsa H;(try dsimp only at H);have H':=am H;clear H;obtain ⟨jH,jI,jJ,jK,jL,jM⟩:=mE j3.out;go_wp2_with (first|((with_reducible refine gC 115 rfl ?_);refine gl_ 9 Tryz.func115 #[.int .i64 j4] ?_;(with_reducible refine (iE.calls j4 true _ A6.out).mono ?_);rintro e w' ⟨rfl,⟨nd,rfl⟩⟩;refine ⟨_,rfl,?_⟩)|(go_at_call 88;(with_reducible refine (dK.calls k j4 jT _ A8.out).mono ?_);rintro e w' ⟨rfl,⟨nd,rfl⟩⟩))
   go_meet
   case rel=>exact ⟨_,(decide (jT≥a1)),sd_,H',⟨by first|omega|exact Nat.le_refl _⟩,⟨gI jq.out⟩,⟨by (with_reducible repeat (first|refine dW ?_ _|refine dA ?_|refine dS ?_ _));exact j3.out⟩,⟨wG⟩,⟨xW⟩⟩
  replace c7:=Bool.eq_false_iff.mpr c7;subst c7;rw [if_neg Bool.false_ne_true] at H;have H':=am H;clear H;obtain ⟨jr,js,jt,ju,jv,jw⟩:=mE j3.out;go_wp2_with (first|((with_reducible refine gC 115 rfl ?_);refine gl_ 9 Tryz.func115 #[.int .i64 j4] ?_;(with_reducible refine (iE.calls j4 false _ A6.out).mono ?_);rintro e w' ⟨rfl,⟨nd,rfl⟩⟩;refine ⟨_,rfl,?_⟩))
  go_meet
  case rel=>exact ⟨_,(true),sd_,H',⟨by first|omega|exact Nat.le_refl _⟩,⟨gI jq.out⟩,⟨by (with_reducible repeat (first|refine dW ?_ _|refine dA ?_|refine dS ?_ _));exact j3.out⟩,⟨wG⟩,⟨xW⟩⟩
 case rest=>
  clear jG;obtain ⟨kq,jc,rfl,HA,HJ3,j5,j3,HK,HB⟩:=hcut;cases kq with
  |zero=>exact absurd HA.out (by simp [bD.j0])
  |succ jN=>
   have H:=HA.out;clear HA;simp only [bD.j0] at H;by_cases jx:jc=true
   ·subst jx;rw [if_pos rfl] at H;obtain ⟨jY,jU,H⟩:=bsm H;(try dsimp only at H);have jZ:=am jU;clear jU;obtain rfl:=oI H;obtain ⟨jy,jz,jA,jB,jC,jD⟩:=mE j3.out;obtain ⟨jh,ji,jO⟩:=Kd.eY j5.out;subst jO;go_wp2_with (first|((with_reducible refine gC 65 rfl ?_);refine gl_ 20 Tryz.func65 #[.agg #[.int .i64 j4,.int .i64 j6,.slice j9 j7.length ja],.slice jh l2.length ji] ?_;(with_reducible refine (ih_impl_exprTokens jN (by have:=HJ3.out;omega) j4 j6 _ _ j7 (fun k_=>some k_=(.slice jh l2.length ji:Value).ownBlock) (.slice jh l2.length ji) l2 jY w0 _ ?side1 ?side2 jf.out ?side4 ?sideT jZ.out).mono ?_);(case sideT=>first|exact ht_|exact Tab.below ht_ HB.out|exact Tab.below ht_ xW);(case side1=>exact xW);(case side2=>exact Kd.iU je.out wG (fun k_ hs_=>(fun e_=>(j5.out.1 k_ e_.symm)) hs_));(case side4=>exact Kd.lT rfl j5.out);rintro e q3 ⟨q4,rfl,ho0,hb,hkp⟩;refine ⟨_,rfl,?_⟩;replace j3:=am (kS (aG_ j3.out) hkp (fun hs_=>(fun e_=>(Kd.lC j5.out j3.out (by decide)) e_) hs_));have jP:=am (Kd.bN (ok':=fun k_=>(P2_ k_∨w.heap.size≤k_)) ho0 (fun k_ hk_=>Or.elim hk_ (fun hs_=>(j5.out.1 k_ (hs_).symm)) (fun hn_=>(.inr (Nat.le_trans (by first|exact HK.out.1|exact (show Kept w _ (fun k_=>P2_ k_) from wG).1) hn_)))));replace HK:=am (Kept.then_ (S:=(fun k_=>P2_ k_)) wG hkp (fun k_ hs_=>(fun e_=>(j5.out.1 k_ e_.symm)) hs_));replace HB:=am (hb);clear j5;(try clear hb);(try clear hkp);(try clear ho0)));go_ret;exact ⟨_,gU,gI jP.out,xW,wG⟩
   replace jx:=Bool.eq_false_iff.mpr jx;subst jx;rw [if_neg Bool.false_ne_true] at H;by_cases jE:l2.length < 8796093022208
   ·rw [if_pos jE] at H;have jm:=am jE;clear jE;obtain ⟨jn,hy_⟩:∃ y_:List ByteArray,y_=(l2 ++ [(⟨#[40]⟩:ByteArray)]):=⟨_,rfl⟩;replace H:((bH.f jN j4 j6 j7 jn).bind fun jj=>(if jj.length < 8796093022208 then (some (jj ++ [(⟨#[41]⟩:ByteArray)])) else (none)))=some r:=rx_;have jQ:=am hy_;clear hy_;obtain ⟨jj,jV,H⟩:=bsm H;(try dsimp only at H);have q0:=am jV;clear jV;by_cases jF:jj.length < 8796093022208
    ·rw [if_pos jF] at H;have jo:=am jF;clear jF;obtain ⟨q1,hy_⟩:∃ y_:List ByteArray,y_=(jj ++ [(⟨#[41]⟩:ByteArray)]):=⟨_,rfl⟩;replace H:(some q1)=some r:=rx_;have jR:=am hy_;clear hy_;obtain rfl:=oI H;try go_wp2
     replace j5:=am (Kd.oJ j5.out);replace j3:=am (dA j3.out);replace HK:=am (Kept.drew HK.out);replace HB:=am (bI HB.out);refine lQ (n:=6) (S:=fun w'=>w'.cell? ⟨j8,0,none⟩=some (.int .i64 j4)∧w'.cell? ⟨j8,1,none⟩=some (.int .i64 j6)∧w'.cell? ⟨j8,2,none⟩=some (.slice j9 j7.length ja)) (ds:=[]) (bz 6 0) (by kernel_rfl) rfl rfl (NZ j3.out) (fun hHeld=>?_);generalize wc.drew=q5 at j5 j3 HK HB hHeld ⊢;refine uU (i:=1) (N:=some 22) (v:=?_) (a':=?_) (bz 6 2) rfl rfl (by kernel_rfl) (fun _ _ _ h=>h) (Or.inl ⟨by rfl,?_⟩) ?_ ?_;rotate_left
     ·intro w';go_simp
      with_reducible rfl
     rotate_left
     ·simp only [Act.put,sA,sB,sC,fA,fE];rfl
     refine vV (i:=0) (N:=some 21) (v:=?_) (a':=?_) (bz 6 3) rfl rfl (by kernel_rfl) (fun _ _ _ h=>h) (Or.inl ⟨by rfl,?_⟩) hHeld ?_ ?_;rotate_left
     ·rintro w' ⟨s0,s1,s2⟩;go_simp
      with_reducible rfl
     rotate_left
     ·simp only [Act.put,sA,sB,sC,fA,fE];rfl
     refine iJ (i:=2) (N:=some 23) (bz 6 7) rfl rfl (by kernel_rfl) (by decide) (fun K hK=>?_);refine sU (w1:=?_) (v:=?_) (by rfl) rfl ?_ ?_;rotate_left 2
     ·go_simp;constructor;·rfl
      ·rfl
     refine hK.out _ _ (NZ (dS j3.out _)) (fun hHeld=>?_);clear hK K;refine fC (a':=?_) ?_ ?_;rotate_left;·exact ap_ (N:=23)
     refine iJ (i:=3) (N:=some 24) (bz 6 15) rfl rfl (by kernel_rfl) (by decide) (fun K hK=>?_);refine Kd.lY Kd.string (w0:=w0) w0.heap.size (by rfl) (.tmp 22) (.tmp 23) 29 9 (.string ⟨#[]⟩) 16 rfl Tryz.underlying29 kU rfl (by decide) (by omega) jg l2 (⟨#[40]⟩:ByteArray) [.string (⟨#[40]⟩:ByteArray)] (fun k_=>(P2_ k_∨w.heap.size≤k_)) (fun _=>False) rfl rfl ?aP (fun _ hk=>hk.elim) ?aF ?aO ?aB ?aS ?aL ?_;(case aP=>exact rfl);(case aB=>exact xW);(case aF=>exact (fun k_ hk=>(.inr (Nat.le_trans (by first|exact HK.out.1|exact (show Kept w _ (fun k_=>P2_ k_) from wG).1) hk))));(case aO=>exact (aR_ j5.out));(case aS=>exact (aI xW));(case aL=>have:=jm.out;omega);intro q6 q7 ho hb hg hat
     rw [← jQ.out] at ho;replace j3:=am (dL (g:=j8) (o:=.cells #[.int .i64 j4,.int .i64 j6,.slice j9 j7.length ja] 56 (0,0)) (aG_ j3.out) hg (Kd.lC j5.out j3.out (by decide)));replace HB:=am (hb);replace HK:=am (Kept.gF (S:=(fun k_=>P2_ k_)) hg wG (fun k_ e_=>(j5.out.1 k_ e_)));have jb:=am (ho);clear j5;clear ho hb hg hat
     obtain ⟨jk,jl,jp⟩:=Kd.eY jb.out
     (first|subst jp|(injection jp with f1_ f2_ f3_;have f4_:=f1_.symm;have f5_:=f3_.symm;clear f1_ f2_ f3_;subst f4_;subst f5_))
     refine hK.out _ _ (NZ j3.out) (fun hHeld=>?_);clear hK K;refine fC (a':=?_) ?_ ?_;rotate_left;·exact ap_ (N:=24)
     refine iJ (i:=4) (N:=some 25) (bz 6 31) rfl rfl (by kernel_rfl) (by decide) (fun K hK=>?_);refine iI Tryz.func65 (by kernel_rfl) rfl #[.agg #[.int .i64 j4,.int .i64 j6,.slice j9 j7.length ja],.slice jk jn.length jl] (by rfl) rfl rfl nG ?_
     with_reducible refine (ih_impl_exprTokens jN (by have:=HJ3.out;omega) j4 j6 _ _ j7 (fun k_=>some k_=(.slice jk jn.length jl:Value).ownBlock) (.slice jk jn.length jl) jn jj w0 _ ?side1 ?side2 jf.out ?side4 ?sideT q0.out).mono ?_
     (case sideT=>first|exact ht_|exact Tab.below ht_ HB.out|exact Tab.below ht_ xW);(case side1=>exact xW);(case side2=>exact Kd.iU je.out wG (fun k_ hs_=>(fun e_=>(jb.out.1 k_ e_.symm)) hs_));(case side4=>exact Kd.lT rfl jb.out);rintro e q8 ⟨q2,rfl,ho0,hb,hkp⟩;refine ⟨_,rfl,?_⟩;replace j3:=am (kS (aG_ j3.out) hkp (fun hs_=>(fun e_=>(Kd.lC jb.out j3.out (by decide)) e_) hs_));have jd:=am (Kd.bN (ok':=fun k_=>(P2_ k_∨w.heap.size≤k_)) ho0 (fun k_ hk_=>Or.elim hk_ (fun hs_=>(jb.out.1 k_ (hs_).symm)) (fun hn_=>(.inr (Nat.le_trans (by first|exact HK.out.1|exact (show Kept w _ (fun k_=>P2_ k_) from wG).1) hn_)))));replace HK:=am (Kept.then_ (S:=(fun k_=>P2_ k_)) wG hkp (fun k_ hs_=>(fun e_=>(jb.out.1 k_ e_.symm)) hs_));replace HB:=am (hb);clear jb;(try clear hb);(try clear hkp);(try clear ho0);refine hK.out _ _ (NZ j3.out) (fun hHeld=>?_);clear hK K;refine fC (a':=?_) ?_ ?_;rotate_left;·exact ap_ (N:=25)
     refine uU (i:=5) (N:=some 2) (v:=?_) (a':=?_) (bz 6 63) rfl rfl (by kernel_rfl) (fun _ _ _ h=>h) (Or.inl ⟨by rfl,?_⟩) ?_ ?_;rotate_left
     ·intro w';go_simp
      with_reducible rfl
     rotate_left
     ·simp only [Act.put,sA,sB,sC,fA,fE];rfl
     refine nP (by kernel_rfl) ?_;try go_wp2_with (first|((with_reducible refine dV (b:=.append) (xs:=#[.tmp 26,.tmp 27]) rfl ?_);at_builtin;refine Kd.kQ Kd.string (w0:=w0) w0.heap.size rfl (.tmp 26) (.tmp 27) 29 9 (.string ⟨#[]⟩) 16 rfl Tryz.underlying29 kU rfl (by decide) (by omega) q2 jj (⟨#[41]⟩:ByteArray) [.string (⟨#[41]⟩:ByteArray)] (fun k_=>(P2_ k_∨w.heap.size≤k_)) (fun _=>False) rfl rfl ?aP (fun _ hk=>hk.elim) ?aF ?aO ?aB ?aS ?aL ?_;(case aP=>exact rfl);(case aB=>exact xW);(case aF=>exact (fun k_ hk=>(.inr (Nat.le_trans (by first|exact HK.out.1|exact (show Kept w _ (fun k_=>P2_ k_) from wG).1) hk))));(case aO=>exact (aR_ jd.out));(case aS=>exact (aI xW));(case aL=>have:=jo.out;omega);intro q9 qa ho hb hg hat;rw [← jR.out] at ho;replace j3:=am (dL (g:=j8) (o:=.cells #[.int .i64 j4,.int .i64 j6,.slice j9 j7.length ja] 56 (0,0)) (aG_ j3.out) hg (Kd.lC jd.out j3.out (by decide)));replace HB:=am (hb);replace HK:=am (Kept.gF (S:=(fun k_=>P2_ k_)) hg wG (fun k_ e_=>(jd.out.1 k_ e_)));have jS:=am (ho);clear jd ho hb hg hat))
     go_ret;exact ⟨_,gU,gI jS.out,xW,wG⟩
    rw [if_neg jF] at H;cases H
   rw [if_neg jE] at H;cases H
theorem rU.calls (a0:Int) (r:ByteArray) (w:World) (ht_:Tab w) (h:rU.f a0=some r):
  Calls Tryz.prog 90 #[.int .i64 a0] w fun e w'=>e= .returned (.string r)∧Below w.heap.size w w':=by
 unfold rU.f at h;by_cases h1:1≤a0∧a0≤12;case neg=>rw [if_neg h1] at h;cases h
 rw [if_pos h1] at h;obtain rfl:=oI h;have hv:iE.f a0=some true:=by
  unfold iE.f;simp [h1.1,h1.2]
 have HV:=am hv;rw [show (a0 - 1).toNat=a0.toNat - 1 by omega];have hc:=opCell ht_ (a0.toNat - 1) (by omega);have hw:wrap64 (a0 - 1)=a0 - 1:=by unfold wrap64;omega
 have p0:decide (0≤a0 - 1)=true:=dT (by omega);have p1:decide (a0 - 1 < 12)=true:=dT (by omega);have q0:(0≤a0 - 1)=True:=eq_true (by omega);have q1:(a0 - 1 < 12)=True:=eq_true (by omega);have q2:(1≤a0)=True:=eq_true h1.1;have q3:(a0 < 13)=True:=eq_true (by omega);clear hv h1;go_enter Tryz.func90,Tryz.ntmps90;go_wp2_with (first|(go_at_call 115;(with_reducible refine (iE.calls a0 true _ HV.out).mono ?_);rintro e w' ⟨rfl,⟨nd,rfl⟩⟩));go_ret;exact ⟨rfl,by first|exact Below.refl _ _|exact aU (Below.refl _ _) _⟩
theorem bH.MJ {w Wn:World} {S:Nat→Prop} {A:Option Addr} {n:Nat} {xs:List S56} (h:∀ W_,Kept w W_ S→Kd.C k56 W_ A n xs) (hk:Kept w Wn S) (i:Int) (h0:0≤i) (h1:i < n) {ad:Addr} {A2:Option Addr} {c2:Nat} (e:A=some ad) (hc:Wn.cell? ⟨(ad.add (i.toNat * 3)).block,(ad.add (i.toNat * 3)).off + 2,none⟩=some (.slice A2 (bW xs i).f2.length c2)):∀ W_,Kept w W_ S→k56.C W_ A2 (bW xs i).f2.length (bW xs i).f2:=by
 intro W_ hW;subst e;have hne:¬ S ad.block:=Kd.EL h (by omega) (by decide);have hlt:ad.block < w.heap.size:=Kd.EK h (by omega) (by decide);obtain ⟨ad',j3,j4,e',_,_,X2,_,I2⟩:=rM (h W_ hW) i h0 h1;injection e' with e';subst e';have hb:W_.heap[ad.block]?=Wn.heap[ad.block]?:=(hW.2 _ hlt hne).trans (hk.2 _ hlt hne).symm;have hcc:∀ a:Addr,a.block=ad.block→W_.cell? a=Wn.cell? a:=by
  intro a ha;unfold World.cell?;rw [ha,hb]
 have h2:=(hcc ⟨(ad.add (i.toNat * 3)).block,(ad.add (i.toNat * 3)).off + 2,none⟩ (by show (ad.add _).block=ad.block;unfold Addr.add;split <;> rfl)).trans hc;rw [X2] at h2;injection h2 with h2;injection h2 with h2 h3 h4;subst h2;exact I2
theorem bH.step (k:Nat) (ih_impl_operandTokens:∀ m,m < k→bD.dJ m) (ih_impl_exprTokens:∀ m,m < k→bH.dJ m):bH.dJ k:=by
 intro j5 j9 jj ji j3 P1_ jk l1 r w0 w hB hr0_2 hc0_2 ho1 ht_ h;cases k with
 |zero=>exact absurd h (by simp [bH.f])
 |succ k=>
 simp only [bH.f] at h;have hu56:=Tryz.underlying56;have jf:=am hr0_2;have ql:=am hc0_2;clear hr0_2 hc0_2;have j6:=am (show Kd.R Kd.string 9 w w0.heap.size (fun k_=>(P1_ k_∨w.heap.size≤k_)) jk l1 from Kd.bN ho1 (fun k_ hk=>(.inl hk)));have HK:=am (Kept.refl w (fun k_=>P1_ k_));have HW0:=am hB.size;have HB:=am hB;clear hB;have H:=h;clear h;have HH_:=am H;clear H;go_enter Tryz.func65,Tryz.ntmps65;go_upto_region 1 with (first|((with_reducible refine gD 2 rfl ?_);refine dU rfl (N:=2) rfl (cs:=#[.int .i64 j5,.int .i64 j9,.slice jj j3.length ji]) (t:=56) rn_ ?_;intro jh hg w6 hbox hb;replace j6:=am (Kd.fT (aR_ j6.out) hb);have j4:=am (hbox);have GW43:=am ((by rw [hg];exact (by first|exact HK.out.1|exact (show Kept w _ (fun k_=>P1_ k_) from nO).1):w.heap.size≤jh));replace HK:=am (Kept.below (S:=(fun k_=>P1_ k_)) nO hb);have GE43:=am ((by rw [hg];exact (aI eG):w0.heap.size≤jh));replace HB:=am (aA eG hb);clear hb hbox hg;obtain ⟨q0,q1,q2,q3,q4,q5⟩:=mE j4.out));have H:=HH_.out;clear HH_;by_cases c3:j5=0
 ·rw [if_pos c3] at H;have q6:(j5 == 0)=true:=beq_iff_eq.mpr c3;have q7:(j5 != 0)=false:=bF c3;clear c3;obtain ⟨jC,A4,H⟩:=bsa H;(try dsimp only at H);by_cases c5:l1.length < 8796093022208
  ·rw [if_pos c5] at H;have q8:=am c5;clear c5;obtain ⟨qx,hy_⟩:∃ y_:List ByteArray,y_=(l1 ++ [jC]):=⟨_,rfl⟩;replace H:(some qx)=some r:=rx_;have q9:=am hy_;clear hy_;obtain rfl:=oI H;go_wp2_with (first|((with_reducible refine gC 20 rfl ?_);refine gl_ 13 Tryz.func20 #[.int .i64 j9] ?_;(with_reducible refine (iC.calls j9 jC _ ?sideT A4.out).mono ?_);(case sideT=>first|exact ht_|exact Tab.below ht_ HB.out|exact Tab.below ht_ kM);rintro e w8 ⟨rfl,hb⟩;refine ⟨_,rfl,?_⟩;replace j6:=am (Kd.fT (aR_ j6.out) hb);replace j4:=bbP j4 hb;replace HK:=am (Kept.below (S:=(fun k_=>P1_ k_)) uH hb);replace HB:=am (aA kM hb);(try clear hb))|((with_reducible refine dV (b:=.append) (xs:=#[.tmp 10,.tmp 14]) rfl ?_);at_builtin;refine Kd.kQ Kd.string (w0:=w0) w0.heap.size rfl (.tmp 10) (.tmp 14) 29 9 (.string ⟨#[]⟩) 16 rfl Tryz.underlying29 kU rfl (by decide) (by omega) jk l1 jC [.string jC] (fun k_=>(P1_ k_∨w.heap.size≤k_)) (fun _=>False) rfl rfl ?aP (fun _ hk=>hk.elim) ?aF ?aO ?aB ?aS ?aL ?_;(case aP=>exact rfl);(case aB=>exact kM);(case aF=>exact (fun k_ hk=>(.inr (Nat.le_trans (by first|exact HK.out.1|exact (show Kept w _ (fun k_=>P1_ k_) from uH).1) hk))));(case aO=>exact (aR_ j6.out));(case aS=>exact (aI kM));(case aL=>have:=q8.out;omega);intro qH w9 ho hb hg hat;rw [← q9.out] at ho;replace j4:=am (dL (g:=jh) (o:=.cells #[.int .i64 j5,.int .i64 j9,.slice jj j3.length ji] 56 (0,0)) (aG_ j4.out) hg (Kd.lC j6.out j4.out (by decide)));replace HB:=am (hb);replace HK:=am (Kept.gF (S:=(fun k_=>P1_ k_)) hg uH (fun k_ e_=>(j6.out.1 k_ e_)));have qa:=am (ho);clear j6 ho hb hg hat));go_ret;exact ⟨_,gU,gI qa.out,kM,uH⟩
  rw [if_neg c5] at H;cases H
 rw [if_neg c3] at H;have q6:(j5 == 0)=false:=bE c3;have q7:(j5 != 0)=true:=bne_iff_ne.mpr c3;by_cases c10:j5=13
 ·rw [if_pos c10] at H;have js:(j5 == 13)=true:=beq_iff_eq.mpr c10;have jt:(j5 != 13)=false:=bF c10;clear c10;obtain ⟨jD,qm,H⟩:=bsm H;(try dsimp only at H);have qy:=am qm;clear qm;by_cases jE:l1.length < 8796093022208
  ·rw [if_pos jE] at H;have ju:=am jE;clear jE;obtain ⟨qz,hy_⟩:∃ y_:List ByteArray,y_=(l1 ++ [jD]):=⟨_,rfl⟩;replace H:(some qz)=some r:=rx_;have qb:=am hy_;clear hy_;obtain rfl:=oI H;go_wp2_with (first|((with_reducible refine gC 66 rfl ?_);refine gl_ 21 Tryz.func66 #[.int .i64 j9] ?_;(with_reducible refine (lH.calls j9 jD _ qy.out).mono ?_);rintro e w' ⟨rfl,⟨nd,rfl⟩⟩;refine ⟨_,rfl,?_⟩)|((with_reducible refine dV (b:=.append) (xs:=#[.tmp 18,.tmp 22]) rfl ?_);at_builtin;refine Kd.kQ Kd.string (w0:=w0) w0.heap.size rfl (.tmp 18) (.tmp 22) 29 9 (.string ⟨#[]⟩) 16 rfl Tryz.underlying29 kU rfl (by decide) (by omega) jk l1 jD [.string jD] (fun k_=>(P1_ k_∨w.heap.size≤k_)) (fun _=>False) rfl rfl ?aP (fun _ hk=>hk.elim) ?aF ?aO ?aB ?aS ?aL ?_;(case aP=>exact rfl);(case aB=>exact kM);(case aF=>exact (fun k_ hk=>(.inr (Nat.le_trans (by first|exact HK.out.1|exact (show Kept w _ (fun k_=>P1_ k_) from uH).1) hk))));(case aO=>exact (aR_ j6.out));(case aS=>exact (aI kM));(case aL=>have:=ju.out;omega);intro qI qJ ho hb hg hat;rw [← qb.out] at ho;replace j4:=am (dL (g:=jh) (o:=.cells #[.int .i64 j5,.int .i64 j9,.slice jj j3.length ji] 56 (0,0)) (aG_ j4.out) hg (Kd.lC j6.out j4.out (by decide)));replace HB:=am (hb);replace HK:=am (Kept.gF (S:=(fun k_=>P1_ k_)) hg uH (fun k_ e_=>(j6.out.1 k_ e_)));have qc:=am (ho);clear j6 ho hb hg hat));go_ret;exact ⟨_,gU,gI qc.out,kM,uH⟩
  rw [if_neg jE] at H;cases H
 rw [if_neg c10] at H;have js:(j5 == 13)=false:=bE c10;have jt:(j5 != 13)=true:=bne_iff_ne.mpr c10;obtain ⟨jr,qn,H⟩:=bsm H;(try dsimp only at H);have qA:=am qn;clear qn;by_cases jF:0 < (j3.length:Int)
 ·rw [if_pos jF] at H;have qo:decide (0 < (j3.length:Int))=true:=dT jF;have qp:decide (0 < j3.length)=true:=dT (by omega);clear jF;obtain ⟨jG,qq,H⟩:=bsm H;(try dsimp only at H);have qB:=am qq;clear qq;obtain ⟨jH,qr,H⟩:=bsm H;(try dsimp only at H);have qC:=am qr;clear qr;by_cases jI:jG.length < 8796093022208
  ·rw [if_pos jI] at H;have jv:=am jI;clear jI;obtain ⟨jw,hy_⟩:∃ y_:List ByteArray,y_=(jG ++ [jH]):=⟨_,rfl⟩;replace H:(if 1 < (j3.length:Int) then ((bD.f k ((bW j3 1).f0) ((bW j3 1).f1) ((bW j3 1).f2) (wrap64 (jr + 1)) jw).bind fun qd=>(some qd)) else (none))=some r:=rx_;have qe:=am hy_;clear hy_;by_cases jJ:1 < (j3.length:Int)
   ·rw [if_pos jJ] at H;have qs:decide (1 < (j3.length:Int))=true:=dT jJ;have qt:decide (1 < j3.length)=true:=dT (by omega);clear jJ;obtain ⟨qd,qu,H⟩:=bsm H;(try dsimp only at H);have qD:=am qu;clear qu;obtain rfl:=oI H;go_wp2_with (first|((with_reducible refine gC 88 rfl ?_);refine gl_ 26 Tryz.func88 #[.int .i64 j5] ?_;(with_reducible refine (dK.calls k j5 jr _ qA.out).mono ?_);rintro e w' ⟨rfl,⟨nd,rfl⟩⟩;refine ⟨_,rfl,?_⟩;have jK:0≤(0:Int):=(by omega);have jL:0 < (j3.length:Int):=of_decide_eq_true fK;obtain ⟨jx,jy,jz,qv,ja,jb,j7,hl58_2,hi58_2⟩:=rM (Kd.xA jf.out HK.out) 0 jK jL;have HF594_2:=am (bH.MJ jf.out HK.out 0 jK jL qv j7);cases qv;have qE:(0 < j3.length)=True:=eq_true (by omega);(try rw [show ((0:Int)).toNat=0 from rfl] at ja);(try rw [show 0 * 3=0 from rfl] at ja);(try rw [Addr.add_zero'] at ja);(try rw [show ((0:Int)).toNat=0 from rfl] at jb);(try rw [show 0 * 3=0 from rfl] at jb);(try rw [Addr.add_zero'] at jb);(try rw [show ((0:Int)).toNat=0 from rfl] at j7);(try rw [show 0 * 3=0 from rfl] at j7);(try rw [Addr.add_zero'] at j7);have qf:=am hi58_2;have jl:=am hl58_2;clear hi58_2 hl58_2;replace jK:=eq_true jK;replace jL:=eq_true jL;obtain ⟨jm,jn,qg⟩:=Kd.eY j6.out;subst qg)|((with_reducible refine gC 89 rfl ?_);refine gl_ 33 Tryz.func89 #[.agg #[.int .i64 ((bW j3 0).f0),.int .i64 ((bW j3 0).f1),.slice jy ((bW j3 0).f2).length jz],.int .i64 jr,.slice jm l1.length jn] ?_;(with_reducible refine (ih_impl_operandTokens k (by omega) ((bW j3 0).f0) ((bW j3 0).f1) _ _ ((bW j3 0).f2) jr (fun k_=>some k_=(.slice jm l1.length jn:Value).ownBlock) (.slice jm l1.length jn) l1 jG w0 _ ?side1 ?side2 jl.out ?side4 ?sideT qB.out).mono ?_);(case sideT=>first|exact ht_|exact Tab.below ht_ HB.out|exact Tab.below ht_ kM);(case side1=>exact kM);(case side2=>exact Kd.iU HF594_2.out uH (fun k_ hs_=>(fun e_=>(j6.out.1 k_ e_.symm)) hs_));(case side4=>exact Kd.lT rfl j6.out);rintro e qK ⟨qF,rfl,ho0,hb,hkp⟩;refine ⟨_,rfl,?_⟩;replace j4:=am (kS (aG_ j4.out) hkp (fun hs_=>(fun e_=>(Kd.lC j6.out j4.out (by decide)) e_) hs_));have jg:=am (Kd.bN (ok':=fun k_=>(P1_ k_∨w.heap.size≤k_)) ho0 (fun k_ hk_=>Or.elim hk_ (fun hs_=>(j6.out.1 k_ (hs_).symm)) (fun hn_=>(.inr (Nat.le_trans (by first|exact HK.out.1|exact (show Kept w _ (fun k_=>P1_ k_) from uH).1) hn_)))));replace HK:=am (Kept.then_ (S:=(fun k_=>P1_ k_)) uH hkp (fun k_ hs_=>(fun e_=>(j6.out.1 k_ e_.symm)) hs_));replace HB:=am (hb);clear j6;(try clear hb);(try clear hkp);(try clear ho0);obtain ⟨jM,jN,jO,jP,jQ,jR⟩:=mE j4.out)|((with_reducible refine gC 90 rfl ?_);refine gl_ 37 Tryz.func90 #[.int .i64 j5] ?_;(with_reducible refine (rU.calls j5 jH _ ?sideT qC.out).mono ?_);(case sideT=>first|exact ht_|exact Tab.below ht_ HB.out|exact Tab.below ht_ kM);rintro e qL ⟨rfl,hb⟩;refine ⟨_,rfl,?_⟩;replace jg:=am (Kd.fT (aR_ jg.out) hb);replace j4:=bbP j4 hb;replace HK:=am (Kept.below (S:=(fun k_=>P1_ k_)) uH hb);replace HB:=am (aA kM hb);(try clear hb))|((with_reducible refine dV (b:=.append) (xs:=#[.tmp 34,.tmp 38]) rfl ?_);at_builtin;refine Kd.kQ Kd.string (w0:=w0) w0.heap.size rfl (.tmp 34) (.tmp 38) 29 9 (.string ⟨#[]⟩) 16 rfl Tryz.underlying29 kU rfl (by decide) (by omega) qF jG jH [.string jH] (fun k_=>(P1_ k_∨w.heap.size≤k_)) (fun _=>False) rfl rfl ?aP (fun _ hk=>hk.elim) ?aF ?aO ?aB ?aS ?aL ?_;(case aP=>exact rfl);(case aB=>exact kM);(case aF=>exact (fun k_ hk=>(.inr (Nat.le_trans (by first|exact HK.out.1|exact (show Kept w _ (fun k_=>P1_ k_) from uH).1) hk))));(case aO=>exact (aR_ jg.out));(case aS=>exact (aI kM));(case aL=>have:=jv.out;omega);intro qM qN ho hb hg hat;rw [← qe.out] at ho;replace j4:=am (dL (g:=jh) (o:=.cells #[.int .i64 j5,.int .i64 j9,.slice (some jx) j3.length ji] 56 (0,0)) (aG_ j4.out) hg (Kd.lC jg.out j4.out (by decide)));replace HB:=am (hb);replace HK:=am (Kept.gF (S:=(fun k_=>P1_ k_)) hg uH (fun k_ e_=>(jg.out.1 k_ e_)));have jc:=am (ho);clear jg ho hb hg hat;obtain ⟨jS,jT,jU,jV,jW,jX⟩:=mE j4.out;have jY:0≤(1:Int):=(by omega);have jZ:1 < (j3.length:Int):=of_decide_eq_true fK;obtain ⟨qh,jA,jB,qw,jd,je,j8,hl63_2,hi63_2⟩:=rM (Kd.xA jf.out HK.out) 1 jY jZ;have HF602_2:=am (bH.MJ jf.out HK.out 1 jY jZ qw j8);obtain rfl:jx=qh:=(by injection qw);(try simp only [show (1:Int).toNat=1 from rfl,Nat.reduceMul,Nat.reduceEqDiff,Go.Addr.add,↓reduceIte] at jd);(try simp only [show (1:Int).toNat=1 from rfl,Nat.reduceMul,Nat.reduceEqDiff,Go.Addr.add,↓reduceIte] at je);(try simp only [show (1:Int).toNat=1 from rfl,Nat.reduceMul,Nat.reduceEqDiff,Go.Addr.add,↓reduceIte] at j8);have qG:(1 < j3.length)=True:=eq_true (by omega);(try rw [show ((1:Int)).toNat=1 from rfl] at jd);(try rw [show 1 * 3=3 from rfl] at jd);(try rw [show ((1:Int)).toNat=1 from rfl] at je);(try rw [show 1 * 3=3 from rfl] at je);(try rw [show ((1:Int)).toNat=1 from rfl] at j8);(try rw [show 1 * 3=3 from rfl] at j8);have qi:=am hi63_2;have jo:=am hl63_2;clear hi63_2 hl63_2;replace jY:=eq_true jY;replace jZ:=eq_true jZ;obtain ⟨jp,jq,qj⟩:=Kd.eY jc.out;subst qj)|((with_reducible refine gC 89 rfl ?_);refine gl_ 47 Tryz.func89 #[.agg #[.int .i64 ((bW j3 1).f0),.int .i64 ((bW j3 1).f1),.slice jA ((bW j3 1).f2).length jB],.int .i64 (wrap64 (jr + 1)),.slice jp jw.length jq] ?_;(with_reducible refine (ih_impl_operandTokens k (by omega) ((bW j3 1).f0) ((bW j3 1).f1) _ _ ((bW j3 1).f2) (wrap64 (jr + 1)) (fun k_=>some k_=(.slice jp jw.length jq:Value).ownBlock) (.slice jp jw.length jq) jw qd w0 _ ?side1 ?side2 jo.out ?side4 ?sideT qD.out).mono ?_);(case sideT=>first|exact ht_|exact Tab.below ht_ HB.out|exact Tab.below ht_ kM);(case side1=>exact kM);(case side2=>exact Kd.iU HF602_2.out uH (fun k_ hs_=>(fun e_=>(jc.out.1 k_ e_.symm)) hs_));(case side4=>exact Kd.lT rfl jc.out);rintro e qO ⟨qP,rfl,ho0,hb,hkp⟩;refine ⟨_,rfl,?_⟩;replace j4:=am (kS (aG_ j4.out) hkp (fun hs_=>(fun e_=>(Kd.lC jc.out j4.out (by decide)) e_) hs_));have qk:=am (Kd.bN (ok':=fun k_=>(P1_ k_∨w.heap.size≤k_)) ho0 (fun k_ hk_=>Or.elim hk_ (fun hs_=>(jc.out.1 k_ (hs_).symm)) (fun hn_=>(.inr (Nat.le_trans (by first|exact HK.out.1|exact (show Kept w _ (fun k_=>P1_ k_) from uH).1) hn_)))));replace HK:=am (Kept.then_ (S:=(fun k_=>P1_ k_)) uH hkp (fun k_ hs_=>(fun e_=>(jc.out.1 k_ e_.symm)) hs_));replace HB:=am (hb);clear jc;(try clear hb);(try clear hkp);(try clear ho0)));go_ret;exact ⟨_,gU,gI qk.out,kM,uH⟩
   rw [if_neg jJ] at H;cases H
  rw [if_neg jI] at H;cases H
 rw [if_neg jF] at H;cases H
theorem bD.calls_all (k:Nat):bD.dJ k∧bH.dJ k:=by
 induction k using Nat.strongRecOn with
 | _ k ih=>exact ⟨bD.step k (ih_impl_operandTokens:=fun m hm=>(ih m hm).1) (ih_impl_exprTokens:=fun m hm=>(ih m hm).2),bH.step k (ih_impl_operandTokens:=fun m hm=>(ih m hm).1) (ih_impl_exprTokens:=fun m hm=>(ih m hm).2)⟩
theorem bD.calls (k:Nat):bD.dJ k:=(bD.calls_all k).1
theorem bH.calls (k:Nat):bH.dJ k:=(bD.calls_all k).2
def aT.T3:Bool × List (List Nat × List Nat):=(true,[([],[]),([0],[0]),([],[]),([],[]),([3],[3]),([4],[4]),([5],[5]),([2,6,5],[2,6]),([1,7,7],[1,7]),([8,8,0,1,2,3,4,5,6,7,8],[2,8])])
def aT.B3:List Nat:=[0,1,0,0,8,24,56,124,255,511]
theorem aT.aGt:mH .any (opsOf Tryz.f42 3)=aT.T3:=by kernel_rfl
theorem aT.TL:iY aT.T3.2 aT.B3=true:=by kernel_rfl
def aT.T5:Bool × List (List Nat × List Nat):=(true,[([],[]),([0],[0]),([],[]),([2],[2]),([],[]),([],[]),([4,5],[4,5]),([3,6,6],[3,6]),([1,7,7],[1,7]),([8,8,0,1,2,3,4,5,6,7,8],[4,8])])
def aT.B5:List Nat:=[0,1,0,4,0,0,48,124,255,511]
theorem aT.aAj:mH .any (opsOf Tryz.f42 5)=aT.T5:=by kernel_rfl
theorem aT.IJ:iY aT.T5.2 aT.B5=true:=by kernel_rfl
def aT.T10:Bool × List (List Nat × List Nat):=(true,[([],[]),([0],[0]),([],[]),([2],[2]),([],[]),([],[]),([4,5],[4,5]),([3,6,6],[3,6]),([1,7,7],[1,7]),([8,8,0,1,2,3,4,5,6,7,8],[8])])
def aT.B10:List Nat:=[0,1,0,4,0,0,48,124,255,511]
theorem aT.aGs:mH .any (opsOf Tryz.f42 10)=aT.T10:=by kernel_rfl
theorem aT.aAz:iY aT.T10.2 aT.B10=true:=by kernel_rfl
def aT.T12:Bool × List (List Nat × List Nat):=(true,[([],[]),([0],[0]),([],[]),([],[]),([3],[3]),([4],[4]),([5],[5]),([2,6,5],[2,6]),([1,7,7],[1,7]),([8,8,0,1,2,3,4,5,6,7,8],[2,8])])
def aT.B12:List Nat:=[0,1,0,0,8,24,56,124,255,511]
theorem aT.aLf:mH .any (opsOf Tryz.f42 12)=aT.T12:=by kernel_rfl
theorem aT.aJr:iY aT.T12.2 aT.B12=true:=by kernel_rfl
def aT.T14:Bool × List (List Nat × List Nat):=(true,[([],[]),([],[]),([1],[1]),([2],[2]),([],[]),([4],[4]),([5,3],[5]),([3,6],[3,6]),([0,7,6],[0,7]),([8,8,0,1,2,3,4,5,6,7,8],[0,8])])
def aT.B14:List Nat:=[0,0,2,6,0,16,62,126,255,511]
theorem aT.aLg:mH .any (opsOf Tryz.f42 14)=aT.T14:=by kernel_rfl
theorem aT.aJs:iY aT.T14.2 aT.B14=true:=by kernel_rfl
theorem aT.step (k:Nat) (ih_impl_stmtTokens:∀ m,m < k→aT.dJ m) (ih_impl_blockTokens:∀ m,m < k→bB.dJ m):aT.dJ k:=by
 intro j5 je jf j6 j7 jc jd j8 jg jh jb ji jj ja P1_ jw l1 r w0 w hB hr0_5 hc0_5 hr0_6 hc0_6 hr0_7 hc0_7 ho1 ht_ h;cases k with
 |zero=>exact absurd h (by simp [aT.f])
 |succ k=>
 simp only [aT.f] at h;have hu58:=Tryz.underlying58;have hu56:=Tryz.underlying56;have jy:=am hr0_5;have jz:=am hc0_5;clear hr0_5 hc0_5;have jQ:=am hr0_6;have jR:=am hc0_6;clear hr0_6 hc0_6;have qF:=am hr0_7;have qG:=am hc0_7;clear hr0_7 hc0_7;have j9:=am (show Kd.R Kd.string 9 w w0.heap.size (fun k_=>(P1_ k_∨w.heap.size≤k_)) jw l1 from Kd.bN ho1 (fun k_ hk=>(.inl hk)));have HK:=am (Kept.refl w (fun k_=>P1_ k_));have HW0:=am hB.size;have HB:=am hB;clear hB;have H:=h;clear h;have HH_:=am H;clear H;go_enter Tryz.func42,Tryz.ntmps42;go_upto_region 1 with (first|((with_reducible refine gD 2 rfl ?_);refine dU rfl (N:=2) rfl (cs:=#[.int .i64 j5,.int .i64 je,.int .i64 jf,.int .i64 j6,.int .i64 j7,.slice jc j8.length jd,.slice jg jb.length jh,.slice ji ja.length jj]) (t:=58) rn_ ?_;intro j4 hg w8 hbox hb;replace j9:=am (Kd.fT (aR_ j9.out) hb);have j3:=am (hbox);have GW132:=am ((by rw [hg];exact (by first|exact HK.out.1|exact (show Kept w _ (fun k_=>P1_ k_) from nO).1):w.heap.size≤j4));replace HK:=am (Kept.below (S:=(fun k_=>P1_ k_)) nO hb);have GE132:=am ((by rw [hg];exact (aI eG):w0.heap.size≤j4));replace HB:=am (aA eG hb);clear hb hbox hg;obtain ⟨Jz,JA,JB,JC,JD,JE,JF,JG,JH,JI,JJ,JK,JL,JM,JN,JO⟩:=fP j3.out));have H:=HH_.out;clear HH_;by_cases c3:j5=1
 ·rw [if_pos c3] at H;have JP:(j5 == 1)=true:=beq_iff_eq.mpr c3;have JQ:(j5 != 1)=false:=bF c3;clear c3;obtain ⟨qD,A4,H⟩:=bsa H;(try dsimp only at H);obtain ⟨q3,hy_⟩:∃ y_:List ByteArray,y_=(([qD,(⟨#[61]⟩:ByteArray)]:List ByteArray)):=⟨_,rfl⟩;replace H:(if l1.length + q3.length < 8796093022208 then ((bH.f k j6 j7 j8 (l1 ++ q3)).bind fun q1=>(if q1.length < 8796093022208 then (some (q1 ++ [(⟨#[59]⟩:ByteArray)])) else (none))) else (none))=some r:=rx_;have qH:=am hy_;clear hy_;by_cases c5:l1.length + q3.length < 8796093022208
  ·rw [if_pos c5] at H;have JR:=am c5;clear c5;obtain ⟨jS,hy_⟩:∃ y_:List ByteArray,y_=(l1 ++ q3):=⟨_,rfl⟩;replace H:((bH.f k j6 j7 j8 jS).bind fun q1=>(if q1.length < 8796093022208 then (some (q1 ++ [(⟨#[59]⟩:ByteArray)])) else (none)))=some r:=rx_;have qI:=am hy_;clear hy_;obtain ⟨q1,A6,H⟩:=bsa H;(try dsimp only at H);by_cases c7:q1.length < 8796093022208
   ·rw [if_pos c7] at H;have JS:=am c7;clear c7;obtain ⟨JT,hy_⟩:∃ y_:List ByteArray,y_=(q1 ++ [(⟨#[59]⟩:ByteArray)]):=⟨_,rfl⟩;replace H:(some JT)=some r:=rx_;have qJ:=am hy_;clear hy_;obtain rfl:=oI H;try go_wp2
    replace j9:=am (Kd.oJ j9.out);replace j3:=am (dA j3.out);replace HK:=am (Kept.drew HK.out);replace HB:=am (bI HB.out);refine lQ (n:=10) (S:=fun w'=>w'.cell? ⟨j4,0,none⟩=some (.int .i64 j5)∧w'.cell? ⟨j4,1,none⟩=some (.int .i64 je)∧w'.cell? ⟨j4,2,none⟩=some (.int .i64 jf)∧w'.cell? ⟨j4,3,none⟩=some (.int .i64 j6)∧w'.cell? ⟨j4,4,none⟩=some (.int .i64 j7)∧w'.cell? ⟨j4,5,none⟩=some (.slice jc j8.length jd)∧w'.cell? ⟨j4,6,none⟩=some (.slice jg jb.length jh)∧w'.cell? ⟨j4,7,none⟩=some (.slice ji ja.length jj)) (ds:=[]) (bz 10 0) (by kernel_rfl) rfl rfl (mM j3.out) (fun hHeld=>?_);refine iQ aT.aGt aT.TL (fun HT_ HW_=>?_);generalize w8.drew=QB at j9 j3 HK HB hHeld ⊢;refine pr_ 0 9 (bz 10 1) HT_ ?_;refine pr_ 2 11 (bz 10 5) HT_ ?_;refine pr_ 3 12 (bz 10 13) HT_ ?_;refine yD 1 10 (bz 10 15) HT_ HW_ hHeld ?_;refine yD 4 13 (bz 10 31) HT_ HW_ hHeld ?_;refine iJ (i:=5) (N:=some 14) (bz 10 63) rfl rfl (eU HT_.out (by kernel_rfl)) (by decide) (fun K hK=>?_);refine iI Tryz.func66 (by kernel_rfl) rfl #[.int .i64 je] (by rfl) rfl rfl nG ?_
    with_reducible refine (lH.calls je qD _ A4.out).mono ?_
    rintro e w' ⟨rfl,⟨nd,rfl⟩⟩;refine ⟨_,rfl,?_⟩;refine hK.out _ _ (mM j3.out) (fun hHeld=>?_);clear hK K;refine fC (a':=?_) ?_ ?_;rotate_left;·exact ap_ (N:=14)
    refine iJ (i:=6) (N:=some 15) (bz 10 127) rfl rfl (eU HT_.out (by kernel_rfl)) (by decide) (fun K hK=>?_);refine Kd.nE Kd.string _ 9 rfl (N:=15) rfl (xs:=([qD,(⟨#[61]⟩:ByteArray)]:List ByteArray)) (inner:=[.string qD,.string (⟨#[61]⟩:ByteArray)]) (ok:=fun _=>True) (okp:=fun _=>True) rn_ ?hp (fun _ hk=>hk) trivial (Below.refl _ _) (Nat.le_refl _) (by simp) ?_;(case hp=>exact (dF.one (show Kd.M Kd.string _ _ _ qD [.string qD] from rfl) (dF.one (show Kd.M Kd.string _ _ _ (⟨#[61]⟩:ByteArray) [.string (⟨#[61]⟩:ByteArray)] from rfl) (dF.none _ _))));intro Q6 QC ho12 hb hg_ hnew_;clear hg_ hnew_
    (first|rw [← qH.out] at ho12|(simp only [Int.reduceToNat] at ho12;rw [← qH.out] at ho12))
    have jm:=am (Kd.fB (Kd.lF (Kd.vG (M:=fun k_=>(P1_ k_∨w.heap.size≤k_)) ho12 (by first|exact HK.out.1|exact (show Kept w _ (fun k_=>P1_ k_) from iZ).1) (fun k_ h_=>.inr h_)) (Kd.iG (aR_ j9.out))) (aI kL));replace j9:=am (Kd.iD (aR_ j9.out) (Kd.iN ho12) hb);replace j3:=bbP j3 hb;replace HK:=am (Kept.below (S:=(fun k_=>P1_ k_)) iZ hb);replace HB:=am (aA kL hb);clear hb ho12;obtain ⟨q9,qa,qK⟩:=Kd.eY jm.out
    (first|subst qK|(injection qK with f1_ f2_ f3_;have f4_:=f1_.symm;have f5_:=f3_.symm;clear f1_ f2_ f3_;subst f4_;subst f5_))
    refine hK.out _ _ (mM j3.out) (fun hHeld=>?_);clear hK K;refine fC (a':=?_) ?_ ?_;rotate_left;·exact ap_ (N:=15)
    refine iJ (i:=7) (N:=some 16) (bz 10 255) rfl rfl (eU HT_.out (by kernel_rfl)) (by decide) (fun K hK=>?_);refine Kd.nD Kd.string (w0:=w0) w0.heap.size (by rfl) (.tmp 11) (.tmp 15) 29 9 (.string ⟨#[]⟩) 16 rfl Tryz.underlying29 kU rfl (by decide) (by omega) jw l1 q3 _ _ _ (fun k_=>(P1_ k_∨w.heap.size≤k_)∧some k_≠(.slice q9 q3.length qa:Value).ownBlock) (fun _=>False) rfl rfl ?aO ?aR (fun _ _ h=>h) (fun _ h=>h.elim) ?aF ?aB ?aS ?aL ?_;(case aR=>repeat (first|exact (Kd.eX jm.out).2.2|(with_reducible refine Kd.lS ?_ _)|(with_reducible refine Kd.kZ ?_ _)|(with_reducible refine Kd.mP ?_)));(case aB=>exact kL);(case aF=>exact (fun k_ hk=>⟨(.inr (Nat.le_trans (by first|exact HK.out.1|exact (show Kept w _ (fun k_=>P1_ k_) from iZ).1) hk)),Kd.fresh' (Kd.iG (aR_ jm.out)) k_ hk⟩));(case aO=>exact (aR_ j9.out));(case aS=>exact (aI kL));(case aL=>have:=JR.out;omega);intro Q7 QD ho hb hg hat
    rw [← qI.out] at ho;replace j3:=am (dL (g:=j4) (o:=.cells #[.int .i64 j5,.int .i64 je,.int .i64 jf,.int .i64 j6,.int .i64 j7,.slice jc j8.length jd,.slice jg jb.length jh,.slice ji ja.length jj] 58 (0,0)) (aG_ j3.out) hg (Kd.lC j9.out j3.out (by decide)));replace jm:=am (Kd.iX (ok:=(fun k_=>(P1_ k_∨w.heap.size≤k_))) (gI (Kd.bN jm.out (fun _ hk=>⟨hk.1.1,hk.2⟩))) hg hat);replace HB:=am (hb);replace HK:=am (Kept.gF (S:=(fun k_=>P1_ k_)) hg iZ (fun k_ e_=>(j9.out.1 k_ e_).1));have jq:=am (ho);clear j9;clear ho hb hg hat
    obtain ⟨qb,qc,qL⟩:=Kd.eY jq.out
    (first|subst qL|(injection qL with f1_ f2_ f3_;have f4_:=f1_.symm;have f5_:=f3_.symm;clear f1_ f2_ f3_;subst f4_;subst f5_))
    refine hK.out _ _ (mM j3.out) (fun hHeld=>?_);clear hK K;refine fC (a':=?_) ?_ ?_;rotate_left;·exact ap_ (N:=16)
    refine iJ (i:=8) (N:=some 17) (bz 10 511) rfl rfl (eU HT_.out (by kernel_rfl)) (by decide) (fun K hK=>?_);refine iI Tryz.func65 (by kernel_rfl) rfl #[.agg #[.int .i64 j6,.int .i64 j7,.slice jc j8.length jd],.slice qb jS.length qc] (by rfl) rfl rfl nG ?_
    with_reducible refine (bH.calls k j6 j7 _ _ j8 (fun k_=>some k_=(.slice qb jS.length qc:Value).ownBlock) (.slice qb jS.length qc) jS q1 w0 _ ?side1 ?side2 jz.out ?side4 ?sideT A6.out).mono ?_
    (case sideT=>first|exact ht_|exact Tab.below ht_ HB.out|exact Tab.below ht_ kL);(case side1=>exact kL);(case side2=>exact Kd.iU jy.out iZ (fun k_ hs_=>(fun e_=>(jq.out.1 k_ e_.symm).1) hs_));(case side4=>exact Kd.lT rfl jq.out);rintro e QE ⟨qM,rfl,ho0,hb,hkp⟩;refine ⟨_,rfl,?_⟩;replace j3:=am (kS (aG_ j3.out) hkp (fun hs_=>(fun e_=>(Kd.lC jq.out j3.out (by decide)) e_) hs_));have jH:=am (Kd.bN (ok':=fun k_=>(P1_ k_∨w.heap.size≤k_)∧some k_≠(.slice q9 q3.length qa:Value).ownBlock) ho0 (fun k_ hk_=>⟨Or.elim hk_ (fun hs_=>(jq.out.1 k_ (hs_).symm).1) (fun hn_=>(.inr (Nat.le_trans (by first|exact HK.out.1|exact (show Kept w _ (fun k_=>P1_ k_) from iZ).1) hn_))),Or.elim hk_ (fun hs_=>fun e_=>(((jm.out).1 k_ e_.symm).2) hs_) (fun hn_=>(Kd.fresh' (Kd.iG (aR_ jm.out)) k_ hn_))⟩));replace jm:=am (Kd.bN (ok':=fun k_=>(P1_ k_∨w.heap.size≤k_)∧some k_≠(qM:Value).ownBlock) (Kd.RP (jm.out) hkp (fun k_ hk_ hs_=>(hk_.2) hs_)) (fun k_ hk_=>⟨hk_.1.1,fun e_=>Or.elim (ho0.1 k_ e_.symm) (fun hs_=>hk_.2.1 hs_) (fun hn_=>Nat.not_le.2 hk_.2.2 hn_)⟩));replace HK:=am (Kept.then_ (S:=(fun k_=>P1_ k_)) iZ hkp (fun k_ hs_=>(fun e_=>(jq.out.1 k_ e_.symm).1) hs_));replace HB:=am (hb);clear jq;(try clear hb);(try clear hkp);(try clear ho0);refine hK.out _ _ (mM j3.out) (fun hHeld=>?_);clear hK K;refine fC (a':=?_) ?_ ?_;rotate_left;·exact ap_ (N:=17)
    refine pr_ 9 1 (bz 10 1023) HT_ ?_;refine nP (lG HT_.out (by kernel_rfl)) ?_;try go_wp2_with (first|((with_reducible refine dV (b:=.append) (xs:=#[.tmp 86,.tmp 87]) rfl ?_);at_builtin;refine Kd.kQ Kd.string (w0:=w0) w0.heap.size rfl (.tmp 86) (.tmp 87) 29 9 (.string ⟨#[]⟩) 16 rfl Tryz.underlying29 kU rfl (by decide) (by omega) qM q1 (⟨#[59]⟩:ByteArray) [.string (⟨#[59]⟩:ByteArray)] (fun k_=>(P1_ k_∨w.heap.size≤k_)∧some k_≠(.slice q9 q3.length qa:Value).ownBlock) (fun _=>False) rfl rfl ?aP (fun _ hk=>hk.elim) ?aF ?aO ?aB ?aS ?aL ?_;(case aP=>exact rfl);(case aB=>exact kL);(case aF=>exact (fun k_ hk=>⟨(.inr (Nat.le_trans (by first|exact HK.out.1|exact (show Kept w _ (fun k_=>P1_ k_) from iZ).1) hk)),Kd.fresh' (Kd.iG (aR_ jm.out)) k_ hk⟩));(case aO=>exact (aR_ jH.out));(case aS=>exact (aI kL));(case aL=>have:=JS.out;omega);intro Q8 QF ho hb hg hat;rw [← qJ.out] at ho;replace j3:=am (dL (g:=j4) (o:=.cells #[.int .i64 j5,.int .i64 je,.int .i64 jf,.int .i64 j6,.int .i64 j7,.slice jc j8.length jd,.slice jg jb.length jh,.slice ji ja.length jj] 58 (0,0)) (aG_ j3.out) hg (Kd.lC jH.out j3.out (by decide)));replace jm:=am (Kd.iX (ok:=(fun k_=>(P1_ k_∨w.heap.size≤k_))) (aR_ jm.out) hg hat);replace HB:=am (hb);replace HK:=am (Kept.gF (S:=(fun k_=>P1_ k_)) hg iZ (fun k_ e_=>(jH.out.1 k_ e_).1));have qN:=am (ho);clear jH ho hb hg hat))
    go_ret;exact ⟨_,gU,gI (Kd.bN qN.out (fun _ hk=>hk.1)),kL,iZ⟩
   rw [if_neg c7] at H;cases H
  rw [if_neg c5] at H;cases H
 rw [if_neg c3] at H;have JP:(j5 == 1)=false:=bE c3;have JQ:(j5 != 1)=true:=bne_iff_ne.mpr c3;by_cases qd:j5=2
 ·rw [if_pos qd] at H;have qO:(j5 == 2)=true:=beq_iff_eq.mpr qd;have qP:(j5 != 2)=false:=bF qd;clear qd;by_cases zS:l1.length < 8796093022208
  ·rw [if_pos zS] at H;have q4:=am zS;clear zS;obtain ⟨jA,hy_⟩:∃ y_:List ByteArray,y_=(l1 ++ [(⟨#[105,102]⟩:ByteArray)]):=⟨_,rfl⟩;replace H:((bH.f k j6 j7 j8 jA).bind fun jP=>((bB.f k jb jP).bind fun jB=>(if (ja.length:Int) > 0 then (if jB.length < 8796093022208 then ((bB.f k ja (jB ++ [(⟨#[101,108,115,101]⟩:ByteArray)])).bind fun jT=>(some jT)) else (none)) else (some jB))))=some r:=rx_;have q5:=am hy_;clear hy_;obtain ⟨jP,qQ,H⟩:=bsm H;(try dsimp only at H);have Q4:=am qQ;clear qQ;obtain ⟨jB,qR,H⟩:=bsm H;(try dsimp only at H);have Q5:=am qR;clear qR;by_cases qE:(ja.length:Int) > 0
   ·rw [if_pos qE] at H;have qS:decide (0 < (ja.length:Int))=true:=dT qE;have qT:decide (0 < ja.length)=true:=dT (by omega);clear qE;by_cases zT:jB.length < 8796093022208
    ·rw [if_pos zT] at H;have qU:=am zT;clear zT;obtain ⟨jU,hy_⟩:∃ y_:List ByteArray,y_=(jB ++ [(⟨#[101,108,115,101]⟩:ByteArray)]):=⟨_,rfl⟩;replace H:((bB.f k ja jU).bind fun jT=>(some jT))=some r:=rx_;have qV:=am hy_;clear hy_;obtain ⟨jT,qW,H⟩:=bsm H;(try dsimp only at H);have Q9:=am qW;clear qW;obtain rfl:=oI H;try go_wp2
     replace j9:=am (Kd.oJ j9.out);replace j3:=am (dA j3.out);replace HK:=am (Kept.drew HK.out);replace HB:=am (bI HB.out);refine lQ (n:=10) (S:=fun w'=>w'.cell? ⟨j4,0,none⟩=some (.int .i64 j5)∧w'.cell? ⟨j4,1,none⟩=some (.int .i64 je)∧w'.cell? ⟨j4,2,none⟩=some (.int .i64 jf)∧w'.cell? ⟨j4,3,none⟩=some (.int .i64 j6)∧w'.cell? ⟨j4,4,none⟩=some (.int .i64 j7)∧w'.cell? ⟨j4,5,none⟩=some (.slice jc j8.length jd)∧w'.cell? ⟨j4,6,none⟩=some (.slice jg jb.length jh)∧w'.cell? ⟨j4,7,none⟩=some (.slice ji ja.length jj)) (ds:=[]) (bz 10 0) (by kernel_rfl) rfl rfl (mM j3.out) (fun hHeld=>?_);refine iQ aT.aAj aT.IJ (fun HT_ HW_=>?_);generalize w8.drew=QG at j9 j3 HK HB hHeld ⊢;refine pr_ 0 20 (bz 10 1) HT_ ?_;refine pr_ 2 22 (bz 10 5) HT_ ?_;refine pr_ 4 24 (bz 10 21) HT_ ?_;refine yD 1 21 (bz 10 23) HT_ HW_ hHeld ?_;refine yD 3 23 (bz 10 31) HT_ HW_ hHeld ?_;refine iJ (i:=5) (N:=some 25) (bz 10 63) rfl rfl (eU HT_.out (by kernel_rfl)) (by decide) (fun K hK=>?_);refine sU (w1:=?_) (v:=?_) (by rfl) rfl ?_ ?_;rotate_left 2
     ·go_simp;constructor;·rfl
      ·rfl
     refine hK.out _ _ (mM (dS j3.out _)) (fun hHeld=>?_);clear hK K;refine fC (a':=?_) ?_ ?_;rotate_left;·exact ap_ (N:=25)
     refine iJ (i:=6) (N:=some 26) (bz 10 127) rfl rfl (eU HT_.out (by kernel_rfl)) (by decide) (fun K hK=>?_);refine Kd.lY Kd.string (w0:=w0) w0.heap.size (by rfl) (.tmp 24) (.tmp 25) 29 9 (.string ⟨#[]⟩) 16 rfl Tryz.underlying29 kU rfl (by decide) (by omega) jw l1 (⟨#[105,102]⟩:ByteArray) [.string (⟨#[105,102]⟩:ByteArray)] (fun k_=>(P1_ k_∨w.heap.size≤k_)) (fun _=>False) rfl rfl ?aP (fun _ hk=>hk.elim) ?aF ?aO ?aB ?aS ?aL ?_;(case aP=>exact rfl);(case aB=>exact kL);(case aF=>exact (fun k_ hk=>(.inr (Nat.le_trans (by first|exact HK.out.1|exact (show Kept w _ (fun k_=>P1_ k_) from iZ).1) hk))));(case aO=>exact (aR_ j9.out));(case aS=>exact (aI kL));(case aL=>have:=q4.out;omega);intro JU QH ho hb hg hat
     rw [← q5.out] at ho;replace j3:=am (dL (g:=j4) (o:=.cells #[.int .i64 j5,.int .i64 je,.int .i64 jf,.int .i64 j6,.int .i64 j7,.slice jc j8.length jd,.slice jg jb.length jh,.slice ji ja.length jj] 58 (0,0)) (aG_ j3.out) hg (Kd.lC j9.out j3.out (by decide)));replace HB:=am (hb);replace HK:=am (Kept.gF (S:=(fun k_=>P1_ k_)) hg iZ (fun k_ e_=>(j9.out.1 k_ e_)));have jk:=am (ho);clear j9;clear ho hb hg hat
     obtain ⟨qe,qf,qX⟩:=Kd.eY jk.out
     (first|subst qX|(injection qX with f1_ f2_ f3_;have f4_:=f1_.symm;have f5_:=f3_.symm;clear f1_ f2_ f3_;subst f4_;subst f5_))
     refine hK.out _ _ (mM j3.out) (fun hHeld=>?_);clear hK K;refine fC (a':=?_) ?_ ?_;rotate_left;·exact ap_ (N:=26)
     refine iJ (i:=7) (N:=some 27) (bz 10 255) rfl rfl (eU HT_.out (by kernel_rfl)) (by decide) (fun K hK=>?_);refine iI Tryz.func65 (by kernel_rfl) rfl #[.agg #[.int .i64 j6,.int .i64 j7,.slice jc j8.length jd],.slice qe jA.length qf] (by rfl) rfl rfl nG ?_
     with_reducible refine (bH.calls k j6 j7 _ _ j8 (fun k_=>some k_=(.slice qe jA.length qf:Value).ownBlock) (.slice qe jA.length qf) jA jP w0 _ ?side1 ?side2 jz.out ?side4 ?sideT Q4.out).mono ?_
     (case sideT=>first|exact ht_|exact Tab.below ht_ HB.out|exact Tab.below ht_ kL);(case side1=>exact kL);(case side2=>exact Kd.iU jy.out iZ (fun k_ hs_=>(fun e_=>(jk.out.1 k_ e_.symm)) hs_));(case side4=>exact Kd.lT rfl jk.out);rintro e QI ⟨JV,rfl,ho0,hb,hkp⟩;refine ⟨_,rfl,?_⟩;replace j3:=am (kS (aG_ j3.out) hkp (fun hs_=>(fun e_=>(Kd.lC jk.out j3.out (by decide)) e_) hs_));have jl:=am (Kd.bN (ok':=fun k_=>(P1_ k_∨w.heap.size≤k_)) ho0 (fun k_ hk_=>Or.elim hk_ (fun hs_=>(jk.out.1 k_ (hs_).symm)) (fun hn_=>(.inr (Nat.le_trans (by first|exact HK.out.1|exact (show Kept w _ (fun k_=>P1_ k_) from iZ).1) hn_)))));replace HK:=am (Kept.then_ (S:=(fun k_=>P1_ k_)) iZ hkp (fun k_ hs_=>(fun e_=>(jk.out.1 k_ e_.symm)) hs_));replace HB:=am (hb);clear jk;(try clear hb);(try clear hkp);(try clear ho0);obtain ⟨qg,qh,qY⟩:=Kd.eY jl.out
     (first|subst qY|(injection qY with f1_ f2_ f3_;have f4_:=f1_.symm;have f5_:=f3_.symm;clear f1_ f2_ f3_;subst f4_;subst f5_))
     refine hK.out _ _ (mM j3.out) (fun hHeld=>?_);clear hK K;refine fC (a':=?_) ?_ ?_;rotate_left;·exact ap_ (N:=27)
     refine iJ (i:=8) (N:=some 28) (bz 10 511) rfl rfl (eU HT_.out (by kernel_rfl)) (by decide) (fun K hK=>?_);refine iI Tryz.func21 (by kernel_rfl) rfl #[.slice jg jb.length jh,.slice qg jP.length qh] (by rfl) rfl rfl nG ?_
     with_reducible refine (ih_impl_blockTokens k (by omega) _ _ jb (fun k_=>some k_=(.slice qg jP.length qh:Value).ownBlock) (.slice qg jP.length qh) jP jB w0 _ ?side1 ?side2 jR.out ?side4 ?sideT Q5.out).mono ?_
     (case sideT=>first|exact ht_|exact Tab.below ht_ HB.out|exact Tab.below ht_ kL);(case side1=>exact kL);(case side2=>exact Kd.iU jQ.out iZ (fun k_ hs_=>(fun e_=>(jl.out.1 k_ e_.symm)) hs_));(case side4=>exact Kd.lT rfl jl.out);rintro e Qa ⟨qZ,rfl,ho0,hb,hkp⟩;refine ⟨_,rfl,?_⟩;replace j3:=am (kS (aG_ j3.out) hkp (fun hs_=>(fun e_=>(Kd.lC jl.out j3.out (by decide)) e_) hs_));have jo:=am (Kd.bN (ok':=fun k_=>(P1_ k_∨w.heap.size≤k_)) ho0 (fun k_ hk_=>Or.elim hk_ (fun hs_=>(jl.out.1 k_ (hs_).symm)) (fun hn_=>(.inr (Nat.le_trans (by first|exact HK.out.1|exact (show Kept w _ (fun k_=>P1_ k_) from iZ).1) hn_)))));replace HK:=am (Kept.then_ (S:=(fun k_=>P1_ k_)) iZ hkp (fun k_ hs_=>(fun e_=>(jl.out.1 k_ e_.symm)) hs_));replace HB:=am (hb);clear jl;(try clear hb);(try clear hkp);(try clear ho0);refine hK.out _ _ (mM j3.out) (fun hHeld=>?_);clear hK K;refine fC (a':=?_) ?_ ?_;rotate_left;·exact ap_ (N:=28)
     refine pr_ 9 1 (bz 10 1023) HT_ ?_;refine nP (lG HT_.out (by kernel_rfl)) ?_;obtain ⟨zU,zV,zW,zX,zY,zZ,J0,J1,J2,J3,J4,J5,J6,J7,J8,J9⟩:=fP j3.out;try go_wp2
     replace jo:=am (Kd.oJ jo.out);replace j3:=am (dA j3.out);replace HK:=am (Kept.drew HK.out);replace HB:=am (bI HB.out);refine lQ (n:=7) (S:=fun w'=>w'.cell? ⟨j4,0,none⟩=some (.int .i64 j5)∧w'.cell? ⟨j4,1,none⟩=some (.int .i64 je)∧w'.cell? ⟨j4,2,none⟩=some (.int .i64 jf)∧w'.cell? ⟨j4,3,none⟩=some (.int .i64 j6)∧w'.cell? ⟨j4,4,none⟩=some (.int .i64 j7)∧w'.cell? ⟨j4,5,none⟩=some (.slice jc j8.length jd)∧w'.cell? ⟨j4,6,none⟩=some (.slice jg jb.length jh)∧w'.cell? ⟨j4,7,none⟩=some (.slice ji ja.length jj)) (ds:=[]) (bz 7 0) (by kernel_rfl) rfl rfl (mM j3.out) (fun hHeld=>?_);generalize Qa.drew=QJ at jo j3 HK HB hHeld ⊢;refine uU (i:=0) (N:=some 33) (v:=?_) (a':=?_) (bz 7 1) rfl rfl (by kernel_rfl) (fun _ _ _ h=>h) (Or.inl ⟨by rfl,?_⟩) ?_ ?_;rotate_left
     ·intro w';go_simp
      with_reducible rfl
     rotate_left
     ·simp only [Act.put,sA,sB,sC,fA,fE];rfl
     refine uU (i:=2) (N:=some 35) (v:=?_) (a':=?_) (bz 7 5) rfl rfl (by kernel_rfl) (fun _ _ _ h=>h) (Or.inl ⟨by rfl,?_⟩) ?_ ?_;rotate_left
     ·intro w';go_simp
      with_reducible rfl
     rotate_left
     ·simp only [Act.put,sA,sB,sC,fA,fE];rfl
     refine vV (i:=1) (N:=some 34) (v:=?_) (a':=?_) (bz 7 7) rfl rfl (by kernel_rfl) (fun _ _ _ h=>h) (Or.inl ⟨by rfl,?_⟩) hHeld ?_ ?_;rotate_left
     ·rintro w' ⟨s0,s1,s2,s3,s4,s5,s6,s7⟩;go_simp
      with_reducible rfl
     rotate_left
     ·simp only [Act.put,sA,sB,sC,fA,fE];rfl
     refine iJ (i:=3) (N:=some 36) (bz 7 15) rfl rfl (by kernel_rfl) (by decide) (fun K hK=>?_);refine sU (w1:=?_) (v:=?_) (by rfl) rfl ?_ ?_;rotate_left 2
     ·go_simp;constructor;·rfl
      ·rfl
     refine hK.out _ _ (mM (dS j3.out _)) (fun hHeld=>?_);clear hK K;refine fC (a':=?_) ?_ ?_;rotate_left;·exact ap_ (N:=36)
     refine iJ (i:=4) (N:=some 37) (bz 7 31) rfl rfl (by kernel_rfl) (by decide) (fun K hK=>?_);refine Kd.lY Kd.string (w0:=w0) w0.heap.size (by rfl) (.tmp 35) (.tmp 36) 29 9 (.string ⟨#[]⟩) 16 rfl Tryz.underlying29 kU rfl (by decide) (by omega) qZ jB (⟨#[101,108,115,101]⟩:ByteArray) [.string (⟨#[101,108,115,101]⟩:ByteArray)] (fun k_=>(P1_ k_∨w.heap.size≤k_)) (fun _=>False) rfl rfl ?aP (fun _ hk=>hk.elim) ?aF ?aO ?aB ?aS ?aL ?_;(case aP=>exact rfl);(case aB=>exact kL);(case aF=>exact (fun k_ hk=>(.inr (Nat.le_trans (by first|exact HK.out.1|exact (show Kept w _ (fun k_=>P1_ k_) from iZ).1) hk))));(case aO=>exact (aR_ jo.out));(case aS=>exact (aI kL));(case aL=>have:=qU.out;omega);intro Qb QK ho hb hg hat
     rw [← qV.out] at ho;replace j3:=am (dL (g:=j4) (o:=.cells #[.int .i64 j5,.int .i64 je,.int .i64 jf,.int .i64 j6,.int .i64 j7,.slice jc j8.length jd,.slice jg jb.length jh,.slice ji ja.length jj] 58 (0,0)) (aG_ j3.out) hg (Kd.lC jo.out j3.out (by decide)));replace HB:=am (hb);replace HK:=am (Kept.gF (S:=(fun k_=>P1_ k_)) hg iZ (fun k_ e_=>(jo.out.1 k_ e_)));have jr:=am (ho);clear jo;clear ho hb hg hat
     obtain ⟨qi,qj,z0⟩:=Kd.eY jr.out
     (first|subst z0|(injection z0 with f1_ f2_ f3_;have f4_:=f1_.symm;have f5_:=f3_.symm;clear f1_ f2_ f3_;subst f4_;subst f5_))
     refine hK.out _ _ (mM j3.out) (fun hHeld=>?_);clear hK K;refine fC (a':=?_) ?_ ?_;rotate_left;·exact ap_ (N:=37)
     refine iJ (i:=5) (N:=some 38) (bz 7 63) rfl rfl (by kernel_rfl) (by decide) (fun K hK=>?_);refine iI Tryz.func21 (by kernel_rfl) rfl #[.slice ji ja.length jj,.slice qi jU.length qj] (by rfl) rfl rfl nG ?_
     with_reducible refine (ih_impl_blockTokens k (by omega) _ _ ja (fun k_=>some k_=(.slice qi jU.length qj:Value).ownBlock) (.slice qi jU.length qj) jU jT w0 _ ?side1 ?side2 qG.out ?side4 ?sideT Q9.out).mono ?_
     (case sideT=>first|exact ht_|exact Tab.below ht_ HB.out|exact Tab.below ht_ kL);(case side1=>exact kL);(case side2=>exact Kd.iU qF.out iZ (fun k_ hs_=>(fun e_=>(jr.out.1 k_ e_.symm)) hs_));(case side4=>exact Kd.lT rfl jr.out);rintro e QL ⟨Qc,rfl,ho0,hb,hkp⟩;refine ⟨_,rfl,?_⟩;replace j3:=am (kS (aG_ j3.out) hkp (fun hs_=>(fun e_=>(Kd.lC jr.out j3.out (by decide)) e_) hs_));have z1:=am (Kd.bN (ok':=fun k_=>(P1_ k_∨w.heap.size≤k_)) ho0 (fun k_ hk_=>Or.elim hk_ (fun hs_=>(jr.out.1 k_ (hs_).symm)) (fun hn_=>(.inr (Nat.le_trans (by first|exact HK.out.1|exact (show Kept w _ (fun k_=>P1_ k_) from iZ).1) hn_)))));replace HK:=am (Kept.then_ (S:=(fun k_=>P1_ k_)) iZ hkp (fun k_ hs_=>(fun e_=>(jr.out.1 k_ e_.symm)) hs_));replace HB:=am (hb);clear jr;(try clear hb);(try clear hkp);(try clear ho0);refine hK.out _ _ (mM j3.out) (fun hHeld=>?_);clear hK K;refine fC (a':=?_) ?_ ?_;rotate_left;·exact ap_ (N:=38)
     refine uU (i:=6) (N:=some 1) (v:=?_) (a':=?_) (bz 7 127) rfl rfl (by kernel_rfl) (fun _ _ _ h=>h) (Or.inl ⟨by rfl,?_⟩) ?_ ?_;rotate_left
     ·intro w';go_simp
      with_reducible rfl
     rotate_left
     ·simp only [Act.put,sA,sB,sC,fA,fE];rfl
     refine nP (by kernel_rfl) ?_;try go_wp2
     go_ret;exact ⟨_,gU,gI z1.out,kL,iZ⟩
    rw [if_neg zT] at H;cases H
   rw [if_neg qE] at H;have qS:decide (0 < (ja.length:Int))=false:=dF qE;have qT:decide (0 < ja.length)=false:=dF (by omega);clear qE;obtain rfl:=oI H;try go_wp2
   replace j9:=am (Kd.oJ j9.out);replace j3:=am (dA j3.out);replace HK:=am (Kept.drew HK.out);replace HB:=am (bI HB.out);refine lQ (n:=10) (S:=fun w'=>w'.cell? ⟨j4,0,none⟩=some (.int .i64 j5)∧w'.cell? ⟨j4,1,none⟩=some (.int .i64 je)∧w'.cell? ⟨j4,2,none⟩=some (.int .i64 jf)∧w'.cell? ⟨j4,3,none⟩=some (.int .i64 j6)∧w'.cell? ⟨j4,4,none⟩=some (.int .i64 j7)∧w'.cell? ⟨j4,5,none⟩=some (.slice jc j8.length jd)∧w'.cell? ⟨j4,6,none⟩=some (.slice jg jb.length jh)∧w'.cell? ⟨j4,7,none⟩=some (.slice ji ja.length jj)) (ds:=[]) (bz 10 0) (by kernel_rfl) rfl rfl (mM j3.out) (fun hHeld=>?_);refine iQ aT.aAj aT.IJ (fun HT_ HW_=>?_);generalize w8.drew=QM at j9 j3 HK HB hHeld ⊢;refine pr_ 0 20 (bz 10 1) HT_ ?_;refine pr_ 2 22 (bz 10 5) HT_ ?_;refine pr_ 4 24 (bz 10 21) HT_ ?_;refine yD 1 21 (bz 10 23) HT_ HW_ hHeld ?_;refine yD 3 23 (bz 10 31) HT_ HW_ hHeld ?_;refine iJ (i:=5) (N:=some 25) (bz 10 63) rfl rfl (eU HT_.out (by kernel_rfl)) (by decide) (fun K hK=>?_);refine sU (w1:=?_) (v:=?_) (by rfl) rfl ?_ ?_;rotate_left 2
   ·go_simp;constructor;·rfl
    ·rfl
   refine hK.out _ _ (mM (dS j3.out _)) (fun hHeld=>?_);clear hK K;refine fC (a':=?_) ?_ ?_;rotate_left;·exact ap_ (N:=25)
   refine iJ (i:=6) (N:=some 26) (bz 10 127) rfl rfl (eU HT_.out (by kernel_rfl)) (by decide) (fun K hK=>?_);refine Kd.lY Kd.string (w0:=w0) w0.heap.size (by rfl) (.tmp 24) (.tmp 25) 29 9 (.string ⟨#[]⟩) 16 rfl Tryz.underlying29 kU rfl (by decide) (by omega) jw l1 (⟨#[105,102]⟩:ByteArray) [.string (⟨#[105,102]⟩:ByteArray)] (fun k_=>(P1_ k_∨w.heap.size≤k_)) (fun _=>False) rfl rfl ?aP (fun _ hk=>hk.elim) ?aF ?aO ?aB ?aS ?aL ?_;(case aP=>exact rfl);(case aB=>exact kL);(case aF=>exact (fun k_ hk=>(.inr (Nat.le_trans (by first|exact HK.out.1|exact (show Kept w _ (fun k_=>P1_ k_) from iZ).1) hk))));(case aO=>exact (aR_ j9.out));(case aS=>exact (aI kL));(case aL=>have:=q4.out;omega);intro JU QN ho hb hg hat
   rw [← q5.out] at ho;replace j3:=am (dL (g:=j4) (o:=.cells #[.int .i64 j5,.int .i64 je,.int .i64 jf,.int .i64 j6,.int .i64 j7,.slice jc j8.length jd,.slice jg jb.length jh,.slice ji ja.length jj] 58 (0,0)) (aG_ j3.out) hg (Kd.lC j9.out j3.out (by decide)));replace HB:=am (hb);replace HK:=am (Kept.gF (S:=(fun k_=>P1_ k_)) hg iZ (fun k_ e_=>(j9.out.1 k_ e_)));have jk:=am (ho);clear j9;clear ho hb hg hat
   obtain ⟨qk,ql,z2⟩:=Kd.eY jk.out
   (first|subst z2|(injection z2 with f1_ f2_ f3_;have f4_:=f1_.symm;have f5_:=f3_.symm;clear f1_ f2_ f3_;subst f4_;subst f5_))
   refine hK.out _ _ (mM j3.out) (fun hHeld=>?_);clear hK K;refine fC (a':=?_) ?_ ?_;rotate_left;·exact ap_ (N:=26)
   refine iJ (i:=7) (N:=some 27) (bz 10 255) rfl rfl (eU HT_.out (by kernel_rfl)) (by decide) (fun K hK=>?_);refine iI Tryz.func65 (by kernel_rfl) rfl #[.agg #[.int .i64 j6,.int .i64 j7,.slice jc j8.length jd],.slice qk jA.length ql] (by rfl) rfl rfl nG ?_
   with_reducible refine (bH.calls k j6 j7 _ _ j8 (fun k_=>some k_=(.slice qk jA.length ql:Value).ownBlock) (.slice qk jA.length ql) jA jP w0 _ ?side1 ?side2 jz.out ?side4 ?sideT Q4.out).mono ?_
   (case sideT=>first|exact ht_|exact Tab.below ht_ HB.out|exact Tab.below ht_ kL);(case side1=>exact kL);(case side2=>exact Kd.iU jy.out iZ (fun k_ hs_=>(fun e_=>(jk.out.1 k_ e_.symm)) hs_));(case side4=>exact Kd.lT rfl jk.out);rintro e QO ⟨JV,rfl,ho0,hb,hkp⟩;refine ⟨_,rfl,?_⟩;replace j3:=am (kS (aG_ j3.out) hkp (fun hs_=>(fun e_=>(Kd.lC jk.out j3.out (by decide)) e_) hs_));have jl:=am (Kd.bN (ok':=fun k_=>(P1_ k_∨w.heap.size≤k_)) ho0 (fun k_ hk_=>Or.elim hk_ (fun hs_=>(jk.out.1 k_ (hs_).symm)) (fun hn_=>(.inr (Nat.le_trans (by first|exact HK.out.1|exact (show Kept w _ (fun k_=>P1_ k_) from iZ).1) hn_)))));replace HK:=am (Kept.then_ (S:=(fun k_=>P1_ k_)) iZ hkp (fun k_ hs_=>(fun e_=>(jk.out.1 k_ e_.symm)) hs_));replace HB:=am (hb);clear jk;(try clear hb);(try clear hkp);(try clear ho0);obtain ⟨qm,qn,z3⟩:=Kd.eY jl.out
   (first|subst z3|(injection z3 with f1_ f2_ f3_;have f4_:=f1_.symm;have f5_:=f3_.symm;clear f1_ f2_ f3_;subst f4_;subst f5_))
   refine hK.out _ _ (mM j3.out) (fun hHeld=>?_);clear hK K;refine fC (a':=?_) ?_ ?_;rotate_left;·exact ap_ (N:=27)
   refine iJ (i:=8) (N:=some 28) (bz 10 511) rfl rfl (eU HT_.out (by kernel_rfl)) (by decide) (fun K hK=>?_);refine iI Tryz.func21 (by kernel_rfl) rfl #[.slice jg jb.length jh,.slice qm jP.length qn] (by rfl) rfl rfl nG ?_
   with_reducible refine (ih_impl_blockTokens k (by omega) _ _ jb (fun k_=>some k_=(.slice qm jP.length qn:Value).ownBlock) (.slice qm jP.length qn) jP jB w0 _ ?side1 ?side2 jR.out ?side4 ?sideT Q5.out).mono ?_
   (case sideT=>first|exact ht_|exact Tab.below ht_ HB.out|exact Tab.below ht_ kL);(case side1=>exact kL);(case side2=>exact Kd.iU jQ.out iZ (fun k_ hs_=>(fun e_=>(jl.out.1 k_ e_.symm)) hs_));(case side4=>exact Kd.lT rfl jl.out);rintro e QP ⟨qZ,rfl,ho0,hb,hkp⟩;refine ⟨_,rfl,?_⟩;replace j3:=am (kS (aG_ j3.out) hkp (fun hs_=>(fun e_=>(Kd.lC jl.out j3.out (by decide)) e_) hs_));have jo:=am (Kd.bN (ok':=fun k_=>(P1_ k_∨w.heap.size≤k_)) ho0 (fun k_ hk_=>Or.elim hk_ (fun hs_=>(jl.out.1 k_ (hs_).symm)) (fun hn_=>(.inr (Nat.le_trans (by first|exact HK.out.1|exact (show Kept w _ (fun k_=>P1_ k_) from iZ).1) hn_)))));replace HK:=am (Kept.then_ (S:=(fun k_=>P1_ k_)) iZ hkp (fun k_ hs_=>(fun e_=>(jl.out.1 k_ e_.symm)) hs_));replace HB:=am (hb);clear jl;(try clear hb);(try clear hkp);(try clear ho0);refine hK.out _ _ (mM j3.out) (fun hHeld=>?_);clear hK K;refine fC (a':=?_) ?_ ?_;rotate_left;·exact ap_ (N:=28)
   refine pr_ 9 1 (bz 10 1023) HT_ ?_;refine nP (lG HT_.out (by kernel_rfl)) ?_;obtain ⟨Ja,Jb,Jc,Jd,Je,Jf,Jg,Jh,Ji,Jj,Jk,Jl,Jm,Jn,Jo,Jp⟩:=fP j3.out;try go_wp2
   go_ret;exact ⟨_,gU,gI jo.out,kL,iZ⟩
  rw [if_neg zS] at H;cases H
 rw [if_neg qd] at H;have qO:(j5 == 2)=false:=bE qd;have qP:(j5 != 2)=true:=bne_iff_ne.mpr qd;by_cases qo:j5=3
 ·rw [if_pos qo] at H;have z4:(j5 == 3)=true:=beq_iff_eq.mpr qo;have z5:(j5 != 3)=false:=bF qo;clear qo;by_cases Jq:l1.length < 8796093022208
  ·rw [if_pos Jq] at H;have z6:=am Jq;clear Jq;obtain ⟨jV,hy_⟩:∃ y_:List ByteArray,y_=(l1 ++ [(⟨#[119,104,105,108,101]⟩:ByteArray)]):=⟨_,rfl⟩;replace H:((bH.f k j6 j7 j8 jV).bind fun jE=>((bB.f k jb jE).bind fun qp=>(some qp)))=some r:=rx_;have z7:=am hy_;clear hy_;obtain ⟨jE,z8,H⟩:=bsm H;(try dsimp only at H);have Qd:=am z8;clear z8;obtain ⟨qp,Qe,H⟩:=bsa H;(try dsimp only at H);obtain rfl:=oI H;try go_wp2
   replace j9:=am (Kd.oJ j9.out);replace j3:=am (dA j3.out);replace HK:=am (Kept.drew HK.out);replace HB:=am (bI HB.out);refine lQ (n:=10) (S:=fun w'=>w'.cell? ⟨j4,0,none⟩=some (.int .i64 j5)∧w'.cell? ⟨j4,1,none⟩=some (.int .i64 je)∧w'.cell? ⟨j4,2,none⟩=some (.int .i64 jf)∧w'.cell? ⟨j4,3,none⟩=some (.int .i64 j6)∧w'.cell? ⟨j4,4,none⟩=some (.int .i64 j7)∧w'.cell? ⟨j4,5,none⟩=some (.slice jc j8.length jd)∧w'.cell? ⟨j4,6,none⟩=some (.slice jg jb.length jh)∧w'.cell? ⟨j4,7,none⟩=some (.slice ji ja.length jj)) (ds:=[]) (bz 10 0) (by kernel_rfl) rfl rfl (mM j3.out) (fun hHeld=>?_);refine iQ aT.aGs aT.aAz (fun HT_ HW_=>?_);generalize w8.drew=QQ at j9 j3 HK HB hHeld ⊢;refine pr_ 0 42 (bz 10 1) HT_ ?_;refine pr_ 2 44 (bz 10 5) HT_ ?_;refine pr_ 4 46 (bz 10 21) HT_ ?_;refine yD 1 43 (bz 10 23) HT_ HW_ hHeld ?_;refine yD 3 45 (bz 10 31) HT_ HW_ hHeld ?_;refine iJ (i:=5) (N:=some 47) (bz 10 63) rfl rfl (eU HT_.out (by kernel_rfl)) (by decide) (fun K hK=>?_);refine sU (w1:=?_) (v:=?_) (by rfl) rfl ?_ ?_;rotate_left 2
   ·go_simp;constructor;·rfl
    ·rfl
   refine hK.out _ _ (mM (dS j3.out _)) (fun hHeld=>?_);clear hK K;refine fC (a':=?_) ?_ ?_;rotate_left;·exact ap_ (N:=47)
   refine iJ (i:=6) (N:=some 48) (bz 10 127) rfl rfl (eU HT_.out (by kernel_rfl)) (by decide) (fun K hK=>?_);refine Kd.lY Kd.string (w0:=w0) w0.heap.size (by rfl) (.tmp 46) (.tmp 47) 29 9 (.string ⟨#[]⟩) 16 rfl Tryz.underlying29 kU rfl (by decide) (by omega) jw l1 (⟨#[119,104,105,108,101]⟩:ByteArray) [.string (⟨#[119,104,105,108,101]⟩:ByteArray)] (fun k_=>(P1_ k_∨w.heap.size≤k_)) (fun _=>False) rfl rfl ?aP (fun _ hk=>hk.elim) ?aF ?aO ?aB ?aS ?aL ?_;(case aP=>exact rfl);(case aB=>exact kL);(case aF=>exact (fun k_ hk=>(.inr (Nat.le_trans (by first|exact HK.out.1|exact (show Kept w _ (fun k_=>P1_ k_) from iZ).1) hk))));(case aO=>exact (aR_ j9.out));(case aS=>exact (aI kL));(case aL=>have:=z6.out;omega);intro Qf QR ho hb hg hat
   rw [← z7.out] at ho;replace j3:=am (dL (g:=j4) (o:=.cells #[.int .i64 j5,.int .i64 je,.int .i64 jf,.int .i64 j6,.int .i64 j7,.slice jc j8.length jd,.slice jg jb.length jh,.slice ji ja.length jj] 58 (0,0)) (aG_ j3.out) hg (Kd.lC j9.out j3.out (by decide)));replace HB:=am (hb);replace HK:=am (Kept.gF (S:=(fun k_=>P1_ k_)) hg iZ (fun k_ e_=>(j9.out.1 k_ e_)));have js:=am (ho);clear j9;clear ho hb hg hat
   obtain ⟨qq,qr,z9⟩:=Kd.eY js.out
   (first|subst z9|(injection z9 with f1_ f2_ f3_;have f4_:=f1_.symm;have f5_:=f3_.symm;clear f1_ f2_ f3_;subst f4_;subst f5_))
   refine hK.out _ _ (mM j3.out) (fun hHeld=>?_);clear hK K;refine fC (a':=?_) ?_ ?_;rotate_left;·exact ap_ (N:=48)
   refine iJ (i:=7) (N:=some 49) (bz 10 255) rfl rfl (eU HT_.out (by kernel_rfl)) (by decide) (fun K hK=>?_);refine iI Tryz.func65 (by kernel_rfl) rfl #[.agg #[.int .i64 j6,.int .i64 j7,.slice jc j8.length jd],.slice qq jV.length qr] (by rfl) rfl rfl nG ?_
   with_reducible refine (bH.calls k j6 j7 _ _ j8 (fun k_=>some k_=(.slice qq jV.length qr:Value).ownBlock) (.slice qq jV.length qr) jV jE w0 _ ?side1 ?side2 jz.out ?side4 ?sideT Qd.out).mono ?_
   (case sideT=>first|exact ht_|exact Tab.below ht_ HB.out|exact Tab.below ht_ kL);(case side1=>exact kL);(case side2=>exact Kd.iU jy.out iZ (fun k_ hs_=>(fun e_=>(js.out.1 k_ e_.symm)) hs_));(case side4=>exact Kd.lT rfl js.out);rintro e QS ⟨Qg,rfl,ho0,hb,hkp⟩;refine ⟨_,rfl,?_⟩;replace j3:=am (kS (aG_ j3.out) hkp (fun hs_=>(fun e_=>(Kd.lC js.out j3.out (by decide)) e_) hs_));have jt:=am (Kd.bN (ok':=fun k_=>(P1_ k_∨w.heap.size≤k_)) ho0 (fun k_ hk_=>Or.elim hk_ (fun hs_=>(js.out.1 k_ (hs_).symm)) (fun hn_=>(.inr (Nat.le_trans (by first|exact HK.out.1|exact (show Kept w _ (fun k_=>P1_ k_) from iZ).1) hn_)))));replace HK:=am (Kept.then_ (S:=(fun k_=>P1_ k_)) iZ hkp (fun k_ hs_=>(fun e_=>(js.out.1 k_ e_.symm)) hs_));replace HB:=am (hb);clear js;(try clear hb);(try clear hkp);(try clear ho0);obtain ⟨qs,qt,za⟩:=Kd.eY jt.out
   (first|subst za|(injection za with f1_ f2_ f3_;have f4_:=f1_.symm;have f5_:=f3_.symm;clear f1_ f2_ f3_;subst f4_;subst f5_))
   refine hK.out _ _ (mM j3.out) (fun hHeld=>?_);clear hK K;refine fC (a':=?_) ?_ ?_;rotate_left;·exact ap_ (N:=49)
   refine iJ (i:=8) (N:=some 50) (bz 10 511) rfl rfl (eU HT_.out (by kernel_rfl)) (by decide) (fun K hK=>?_);refine iI Tryz.func21 (by kernel_rfl) rfl #[.slice jg jb.length jh,.slice qs jE.length qt] (by rfl) rfl rfl nG ?_
   with_reducible refine (ih_impl_blockTokens k (by omega) _ _ jb (fun k_=>some k_=(.slice qs jE.length qt:Value).ownBlock) (.slice qs jE.length qt) jE qp w0 _ ?side1 ?side2 jR.out ?side4 ?sideT Qe.out).mono ?_
   (case sideT=>first|exact ht_|exact Tab.below ht_ HB.out|exact Tab.below ht_ kL);(case side1=>exact kL);(case side2=>exact Kd.iU jQ.out iZ (fun k_ hs_=>(fun e_=>(jt.out.1 k_ e_.symm)) hs_));(case side4=>exact Kd.lT rfl jt.out);rintro e QT ⟨Qh,rfl,ho0,hb,hkp⟩;refine ⟨_,rfl,?_⟩;replace j3:=am (kS (aG_ j3.out) hkp (fun hs_=>(fun e_=>(Kd.lC jt.out j3.out (by decide)) e_) hs_));have zb:=am (Kd.bN (ok':=fun k_=>(P1_ k_∨w.heap.size≤k_)) ho0 (fun k_ hk_=>Or.elim hk_ (fun hs_=>(jt.out.1 k_ (hs_).symm)) (fun hn_=>(.inr (Nat.le_trans (by first|exact HK.out.1|exact (show Kept w _ (fun k_=>P1_ k_) from iZ).1) hn_)))));replace HK:=am (Kept.then_ (S:=(fun k_=>P1_ k_)) iZ hkp (fun k_ hs_=>(fun e_=>(jt.out.1 k_ e_.symm)) hs_));replace HB:=am (hb);clear jt;(try clear hb);(try clear hkp);(try clear ho0);refine hK.out _ _ (mM j3.out) (fun hHeld=>?_);clear hK K;refine fC (a':=?_) ?_ ?_;rotate_left;·exact ap_ (N:=50)
   refine pr_ 9 4 (bz 10 1023) HT_ ?_;refine nP (lG HT_.out (by kernel_rfl)) ?_;try go_wp2
   go_ret;exact ⟨_,gU,gI zb.out,kL,iZ⟩
  rw [if_neg Jq] at H;cases H
 rw [if_neg qo] at H;have z4:(j5 == 3)=false:=bE qo;have z5:(j5 != 3)=true:=bne_iff_ne.mpr qo;by_cases qu:j5=4
 ·rw [if_pos qu] at H;have zc:(j5 == 4)=true:=beq_iff_eq.mpr qu;have zd:(j5 != 4)=false:=bF qu;clear qu;obtain ⟨jM,ze,H⟩:=bsm H;(try dsimp only at H);have Qi:=am ze;clear ze;obtain ⟨jC,hy_⟩:∃ y_:List ByteArray,y_=(([(⟨#[115,101,110,100]⟩:ByteArray),jM]:List ByteArray)):=⟨_,rfl⟩;replace H:(if l1.length + jC.length < 8796093022208 then ((bH.f k j6 j7 j8 (l1 ++ jC)).bind fun jx=>(if jx.length < 8796093022208 then (some (jx ++ [(⟨#[59]⟩:ByteArray)])) else (none))) else (none))=some r:=rx_;have q6:=am hy_;clear hy_;by_cases Jr:l1.length + jC.length < 8796093022208
  ·rw [if_pos Jr] at H;have zf:=am Jr;clear Jr;obtain ⟨jW,hy_⟩:∃ y_:List ByteArray,y_=(l1 ++ jC):=⟨_,rfl⟩;replace H:((bH.f k j6 j7 j8 jW).bind fun jx=>(if jx.length < 8796093022208 then (some (jx ++ [(⟨#[59]⟩:ByteArray)])) else (none)))=some r:=rx_;have zg:=am hy_;clear hy_;obtain ⟨jx,zh,H⟩:=bsm H;(try dsimp only at H);have Qj:=am zh;clear zh;by_cases Js:jx.length < 8796093022208
   ·rw [if_pos Js] at H;have zi:=am Js;clear Js;obtain ⟨JW,hy_⟩:∃ y_:List ByteArray,y_=(jx ++ [(⟨#[59]⟩:ByteArray)]):=⟨_,rfl⟩;replace H:(some JW)=some r:=rx_;have zj:=am hy_;clear hy_;obtain rfl:=oI H;try go_wp2
    replace j9:=am (Kd.oJ j9.out);replace j3:=am (dA j3.out);replace HK:=am (Kept.drew HK.out);replace HB:=am (bI HB.out);refine lQ (n:=10) (S:=fun w'=>w'.cell? ⟨j4,0,none⟩=some (.int .i64 j5)∧w'.cell? ⟨j4,1,none⟩=some (.int .i64 je)∧w'.cell? ⟨j4,2,none⟩=some (.int .i64 jf)∧w'.cell? ⟨j4,3,none⟩=some (.int .i64 j6)∧w'.cell? ⟨j4,4,none⟩=some (.int .i64 j7)∧w'.cell? ⟨j4,5,none⟩=some (.slice jc j8.length jd)∧w'.cell? ⟨j4,6,none⟩=some (.slice jg jb.length jh)∧w'.cell? ⟨j4,7,none⟩=some (.slice ji ja.length jj)) (ds:=[]) (bz 10 0) (by kernel_rfl) rfl rfl (mM j3.out) (fun hHeld=>?_);refine iQ aT.aLf aT.aJr (fun HT_ HW_=>?_);generalize w8.drew=QU at j9 j3 HK HB hHeld ⊢;refine pr_ 0 53 (bz 10 1) HT_ ?_;refine pr_ 2 55 (bz 10 5) HT_ ?_;refine pr_ 3 56 (bz 10 13) HT_ ?_;refine yD 1 54 (bz 10 15) HT_ HW_ hHeld ?_;refine yD 4 57 (bz 10 31) HT_ HW_ hHeld ?_;refine iJ (i:=5) (N:=some 58) (bz 10 63) rfl rfl (eU HT_.out (by kernel_rfl)) (by decide) (fun K hK=>?_);refine iI Tryz.func20 (by kernel_rfl) rfl #[.int .i64 jf] (by rfl) rfl rfl nG ?_
    with_reducible refine (iC.calls jf jM _ ?sideT Qi.out).mono ?_
    (case sideT=>first|exact ht_|exact Tab.below ht_ HB.out|exact Tab.below ht_ kL);rintro e QV ⟨rfl,hb⟩;refine ⟨_,rfl,?_⟩;replace j9:=am (Kd.fT (aR_ j9.out) hb);replace j3:=bbP j3 hb;replace HK:=am (Kept.below (S:=(fun k_=>P1_ k_)) iZ hb);replace HB:=am (aA kL hb);(try clear hb);(try clear hb2);(try clear hk);(try clear hi);refine hK.out _ _ (mM j3.out) (fun hHeld=>?_);clear hK K;refine fC (a':=?_) ?_ ?_;rotate_left;·exact ap_ (N:=58)
    refine iJ (i:=6) (N:=some 59) (bz 10 127) rfl rfl (eU HT_.out (by kernel_rfl)) (by decide) (fun K hK=>?_);refine Kd.nE Kd.string _ 9 rfl (N:=59) rfl (xs:=([(⟨#[115,101,110,100]⟩:ByteArray),jM]:List ByteArray)) (inner:=[.string (⟨#[115,101,110,100]⟩:ByteArray),.string jM]) (ok:=fun _=>True) (okp:=fun _=>True) rn_ ?hp (fun _ hk=>hk) trivial (Below.refl _ _) (Nat.le_refl _) (by simp) ?_;(case hp=>exact (dF.one (show Kd.M Kd.string _ _ _ (⟨#[115,101,110,100]⟩:ByteArray) [.string (⟨#[115,101,110,100]⟩:ByteArray)] from rfl) (dF.one (show Kd.M Kd.string _ _ _ jM [.string jM] from rfl) (dF.none _ _))));intro Qk QW ho69 hb hg_ hnew_;clear hg_ hnew_
    (first|rw [← q6.out] at ho69|(simp only [Int.reduceToNat] at ho69;rw [← q6.out] at ho69))
    have jn:=am (Kd.fB (Kd.lF (Kd.vG (M:=fun k_=>(P1_ k_∨w.heap.size≤k_)) ho69 (by first|exact HK.out.1|exact (show Kept w _ (fun k_=>P1_ k_) from iZ).1) (fun k_ h_=>.inr h_)) (Kd.iG (aR_ j9.out))) (aI kL));replace j9:=am (Kd.iD (aR_ j9.out) (Kd.iN ho69) hb);replace j3:=bbP j3 hb;replace HK:=am (Kept.below (S:=(fun k_=>P1_ k_)) iZ hb);replace HB:=am (aA kL hb);clear hb ho69;obtain ⟨qv,qw,zk⟩:=Kd.eY jn.out
    (first|subst zk|(injection zk with f1_ f2_ f3_;have f4_:=f1_.symm;have f5_:=f3_.symm;clear f1_ f2_ f3_;subst f4_;subst f5_))
    refine hK.out _ _ (mM j3.out) (fun hHeld=>?_);clear hK K;refine fC (a':=?_) ?_ ?_;rotate_left;·exact ap_ (N:=59)
    refine iJ (i:=7) (N:=some 60) (bz 10 255) rfl rfl (eU HT_.out (by kernel_rfl)) (by decide) (fun K hK=>?_);refine Kd.nD Kd.string (w0:=w0) w0.heap.size (by rfl) (.tmp 55) (.tmp 59) 29 9 (.string ⟨#[]⟩) 16 rfl Tryz.underlying29 kU rfl (by decide) (by omega) jw l1 jC _ _ _ (fun k_=>(P1_ k_∨w.heap.size≤k_)∧some k_≠(.slice qv jC.length qw:Value).ownBlock) (fun _=>False) rfl rfl ?aO ?aR (fun _ _ h=>h) (fun _ h=>h.elim) ?aF ?aB ?aS ?aL ?_;(case aR=>repeat (first|exact (Kd.eX jn.out).2.2|(with_reducible refine Kd.lS ?_ _)|(with_reducible refine Kd.kZ ?_ _)|(with_reducible refine Kd.mP ?_)));(case aB=>exact kL);(case aF=>exact (fun k_ hk=>⟨(.inr (Nat.le_trans (by first|exact HK.out.1|exact (show Kept w _ (fun k_=>P1_ k_) from iZ).1) hk)),Kd.fresh' (Kd.iG (aR_ jn.out)) k_ hk⟩));(case aO=>exact (aR_ j9.out));(case aS=>exact (aI kL));(case aL=>have:=zf.out;omega);intro Ql QX ho hb hg hat
    rw [← zg.out] at ho;replace j3:=am (dL (g:=j4) (o:=.cells #[.int .i64 j5,.int .i64 je,.int .i64 jf,.int .i64 j6,.int .i64 j7,.slice jc j8.length jd,.slice jg jb.length jh,.slice ji ja.length jj] 58 (0,0)) (aG_ j3.out) hg (Kd.lC j9.out j3.out (by decide)));replace jn:=am (Kd.iX (ok:=(fun k_=>(P1_ k_∨w.heap.size≤k_))) (gI (Kd.bN jn.out (fun _ hk=>⟨hk.1.1,hk.2⟩))) hg hat);replace HB:=am (hb);replace HK:=am (Kept.gF (S:=(fun k_=>P1_ k_)) hg iZ (fun k_ e_=>(j9.out.1 k_ e_).1));have ju:=am (ho);clear j9;clear ho hb hg hat
    obtain ⟨qx,qy,zl⟩:=Kd.eY ju.out
    (first|subst zl|(injection zl with f1_ f2_ f3_;have f4_:=f1_.symm;have f5_:=f3_.symm;clear f1_ f2_ f3_;subst f4_;subst f5_))
    refine hK.out _ _ (mM j3.out) (fun hHeld=>?_);clear hK K;refine fC (a':=?_) ?_ ?_;rotate_left;·exact ap_ (N:=60)
    refine iJ (i:=8) (N:=some 61) (bz 10 511) rfl rfl (eU HT_.out (by kernel_rfl)) (by decide) (fun K hK=>?_);refine iI Tryz.func65 (by kernel_rfl) rfl #[.agg #[.int .i64 j6,.int .i64 j7,.slice jc j8.length jd],.slice qx jW.length qy] (by rfl) rfl rfl nG ?_
    with_reducible refine (bH.calls k j6 j7 _ _ j8 (fun k_=>some k_=(.slice qx jW.length qy:Value).ownBlock) (.slice qx jW.length qy) jW jx w0 _ ?side1 ?side2 jz.out ?side4 ?sideT Qj.out).mono ?_
    (case sideT=>first|exact ht_|exact Tab.below ht_ HB.out|exact Tab.below ht_ kL);(case side1=>exact kL);(case side2=>exact Kd.iU jy.out iZ (fun k_ hs_=>(fun e_=>(ju.out.1 k_ e_.symm).1) hs_));(case side4=>exact Kd.lT rfl ju.out);rintro e QY ⟨zm,rfl,ho0,hb,hkp⟩;refine ⟨_,rfl,?_⟩;replace j3:=am (kS (aG_ j3.out) hkp (fun hs_=>(fun e_=>(Kd.lC ju.out j3.out (by decide)) e_) hs_));have jI:=am (Kd.bN (ok':=fun k_=>(P1_ k_∨w.heap.size≤k_)∧some k_≠(.slice qv jC.length qw:Value).ownBlock) ho0 (fun k_ hk_=>⟨Or.elim hk_ (fun hs_=>(ju.out.1 k_ (hs_).symm).1) (fun hn_=>(.inr (Nat.le_trans (by first|exact HK.out.1|exact (show Kept w _ (fun k_=>P1_ k_) from iZ).1) hn_))),Or.elim hk_ (fun hs_=>fun e_=>(((jn.out).1 k_ e_.symm).2) hs_) (fun hn_=>(Kd.fresh' (Kd.iG (aR_ jn.out)) k_ hn_))⟩));replace jn:=am (Kd.bN (ok':=fun k_=>(P1_ k_∨w.heap.size≤k_)∧some k_≠(zm:Value).ownBlock) (Kd.RP (jn.out) hkp (fun k_ hk_ hs_=>(hk_.2) hs_)) (fun k_ hk_=>⟨hk_.1.1,fun e_=>Or.elim (ho0.1 k_ e_.symm) (fun hs_=>hk_.2.1 hs_) (fun hn_=>Nat.not_le.2 hk_.2.2 hn_)⟩));replace HK:=am (Kept.then_ (S:=(fun k_=>P1_ k_)) iZ hkp (fun k_ hs_=>(fun e_=>(ju.out.1 k_ e_.symm).1) hs_));replace HB:=am (hb);clear ju;(try clear hb);(try clear hkp);(try clear ho0);refine hK.out _ _ (mM j3.out) (fun hHeld=>?_);clear hK K;refine fC (a':=?_) ?_ ?_;rotate_left;·exact ap_ (N:=61)
    refine pr_ 9 1 (bz 10 1023) HT_ ?_;refine nP (lG HT_.out (by kernel_rfl)) ?_;try go_wp2_with (first|((with_reducible refine dV (b:=.append) (xs:=#[.tmp 86,.tmp 87]) rfl ?_);at_builtin;refine Kd.kQ Kd.string (w0:=w0) w0.heap.size rfl (.tmp 86) (.tmp 87) 29 9 (.string ⟨#[]⟩) 16 rfl Tryz.underlying29 kU rfl (by decide) (by omega) zm jx (⟨#[59]⟩:ByteArray) [.string (⟨#[59]⟩:ByteArray)] (fun k_=>(P1_ k_∨w.heap.size≤k_)∧some k_≠(.slice qv jC.length qw:Value).ownBlock) (fun _=>False) rfl rfl ?aP (fun _ hk=>hk.elim) ?aF ?aO ?aB ?aS ?aL ?_;(case aP=>exact rfl);(case aB=>exact kL);(case aF=>exact (fun k_ hk=>⟨(.inr (Nat.le_trans (by first|exact HK.out.1|exact (show Kept w _ (fun k_=>P1_ k_) from iZ).1) hk)),Kd.fresh' (Kd.iG (aR_ jn.out)) k_ hk⟩));(case aO=>exact (aR_ jI.out));(case aS=>exact (aI kL));(case aL=>have:=zi.out;omega);intro Qm QZ ho hb hg hat;rw [← zj.out] at ho;replace j3:=am (dL (g:=j4) (o:=.cells #[.int .i64 j5,.int .i64 je,.int .i64 jf,.int .i64 j6,.int .i64 j7,.slice jc j8.length jd,.slice jg jb.length jh,.slice ji ja.length jj] 58 (0,0)) (aG_ j3.out) hg (Kd.lC jI.out j3.out (by decide)));replace jn:=am (Kd.iX (ok:=(fun k_=>(P1_ k_∨w.heap.size≤k_))) (aR_ jn.out) hg hat);replace HB:=am (hb);replace HK:=am (Kept.gF (S:=(fun k_=>P1_ k_)) hg iZ (fun k_ e_=>(jI.out.1 k_ e_).1));have zn:=am (ho);clear jI ho hb hg hat))
    go_ret;exact ⟨_,gU,gI (Kd.bN zn.out (fun _ hk=>hk.1)),kL,iZ⟩
   rw [if_neg Js] at H;cases H
  rw [if_neg Jr] at H;cases H
 rw [if_neg qu] at H;have zc:(j5 == 4)=false:=bE qu;have zd:(j5 != 4)=true:=bne_iff_ne.mpr qu;by_cases qz:j5=5
 ·rw [if_pos qz] at H;have zo:(j5 == 5)=true:=beq_iff_eq.mpr qz;have zp:(j5 != 5)=false:=bF qz;clear qz;obtain ⟨jN,zr,H⟩:=bsm H;(try dsimp only at H);have Qn:=am zr;clear zr;obtain ⟨jO,zs,H⟩:=bsm H;(try dsimp only at H);have Qo:=am zs;clear zs;obtain ⟨jF,hy_⟩:∃ y_:List ByteArray,y_=(([(⟨#[114,101,99,118]⟩:ByteArray),jN,jO]:List ByteArray)):=⟨_,rfl⟩;replace H:(if l1.length + jF.length < 8796093022208 then ((some (l1 ++ jF:List ByteArray)).bind fun jD=>(if jD.length < 8796093022208 then (some (jD ++ [(⟨#[59]⟩:ByteArray)])) else (none))) else (none))=some r:=rx_;have q7:=am hy_;clear hy_;by_cases Jt:l1.length + jF.length < 8796093022208
  ·rw [if_pos Jt] at H;have zt:=am Jt;clear Jt;obtain ⟨jD,hy_⟩:∃ y_:List ByteArray,y_=(l1 ++ jF):=⟨_,rfl⟩;replace H:(if jD.length < 8796093022208 then (some (jD ++ [(⟨#[59]⟩:ByteArray)])) else (none))=some r:=rx_;have zu:=am hy_;clear hy_;by_cases Ju:jD.length < 8796093022208
   ·rw [if_pos Ju] at H;have zv:=am Ju;clear Ju;obtain ⟨JX,hy_⟩:∃ y_:List ByteArray,y_=(jD ++ [(⟨#[59]⟩:ByteArray)]):=⟨_,rfl⟩;replace H:(some JX)=some r:=rx_;have zw:=am hy_;clear hy_;obtain rfl:=oI H;try go_wp2
    replace j9:=am (Kd.oJ j9.out);replace j3:=am (dA j3.out);replace HK:=am (Kept.drew HK.out);replace HB:=am (bI HB.out);refine lQ (n:=10) (S:=fun w'=>w'.cell? ⟨j4,0,none⟩=some (.int .i64 j5)∧w'.cell? ⟨j4,1,none⟩=some (.int .i64 je)∧w'.cell? ⟨j4,2,none⟩=some (.int .i64 jf)∧w'.cell? ⟨j4,3,none⟩=some (.int .i64 j6)∧w'.cell? ⟨j4,4,none⟩=some (.int .i64 j7)∧w'.cell? ⟨j4,5,none⟩=some (.slice jc j8.length jd)∧w'.cell? ⟨j4,6,none⟩=some (.slice jg jb.length jh)∧w'.cell? ⟨j4,7,none⟩=some (.slice ji ja.length jj)) (ds:=[]) (bz 10 0) (by kernel_rfl) rfl rfl (mM j3.out) (fun hHeld=>?_);refine iQ aT.aLg aT.aJs (fun HT_ HW_=>?_);generalize w8.drew=Z0 at j9 j3 HK HB hHeld ⊢;refine pr_ 0 64 (bz 10 1) HT_ ?_;refine pr_ 1 65 (bz 10 3) HT_ ?_;refine pr_ 4 68 (bz 10 19) HT_ ?_;refine yD 2 66 (bz 10 23) HT_ HW_ hHeld ?_;refine yD 5 69 (bz 10 55) HT_ HW_ hHeld ?_;refine iJ (i:=3) (N:=some 67) (bz 10 63) rfl rfl (eU HT_.out (by kernel_rfl)) (by decide) (fun K hK=>?_);refine iI Tryz.func20 (by kernel_rfl) rfl #[.int .i64 jf] (by rfl) rfl rfl nG ?_
    with_reducible refine (iC.calls jf jN _ ?sideT Qn.out).mono ?_
    (case sideT=>first|exact ht_|exact Tab.below ht_ HB.out|exact Tab.below ht_ kL);rintro e Z1 ⟨rfl,hb⟩;refine ⟨_,rfl,?_⟩;replace j9:=am (Kd.fT (aR_ j9.out) hb);replace j3:=bbP j3 hb;replace HK:=am (Kept.below (S:=(fun k_=>P1_ k_)) iZ hb);replace HB:=am (aA kL hb);(try clear hb);(try clear hb2);(try clear hk);(try clear hi);refine hK.out _ _ (mM j3.out) (fun hHeld=>?_);clear hK K;refine fC (a':=?_) ?_ ?_;rotate_left;·exact ap_ (N:=67)
    refine iJ (i:=6) (N:=some 70) (bz 10 127) rfl rfl (eU HT_.out (by kernel_rfl)) (by decide) (fun K hK=>?_);refine iI Tryz.func66 (by kernel_rfl) rfl #[.int .i64 je] (by rfl) rfl rfl nG ?_
    with_reducible refine (lH.calls je jO _ Qo.out).mono ?_
    rintro e w' ⟨rfl,⟨nd,rfl⟩⟩;refine ⟨_,rfl,?_⟩;refine hK.out _ _ (mM j3.out) (fun hHeld=>?_);clear hK K;refine fC (a':=?_) ?_ ?_;rotate_left;·exact ap_ (N:=70)
    refine iJ (i:=7) (N:=some 71) (bz 10 255) rfl rfl (eU HT_.out (by kernel_rfl)) (by decide) (fun K hK=>?_);refine Kd.nE Kd.string _ 9 rfl (N:=71) rfl (xs:=([(⟨#[114,101,99,118]⟩:ByteArray),jN,jO]:List ByteArray)) (inner:=[.string (⟨#[114,101,99,118]⟩:ByteArray),.string jN,.string jO]) (ok:=fun _=>True) (okp:=fun _=>True) rn_ ?hp (fun _ hk=>hk) trivial (Below.refl _ _) (Nat.le_refl _) (by simp) ?_;(case hp=>exact (dF.one (show Kd.M Kd.string _ _ _ (⟨#[114,101,99,118]⟩:ByteArray) [.string (⟨#[114,101,99,118]⟩:ByteArray)] from rfl) (dF.one (show Kd.M Kd.string _ _ _ jN [.string jN] from rfl) (dF.one (show Kd.M Kd.string _ _ _ jO [.string jO] from rfl) (dF.none _ _)))));intro Qp Z2 ho85 hb hg_ hnew_;clear hg_ hnew_
    (first|rw [← q7.out] at ho85|(simp only [Int.reduceToNat] at ho85;rw [← q7.out] at ho85))
    have jp:=am (Kd.fB (Kd.lF (Kd.vG (M:=fun k_=>(P1_ k_∨w.heap.size≤k_)) ho85 (by first|exact HK.out.1|exact (show Kept w _ (fun k_=>P1_ k_) from iZ).1) (fun k_ h_=>.inr h_)) (Kd.iG (aR_ j9.out))) (aI kL));replace j9:=am (Kd.iD (aR_ j9.out) (Kd.iN ho85) hb);replace j3:=bbP j3 hb;replace HK:=am (Kept.below (S:=(fun k_=>P1_ k_)) iZ hb);replace HB:=am (aA kL hb);clear hb ho85;obtain ⟨zx,zy,zz⟩:=Kd.eY jp.out
    (first|subst zz|(injection zz with f1_ f2_ f3_;have f4_:=f1_.symm;have f5_:=f3_.symm;clear f1_ f2_ f3_;subst f4_;subst f5_))
    refine hK.out _ _ (mM j3.out) (fun hHeld=>?_);clear hK K;refine fC (a':=?_) ?_ ?_;rotate_left;·exact ap_ (N:=71)
    refine iJ (i:=8) (N:=some 72) (bz 10 511) rfl rfl (eU HT_.out (by kernel_rfl)) (by decide) (fun K hK=>?_);refine Kd.nD Kd.string (w0:=w0) w0.heap.size (by rfl) (.tmp 64) (.tmp 71) 29 9 (.string ⟨#[]⟩) 16 rfl Tryz.underlying29 kU rfl (by decide) (by omega) jw l1 jF _ _ _ (fun k_=>(P1_ k_∨w.heap.size≤k_)∧some k_≠(.slice zx jF.length zy:Value).ownBlock) (fun _=>False) rfl rfl ?aO ?aR (fun _ _ h=>h) (fun _ h=>h.elim) ?aF ?aB ?aS ?aL ?_;(case aR=>repeat (first|exact (Kd.eX jp.out).2.2|(with_reducible refine Kd.lS ?_ _)|(with_reducible refine Kd.kZ ?_ _)|(with_reducible refine Kd.mP ?_)));(case aB=>exact kL);(case aF=>exact (fun k_ hk=>⟨(.inr (Nat.le_trans (by first|exact HK.out.1|exact (show Kept w _ (fun k_=>P1_ k_) from iZ).1) hk)),Kd.fresh' (Kd.iG (aR_ jp.out)) k_ hk⟩));(case aO=>exact (aR_ j9.out));(case aS=>exact (aI kL));(case aL=>have:=zt.out;omega);intro JY Z3 ho hb hg hat
    rw [← zu.out] at ho;replace j3:=am (dL (g:=j4) (o:=.cells #[.int .i64 j5,.int .i64 je,.int .i64 jf,.int .i64 j6,.int .i64 j7,.slice jc j8.length jd,.slice jg jb.length jh,.slice ji ja.length jj] 58 (0,0)) (aG_ j3.out) hg (Kd.lC j9.out j3.out (by decide)));replace jp:=am (Kd.iX (ok:=(fun k_=>(P1_ k_∨w.heap.size≤k_))) (gI (Kd.bN jp.out (fun _ hk=>⟨hk.1.1,hk.2⟩))) hg hat);replace HB:=am (hb);replace HK:=am (Kept.gF (S:=(fun k_=>P1_ k_)) hg iZ (fun k_ e_=>(j9.out.1 k_ e_).1));have jJ:=am (ho);clear j9;clear ho hb hg hat
    refine hK.out _ _ (mM j3.out) (fun hHeld=>?_);clear hK K;refine fC (a':=?_) ?_ ?_;rotate_left;·exact ap_ (N:=72)
    refine pr_ 9 1 (bz 10 1023) HT_ ?_;refine nP (lG HT_.out (by kernel_rfl)) ?_;try go_wp2_with (first|((with_reducible refine dV (b:=.append) (xs:=#[.tmp 86,.tmp 87]) rfl ?_);at_builtin;refine Kd.kQ Kd.string (w0:=w0) w0.heap.size rfl (.tmp 86) (.tmp 87) 29 9 (.string ⟨#[]⟩) 16 rfl Tryz.underlying29 kU rfl (by decide) (by omega) JY jD (⟨#[59]⟩:ByteArray) [.string (⟨#[59]⟩:ByteArray)] (fun k_=>(P1_ k_∨w.heap.size≤k_)∧some k_≠(.slice zx jF.length zy:Value).ownBlock) (fun _=>False) rfl rfl ?aP (fun _ hk=>hk.elim) ?aF ?aO ?aB ?aS ?aL ?_;(case aP=>exact rfl);(case aB=>exact kL);(case aF=>exact (fun k_ hk=>⟨(.inr (Nat.le_trans (by first|exact HK.out.1|exact (show Kept w _ (fun k_=>P1_ k_) from iZ).1) hk)),Kd.fresh' (Kd.iG (aR_ jp.out)) k_ hk⟩));(case aO=>exact (aR_ jJ.out));(case aS=>exact (aI kL));(case aL=>have:=zv.out;omega);intro Qq Z4 ho hb hg hat;rw [← zw.out] at ho;replace j3:=am (dL (g:=j4) (o:=.cells #[.int .i64 j5,.int .i64 je,.int .i64 jf,.int .i64 j6,.int .i64 j7,.slice jc j8.length jd,.slice jg jb.length jh,.slice ji ja.length jj] 58 (0,0)) (aG_ j3.out) hg (Kd.lC jJ.out j3.out (by decide)));replace jp:=am (Kd.iX (ok:=(fun k_=>(P1_ k_∨w.heap.size≤k_))) (aR_ jp.out) hg hat);replace HB:=am (hb);replace HK:=am (Kept.gF (S:=(fun k_=>P1_ k_)) hg iZ (fun k_ e_=>(jJ.out.1 k_ e_).1));have zA:=am (ho);clear jJ ho hb hg hat))
    go_ret;exact ⟨_,gU,gI (Kd.bN zA.out (fun _ hk=>hk.1)),kL,iZ⟩
   rw [if_neg Ju] at H;cases H
  rw [if_neg Jt] at H;cases H
 rw [if_neg qz] at H;have zo:(j5 == 5)=false:=bE qz;have zp:(j5 != 5)=true:=bne_iff_ne.mpr qz;by_cases qA:j5=6
 ·rw [if_pos qA] at H;have zB:(j5 == 6)=true:=beq_iff_eq.mpr qA;have zC:(j5 != 6)=false:=bF qA;clear qA;by_cases Jv:l1.length < 8796093022208
  ·rw [if_pos Jv] at H;have zD:=am Jv;clear Jv;obtain ⟨jX,hy_⟩:∃ y_:List ByteArray,y_=(l1 ++ [(⟨#[121,105,101,108,100]⟩:ByteArray)]):=⟨_,rfl⟩;replace H:(if jX.length < 8796093022208 then (some (jX ++ [(⟨#[59]⟩:ByteArray)])) else (none))=some r:=rx_;have zE:=am hy_;clear hy_;by_cases Jw:jX.length < 8796093022208
   ·rw [if_pos Jw] at H;have zF:=am Jw;clear Jw;obtain ⟨JZ,hy_⟩:∃ y_:List ByteArray,y_=(jX ++ [(⟨#[59]⟩:ByteArray)]):=⟨_,rfl⟩;replace H:(some JZ)=some r:=rx_;have zG:=am hy_;clear hy_;obtain rfl:=oI H;go_wp2_with (first|((with_reducible refine dV (b:=.append) (xs:=#[.tmp 75,.tmp 76]) rfl ?_);at_builtin;refine Kd.kQ Kd.string (w0:=w0) w0.heap.size rfl (.tmp 75) (.tmp 76) 29 9 (.string ⟨#[]⟩) 16 rfl Tryz.underlying29 kU rfl (by decide) (by omega) jw l1 (⟨#[121,105,101,108,100]⟩:ByteArray) [.string (⟨#[121,105,101,108,100]⟩:ByteArray)] (fun k_=>(P1_ k_∨w.heap.size≤k_)) (fun _=>False) rfl rfl ?aP (fun _ hk=>hk.elim) ?aF ?aO ?aB ?aS ?aL ?_;(case aP=>exact rfl);(case aB=>exact kL);(case aF=>exact (fun k_ hk=>(.inr (Nat.le_trans (by first|exact HK.out.1|exact (show Kept w _ (fun k_=>P1_ k_) from iZ).1) hk))));(case aO=>exact (aR_ j9.out));(case aS=>exact (aI kL));(case aL=>have:=zD.out;omega);intro Q0 Z5 ho hb hg hat;rw [← zE.out] at ho;replace j3:=am (dL (g:=j4) (o:=.cells #[.int .i64 j5,.int .i64 je,.int .i64 jf,.int .i64 j6,.int .i64 j7,.slice jc j8.length jd,.slice jg jb.length jh,.slice ji ja.length jj] 58 (0,0)) (aG_ j3.out) hg (Kd.lC j9.out j3.out (by decide)));replace HB:=am (hb);replace HK:=am (Kept.gF (S:=(fun k_=>P1_ k_)) hg iZ (fun k_ e_=>(j9.out.1 k_ e_)));have jK:=am (ho);clear j9 ho hb hg hat)|((with_reducible refine dV (b:=.append) (xs:=#[.tmp 86,.tmp 87]) rfl ?_);at_builtin;refine Kd.kQ Kd.string (w0:=w0) w0.heap.size rfl (.tmp 86) (.tmp 87) 29 9 (.string ⟨#[]⟩) 16 rfl Tryz.underlying29 kU rfl (by decide) (by omega) Q0 jX (⟨#[59]⟩:ByteArray) [.string (⟨#[59]⟩:ByteArray)] (fun k_=>(P1_ k_∨w.heap.size≤k_)) (fun _=>False) rfl rfl ?aP (fun _ hk=>hk.elim) ?aF ?aO ?aB ?aS ?aL ?_;(case aP=>exact rfl);(case aB=>exact kL);(case aF=>exact (fun k_ hk=>(.inr (Nat.le_trans (by first|exact HK.out.1|exact (show Kept w _ (fun k_=>P1_ k_) from iZ).1) hk))));(case aO=>exact (aR_ jK.out));(case aS=>exact (aI kL));(case aL=>have:=zF.out;omega);intro Qr Z6 ho hb hg hat;rw [← zG.out] at ho;replace j3:=am (dL (g:=j4) (o:=.cells #[.int .i64 j5,.int .i64 je,.int .i64 jf,.int .i64 j6,.int .i64 j7,.slice jc j8.length jd,.slice jg jb.length jh,.slice ji ja.length jj] 58 (0,0)) (aG_ j3.out) hg (Kd.lC jK.out j3.out (by decide)));replace HB:=am (hb);replace HK:=am (Kept.gF (S:=(fun k_=>P1_ k_)) hg iZ (fun k_ e_=>(jK.out.1 k_ e_)));have zH:=am (ho);clear jK ho hb hg hat));go_ret;exact ⟨_,gU,gI zH.out,kL,iZ⟩
   rw [if_neg Jw] at H;cases H
  rw [if_neg Jv] at H;cases H
 rw [if_neg qA] at H;have zB:(j5 == 6)=false:=bE qA;have zC:(j5 != 6)=true:=bne_iff_ne.mpr qA;by_cases qB:j5=7
 ·rw [if_pos qB] at H;have zI:(j5 == 7)=true:=beq_iff_eq.mpr qB;have zJ:(j5 != 7)=false:=bF qB;clear qB;by_cases Jx:l1.length < 8796093022208
  ·rw [if_pos Jx] at H;have zK:=am Jx;clear Jx;obtain ⟨jY,hy_⟩:∃ y_:List ByteArray,y_=(l1 ++ [(⟨#[112,114,105,110,116]⟩:ByteArray)]):=⟨_,rfl⟩;replace H:((bH.f k j6 j7 j8 jY).bind fun jG=>(if jG.length < 8796093022208 then (some (jG ++ [(⟨#[59]⟩:ByteArray)])) else (none)))=some r:=rx_;have zL:=am hy_;clear hy_;obtain ⟨jG,zM,H⟩:=bsm H;(try dsimp only at H);have Qs:=am zM;clear zM;by_cases Jy:jG.length < 8796093022208
   ·rw [if_pos Jy] at H;have zN:=am Jy;clear Jy;obtain ⟨Q1,hy_⟩:∃ y_:List ByteArray,y_=(jG ++ [(⟨#[59]⟩:ByteArray)]):=⟨_,rfl⟩;replace H:(some Q1)=some r:=rx_;have zO:=am hy_;clear hy_;obtain rfl:=oI H;try go_wp2
    replace j9:=am (Kd.oJ j9.out);replace j3:=am (dA j3.out);replace HK:=am (Kept.drew HK.out);replace HB:=am (bI HB.out);refine lQ (n:=7) (S:=fun w'=>w'.cell? ⟨j4,0,none⟩=some (.int .i64 j5)∧w'.cell? ⟨j4,1,none⟩=some (.int .i64 je)∧w'.cell? ⟨j4,2,none⟩=some (.int .i64 jf)∧w'.cell? ⟨j4,3,none⟩=some (.int .i64 j6)∧w'.cell? ⟨j4,4,none⟩=some (.int .i64 j7)∧w'.cell? ⟨j4,5,none⟩=some (.slice jc j8.length jd)∧w'.cell? ⟨j4,6,none⟩=some (.slice jg jb.length jh)∧w'.cell? ⟨j4,7,none⟩=some (.slice ji ja.length jj)) (ds:=[]) (bz 7 0) (by kernel_rfl) rfl rfl (mM j3.out) (fun hHeld=>?_);generalize w8.drew=Qt at j9 j3 HK HB hHeld ⊢;refine uU (i:=0) (N:=some 80) (v:=?_) (a':=?_) (bz 7 1) rfl rfl (by kernel_rfl) (fun _ _ _ h=>h) (Or.inl ⟨by rfl,?_⟩) ?_ ?_;rotate_left
    ·intro w';go_simp
     with_reducible rfl
    rotate_left
    ·simp only [Act.put,sA,sB,sC,fA,fE];rfl
    refine uU (i:=2) (N:=some 82) (v:=?_) (a':=?_) (bz 7 5) rfl rfl (by kernel_rfl) (fun _ _ _ h=>h) (Or.inl ⟨by rfl,?_⟩) ?_ ?_;rotate_left
    ·intro w';go_simp
     with_reducible rfl
    rotate_left
    ·simp only [Act.put,sA,sB,sC,fA,fE];rfl
    refine vV (i:=1) (N:=some 81) (v:=?_) (a':=?_) (bz 7 7) rfl rfl (by kernel_rfl) (fun _ _ _ h=>h) (Or.inl ⟨by rfl,?_⟩) hHeld ?_ ?_;rotate_left
    ·rintro w' ⟨s0,s1,s2,s3,s4,s5,s6,s7⟩;go_simp
     with_reducible rfl
    rotate_left
    ·simp only [Act.put,sA,sB,sC,fA,fE];rfl
    refine iJ (i:=3) (N:=some 83) (bz 7 15) rfl rfl (by kernel_rfl) (by decide) (fun K hK=>?_);refine sU (w1:=?_) (v:=?_) (by rfl) rfl ?_ ?_;rotate_left 2
    ·go_simp;constructor;·rfl
     ·rfl
    refine hK.out _ _ (mM (dS j3.out _)) (fun hHeld=>?_);clear hK K;refine fC (a':=?_) ?_ ?_;rotate_left;·exact ap_ (N:=83)
    refine iJ (i:=4) (N:=some 84) (bz 7 31) rfl rfl (by kernel_rfl) (by decide) (fun K hK=>?_);refine Kd.lY Kd.string (w0:=w0) w0.heap.size (by rfl) (.tmp 82) (.tmp 83) 29 9 (.string ⟨#[]⟩) 16 rfl Tryz.underlying29 kU rfl (by decide) (by omega) jw l1 (⟨#[112,114,105,110,116]⟩:ByteArray) [.string (⟨#[112,114,105,110,116]⟩:ByteArray)] (fun k_=>(P1_ k_∨w.heap.size≤k_)) (fun _=>False) rfl rfl ?aP (fun _ hk=>hk.elim) ?aF ?aO ?aB ?aS ?aL ?_;(case aP=>exact rfl);(case aB=>exact kL);(case aF=>exact (fun k_ hk=>(.inr (Nat.le_trans (by first|exact HK.out.1|exact (show Kept w _ (fun k_=>P1_ k_) from iZ).1) hk))));(case aO=>exact (aR_ j9.out));(case aS=>exact (aI kL));(case aL=>have:=zK.out;omega);intro Qu Qv ho hb hg hat
    rw [← zL.out] at ho;replace j3:=am (dL (g:=j4) (o:=.cells #[.int .i64 j5,.int .i64 je,.int .i64 jf,.int .i64 j6,.int .i64 j7,.slice jc j8.length jd,.slice jg jb.length jh,.slice ji ja.length jj] 58 (0,0)) (aG_ j3.out) hg (Kd.lC j9.out j3.out (by decide)));replace HB:=am (hb);replace HK:=am (Kept.gF (S:=(fun k_=>P1_ k_)) hg iZ (fun k_ e_=>(j9.out.1 k_ e_)));have jv:=am (ho);clear j9;clear ho hb hg hat
    obtain ⟨jZ,q0,q8⟩:=Kd.eY jv.out
    (first|subst q8|(injection q8 with f1_ f2_ f3_;have f4_:=f1_.symm;have f5_:=f3_.symm;clear f1_ f2_ f3_;subst f4_;subst f5_))
    refine hK.out _ _ (mM j3.out) (fun hHeld=>?_);clear hK K;refine fC (a':=?_) ?_ ?_;rotate_left;·exact ap_ (N:=84)
    refine iJ (i:=5) (N:=some 85) (bz 7 63) rfl rfl (by kernel_rfl) (by decide) (fun K hK=>?_);refine iI Tryz.func65 (by kernel_rfl) rfl #[.agg #[.int .i64 j6,.int .i64 j7,.slice jc j8.length jd],.slice jZ jY.length q0] (by rfl) rfl rfl nG ?_
    with_reducible refine (bH.calls k j6 j7 _ _ j8 (fun k_=>some k_=(.slice jZ jY.length q0:Value).ownBlock) (.slice jZ jY.length q0) jY jG w0 _ ?side1 ?side2 jz.out ?side4 ?sideT Qs.out).mono ?_
    (case sideT=>first|exact ht_|exact Tab.below ht_ HB.out|exact Tab.below ht_ kL);(case side1=>exact kL);(case side2=>exact Kd.iU jy.out iZ (fun k_ hs_=>(fun e_=>(jv.out.1 k_ e_.symm)) hs_));(case side4=>exact Kd.lT rfl jv.out);rintro e Qw ⟨Q2,rfl,ho0,hb,hkp⟩;refine ⟨_,rfl,?_⟩;replace j3:=am (kS (aG_ j3.out) hkp (fun hs_=>(fun e_=>(Kd.lC jv.out j3.out (by decide)) e_) hs_));have jL:=am (Kd.bN (ok':=fun k_=>(P1_ k_∨w.heap.size≤k_)) ho0 (fun k_ hk_=>Or.elim hk_ (fun hs_=>(jv.out.1 k_ (hs_).symm)) (fun hn_=>(.inr (Nat.le_trans (by first|exact HK.out.1|exact (show Kept w _ (fun k_=>P1_ k_) from iZ).1) hn_)))));replace HK:=am (Kept.then_ (S:=(fun k_=>P1_ k_)) iZ hkp (fun k_ hs_=>(fun e_=>(jv.out.1 k_ e_.symm)) hs_));replace HB:=am (hb);clear jv;(try clear hb);(try clear hkp);(try clear ho0);refine hK.out _ _ (mM j3.out) (fun hHeld=>?_);clear hK K;refine fC (a':=?_) ?_ ?_;rotate_left;·exact ap_ (N:=85)
    refine uU (i:=6) (N:=some 1) (v:=?_) (a':=?_) (bz 7 127) rfl rfl (by kernel_rfl) (fun _ _ _ h=>h) (Or.inl ⟨by rfl,?_⟩) ?_ ?_;rotate_left
    ·intro w';go_simp
     with_reducible rfl
    rotate_left
    ·simp only [Act.put,sA,sB,sC,fA,fE];rfl
    refine nP (by kernel_rfl) ?_;try go_wp2_with (first|((with_reducible refine dV (b:=.append) (xs:=#[.tmp 86,.tmp 87]) rfl ?_);at_builtin;refine Kd.kQ Kd.string (w0:=w0) w0.heap.size rfl (.tmp 86) (.tmp 87) 29 9 (.string ⟨#[]⟩) 16 rfl Tryz.underlying29 kU rfl (by decide) (by omega) Q2 jG (⟨#[59]⟩:ByteArray) [.string (⟨#[59]⟩:ByteArray)] (fun k_=>(P1_ k_∨w.heap.size≤k_)) (fun _=>False) rfl rfl ?aP (fun _ hk=>hk.elim) ?aF ?aO ?aB ?aS ?aL ?_;(case aP=>exact rfl);(case aB=>exact kL);(case aF=>exact (fun k_ hk=>(.inr (Nat.le_trans (by first|exact HK.out.1|exact (show Kept w _ (fun k_=>P1_ k_) from iZ).1) hk))));(case aO=>exact (aR_ jL.out));(case aS=>exact (aI kL));(case aL=>have:=zN.out;omega);intro Qx Qy ho hb hg hat;rw [← zO.out] at ho;replace j3:=am (dL (g:=j4) (o:=.cells #[.int .i64 j5,.int .i64 je,.int .i64 jf,.int .i64 j6,.int .i64 j7,.slice jc j8.length jd,.slice jg jb.length jh,.slice ji ja.length jj] 58 (0,0)) (aG_ j3.out) hg (Kd.lC jL.out j3.out (by decide)));replace HB:=am (hb);replace HK:=am (Kept.gF (S:=(fun k_=>P1_ k_)) hg iZ (fun k_ e_=>(jL.out.1 k_ e_)));have zP:=am (ho);clear jL ho hb hg hat))
    go_ret;exact ⟨_,gU,gI zP.out,kL,iZ⟩
   rw [if_neg Jy] at H;cases H
  rw [if_neg Jx] at H;cases H
 rw [if_neg qB] at H;have zI:(j5 == 7)=false:=bE qB;have zJ:(j5 != 7)=true:=bne_iff_ne.mpr qB;by_cases q2:l1.length < 8796093022208
 ·rw [if_pos q2] at H;have qC:=am q2;clear q2;obtain ⟨Q3,hy_⟩:∃ y_:List ByteArray,y_=(l1 ++ [(⟨#[59]⟩:ByteArray)]):=⟨_,rfl⟩;replace H:(some Q3)=some r:=rx_;have zQ:=am hy_;clear hy_;obtain rfl:=oI H;go_wp2_with (first|((with_reducible refine dV (b:=.append) (xs:=#[.tmp 86,.tmp 87]) rfl ?_);at_builtin;refine Kd.kQ Kd.string (w0:=w0) w0.heap.size rfl (.tmp 86) (.tmp 87) 29 9 (.string ⟨#[]⟩) 16 rfl Tryz.underlying29 kU rfl (by decide) (by omega) jw l1 (⟨#[59]⟩:ByteArray) [.string (⟨#[59]⟩:ByteArray)] (fun k_=>(P1_ k_∨w.heap.size≤k_)) (fun _=>False) rfl rfl ?aP (fun _ hk=>hk.elim) ?aF ?aO ?aB ?aS ?aL ?_;(case aP=>exact rfl);(case aB=>exact kL);(case aF=>exact (fun k_ hk=>(.inr (Nat.le_trans (by first|exact HK.out.1|exact (show Kept w _ (fun k_=>P1_ k_) from iZ).1) hk))));(case aO=>exact (aR_ j9.out));(case aS=>exact (aI kL));(case aL=>have:=qC.out;omega);intro Qz QA ho hb hg hat;rw [← zQ.out] at ho;replace j3:=am (dL (g:=j4) (o:=.cells #[.int .i64 j5,.int .i64 je,.int .i64 jf,.int .i64 j6,.int .i64 j7,.slice jc j8.length jd,.slice jg jb.length jh,.slice ji ja.length jj] 58 (0,0)) (aG_ j3.out) hg (Kd.lC j9.out j3.out (by decide)));replace HB:=am (hb);replace HK:=am (Kept.gF (S:=(fun k_=>P1_ k_)) hg iZ (fun k_ e_=>(j9.out.1 k_ e_)));have zR:=am (ho);clear j9 ho hb hg hat));go_ret;exact ⟨_,gU,gI zR.out,kL,iZ⟩
 rw [if_neg q2] at H;cases H
theorem bB.aBd {w Wn:World} {S:Nat→Prop} {A:Option Addr} {n:Nat} {xs:List S58} (h:∀ W_,Kept w W_ S→Kd.C k58 W_ A n xs) (hk:Kept w Wn S) (i:Int) (h0:0≤i) (h1:i < n) {ad:Addr} {A5:Option Addr} {c5:Nat} (e:A=some ad) (hc:Wn.cell? ⟨(ad.add (i.toNat * 8)).block,(ad.add (i.toNat * 8)).off + 5,none⟩=some (.slice A5 (aM xs i).f3.f2.length c5)):∀ W_,Kept w W_ S→k56.C W_ A5 (aM xs i).f3.f2.length (aM xs i).f3.f2:=by
 intro W_ hW;subst e;have hne:¬ S ad.block:=Kd.EL h (by omega) (by decide);have hlt:ad.block < w.heap.size:=Kd.EK h (by omega) (by decide);obtain ⟨ad',j3,j4,j5,j6,j7,j8,e',_,_,_,_,_,X5,X6,X7,_,I5,_,I6,_,I7⟩:=vK (h W_ hW) i h0 h1;injection e' with e';subst e';have hb:W_.heap[ad.block]?=Wn.heap[ad.block]?:=(hW.2 _ hlt hne).trans (hk.2 _ hlt hne).symm;have hcc:∀ a:Addr,a.block=ad.block→W_.cell? a=Wn.cell? a:=by
  intro a ha;unfold World.cell?;rw [ha,hb]
 have h2:=(hcc ⟨(ad.add (i.toNat * 8)).block,(ad.add (i.toNat * 8)).off + 5,none⟩ (by show (ad.add _).block=ad.block;unfold Addr.add;split <;> rfl)).trans hc;rw [X5] at h2;injection h2 with h2;injection h2 with h2 h3 h4;subst h2;exact I5
theorem bB.aBe {w Wn:World} {S:Nat→Prop} {A:Option Addr} {n:Nat} {xs:List S58} (h:∀ W_,Kept w W_ S→Kd.C k58 W_ A n xs) (hk:Kept w Wn S) (i:Int) (h0:0≤i) (h1:i < n) {ad:Addr} {A6:Option Addr} {c6:Nat} (e:A=some ad) (hc:Wn.cell? ⟨(ad.add (i.toNat * 8)).block,(ad.add (i.toNat * 8)).off + 6,none⟩=some (.slice A6 (aM xs i).f4.length c6)):∀ W_,Kept w W_ S→k58.C W_ A6 (aM xs i).f4.length (aM xs i).f4:=by
 intro W_ hW;subst e;have hne:¬ S ad.block:=Kd.EL h (by omega) (by decide);have hlt:ad.block < w.heap.size:=Kd.EK h (by omega) (by decide);obtain ⟨ad',j3,j4,j5,j6,j7,j8,e',_,_,_,_,_,X5,X6,X7,_,I5,_,I6,_,I7⟩:=vK (h W_ hW) i h0 h1;injection e' with e';subst e';have hb:W_.heap[ad.block]?=Wn.heap[ad.block]?:=(hW.2 _ hlt hne).trans (hk.2 _ hlt hne).symm;have hcc:∀ a:Addr,a.block=ad.block→W_.cell? a=Wn.cell? a:=by
  intro a ha;unfold World.cell?;rw [ha,hb]
 have h2:=(hcc ⟨(ad.add (i.toNat * 8)).block,(ad.add (i.toNat * 8)).off + 6,none⟩ (by show (ad.add _).block=ad.block;unfold Addr.add;split <;> rfl)).trans hc;rw [X6] at h2;injection h2 with h2;injection h2 with h2 h3 h4;subst h2;exact I6
theorem bB.aBf {w Wn:World} {S:Nat→Prop} {A:Option Addr} {n:Nat} {xs:List S58} (h:∀ W_,Kept w W_ S→Kd.C k58 W_ A n xs) (hk:Kept w Wn S) (i:Int) (h0:0≤i) (h1:i < n) {ad:Addr} {A7:Option Addr} {c7:Nat} (e:A=some ad) (hc:Wn.cell? ⟨(ad.add (i.toNat * 8)).block,(ad.add (i.toNat * 8)).off + 7,none⟩=some (.slice A7 (aM xs i).f5.length c7)):∀ W_,Kept w W_ S→k58.C W_ A7 (aM xs i).f5.length (aM xs i).f5:=by
 intro W_ hW;subst e;have hne:¬ S ad.block:=Kd.EL h (by omega) (by decide);have hlt:ad.block < w.heap.size:=Kd.EK h (by omega) (by decide);obtain ⟨ad',j3,j4,j5,j6,j7,j8,e',_,_,_,_,_,X5,X6,X7,_,I5,_,I6,_,I7⟩:=vK (h W_ hW) i h0 h1;injection e' with e';subst e';have hb:W_.heap[ad.block]?=Wn.heap[ad.block]?:=(hW.2 _ hlt hne).trans (hk.2 _ hlt hne).symm;have hcc:∀ a:Addr,a.block=ad.block→W_.cell? a=Wn.cell? a:=by
  intro a ha;unfold World.cell?;rw [ha,hb]
 have h2:=(hcc ⟨(ad.add (i.toNat * 8)).block,(ad.add (i.toNat * 8)).off + 7,none⟩ (by show (ad.add _).block=ad.block;unfold Addr.add;split <;> rfl)).trans hc;rw [X7] at h2;injection h2 with h2;injection h2 with h2 h3 h4;subst h2;exact I7
theorem bB.step (k:Nat) (ih_impl_stmtTokens:∀ m,m < k→aT.dJ m) (ih_impl_blockTokens:∀ m,m < k→bB.dJ m):bB.dJ k:=by
 intro A0 c0 l0 P1_ je l1 r w0 w hB hr0 hc0 ho1 ht_ h;cases k with
 |zero=>exact absurd h (by simp [bB.f])
 |succ k=>
 simp only [bB.f] at h;have hu58:=Tryz.underlying58;have jm:=am hr0;have jQ:=am hc0;clear hr0 hc0;have jp:=am (show Kd.R Kd.string 9 w w0.heap.size (fun k_=>(P1_ k_∨w.heap.size≤k_)) je l1 from Kd.bN ho1 (fun k_ hk=>(.inl hk)));have HK:=am (Kept.refl w (fun k_=>P1_ k_));have HW0:=am hB.size;have HB:=am hB;clear hB;have H:=h;clear h;by_cases c3:l1.length < 8796093022208
 ·rw [if_pos c3] at H;have jq:=am c3;clear c3;obtain ⟨jI,hy_⟩:∃ y_:List ByteArray,y_=(l1 ++ [(⟨#[123]⟩:ByteArray)]):=⟨_,rfl⟩;replace H:(bB.l0 k jI l0 (l0.length:Int) 0)=some r:=rx_;have jr:=am hy_;clear hy_;have H':=am H;clear H;go_enter Tryz.func21,Tryz.ntmps21;go_wp2_with (first|((with_reducible refine dV (b:=.append) (xs:=#[.tmp 7,.tmp 8]) rfl ?_);at_builtin;refine Kd.kQ Kd.string (w0:=w0) w0.heap.size rfl (.tmp 7) (.tmp 8) 29 9 (.string ⟨#[]⟩) 16 rfl Tryz.underlying29 kU rfl (by decide) (by omega) je l1 (⟨#[123]⟩:ByteArray) [.string (⟨#[123]⟩:ByteArray)] (fun k_=>(P1_ k_∨w.heap.size≤k_)) (fun _=>False) rfl rfl ?aP (fun _ hk=>hk.elim) ?aF ?aO ?aB ?aS ?aL ?_;(case aP=>exact rfl);(case aB=>exact eG);(case aF=>exact (fun k_ hk=>(.inr (Nat.le_trans (by first|exact HK.out.1|exact (show Kept w _ (fun k_=>P1_ k_) from nO).1) hk))));(case aO=>exact (aR_ jp.out));(case aS=>exact (aI eG));(case aL=>have:=jq.out;omega);intro jR w4 ho hb hg hat;rw [← jr.out] at ho;replace HB:=am (hb);replace HK:=am (Kept.gF (S:=(fun k_=>P1_ k_)) hg nO (fun k_ e_=>(jp.out.1 k_ e_)));have js:=am (ho);clear jp ho hb hg hat))
  go_loopg [1,12] k (fun kq v1 jK w'=>∃ (j5:List ByteArray) (j3:Int),jK= .int .i64 j3∧Aside0 (bB.l0 kq j5 l0 (l0.length:Int) j3=some r)∧Aside0 (kq≤k)∧Aside0 (Kd.R Kd.string 9 w' w0.heap.size (fun k_=>(P1_ k_∨w.heap.size≤k_)) v1 j5)∧Aside0 (Kept w w' (fun k_=>P1_ k_))∧Aside0 (Below w0.heap.size w0 w'))
  case atStart=>exact ⟨(jI),(0),sd_,H',⟨Nat.le_refl _⟩,⟨gI js.out⟩,⟨nO⟩,⟨eG⟩⟩
  case round=>
   clear H';try clear c3
   obtain ⟨j5,j3,rfl,HA,jt,j4,HK,HB⟩:=hrel;cases gk with
   |zero=>exact absurd HA.out (by simp [bB.l0])
   |succ k1=>
    have H:=HA.out;clear HA;simp only [bB.l0] at H;by_cases c5:j3 < (l0.length:Int)
    ·rw [if_pos c5] at H;have ju:decide (j3 < (l0.length:Int))=true:=dT c5;clear c5;by_cases c6:0≤j3
     ·rw [if_pos c6] at H;have jL:decide (0≤j3)=true:=dT c6;clear c6;by_cases c7:j3 < (l0.length:Int)
      ·rw [if_pos c7] at H;have jM:decide (j3 < (l0.length:Int))=true:=dT c7;clear c7;obtain ⟨jJ,A8,H⟩:=bsa H;(try dsimp only at H);have H':=am H;clear H;have jc:0≤(j3:Int):=of_decide_eq_true fK;have jd:j3 < (l0.length:Int):=of_decide_eq_true fK;obtain ⟨jN,jf,jg,jh,ji,jj,jk,jn,jv,jw,jx,jy,jz,j6,j7,j8,hl27_5,hi27_5,hl27_6,hi27_6,hl27_7,hi27_7⟩:=vK (Kd.xA jm.out HK.out) j3 jc jd;have HF689_5:=am (bB.aBd jm.out HK.out j3 jc jd jn j6);have HF689_6:=am (bB.aBe jm.out HK.out j3 jc jd jn j7);have HF689_7:=am (bB.aBf jm.out HK.out j3 jc jd jn j8);cases jn;have jA:=am hi27_5;have j9:=am hl27_5;clear hi27_5 hl27_5;have jB:=am hi27_6;have ja:=am hl27_6;clear hi27_6 hl27_6;have jC:=am hi27_7;have jb:=am hl27_7;clear hi27_7 hl27_7;replace jc:=eq_true jc;replace jd:=eq_true jd;obtain ⟨jD,jE,jO⟩:=Kd.eY j4.out;subst jO;go_wp2_with (first|((with_reducible refine gC 42 rfl ?_);refine gl_ 18 Tryz.func42 #[.agg #[.int .i64 ((aM l0 j3).f0),.int .i64 ((aM l0 j3).f1),.int .i64 ((aM l0 j3).f2),.int .i64 ((aM l0 j3).f3.f0),.int .i64 ((aM l0 j3).f3.f1),.slice jf ((aM l0 j3).f3.f2).length jg,.slice jh ((aM l0 j3).f4).length ji,.slice jj ((aM l0 j3).f5).length jk],.slice jD j5.length jE] ?_;(with_reducible refine (ih_impl_stmtTokens k1 (by have:=jt.out;omega) ((aM l0 j3).f0) ((aM l0 j3).f1) ((aM l0 j3).f2) ((aM l0 j3).f3.f0) ((aM l0 j3).f3.f1) _ _ ((aM l0 j3).f3.f2) _ _ ((aM l0 j3).f4) _ _ ((aM l0 j3).f5) (fun k_=>some k_=(.slice jD j5.length jE:Value).ownBlock) (.slice jD j5.length jE) j5 jJ w0 _ ?side1 ?side2 j9.out ?side4 ja.out ?side6 jb.out ?side8 ?sideT A8.out).mono ?_);(case sideT=>first|exact ht_|exact Tab.below ht_ HB.out|exact Tab.below ht_ eG);(case side1=>exact eG);(case side2=>exact Kd.iU HF689_5.out nO (fun k_ hs_=>(fun e_=>(j4.out.1 k_ e_.symm)) hs_));(case side4=>exact Kd.iU HF689_6.out nO (fun k_ hs_=>(fun e_=>(j4.out.1 k_ e_.symm)) hs_));(case side6=>exact Kd.iU HF689_7.out nO (fun k_ hs_=>(fun e_=>(j4.out.1 k_ e_.symm)) hs_));(case side8=>exact Kd.lT rfl (aR_ j4.out));rintro e jS ⟨jT,rfl,ho0,hb,hkp⟩;refine ⟨_,rfl,?_⟩;have jF:=am (Kd.bN (ok':=fun k_=>(P1_ k_∨w.heap.size≤k_)) ho0 (fun k_ hk_=>Or.elim hk_ (fun hs_=>(j4.out.1 k_ (hs_).symm)) (fun hn_=>(.inr (Nat.le_trans (by first|exact HK.out.1|exact (show Kept w _ (fun k_=>P1_ k_) from nO).1) hn_)))));replace HK:=am (Kept.then_ (S:=(fun k_=>P1_ k_)) nO hkp (fun k_ hs_=>(fun e_=>(j4.out.1 k_ e_.symm)) hs_));replace HB:=am (hb);clear j4;(try clear hb);(try clear hkp);(try clear ho0)));go_roundg k1;case measure=>have:=jt.out;omega
       case rel=>exact ⟨(jJ),(wrap64 (j3 + 1)),sd_,H',⟨by have:=jt.out;omega⟩,⟨gI jF.out⟩,⟨nO⟩,⟨eG⟩⟩
      rw [if_neg c7] at H;cases H
     rw [if_neg c6] at H;cases H
    rw [if_neg c5] at H;have ju:decide (j3 < (l0.length:Int))=false:=dF c5;clear c5;by_cases jo:j5.length < 8796093022208
    ·rw [if_pos jo] at H;have jl:=am jo;clear jo;obtain ⟨jP,hy_⟩:∃ y_:List ByteArray,y_=(j5 ++ [(⟨#[125]⟩:ByteArray)]):=⟨_,rfl⟩;replace H:(some jP)=some r:=rx_;have jG:=am hy_;clear hy_;obtain rfl:=oI H;go_wp2_with (first|((with_reducible refine dV (b:=.append) (xs:=#[.tmp 20,.tmp 21]) rfl ?_);at_builtin;refine Kd.kQ Kd.string (w0:=w0) w0.heap.size rfl (.tmp 20) (.tmp 21) 29 9 (.string ⟨#[]⟩) 16 rfl Tryz.underlying29 kU rfl (by decide) (by omega) u1 j5 (⟨#[125]⟩:ByteArray) [.string (⟨#[125]⟩:ByteArray)] (fun k_=>(P1_ k_∨w.heap.size≤k_)) (fun _=>False) rfl rfl ?aP (fun _ hk=>hk.elim) ?aF ?aO ?aB ?aS ?aL ?_;(case aP=>exact rfl);(case aB=>exact eG);(case aF=>exact (fun k_ hk=>(.inr (Nat.le_trans (by first|exact HK.out.1|exact (show Kept w _ (fun k_=>P1_ k_) from nO).1) hk))));(case aO=>exact (aR_ j4.out));(case aS=>exact (aI eG));(case aL=>have:=jl.out;omega);intro jU jV ho hb hg hat;rw [← jG.out] at ho;replace HB:=am (hb);replace HK:=am (Kept.gF (S:=(fun k_=>P1_ k_)) hg nO (fun k_ e_=>(j4.out.1 k_ e_)));have jH:=am (ho);clear j4 ho hb hg hat));go_ret;exact ⟨_,gU,gI jH.out,eG,nO⟩
    rw [if_neg jo] at H;cases H
 rw [if_neg c3] at H;cases H
theorem aT.calls_all (k:Nat):aT.dJ k∧bB.dJ k:=by
 induction k using Nat.strongRecOn with
 | _ k ih=>exact ⟨aT.step k (ih_impl_stmtTokens:=fun m hm=>(ih m hm).1) (ih_impl_blockTokens:=fun m hm=>(ih m hm).2),bB.step k (ih_impl_stmtTokens:=fun m hm=>(ih m hm).1) (ih_impl_blockTokens:=fun m hm=>(ih m hm).2)⟩
theorem aT.calls (k:Nat):aT.dJ k:=(aT.calls_all k).1
theorem bB.calls (k:Nat):bB.dJ k:=(aT.calls_all k).2
theorem lZ.calls (a0:Int) (r:Bool) (w:World) (h:lZ.f a0=some r):
  Calls Tryz.prog 51 #[.int .u8 a0] w fun e w'=>e= .returned (.bool r)∧gX w w':=by
 have H:(if a0≥48 then (some (decide (a0≤57))) else (some false))=some r:=h;clear h;by_cases c2:a0≥48
 ·rw [if_pos c2] at H;have j3:decide (48≤a0)=true:=dT c2;clear c2;obtain rfl:=oI H;go_enter Tryz.func51,Tryz.ntmps51;go_wp2;go_ret;exact ⟨sd_,fG⟩
 rw [if_neg c2] at H;have j3:decide (48≤a0)=false:=dF c2;clear c2;obtain rfl:=oI H;go_enter Tryz.func51,Tryz.ntmps51;go_wp2;go_ret;exact ⟨sd_,fG⟩
theorem lD.calls (a0:Int) (r:Bool) (w:World) (h:lD.f a0=some r):
  Calls Tryz.prog 52 #[.int .u8 a0] w fun e w'=>e= .returned (.bool r)∧gX w w':=by
 have H:(if a0≥97 then (some (decide (a0≤122))) else (some false))=some r:=h;clear h;by_cases c2:a0≥97
 ·rw [if_pos c2] at H;have j3:decide (97≤a0)=true:=dT c2;clear c2;obtain rfl:=oI H;go_enter Tryz.func52,Tryz.ntmps52;go_wp2;go_ret;exact ⟨sd_,fG⟩
 rw [if_neg c2] at H;have j3:decide (97≤a0)=false:=dF c2;clear c2;obtain rfl:=oI H;go_enter Tryz.func52,Tryz.ntmps52;go_wp2;go_ret;exact ⟨sd_,fG⟩
theorem stringslite_HasPrefix.calls (a0:ByteArray) (a1:ByteArray) (r:Bool) (w:World) (h:stringslite_HasPrefix.f a0 a1=some r):
  Calls Tryz.prog 76 #[.string a0,.string a1] w fun e w'=>e= .returned (.bool r)∧gX w w':=by
 unfold stringslite_HasPrefix.f at h;have H:=h;clear h;by_cases c3:(a0.size:Int)≥(a1.size:Int)
 ·rw [if_pos c3] at H;have j3:decide ((a1.size:Int)≤(a0.size:Int))=true:=dT c3;have j4:decide (a1.size≤a0.size)=true:=dT (Int.ofNat_le.mp c3);clear c3;by_cases c4:0≤(a1.size:Int)
  ·rw [if_pos c4] at H;have j5:=eq_true c4;have j6:decide (0≤(a1.size:Int))=true:=dT c4;clear c4;by_cases c5:(a1.size:Int)≤(a0.size:Int)
   ·rw [if_pos c5] at H;have j7:=eq_true c5;have j8:decide ((a1.size:Int)≤(a0.size:Int))=true:=dT c5;clear c5;obtain rfl:=oI H;go_enter Tryz.func76,Tryz.ntmps76;go_wp2;go_ret;exact ⟨sd_,fG⟩
   rw [if_neg c5] at H;cases H
  rw [if_neg c4] at H;cases H
 rw [if_neg c3] at H;have j3:decide ((a1.size:Int)≤(a0.size:Int))=false:=dF c3;have j4:decide (a1.size≤a0.size)=false:=dF (fun h=>c3 (Int.ofNat_le.mpr h));clear c3;obtain rfl:=oI H;go_enter Tryz.func76,Tryz.ntmps76;go_wp2;go_ret;exact ⟨sd_,fG⟩
theorem strings_HasPrefix.calls (a0:ByteArray) (a1:ByteArray) (r:Bool) (w:World) (h:strings_HasPrefix.f a0 a1=some r):
  Calls Tryz.prog 53 #[.string a0,.string a1] w fun e w'=>e= .returned (.bool r)∧gX w w':=by
 have H:((stringslite_HasPrefix.f a0 a1).bind fun j3=>(some j3))=some r:=h;clear h;obtain ⟨j3,A3,H⟩:=bsa H;(try dsimp only at H);obtain rfl:=oI H;go_enter Tryz.func53,Tryz.ntmps53;go_wp2_with (first|((with_reducible refine gC 76 rfl ?_);refine gl_ 7 Tryz.func76 #[.string a0,.string a1] ?_;(with_reducible refine (stringslite_HasPrefix.calls a0 a1 j3 _ A3.out).mono ?_);rintro e w' ⟨rfl,⟨nd,rfl⟩⟩;refine ⟨_,rfl,?_⟩));go_ret;exact ⟨sd_,fG⟩
theorem strings_IndexByte.calls (a0:ByteArray) (a1:Int) (r:Int) (w:World) (h:strings_IndexByte.f a0 a1=some r):
  Calls Tryz.prog 54 #[.string a0,.int .u8 a1] w fun e w'=>e= .returned (.int .i64 r)∧gX w w':=by
 obtain rfl:=oI h;refine (Tryz.strings_IndexByte a0 a1 w).mono ?_;rintro e w' ⟨rfl,rfl⟩;exact ⟨rfl,gX.refl _⟩
theorem bA.mono_l:∀ k a b c,LeO (bA.l1 k a b c) (bA.l1 (k + 1) a b c)
 |0,_,_,_=>fun r h=>by simp [bA.l1] at h
 |k + 1,a,b,c=>by
  unfold bA.l1;exact LeO.ite (LeO.ite (LeO.bind (LeO.refl _) (fun _=>LeO.ite (bA.mono_l k _ _ _) (LeO.refl _))) (LeO.none _)) (LeO.refl _)
theorem bA.mono:∀ a0 k,LeO (bA.f k a0) (bA.f (k + 1) a0):=by
 intro a0 k;exact LeO.bind (bA.mono_l _ _ _ _) (fun _=>LeO.ite (LeO.refl _) (LeO.bind (bA.mono_l _ _ _ _) (fun _=>LeO.refl _)))
theorem aCy {P:Program} {ops:Array Oper} {Q:Exit→Act→World→Prop} {rest:List Oper} {o:Oper} {a:Act} {W:World} (N:Tmp) (cs:Array Value) (n:Nat) (e:TypeId) (hgd:o.guard=none) (hd:o.dst=some N)
  (hrun:(execOp a.eval o).run P W= .ok (.value (.slice (some ⟨W.heap.size,0,none⟩) n n)) (W.alloc (.cells cs e)))
  (h:∀ g W1,W1.heap[g]?=some (.cells cs e (0,0))→Below W.heap.size W W1→wpList P ops Q rest (a.put (some N) (.slice (some ⟨g,0,none⟩) n n)) W1):wpList P ops Q (o :: rest) a W:=by
 rw [← hd] at h;exact Kd.FT hgd hrun (h _ _ (KZ W _) (bY (Below.refl _ _) _))
theorem aKj (a:ByteArray) (h:a.size=0):a.toList=[]:=by
 unfold ByteArray.toList;unfold ByteArray.toList.loop;rw [if_neg (by omega)];rfl
theorem bA.calls (k:Nat) (a0:ByteArray) (r:Int) (w:World) (h:bA.f k a0=some r):
  Calls Tryz.prog 27 #[.string a0] w fun e w'=>e= .returned (.int .i64 r)∧Below w.heap.size w w':=by
 have H':=am h;clear h;go_enter Tryz.func27,Tryz.ntmps27;go_wp2_with (first|((with_reducible refine gD 8 rfl ?_);refine aCy 8 #[.func (.func 51) #[] #[],.func (.func 52) #[] #[]] 2 78 rfl rfl (by first|(go_simp;done)|(go_simp;rfl)) ?_;intro gb w1 hbk hb;have BK:=am hbk;have HB:=am (aA (by repeat (first|exact Below.refl _ _|apply aU|apply bY)) hb);clear hbk hb))
 go_loopg [10] 2 (fun kq j7 w'=>∃ i:Nat,j7= .int .i64 (i:Int)∧i + kq=2∧Aside0 (bA.st k a0 i=some r)∧Aside0 (w'.heap[gb]?=some (.cells #[.func (.func 51) #[] #[],.func (.func 52) #[] #[]] 78 (0,0)))∧Aside0 (Below w.heap.size w w'))
 case atStart=>exact ⟨0,rfl,rfl,H',BK,HB⟩
 case round=>
  clear H' BK HB;obtain ⟨i,rfl,hi,HA,BK,HB⟩:=hrel;have hc_:(i=0∧gk=2)∨(i=1∧gk=1)∨(i=2∧gk=0):=by omega
  clear hi;rcases hc_ with ⟨rfl,rfl⟩|⟨rfl,rfl⟩|⟨rfl,rfl⟩
  ·have hx:_:=(aG BK.out 0).trans rfl;obtain ⟨d,hd,H⟩:=Option.bind_eq_some_iff.mp HA.out;have HD:=am hd;have HN:=am H;clear hd H HA;go_wp2
   go_loopg [5] k (fun kq v5 w'=>∃ x:Int,v5= .int .i64 x∧Aside0 (bA.l1 kq a0 true x=some d)∧Aside0 (kq≤k)∧Aside0 (w'.heap[gb]?=some (.cells #[.func (.func 51) #[] #[],.func (.func 52) #[] #[]] 78 (0,0)))∧Aside0 (Below w.heap.size w w'))
   case atStart=>exact ⟨0,rfl,HD,⟨Nat.le_refl _⟩,BK,HB⟩
   case round=>
    clear BK HB hx HD;obtain ⟨x,rfl,HD,j3,BK,HB⟩:=hrel;cases gk with
    |zero=>exact absurd HD.out (by simp [bA.l1])
    |succ k2=>
     have H:=HD.out;clear HD;simp only [bA.l1] at H;by_cases c1:x < (a0.size:Int)
     ·rw [if_pos c1] at H;by_cases c2:0≤x
      ·rw [if_pos c2] at H;have H2:(lZ.f (bt a0 x)).bind (fun b=>if b=true then bA.l1 k2 a0 true (wrap64 (x + 1)) else some x)=some d:=H;obtain ⟨b,hb_,H3⟩:=Option.bind_eq_some_iff.mp H2;have A1:=am hb_;have H':=am H3;clear H H2 H3 hb_;have b1:decide (x < (a0.size:Int))=true:=dT c1;have j6:=uT a0 x;have p5:=eq_true c2;have q5:=eq_true c1;clear c1 c2;cases b with
       |true=>
        go_wp2_with (first|(go_at_call 51;(with_reducible refine (lZ.calls (bt a0 x) true _ A1.out).mono ?_);rintro e w1 ⟨rfl,⟨nd,rfl⟩⟩)|fail);go_roundg k2;case measure=>have:=j3.out;omega
        case rel=>exact ⟨wrap64 (x + 1),rfl,H',⟨by have:=j3.out;omega⟩,⟨by first|exact BK.out|exact dW BK.out _⟩,⟨by first|exact HB.out|exact aU HB.out _⟩⟩
       |false=>
        have hd:=oI H'.out;subst hd;by_cases c3:0 < x
        ·have h3:=HN.out;rw [if_pos c3] at h3;obtain rfl:=oI h3;have b3:decide (0 < x)=true:=dT c3;have b4:=eq_true c3;clear h3;go_wp2_with (first|(go_at_call 51;(with_reducible refine (lZ.calls (bt a0 x) false _ A1.out).mono ?_);rintro e w1 ⟨rfl,⟨nd,rfl⟩⟩)|fail);go_ret;exact ⟨rfl,by first|exact HB.out|exact aU HB.out _⟩
        have h3:=HN.out;rw [if_neg c3] at h3;have b3:decide (0 < x)=false:=dF c3;have b4:=eq_false c3;have h3':=am h3;clear h3;go_wp2_with (first|(go_at_call 51;(with_reducible refine (lZ.calls (bt a0 x) false _ A1.out).mono ?_);rintro e w1 ⟨rfl,⟨nd,rfl⟩⟩)|fail);go_roundg 1;case measure=>omega
        case rel=>exact ⟨1,rfl,by omega,⟨h3'.out⟩,⟨by first|exact BK.out|exact dW BK.out _⟩,⟨by first|exact HB.out|exact aU HB.out _⟩⟩
      rw [if_neg c2] at H;cases H
     rw [if_neg c1] at H;have hd:=oI H;subst hd;have b1:decide (x < (a0.size:Int))=false:=dF c1;clear c1 H;by_cases c3:0 < x
     ·have h3:=HN.out;rw [if_pos c3] at h3;obtain rfl:=oI h3;have b3:decide (0 < x)=true:=dT c3;have b4:=eq_true c3;clear h3;go_wp2;go_ret;exact ⟨rfl,by first|exact HB.out|exact aU HB.out _⟩
     have h3:=HN.out;rw [if_neg c3] at h3;have b3:decide (0 < x)=false:=dF c3;have b4:=eq_false c3;have h3':=am h3;clear h3;go_wp2;go_roundg 1;case measure=>omega
     case rel=>exact ⟨1,rfl,by omega,⟨h3'.out⟩,⟨by first|exact BK.out|exact dW BK.out _⟩,⟨by first|exact HB.out|exact aU HB.out _⟩⟩
  ·have hx:_:=(aG BK.out 1).trans rfl;obtain ⟨d,hd,H⟩:=Option.bind_eq_some_iff.mp HA.out;have HD:=am hd;have HN:=am H;clear hd H HA;go_wp2
   go_loopg [5] k (fun kq v5 w'=>∃ x:Int,v5= .int .i64 x∧Aside0 (bA.l1 kq a0 false x=some d)∧Aside0 (kq≤k)∧Aside0 (w'.heap[gb]?=some (.cells #[.func (.func 51) #[] #[],.func (.func 52) #[] #[]] 78 (0,0)))∧Aside0 (Below w.heap.size w w'))
   case atStart=>exact ⟨0,rfl,HD,⟨Nat.le_refl _⟩,BK,HB⟩
   case round=>
    clear BK HB hx HD;obtain ⟨x,rfl,HD,j3,BK,HB⟩:=hrel;cases gk with
    |zero=>exact absurd HD.out (by simp [bA.l1])
    |succ k2=>
     have H:=HD.out;clear HD;simp only [bA.l1] at H;by_cases c1:x < (a0.size:Int)
     ·rw [if_pos c1] at H;by_cases c2:0≤x
      ·rw [if_pos c2] at H;have H2:(lD.f (bt a0 x)).bind (fun b=>if b=true then bA.l1 k2 a0 false (wrap64 (x + 1)) else some x)=some d:=H;obtain ⟨b,hb_,H3⟩:=Option.bind_eq_some_iff.mp H2;have A1:=am hb_;have H':=am H3;clear H H2 H3 hb_;have b1:decide (x < (a0.size:Int))=true:=dT c1;have j6:=uT a0 x;have p5:=eq_true c2;have q5:=eq_true c1;clear c1 c2;cases b with
       |true=>
        go_wp2_with (first|(go_at_call 52;(with_reducible refine (lD.calls (bt a0 x) true _ A1.out).mono ?_);rintro e w1 ⟨rfl,⟨nd,rfl⟩⟩)|fail);go_roundg k2;case measure=>have:=j3.out;omega
        case rel=>exact ⟨wrap64 (x + 1),rfl,H',⟨by have:=j3.out;omega⟩,⟨by first|exact BK.out|exact dW BK.out _⟩,⟨by first|exact HB.out|exact aU HB.out _⟩⟩
       |false=>
        have hd:=oI H'.out;subst hd;by_cases c3:0 < x
        ·have h3:=HN.out;rw [if_pos c3] at h3;obtain rfl:=oI h3;have b3:decide (0 < x)=true:=dT c3;have b4:=eq_true c3;clear h3;go_wp2_with (first|(go_at_call 52;(with_reducible refine (lD.calls (bt a0 x) false _ A1.out).mono ?_);rintro e w1 ⟨rfl,⟨nd,rfl⟩⟩)|fail);go_ret;exact ⟨rfl,by first|exact HB.out|exact aU HB.out _⟩
        have h3:=HN.out;rw [if_neg c3] at h3;have b3:decide (0 < x)=false:=dF c3;have b4:=eq_false c3;have h3':=am h3;clear h3;go_wp2_with (first|(go_at_call 52;(with_reducible refine (lD.calls (bt a0 x) false _ A1.out).mono ?_);rintro e w1 ⟨rfl,⟨nd,rfl⟩⟩)|fail);go_roundg 0;case measure=>omega
        case rel=>exact ⟨2,rfl,by omega,⟨h3'.out⟩,⟨by first|exact BK.out|exact dW BK.out _⟩,⟨by first|exact HB.out|exact aU HB.out _⟩⟩
      rw [if_neg c2] at H;cases H
     rw [if_neg c1] at H;have hd:=oI H;subst hd;have b1:decide (x < (a0.size:Int))=false:=dF c1;clear c1 H;by_cases c3:0 < x
     ·have h3:=HN.out;rw [if_pos c3] at h3;obtain rfl:=oI h3;have b3:decide (0 < x)=true:=dT c3;have b4:=eq_true c3;clear h3;go_wp2;go_ret;exact ⟨rfl,by first|exact HB.out|exact aU HB.out _⟩
     have h3:=HN.out;rw [if_neg c3] at h3;have b3:decide (0 < x)=false:=dF c3;have b4:=eq_false c3;have h3':=am h3;clear h3;go_wp2;go_roundg 0;case measure=>omega
     case rel=>exact ⟨2,rfl,by omega,⟨h3'.out⟩,⟨by first|exact BK.out|exact dW BK.out _⟩,⟨by first|exact HB.out|exact aU HB.out _⟩⟩
  ·have H2:bA.st2 a0 0=some r:=HA.out;have HS:=am H2;clear HA BK H2;go_wp2_with (first|((with_reducible refine gD 31 rfl ?_);refine aCy 31 #[.string ⟨#[61,61]⟩,.string ⟨#[60,60]⟩,.string ⟨#[62,62]⟩] 3 9 rfl rfl (by first|(go_simp;done)|(go_simp;rfl)) ?_;intro gc w1 hbk hb;have BK:=am hbk;replace HB:=am (aA (by repeat (first|exact HB.out|apply aU|apply bY)) hb);clear hbk hb))
   go_loopg [33] 3 (fun kq j8 w'=>∃ j:Nat,j8= .int .i64 (j:Int)∧j + kq=3∧Aside0 (bA.st2 a0 j=some r)∧Aside0 (w'.heap[gc]?=some (.cells #[.string ⟨#[61,61]⟩,.string ⟨#[60,60]⟩,.string ⟨#[62,62]⟩] 9 (0,0)))∧Aside0 (Below w.heap.size w w'))
   case atStart=>exact ⟨0,rfl,rfl,HS,BK,HB⟩
   case round=>
    clear HS BK HB;obtain ⟨j,rfl,hj,HS,BK,HB⟩:=hrel;have hc_:(j=0∧gk=3)∨(j=1∧gk=2)∨(j=2∧gk=1)∨(j=3∧gk=0):=by omega
    clear hj;rcases hc_ with ⟨rfl,rfl⟩|⟨rfl,rfl⟩|⟨rfl,rfl⟩|⟨rfl,rfl⟩
    ·have hx:_:=(aG BK.out 0).trans rfl;obtain ⟨b,hb_,H3⟩:=Option.bind_eq_some_iff.mp HS.out;have A1:=am hb_;have H':=am H3;clear HS hb_ H3;cases b with
     |true=>
      obtain rfl:=oI ((if_pos rfl).symm.trans H'.out);go_wp2_with (first|(go_at_call 53;(with_reducible refine (strings_HasPrefix.calls a0 ⟨#[61,61]⟩ true _ A1.out).mono ?_);rintro e w1 ⟨rfl,⟨nd,rfl⟩⟩)|fail);go_ret;exact ⟨rfl,by first|exact HB.out|exact aU HB.out _⟩
     |false=>
      have h3:=(if_neg Bool.false_ne_true).symm.trans H'.out;have H3':=am h3;clear h3 H';go_wp2_with (first|(go_at_call 53;(with_reducible refine (strings_HasPrefix.calls a0 ⟨#[61,61]⟩ false _ A1.out).mono ?_);rintro e w1 ⟨rfl,⟨nd,rfl⟩⟩)|fail);go_roundg 2;case measure=>omega
      case rel=>exact ⟨1,rfl,by omega,⟨H3'.out⟩,⟨by first|exact BK.out|exact dW BK.out _⟩,⟨by first|exact HB.out|exact aU HB.out _⟩⟩
    ·have hx:_:=(aG BK.out 1).trans rfl;obtain ⟨b,hb_,H3⟩:=Option.bind_eq_some_iff.mp HS.out;have A1:=am hb_;have H':=am H3;clear HS hb_ H3;cases b with
     |true=>
      obtain rfl:=oI ((if_pos rfl).symm.trans H'.out);go_wp2_with (first|(go_at_call 53;(with_reducible refine (strings_HasPrefix.calls a0 ⟨#[60,60]⟩ true _ A1.out).mono ?_);rintro e w1 ⟨rfl,⟨nd,rfl⟩⟩)|fail);go_ret;exact ⟨rfl,by first|exact HB.out|exact aU HB.out _⟩
     |false=>
      have h3:=(if_neg Bool.false_ne_true).symm.trans H'.out;have H3':=am h3;clear h3 H';go_wp2_with (first|(go_at_call 53;(with_reducible refine (strings_HasPrefix.calls a0 ⟨#[60,60]⟩ false _ A1.out).mono ?_);rintro e w1 ⟨rfl,⟨nd,rfl⟩⟩)|fail);go_roundg 1;case measure=>omega
      case rel=>exact ⟨2,rfl,by omega,⟨H3'.out⟩,⟨by first|exact BK.out|exact dW BK.out _⟩,⟨by first|exact HB.out|exact aU HB.out _⟩⟩
    ·have hx:_:=(aG BK.out 2).trans rfl;obtain ⟨b,hb_,H3⟩:=Option.bind_eq_some_iff.mp HS.out;have A1:=am hb_;have H':=am H3;clear HS hb_ H3;cases b with
     |true=>
      obtain rfl:=oI ((if_pos rfl).symm.trans H'.out);go_wp2_with (first|(go_at_call 53;(with_reducible refine (strings_HasPrefix.calls a0 ⟨#[62,62]⟩ true _ A1.out).mono ?_);rintro e w1 ⟨rfl,⟨nd,rfl⟩⟩)|fail);go_ret;exact ⟨rfl,by first|exact HB.out|exact aU HB.out _⟩
     |false=>
      have h3:=(if_neg Bool.false_ne_true).symm.trans H'.out;have H3':=am h3;clear h3 H';go_wp2_with (first|(go_at_call 53;(with_reducible refine (strings_HasPrefix.calls a0 ⟨#[62,62]⟩ false _ A1.out).mono ?_);rintro e w1 ⟨rfl,⟨nd,rfl⟩⟩)|fail);go_roundg 0;case measure=>omega
      case rel=>exact ⟨3,rfl,by omega,⟨H3'.out⟩,⟨by first|exact BK.out|exact dW BK.out _⟩,⟨by first|exact HB.out|exact aU HB.out _⟩⟩
    ·have hf:bA.fin a0=some r:=HS.out;clear HS BK;unfold bA.fin at hf;by_cases c2:a0.toList=([]:List UInt8)
     ·rw [if_pos c2] at hf;obtain rfl:=oI hf;have j4:(a0.toList == ([]:List UInt8))=true:=beq_iff_eq.mpr c2;have j5:(a0.toList != ([]:List UInt8))=false:=bF c2;clear hf;go_wp2;go_ret;exact ⟨rfl,by first|exact HB.out|exact aU HB.out _⟩
     rw [if_neg c2] at hf;have j4:(a0.toList == ([]:List UInt8))=false:=bE c2;have j5:(a0.toList != ([]:List UInt8))=true:=bne_iff_ne.mpr c2;have hsz:0 < a0.size:=by
      rcases Nat.eq_zero_or_pos a0.size with h0|h0;·exact absurd (aKj a0 h0) c2
      ·exact h0
     have j6:∀ h:0 < a0.size,((a0[0]'h).toNat:Int)=bt a0 0:=fun h=>uT a0 0 h
     have p5:(0 < a0.size)=True:=eq_true hsz;have p6:((0:Int) < (a0.size:Int))=True:=eq_true (by omega);clear c2 hsz;obtain ⟨j,hj,hf⟩:=Option.bind_eq_some_iff.mp hf;have A1:=am hj;by_cases c3:0≤j
     ·rw [if_pos c3] at hf;obtain rfl:=oI hf;have b3:decide (0≤j)=true:=dT c3;have b4:=eq_true c3;clear hf hj c3;go_wp2_with (first|(go_at_call 54;(with_reducible refine (strings_IndexByte.calls _ (bt a0 0) j _ A1.out).mono ?_);rintro e w1 ⟨rfl,⟨nd,rfl⟩⟩)|fail);go_ret;exact ⟨rfl,by first|exact HB.out|exact aU HB.out _⟩
     rw [if_neg c3] at hf;obtain rfl:=oI hf;have b3:decide (0≤j)=false:=dF c3;have b4:=eq_false c3;clear hf hj c3;go_wp2_with (first|(go_at_call 54;(with_reducible refine (strings_IndexByte.calls _ (bt a0 0) j _ A1.out).mono ?_);rintro e w1 ⟨rfl,⟨nd,rfl⟩⟩)|fail);go_ret;exact ⟨rfl,by first|exact HB.out|exact aU HB.out _⟩
theorem gW.mono:∀ a0 k,LeO (gW.f k a0) (gW.f (k + 1) a0):=by
 intro a0 k;unfold gW.f;have m0:=@bA.mono;exact mo_
theorem gW.calls (k:Nat) (a0:ByteArray) (r:Bool) (w:World) (h:gW.f k a0=some r):
  Calls Tryz.prog 43 #[.string a0] w fun e w'=>e= .returned (.bool r)∧Below w.heap.size w w':=by
 have HB:=am (Below.refl w.heap.size w);unfold gW.f at h;have H:=h;clear h;by_cases c2:a0.toList=([]:List UInt8)
 ·rw [if_pos c2] at H;have j3:(a0.toList == ([]:List UInt8))=true:=beq_iff_eq.mpr c2;have j4:(a0.toList != ([]:List UInt8))=false:=bF c2;clear c2;obtain rfl:=oI H;go_enter Tryz.func43,Tryz.ntmps43;go_wp2;go_ret;exact ⟨rr_,eG⟩
 rw [if_neg c2] at H;have j3:(a0.toList == ([]:List UInt8))=false:=bE c2;have j4:(a0.toList != ([]:List UInt8))=true:=bne_iff_ne.mpr c2;obtain ⟨j5,A3,H⟩:=bsa H;(try dsimp only at H);obtain rfl:=oI H;go_enter Tryz.func43,Tryz.ntmps43;go_wp2_with (first|(go_at_call 27;(with_reducible refine (bA.calls k a0 j5 _ A3.out).mono ?_);rintro e w4 ⟨rfl,hb⟩;replace HB:=am (aA eG hb);(try clear hb)));go_ret;exact ⟨rr_,eG⟩
theorem strings_Join.calls (A0:Option Addr) (c0:Nat) (l0:List ByteArray) (a1:ByteArray) (r:ByteArray) (w:World) (hr0:Kd.C Kd.string w A0 l0.length l0) (hc0:l0.length≤c0) (h:strings_Join.f l0 a1=some r):
  Calls Tryz.prog 44 #[.slice A0 l0.length c0,.string a1] w fun e w'=>e= .returned (.string r)∧Below w.heap.size w w':=by
 unfold strings_Join.f at h;by_cases h1:l0.length≤140737488355328;case neg=>rw [if_neg h1] at h;cases h
 rw [if_pos h1] at h;by_cases h2:(TY l0 a1).length≤140737488355328;case neg=>rw [if_neg h2] at h;cases h
 rw [if_pos h2] at h;obtain rfl:=oI h;cases l0 with
 |nil=>
  refine (Tryz.strings_Join_none A0 c0 a1 w).mono ?_;rintro e w' ⟨rfl,rfl⟩;exact ⟨rfl,Below.refl _ _⟩
 |cons x xs=>
  obtain ⟨ad,rfl,hc⟩:=hr0.2.2 (by simp);have hcell:∀ (j:Nat) y,(x :: xs)[j]?=some y→w.cell? (ad.add j)=some (.string y):=by
   intro j y hj;obtain ⟨c,hcl,hK,hcc⟩:=hc j y hj;have hK':c=[.string y]:=hK;subst hK';have:=hcc 0 _ rfl
   simpa [Kd.string,Kd.scalar] using this
  obtain ⟨b,o,s⟩:=ad;have h0:=hcell 0 x rfl;have hs:s=none:=by
   cases s with
   |none=>rfl
   |some v=>simp [World.cell?,Addr.add] at h0;split at h0 <;> simp at h0
  subst hs;have hlt:=World.block_lt_of_cell? w _ h0;refine (Tryz.strings_Join b o c0 (x :: xs) a1 w (fun j y hj=>by have h_:=hcell j y hj;cases j <;> simpa [Addr.add] using h_) hlt h1 hc0 h2).mono ?_;rintro e w' ⟨rfl,hb⟩;exact ⟨rfl,hb⟩
theorem dN.mono_l:∀ k,(∀ y0 y1 y2 y3,LeO (dN.l0 k y0 y1 y2 y3) (dN.l0 (k + 1) y0 y1 y2 y3))
 |0=>fun _ _ _ _ r h=>by simp [dN.l0] at h
 |k + 1=>by
  have ih0:=dN.mono_l k
  ·intro y0 y1 y2 y3;unfold dN.l0;have m0:=@gW.mono;exact mo_
theorem dN.mono:∀ a0 k,LeO (dN.f k a0) (dN.f (k + 1) a0):=by
 intro a0 k;have ih0:=dN.mono_l k;unfold dN.f;have m0:=@gW.mono;exact mo_
theorem dN.calls (k:Nat) (A0:Option Addr) (c0:Nat) (l0:List ByteArray) (r:ByteArray) (w:World) (hr0:Kd.C Kd.string w A0 l0.length l0) (hc0:l0.length≤c0) (h:dN.f k l0=some r):
  Calls Tryz.prog 22 #[.slice A0 l0.length c0] w fun e w'=>e= .returned (.string r)∧Below w.heap.size w w':=by
 have j7:=am hr0;have jc:=am hc0;clear hr0 hc0;have HB:=am (Below.refl w.heap.size w);have H:(dN.l0 k l0 l0 (l0.length:Int) 0)=some r:=h;clear h;have H':=am H;clear H;go_enter Tryz.func22,Tryz.ntmps22;go_wp2
 go_loopg [7] k (fun kq v7 w'=>∃ (j3:Int),v7= .int .i64 j3∧Aside0 (dN.l0 kq l0 l0 (l0.length:Int) j3=some r)∧Aside0 (kq≤k)∧Aside0 (Below w.heap.size w w'))
 case atStart=>exact ⟨(0),sd_,H',⟨Nat.le_refl _⟩,⟨eG⟩⟩
 case round=>
  clear H';obtain ⟨j3,rfl,HA,jb,HB⟩:=hrel;cases gk with
  |zero=>exact absurd HA.out (by simp [dN.l0])
  |succ k1=>
   have H:=HA.out;clear HA;simp only [dN.l0] at H;by_cases c2:j3 < (l0.length:Int)
   ·rw [if_pos c2] at H;have j8:decide (j3 < (l0.length:Int))=true:=dT c2;clear c2;by_cases c3:0≤j3
    ·rw [if_pos c3] at H;have jd:decide (0≤j3)=true:=dT c3;clear c3;by_cases c4:j3 < (l0.length:Int)
     ·rw [if_pos c4] at H;have je:decide (j3 < (l0.length:Int))=true:=dT c4;clear c4;obtain ⟨jf,A5,H⟩:=bsa H;(try dsimp only at H);by_cases c6:jf=true
      ·subst c6;rw [if_pos rfl] at H;have H':=am H;clear H;have j5:0≤(j3:Int):=of_decide_eq_true fK;have j6:j3 < (l0.length:Int):=of_decide_eq_true fK;obtain ⟨j9,ja,j4⟩:=Kd.rT j7.out j3 j5 j6;cases ja;replace j4:=bcT HB.out j4;replace j5:=eq_true j5;replace j6:=eq_true j6;go_wp2_with (first|((with_reducible refine gC 43 rfl ?_);refine gl_ 12 Tryz.func43 #[.string (pJ ByteArray.empty l0 j3)] ?_;(with_reducible refine (gW.calls k1 (pJ ByteArray.empty l0 j3) true _ A5.out).mono ?_);rintro e w7 ⟨rfl,hb⟩;refine ⟨_,rfl,?_⟩;replace HB:=am (aA eG hb);(try clear hb)));go_roundg k1;case measure=>have:=jb.out;omega
       case rel=>exact ⟨(wrap64 (j3 + 1)),sd_,H',⟨by have:=jb.out;omega⟩,⟨eG⟩⟩
      replace c6:=Bool.eq_false_iff.mpr c6;subst c6;rw [if_neg Bool.false_ne_true] at H;obtain rfl:=oI H;have j5:0≤(j3:Int):=of_decide_eq_true fK;have j6:j3 < (l0.length:Int):=of_decide_eq_true fK;obtain ⟨j9,ja,j4⟩:=Kd.rT j7.out j3 j5 j6;cases ja;replace j4:=bcT HB.out j4;replace j5:=eq_true j5;replace j6:=eq_true j6;go_wp2_with (first|((with_reducible refine gC 43 rfl ?_);refine gl_ 12 Tryz.func43 #[.string (pJ ByteArray.empty l0 j3)] ?_;(with_reducible refine (gW.calls k1 (pJ ByteArray.empty l0 j3) false _ A5.out).mono ?_);rintro e w8 ⟨rfl,hb⟩;refine ⟨_,rfl,?_⟩;replace HB:=am (aA eG hb);(try clear hb)));go_ret;exact ⟨rr_,eG⟩
     rw [if_neg c4] at H;cases H
    rw [if_neg c3] at H;cases H
   rw [if_neg c2] at H;have j8:decide (j3 < (l0.length:Int))=false:=dF c2;clear c2;obtain ⟨jg,A9,H⟩:=bsa H;(try dsimp only at H);obtain rfl:=oI H;go_wp2_with (first|((with_reducible refine gC 44 rfl ?_);refine gl_ 16 Tryz.func44 #[.slice A0 l0.length c0,.string (⟨#[32]⟩:ByteArray)] ?_;(with_reducible refine (strings_Join.calls _ _ l0 (⟨#[32]⟩:ByteArray) jg _ (aC_ (Kd.aX j7.out HB.out)) jc.out A9.out).mono ?_);rintro e jh ⟨rfl,hb⟩;refine ⟨_,rfl,?_⟩;replace HB:=am (aA eG hb);(try clear hb)));go_ret;exact ⟨rr_,eG⟩
theorem bC.mono_l:∀ k,(∀ y0 y1 y2 y3 y4 y5,LeO (bC.l0 k y0 y1 y2 y3 y4 y5) (bC.l0 (k + 1) y0 y1 y2 y3 y4 y5))∧(∀ y0 y1 y2 y3,LeO (bC.l1 k y0 y1 y2 y3) (bC.l1 (k + 1) y0 y1 y2 y3))
 |0=>⟨fun _ _ _ _ _ _ r h=>by simp [bC.l0] at h,fun _ _ _ _ r h=>by simp [bC.l1] at h⟩
 |k + 1=>by
  obtain ⟨ih0,ih1⟩:=bC.mono_l k;refine ⟨?_,?_⟩
  ·intro y0 y1 y2 y3 y4 y5;unfold bC.l0;have m0:=@bE.mono;have m1:=@dN.mono;have m2:=@bB.mono;exact mo_
  ·intro y0 y1 y2 y3;unfold bC.l1;have m0:=@bE.mono;have m1:=@dN.mono;have m2:=@bB.mono;exact mo_
theorem bC.mono:∀ a0 a1 k,LeO (bC.f k a0 a1) (bC.f (k + 1) a0 a1):=by
 intro a0 a1 k;obtain ⟨ih0,ih1⟩:=bC.mono_l k;unfold bC.f;have m0:=@bE.mono;have m1:=@dN.mono;have m2:=@bB.mono;exact mo_
theorem bC.calls (k:Nat) (jc:Option Addr) (j9:Nat) (j3:List Int) (jd:Option Addr) (ja:Nat) (j4:List (List (S58))) (r:ByteArray) (w:World) (hr0_0:Kd.C (Kd.int .i64) w jc j3.length j3) (hc0_0:j3.length≤j9) (hr0_1:Kd.C (Kd.slice 58 k58) w jd j4.length j4) (hc0_1:j4.length≤ja) (ht_:Tab w) (h:bC.f k j3 j4=some r):
  Calls Tryz.prog 8 #[.agg #[.slice jc j3.length j9,.slice jd j4.length ja]] w fun e w'=>e= .returned (.string r)∧Below w.heap.size w w':=by
 have hu26:=Tryz.underlying26;have jg:=am hr0_0;have jy:=am hc0_0;clear hr0_0 hc0_0;have jh:=am hr0_1;have jz:=am hc0_1;clear hr0_1 hc0_1;have HB:=am (Below.refl w.heap.size w);unfold bC.f at h;have H:=h;clear h;obtain ⟨qk,A2,H⟩:=bsa H;(try dsimp only at H);have HH_:=am H;clear H;go_enter Tryz.func8,Tryz.ntmps8;go_upto_region 1 with (first|((with_reducible refine gD 1 rfl ?_);refine dU rfl (N:=1) rfl (cs:=#[.slice jc j3.length j9,.slice jd j4.length ja]) (t:=26) rn_ ?_;intro jf hg w4 hbox hb;have j5:=am (hbox);have ql:=am ((by rw [hg];exact (aI eG):w.heap.size≤jf));have GE31:=am ((by rw [hg];exact (aI eG):w.heap.size≤jf));replace HB:=am (aA eG hb);clear hb hbox hg;obtain ⟨ji,jj,jk,jl⟩:=iV j5.out));have H:=HH_.out;clear HH_;by_cases c3:qk=true
 ·subst c3;rw [if_pos rfl] at H;have H':=am H;clear H;go_wp2_with (first|((with_reducible refine gC 19 rfl ?_);refine gl_ 9 Tryz.func19 #[.agg #[.slice jc j3.length j9,.slice jd j4.length ja]] ?_;(with_reducible refine (bE.calls k _ _ j3 _ _ j4 true _ (aC_ (Kd.aX jg.out HB.out)) jy.out (aC_ (Kd.aX jh.out HB.out)) jz.out A2.out).mono ?_);rintro e w6 ⟨rfl,hb⟩;refine ⟨_,rfl,?_⟩;replace j5:=bbP j5 hb;replace HB:=am (aA rR hb);(try clear hb);obtain ⟨jm,jn,jo,jp⟩:=iV j5.out))
  go_loopg [3,14] k (fun kq v3 qm w'=>∃ (jb:List ByteArray) (j6:Int),qm= .int .i64 j6∧Aside0 (bC.l0 kq jb j3 (j3.length:Int) j6 j3 j4=some r)∧Aside0 (kq≤k)∧Aside0 (Kd.R Kd.string 9 w' w.heap.size (fun _=>True) v3 jb)∧Aside0 (w'.heap[jf]?=some (.cells #[(.slice jc j3.length j9),(.slice jd j4.length ja)] 26 (0,0)))∧Aside0 (Below w.heap.size w w'))
  case atStart=>exact ⟨(([]:List ByteArray)),(0),sd_,H',⟨Nat.le_refl _⟩,⟨by first|exact Kd.uS _ _ _ _ _|exact Kd.xS _ _ _ _ _|exact Kd.xV _ _ _ _ _|exact Kd.xU _ _ _ _ _|exact Kd.vH _ _ _ _ _⟩,⟨by (with_reducible repeat (first|refine dW ?_ _|refine dA ?_|refine dS ?_ _));exact j5.out⟩,⟨rR⟩⟩
  case round=>
   clear H';try clear c3
   try clear ji
   try clear jj
   try clear jm
   try clear jn
   try clear jk
   try clear jl
   try clear jo
   try clear jp
   obtain ⟨jb,j6,rfl,HA,jP,j8,j5,HB⟩:=hrel;cases gk with
   |zero=>exact absurd HA.out (by simp [bC.l0])
   |succ k1=>
    have H:=HA.out;clear HA;simp only [bC.l0] at H;by_cases c8:j6 < (j3.length:Int)
    ·rw [if_pos c8] at H;have jH:decide (j6 < (j3.length:Int))=true:=dT c8;clear c8;by_cases c9:0≤j6
     ·rw [if_pos c9] at H;have qn:decide (0≤j6)=true:=dT c9;clear c9;by_cases c10:j6 < (j3.length:Int)
      ·rw [if_pos c10] at H;have qc:decide (j6 < (j3.length:Int))=true:=dT c10;clear c10;obtain ⟨jE,qd,H⟩:=bsm H;(try dsimp only at H);have qo:=am qd;clear qd;obtain ⟨jF,hy_⟩:∃ y_:List ByteArray,y_=(([(⟨#[98,111,120]⟩:ByteArray),jE,(⟨#[59]⟩:ByteArray)]:List ByteArray)):=⟨_,rfl⟩;replace H:(if jb.length + jF.length < 8796093022208 then (bC.l0 k1 (jb ++ jF) j3 (j3.length:Int) (wrap64 (j6 + 1)) j3 j4) else (none))=some r:=rx_;have jI:=am hy_;clear hy_;by_cases jQ:jb.length + jF.length < 8796093022208
       ·rw [if_pos jQ] at H;have jJ:=am jQ;clear jQ;obtain ⟨qe,hy_⟩:∃ y_:List ByteArray,y_=(jb ++ jF):=⟨_,rfl⟩;replace H:(bC.l0 k1 qe j3 (j3.length:Int) (wrap64 (j6 + 1)) j3 j4)=some r:=rx_;have jV:=am hy_;clear hy_;have H':=am H;clear H;have jW:0≤(j6:Int):=of_decide_eq_true fK;have jX:j6 < (j3.length:Int):=of_decide_eq_true fK;obtain ⟨jY,qp,jq⟩:=Kd.oW jg.out j6 jW jX;cases qp;replace jq:=bcT HB.out jq;replace jW:=eq_true jW;replace jX:=eq_true jX;go_wp2_with (first|((with_reducible refine gC 20 rfl ?_);refine gl_ 20 Tryz.func20 #[.int .i64 (rd j3 j6)] ?_;(with_reducible refine (iC.calls (rd j3 j6) jE _ ?sideT qo.out).mono ?_);(case sideT=>first|exact ht_|exact Tab.below ht_ HB.out|exact Tab.below ht_ rR);rintro e qv ⟨rfl,hb⟩;refine ⟨_,rfl,?_⟩;replace j8:=am (Kd.fT (aR_ j8.out) hb);replace j5:=bbP j5 hb;replace HB:=am (aA rR hb);(try clear hb))|((with_reducible refine gD 21 rfl ?_);refine Kd.oL Kd.string _ 9 rfl (N:=21) rfl (xs:=([(⟨#[98,111,120]⟩:ByteArray),jE,(⟨#[59]⟩:ByteArray)]:List ByteArray)) (inner:=[.string (⟨#[98,111,120]⟩:ByteArray),.string jE,.string (⟨#[59]⟩:ByteArray)]) (ok:=fun _=>True) (okp:=fun _=>True) rn_ ?hp (fun _ hk=>hk) trivial (Below.refl _ _) (Nat.le_refl _) (by simp) ?_;(case hp=>exact (dF.one (show Kd.M Kd.string _ _ _ (⟨#[98,111,120]⟩:ByteArray) [.string (⟨#[98,111,120]⟩:ByteArray)] from rfl) (dF.one (show Kd.M Kd.string _ _ _ jE [.string jE] from rfl) (dF.one (show Kd.M Kd.string _ _ _ (⟨#[59]⟩:ByteArray) [.string (⟨#[59]⟩:ByteArray)] from rfl) (dF.none _ _)))));intro qw qx ho15 hb hg_ hnew_;clear hg_ hnew_;(first|rw [← jI.out] at ho15|(simp only [Int.reduceToNat] at ho15;rw [← jI.out] at ho15));have jr:=am (Kd.fB (Kd.lF ho15 (Kd.iG (aR_ j8.out))) (aI rR));replace j8:=am (Kd.iD (aR_ j8.out) (Kd.iN ho15) hb);replace j5:=bbP j5 hb;replace HB:=am (aA rR hb);clear hb ho15;obtain ⟨jZ,q0,q1⟩:=Kd.eY jr.out;subst q1)|((with_reducible refine dV (b:=.append) (xs:=#[.tmp 18,.tmp 21]) rfl ?_);at_builtin;refine Kd.gY Kd.string (w0:=w) w.heap.size rfl (.tmp 18) (.tmp 21) 29 9 (.string ⟨#[]⟩) 16 rfl Tryz.underlying29 kU rfl (by decide) (by omega) u3 jb jF _ _ _ (fun k_=>some k_≠(.slice jZ jF.length q0:Value).ownBlock) (fun _=>False) rfl rfl ?aO ?aR (fun _ _ h=>h) (fun _ h=>h.elim) ?aF ?aB ?aS ?aL ?_;(case aR=>repeat (first|exact (Kd.eX jr.out).2.2|(with_reducible refine Kd.lS ?_ _)|(with_reducible refine Kd.kZ ?_ _)|(with_reducible refine Kd.mP ?_)));(case aB=>exact rR);(case aF=>exact (fun k_ hk=>Kd.fresh' (Kd.iG (aR_ jr.out)) k_ hk));(case aO=>exact (gI (Kd.bN j8.out (fun _ hk=>hk.2))));(case aS=>exact (aI rR));(case aL=>have:=jJ.out;omega);intro qy qz ho hb hg hat;rw [← jV.out] at ho;replace j5:=am (dL (g:=jf) (o:=.cells #[.slice (some jY) j3.length j9,.slice jd j4.length ja] 26 (0,0)) (aG_ j5.out) hg (Kd.lC j8.out j5.out (by decide)));replace jr:=am (Kd.iX (ok:=(fun _=>True)) (aR_ jr.out) hg hat);replace HB:=am (hb);have q2:=am (ho);clear j8 ho hb hg hat));go_roundg k1;case measure=>have:=jP.out;omega
        case rel=>exact ⟨(qe),(wrap64 (j6 + 1)),sd_,H',⟨by have:=jP.out;omega⟩,⟨gI (Kd.bN q2.out (fun _ hk=>trivial))⟩,⟨by (with_reducible repeat (first|refine dW ?_ _|refine dA ?_|refine dS ?_ _));exact j5.out⟩,⟨rR⟩⟩
       rw [if_neg jQ] at H;cases H
      rw [if_neg c10] at H;cases H
     rw [if_neg c9] at H;cases H
    rw [if_neg c8] at H;have jH:decide (j6 < (j3.length:Int))=false:=dF c8;clear c8;have H':=am H;clear H;obtain ⟨ju,jv,jw,jx⟩:=iV j5.out;go_wp2
    go_loopg [3,27] k1 (fun kq v3 qq w'=>∃ (je:List ByteArray) (j7:Int),qq= .int .i64 j7∧Aside0 (bC.l1 kq je j4 (j4.length:Int) j7=some r)∧Aside0 (kq≤k1)∧Aside0 (Kd.R Kd.string 9 w' w.heap.size (fun _=>True) v3 je)∧Aside0 (w'.heap[jf]?=some (.cells #[(.slice jc j3.length j9),(.slice jd j4.length ja)] 26 (0,0)))∧Aside0 (Below w.heap.size w w'))
    case atStart=>exact ⟨(jb),(0),sd_,H',⟨Nat.le_refl _⟩,⟨gI j8.out⟩,⟨by (with_reducible repeat (first|refine dW ?_ _|refine dA ?_|refine dS ?_ _));exact j5.out⟩,⟨rR⟩⟩
    case round=>
     clear H';try clear c3
     try clear c8
     try clear jH
     try clear ju
     try clear jv
     try clear ji
     try clear jj
     try clear jm
     try clear jn
     try clear jw
     try clear jx
     try clear jk
     try clear jl
     try clear jo
     try clear jp
     obtain ⟨je,j7,rfl,HA,qf,j8,j5,HB⟩:=hrel;cases gk with
     |zero=>exact absurd HA.out (by simp [bC.l1])
     |succ k2=>
      have H:=HA.out;clear HA;simp only [bC.l1] at H;by_cases jG:j7 < (j4.length:Int)
      ·rw [if_pos jG] at H;have jK:decide (j7 < (j4.length:Int))=true:=dT jG;clear jG;by_cases jR:0≤j7
       ·rw [if_pos jR] at H;have qg:decide (0≤j7)=true:=dT jR;clear jR;by_cases jS:j7 < (j4.length:Int)
        ·rw [if_pos jS] at H;have qh:decide (j7 < (j4.length:Int))=true:=dT jS;clear jS;by_cases jT:je.length < 8796093022208
         ·rw [if_pos jT] at H;have jL:=am jT;clear jT;obtain ⟨jM,hy_⟩:∃ y_:List ByteArray,y_=(je ++ [(⟨#[116,97,115,107]⟩:ByteArray)]):=⟨_,rfl⟩;replace H:((bB.f k2 (gB j4 j7) jM).bind fun jU=>(bC.l1 k2 jU j4 (j4.length:Int) (wrap64 (j7 + 1))))=some r:=rx_;have q3:=am hy_;clear hy_;obtain ⟨jU,qi,H⟩:=bsm H;(try dsimp only at H);have qr:=am qi;clear qi;have H':=am H;clear H;have q4:0≤(j7:Int):=of_decide_eq_true fK;have q5:j7 < (j4.length:Int):=of_decide_eq_true fK;obtain ⟨q6,jN,jO,qs,js,hl48_0,hi48_0⟩:=wT jh.out j7 q4 q5;cases qs;replace js:=bcT HB.out js;have jA:=am hi48_0;have jB:=am hl48_0;clear hi48_0 hl48_0;replace q4:=eq_true q4;replace q5:=eq_true q5;go_wp2_with (first|((with_reducible refine dV (b:=.append) (xs:=#[.tmp 32,.tmp 33]) rfl ?_);at_builtin;refine Kd.kQ Kd.string (w0:=w) w.heap.size rfl (.tmp 32) (.tmp 33) 29 9 (.string ⟨#[]⟩) 16 rfl Tryz.underlying29 kU rfl (by decide) (by omega) u3 je (⟨#[116,97,115,107]⟩:ByteArray) [.string (⟨#[116,97,115,107]⟩:ByteArray)] (fun _=>True) (fun _=>False) rfl rfl ?aP (fun _ hk=>hk.elim) ?aF ?aO ?aB ?aS ?aL ?_;(case aP=>exact rfl);(case aB=>exact rR);(case aF=>exact (fun _ _=>trivial));(case aO=>exact (aR_ j8.out));(case aS=>exact (aI rR));(case aL=>have:=jL.out;omega);intro qA qB ho hb hg hat;rw [← q3.out] at ho;replace j5:=am (dL (g:=jf) (o:=.cells #[.slice jc j3.length j9,.slice (some q6) j4.length ja] 26 (0,0)) (aG_ j5.out) hg (Kd.lC j8.out j5.out (by decide)));replace HB:=am (hb);have jt:=am (ho);clear j8 ho hb hg hat;obtain ⟨jC,jD,q7⟩:=Kd.eY jt.out;subst q7)|((with_reducible refine gC 21 rfl ?_);refine gl_ 35 Tryz.func21 #[.slice jN (gB j4 j7).length jO,.slice jC jM.length jD] ?_;(with_reducible refine (bB.calls k2 _ _ (gB j4 j7) (fun k_=>some k_=(.slice jC jM.length jD:Value).ownBlock) (.slice jC jM.length jD) jM jU w _ ?side1 ?side2 jB.out ?side4 ?sideT qr.out).mono ?_);(case sideT=>first|exact ht_|exact Tab.below ht_ HB.out|exact Tab.below ht_ rR);(case side1=>exact rR);(case side2=>exact Kd.wB WG jA.out rR (fun k_ hs_=>(fun e_=>Kd.iN jt.out k_ e_.symm) hs_));(case side4=>exact Kd.lT rfl jt.out);rintro e qC ⟨qD,rfl,ho0,hb,hkp⟩;refine ⟨_,rfl,?_⟩;replace j5:=am (kS (aG_ j5.out) hkp (fun hs_=>(fun e_=>(Kd.lC jt.out j5.out (by decide)) e_) hs_));have q8:=am (Kd.bN (ok':=fun k_=>True) ho0 (fun k_ hk_=>trivial));replace HB:=am (hb);clear jt;(try clear hb);(try clear hkp);(try clear ho0)));go_roundg k2;case measure=>have:=jP.out;have:=qf.out;omega
          case rel=>exact ⟨(jU),(wrap64 (j7 + 1)),sd_,H',⟨by have:=jP.out;have:=qf.out;omega⟩,⟨gI q8.out⟩,⟨by (with_reducible repeat (first|refine dW ?_ _|refine dA ?_|refine dS ?_ _));exact j5.out⟩,⟨rR⟩⟩
         rw [if_neg jT] at H;cases H
        rw [if_neg jS] at H;cases H
       rw [if_neg jR] at H;cases H
      rw [if_neg jG] at H;have jK:decide (j7 < (j4.length:Int))=false:=dF jG;clear jG;obtain ⟨qt,qj,H⟩:=bsm H;(try dsimp only at H);have qu:=am qj;clear qj;obtain rfl:=oI H;obtain ⟨q9,qa,qb⟩:=Kd.eY j8.out;subst qb;go_wp2_with (first|((with_reducible refine gC 22 rfl ?_);refine gl_ 38 Tryz.func22 #[.slice q9 je.length qa] ?_;(with_reducible refine (dN.calls k2 _ _ je qt _ (aC_ (Kd.eX j8.out).2.2) (Kd.eX j8.out).2.1 qu.out).mono ?_);rintro e qE ⟨rfl,hb⟩;refine ⟨_,rfl,?_⟩;replace j8:=am (Kd.fT (aR_ j8.out) hb);replace j5:=bbP j5 hb;replace HB:=am (aA rR hb);(try clear hb)));go_ret;exact ⟨rr_,rR⟩
 replace c3:=Bool.eq_false_iff.mpr c3;subst c3;rw [if_neg Bool.false_ne_true] at H;obtain rfl:=oI H;go_wp2_with (first|((with_reducible refine gC 19 rfl ?_);refine gl_ 9 Tryz.func19 #[.agg #[.slice jc j3.length j9,.slice jd j4.length ja]] ?_;(with_reducible refine (bE.calls k _ _ j3 _ _ j4 false _ (aC_ (Kd.aX jg.out HB.out)) jy.out (aC_ (Kd.aX jh.out HB.out)) jz.out A2.out).mono ?_);rintro e qF ⟨rfl,hb⟩;refine ⟨_,rfl,?_⟩;replace j5:=bbP j5 hb;replace HB:=am (aA rR hb);(try clear hb)));go_ret;exact ⟨rr_,rR⟩
theorem iH.calls (a0:Int) (a1:Int) (a2:Int) (r:Bool) (w:World) (h:iH.f a0 a1 a2=some r):
  Calls Tryz.prog 46 #[.int .i64 a0,.int .i64 a1,.int .i64 a2] w fun e w'=>e= .returned (.bool r)∧gX w w':=by
 have H:(if a0≥a1 then (some (decide (a0≤a2))) else (some false))=some r:=h;clear h;by_cases c4:a0≥a1
 ·rw [if_pos c4] at H;have j3:decide (a1≤a0)=true:=dT c4;clear c4;obtain rfl:=oI H;go_enter Tryz.func46,Tryz.ntmps46;go_wp2;go_ret;exact ⟨sd_,fG⟩
 rw [if_neg c4] at H;have j3:decide (a1≤a0)=false:=dF c4;clear c4;obtain rfl:=oI H;go_enter Tryz.func46,Tryz.ntmps46;go_wp2;go_ret;exact ⟨sd_,fG⟩
theorem dZ.mono_l:∀ k,(∀ y0 y1,LeO (dZ.l0 k y0 y1) (dZ.l0 (k + 1) y0 y1))
 |0=>fun _ _ r h=>by simp [dZ.l0] at h
 |k + 1=>by
  have ih0:=dZ.mono_l k
  ·intro y0 y1;unfold dZ.l0;exact mo_
theorem dZ.mono:∀ a0 k,LeO (dZ.f k a0) (dZ.f (k + 1) a0):=by
 intro a0 k;have ih0:=dZ.mono_l k;unfold dZ.f;exact mo_
theorem dZ.calls (k:Nat) (A0:Option Addr) (c0:Nat) (l0:List Int) (r:Bool) (w:World) (hr0:Kd.C (Kd.int .i64) w A0 l0.length l0) (hc0:l0.length≤c0) (h:dZ.f k l0=some r):
  Calls Tryz.prog 45 #[.slice A0 l0.length c0] w fun e w'=>e= .returned (.bool r)∧gX w w':=by
 have ja:=am hr0;have je:=am hc0;clear hr0 hc0;have H:(dZ.l0 k l0 0)=some r:=h;clear h;have H':=am H;clear H;go_enter Tryz.func45,Tryz.ntmps45;go_wp2
 go_loopg [3] k (fun kq v3 w'=>∃ (j3:Int),v3= .int .i64 j3∧Aside0 (dZ.l0 kq l0 j3=some r)∧Aside0 (kq≤k)∧gX w w')
 case atStart=>exact ⟨(0),sd_,H',⟨Nat.le_refl _⟩,fG⟩
 case round=>
  clear H';obtain ⟨j3,rfl,HA,jb,⟨m1,rfl⟩⟩:=hrel;cases gk with
  |zero=>exact absurd HA.out (by simp [dZ.l0])
  |succ k1=>
   have H:=HA.out;clear HA;simp only [dZ.l0] at H;by_cases c2:j3 < (l0.length:Int)
   ·rw [if_pos c2] at H;have j7:decide (j3 < (l0.length:Int))=true:=dT c2;clear c2;by_cases c3:0≤j3
    ·rw [if_pos c3] at H;have jc:decide (0≤j3)=true:=dT c3;clear c3;obtain ⟨jd,A4,H⟩:=bsa H;(try dsimp only at H);by_cases c5:jd=true
     ·subst c5;rw [if_pos rfl] at H;have H':=am H;clear H;have j4:0≤(j3:Int):=of_decide_eq_true fK;have j5:j3 < (l0.length:Int):=of_decide_eq_true fK;obtain ⟨j8,j9,j6⟩:=Kd.oW ja.out j3 j4 j5;cases j9;replace j4:=eq_true j4;replace j5:=eq_true j5;go_wp2_with (first|((with_reducible refine gC 46 rfl ?_);refine gl_ 14 Tryz.func46 #[.int .i64 (rd l0 j3),.int .i64 1,.int .i64 4] ?_;(with_reducible refine (iH.calls (rd l0 j3) 1 4 true _ A4.out).mono ?_);rintro e w' ⟨rfl,⟨nd,rfl⟩⟩;refine ⟨_,rfl,?_⟩));go_roundg k1;case measure=>have:=jb.out;omega
      case rel=>exact ⟨(wrap64 (j3 + 1)),sd_,H',⟨by have:=jb.out;omega⟩,fG⟩
     replace c5:=Bool.eq_false_iff.mpr c5;subst c5;rw [if_neg Bool.false_ne_true] at H;obtain rfl:=oI H;have j4:0≤(j3:Int):=of_decide_eq_true fK;have j5:j3 < (l0.length:Int):=of_decide_eq_true fK;obtain ⟨j8,j9,j6⟩:=Kd.oW ja.out j3 j4 j5;cases j9;replace j4:=eq_true j4;replace j5:=eq_true j5;go_wp2_with (first|((with_reducible refine gC 46 rfl ?_);refine gl_ 14 Tryz.func46 #[.int .i64 (rd l0 j3),.int .i64 1,.int .i64 4] ?_;(with_reducible refine (iH.calls (rd l0 j3) 1 4 false _ A4.out).mono ?_);rintro e w' ⟨rfl,⟨nd,rfl⟩⟩;refine ⟨_,rfl,?_⟩));go_ret;exact ⟨sd_,fG⟩
    rw [if_neg c3] at H;cases H
   rw [if_neg c2] at H;have j7:decide (j3 < (l0.length:Int))=false:=dF c2;clear c2;obtain rfl:=oI H;go_wp2;go_ret;exact ⟨sd_,fG⟩
theorem iL.calls (a0:Int) (r:Bool) (w:World) (h:iL.f a0=some r):
  Calls Tryz.prog 122 #[.int .i64 a0] w fun e w'=>e= .returned (.bool r)∧gX w w':=by
 have H:((iH.f a0 1 12).bind fun j3=>(some j3))=some r:=h;clear h;obtain ⟨j3,A2,H⟩:=bsa H;(try dsimp only at H);obtain rfl:=oI H;go_enter Tryz.func122,Tryz.ntmps122;go_wp2_with (first|((with_reducible refine gC 46 rfl ?_);refine gl_ 4 Tryz.func46 #[.int .i64 a0,.int .i64 1,.int .i64 12] ?_;(with_reducible refine (iH.calls a0 1 12 j3 _ A2.out).mono ?_);rintro e w' ⟨rfl,⟨nd,rfl⟩⟩;refine ⟨_,rfl,?_⟩));go_ret;exact ⟨sd_,fG⟩
theorem iP.mono_l:∀ k,(∀ y0 y1 y2 y3,LeO (iP.f k y0 y1 y2 y3) (iP.f (k + 1) y0 y1 y2 y3))
 |0=>fun _ _ _ _ r h=>by simp [iP.f] at h
 |k + 1=>by
  have ih0:=iP.mono_l k
  ·intro y0 y1 y2 y3;unfold iP.f;exact mo_
theorem iP.mono:∀ a0 a1 a2 a3 k,LeO (iP.f k a0 a1 a2 a3) (iP.f (k + 1) a0 a1 a2 a3):=by
 intro a0 a1 a2 a3 k;have ih0:=iP.mono_l k;exact ih0 a0 a1 a2 a3
theorem iP.calls (k:Nat):∀ (j4:Int) (j8:Int) (jg:Option Addr) (jh:Nat) (j3:List (S56)) (a1:Int) (r:Bool) (w:World) (hr0_2:Kd.C k56 w jg j3.length j3) (hc0_2:j3.length≤jh) (h:iP.f k j4 j8 j3 a1=some r),
  Calls Tryz.prog 135 #[.agg #[.int .i64 j4,.int .i64 j8,.slice jg j3.length jh],.int .i64 a1] w fun e w'=>e= .returned (.bool r)∧Below w.heap.size w w':=by
 induction k using Nat.strongRecOn with
 | _ k ih=>
 intro j4 j8 jg jh j3 a1 r w hr0_2 hc0_2 h;cases k with
 |zero=>exact absurd h (by simp [iP.f])
 |succ k=>
 simp only [iP.f] at h;have hu56:=Tryz.underlying56;have jf:=am hr0_2;have qL:=am hc0_2;clear hr0_2 hc0_2;have HB:=am (Below.refl w.heap.size w);have H:=h;clear h;have HH_:=am H;clear H;go_enter Tryz.func135,Tryz.ntmps135;go_upto_region 1 with (first|((with_reducible refine gD 2 rfl ?_);(try (refine nH (by rfl) ?_;dsimp only));refine dU rfl (N:=2) rfl (cs:=#[.int .i64 j4,.int .i64 j8,.slice jg j3.length jh]) (t:=56) rn_ ?_;intro jp hg w4 hbox hb;have j9:=am (hbox);have GW43:=am ((by rw [hg];exact (aI eG):w.heap.size≤jp));have GE43:=am ((by rw [hg];exact (aI eG):w.heap.size≤jp));replace HB:=am (aA eG hb);clear hb hbox hg));have H:=HH_.out;clear HH_;by_cases c3:a1 < 1
 ·rw [if_pos c3] at H;have qx:decide (a1 < 1)=true:=dT c3;clear c3;obtain rfl:=oI H;go_wp2;go_ret;exact ⟨rr_,kM⟩
 rw [if_neg c3] at H;have qx:decide (a1 < 1)=false:=dF c3;clear c3;by_cases c5:j4=0
 ·rw [if_pos c5] at H;have qy:(j4 == 0)=true:=beq_iff_eq.mpr c5;have qz:(j4 != 0)=false:=bF c5;clear c5;obtain ⟨qY,A6,H⟩:=bsa H;(try dsimp only at H);by_cases c7:qY=true
  ·subst c7;rw [if_pos rfl] at H;obtain rfl:=oI H;obtain ⟨qA,qB,qC,qD,qE,qF⟩:=mE j9.out;go_wp2_with (first|((with_reducible refine gC 46 rfl ?_);refine gl_ 12 Tryz.func46 #[.int .i64 j8,.int .i64 0,.int .i64 99999] ?_;(with_reducible refine (iH.calls j8 0 99999 true _ A6.out).mono ?_);rintro e w' ⟨rfl,⟨nd,rfl⟩⟩;refine ⟨_,rfl,?_⟩));go_ret;exact ⟨rr_,kM⟩
  replace c7:=Bool.eq_false_iff.mpr c7;subst c7;rw [if_neg Bool.false_ne_true] at H;obtain rfl:=oI H;obtain ⟨jA,jB,jC,jD,jE,jF⟩:=mE j9.out;go_wp2_with (first|((with_reducible refine gC 46 rfl ?_);refine gl_ 12 Tryz.func46 #[.int .i64 j8,.int .i64 0,.int .i64 99999] ?_;(with_reducible refine (iH.calls j8 0 99999 false _ A6.out).mono ?_);rintro e w' ⟨rfl,⟨nd,rfl⟩⟩;refine ⟨_,rfl,?_⟩));go_ret;exact ⟨rr_,kM⟩
 rw [if_neg c5] at H;have qy:(j4 == 0)=false:=bE c5;have qz:(j4 != 0)=true:=bne_iff_ne.mpr c5;by_cases ji:j4=13
 ·rw [if_pos ji] at H;have jq:(j4 == 13)=true:=beq_iff_eq.mpr ji;have jr:(j4 != 13)=false:=bF ji;clear ji;obtain ⟨qZ,qM,H⟩:=bsm H;(try dsimp only at H);have qN:=am qM;clear qM;by_cases jG:qZ=true
  ·subst jG;rw [if_pos rfl] at H;obtain rfl:=oI H;obtain ⟨jH,jI,jJ,jK,jL,jM⟩:=mE j9.out;go_wp2_with (first|((with_reducible refine gC 46 rfl ?_);refine gl_ 24 Tryz.func46 #[.int .i64 j8,.int .i64 0,.int .i64 3] ?_;(with_reducible refine (iH.calls j8 0 3 true _ qN.out).mono ?_);rintro e w' ⟨rfl,⟨nd,rfl⟩⟩;refine ⟨_,rfl,?_⟩));go_ret;exact ⟨rr_,kM⟩
  replace jG:=Bool.eq_false_iff.mpr jG;subst jG;rw [if_neg Bool.false_ne_true] at H;obtain rfl:=oI H;obtain ⟨jN,jO,jP,jQ,jR,jS⟩:=mE j9.out;go_wp2_with (first|((with_reducible refine gC 46 rfl ?_);refine gl_ 24 Tryz.func46 #[.int .i64 j8,.int .i64 0,.int .i64 3] ?_;(with_reducible refine (iH.calls j8 0 3 false _ qN.out).mono ?_);rintro e w' ⟨rfl,⟨nd,rfl⟩⟩;refine ⟨_,rfl,?_⟩));go_ret;exact ⟨rr_,kM⟩
 rw [if_neg ji] at H;have jq:(j4 == 13)=false:=bE ji;have jr:(j4 != 13)=true:=bne_iff_ne.mpr ji;obtain ⟨z0,qO,H⟩:=bsm H;(try dsimp only at H);have js:=am qO;clear qO;by_cases jT:z0=true
 ·subst jT;rw [if_pos rfl] at H;by_cases jj:j8=0
  ·rw [if_pos jj] at H;have jt:(j8 == 0)=true:=beq_iff_eq.mpr jj;have ju:(j8 != 0)=false:=bF jj;clear jj;by_cases jk:(j3.length:Int)=2
   ·rw [if_pos jk] at H;have jv:((j3.length:Int) == 2)=true:=beq_iff_eq.mpr jk;have jw:((j3.length:Int) != 2)=false:=bF jk;clear jk;by_cases jU:0 < (j3.length:Int)
    ·rw [if_pos jU] at H;have qP:decide (0 < (j3.length:Int))=true:=dT jU;have qQ:decide (0 < j3.length)=true:=dT (by omega);clear jU;obtain ⟨z1,qR,H⟩:=bsm H;(try dsimp only at H);have qS:=am qR;clear qR;by_cases jV:z1=true
     ·subst jV;rw [if_pos rfl] at H;by_cases jW:1 < (j3.length:Int)
      ·rw [if_pos jW] at H;have qT:decide (1 < (j3.length:Int))=true:=dT jW;have qU:decide (1 < j3.length)=true:=dT (by omega);clear jW;obtain ⟨z2,qV,H⟩:=bsm H;(try dsimp only at H);have z3:=am qV;clear qV;obtain rfl:=oI H;obtain ⟨jX,jY,jZ,q0,q1,q2⟩:=mE j9.out;go_wp2_with (first|((with_reducible refine gC 122 rfl ?_);refine gl_ 33 Tryz.func122 #[.int .i64 j4] ?_;(with_reducible refine (iL.calls j4 true _ js.out).mono ?_);rintro e w' ⟨rfl,⟨nd,rfl⟩⟩;refine ⟨_,rfl,?_⟩;have jl:0≤(0:Int):=(by omega);have jm:0 < (j3.length:Int):=of_decide_eq_true fK;obtain ⟨jx,jy,jz,qG,j5,j6,j7,hl49_2,hi49_2⟩:=rM jf.out 0 jl jm;cases qG;have qH:(0 < j3.length)=True:=eq_true (by omega);(try rw [show ((0:Int)).toNat=0 from rfl] at j5);(try rw [show 0 * 3=0 from rfl] at j5);(try rw [Addr.add_zero'] at j5);(try rw [show ((0:Int)).toNat=0 from rfl] at j6);(try rw [show 0 * 3=0 from rfl] at j6);(try rw [Addr.add_zero'] at j6);(try rw [show ((0:Int)).toNat=0 from rfl] at j7);(try rw [show 0 * 3=0 from rfl] at j7);(try rw [Addr.add_zero'] at j7);replace j5:=bcT HB.out j5;replace j6:=bcT HB.out j6;replace j7:=bcT HB.out j7;have jd:=am hi49_2;have je:=am hl49_2;clear hi49_2 hl49_2;replace jl:=eq_true jl;replace jm:=eq_true jm)|(go_at_call 135;(with_reducible refine (ih k (by omega) ((bW j3 0).f0) ((bW j3 0).f1) _ _ ((bW j3 0).f2) (wrap64 (a1 - 1)) true _ (aC_ (Kd.aX jd.out kM)) je.out qS.out).mono ?_);rintro e z6 ⟨rfl,hb⟩;replace j9:=bbP j9 hb;replace HB:=am (aA kM hb);(try clear hb);obtain ⟨q3,q4,q5,q6,q7,q8⟩:=mE j9.out;have qI:0≤(1:Int):=(by omega);have qJ:1 < (j3.length:Int):=of_decide_eq_true fK;obtain ⟨qK,qW,qX,z4,ja,jb,jc,hl50_2,hi50_2⟩:=rM jf.out 1 qI qJ;obtain rfl:jx=qK:=(by injection z4);(try simp only [show (1:Int).toNat=1 from rfl,Nat.reduceMul,Nat.reduceEqDiff,Go.Addr.add,↓reduceIte] at ja);(try simp only [show (1:Int).toNat=1 from rfl,Nat.reduceMul,Nat.reduceEqDiff,Go.Addr.add,↓reduceIte] at jb);(try simp only [show (1:Int).toNat=1 from rfl,Nat.reduceMul,Nat.reduceEqDiff,Go.Addr.add,↓reduceIte] at jc);have z5:(1 < j3.length)=True:=eq_true (by omega);(try rw [show ((1:Int)).toNat=1 from rfl] at ja);(try rw [show 1 * 3=3 from rfl] at ja);(try rw [show ((1:Int)).toNat=1 from rfl] at jb);(try rw [show 1 * 3=3 from rfl] at jb);(try rw [show ((1:Int)).toNat=1 from rfl] at jc);(try rw [show 1 * 3=3 from rfl] at jc);replace ja:=bcT HB.out ja;replace jb:=bcT HB.out jb;replace jc:=bcT HB.out jc;have jn:=am hi50_2;have jo:=am hl50_2;clear hi50_2 hl50_2;replace qI:=eq_true qI;replace qJ:=eq_true qJ)|(go_at_call 135;(with_reducible refine (ih k (by omega) ((bW j3 1).f0) ((bW j3 1).f1) _ _ ((bW j3 1).f2) (wrap64 (a1 - 1)) z2 _ (aC_ (Kd.aX jn.out HB.out)) jo.out z3.out).mono ?_);rintro e z7 ⟨rfl,hb⟩;replace j9:=bbP j9 hb;replace HB:=am (aA kM hb);(try clear hb)));go_ret;exact ⟨rr_,kM⟩
      rw [if_neg jW] at H;cases H
     replace jV:=Bool.eq_false_iff.mpr jV;subst jV;rw [if_neg Bool.false_ne_true] at H;obtain rfl:=oI H;obtain ⟨q9,qa,qb,qc,qd,qe⟩:=mE j9.out;go_wp2_with (first|((with_reducible refine gC 122 rfl ?_);refine gl_ 33 Tryz.func122 #[.int .i64 j4] ?_;(with_reducible refine (iL.calls j4 true _ js.out).mono ?_);rintro e w' ⟨rfl,⟨nd,rfl⟩⟩;refine ⟨_,rfl,?_⟩;have jl:0≤(0:Int):=(by omega);have jm:0 < (j3.length:Int):=of_decide_eq_true fK;obtain ⟨jx,jy,jz,qG,j5,j6,j7,hl49_2,hi49_2⟩:=rM jf.out 0 jl jm;cases qG;have qH:(0 < j3.length)=True:=eq_true (by omega);(try rw [show ((0:Int)).toNat=0 from rfl] at j5);(try rw [show 0 * 3=0 from rfl] at j5);(try rw [Addr.add_zero'] at j5);(try rw [show ((0:Int)).toNat=0 from rfl] at j6);(try rw [show 0 * 3=0 from rfl] at j6);(try rw [Addr.add_zero'] at j6);(try rw [show ((0:Int)).toNat=0 from rfl] at j7);(try rw [show 0 * 3=0 from rfl] at j7);(try rw [Addr.add_zero'] at j7);replace j5:=bcT HB.out j5;replace j6:=bcT HB.out j6;replace j7:=bcT HB.out j7;have jd:=am hi49_2;have je:=am hl49_2;clear hi49_2 hl49_2;replace jl:=eq_true jl;replace jm:=eq_true jm)|(go_at_call 135;(with_reducible refine (ih k (by omega) ((bW j3 0).f0) ((bW j3 0).f1) _ _ ((bW j3 0).f2) (wrap64 (a1 - 1)) false _ (aC_ (Kd.aX jd.out kM)) je.out qS.out).mono ?_);rintro e z8 ⟨rfl,hb⟩;replace j9:=bbP j9 hb;replace HB:=am (aA kM hb);(try clear hb)));go_ret;exact ⟨rr_,kM⟩
    rw [if_neg jU] at H;cases H
   rw [if_neg jk] at H;have jv:((j3.length:Int) == 2)=false:=bE jk;have jw:((j3.length:Int) != 2)=true:=bne_iff_ne.mpr jk;obtain rfl:=oI H;obtain ⟨qf,qg,qh,qi,qj,qk⟩:=mE j9.out;go_wp2_with (first|((with_reducible refine gC 122 rfl ?_);refine gl_ 33 Tryz.func122 #[.int .i64 j4] ?_;(with_reducible refine (iL.calls j4 true _ js.out).mono ?_);rintro e w' ⟨rfl,⟨nd,rfl⟩⟩;refine ⟨_,rfl,?_⟩));go_ret;exact ⟨rr_,kM⟩
  rw [if_neg jj] at H;have jt:(j8 == 0)=false:=bE jj;have ju:(j8 != 0)=true:=bne_iff_ne.mpr jj;obtain rfl:=oI H;obtain ⟨ql,qm,qn,qo,qp,qq⟩:=mE j9.out;go_wp2_with (first|((with_reducible refine gC 122 rfl ?_);refine gl_ 33 Tryz.func122 #[.int .i64 j4] ?_;(with_reducible refine (iL.calls j4 true _ js.out).mono ?_);rintro e w' ⟨rfl,⟨nd,rfl⟩⟩;refine ⟨_,rfl,?_⟩));go_ret;exact ⟨rr_,kM⟩
 replace jT:=Bool.eq_false_iff.mpr jT;subst jT;rw [if_neg Bool.false_ne_true] at H;obtain rfl:=oI H;obtain ⟨qr,qs,qt,qu,qv,qw⟩:=mE j9.out;go_wp2_with (first|((with_reducible refine gC 122 rfl ?_);refine gl_ 33 Tryz.func122 #[.int .i64 j4] ?_;(with_reducible refine (iL.calls j4 false _ js.out).mono ?_);rintro e w' ⟨rfl,⟨nd,rfl⟩⟩;refine ⟨_,rfl,?_⟩));go_ret;exact ⟨rr_,kM⟩
theorem eZ.mono:∀ a0 a1 a2 k,LeO (eZ.f k a0 a1 a2) (eZ.f (k + 1) a0 a1 a2):=by
 intro a0 a1 a2 k;unfold eZ.f;have m0:=@iP.mono;exact mo_
theorem eZ.calls (k:Nat) (j4:Int) (j5:Int) (j6:Option Addr) (j7:Nat) (j3:List (S56)) (r:Bool) (w:World) (hr0_2:Kd.C k56 w j6 j3.length j3) (hc0_2:j3.length≤j7) (h:eZ.f k j4 j5 j3=some r):
  Calls Tryz.prog 121 #[.agg #[.int .i64 j4,.int .i64 j5,.slice j6 j3.length j7]] w fun e w'=>e= .returned (.bool r)∧Below w.heap.size w w':=by
 have hu56:=Tryz.underlying56;have j9:=am hr0_2;have ja:=am hc0_2;clear hr0_2 hc0_2;have HB:=am (Below.refl w.heap.size w);have H:((iP.f k j4 j5 j3 5).bind fun jc=>(some jc))=some r:=h;clear h;obtain ⟨jc,A2,H⟩:=bsa H;(try dsimp only at H);obtain rfl:=oI H;go_enter Tryz.func121,Tryz.ntmps121;go_wp2_with (first|((with_reducible refine gD 1 rfl ?_);refine dU rfl (N:=1) rfl (cs:=#[.int .i64 j4,.int .i64 j5,.slice j6 j3.length j7]) (t:=56) rn_ ?_;intro jb hg w3 hbox hb;have j8:=am (hbox);have jj:=am ((by rw [hg];exact (aI eG):w.heap.size≤jb));have GE22:=am ((by rw [hg];exact (aI eG):w.heap.size≤jb));replace HB:=am (aA eG hb);clear hb hbox hg;obtain ⟨jd,je,jf,jg,jh,ji⟩:=mE j8.out)|((with_reducible refine gC 135 rfl ?_);refine gl_ 4 Tryz.func135 #[.agg #[.int .i64 j4,.int .i64 j5,.slice j6 j3.length j7],.int .i64 5] ?_;(with_reducible refine (iP.calls k j4 j5 _ _ j3 5 jc _ (aC_ (Kd.aX j9.out HB.out)) ja.out A2.out).mono ?_);rintro e w5 ⟨rfl,hb⟩;refine ⟨_,rfl,?_⟩;replace j8:=bbP j8 hb;replace HB:=am (aA wD hb);(try clear hb)));go_ret;exact ⟨rr_,wD⟩
theorem fI.calls (j7:Int) (j3:Int) (j8:Int) (j9:Int) (ja:Int) (jb:Option Addr) (jc:Nat) (j4:List (S56)) (jd:Option Addr) (je:Nat) (j5:List (S58)) (jf:Option Addr) (jg:Nat) (j6:List (S58)) (a1:Bool) (r:Bool) (w:World) (hr0_5:Kd.C k56 w jb j4.length j4) (hc0_5:j4.length≤jc) (hr0_6:Kd.C k58 w jd j5.length j5) (hc0_6:j5.length≤je) (hr0_7:Kd.C k58 w jf j6.length j6) (hc0_7:j6.length≤jg) (h:fI.f j7 j3 j8 j9 ja j4 j5 j6 a1=some r):
  Calls Tryz.prog 119 #[.agg #[.int .i64 j7,.int .i64 j3,.int .i64 j8,.int .i64 j9,.int .i64 ja,.slice jb j4.length jc,.slice jd j5.length je,.slice jf j6.length jg],.bool a1] w fun e w'=>e= .returned (.bool r)∧Below w.heap.size w w':=by
 have hu58:=Tryz.underlying58;have jA:=am hr0_5;have jB:=am hc0_5;clear hr0_5 hc0_5;have jC:=am hr0_6;have jD:=am hc0_6;clear hr0_6 hc0_6;have jE:=am hr0_7;have jF:=am hc0_7;clear hr0_7 hc0_7;have HB:=am (Below.refl w.heap.size w);have H:(if a1=true then ((iH.f j3 0 3).bind fun ji=>(some ji)) else (some (j3 == 0)))=some r:=h;clear h;have HH_:=am H;clear H;go_enter Tryz.func119,Tryz.ntmps119;go_upto_region 1 with (first|((with_reducible refine gD 2 rfl ?_);refine dU rfl (N:=2) rfl (cs:=#[.int .i64 j7,.int .i64 j3,.int .i64 j8,.int .i64 j9,.int .i64 ja,.slice jb j4.length jc,.slice jd j5.length je,.slice jf j6.length jg]) (t:=58) rn_ ?_;intro jh hg w5 hbox hb;have jj:=am (hbox);have jG:=am ((by rw [hg];exact (aI eG):w.heap.size≤jh));have GE21:=am ((by rw [hg];exact (aI eG):w.heap.size≤jh));replace HB:=am (aA eG hb);clear hb hbox hg;obtain ⟨jk,jl,jm,jn,jo,jp,jq,jr,js,jt,ju,jv,jw,jx,jy,jz⟩:=fP jj.out));have H:=HH_.out;clear HH_;by_cases c3:a1=true
 ·subst c3;rw [if_pos rfl] at H;obtain ⟨ji,A4,H⟩:=bsa H;(try dsimp only at H);obtain rfl:=oI H;go_wp2_with (first|((with_reducible refine gC 46 rfl ?_);refine gl_ 8 Tryz.func46 #[.int .i64 j3,.int .i64 0,.int .i64 3] ?_;(with_reducible refine (iH.calls j3 0 3 ji _ A4.out).mono ?_);rintro e w' ⟨rfl,⟨nd,rfl⟩⟩;refine ⟨_,rfl,?_⟩));go_ret;exact ⟨rr_,wE⟩
 replace c3:=Bool.eq_false_iff.mpr c3;subst c3;rw [if_neg Bool.false_ne_true] at H;obtain rfl:=oI H;go_wp2;go_ret;exact ⟨rr_,wE⟩
theorem gD.calls (j7:Int) (j8:Int) (j3:Int) (j9:Int) (ja:Int) (jb:Option Addr) (jc:Nat) (j4:List (S56)) (jd:Option Addr) (je:Nat) (j5:List (S58)) (jf:Option Addr) (jg:Nat) (j6:List (S58)) (a1:Bool) (r:Bool) (w:World) (hr0_5:Kd.C k56 w jb j4.length j4) (hc0_5:j4.length≤jc) (hr0_6:Kd.C k58 w jd j5.length j5) (hc0_6:j5.length≤je) (hr0_7:Kd.C k58 w jf j6.length j6) (hc0_7:j6.length≤jg) (h:gD.f j7 j8 j3 j9 ja j4 j5 j6 a1=some r):
  Calls Tryz.prog 120 #[.agg #[.int .i64 j7,.int .i64 j8,.int .i64 j3,.int .i64 j9,.int .i64 ja,.slice jb j4.length jc,.slice jd j5.length je,.slice jf j6.length jg],.bool a1] w fun e w'=>e= .returned (.bool r)∧Below w.heap.size w w':=by
 have hu58:=Tryz.underlying58;have jA:=am hr0_5;have jB:=am hc0_5;clear hr0_5 hc0_5;have jC:=am hr0_6;have jD:=am hc0_6;clear hr0_6 hc0_6;have jE:=am hr0_7;have jF:=am hc0_7;clear hr0_7 hc0_7;have HB:=am (Below.refl w.heap.size w);have H:(if a1=true then ((iH.f j3 0 2).bind fun ji=>(some ji)) else (some (j3 == 0)))=some r:=h;clear h;have HH_:=am H;clear H;go_enter Tryz.func120,Tryz.ntmps120;go_upto_region 1 with (first|((with_reducible refine gD 2 rfl ?_);refine dU rfl (N:=2) rfl (cs:=#[.int .i64 j7,.int .i64 j8,.int .i64 j3,.int .i64 j9,.int .i64 ja,.slice jb j4.length jc,.slice jd j5.length je,.slice jf j6.length jg]) (t:=58) rn_ ?_;intro jh hg w5 hbox hb;have jj:=am (hbox);have jG:=am ((by rw [hg];exact (aI eG):w.heap.size≤jh));have GE21:=am ((by rw [hg];exact (aI eG):w.heap.size≤jh));replace HB:=am (aA eG hb);clear hb hbox hg;obtain ⟨jk,jl,jm,jn,jo,jp,jq,jr,js,jt,ju,jv,jw,jx,jy,jz⟩:=fP jj.out));have H:=HH_.out;clear HH_;by_cases c3:a1=true
 ·subst c3;rw [if_pos rfl] at H;obtain ⟨ji,A4,H⟩:=bsa H;(try dsimp only at H);obtain rfl:=oI H;go_wp2_with (first|((with_reducible refine gC 46 rfl ?_);refine gl_ 8 Tryz.func46 #[.int .i64 j3,.int .i64 0,.int .i64 2] ?_;(with_reducible refine (iH.calls j3 0 2 ji _ A4.out).mono ?_);rintro e w' ⟨rfl,⟨nd,rfl⟩⟩;refine ⟨_,rfl,?_⟩));go_ret;exact ⟨rr_,wE⟩
 replace c3:=Bool.eq_false_iff.mpr c3;subst c3;rw [if_neg Bool.false_ne_true] at H;obtain rfl:=oI H;go_wp2;go_ret;exact ⟨rr_,wE⟩
theorem mY.calls (j3:Int) (j4:Int) (j6:Option Addr) (j7:Nat) (j5:List (S56)) (r:Bool) (w:World) (hr0_2:Kd.C k56 w j6 j5.length j5) (hc0_2:j5.length≤j7) (h:mY.f j3 j4 j5=some r):
  Calls Tryz.prog 134 #[.agg #[.int .i64 j3,.int .i64 j4,.slice j6 j5.length j7]] w fun e w'=>e= .returned (.bool r)∧Below w.heap.size w w':=by
 have hu56:=Tryz.underlying56;have jk:=am hr0_2;have jl:=am hc0_2;clear hr0_2 hc0_2;have HB:=am (Below.refl w.heap.size w);have H:(if j3=0 then (if j4=0 then (some ((j5.length:Int) == 0)) else (some false)) else (some false))=some r:=h;clear h;have HH_:=am H;clear H;go_enter Tryz.func134,Tryz.ntmps134;go_upto_region 1 with (first|((with_reducible refine gD 1 rfl ?_);(try (refine nH (by rfl) ?_;dsimp only));refine dU rfl (N:=1) rfl (cs:=#[.int .i64 j3,.int .i64 j4,.slice j6 j5.length j7]) (t:=56) rn_ ?_;intro j8 hg w4 hbox hb;have j9:=am (hbox);have jm:=am ((by rw [hg];exact (aI eG):w.heap.size≤j8));have GE20:=am ((by rw [hg];exact (aI eG):w.heap.size≤j8));replace HB:=am (aA eG hb);clear hb hbox hg;obtain ⟨ja,jb,jc,jd,je,jf⟩:=mE j9.out));have H:=HH_.out;clear HH_;by_cases c2:j3=0
 ·rw [if_pos c2] at H;have jg:(j3 == 0)=true:=beq_iff_eq.mpr c2;have jh:(j3 != 0)=false:=bF c2;clear c2;by_cases c3:j4=0
  ·rw [if_pos c3] at H;have ji:(j4 == 0)=true:=beq_iff_eq.mpr c3;have jj:(j4 != 0)=false:=bF c3;clear c3;obtain rfl:=oI H;go_wp2;go_ret;exact ⟨rr_,aAv⟩
  rw [if_neg c3] at H;have ji:(j4 == 0)=false:=bE c3;have jj:(j4 != 0)=true:=bne_iff_ne.mpr c3;obtain rfl:=oI H;go_wp2;go_ret;exact ⟨rr_,aAv⟩
 rw [if_neg c2] at H;have jg:(j3 == 0)=false:=bE c2;have jh:(j3 != 0)=true:=bne_iff_ne.mpr c2;obtain rfl:=oI H;go_wp2;go_ret;exact ⟨rr_,aAv⟩
theorem dP.mono_l:∀ k,(∀ y0 y1 y2 y3 y4 y5 y6 y7 y8,LeO (dP.j0 k y0 y1 y2 y3 y4 y5 y6 y7 y8) (dP.j0 (k + 1) y0 y1 y2 y3 y4 y5 y6 y7 y8))
 |0=>fun _ _ _ _ _ _ _ _ _ r h=>by simp [dP.j0] at h
 |k + 1=>by
  have ih0:=dP.mono_l k
  ·intro y0 y1 y2 y3 y4 y5 y6 y7 y8;unfold dP.j0;have m0:=@eZ.mono;exact mo_
theorem dP.mono:∀ a0 a1 a2 a3 a4 a5 a6 a7 k,LeO (dP.f k a0 a1 a2 a3 a4 a5 a6 a7) (dP.f (k + 1) a0 a1 a2 a3 a4 a5 a6 a7):=by
 intro a0 a1 a2 a3 a4 a5 a6 a7 k;have ih0:=dP.mono_l k;unfold dP.f;have m0:=@eZ.mono;exact mo_
theorem dP.calls (k:Nat) (j4:Int) (jc:Int) (jd:Int) (j7:Int) (j8:Int) (ji:Option Addr) (jj:Nat) (j5:List (S56)) (jk:Option Addr) (jl:Nat) (j6:List (S58)) (jm:Option Addr) (jn:Nat) (j9:List (S58)) (r:Bool) (w:World) (hr0_5:Kd.C k56 w ji j5.length j5) (hc0_5:j5.length≤jj) (hr0_6:Kd.C k58 w jk j6.length j6) (hc0_6:j6.length≤jl) (hr0_7:Kd.C k58 w jm j9.length j9) (hc0_7:j9.length≤jn) (h:dP.f k j4 jc jd j7 j8 j5 j6 j9=some r):
  Calls Tryz.prog 118 #[.agg #[.int .i64 j4,.int .i64 jc,.int .i64 jd,.int .i64 j7,.int .i64 j8,.slice ji j5.length jj,.slice jk j6.length jl,.slice jm j9.length jn]] w fun e w'=>e= .returned (.bool r)∧Below w.heap.size w w':=by
 have hu58:=Tryz.underlying58;have hu56:=Tryz.underlying56;have ja:=am hr0_5;have jb:=am hc0_5;clear hr0_5 hc0_5;have je:=am hr0_6;have jf:=am hc0_6;clear hr0_6 hc0_6;have jg:=am hr0_7;have jh:=am hc0_7;clear hr0_7 hc0_7;have HB:=am (Below.refl w.heap.size w);unfold dP.f at h;have H:=h;clear h;have X3:=am H;clear H;go_enter Tryz.func118,Tryz.ntmps118;go_upto_region 1 with (first|((with_reducible refine gD 1 rfl ?_);(try (refine nH (by rfl) ?_;dsimp only));refine dU rfl (N:=1) rfl (cs:=#[.int .i64 j4,.int .i64 jc,.int .i64 jd,.int .i64 j7,.int .i64 j8,.slice ji j5.length jj,.slice jk j6.length jl,.slice jm j9.length jn]) (t:=58) rn_ ?_;intro jq hg w3 hbox hb;have j3:=am (hbox);have P2:=am ((by rw [hg];exact (aI eG):w.heap.size≤jq));have GE99:=am ((by rw [hg];exact (aI eG):w.heap.size≤jq));replace HB:=am (aA eG hb);clear hb hbox hg));(try simp only [Act.put,sA,sB,sC])
 go_cut [12] (fun P3 wc=>∃ (kq:Nat) (jo:Bool),P3= .bool jo∧Aside0 (dP.j0 kq jo j4 jc jd j7 j8 j5 j6 j9=some r)∧Aside0 (kq≤k)∧Aside0 (wc.heap[jq]?=some (.cells #[.int .i64 j4,.int .i64 jc,.int .i64 jd,.int .i64 j7,.int .i64 j8,(.slice ji j5.length jj),(.slice jk j6.length jl),(.slice jm j9.length jn)] 58 (0,0)))∧Aside0 (Below w.heap.size w wc))
 case first=>
  have H:=X3.out;clear X3;by_cases c4:(j6.length:Int) > 0
  ·rw [if_pos c4] at H;have jp:decide (0 < (j6.length:Int))=true:=dT c4;have X4:decide (0 < j6.length)=true:=dT (by omega);clear c4
   (first|rw [jp]|(simp only [fA,fE];rw [jp])|skip)
   have H':=am H;clear H;obtain ⟨X5,X6,X7,X8,X9,Xa,Xb,Xc,Xd,Xe,Xf,Xg,Xh,Xi,Xj,Xk⟩:=fP j3.out;go_wp2
   go_meet
   case rel=>exact ⟨_,(true),sd_,H',⟨by first|omega|exact Nat.le_refl _⟩,⟨by (with_reducible repeat (first|refine dW ?_ _|refine dA ?_|refine dS ?_ _));exact j3.out⟩,⟨kD⟩⟩
  rw [if_neg c4] at H;have jp:decide (0 < (j6.length:Int))=false:=dF c4;have X4:decide (0 < j6.length)=false:=dF (by omega);clear c4
  (first|rw [jp]|(simp only [fA,fE];rw [jp])|skip)
  have H':=am H;clear H;obtain ⟨Xl,Xm,Xn,Xo,Xp,Xq,Xr,Xs,Xt,Xu,Xv,Xw,Xx,Xy,Xz,XA⟩:=fP j3.out;go_wp2
  go_meet
  case rel=>exact ⟨_,(decide ((j9.length:Int) > 0)),sd_,H',⟨by first|omega|exact Nat.le_refl _⟩,⟨by (with_reducible repeat (first|refine dW ?_ _|refine dA ?_|refine dS ?_ _));exact j3.out⟩,⟨kD⟩⟩
 case rest=>
  clear X3;obtain ⟨kq,jo,rfl,HA,HJ1,j3,HB⟩:=hcut;cases kq with
  |zero=>exact absurd HA.out (by simp [dP.j0])
  |succ XB=>
   have H:=HA.out;clear HA;simp only [dP.j0] at H;by_cases c7:jo=true
   ·subst c7;rw [if_pos rfl] at H;obtain rfl:=oI H;go_wp2;go_ret;exact ⟨rr_,kD⟩
   replace c7:=Bool.eq_false_iff.mpr c7;subst c7;rw [if_neg Bool.false_ne_true] at H;by_cases c8:j4=1
   ·rw [if_pos c8] at H;have XC:(j4 == 1)=true:=beq_iff_eq.mpr c8;have XD:(j4 != 1)=false:=bF c8;clear c8;obtain ⟨XE,A9,H⟩:=bsa H;(try dsimp only at H);by_cases c10:XE=true
    ·subst c10;rw [if_pos rfl] at H;obtain ⟨XF,jv,H⟩:=bsm H;(try dsimp only at H);have XX:=am jv;clear jv;by_cases jR:XF=true
     ·subst jR;rw [if_pos rfl] at H;obtain ⟨XG,jw,H⟩:=bsm H;(try dsimp only at H);have P4:=am jw;clear jw;obtain rfl:=oI H;obtain ⟨jS,jT,jU,jV,jW,jX,jY,jZ,q0,q1,q2,q3,q4,q5,q6,q7⟩:=fP j3.out;go_wp2_with (first|((with_reducible refine gC 119 rfl ?_);refine gl_ 18 Tryz.func119 #[.agg #[.int .i64 j4,.int .i64 jc,.int .i64 jd,.int .i64 j7,.int .i64 j8,.slice ji j5.length jj,.slice jk j6.length jl,.slice jm j9.length jn],.bool true] ?_;(with_reducible refine (fI.calls j4 jc jd j7 j8 _ _ j5 _ _ j6 _ _ j9 true true _ (aC_ (Kd.aX ja.out HB.out)) jb.out (aC_ (Kd.aX je.out HB.out)) jf.out (aC_ (Kd.aX jg.out HB.out)) jh.out A9.out).mono ?_);rintro e P9 ⟨rfl,hb⟩;refine ⟨_,rfl,?_⟩;replace j3:=bbP j3 hb;replace HB:=am (aA kD hb);(try clear hb);obtain ⟨q8,q9,qa,qb,qc,qd,qe,qf,qg,qh,qi,qj,qk,ql,qm,qn⟩:=fP j3.out)|(go_at_call 120;(with_reducible refine (gD.calls j4 jc jd j7 j8 _ _ j5 _ _ j6 _ _ j9 false true _ (aC_ (Kd.aX ja.out HB.out)) jb.out (aC_ (Kd.aX je.out HB.out)) jf.out (aC_ (Kd.aX jg.out HB.out)) jh.out XX.out).mono ?_);rintro e Pa ⟨rfl,hb⟩;replace j3:=bbP j3 hb;replace HB:=am (aA kD hb);(try clear hb);obtain ⟨qo,qp,qq,qr,qs,qt,qu,qv,qw,qx,qy,qz,qA,qB,qC,qD⟩:=fP j3.out)|(go_at_call 121;(with_reducible refine (eZ.calls XB j7 j8 _ _ j5 XG _ (aC_ (Kd.aX ja.out HB.out)) jb.out P4.out).mono ?_);rintro e Pb ⟨rfl,hb⟩;replace j3:=bbP j3 hb;replace HB:=am (aA kD hb);(try clear hb)));go_ret;exact ⟨rr_,kD⟩
     replace jR:=Bool.eq_false_iff.mpr jR;subst jR;rw [if_neg Bool.false_ne_true] at H;obtain rfl:=oI H;obtain ⟨qE,qF,qG,qH,qI,qJ,qK,qL,qM,qN,qO,qP,qQ,qR,qS,qT⟩:=fP j3.out;go_wp2_with (first|((with_reducible refine gC 119 rfl ?_);refine gl_ 18 Tryz.func119 #[.agg #[.int .i64 j4,.int .i64 jc,.int .i64 jd,.int .i64 j7,.int .i64 j8,.slice ji j5.length jj,.slice jk j6.length jl,.slice jm j9.length jn],.bool true] ?_;(with_reducible refine (fI.calls j4 jc jd j7 j8 _ _ j5 _ _ j6 _ _ j9 true true _ (aC_ (Kd.aX ja.out HB.out)) jb.out (aC_ (Kd.aX je.out HB.out)) jf.out (aC_ (Kd.aX jg.out HB.out)) jh.out A9.out).mono ?_);rintro e Pc ⟨rfl,hb⟩;refine ⟨_,rfl,?_⟩;replace j3:=bbP j3 hb;replace HB:=am (aA kD hb);(try clear hb);obtain ⟨qU,qV,qW,qX,qY,qZ,z0,z1,z2,z3,z4,z5,z6,z7,z8,z9⟩:=fP j3.out)|(go_at_call 120;(with_reducible refine (gD.calls j4 jc jd j7 j8 _ _ j5 _ _ j6 _ _ j9 false false _ (aC_ (Kd.aX ja.out HB.out)) jb.out (aC_ (Kd.aX je.out HB.out)) jf.out (aC_ (Kd.aX jg.out HB.out)) jh.out XX.out).mono ?_);rintro e Pd ⟨rfl,hb⟩;replace j3:=bbP j3 hb;replace HB:=am (aA kD hb);(try clear hb)));go_ret;exact ⟨rr_,kD⟩
    replace c10:=Bool.eq_false_iff.mpr c10;subst c10;rw [if_neg Bool.false_ne_true] at H;obtain rfl:=oI H;obtain ⟨za,zb,zc,zd,ze,zf,zg,zh,zi,zj,zk,zl,zm,zn,zo,zp⟩:=fP j3.out;go_wp2_with (first|((with_reducible refine gC 119 rfl ?_);refine gl_ 18 Tryz.func119 #[.agg #[.int .i64 j4,.int .i64 jc,.int .i64 jd,.int .i64 j7,.int .i64 j8,.slice ji j5.length jj,.slice jk j6.length jl,.slice jm j9.length jn],.bool true] ?_;(with_reducible refine (fI.calls j4 jc jd j7 j8 _ _ j5 _ _ j6 _ _ j9 true false _ (aC_ (Kd.aX ja.out HB.out)) jb.out (aC_ (Kd.aX je.out HB.out)) jf.out (aC_ (Kd.aX jg.out HB.out)) jh.out A9.out).mono ?_);rintro e Pe ⟨rfl,hb⟩;refine ⟨_,rfl,?_⟩;replace j3:=bbP j3 hb;replace HB:=am (aA kD hb);(try clear hb)));go_ret;exact ⟨rr_,kD⟩
   rw [if_neg c8] at H;have XC:(j4 == 1)=false:=bE c8;have XD:(j4 != 1)=true:=bne_iff_ne.mpr c8;by_cases jr:j4=4
   ·rw [if_pos jr] at H;have jx:(j4 == 4)=true:=beq_iff_eq.mpr jr;have jy:(j4 != 4)=false:=bF jr;clear jr;obtain ⟨XH,jz,H⟩:=bsm H;(try dsimp only at H);have XI:=am jz;clear jz;by_cases zr:XH=true
    ·subst zr;rw [if_pos rfl] at H;obtain ⟨XJ,jA,H⟩:=bsm H;(try dsimp only at H);have XY:=am jA;clear jA;by_cases zs:XJ=true
     ·subst zs;rw [if_pos rfl] at H;obtain ⟨XK,jB,H⟩:=bsm H;(try dsimp only at H);have P5:=am jB;clear jB;obtain rfl:=oI H;obtain ⟨zt,zu,zv,zw,zx,zy,zz,zA,zB,zC,zD,zE,zF,zG,zH,zI⟩:=fP j3.out;go_wp2_with (first|((with_reducible refine gC 119 rfl ?_);refine gl_ 31 Tryz.func119 #[.agg #[.int .i64 j4,.int .i64 jc,.int .i64 jd,.int .i64 j7,.int .i64 j8,.slice ji j5.length jj,.slice jk j6.length jl,.slice jm j9.length jn],.bool false] ?_;(with_reducible refine (fI.calls j4 jc jd j7 j8 _ _ j5 _ _ j6 _ _ j9 false true _ (aC_ (Kd.aX ja.out HB.out)) jb.out (aC_ (Kd.aX je.out HB.out)) jf.out (aC_ (Kd.aX jg.out HB.out)) jh.out XI.out).mono ?_);rintro e Pf ⟨rfl,hb⟩;refine ⟨_,rfl,?_⟩;replace j3:=bbP j3 hb;replace HB:=am (aA kD hb);(try clear hb);obtain ⟨zJ,zK,zL,zM,zN,zO,zP,zQ,zR,zS,zT,zU,zV,zW,zX,zY⟩:=fP j3.out)|(go_at_call 120;(with_reducible refine (gD.calls j4 jc jd j7 j8 _ _ j5 _ _ j6 _ _ j9 true true _ (aC_ (Kd.aX ja.out HB.out)) jb.out (aC_ (Kd.aX je.out HB.out)) jf.out (aC_ (Kd.aX jg.out HB.out)) jh.out XY.out).mono ?_);rintro e Pg ⟨rfl,hb⟩;replace j3:=bbP j3 hb;replace HB:=am (aA kD hb);(try clear hb);obtain ⟨zZ,J0,J1,J2,J3,J4,J5,J6,J7,J8,J9,Ja,Jb,Jc,Jd,Je⟩:=fP j3.out)|(go_at_call 121;(with_reducible refine (eZ.calls XB j7 j8 _ _ j5 XK _ (aC_ (Kd.aX ja.out HB.out)) jb.out P5.out).mono ?_);rintro e Ph ⟨rfl,hb⟩;replace j3:=bbP j3 hb;replace HB:=am (aA kD hb);(try clear hb)));go_ret;exact ⟨rr_,kD⟩
     replace zs:=Bool.eq_false_iff.mpr zs;subst zs;rw [if_neg Bool.false_ne_true] at H;obtain rfl:=oI H;obtain ⟨Jf,Jg,Jh,Ji,Jj,Jk,Jl,Jm,Jn,Jo,Jp,Jq,Jr,Js,Jt,Ju⟩:=fP j3.out;go_wp2_with (first|((with_reducible refine gC 119 rfl ?_);refine gl_ 31 Tryz.func119 #[.agg #[.int .i64 j4,.int .i64 jc,.int .i64 jd,.int .i64 j7,.int .i64 j8,.slice ji j5.length jj,.slice jk j6.length jl,.slice jm j9.length jn],.bool false] ?_;(with_reducible refine (fI.calls j4 jc jd j7 j8 _ _ j5 _ _ j6 _ _ j9 false true _ (aC_ (Kd.aX ja.out HB.out)) jb.out (aC_ (Kd.aX je.out HB.out)) jf.out (aC_ (Kd.aX jg.out HB.out)) jh.out XI.out).mono ?_);rintro e Pi ⟨rfl,hb⟩;refine ⟨_,rfl,?_⟩;replace j3:=bbP j3 hb;replace HB:=am (aA kD hb);(try clear hb);obtain ⟨Jv,Jw,Jx,Jy,Jz,JA,JB,JC,JD,JE,JF,JG,JH,JI,JJ,JK⟩:=fP j3.out)|(go_at_call 120;(with_reducible refine (gD.calls j4 jc jd j7 j8 _ _ j5 _ _ j6 _ _ j9 true false _ (aC_ (Kd.aX ja.out HB.out)) jb.out (aC_ (Kd.aX je.out HB.out)) jf.out (aC_ (Kd.aX jg.out HB.out)) jh.out XY.out).mono ?_);rintro e Pj ⟨rfl,hb⟩;replace j3:=bbP j3 hb;replace HB:=am (aA kD hb);(try clear hb)));go_ret;exact ⟨rr_,kD⟩
    replace zr:=Bool.eq_false_iff.mpr zr;subst zr;rw [if_neg Bool.false_ne_true] at H;obtain rfl:=oI H;obtain ⟨JL,JM,JN,JO,JP,JQ,JR,JS,JT,JU,JV,JW,JX,JY,JZ,Q0⟩:=fP j3.out;go_wp2_with (first|((with_reducible refine gC 119 rfl ?_);refine gl_ 31 Tryz.func119 #[.agg #[.int .i64 j4,.int .i64 jc,.int .i64 jd,.int .i64 j7,.int .i64 j8,.slice ji j5.length jj,.slice jk j6.length jl,.slice jm j9.length jn],.bool false] ?_;(with_reducible refine (fI.calls j4 jc jd j7 j8 _ _ j5 _ _ j6 _ _ j9 false false _ (aC_ (Kd.aX ja.out HB.out)) jb.out (aC_ (Kd.aX je.out HB.out)) jf.out (aC_ (Kd.aX jg.out HB.out)) jh.out XI.out).mono ?_);rintro e Pk ⟨rfl,hb⟩;refine ⟨_,rfl,?_⟩;replace j3:=bbP j3 hb;replace HB:=am (aA kD hb);(try clear hb)));go_ret;exact ⟨rr_,kD⟩
   rw [if_neg jr] at H;have jx:(j4 == 4)=false:=bE jr;have jy:(j4 != 4)=true:=bne_iff_ne.mpr jr;by_cases js:j4=5
   ·rw [if_pos js] at H;have jC:(j4 == 5)=true:=beq_iff_eq.mpr js;have jD:(j4 != 5)=false:=bF js;clear js;obtain ⟨XL,jE,H⟩:=bsm H;(try dsimp only at H);have XM:=am jE;clear jE;by_cases Q1:XL=true
    ·subst Q1;rw [if_pos rfl] at H;obtain ⟨XN,jF,H⟩:=bsm H;(try dsimp only at H);have XZ:=am jF;clear jF;by_cases Q2:XN=true
     ·subst Q2;rw [if_pos rfl] at H;obtain ⟨XO,jG,H⟩:=bsm H;(try dsimp only at H);have P6:=am jG;clear jG;obtain rfl:=oI H;obtain ⟨Q3,Q4,Q5,Q6,Q7,Q8,Q9,Qa,Qb,Qc,Qd,Qe,Qf,Qg,Qh,Qi⟩:=fP j3.out;go_wp2_with (first|((with_reducible refine gC 119 rfl ?_);refine gl_ 44 Tryz.func119 #[.agg #[.int .i64 j4,.int .i64 jc,.int .i64 jd,.int .i64 j7,.int .i64 j8,.slice ji j5.length jj,.slice jk j6.length jl,.slice jm j9.length jn],.bool true] ?_;(with_reducible refine (fI.calls j4 jc jd j7 j8 _ _ j5 _ _ j6 _ _ j9 true true _ (aC_ (Kd.aX ja.out HB.out)) jb.out (aC_ (Kd.aX je.out HB.out)) jf.out (aC_ (Kd.aX jg.out HB.out)) jh.out XM.out).mono ?_);rintro e Pl ⟨rfl,hb⟩;refine ⟨_,rfl,?_⟩;replace j3:=bbP j3 hb;replace HB:=am (aA kD hb);(try clear hb);obtain ⟨Qj,Qk,Ql,Qm,Qn,Qo,Qp,Qq,Qr,Qs,Qt,Qu,Qv,Qw,Qx,Qy⟩:=fP j3.out)|(go_at_call 120;(with_reducible refine (gD.calls j4 jc jd j7 j8 _ _ j5 _ _ j6 _ _ j9 true true _ (aC_ (Kd.aX ja.out HB.out)) jb.out (aC_ (Kd.aX je.out HB.out)) jf.out (aC_ (Kd.aX jg.out HB.out)) jh.out XZ.out).mono ?_);rintro e Pm ⟨rfl,hb⟩;replace j3:=bbP j3 hb;replace HB:=am (aA kD hb);(try clear hb);obtain ⟨Qz,QA,QB,QC,QD,QE,QF,QG,QH,QI,QJ,QK,QL,QM,QN,QO⟩:=fP j3.out)|(go_at_call 134;(with_reducible refine (mY.calls j7 j8 _ _ j5 XO _ (aC_ (Kd.aX ja.out HB.out)) jb.out P6.out).mono ?_);rintro e Pn ⟨rfl,hb⟩;replace j3:=bbP j3 hb;replace HB:=am (aA kD hb);(try clear hb)));go_ret;exact ⟨rr_,kD⟩
     replace Q2:=Bool.eq_false_iff.mpr Q2;subst Q2;rw [if_neg Bool.false_ne_true] at H;obtain rfl:=oI H;obtain ⟨QP,QQ,QR,QS,QT,QU,QV,QW,QX,QY,QZ,Z0,Z1,Z2,Z3,Z4⟩:=fP j3.out;go_wp2_with (first|((with_reducible refine gC 119 rfl ?_);refine gl_ 44 Tryz.func119 #[.agg #[.int .i64 j4,.int .i64 jc,.int .i64 jd,.int .i64 j7,.int .i64 j8,.slice ji j5.length jj,.slice jk j6.length jl,.slice jm j9.length jn],.bool true] ?_;(with_reducible refine (fI.calls j4 jc jd j7 j8 _ _ j5 _ _ j6 _ _ j9 true true _ (aC_ (Kd.aX ja.out HB.out)) jb.out (aC_ (Kd.aX je.out HB.out)) jf.out (aC_ (Kd.aX jg.out HB.out)) jh.out XM.out).mono ?_);rintro e Po ⟨rfl,hb⟩;refine ⟨_,rfl,?_⟩;replace j3:=bbP j3 hb;replace HB:=am (aA kD hb);(try clear hb);obtain ⟨Z5,Z6,Z7,Z8,Z9,Za,Zb,Zc,Zd,Ze,Zf,Zg,Zh,Zi,Zj,Zk⟩:=fP j3.out)|(go_at_call 120;(with_reducible refine (gD.calls j4 jc jd j7 j8 _ _ j5 _ _ j6 _ _ j9 true false _ (aC_ (Kd.aX ja.out HB.out)) jb.out (aC_ (Kd.aX je.out HB.out)) jf.out (aC_ (Kd.aX jg.out HB.out)) jh.out XZ.out).mono ?_);rintro e Pp ⟨rfl,hb⟩;replace j3:=bbP j3 hb;replace HB:=am (aA kD hb);(try clear hb)));go_ret;exact ⟨rr_,kD⟩
    replace Q1:=Bool.eq_false_iff.mpr Q1;subst Q1;rw [if_neg Bool.false_ne_true] at H;obtain rfl:=oI H;obtain ⟨Zl,Zm,Zn,Zo,Zp,Zq,Zr,Zs,Zt,Zu,Zv,Zw,Zx,Zy,Zz,ZA⟩:=fP j3.out;go_wp2_with (first|((with_reducible refine gC 119 rfl ?_);refine gl_ 44 Tryz.func119 #[.agg #[.int .i64 j4,.int .i64 jc,.int .i64 jd,.int .i64 j7,.int .i64 j8,.slice ji j5.length jj,.slice jk j6.length jl,.slice jm j9.length jn],.bool true] ?_;(with_reducible refine (fI.calls j4 jc jd j7 j8 _ _ j5 _ _ j6 _ _ j9 true false _ (aC_ (Kd.aX ja.out HB.out)) jb.out (aC_ (Kd.aX je.out HB.out)) jf.out (aC_ (Kd.aX jg.out HB.out)) jh.out XM.out).mono ?_);rintro e Pq ⟨rfl,hb⟩;refine ⟨_,rfl,?_⟩;replace j3:=bbP j3 hb;replace HB:=am (aA kD hb);(try clear hb)));go_ret;exact ⟨rr_,kD⟩
   rw [if_neg js] at H;have jC:(j4 == 5)=false:=bE js;have jD:(j4 != 5)=true:=bne_iff_ne.mpr js;by_cases jt:j4=6
   ·rw [if_pos jt] at H;have jH:(j4 == 6)=true:=beq_iff_eq.mpr jt;have jI:(j4 != 6)=false:=bF jt;clear jt;obtain ⟨XP,jJ,H⟩:=bsm H;(try dsimp only at H);have XQ:=am jJ;clear jJ;by_cases ZB:XP=true
    ·subst ZB;rw [if_pos rfl] at H;obtain ⟨XR,jK,H⟩:=bsm H;(try dsimp only at H);have P0:=am jK;clear jK;by_cases ZC:XR=true
     ·subst ZC;rw [if_pos rfl] at H;obtain ⟨XS,jL,H⟩:=bsm H;(try dsimp only at H);have P7:=am jL;clear jL;obtain rfl:=oI H;obtain ⟨ZD,ZE,ZF,ZG,ZH,ZI,ZJ,ZK,ZL,ZM,ZN,ZO,ZP,ZQ,ZR,ZS⟩:=fP j3.out;go_wp2_with (first|((with_reducible refine gC 119 rfl ?_);refine gl_ 57 Tryz.func119 #[.agg #[.int .i64 j4,.int .i64 jc,.int .i64 jd,.int .i64 j7,.int .i64 j8,.slice ji j5.length jj,.slice jk j6.length jl,.slice jm j9.length jn],.bool false] ?_;(with_reducible refine (fI.calls j4 jc jd j7 j8 _ _ j5 _ _ j6 _ _ j9 false true _ (aC_ (Kd.aX ja.out HB.out)) jb.out (aC_ (Kd.aX je.out HB.out)) jf.out (aC_ (Kd.aX jg.out HB.out)) jh.out XQ.out).mono ?_);rintro e Pr ⟨rfl,hb⟩;refine ⟨_,rfl,?_⟩;replace j3:=bbP j3 hb;replace HB:=am (aA kD hb);(try clear hb);obtain ⟨ZT,ZU,ZV,ZW,ZX,ZY,ZZ,Y0,Y1,Y2,Y3,Y4,Y5,Y6,Y7,Y8⟩:=fP j3.out)|(go_at_call 120;(with_reducible refine (gD.calls j4 jc jd j7 j8 _ _ j5 _ _ j6 _ _ j9 false true _ (aC_ (Kd.aX ja.out HB.out)) jb.out (aC_ (Kd.aX je.out HB.out)) jf.out (aC_ (Kd.aX jg.out HB.out)) jh.out P0.out).mono ?_);rintro e Ps ⟨rfl,hb⟩;replace j3:=bbP j3 hb;replace HB:=am (aA kD hb);(try clear hb);obtain ⟨Y9,Ya,Yb,Yc,Yd,Ye,Yf,Yg,Yh,Yi,Yj,Yk,Yl,Ym,Yn,Yo⟩:=fP j3.out)|(go_at_call 134;(with_reducible refine (mY.calls j7 j8 _ _ j5 XS _ (aC_ (Kd.aX ja.out HB.out)) jb.out P7.out).mono ?_);rintro e Pt ⟨rfl,hb⟩;replace j3:=bbP j3 hb;replace HB:=am (aA kD hb);(try clear hb)));go_ret;exact ⟨rr_,kD⟩
     replace ZC:=Bool.eq_false_iff.mpr ZC;subst ZC;rw [if_neg Bool.false_ne_true] at H;obtain rfl:=oI H;obtain ⟨Yp,Yq,Yr,Ys,Yt,Yu,Yv,Yw,Yx,Yy,Yz,YA,YB,YC,YD,YE⟩:=fP j3.out;go_wp2_with (first|((with_reducible refine gC 119 rfl ?_);refine gl_ 57 Tryz.func119 #[.agg #[.int .i64 j4,.int .i64 jc,.int .i64 jd,.int .i64 j7,.int .i64 j8,.slice ji j5.length jj,.slice jk j6.length jl,.slice jm j9.length jn],.bool false] ?_;(with_reducible refine (fI.calls j4 jc jd j7 j8 _ _ j5 _ _ j6 _ _ j9 false true _ (aC_ (Kd.aX ja.out HB.out)) jb.out (aC_ (Kd.aX je.out HB.out)) jf.out (aC_ (Kd.aX jg.out HB.out)) jh.out XQ.out).mono ?_);rintro e Pu ⟨rfl,hb⟩;refine ⟨_,rfl,?_⟩;replace j3:=bbP j3 hb;replace HB:=am (aA kD hb);(try clear hb);obtain ⟨YF,YG,YH,YI,YJ,YK,YL,YM,YN,YO,YP,YQ,YR,YS,YT,YU⟩:=fP j3.out)|(go_at_call 120;(with_reducible refine (gD.calls j4 jc jd j7 j8 _ _ j5 _ _ j6 _ _ j9 false false _ (aC_ (Kd.aX ja.out HB.out)) jb.out (aC_ (Kd.aX je.out HB.out)) jf.out (aC_ (Kd.aX jg.out HB.out)) jh.out P0.out).mono ?_);rintro e Pv ⟨rfl,hb⟩;replace j3:=bbP j3 hb;replace HB:=am (aA kD hb);(try clear hb)));go_ret;exact ⟨rr_,kD⟩
    replace ZB:=Bool.eq_false_iff.mpr ZB;subst ZB;rw [if_neg Bool.false_ne_true] at H;obtain rfl:=oI H;obtain ⟨YV,YW,YX,YY,YZ,U0,U1,U2,U3,U4,U5,U6,U7,U8,U9,Ua⟩:=fP j3.out;go_wp2_with (first|((with_reducible refine gC 119 rfl ?_);refine gl_ 57 Tryz.func119 #[.agg #[.int .i64 j4,.int .i64 jc,.int .i64 jd,.int .i64 j7,.int .i64 j8,.slice ji j5.length jj,.slice jk j6.length jl,.slice jm j9.length jn],.bool false] ?_;(with_reducible refine (fI.calls j4 jc jd j7 j8 _ _ j5 _ _ j6 _ _ j9 false false _ (aC_ (Kd.aX ja.out HB.out)) jb.out (aC_ (Kd.aX je.out HB.out)) jf.out (aC_ (Kd.aX jg.out HB.out)) jh.out XQ.out).mono ?_);rintro e Pw ⟨rfl,hb⟩;refine ⟨_,rfl,?_⟩;replace j3:=bbP j3 hb;replace HB:=am (aA kD hb);(try clear hb)));go_ret;exact ⟨rr_,kD⟩
   rw [if_neg jt] at H;have jH:(j4 == 6)=false:=bE jt;have jI:(j4 != 6)=true:=bne_iff_ne.mpr jt;by_cases ju:j4=7
   ·rw [if_pos ju] at H;have jM:(j4 == 7)=true:=beq_iff_eq.mpr ju;have jN:(j4 != 7)=false:=bF ju;clear ju;obtain ⟨XT,jO,H⟩:=bsm H;(try dsimp only at H);have XU:=am jO;clear jO;by_cases Ub:XT=true
    ·subst Ub;rw [if_pos rfl] at H;obtain ⟨XV,jP,H⟩:=bsm H;(try dsimp only at H);have P1:=am jP;clear jP;by_cases Uc:XV=true
     ·subst Uc;rw [if_pos rfl] at H;obtain ⟨XW,jQ,H⟩:=bsm H;(try dsimp only at H);have P8:=am jQ;clear jQ;obtain rfl:=oI H;obtain ⟨Ud,Ue,Uf,Ug,Uh,Ui,Uj,Uk,Ul,Um,Un,Uo,Up,Uq,Ur,Us⟩:=fP j3.out;go_wp2_with (first|((with_reducible refine gC 119 rfl ?_);refine gl_ 70 Tryz.func119 #[.agg #[.int .i64 j4,.int .i64 jc,.int .i64 jd,.int .i64 j7,.int .i64 j8,.slice ji j5.length jj,.slice jk j6.length jl,.slice jm j9.length jn],.bool false] ?_;(with_reducible refine (fI.calls j4 jc jd j7 j8 _ _ j5 _ _ j6 _ _ j9 false true _ (aC_ (Kd.aX ja.out HB.out)) jb.out (aC_ (Kd.aX je.out HB.out)) jf.out (aC_ (Kd.aX jg.out HB.out)) jh.out XU.out).mono ?_);rintro e Px ⟨rfl,hb⟩;refine ⟨_,rfl,?_⟩;replace j3:=bbP j3 hb;replace HB:=am (aA kD hb);(try clear hb);obtain ⟨Ut,Uu,Uv,Uw,Ux,Uy,Uz,UA,UB,UC,UD,UE,UF,UG,UH,UI⟩:=fP j3.out)|(go_at_call 120;(with_reducible refine (gD.calls j4 jc jd j7 j8 _ _ j5 _ _ j6 _ _ j9 false true _ (aC_ (Kd.aX ja.out HB.out)) jb.out (aC_ (Kd.aX je.out HB.out)) jf.out (aC_ (Kd.aX jg.out HB.out)) jh.out P1.out).mono ?_);rintro e Py ⟨rfl,hb⟩;replace j3:=bbP j3 hb;replace HB:=am (aA kD hb);(try clear hb);obtain ⟨UJ,UK,UL,UM,UN,UO,UP,UQ,UR,US,UT,UU,UV,UW,UX,UY⟩:=fP j3.out)|(go_at_call 121;(with_reducible refine (eZ.calls XB j7 j8 _ _ j5 XW _ (aC_ (Kd.aX ja.out HB.out)) jb.out P8.out).mono ?_);rintro e Pz ⟨rfl,hb⟩;replace j3:=bbP j3 hb;replace HB:=am (aA kD hb);(try clear hb)));go_ret;exact ⟨rr_,kD⟩
     replace Uc:=Bool.eq_false_iff.mpr Uc;subst Uc;rw [if_neg Bool.false_ne_true] at H;obtain rfl:=oI H;obtain ⟨UZ,V0,V1,V2,V3,V4,V5,V6,V7,V8,V9,Va,Vb,Vc,Vd,Ve⟩:=fP j3.out;go_wp2_with (first|((with_reducible refine gC 119 rfl ?_);refine gl_ 70 Tryz.func119 #[.agg #[.int .i64 j4,.int .i64 jc,.int .i64 jd,.int .i64 j7,.int .i64 j8,.slice ji j5.length jj,.slice jk j6.length jl,.slice jm j9.length jn],.bool false] ?_;(with_reducible refine (fI.calls j4 jc jd j7 j8 _ _ j5 _ _ j6 _ _ j9 false true _ (aC_ (Kd.aX ja.out HB.out)) jb.out (aC_ (Kd.aX je.out HB.out)) jf.out (aC_ (Kd.aX jg.out HB.out)) jh.out XU.out).mono ?_);rintro e PA ⟨rfl,hb⟩;refine ⟨_,rfl,?_⟩;replace j3:=bbP j3 hb;replace HB:=am (aA kD hb);(try clear hb);obtain ⟨Vf,Vg,Vh,Vi,Vj,Vk,Vl,Vm,Vn,Vo,Vp,Vq,Vr,Vs,Vt,Vu⟩:=fP j3.out)|(go_at_call 120;(with_reducible refine (gD.calls j4 jc jd j7 j8 _ _ j5 _ _ j6 _ _ j9 false false _ (aC_ (Kd.aX ja.out HB.out)) jb.out (aC_ (Kd.aX je.out HB.out)) jf.out (aC_ (Kd.aX jg.out HB.out)) jh.out P1.out).mono ?_);rintro e PB ⟨rfl,hb⟩;replace j3:=bbP j3 hb;replace HB:=am (aA kD hb);(try clear hb)));go_ret;exact ⟨rr_,kD⟩
    replace Ub:=Bool.eq_false_iff.mpr Ub;subst Ub;rw [if_neg Bool.false_ne_true] at H;obtain rfl:=oI H;obtain ⟨Vv,Vw,Vx,Vy,Vz,VA,VB,VC,VD,VE,VF,VG,VH,VI,VJ,VK⟩:=fP j3.out;go_wp2_with (first|((with_reducible refine gC 119 rfl ?_);refine gl_ 70 Tryz.func119 #[.agg #[.int .i64 j4,.int .i64 jc,.int .i64 jd,.int .i64 j7,.int .i64 j8,.slice ji j5.length jj,.slice jk j6.length jl,.slice jm j9.length jn],.bool false] ?_;(with_reducible refine (fI.calls j4 jc jd j7 j8 _ _ j5 _ _ j6 _ _ j9 false false _ (aC_ (Kd.aX ja.out HB.out)) jb.out (aC_ (Kd.aX je.out HB.out)) jf.out (aC_ (Kd.aX jg.out HB.out)) jh.out XU.out).mono ?_);rintro e PC ⟨rfl,hb⟩;refine ⟨_,rfl,?_⟩;replace j3:=bbP j3 hb;replace HB:=am (aA kD hb);(try clear hb)));go_ret;exact ⟨rr_,kD⟩
   rw [if_neg ju] at H;have jM:(j4 == 7)=false:=bE ju;have jN:(j4 != 7)=true:=bne_iff_ne.mpr ju;obtain rfl:=oI H;obtain ⟨VL,VM,VN,VO,VQ,VR,VT,VU,VV,VW,VX,VY,VZ,X0,X1,X2⟩:=fP j3.out;go_wp2;go_ret;exact ⟨rr_,kD⟩
theorem bZ.mono_all:∀ k,(∀ y0 y1 y2 y3 y4 y5 y6 y7 y8,LeO (bZ.f k y0 y1 y2 y3 y4 y5 y6 y7 y8) (bZ.f (k + 1) y0 y1 y2 y3 y4 y5 y6 y7 y8))∧(∀ y0 y1 y2 y3 y4 y5 y6 y7 y8 y9,LeO (bZ.j0 k y0 y1 y2 y3 y4 y5 y6 y7 y8 y9) (bZ.j0 (k + 1) y0 y1 y2 y3 y4 y5 y6 y7 y8 y9))∧(∀ y0 y1 y2 y3 y4 y5 y6 y7 y8 y9,LeO (bZ.j1 k y0 y1 y2 y3 y4 y5 y6 y7 y8 y9) (bZ.j1 (k + 1) y0 y1 y2 y3 y4 y5 y6 y7 y8 y9))∧(∀ y0 y1,LeO (bV.f k y0 y1) (bV.f (k + 1) y0 y1))∧(∀ y0 y1 y2,LeO (bV.l0 k y0 y1 y2) (bV.l0 (k + 1) y0 y1 y2))
 |0=>⟨fun _ _ _ _ _ _ _ _ _ r h=>by simp [bZ.f] at h,fun _ _ _ _ _ _ _ _ _ _ r h=>by simp [bZ.j0] at h,fun _ _ _ _ _ _ _ _ _ _ r h=>by simp [bZ.j1] at h,fun _ _ r h=>by simp [bV.f] at h,fun _ _ _ r h=>by simp [bV.l0] at h⟩
 |k + 1=>by
  obtain ⟨ih0,ih1,ih2,ih3,ih4⟩:=bZ.mono_all k;refine ⟨?_,?_,?_,?_,?_⟩
  ·intro y0 y1 y2 y3 y4 y5 y6 y7 y8;unfold bZ.f;have m0:=@eZ.mono;have m1:=@dP.mono;exact mo_
  ·intro y0 y1 y2 y3 y4 y5 y6 y7 y8 y9;unfold bZ.j0;have m0:=@eZ.mono;have m1:=@dP.mono;exact mo_
  ·intro y0 y1 y2 y3 y4 y5 y6 y7 y8 y9;unfold bZ.j1;have m0:=@eZ.mono;have m1:=@dP.mono;exact mo_
  ·intro y0 y1;unfold bV.f;have m0:=@eZ.mono;have m1:=@dP.mono;exact mo_
  ·intro y0 y1 y2;unfold bV.l0;have m0:=@eZ.mono;have m1:=@dP.mono;exact mo_
theorem bZ.mono:∀ a0 a1 a2 a3 a4 a5 a6 a7 a8 k,LeO (bZ.f k a0 a1 a2 a3 a4 a5 a6 a7 a8) (bZ.f (k + 1) a0 a1 a2 a3 a4 a5 a6 a7 a8):=by
 intro a0 a1 a2 a3 a4 a5 a6 a7 a8 k;obtain ⟨ih0,ih1,ih2,ih3,ih4⟩:=bZ.mono_all k;exact ih0 a0 a1 a2 a3 a4 a5 a6 a7 a8
theorem bV.mono:∀ a0 a1 k,LeO (bV.f k a0 a1) (bV.f (k + 1) a0 a1):=by
 intro a0 a1 k;obtain ⟨ih0,ih1,ih2,ih3,ih4⟩:=bZ.mono_all k;exact ih3 a0 a1
abbrev bZ.dJ (k:Nat):Prop:=∀ (a0_0:Int) (a0_1:Int) (a0_2:Int) (a0_3:Int) (a0_4:Int) (A0_5:Option Addr) (c0_5:Nat) (l0_5:List (S56)) (A0_6:Option Addr) (c0_6:Nat) (l0_6:List (S58)) (A0_7:Option Addr) (c0_7:Nat) (l0_7:List (S58)) (a1:Int) (r:Bool) (w:World) (hr0_5:Kd.C k56 w A0_5 l0_5.length l0_5) (hc0_5:l0_5.length≤c0_5) (hr0_6:Kd.C k58 w A0_6 l0_6.length l0_6) (hc0_6:l0_6.length≤c0_6) (hr0_7:Kd.C k58 w A0_7 l0_7.length l0_7) (hc0_7:l0_7.length≤c0_7) (h:bZ.f k a0_0 a0_1 a0_2 a0_3 a0_4 l0_5 l0_6 l0_7 a1=some r),
  Calls Tryz.prog 93 #[.agg #[.int .i64 a0_0,.int .i64 a0_1,.int .i64 a0_2,.int .i64 a0_3,.int .i64 a0_4,.slice A0_5 l0_5.length c0_5,.slice A0_6 l0_6.length c0_6,.slice A0_7 l0_7.length c0_7],.int .i64 a1] w fun e w'=>e= .returned (.bool r)∧Below w.heap.size w w'
abbrev bV.dJ (k:Nat):Prop:=∀ (A0:Option Addr) (c0:Nat) (l0:List (S58)) (a1:Int) (r:Bool) (w:World) (hr0:Kd.C k58 w A0 l0.length l0) (hc0:l0.length≤c0) (h:bV.f k l0 a1=some r),
  Calls Tryz.prog 70 #[.slice A0 l0.length c0,.int .i64 a1] w fun e w'=>e= .returned (.bool r)∧Below w.heap.size w w'
theorem bZ.step (k:Nat) (ih_spec_l11Ok:∀ m,m < k→bZ.dJ m) (ih_spec_l11Blocks:∀ m,m < k→bV.dJ m):bZ.dJ k:=by
 intro j4 ja jb j5 j6 ji jj j7 jk jl j8 jm jn j9 a1 r w hr0_5 hc0_5 hr0_6 hc0_6 hr0_7 hc0_7 h;cases k with
 |zero=>exact absurd h (by simp [bZ.f])
 |succ k=>
 simp only [bZ.f] at h;have hu58:=Tryz.underlying58;have hu56:=Tryz.underlying56;have jc:=am hr0_5;have jd:=am hc0_5;clear hr0_5 hc0_5;have je:=am hr0_6;have jf:=am hc0_6;clear hr0_6 hc0_6;have jg:=am hr0_7;have jh:=am hc0_7;clear hr0_7 hc0_7;have HB:=am (Below.refl w.heap.size w);have H:=h;clear h;have Zl:=am H;clear H;go_enter Tryz.func93,Tryz.ntmps93;go_upto_region 1 with (first|((with_reducible refine gD 2 rfl ?_);(try (refine nH (by rfl) ?_;dsimp only));refine dU rfl (N:=2) rfl (cs:=#[.int .i64 j4,.int .i64 ja,.int .i64 jb,.int .i64 j5,.int .i64 j6,.slice ji j7.length jj,.slice jk j8.length jl,.slice jm j9.length jn]) (t:=58) rn_ ?_;intro jt hg w4 hbox hb;have j3:=am (hbox);have Y1:=am ((by rw [hg];exact (aI eG):w.heap.size≤jt));have GE57:=am ((by rw [hg];exact (aI eG):w.heap.size≤jt));replace HB:=am (aA eG hb);clear hb hbox hg));(try simp only [Act.put,sA,sB,sC])
 go_cut [12] (fun Y2 wc=>∃ (kq:Nat) (jq:Bool),Y2= .bool jq∧Aside0 (bZ.j0 kq a1 jq j4 ja jb j5 j6 j7 j8 j9=some r)∧Aside0 (kq≤k)∧Aside0 (wc.heap[jt]?=some (.cells #[.int .i64 j4,.int .i64 ja,.int .i64 jb,.int .i64 j5,.int .i64 j6,(.slice ji j7.length jj),(.slice jk j8.length jl),(.slice jm j9.length jn)] 58 (0,0)))∧Aside0 (Below w.heap.size w wc))
 case first=>
  have H:=Zl.out;clear Zl;by_cases c5:j4=2
  ·rw [if_pos c5] at H;have js:(j4 == 2)=true:=beq_iff_eq.mpr c5;have Zm:(j4 != 2)=false:=bF c5;clear c5
   (first|rw [js]|(simp only [fA,fE];rw [js])|skip)
   have H':=am H;clear H;obtain ⟨Zn,Zo,Zp,Zq,Zr,Zs,Zt,Zu,Zv,Zw,Zx,Zy,Zz,ZA,ZB,ZC⟩:=fP j3.out;go_wp2
   go_meet
   case rel=>exact ⟨_,(false),sd_,H',⟨by first|omega|exact Nat.le_refl _⟩,⟨by (with_reducible repeat (first|refine dW ?_ _|refine dA ?_|refine dS ?_ _));exact j3.out⟩,⟨nN⟩⟩
  rw [if_neg c5] at H;have js:(j4 == 2)=false:=bE c5;have Zm:(j4 != 2)=true:=bne_iff_ne.mpr c5
  (first|rw [js]|(simp only [fA,fE];rw [js])|skip)
  have H':=am H;clear H;obtain ⟨ZD,ZE,ZF,ZG,ZH,ZI,ZJ,ZK,ZL,ZM,ZN,ZO,ZP,ZQ,ZR,ZS⟩:=fP j3.out;go_wp2
  go_meet
  case rel=>exact ⟨_,((j4 != 3)),sd_,H',⟨by first|omega|exact Nat.le_refl _⟩,⟨by (with_reducible repeat (first|refine dW ?_ _|refine dA ?_|refine dS ?_ _));exact j3.out⟩,⟨nN⟩⟩
 case rest=>
  clear Zl;obtain ⟨kq,jq,rfl,HA,HJ2,j3,HB⟩:=hcut;cases kq with
  |zero=>exact absurd HA.out (by simp [bZ.j0])
  |succ ZU=>
   have H:=HA.out;clear HA;simp only [bZ.j0] at H;by_cases c8:jq=true
   ·subst c8;rw [if_pos rfl] at H;obtain ⟨Y3,A9,H⟩:=bsa H;(try dsimp only at H);obtain rfl:=oI H;obtain ⟨jA,jB,jC,jD,jE,jF,jG,jH,jI,jJ,jK,jL,jM,jN,jO,jP⟩:=fP j3.out;go_wp2_with (first|((with_reducible refine gC 118 rfl ?_);refine gl_ 14 Tryz.func118 #[.agg #[.int .i64 j4,.int .i64 ja,.int .i64 jb,.int .i64 j5,.int .i64 j6,.slice ji j7.length jj,.slice jk j8.length jl,.slice jm j9.length jn]] ?_;(with_reducible refine (dP.calls ZU j4 ja jb j5 j6 _ _ j7 _ _ j8 _ _ j9 Y3 _ (aC_ (Kd.aX jc.out HB.out)) jd.out (aC_ (Kd.aX je.out HB.out)) jf.out (aC_ (Kd.aX jg.out HB.out)) jh.out A9.out).mono ?_);rintro e Yb ⟨rfl,hb⟩;refine ⟨_,rfl,?_⟩;replace j3:=bbP j3 hb;replace HB:=am (aA nN hb);(try clear hb)));go_ret;exact ⟨rr_,nN⟩
   replace c8:=Bool.eq_false_iff.mpr c8;subst c8;rw [if_neg Bool.false_ne_true] at H;have ju:=am H;clear H;go_upto_region 3 with (fail)
   go_cut [27] (fun Y4 wc=>∃ (kq:Nat) (jo:Bool),Y4= .bool jo∧Aside0 (bZ.j1 kq a1 jo j4 ja jb j5 j6 j7 j8 j9=some r)∧Aside0 (kq≤ZU)∧Aside0 (wc.heap[jt]?=some (.cells #[.int .i64 j4,.int .i64 ja,.int .i64 jb,.int .i64 j5,.int .i64 j6,(.slice ji j7.length jj),(.slice jk j8.length jl),(.slice jm j9.length jn)] 58 (0,0)))∧Aside0 (Below w.heap.size w wc))
   case first=>
    have H:=ju.out;clear ju;by_cases jw:a1 < 1
    ·rw [if_pos jw] at H;have jp:decide (a1 < 1)=true:=dT jw;clear jw
     (first|rw [jp]|(simp only [fA,fE];rw [jp])|skip)
     have H':=am H;clear H;go_wp2
     go_meet
     case rel=>exact ⟨_,(true),sd_,H',⟨by have:=HJ2.out;first|omega|exact Nat.le_refl _⟩,⟨by (with_reducible repeat (first|refine dW ?_ _|refine dA ?_|refine dS ?_ _));exact j3.out⟩,⟨nN⟩⟩
    rw [if_neg jw] at H;have jp:decide (a1 < 1)=false:=dF jw;clear jw
    (first|rw [jp]|(simp only [fA,fE];rw [jp])|skip)
    by_cases jv:j4=3
    ·rw [if_pos jv] at H;have jx:(j4 == 3)=true:=beq_iff_eq.mpr jv;have jy:(j4 != 3)=false:=bF jv;clear jv;have H':=am H;clear H;obtain ⟨jQ,jR,jS,jT,jU,jV,jW,jX,jY,jZ,q0,q1,q2,q3,q4,q5⟩:=fP j3.out;go_wp2
     go_meet
     case rel=>exact ⟨_,(decide ((j9.length:Int) > 0)),sd_,H',⟨by have:=HJ2.out;first|omega|exact Nat.le_refl _⟩,⟨by (with_reducible repeat (first|refine dW ?_ _|refine dA ?_|refine dS ?_ _));exact j3.out⟩,⟨nN⟩⟩
    rw [if_neg jv] at H;have jx:(j4 == 3)=false:=bE jv;have jy:(j4 != 3)=true:=bne_iff_ne.mpr jv;have H':=am H;clear H;obtain ⟨q6,q7,q8,q9,qa,qb,qc,qd,qe,qf,qg,qh,qi,qj,qk,ql⟩:=fP j3.out;go_wp2
    go_meet
    case rel=>exact ⟨_,(false),sd_,H',⟨by have:=HJ2.out;first|omega|exact Nat.le_refl _⟩,⟨by (with_reducible repeat (first|refine dW ?_ _|refine dA ?_|refine dS ?_ _));exact j3.out⟩,⟨nN⟩⟩
   case rest=>
    clear ju;try clear c8
    obtain ⟨kq,jo,rfl,HA,HJ11,j3,HB⟩:=hcut;cases kq with
    |zero=>exact absurd HA.out (by simp [bZ.j1])
    |succ jr=>
     have H:=HA.out;clear HA;simp only [bZ.j1] at H;by_cases qm:jo=true
     ·subst qm;rw [if_pos rfl] at H;obtain rfl:=oI H;go_wp2;go_ret;exact ⟨rr_,nN⟩
     replace qm:=Bool.eq_false_iff.mpr qm;subst qm;rw [if_neg Bool.false_ne_true] at H;obtain ⟨Y5,ZV,H⟩:=bsm H;(try dsimp only at H);have jz:=am ZV;clear ZV;by_cases qn:Y5=true
     ·subst qn;rw [if_pos rfl] at H;obtain ⟨Y6,ZW,H⟩:=bsm H;(try dsimp only at H);have qo:=am ZW;clear ZW;by_cases qp:Y6=true
      ·subst qp;rw [if_pos rfl] at H;obtain ⟨Y7,ZX,H⟩:=bsm H;(try dsimp only at H);have ZT:=am ZX;clear ZX;by_cases qq:Y7=true
       ·subst qq;rw [if_pos rfl] at H;obtain ⟨Y8,ZY,H⟩:=bsm H;(try dsimp only at H);have ZZ:=am ZY;clear ZY;by_cases qr:Y8=true
        ·subst qr;rw [if_pos rfl] at H;obtain ⟨Y9,Y0,H⟩:=bsm H;(try dsimp only at H);have Ya:=am Y0;clear Y0;obtain rfl:=oI H;obtain ⟨qs,qt,qu,qv,qw,qx,qy,qz,qA,qB,qC,qD,qE,qF,qG,qH⟩:=fP j3.out;go_wp2_with (first|((with_reducible refine gC 119 rfl ?_);refine gl_ 29 Tryz.func119 #[.agg #[.int .i64 j4,.int .i64 ja,.int .i64 jb,.int .i64 j5,.int .i64 j6,.slice ji j7.length jj,.slice jk j8.length jl,.slice jm j9.length jn],.bool false] ?_;(with_reducible refine (fI.calls j4 ja jb j5 j6 _ _ j7 _ _ j8 _ _ j9 false true _ (aC_ (Kd.aX jc.out HB.out)) jd.out (aC_ (Kd.aX je.out HB.out)) jf.out (aC_ (Kd.aX jg.out HB.out)) jh.out jz.out).mono ?_);rintro e Yc ⟨rfl,hb⟩;refine ⟨_,rfl,?_⟩;replace j3:=bbP j3 hb;replace HB:=am (aA nN hb);(try clear hb);obtain ⟨qI,qJ,qK,qL,qM,qN,qO,qP,qQ,qR,qS,qT,qU,qV,qW,qX⟩:=fP j3.out)|(go_at_call 120;(with_reducible refine (gD.calls j4 ja jb j5 j6 _ _ j7 _ _ j8 _ _ j9 false true _ (aC_ (Kd.aX jc.out HB.out)) jd.out (aC_ (Kd.aX je.out HB.out)) jf.out (aC_ (Kd.aX jg.out HB.out)) jh.out qo.out).mono ?_);rintro e Yd ⟨rfl,hb⟩;replace j3:=bbP j3 hb;replace HB:=am (aA nN hb);(try clear hb);obtain ⟨qY,qZ,z0,z1,z2,z3,z4,z5,z6,z7,z8,z9,za,zb,zc,zd⟩:=fP j3.out)|(go_at_call 121;(with_reducible refine (eZ.calls jr j5 j6 _ _ j7 true _ (aC_ (Kd.aX jc.out HB.out)) jd.out ZT.out).mono ?_);rintro e Ye ⟨rfl,hb⟩;replace j3:=bbP j3 hb;replace HB:=am (aA nN hb);(try clear hb);obtain ⟨ze,zf,zg,zh,zi,zj,zk,zl,zm,zn,zo,zp,zr,zs,zt,zu⟩:=fP j3.out)|(go_at_call 70;(with_reducible refine (ih_spec_l11Blocks jr (by have:=HJ2.out;have:=HJ11.out;omega) _ _ j8 (wrap64 (a1 - 1)) true _ (aC_ (Kd.aX je.out HB.out)) jf.out ZZ.out).mono ?_);rintro e Yf ⟨rfl,hb⟩;replace j3:=bbP j3 hb;replace HB:=am (aA nN hb);(try clear hb);obtain ⟨zv,zw,zx,zy,zz,zA,zB,zC,zD,zE,zF,zG,zH,zI,zJ,zK⟩:=fP j3.out)|(go_at_call 70;(with_reducible refine (ih_spec_l11Blocks jr (by have:=HJ2.out;have:=HJ11.out;omega) _ _ j9 (wrap64 (a1 - 1)) Y9 _ (aC_ (Kd.aX jg.out HB.out)) jh.out Ya.out).mono ?_);rintro e Yg ⟨rfl,hb⟩;replace j3:=bbP j3 hb;replace HB:=am (aA nN hb);(try clear hb)));go_ret;exact ⟨rr_,nN⟩
        replace qr:=Bool.eq_false_iff.mpr qr;subst qr;rw [if_neg Bool.false_ne_true] at H;obtain rfl:=oI H;obtain ⟨zL,zM,zN,zO,zP,zQ,zR,zS,zT,zU,zV,zW,zX,zY,zZ,J0⟩:=fP j3.out;go_wp2_with (first|((with_reducible refine gC 119 rfl ?_);refine gl_ 29 Tryz.func119 #[.agg #[.int .i64 j4,.int .i64 ja,.int .i64 jb,.int .i64 j5,.int .i64 j6,.slice ji j7.length jj,.slice jk j8.length jl,.slice jm j9.length jn],.bool false] ?_;(with_reducible refine (fI.calls j4 ja jb j5 j6 _ _ j7 _ _ j8 _ _ j9 false true _ (aC_ (Kd.aX jc.out HB.out)) jd.out (aC_ (Kd.aX je.out HB.out)) jf.out (aC_ (Kd.aX jg.out HB.out)) jh.out jz.out).mono ?_);rintro e Yh ⟨rfl,hb⟩;refine ⟨_,rfl,?_⟩;replace j3:=bbP j3 hb;replace HB:=am (aA nN hb);(try clear hb);obtain ⟨J1,J2,J3,J4,J5,J6,J7,J8,J9,Ja,Jb,Jc,Jd,Je,Jf,Jg⟩:=fP j3.out)|(go_at_call 120;(with_reducible refine (gD.calls j4 ja jb j5 j6 _ _ j7 _ _ j8 _ _ j9 false true _ (aC_ (Kd.aX jc.out HB.out)) jd.out (aC_ (Kd.aX je.out HB.out)) jf.out (aC_ (Kd.aX jg.out HB.out)) jh.out qo.out).mono ?_);rintro e Yi ⟨rfl,hb⟩;replace j3:=bbP j3 hb;replace HB:=am (aA nN hb);(try clear hb);obtain ⟨Jh,Ji,Jj,Jk,Jl,Jm,Jn,Jo,Jp,Jq,Jr,Js,Jt,Ju,Jv,Jw⟩:=fP j3.out)|(go_at_call 121;(with_reducible refine (eZ.calls jr j5 j6 _ _ j7 true _ (aC_ (Kd.aX jc.out HB.out)) jd.out ZT.out).mono ?_);rintro e Yj ⟨rfl,hb⟩;replace j3:=bbP j3 hb;replace HB:=am (aA nN hb);(try clear hb);obtain ⟨Jx,Jy,Jz,JA,JB,JC,JD,JE,JF,JG,JH,JI,JJ,JK,JL,JM⟩:=fP j3.out)|(go_at_call 70;(with_reducible refine (ih_spec_l11Blocks jr (by have:=HJ2.out;have:=HJ11.out;omega) _ _ j8 (wrap64 (a1 - 1)) false _ (aC_ (Kd.aX je.out HB.out)) jf.out ZZ.out).mono ?_);rintro e Yk ⟨rfl,hb⟩;replace j3:=bbP j3 hb;replace HB:=am (aA nN hb);(try clear hb)));go_ret;exact ⟨rr_,nN⟩
       replace qq:=Bool.eq_false_iff.mpr qq;subst qq;rw [if_neg Bool.false_ne_true] at H;obtain rfl:=oI H;obtain ⟨JN,JO,JP,JQ,JR,JS,JT,JU,JV,JW,JX,JY,JZ,Q0,Q1,Q2⟩:=fP j3.out;go_wp2_with (first|((with_reducible refine gC 119 rfl ?_);refine gl_ 29 Tryz.func119 #[.agg #[.int .i64 j4,.int .i64 ja,.int .i64 jb,.int .i64 j5,.int .i64 j6,.slice ji j7.length jj,.slice jk j8.length jl,.slice jm j9.length jn],.bool false] ?_;(with_reducible refine (fI.calls j4 ja jb j5 j6 _ _ j7 _ _ j8 _ _ j9 false true _ (aC_ (Kd.aX jc.out HB.out)) jd.out (aC_ (Kd.aX je.out HB.out)) jf.out (aC_ (Kd.aX jg.out HB.out)) jh.out jz.out).mono ?_);rintro e Yl ⟨rfl,hb⟩;refine ⟨_,rfl,?_⟩;replace j3:=bbP j3 hb;replace HB:=am (aA nN hb);(try clear hb);obtain ⟨Q3,Q4,Q5,Q6,Q7,Q8,Q9,Qa,Qb,Qc,Qd,Qe,Qf,Qg,Qh,Qi⟩:=fP j3.out)|(go_at_call 120;(with_reducible refine (gD.calls j4 ja jb j5 j6 _ _ j7 _ _ j8 _ _ j9 false true _ (aC_ (Kd.aX jc.out HB.out)) jd.out (aC_ (Kd.aX je.out HB.out)) jf.out (aC_ (Kd.aX jg.out HB.out)) jh.out qo.out).mono ?_);rintro e Ym ⟨rfl,hb⟩;replace j3:=bbP j3 hb;replace HB:=am (aA nN hb);(try clear hb);obtain ⟨Qj,Qk,Ql,Qm,Qn,Qo,Qp,Qq,Qr,Qs,Qt,Qu,Qv,Qw,Qx,Qy⟩:=fP j3.out)|(go_at_call 121;(with_reducible refine (eZ.calls jr j5 j6 _ _ j7 false _ (aC_ (Kd.aX jc.out HB.out)) jd.out ZT.out).mono ?_);rintro e Yn ⟨rfl,hb⟩;replace j3:=bbP j3 hb;replace HB:=am (aA nN hb);(try clear hb)));go_ret;exact ⟨rr_,nN⟩
      replace qp:=Bool.eq_false_iff.mpr qp;subst qp;rw [if_neg Bool.false_ne_true] at H;obtain rfl:=oI H;obtain ⟨Qz,QA,QB,QC,QD,QE,QF,QG,QH,QI,QJ,QK,QL,QM,QN,QO⟩:=fP j3.out;go_wp2_with (first|((with_reducible refine gC 119 rfl ?_);refine gl_ 29 Tryz.func119 #[.agg #[.int .i64 j4,.int .i64 ja,.int .i64 jb,.int .i64 j5,.int .i64 j6,.slice ji j7.length jj,.slice jk j8.length jl,.slice jm j9.length jn],.bool false] ?_;(with_reducible refine (fI.calls j4 ja jb j5 j6 _ _ j7 _ _ j8 _ _ j9 false true _ (aC_ (Kd.aX jc.out HB.out)) jd.out (aC_ (Kd.aX je.out HB.out)) jf.out (aC_ (Kd.aX jg.out HB.out)) jh.out jz.out).mono ?_);rintro e Yo ⟨rfl,hb⟩;refine ⟨_,rfl,?_⟩;replace j3:=bbP j3 hb;replace HB:=am (aA nN hb);(try clear hb);obtain ⟨QP,QQ,QR,QS,QT,QU,QV,QW,QX,QY,QZ,Z0,Z1,Z2,Z3,Z4⟩:=fP j3.out)|(go_at_call 120;(with_reducible refine (gD.calls j4 ja jb j5 j6 _ _ j7 _ _ j8 _ _ j9 false false _ (aC_ (Kd.aX jc.out HB.out)) jd.out (aC_ (Kd.aX je.out HB.out)) jf.out (aC_ (Kd.aX jg.out HB.out)) jh.out qo.out).mono ?_);rintro e Yp ⟨rfl,hb⟩;replace j3:=bbP j3 hb;replace HB:=am (aA nN hb);(try clear hb)));go_ret;exact ⟨rr_,nN⟩
     replace qn:=Bool.eq_false_iff.mpr qn;subst qn;rw [if_neg Bool.false_ne_true] at H;obtain rfl:=oI H;obtain ⟨Z5,Z6,Z7,Z8,Z9,Za,Zb,Zc,Zd,Ze,Zf,Zg,Zh,Zi,Zj,Zk⟩:=fP j3.out;go_wp2_with (first|((with_reducible refine gC 119 rfl ?_);refine gl_ 29 Tryz.func119 #[.agg #[.int .i64 j4,.int .i64 ja,.int .i64 jb,.int .i64 j5,.int .i64 j6,.slice ji j7.length jj,.slice jk j8.length jl,.slice jm j9.length jn],.bool false] ?_;(with_reducible refine (fI.calls j4 ja jb j5 j6 _ _ j7 _ _ j8 _ _ j9 false false _ (aC_ (Kd.aX jc.out HB.out)) jd.out (aC_ (Kd.aX je.out HB.out)) jf.out (aC_ (Kd.aX jg.out HB.out)) jh.out jz.out).mono ?_);rintro e Yq ⟨rfl,hb⟩;refine ⟨_,rfl,?_⟩;replace j3:=bbP j3 hb;replace HB:=am (aA nN hb);(try clear hb)));go_ret;exact ⟨rr_,nN⟩
theorem bV.step (k:Nat) (ih_spec_l11Ok:∀ m,m < k→bZ.dJ m) (ih_spec_l11Blocks:∀ m,m < k→bV.dJ m):bV.dJ k:=by
 intro A0 c0 l0 a1 r w hr0 hc0 h;cases k with
 |zero=>exact absurd h (by simp [bV.f])
 |succ k=>
 simp only [bV.f] at h;have hu58:=Tryz.underlying58;have ju:=am hr0;have jx:=am hc0;clear hr0 hc0;have HB:=am (Below.refl w.heap.size w);have H:(bV.l0 k l0 a1 0)=some r:=h;clear h;have H':=am H;clear H;go_enter Tryz.func70,Tryz.ntmps70;go_wp2
 go_loopg [5] k (fun kq v5 w'=>∃ (j3:Int),v5= .int .i64 j3∧Aside0 (bV.l0 kq l0 a1 j3=some r)∧Aside0 (kq≤k)∧Aside0 (Below w.heap.size w w'))
 case atStart=>exact ⟨(0),sd_,H',⟨Nat.le_refl _⟩,⟨eG⟩⟩
 case round=>
  clear H';obtain ⟨j3,rfl,HA,jq,HB⟩:=hrel;cases gk with
  |zero=>exact absurd HA.out (by simp [bV.l0])
  |succ k1=>
   have H:=HA.out;clear HA;simp only [bV.l0] at H;by_cases c3:j3 < (l0.length:Int)
   ·rw [if_pos c3] at H;have jr:decide (j3 < (l0.length:Int))=true:=dT c3;clear c3;by_cases c4:0≤j3
    ·rw [if_pos c4] at H;have jv:decide (0≤j3)=true:=dT c4;clear c4;obtain ⟨jw,A5,H⟩:=bsa H;(try dsimp only at H);by_cases c6:jw=true
     ·subst c6;rw [if_pos rfl] at H;have H':=am H;clear H;have jo:0≤(j3:Int):=of_decide_eq_true fK;have jp:j3 < (l0.length:Int):=of_decide_eq_true fK;obtain ⟨js,ji,jj,jk,jl,jm,jn,jt,j4,j5,j6,j7,j8,j9,ja,jb,hl21_5,hi21_5,hl21_6,hi21_6,hl21_7,hi21_7⟩:=vK ju.out j3 jo jp;cases jt;replace j4:=bcT HB.out j4;replace j5:=bcT HB.out j5;replace j6:=bcT HB.out j6;replace j7:=bcT HB.out j7;replace j8:=bcT HB.out j8;replace j9:=bcT HB.out j9;replace ja:=bcT HB.out ja;replace jb:=bcT HB.out jb;have jc:=am hi21_5;have jd:=am hl21_5;clear hi21_5 hl21_5;have je:=am hi21_6;have jf:=am hl21_6;clear hi21_6 hl21_6;have jg:=am hi21_7;have jh:=am hl21_7;clear hi21_7 hl21_7;replace jo:=eq_true jo;replace jp:=eq_true jp;go_wp2_with (first|((with_reducible refine gC 93 rfl ?_);refine gl_ 17 Tryz.func93 #[.agg #[.int .i64 ((aM l0 j3).f0),.int .i64 ((aM l0 j3).f1),.int .i64 ((aM l0 j3).f2),.int .i64 ((aM l0 j3).f3.f0),.int .i64 ((aM l0 j3).f3.f1),.slice ji ((aM l0 j3).f3.f2).length jj,.slice jk ((aM l0 j3).f4).length jl,.slice jm ((aM l0 j3).f5).length jn],.int .i64 a1] ?_;(with_reducible refine (ih_spec_l11Ok k1 (by have:=jq.out;omega) ((aM l0 j3).f0) ((aM l0 j3).f1) ((aM l0 j3).f2) ((aM l0 j3).f3.f0) ((aM l0 j3).f3.f1) _ _ ((aM l0 j3).f3.f2) _ _ ((aM l0 j3).f4) _ _ ((aM l0 j3).f5) a1 true _ (aC_ (Kd.aX jc.out HB.out)) jd.out (aC_ (Kd.aX je.out HB.out)) jf.out (aC_ (Kd.aX jg.out HB.out)) jh.out A5.out).mono ?_);rintro e w7 ⟨rfl,hb⟩;refine ⟨_,rfl,?_⟩;replace HB:=am (aA eG hb);(try clear hb)));go_roundg k1;case measure=>have:=jq.out;omega
      case rel=>exact ⟨(wrap64 (j3 + 1)),sd_,H',⟨by have:=jq.out;omega⟩,⟨eG⟩⟩
     replace c6:=Bool.eq_false_iff.mpr c6;subst c6;rw [if_neg Bool.false_ne_true] at H;obtain rfl:=oI H;have jo:0≤(j3:Int):=of_decide_eq_true fK;have jp:j3 < (l0.length:Int):=of_decide_eq_true fK;obtain ⟨js,ji,jj,jk,jl,jm,jn,jt,j4,j5,j6,j7,j8,j9,ja,jb,hl21_5,hi21_5,hl21_6,hi21_6,hl21_7,hi21_7⟩:=vK ju.out j3 jo jp;cases jt;replace j4:=bcT HB.out j4;replace j5:=bcT HB.out j5;replace j6:=bcT HB.out j6;replace j7:=bcT HB.out j7;replace j8:=bcT HB.out j8;replace j9:=bcT HB.out j9;replace ja:=bcT HB.out ja;replace jb:=bcT HB.out jb;have jc:=am hi21_5;have jd:=am hl21_5;clear hi21_5 hl21_5;have je:=am hi21_6;have jf:=am hl21_6;clear hi21_6 hl21_6;have jg:=am hi21_7;have jh:=am hl21_7;clear hi21_7 hl21_7;replace jo:=eq_true jo;replace jp:=eq_true jp;go_wp2_with (first|((with_reducible refine gC 93 rfl ?_);refine gl_ 17 Tryz.func93 #[.agg #[.int .i64 ((aM l0 j3).f0),.int .i64 ((aM l0 j3).f1),.int .i64 ((aM l0 j3).f2),.int .i64 ((aM l0 j3).f3.f0),.int .i64 ((aM l0 j3).f3.f1),.slice ji ((aM l0 j3).f3.f2).length jj,.slice jk ((aM l0 j3).f4).length jl,.slice jm ((aM l0 j3).f5).length jn],.int .i64 a1] ?_;(with_reducible refine (ih_spec_l11Ok k1 (by have:=jq.out;omega) ((aM l0 j3).f0) ((aM l0 j3).f1) ((aM l0 j3).f2) ((aM l0 j3).f3.f0) ((aM l0 j3).f3.f1) _ _ ((aM l0 j3).f3.f2) _ _ ((aM l0 j3).f4) _ _ ((aM l0 j3).f5) a1 false _ (aC_ (Kd.aX jc.out HB.out)) jd.out (aC_ (Kd.aX je.out HB.out)) jf.out (aC_ (Kd.aX jg.out HB.out)) jh.out A5.out).mono ?_);rintro e w8 ⟨rfl,hb⟩;refine ⟨_,rfl,?_⟩;replace HB:=am (aA eG hb);(try clear hb)));go_ret;exact ⟨rr_,eG⟩
    rw [if_neg c4] at H;cases H
   rw [if_neg c3] at H;have jr:decide (j3 < (l0.length:Int))=false:=dF c3;clear c3;obtain rfl:=oI H;go_wp2;go_ret;exact ⟨rr_,eG⟩
theorem bZ.calls_all (k:Nat):bZ.dJ k∧bV.dJ k:=by
 induction k using Nat.strongRecOn with
 | _ k ih=>exact ⟨bZ.step k (ih_spec_l11Ok:=fun m hm=>(ih m hm).1) (ih_spec_l11Blocks:=fun m hm=>(ih m hm).2),bV.step k (ih_spec_l11Ok:=fun m hm=>(ih m hm).1) (ih_spec_l11Blocks:=fun m hm=>(ih m hm).2)⟩
theorem bZ.calls (k:Nat):bZ.dJ k:=(bZ.calls_all k).1
theorem bV.calls (k:Nat):bV.dJ k:=(bZ.calls_all k).2
theorem gG.mono:∀ a0 k,LeO (gG.f k a0) (gG.f (k + 1) a0):=by
 intro a0 k;unfold gG.f;have m0:=@bV.mono;have m1:=@bS.mono;exact mo_
theorem gG.calls (k:Nat) (A0:Option Addr) (c0:Nat) (l0:List (S58)) (r:Bool) (w:World) (hr0:Kd.C k58 w A0 l0.length l0) (hc0:l0.length≤c0) (h:gG.f k l0=some r):
  Calls Tryz.prog 47 #[.slice A0 l0.length c0] w fun e w'=>e= .returned (.bool r)∧Below w.heap.size w w':=by
 have j3:=am hr0;have j4:=am hc0;clear hr0 hc0;have HB:=am (Below.refl w.heap.size w);unfold gG.f at h;have H:=h;clear h;obtain ⟨j5,A2,H⟩:=bsa H;(try dsimp only at H);by_cases c3:j5=true
 ·subst c3;rw [if_pos rfl] at H;obtain ⟨j6,A4,H⟩:=bsa H;(try dsimp only at H);obtain rfl:=oI H;go_enter Tryz.func47,Tryz.ntmps47;go_wp2_with (first|((with_reducible refine gC 70 rfl ?_);refine gl_ 4 Tryz.func70 #[.slice A0 l0.length c0,.int .i64 3] ?_;(with_reducible refine (bV.calls k _ _ l0 3 true _ (aC_ j3.out) j4.out A2.out).mono ?_);rintro e w5 ⟨rfl,hb⟩;refine ⟨_,rfl,?_⟩;replace HB:=am (aA eG hb);(try clear hb))|(go_at_call 71;(with_reducible refine (bS.calls k _ _ l0 j6 _ (aC_ (Kd.aX j3.out HB.out)) j4.out A4.out).mono ?_);rintro e w6 ⟨rfl,hb⟩;replace HB:=am (aA eG hb);(try clear hb)));go_ret;exact ⟨rr_,eG⟩
 replace c3:=Bool.eq_false_iff.mpr c3;subst c3;rw [if_neg Bool.false_ne_true] at H;obtain rfl:=oI H;go_enter Tryz.func47,Tryz.ntmps47;go_wp2_with (first|((with_reducible refine gC 70 rfl ?_);refine gl_ 4 Tryz.func70 #[.slice A0 l0.length c0,.int .i64 3] ?_;(with_reducible refine (bV.calls k _ _ l0 3 false _ (aC_ j3.out) j4.out A2.out).mono ?_);rintro e w7 ⟨rfl,hb⟩;refine ⟨_,rfl,?_⟩;replace HB:=am (aA eG hb);(try clear hb)));go_ret;exact ⟨rr_,eG⟩
theorem bO.mono_l:∀ k,(∀ y0 y1,LeO (bO.f k y0 y1) (bO.f (k + 1) y0 y1))∧(∀ y0 y1 y2,LeO (bO.l0 k y0 y1 y2) (bO.l0 (k + 1) y0 y1 y2))∧(∀ y0 y1 y2 y3 y4 y5 y6 y7 y8 y9 j3 j4,LeO (bO.j1 k y0 y1 y2 y3 y4 y5 y6 y7 y8 y9 j3 j4) (bO.j1 (k + 1) y0 y1 y2 y3 y4 y5 y6 y7 y8 y9 j3 j4))
 |0=>⟨fun _ _ r h=>by simp [bO.f] at h,fun _ _ _ r h=>by simp [bO.l0] at h,fun _ _ _ _ _ _ _ _ _ _ _ _ r h=>by simp [bO.j1] at h⟩
 |k + 1=>by
  obtain ⟨ih0,ih1,ih2⟩:=bO.mono_l k;refine ⟨?_,?_,?_⟩
  ·intro y0 y1;unfold bO.f;exact mo_
  ·intro y0 y1 y2;unfold bO.l0;exact mo_
  ·intro y0 y1 y2 y3 y4 y5 y6 y7 y8 y9 j3 j4;unfold bO.j1;exact mo_
theorem bO.mono:∀ a0 a1 k,LeO (bO.f k a0 a1) (bO.f (k + 1) a0 a1):=by
 intro a0 a1 k;obtain ⟨ih0,ih1,ih2⟩:=bO.mono_l k;exact ih0 a0 a1
theorem bO.calls (k:Nat):∀ (A0:Option Addr) (c0:Nat) (l0:List (S58)) (a1:Int) (r:Bool) (w:World) (hr0:Kd.C k58 w A0 l0.length l0) (hc0:l0.length≤c0) (h:bO.f k l0 a1=some r),
  Calls Tryz.prog 48 #[.slice A0 l0.length c0,.int .i64 a1] w fun e w'=>e= .returned (.bool r)∧Below w.heap.size w w':=by
 induction k using Nat.strongRecOn with
 | _ k ih=>
 intro A0 c0 l0 a1 r w hr0 hc0 h;cases k with
 |zero=>exact absurd h (by simp [bO.f])
 |succ k=>
 simp only [bO.f] at h;have hu58:=Tryz.underlying58;have J4:=am hr0;have Ja:=am hc0;clear hr0 hc0;have HB:=am (Below.refl w.heap.size w);have H:(bO.l0 k l0 a1 0)=some r:=h;clear h;have H':=am H;clear H;go_enter Tryz.func48,Tryz.ntmps48;go_wp2
 go_loopg [5] k (fun kq v5 w'=>∃ (j3:Int),v5= .int .i64 j3∧Aside0 (bO.l0 kq l0 a1 j3=some r)∧Aside0 (kq≤k)∧Aside0 (Below w.heap.size w w'))
 case atStart=>exact ⟨(0),sd_,H',⟨Nat.le_refl _⟩,⟨eG⟩⟩
 case round=>
  clear H';obtain ⟨j3,rfl,HA,jl,HB⟩:=hrel;cases gk with
  |zero=>exact absurd HA.out (by simp [bO.l0])
  |succ k1=>
   have H:=HA.out;clear HA;simp only [bO.l0] at H;by_cases c3:j3 < (l0.length:Int)
   ·rw [if_pos c3] at H;have jE:decide (j3 < (l0.length:Int))=true:=dT c3;clear c3;by_cases c4:0≤j3
    ·rw [if_pos c4] at H;have zF:decide (0≤j3)=true:=dT c4;clear c4;have zG:=am H;clear H;have jL:0≤(j3:Int):=of_decide_eq_true fK;have jM:j3 < (l0.length:Int):=of_decide_eq_true fK;obtain ⟨J5,jF,jG,jf,jg,jH,jI,J6,j5,j6,j7,j8,j9,ja,jb,jc,hl28_5,hi28_5,hl28_6,hi28_6,hl28_7,hi28_7⟩:=vK J4.out j3 jL jM;cases J6;replace j5:=bcT HB.out j5;replace j6:=bcT HB.out j6;replace j7:=bcT HB.out j7;replace j8:=bcT HB.out j8;replace j9:=bcT HB.out j9;replace ja:=bcT HB.out ja;replace jb:=bcT HB.out jb;replace jc:=bcT HB.out jc;have zH:=am hi28_5;have zI:=am hl28_5;clear hi28_5 hl28_5;have jd:=am hi28_6;have je:=am hl28_6;clear hi28_6 hl28_6;have ji:=am hi28_7;have jj:=am hl28_7;clear hi28_7 hl28_7;replace jL:=eq_true jL;replace jM:=eq_true jM;go_upto_region 5 with (first|((with_reducible refine gD 6 rfl ?_);refine dU rfl (N:=6) rfl (cs:=#[.int .i64 0,.int .i64 0,.int .i64 0,.int .i64 0,.int .i64 0,.slice none 0 0,.slice none 0 0,.slice none 0 0]) (t:=58) rn_ ?_;intro jm hg w6 hbox hb;have j4:=am (hbox);have GW29:=am ((by rw [hg];exact (aI eG):w.heap.size≤jm));have GE29:=am ((by rw [hg];exact (aI eG):w.heap.size≤jm));replace HB:=am (aA eG hb);clear hb hbox hg;obtain ⟨jn,jo,jp,jq,jr,js,jt,ju,jv,jw,jx,jy,jz,jA,jB,jC⟩:=fP j4.out));(try simp only [Act.put,sA,sB,sC])
     go_cut [30] (fun J7 wc=>∃ (kq:Nat) (jh:Bool),J7= .bool jh∧Aside0 (bO.j1 kq l0 a1 j3 jh ((aM l0 j3).f0) ((aM l0 j3).f1) ((aM l0 j3).f2) ((aM l0 j3).f3.f0) ((aM l0 j3).f3.f1) ((aM l0 j3).f3.f2) ((aM l0 j3).f4) ((aM l0 j3).f5)=some r)∧Aside0 (kq≤k1)∧Aside0 (wc.heap[jm]?=some (.cells #[.int .i64 ((aM l0 j3).f0),.int .i64 ((aM l0 j3).f1),.int .i64 ((aM l0 j3).f2),.int .i64 ((aM l0 j3).f3.f0),.int .i64 ((aM l0 j3).f3.f1),(.slice jF ((aM l0 j3).f3.f2).length jG),(.slice jf ((aM l0 j3).f4).length jg),(.slice jH ((aM l0 j3).f5).length jI)] 58 (0,0)))∧Aside0 (Below w.heap.size w wc))
     case first=>
      have H:=zG.out;clear zG;by_cases c8:((aM l0 j3).f0)=4
      ·rw [if_pos c8] at H;have jk:(((aM l0 j3).f0) == 4)=true:=beq_iff_eq.mpr c8;have zJ:(((aM l0 j3).f0) != 4)=false:=bF c8;clear c8
       (first|rw [jk]|(simp only [fA,fE];rw [jk])|skip)
       have H':=am H;clear H;obtain ⟨zK,zL,zM,zN,zO,zP,zQ,zR,zS,zT,zU,zV,zW,zX,zY,zZ⟩:=fP j4.out;go_wp2
       go_meet
       case rel=>exact ⟨_,(decide (((aM l0 j3).f2)≥a1)),sd_,H',⟨by have:=jl.out;first|omega|exact Nat.le_refl _⟩,⟨(aV (aV (aV (aV (aV (aV (aV (aV j4.out 0 _ rfl) 1 _ rfl) 2 _ rfl) 3 _ rfl) 4 _ rfl) 5 _ rfl) 6 _ rfl) 7 _ rfl)⟩,⟨xZ⟩⟩
      rw [if_neg c8] at H;have jk:(((aM l0 j3).f0) == 4)=false:=bE c8;have zJ:(((aM l0 j3).f0) != 4)=true:=bne_iff_ne.mpr c8
      (first|rw [jk]|(simp only [fA,fE];rw [jk])|skip)
      by_cases c10:((aM l0 j3).f0)=5
      ·rw [if_pos c10] at H;have jJ:(((aM l0 j3).f0) == 5)=true:=beq_iff_eq.mpr c10;have jK:(((aM l0 j3).f0) != 5)=false:=bF c10;clear c10;have H':=am H;clear H;obtain ⟨jN,jO,jP,jQ,jR,jS,jT,jU,jV,jW,jX,jY,jZ,q0,q1,q2⟩:=fP j4.out;go_wp2
       go_meet
       case rel=>exact ⟨_,(decide (((aM l0 j3).f2)≥a1)),sd_,H',⟨by have:=jl.out;first|omega|exact Nat.le_refl _⟩,⟨(aV (aV (aV (aV (aV (aV (aV (aV j4.out 0 _ rfl) 1 _ rfl) 2 _ rfl) 3 _ rfl) 4 _ rfl) 5 _ rfl) 6 _ rfl) 7 _ rfl)⟩,⟨xZ⟩⟩
      rw [if_neg c10] at H;have jJ:(((aM l0 j3).f0) == 5)=false:=bE c10;have jK:(((aM l0 j3).f0) != 5)=true:=bne_iff_ne.mpr c10;have H':=am H;clear H;obtain ⟨q3,q4,q5,q6,q7,q8,q9,qa,qb,qc,qd,qe,qf,qg,qh,qi⟩:=fP j4.out;go_wp2
      go_meet
      case rel=>exact ⟨_,(false),sd_,H',⟨by have:=jl.out;first|omega|exact Nat.le_refl _⟩,⟨(aV (aV (aV (aV (aV (aV (aV (aV j4.out 0 _ rfl) 1 _ rfl) 2 _ rfl) 3 _ rfl) 4 _ rfl) 5 _ rfl) 6 _ rfl) 7 _ rfl)⟩,⟨xZ⟩⟩
     case rest=>
      clear zG;try clear c3
      try clear jE
      try clear c4
      try clear zF
      try clear jn
      try clear jo
      try clear jp
      try clear jq
      try clear jr
      try clear js
      try clear jt
      try clear ju
      try clear jv
      try clear jw
      try clear jx
      try clear jy
      try clear jz
      try clear jA
      try clear jB
      try clear jC
      try clear j5
      try clear j6
      try clear j7
      try clear j8
      try clear j9
      try clear ja
      try clear jb
      try clear jc
      try clear jL
      try clear jM
      obtain ⟨kq,jh,rfl,HA,HJ4,j4,HB⟩:=hcut;cases kq with
      |zero=>exact absurd HA.out (by simp [bO.j1])
      |succ jD=>
       have H:=HA.out;clear HA;simp only [bO.j1] at H;by_cases qj:jh=true
       ·subst qj;rw [if_pos rfl] at H;obtain rfl:=oI H;go_wp2;go_ret;exact ⟨rr_,xZ⟩
       replace qj:=Bool.eq_false_iff.mpr qj;subst qj;rw [if_neg Bool.false_ne_true] at H;obtain ⟨J8,J1,H⟩:=bsm H;(try dsimp only at H);have J0:=am J1;clear J1;by_cases qk:J8=true
       ·subst qk;rw [if_pos rfl] at H;obtain ⟨J9,J2,H⟩:=bsm H;(try dsimp only at H);have J3:=am J2;clear J2;by_cases ql:J9=true
        ·subst ql;rw [if_pos rfl] at H;have H':=am H;clear H;obtain ⟨qm,qn,qo,qp,qq,qr,qs,qt,qu,qv,qw,qx,qy,qz,qA,qB⟩:=fP j4.out;go_wp2_with (first|((with_reducible refine gC 48 rfl ?_);refine gl_ 34 Tryz.func48 #[.slice jf ((aM l0 j3).f4).length jg,.int .i64 a1] ?_;(with_reducible refine (ih jD (by have:=jl.out;have:=HJ4.out;omega) _ _ ((aM l0 j3).f4) a1 true _ (aC_ (Kd.aX jd.out HB.out)) je.out J0.out).mono ?_);rintro e Jb ⟨rfl,hb⟩;refine ⟨_,rfl,?_⟩;replace j4:=bbP j4 hb;replace HB:=am (aA xZ hb);(try clear hb);obtain ⟨qC,qD,qE,qF,qG,qH,qI,qJ,qK,qL,qM,qN,qO,qP,qQ,qR⟩:=fP j4.out)|(go_at_call 48;(with_reducible refine (ih jD (by have:=jl.out;have:=HJ4.out;omega) _ _ ((aM l0 j3).f5) a1 true _ (aC_ (Kd.aX ji.out HB.out)) jj.out J3.out).mono ?_);rintro e Jc ⟨rfl,hb⟩;replace j4:=bbP j4 hb;replace HB:=am (aA xZ hb);(try clear hb)));go_roundg jD;case measure=>have:=jl.out;have:=HJ4.out;omega
         case rel=>exact ⟨(wrap64 (j3 + 1)),sd_,H',⟨by have:=jl.out;have:=HJ4.out;omega⟩,⟨xZ⟩⟩
        replace ql:=Bool.eq_false_iff.mpr ql;subst ql;rw [if_neg Bool.false_ne_true] at H;obtain rfl:=oI H;obtain ⟨qS,qT,qU,qV,qW,qX,qY,qZ,z0,z1,z2,z3,z4,z5,z6,z7⟩:=fP j4.out;go_wp2_with (first|((with_reducible refine gC 48 rfl ?_);refine gl_ 34 Tryz.func48 #[.slice jf ((aM l0 j3).f4).length jg,.int .i64 a1] ?_;(with_reducible refine (ih jD (by have:=jl.out;have:=HJ4.out;omega) _ _ ((aM l0 j3).f4) a1 true _ (aC_ (Kd.aX jd.out HB.out)) je.out J0.out).mono ?_);rintro e Jd ⟨rfl,hb⟩;refine ⟨_,rfl,?_⟩;replace j4:=bbP j4 hb;replace HB:=am (aA xZ hb);(try clear hb);obtain ⟨z8,z9,za,zb,zc,zd,ze,zf,zg,zh,zi,zj,zk,zl,zm,zn⟩:=fP j4.out)|(go_at_call 48;(with_reducible refine (ih jD (by have:=jl.out;have:=HJ4.out;omega) _ _ ((aM l0 j3).f5) a1 false _ (aC_ (Kd.aX ji.out HB.out)) jj.out J3.out).mono ?_);rintro e Je ⟨rfl,hb⟩;replace j4:=bbP j4 hb;replace HB:=am (aA xZ hb);(try clear hb)));go_ret;exact ⟨rr_,xZ⟩
       replace qk:=Bool.eq_false_iff.mpr qk;subst qk;rw [if_neg Bool.false_ne_true] at H;obtain rfl:=oI H;obtain ⟨zo,zp,zr,zs,zt,zu,zv,zw,zx,zy,zz,zA,zB,zC,zD,zE⟩:=fP j4.out;go_wp2_with (first|((with_reducible refine gC 48 rfl ?_);refine gl_ 34 Tryz.func48 #[.slice jf ((aM l0 j3).f4).length jg,.int .i64 a1] ?_;(with_reducible refine (ih jD (by have:=jl.out;have:=HJ4.out;omega) _ _ ((aM l0 j3).f4) a1 false _ (aC_ (Kd.aX jd.out HB.out)) je.out J0.out).mono ?_);rintro e Jf ⟨rfl,hb⟩;refine ⟨_,rfl,?_⟩;replace j4:=bbP j4 hb;replace HB:=am (aA xZ hb);(try clear hb)));go_ret;exact ⟨rr_,xZ⟩
    rw [if_neg c4] at H;cases H
   rw [if_neg c3] at H;have jE:decide (j3 < (l0.length:Int))=false:=dF c3;clear c3;obtain rfl:=oI H;go_wp2;go_ret;exact ⟨rr_,eG⟩
end Go.Proofs.YtjamfkpgmkhbnaaGreatDoor.PA

