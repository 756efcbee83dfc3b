/- Part 5. -/
import Derived.Test.YtodhbeeibagiaaaQFnProgramFoldTwice3
set_option maxHeartbeats 8000000
set_option maxRecDepth 100000
namespace Go.Proofs.Ytodhbeeibagiaaa.PA
open Go.RowKit Go.Proofs.YtodhbeeibagiaaaW.PrintWords Go.Proofs.YtodhbeeibagiaaaW.PrintLast Go.Proofs.YtodhbeeibagiaaaW.PrintMore
attribute [local go_sem] max2_int min2_int max_two min_two max_three min_three max_four min_four
set_option linter.unusedVariables false
set_option linter.unusedSimpArgs false
theorem eP.mono_l:∀ k,(∀ y0 y1 y2,LeO (eP.f k y0 y1 y2) (eP.f (k + 1) y0 y1 y2))∧(∀ y0 y1 y2 y3 y4 y5 y6 y7 y8 y9,LeO (eP.j0 k y0 y1 y2 y3 y4 y5 y6 y7 y8 y9) (eP.j0 (k + 1) y0 y1 y2 y3 y4 y5 y6 y7 y8 y9))
 |0=>⟨fun _ _ _ r h=>by simp [eP.f] at h,fun _ _ _ _ _ _ _ _ _ _ r h=>by simp [eP.j0] at h⟩
 |k + 1=>by
  obtain ⟨ih0,ih1⟩:=eP.mono_l k
  refine ⟨?_,?_⟩
  ·intro y0 y1 y2
   unfold eP.f
   have m0:=@fP.mono
   exact mo_
  ·intro y0 y1 y2 y3 y4 y5 y6 y7 y8 y9
   unfold eP.j0
   have m0:=@fP.mono
   exact mo_
theorem eP.mono:∀ a0 a1 a2 k,LeO (eP.f k a0 a1 a2) (eP.f (k + 1) a0 a1 a2):=by
 intro a0 a1 a2 k
 obtain ⟨ih0,ih1⟩:=eP.mono_l k
 exact ih0 a0 a1 a2
theorem eP.calls (k:Nat):∀ (jc:Int) (jf:Int) (jK:Option Addr) (jk:Nat) (j6:List (S32)) (r1:Int) (r2:Int) (r3:List (S32)) (w:World) (hr0_2:Kd.C k32 w jK j6.length j6) (hc0_2:j6.length≤jk) (h:eP.f k jc jf j6=some (r1,r2,r3)),
  Calls Try.prog 96 #[.agg #[.int .i64 jc, .int .i64 jf, .slice jK j6.length jk]] w fun e w'=>∃ v2_:Value,e= .returned (.agg #[.int .i64 r1, .int .i64 r2,v2_])∧Kd.N k32 32 w' w.heap.size (fun k_=>(w.heap.size≤k_)) v2_ r3∧Below w.heap.size w w':=by
 induction k using Nat.strongRecOn with
 | _ k ih=>
 intro jc jf jK jk j6 r1 r2 r3 w hr0_2 hc0_2 h
 cases k with
 |zero=>exact absurd h (by simp [eP.f])
 |succ k=>
 simp only [eP.f] at h
 have hu32:=Try.underlying32
 have qs:=am hr0_2
 have ZH:=am hc0_2
 clear hr0_2 hc0_2
 have HB:=am (Below.refl w.heap.size w)
 have H:(if (j6.length:Int)=0 then ((fF.f jc jf).bind fun qw=>(some (qw.1,qw.2.1,qw.2.2))) else (if 0 < (j6.length:Int) then ((eP.f k ((aY j6 0).f0) ((aY j6 0).f1) ((aY j6 0).f2)).bind fun jR=>(if 1 < (j6.length:Int) then ((eP.f k ((aY j6 1).f0) ((aY j6 1).f1) ((aY j6 1).f2)).bind fun jS=>(if jR.1=0 then (eP.j0 k (jS.1 == 0) jc jf j6 jR.1 jR.2.1 jR.2.2 jS.1 jS.2.1 jS.2.2) else (eP.j0 k false jc jf j6 jR.1 jR.2.1 jR.2.2 jS.1 jS.2.1 jS.2.2))) else (none))) else (none)))=some (r1,r2,r3):=h
 clear h
 by_cases c2:(j6.length:Int)=0
 ·rw [if_pos c2] at H
  have qM:((j6.length:Int) == 0)=true:=beq_iff_eq.mpr c2
  have qN:((j6.length:Int) != 0)=false:=bne_eq_false_iff_eq.mpr c2
  clear c2
  obtain ⟨⟨Zg,Zh,Zi⟩,A3,H⟩:=bsa H
  (try dsimp only at H)
  simp only [Option.some.injEq,Prod.mk.injEq] at H
  obtain ⟨rfl,rfl,rfl⟩:=H
  go_enter Try.func96,Try.ntmps96
  go_wp2_with (first|((with_reducible refine bQ (N:=1) rfl ?_);refine dJ rfl (N:=1) rfl (cs:=#[.int .i64 jc, .int .i64 jf, .slice jK j6.length jk]) (t:=32) rn_ ?_;intro j9 hg w4 hbox hb;have j8:=am (hbox);have Zj:=am ((by rw [hg];exact (aJ gK):w.heap.size≤j9));have GE94:=am ((by rw [hg];exact (aJ gK):w.heap.size≤j9));replace HB:=am (aG gK hb);clear hb hbox hg)|((with_reducible refine bQ (N:=2) rfl ?_);refine dJ rfl (N:=2) rfl (cs:=#[.int .i64 0, .int .i64 0, .slice none 0 0]) (t:=32) rn_ ?_;intro j5 hg w5 hbox hb;have jb:=am (hbox);have Zk:=am ((by rw [hg];exact (aJ HZ):w.heap.size≤j5));have GE95:=am ((by rw [hg];exact (aJ HZ):w.heap.size≤j5));replace HB:=am (aG HZ hb);have jF:=am ((by rw [hg];exact Nat.ne_of_lt (gQ (g:=j9) (o:= .cells #[.int .i64 jc, .int .i64 jf, .slice jK j6.length jk] 32 (0,0)) (aG_ j8.out)):j9≠j5));have jG:=am ((by rw [hg];exact Nat.ne_of_gt (gQ (g:=j9) (o:= .cells #[.int .i64 jc, .int .i64 jf, .slice jK j6.length jk] 32 (0,0)) (aG_ j8.out)):j5≠j9));replace j8:=am (bY (g:=j9) (o:= .cells #[.int .i64 jc, .int .i64 jf, .slice jK j6.length jk] 32 (0,0)) (aG_ j8.out) hb);clear hb hbox hg;have YP:=jF.out;have YQ:=jG.out;obtain ⟨Zl,Zm,Zn,Zo,Zp,Zq⟩:=fZ j8.out)|((with_reducible refine aN (f:=45) rfl ?_);refine gl_ 15 Try.func45 #[.int .i64 jc, .int .i64 jf] ?_;(with_reducible refine (fF.calls jc jf Zg Zh Zi _ A3.out).mono ?_);rintro e w8 ⟨U2,rfl,ho0,hb⟩;refine ⟨_,rfl,?_⟩;have qO:=am (Kd.dH (Kd.aD (ok':=fun k_=>(w.heap.size≤k_)∧k_≠j9∧k_≠j5) (Kd.R_N (Kd.mK ho0)) (fun k_ hk_=>⟨(Nat.le_trans (aJ xQ) hk_.2.1),(Kd.lF (g:=j9) (o:= .cells #[.int .i64 jc, .int .i64 jf, .slice jK j6.length jk] 32 (0,0)) (aG_ j8.out) k_ hk_.2.1),(Kd.lF (g:=j5) (o:= .cells #[.int .i64 0, .int .i64 0, .slice none 0 0] 32 (0,0)) (aG_ jb.out) k_ hk_.2.1)⟩)) (aJ xQ));replace j8:=am (bY (g:=j9) (o:= .cells #[.int .i64 jc, .int .i64 jf, .slice jK j6.length jk] 32 (0,0)) (aG_ j8.out) hb);replace jb:=am (bY (g:=j5) (o:= .cells #[.int .i64 0, .int .i64 0, .slice none 0 0] 32 (0,0)) (aG_ jb.out) hb);replace HB:=am (aG xQ hb);(try clear hb);(try clear ho0);obtain ⟨Zr,Zs,Zt,Zu,Zv,Zw⟩:=fZ jb.out;obtain ⟨qP,qQ,Zx⟩:=Kd.dD qO.out;subst Zx))
  refine bodyPost_ret (results_cell_row rfl _ _ j5 32 #[.int .i64 Zg, .int .i64 Zh, .slice qP Zi.length qQ] (0,0) _ rfl (aM (aM (aM jb.out 0 _ rfl) 1 _ rfl) 2 _ rfl) Try.underlying32 rfl (by kernel_rfl)) rfl ?_
  exact ⟨_,iM,eO (Kd.aD (Kd.aT (p:=⟨j5,2,none⟩) (Kd.aT (p:=⟨j5,1,none⟩) (Kd.aT (p:=⟨j5,0,none⟩) (Kd.aD qO.out (fun k_ hk=>(⟨hk,hk.2.2⟩:_∧k_≠j5))) (fun _ hk=>hk.2) (.int .i64 Zg)) (fun _ hk=>hk.2) (.int .i64 Zh)) (fun _ hk=>hk.2) (.slice qP Zi.length qQ)) (fun _ hk=>hk.1.1)),xQ⟩
 rw [if_neg c2] at H
 have qM:((j6.length:Int) == 0)=false:=beq_eq_false_iff_ne.mpr c2
 have qN:((j6.length:Int) != 0)=true:=bne_iff_ne.mpr c2
 have Zy:¬ (j6=[]):=fun h_=>c2 (by rw [h_];rfl)
 by_cases qR:0 < (j6.length:Int)
 ·rw [if_pos qR] at H
  have qS:decide (0 < (j6.length:Int))=true:=decide_eq_true qR
  have qT:decide (0 < j6.length)=true:=decide_eq_true (by omega)
  clear qR
  obtain ⟨⟨jJ,jH,jd⟩,qU,H⟩:=bsm H
  (try dsimp only at H)
  have YR:=am qU
  clear qU
  by_cases qV:1 < (j6.length:Int)
  ·rw [if_pos qV] at H
   have qW:decide (1 < (j6.length:Int))=true:=decide_eq_true qV
   have qX:decide (1 < j6.length)=true:=decide_eq_true (by omega)
   clear qV
   obtain ⟨⟨jM,ju,jh⟩,qY,H⟩:=bsm H
   (try dsimp only at H)
   have YS:=am qY
   clear qY
   have qx:=am H
   clear H
   go_enter Try.func96,Try.ntmps96
   go_upto_region 5 with (first|((with_reducible refine bQ (N:=1) rfl ?_);refine dJ rfl (N:=1) rfl (cs:=#[.int .i64 jc, .int .i64 jf, .slice jK j6.length jk]) (t:=32) rn_ ?_;intro j9 hg U3 hbox hb;have j8:=am (hbox);have Zj:=am ((by rw [hg];exact (aJ gK):w.heap.size≤j9));have GE94:=am ((by rw [hg];exact (aJ gK):w.heap.size≤j9));replace HB:=am (aG gK hb);clear hb hbox hg)|((with_reducible refine bQ (N:=2) rfl ?_);refine dJ rfl (N:=2) rfl (cs:=#[.int .i64 0, .int .i64 0, .slice none 0 0]) (t:=32) rn_ ?_;intro j5 hg U4 hbox hb;have jb:=am (hbox);have Zk:=am ((by rw [hg];exact (aJ HZ):w.heap.size≤j5));have GE95:=am ((by rw [hg];exact (aJ HZ):w.heap.size≤j5));replace HB:=am (aG HZ hb);have jF:=am ((by rw [hg];exact Nat.ne_of_lt (gQ (g:=j9) (o:= .cells #[.int .i64 jc, .int .i64 jf, .slice jK j6.length jk] 32 (0,0)) (aG_ j8.out)):j9≠j5));have jG:=am ((by rw [hg];exact Nat.ne_of_gt (gQ (g:=j9) (o:= .cells #[.int .i64 jc, .int .i64 jf, .slice jK j6.length jk] 32 (0,0)) (aG_ j8.out)):j5≠j9));replace j8:=am (bY (g:=j9) (o:= .cells #[.int .i64 jc, .int .i64 jf, .slice jK j6.length jk] 32 (0,0)) (aG_ j8.out) hb);clear hb hbox hg;have ZI:=jF.out;have ZJ:=jG.out;obtain ⟨jU,jV,jW,jX,jY,jZ⟩:=fZ j8.out;have q0:0≤(0:Int):=(by omega);have q1:0 < (j6.length:Int):=of_decide_eq_true gL;obtain ⟨jg,qy,qz,Zz,jA,jB,jC,hl105_2,hi105_2⟩:=rC qs.out 0 q0 q1;cases Zz;have ZK:(0 < j6.length)=True:=eq_true (by omega);(try rw [show ((0:Int)).toNat=0 from rfl] at jA);(try rw [show 0 * 3=0 from rfl] at jA);(try rw [Addr.add_zero'] at jA);(try rw [show ((0:Int)).toNat=0 from rfl] at jB);(try rw [show 0 * 3=0 from rfl] at jB);(try rw [Addr.add_zero'] at jB);(try rw [show ((0:Int)).toNat=0 from rfl] at jC);(try rw [show 0 * 3=0 from rfl] at jC);(try rw [Addr.add_zero'] at jC);replace jA:=(HB.out.cell (World.block_lt_of_cell? w _ jA)).trans jA;replace jB:=(HB.out.cell (World.block_lt_of_cell? w _ jB)).trans jB;replace jC:=(HB.out.cell (World.block_lt_of_cell? w _ jC)).trans jC;have q2:=am hi105_2;have q3:=am hl105_2;clear hi105_2 hl105_2;replace q0:=eq_true q0;replace q1:=eq_true q1)|((with_reducible refine aN (f:=96) rfl ?_);refine gl_ 20 Try.func96 #[.agg #[.int .i64 ((aY j6 0).f0), .int .i64 ((aY j6 0).f1), .slice qy ((aY j6 0).f2).length qz]] ?_;(with_reducible refine (ih k (by omega) ((aY j6 0).f0) ((aY j6 0).f1) _ _ ((aY j6 0).f2) jJ jH jd _ (aC_ (Kd.aV q2.out HB.out)) q3.out YR.out).mono ?_);rintro e U5 ⟨YT,rfl,ho0,hb⟩;refine ⟨_,rfl,?_⟩;have jI:=am (Kd.dH (Kd.aD (ok':=fun k_=>(w.heap.size≤k_)∧k_≠j9∧k_≠j5) ho0 (fun k_ hk_=>⟨(Nat.le_trans (aJ xQ) hk_),(Kd.lF (g:=j9) (o:= .cells #[.int .i64 jc, .int .i64 jf, .slice (some jg) j6.length jk] 32 (0,0)) (aG_ j8.out) k_ hk_),(Kd.lF (g:=j5) (o:= .cells #[.int .i64 0, .int .i64 0, .slice none 0 0] 32 (0,0)) (aG_ jb.out) k_ hk_)⟩)) (aJ xQ));replace j8:=am (bY (g:=j9) (o:= .cells #[.int .i64 jc, .int .i64 jf, .slice (some jg) j6.length jk] 32 (0,0)) (aG_ j8.out) hb);replace jb:=am (bY (g:=j5) (o:= .cells #[.int .i64 0, .int .i64 0, .slice none 0 0] 32 (0,0)) (aG_ jb.out) hb);replace HB:=am (aG xQ hb);(try clear hb);(try clear ho0))|((with_reducible refine bQ (N:=3) rfl ?_);refine dJ rfl (N:=3) rfl (cs:=#[.int .i64 0, .int .i64 0, .slice none 0 0]) (t:=32) rn_ ?_;intro j3 hg U6 hbox hb;replace jI:=am (Kd.dG (Kd.fC (aN_ jI.out) j3 (Nat.le_of_eq hg.symm)) hb);have j7:=am (hbox);have jT:=am ((by rw [hg];exact (aJ xQ):w.heap.size≤j3));have GE108:=am ((by rw [hg];exact (aJ xQ):w.heap.size≤j3));replace HB:=am (aG xQ hb);have jl:=am ((by rw [hg];exact Nat.ne_of_lt (gQ (g:=j9) (o:= .cells #[.int .i64 jc, .int .i64 jf, .slice (some jg) j6.length jk] 32 (0,0)) (aG_ j8.out)):j9≠j3));have jy:=am ((by rw [hg];exact Nat.ne_of_gt (gQ (g:=j9) (o:= .cells #[.int .i64 jc, .int .i64 jf, .slice (some jg) j6.length jk] 32 (0,0)) (aG_ j8.out)):j3≠j9));replace j8:=am (bY (g:=j9) (o:= .cells #[.int .i64 jc, .int .i64 jf, .slice (some jg) j6.length jk] 32 (0,0)) (aG_ j8.out) hb);have jm:=am ((by rw [hg];exact Nat.ne_of_lt (gQ (g:=j5) (o:= .cells #[.int .i64 0, .int .i64 0, .slice none 0 0] 32 (0,0)) (aG_ jb.out)):j5≠j3));have jz:=am ((by rw [hg];exact Nat.ne_of_gt (gQ (g:=j5) (o:= .cells #[.int .i64 0, .int .i64 0, .slice none 0 0] 32 (0,0)) (aG_ jb.out)):j3≠j5));replace jb:=am (bY (g:=j5) (o:= .cells #[.int .i64 0, .int .i64 0, .slice none 0 0] 32 (0,0)) (aG_ jb.out) hb);clear hb hbox hg;have ZL:=jy.out;have ZM:=jl.out;have ZN:=jz.out;have ZO:=jm.out;obtain ⟨q4,q5,q6,q7,q8,q9⟩:=fZ j7.out;obtain ⟨ji,jj,ZA⟩:=Kd.dD jI.out;subst ZA;obtain ⟨qa,qb,qc,qd,qe,qf⟩:=fZ j8.out;have qg:0≤(1:Int):=(by omega);have qh:1 < (j6.length:Int):=of_decide_eq_true gL;obtain ⟨qZ,qA,qB,ZB,jt,jv,jw,hl109_2,hi109_2⟩:=rC qs.out 1 qg qh;obtain rfl:jg=qZ:=(by injection ZB);(try simp only [show (1:Int).toNat=1 from rfl,Nat.reduceMul,Nat.reduceEqDiff,Go.Addr.add,↓reduceIte] at jt);(try simp only [show (1:Int).toNat=1 from rfl,Nat.reduceMul,Nat.reduceEqDiff,Go.Addr.add,↓reduceIte] at jv);(try simp only [show (1:Int).toNat=1 from rfl,Nat.reduceMul,Nat.reduceEqDiff,Go.Addr.add,↓reduceIte] at jw);have ZP:(1 < j6.length)=True:=eq_true (by omega);(try rw [show ((1:Int)).toNat=1 from rfl] at jt);(try rw [show 1 * 3=3 from rfl] at jt);(try rw [show ((1:Int)).toNat=1 from rfl] at jv);(try rw [show 1 * 3=3 from rfl] at jv);(try rw [show ((1:Int)).toNat=1 from rfl] at jw);(try rw [show 1 * 3=3 from rfl] at jw);have jL:jg.block≠j3:=Nat.ne_of_lt (Nat.lt_of_lt_of_le (by have:=World.block_lt_of_cell? _ _ jt;first|rwa [add_block] at this|exact this) jT.out);have qi:jg.block≠j3:=Nat.ne_of_lt (Nat.lt_of_lt_of_le (by have:=World.block_lt_of_cell? _ _ jt;first|rwa [add_block] at this|exact this) jT.out);have qj:jg.block≠j3:=Nat.ne_of_lt (Nat.lt_of_lt_of_le (by have:=World.block_lt_of_cell? _ _ jt;first|rwa [add_block] at this|exact this) jT.out);replace jt:=(HB.out.cell (World.block_lt_of_cell? w _ jt)).trans jt;replace jv:=(HB.out.cell (World.block_lt_of_cell? w _ jv)).trans jv;replace jw:=(HB.out.cell (World.block_lt_of_cell? w _ jw)).trans jw;have qk:=am hi109_2;have ql:=am hl109_2;clear hi109_2 hl109_2;have FR_:=fun {W_:World} {a_:Addr} {x_:Value} (b_:a_.block≠j3) (h_:W_.cell? a_=some x_)=>((cell_far (p:=⟨j3,2,none⟩) b_ (.slice ji jd.length jj)).trans ((cell_far (p:=⟨j3,1,none⟩) b_ (.int .i64 jH)).trans ((cell_far (p:=⟨j3,0,none⟩) b_ (.int .i64 jJ)).trans h_)));replace jt:=FR_ (nb_ jL) jt;replace jv:=FR_ (nb_ jL) jv;replace jw:=FR_ (nb_ jL) jw;clear FR_;clear jL qi qj;replace qg:=eq_true qg;replace qh:=eq_true qh)|((with_reducible refine aN (f:=96) rfl ?_);refine gl_ 25 Try.func96 #[.agg #[.int .i64 ((aY j6 1).f0), .int .i64 ((aY j6 1).f1), .slice qA ((aY j6 1).f2).length qB]] ?_;(with_reducible refine (ih k (by omega) ((aY j6 1).f0) ((aY j6 1).f1) _ _ ((aY j6 1).f2) jM ju jh _ ?side1 ql.out YS.out).mono ?_);(case side1=>exact Kd.aV qk.out EH);rintro e U7 ⟨YU,rfl,ho0,hb⟩;refine ⟨_,rfl,?_⟩;have jO:=am (Kd.dH (Kd.aD (ok':=fun k_=>(w.heap.size≤k_)∧some k_≠(.slice ji jd.length jj:Value).ownBlock∧k_≠j9∧k_≠j5∧k_≠j3) ho0 (fun k_ hk_=>⟨(Nat.le_trans (aJ EH) hk_),(Kd.fresh' (Kd.iH (eO ((Kd.aD (Kd.aT (p:=⟨j3,2,none⟩) (Kd.aT (p:=⟨j3,1,none⟩) (Kd.aT (p:=⟨j3,0,none⟩) (Kd.aD jI.out (fun k_ hk=>(⟨hk,hk.2⟩:_∧k_≠j3))) (fun _ hk=>hk.2) (.int .i64 jJ)) (fun _ hk=>hk.2) (.int .i64 jH)) (fun _ hk=>hk.2) (.slice ji jd.length jj)) (fun _ h_=>h_.1))))) k_ hk_),(Kd.lF (g:=j9) (o:= .cells #[.int .i64 jc, .int .i64 jf, .slice (some jg) j6.length jk] 32 (0,0)) (aZ (aZ (aZ j8.out jl.out _) jl.out _) jl.out _) k_ hk_),(Kd.lF (g:=j5) (o:= .cells #[.int .i64 0, .int .i64 0, .slice none 0 0] 32 (0,0)) (aZ (aZ (aZ jb.out jm.out _) jm.out _) jm.out _) k_ hk_),(Kd.lF (g:=j3) (o:= .cells #[.int .i64 jJ, .int .i64 jH, .slice ji jd.length jj] 32 (0,0)) (aM (aM (aM j7.out 0 _ rfl) 1 _ rfl) 2 _ rfl) k_ hk_)⟩)) (aJ EH));replace jI:=am (Kd.fM (eO ((Kd.aD (Kd.aT (p:=⟨j3,2,none⟩) (Kd.aT (p:=⟨j3,1,none⟩) (Kd.aT (p:=⟨j3,0,none⟩) (Kd.aD jI.out (fun k_ hk=>(⟨hk,hk.2⟩:_∧k_≠j3))) (fun _ hk=>hk.2) (.int .i64 jJ)) (fun _ hk=>hk.2) (.int .i64 jH)) (fun _ hk=>hk.2) (.slice ji jd.length jj)) (fun _ h_=>h_.1)))) (by first|exact Kd.dL ho0|exact Kd.dL (Kd.R_N ho0)) hb);replace j8:=am (bY (g:=j9) (o:= .cells #[.int .i64 jc, .int .i64 jf, .slice (some jg) j6.length jk] 32 (0,0)) (aZ (aZ (aZ j8.out jl.out _) jl.out _) jl.out _) hb);replace jb:=am (bY (g:=j5) (o:= .cells #[.int .i64 0, .int .i64 0, .slice none 0 0] 32 (0,0)) (aZ (aZ (aZ jb.out jm.out _) jm.out _) jm.out _) hb);replace j7:=am (bY (g:=j3) (o:= .cells #[.int .i64 jJ, .int .i64 jH, .slice ji jd.length jj] 32 (0,0)) (aM (aM (aM j7.out 0 _ rfl) 1 _ rfl) 2 _ rfl) hb);replace HB:=am (aG EH hb);(try clear hb);(try clear ho0))|((with_reducible refine bQ (N:=4) rfl ?_);refine dJ rfl (N:=4) rfl (cs:=#[.int .i64 0, .int .i64 0, .slice none 0 0]) (t:=32) rn_ ?_;intro j4 hg U8 hbox hb;replace jI:=am (Kd.dG (Kd.fC (aN_ jI.out) j4 (Nat.le_of_eq hg.symm)) hb);replace jO:=am (Kd.dG (Kd.fC (aN_ jO.out) j4 (Nat.le_of_eq hg.symm)) hb);have ja:=am (hbox);have ZQ:=am ((by rw [hg];exact (aJ EH):w.heap.size≤j4));have GE113:=am ((by rw [hg];exact (aJ EH):w.heap.size≤j4));replace HB:=am (aG EH hb);have jn:=am ((by rw [hg];exact Nat.ne_of_lt (gQ (g:=j9) (o:= .cells #[.int .i64 jc, .int .i64 jf, .slice (some jg) j6.length jk] 32 (0,0)) (aG_ j8.out)):j9≠j4));have jD:=am ((by rw [hg];exact Nat.ne_of_gt (gQ (g:=j9) (o:= .cells #[.int .i64 jc, .int .i64 jf, .slice (some jg) j6.length jk] 32 (0,0)) (aG_ j8.out)):j4≠j9));replace j8:=am (bY (g:=j9) (o:= .cells #[.int .i64 jc, .int .i64 jf, .slice (some jg) j6.length jk] 32 (0,0)) (aG_ j8.out) hb);have jo:=am ((by rw [hg];exact Nat.ne_of_lt (gQ (g:=j5) (o:= .cells #[.int .i64 0, .int .i64 0, .slice none 0 0] 32 (0,0)) (aG_ jb.out)):j5≠j4));have jE:=am ((by rw [hg];exact Nat.ne_of_gt (gQ (g:=j5) (o:= .cells #[.int .i64 0, .int .i64 0, .slice none 0 0] 32 (0,0)) (aG_ jb.out)):j4≠j5));replace jb:=am (bY (g:=j5) (o:= .cells #[.int .i64 0, .int .i64 0, .slice none 0 0] 32 (0,0)) (aG_ jb.out) hb);have je:=am ((by rw [hg];exact Nat.ne_of_lt (gQ (g:=j3) (o:= .cells #[.int .i64 jJ, .int .i64 jH, .slice ji jd.length jj] 32 (0,0)) (aG_ j7.out)):j3≠j4));have jx:=am ((by rw [hg];exact Nat.ne_of_gt (gQ (g:=j3) (o:= .cells #[.int .i64 jJ, .int .i64 jH, .slice ji jd.length jj] 32 (0,0)) (aG_ j7.out)):j4≠j3));replace j7:=am (bY (g:=j3) (o:= .cells #[.int .i64 jJ, .int .i64 jH, .slice ji jd.length jj] 32 (0,0)) (aG_ j7.out) hb);clear hb hbox hg;have ZR:=jD.out;have ZS:=jn.out;have ZT:=jE.out;have ZU:=jo.out;have ZV:=jx.out;have ZW:=je.out;obtain ⟨qm,qn,qo,qp,qq,qr⟩:=fZ ja.out;obtain ⟨jr,js,ZC⟩:=Kd.dD jO.out;subst ZC))
   (try simp only [Act.put,List.setIfInBounds_toArray,List.set_cons_zero,List.set_cons_succ])
   go_cut [33] (fun YV wc=>∃ (kq:Nat) (jN:Bool),YV= .bool jN∧Aside0 (eP.j0 kq jN jc jf j6 jJ jH jd jM ju jh=some (r1,r2,r3))∧Aside0 (kq≤k)∧Aside0 (Kd.N k32 32 wc w.heap.size (fun k_=>(w.heap.size≤k_)∧some k_≠((.slice jr jh.length js):Value).ownBlock∧k_≠j9∧k_≠j5∧k_≠j3∧k_≠j4) (.slice ji jd.length jj) jd)∧Aside0 (Kd.N k32 32 wc w.heap.size (fun k_=>(w.heap.size≤k_)∧some k_≠((.slice ji jd.length jj):Value).ownBlock∧k_≠j9∧k_≠j5∧k_≠j3∧k_≠j4) (.slice jr jh.length js) jh)∧Aside0 (wc.heap[j9]?=some (.cells #[.int .i64 jc, .int .i64 jf,(.slice (some jg) j6.length jk)] 32 (0,0)))∧Aside0 (wc.heap[j5]?=some (.cells #[.int .i64 0, .int .i64 0,(.slice none 0 0)] 32 (0,0)))∧Aside0 (wc.heap[j3]?=some (.cells #[.int .i64 jJ, .int .i64 jH,(.slice ji jd.length jj)] 32 (0,0)))∧Aside0 (wc.heap[j4]?=some (.cells #[.int .i64 jM, .int .i64 ju,(.slice jr jh.length js)] 32 (0,0)))∧Aside0 (Below w.heap.size w wc))
   case first=>
    have H:=qx.out
    clear qx
    by_cases qC:jJ=0
    ·rw [if_pos qC] at H
     have jP:(jJ == 0)=true:=beq_iff_eq.mpr qC
     have z0:(jJ != 0)=false:=bne_eq_false_iff_eq.mpr qC
     clear qC
     (first|rw [jP]|(simp only [dS,dV];rw [jP])|skip)
     have H':=am H
     clear H
     have ZX:=jy.out
     have ZY:=jl.out
     have ZZ:=jz.out
     have Y0:=jm.out
     have Y1:=je.out
     have Y2:=jx.out
     obtain ⟨JM,JN,JO,JP,JQ,JR⟩:=fZ j7.out
     have Y3:=jD.out
     have Y4:=jn.out
     have Y5:=jE.out
     have Y6:=jo.out
     obtain ⟨JS,JT,JU,JV,JW,JX⟩:=fZ ja.out
     go_wp2
     go_meet
     case rel=>exact ⟨_,((jM == 0)),sd_,H',⟨by first|omega|exact Nat.le_refl _⟩,⟨eO (Kd.aD (Kd.aT (p:=⟨j4,2,none⟩) (Kd.aT (p:=⟨j4,1,none⟩) (Kd.aT (p:=⟨j4,0,none⟩) (Kd.aD jI.out (fun k_ hk=>(⟨hk,hk.2⟩:_∧k_≠j4))) (fun _ hk=>hk.2) (.int .i64 jM)) (fun _ hk=>hk.2) (.int .i64 ju)) (fun _ hk=>hk.2) (.slice jr jh.length js)) (fun _ hk=>⟨hk.1.1.1.1.1,⟨hk.1.1.2,⟨hk.1.1.1.1.2.1,⟨hk.1.1.1.1.2.2,⟨hk.1.1.1.2,hk.1.2⟩⟩⟩⟩⟩))⟩,⟨eO (Kd.aD (Kd.aT (p:=⟨j4,2,none⟩) (Kd.aT (p:=⟨j4,1,none⟩) (Kd.aT (p:=⟨j4,0,none⟩) (Kd.aD jO.out (fun k_ hk=>(⟨hk,hk.2⟩:_∧k_≠j4))) (fun _ hk=>hk.2) (.int .i64 jM)) (fun _ hk=>hk.2) (.int .i64 ju)) (fun _ hk=>hk.2) (.slice jr jh.length js)) (fun _ hk=>⟨hk.1.1.1,⟨hk.1.1.2.1,⟨hk.1.1.2.2.1,⟨hk.1.1.2.2.2.1,⟨hk.1.1.2.2.2.2,hk.1.2⟩⟩⟩⟩⟩))⟩,⟨(aZ (aZ (aZ j8.out jn.out _) jn.out _) jn.out _)⟩,⟨(aZ (aZ (aZ jb.out jo.out _) jo.out _) jo.out _)⟩,⟨(aZ (aZ (aZ j7.out je.out _) je.out _) je.out _)⟩,⟨(aM (aM (aM ja.out 0 _ rfl) 1 _ rfl) 2 _ rfl)⟩,⟨rJ⟩⟩
    rw [if_neg qC] at H
    have jP:(jJ == 0)=false:=beq_eq_false_iff_ne.mpr qC
    have z0:(jJ != 0)=true:=bne_iff_ne.mpr qC
    (first|rw [jP]|(simp only [dS,dV];rw [jP])|skip)
    have H':=am H
    clear H
    have Y7:=jy.out
    have Y8:=jl.out
    have Y9:=jz.out
    have Ya:=jm.out
    have Yb:=je.out
    have Yc:=jx.out
    obtain ⟨JY,JZ,Q0,Q1,Q2,Q3⟩:=fZ j7.out
    go_wp2
    go_meet
    case rel=>exact ⟨_,(false),sd_,H',⟨by first|omega|exact Nat.le_refl _⟩,⟨eO (Kd.aD (Kd.aT (p:=⟨j4,2,none⟩) (Kd.aT (p:=⟨j4,1,none⟩) (Kd.aT (p:=⟨j4,0,none⟩) (Kd.aD jI.out (fun k_ hk=>(⟨hk,hk.2⟩:_∧k_≠j4))) (fun _ hk=>hk.2) (.int .i64 jM)) (fun _ hk=>hk.2) (.int .i64 ju)) (fun _ hk=>hk.2) (.slice jr jh.length js)) (fun _ hk=>⟨hk.1.1.1.1.1,⟨hk.1.1.2,⟨hk.1.1.1.1.2.1,⟨hk.1.1.1.1.2.2,⟨hk.1.1.1.2,hk.1.2⟩⟩⟩⟩⟩))⟩,⟨eO (Kd.aD (Kd.aT (p:=⟨j4,2,none⟩) (Kd.aT (p:=⟨j4,1,none⟩) (Kd.aT (p:=⟨j4,0,none⟩) (Kd.aD jO.out (fun k_ hk=>(⟨hk,hk.2⟩:_∧k_≠j4))) (fun _ hk=>hk.2) (.int .i64 jM)) (fun _ hk=>hk.2) (.int .i64 ju)) (fun _ hk=>hk.2) (.slice jr jh.length js)) (fun _ hk=>⟨hk.1.1.1,⟨hk.1.1.2.1,⟨hk.1.1.2.2.1,⟨hk.1.1.2.2.2.1,⟨hk.1.1.2.2.2.2,hk.1.2⟩⟩⟩⟩⟩))⟩,⟨(aZ (aZ (aZ j8.out jn.out _) jn.out _) jn.out _)⟩,⟨(aZ (aZ (aZ jb.out jo.out _) jo.out _) jo.out _)⟩,⟨(aZ (aZ (aZ j7.out je.out _) je.out _) je.out _)⟩,⟨(aM (aM (aM ja.out 0 _ rfl) 1 _ rfl) 2 _ rfl)⟩,⟨rJ⟩⟩
   case rest=>
    clear qx
    try clear c2
    try clear qM
    try clear qN
    try clear Zy
    try clear qR
    try clear qS
    try clear qT
    try clear qV
    try clear qW
    try clear qX
    try clear jU
    try clear jV
    try clear jW
    try clear q4
    try clear q5
    try clear q6
    try clear qa
    try clear qb
    try clear qc
    try clear qm
    try clear qn
    try clear qo
    try clear jX
    try clear jY
    try clear jZ
    try clear q7
    try clear q8
    try clear q9
    try clear qd
    try clear qe
    try clear qf
    try clear qp
    try clear qq
    try clear qr
    try clear jA
    try clear jB
    try clear jC
    try clear jt
    try clear jv
    try clear jw
    try clear q0
    try clear qg
    try clear q1
    try clear qh
    obtain ⟨kq,jN,rfl,HA,HJ14,jp,jq,j8,jb,j7,ja,HB⟩:=hcut
    cases kq with
    |zero=>exact absurd HA.out (by simp [eP.j0])
    |succ z1=>
     have H:=HA.out
     clear HA
     simp only [eP.j0] at H
     by_cases Q4:jN=true
     ·subst Q4
      rw [if_pos rfl] at H
      obtain ⟨⟨jQ,z2⟩,z3,H⟩:=bsm H
      (try dsimp only at H)
      have Yd:=am z3
      clear z3
      obtain ⟨ZD,z4,H⟩:=bsm H
      (try dsimp only at H)
      have Ye:=am z4
      clear z4
      by_cases Q5:ZD=true
      ·subst Q5
       rw [if_pos rfl] at H
       obtain ⟨⟨qD,qE,qF⟩,z5,H⟩:=bsm H
       (try dsimp only at H)
       have YW:=am z5
       clear z5
       simp only [Option.some.injEq,Prod.mk.injEq] at H
       obtain ⟨rfl,rfl,rfl⟩:=H
       have Yf:=jF.out
       have Yg:=jG.out
       have Yh:=jl.out
       have Yi:=jy.out
       have Yj:=jn.out
       have Yk:=jD.out
       obtain ⟨Q6,Q7,Q8,Q9,Qa,Qb⟩:=fZ j8.out
       have Yl:=jz.out
       have Ym:=jm.out
       have Yn:=je.out
       have Yo:=jx.out
       obtain ⟨Qc,Qd,Qe,Qf,Qg,Qh⟩:=fZ j7.out
       have Yp:=jE.out
       have Yq:=jo.out
       obtain ⟨Qi,Qj,Qk,Ql,Qm,Qn⟩:=fZ ja.out
       go_wp2_with (first|((with_reducible refine aN (f:=112) rfl ?_);refine gl_ 41 Try.func112 #[.int .i64 jc, .int .i64 jH, .int .i64 ju] ?_;(with_reducible refine (fP.calls z1 jc jH ju jQ z2 _ Yd.out).mono ?_);rintro e w' ⟨rfl,⟨nd,rfl⟩⟩;refine ⟨_,rfl,?_⟩;(try (rw [oP wc];generalize hq_:World.drewN wc _=wc;replace jp:Aside0 (Kd.N k32 32 wc w.heap.size (fun k_=>(w.heap.size≤k_)∧some k_≠(.slice jr jh.length js:Value).ownBlock∧k_≠j9∧k_≠j5∧k_≠j3∧k_≠j4) (.slice ji jd.length jj) jd):=⟨by rw [← hq_];exact (aN_ jp.out)⟩;replace jq:Aside0 (Kd.N k32 32 wc w.heap.size (fun k_=>(w.heap.size≤k_)∧some k_≠(.slice ji jd.length jj:Value).ownBlock∧k_≠j9∧k_≠j5∧k_≠j3∧k_≠j4) (.slice jr jh.length js) jh):=⟨by rw [← hq_];exact (aN_ jq.out)⟩;replace j8:Aside0 (wc.heap[j9]?=some (.cells #[.int .i64 jc, .int .i64 jf, .slice (some jg) j6.length jk] 32 (0,0))):=⟨by rw [← hq_];exact (aG_ j8.out)⟩;replace jb:Aside0 (wc.heap[j5]?=some (.cells #[.int .i64 0, .int .i64 0, .slice none 0 0] 32 (0,0))):=⟨by rw [← hq_];exact (aG_ jb.out)⟩;replace j7:Aside0 (wc.heap[j3]?=some (.cells #[.int .i64 jJ, .int .i64 jH, .slice ji jd.length jj] 32 (0,0))):=⟨by rw [← hq_];exact (aG_ j7.out)⟩;replace ja:Aside0 (wc.heap[j4]?=some (.cells #[.int .i64 jM, .int .i64 ju, .slice jr jh.length js] 32 (0,0))):=⟨by rw [← hq_];exact (aG_ ja.out)⟩;replace HB:Aside0 (Below w.heap.size w wc):=⟨by rw [← hq_];exact rJ⟩;clear hq_;obtain ⟨z6,z7⟩:=mJ j8.out;have z8:wc.cell? ⟨j9,1,none⟩=some (.int .i64 jf):=(aA j8.out 1).trans rfl;have z9:=aU j8.out 1;have za:wc.cell? ⟨j9,2,none⟩=some (.slice (some jg) j6.length jk):=(aA j8.out 2).trans rfl;have zb:=aU j8.out 2;obtain ⟨zc,zd⟩:=mJ jb.out;have ze:wc.cell? ⟨j5,1,none⟩=some (.int .i64 0):=(aA jb.out 1).trans rfl;have zf:=aU jb.out 1;have zg:wc.cell? ⟨j5,2,none⟩=some (.slice none 0 0):=(aA jb.out 2).trans rfl;have zh:=aU jb.out 2;obtain ⟨zi,zj⟩:=mJ j7.out;have zk:wc.cell? ⟨j3,1,none⟩=some (.int .i64 jH):=(aA j7.out 1).trans rfl;have zl:=aU j7.out 1;have zm:wc.cell? ⟨j3,2,none⟩=some (.slice ji jd.length jj):=(aA j7.out 2).trans rfl;have zn:=aU j7.out 2;obtain ⟨zo,zp⟩:=mJ ja.out;have zq:wc.cell? ⟨j4,1,none⟩=some (.int .i64 ju):=(aA ja.out 1).trans rfl;have zr:=aU ja.out 1;have zs:wc.cell? ⟨j4,2,none⟩=some (.slice jr jh.length js):=(aA ja.out 2).trans rfl;have zt:=aU ja.out 2)))|((with_reducible refine aN (f:=88) rfl ?_);refine gl_ 45 Try.func88 #[.int .i64 jQ, .int .i64 0, .int .i64 99999] ?_;(with_reducible refine (fV.calls jQ 0 99999 true _ Ye.out).mono ?_);rintro e w' ⟨rfl,⟨nd,rfl⟩⟩;refine ⟨_,rfl,?_⟩;(try (rw [oP wc];generalize hq_:World.drewN wc _=wc;replace jp:Aside0 (Kd.N k32 32 wc w.heap.size (fun k_=>(w.heap.size≤k_)∧some k_≠(.slice jr jh.length js:Value).ownBlock∧k_≠j9∧k_≠j5∧k_≠j3∧k_≠j4) (.slice ji jd.length jj) jd):=⟨by rw [← hq_];exact (aN_ jp.out)⟩;replace jq:Aside0 (Kd.N k32 32 wc w.heap.size (fun k_=>(w.heap.size≤k_)∧some k_≠(.slice ji jd.length jj:Value).ownBlock∧k_≠j9∧k_≠j5∧k_≠j3∧k_≠j4) (.slice jr jh.length js) jh):=⟨by rw [← hq_];exact (aN_ jq.out)⟩;replace j8:Aside0 (wc.heap[j9]?=some (.cells #[.int .i64 jc, .int .i64 jf, .slice (some jg) j6.length jk] 32 (0,0))):=⟨by rw [← hq_];exact (aG_ j8.out)⟩;replace jb:Aside0 (wc.heap[j5]?=some (.cells #[.int .i64 0, .int .i64 0, .slice none 0 0] 32 (0,0))):=⟨by rw [← hq_];exact (aG_ jb.out)⟩;replace j7:Aside0 (wc.heap[j3]?=some (.cells #[.int .i64 jJ, .int .i64 jH, .slice ji jd.length jj] 32 (0,0))):=⟨by rw [← hq_];exact (aG_ j7.out)⟩;replace ja:Aside0 (wc.heap[j4]?=some (.cells #[.int .i64 jM, .int .i64 ju, .slice jr jh.length js] 32 (0,0))):=⟨by rw [← hq_];exact (aG_ ja.out)⟩;replace HB:Aside0 (Below w.heap.size w wc):=⟨by rw [← hq_];exact rJ⟩;clear hq_;obtain ⟨zu,zv⟩:=mJ j8.out;have zw:wc.cell? ⟨j9,1,none⟩=some (.int .i64 jf):=(aA j8.out 1).trans rfl;have zx:=aU j8.out 1;have zy:wc.cell? ⟨j9,2,none⟩=some (.slice (some jg) j6.length jk):=(aA j8.out 2).trans rfl;have zz:=aU j8.out 2;obtain ⟨zA,zB⟩:=mJ jb.out;have zC:wc.cell? ⟨j5,1,none⟩=some (.int .i64 0):=(aA jb.out 1).trans rfl;have zD:=aU jb.out 1;have zE:wc.cell? ⟨j5,2,none⟩=some (.slice none 0 0):=(aA jb.out 2).trans rfl;have zF:=aU jb.out 2;obtain ⟨zG,zH⟩:=mJ j7.out;have zI:wc.cell? ⟨j3,1,none⟩=some (.int .i64 jH):=(aA j7.out 1).trans rfl;have zJ:=aU j7.out 1;have zK:wc.cell? ⟨j3,2,none⟩=some (.slice ji jd.length jj):=(aA j7.out 2).trans rfl;have zL:=aU j7.out 2;obtain ⟨zM,zN⟩:=mJ ja.out;have zO:wc.cell? ⟨j4,1,none⟩=some (.int .i64 ju):=(aA ja.out 1).trans rfl;have zP:=aU ja.out 1;have zQ:wc.cell? ⟨j4,2,none⟩=some (.slice jr jh.length js):=(aA ja.out 2).trans rfl;have zR:=aU ja.out 2)))|((with_reducible refine aN (f:=45) rfl ?_);refine gl_ 47 Try.func45 #[.int .i64 0, .int .i64 jQ] ?_;(with_reducible refine (fF.calls 0 jQ qD qE qF _ YW.out).mono ?_);rintro e U9 ⟨YX,rfl,ho0,hb⟩;refine ⟨_,rfl,?_⟩;have qt:=am (Kd.dH (Kd.aD (ok':=fun k_=>(w.heap.size≤k_)∧some k_≠(.slice ji jd.length jj:Value).ownBlock∧some k_≠(.slice jr jh.length js:Value).ownBlock∧k_≠j9∧k_≠j5∧k_≠j3∧k_≠j4) (Kd.R_N (Kd.mK ho0)) (fun k_ hk_=>⟨(Nat.le_trans (aJ rJ) hk_.2.1),(Kd.fresh' (Kd.iH (aN_ jp.out)) k_ hk_.2.1),(Kd.fresh' (Kd.iH (aN_ jq.out)) k_ hk_.2.1),(Kd.lF (g:=j9) (o:= .cells #[.int .i64 jc, .int .i64 jf, .slice (some jg) j6.length jk] 32 (0,0)) (aG_ j8.out) k_ hk_.2.1),(Kd.lF (g:=j5) (o:= .cells #[.int .i64 0, .int .i64 0, .slice none 0 0] 32 (0,0)) (aG_ jb.out) k_ hk_.2.1),(Kd.lF (g:=j3) (o:= .cells #[.int .i64 jJ, .int .i64 jH, .slice ji jd.length jj] 32 (0,0)) (aG_ j7.out) k_ hk_.2.1),(Kd.lF (g:=j4) (o:= .cells #[.int .i64 jM, .int .i64 ju, .slice jr jh.length js] 32 (0,0)) (aG_ ja.out) k_ hk_.2.1)⟩)) (aJ rJ));replace jp:=am (Kd.fM (aN_ jp.out) (by first|exact Kd.dL ho0|exact Kd.dL (Kd.R_N ho0)) hb);replace jq:=am (Kd.fM (aN_ jq.out) (by first|exact Kd.dL ho0|exact Kd.dL (Kd.R_N ho0)) hb);replace j8:=am (bY (g:=j9) (o:= .cells #[.int .i64 jc, .int .i64 jf, .slice (some jg) j6.length jk] 32 (0,0)) (aG_ j8.out) hb);replace jb:=am (bY (g:=j5) (o:= .cells #[.int .i64 0, .int .i64 0, .slice none 0 0] 32 (0,0)) (aG_ jb.out) hb);replace j7:=am (bY (g:=j3) (o:= .cells #[.int .i64 jJ, .int .i64 jH, .slice ji jd.length jj] 32 (0,0)) (aG_ j7.out) hb);replace ja:=am (bY (g:=j4) (o:= .cells #[.int .i64 jM, .int .i64 ju, .slice jr jh.length js] 32 (0,0)) (aG_ ja.out) hb);replace HB:=am (aG rJ hb);(try clear hb);(try clear ho0);obtain ⟨Qo,Qp,Qq,Qr,Qs,Qt⟩:=fZ jb.out;obtain ⟨zS,zT,ZE⟩:=Kd.dD qt.out;subst ZE))
       refine bodyPost_ret (results_cell_row rfl _ _ j5 32 #[.int .i64 qD, .int .i64 qE, .slice zS qF.length zT] (0,0) _ rfl (aM (aM (aM jb.out 0 _ rfl) 1 _ rfl) 2 _ rfl) Try.underlying32 rfl (by kernel_rfl)) rfl ?_
       exact ⟨_,iM,eO (Kd.aD (Kd.aT (p:=⟨j5,2,none⟩) (Kd.aT (p:=⟨j5,1,none⟩) (Kd.aT (p:=⟨j5,0,none⟩) (Kd.aD qt.out (fun k_ hk=>(⟨hk,hk.2.2.2.2.1⟩:_∧k_≠j5))) (fun _ hk=>hk.2) (.int .i64 qD)) (fun _ hk=>hk.2) (.int .i64 qE)) (fun _ hk=>hk.2) (.slice zS qF.length zT)) (fun _ hk=>hk.1.1)),rJ⟩
      replace Q5:=Bool.eq_false_iff.mpr Q5
      subst Q5
      rw [if_neg (show ¬ (false=true) by decide)] at H
      obtain ⟨⟨qG,qH,qI⟩,zU,H⟩:=bsm H
      (try dsimp only at H)
      have YY:=am zU
      clear zU
      simp only [Option.some.injEq,Prod.mk.injEq] at H
      obtain ⟨rfl,rfl,rfl⟩:=H
      have Yr:=jF.out
      have Ys:=jG.out
      have Yt:=jl.out
      have Yu:=jy.out
      have Yv:=jn.out
      have Yw:=jD.out
      obtain ⟨Qu,Qv,Qw,Qx,Qy,Qz⟩:=fZ j8.out
      have Yx:=jz.out
      have Yy:=jm.out
      have Yz:=je.out
      have YA:=jx.out
      obtain ⟨QA,QB,QC,QD,QE,QF⟩:=fZ j7.out
      have YB:=jE.out
      have YC:=jo.out
      obtain ⟨QG,QH,QI,QJ,QK,QL⟩:=fZ ja.out
      go_wp2_with (first|((with_reducible refine aN (f:=112) rfl ?_);refine gl_ 41 Try.func112 #[.int .i64 jc, .int .i64 jH, .int .i64 ju] ?_;(with_reducible refine (fP.calls z1 jc jH ju jQ z2 _ Yd.out).mono ?_);rintro e w' ⟨rfl,⟨nd,rfl⟩⟩;refine ⟨_,rfl,?_⟩;(try (rw [oP wc];generalize hq_:World.drewN wc _=wc;replace jp:Aside0 (Kd.N k32 32 wc w.heap.size (fun k_=>(w.heap.size≤k_)∧some k_≠(.slice jr jh.length js:Value).ownBlock∧k_≠j9∧k_≠j5∧k_≠j3∧k_≠j4) (.slice ji jd.length jj) jd):=⟨by rw [← hq_];exact (aN_ jp.out)⟩;replace jq:Aside0 (Kd.N k32 32 wc w.heap.size (fun k_=>(w.heap.size≤k_)∧some k_≠(.slice ji jd.length jj:Value).ownBlock∧k_≠j9∧k_≠j5∧k_≠j3∧k_≠j4) (.slice jr jh.length js) jh):=⟨by rw [← hq_];exact (aN_ jq.out)⟩;replace j8:Aside0 (wc.heap[j9]?=some (.cells #[.int .i64 jc, .int .i64 jf, .slice (some jg) j6.length jk] 32 (0,0))):=⟨by rw [← hq_];exact (aG_ j8.out)⟩;replace jb:Aside0 (wc.heap[j5]?=some (.cells #[.int .i64 0, .int .i64 0, .slice none 0 0] 32 (0,0))):=⟨by rw [← hq_];exact (aG_ jb.out)⟩;replace j7:Aside0 (wc.heap[j3]?=some (.cells #[.int .i64 jJ, .int .i64 jH, .slice ji jd.length jj] 32 (0,0))):=⟨by rw [← hq_];exact (aG_ j7.out)⟩;replace ja:Aside0 (wc.heap[j4]?=some (.cells #[.int .i64 jM, .int .i64 ju, .slice jr jh.length js] 32 (0,0))):=⟨by rw [← hq_];exact (aG_ ja.out)⟩;replace HB:Aside0 (Below w.heap.size w wc):=⟨by rw [← hq_];exact rJ⟩;clear hq_;obtain ⟨zV,zW⟩:=mJ j8.out;have zX:wc.cell? ⟨j9,1,none⟩=some (.int .i64 jf):=(aA j8.out 1).trans rfl;have zY:=aU j8.out 1;have zZ:wc.cell? ⟨j9,2,none⟩=some (.slice (some jg) j6.length jk):=(aA j8.out 2).trans rfl;have J0:=aU j8.out 2;obtain ⟨J1,J2⟩:=mJ jb.out;have J3:wc.cell? ⟨j5,1,none⟩=some (.int .i64 0):=(aA jb.out 1).trans rfl;have J4:=aU jb.out 1;have J5:wc.cell? ⟨j5,2,none⟩=some (.slice none 0 0):=(aA jb.out 2).trans rfl;have J6:=aU jb.out 2;obtain ⟨J7,J8⟩:=mJ j7.out;have J9:wc.cell? ⟨j3,1,none⟩=some (.int .i64 jH):=(aA j7.out 1).trans rfl;have Ja:=aU j7.out 1;have Jb:wc.cell? ⟨j3,2,none⟩=some (.slice ji jd.length jj):=(aA j7.out 2).trans rfl;have Jc:=aU j7.out 2;obtain ⟨Jd,Je⟩:=mJ ja.out;have Jf:wc.cell? ⟨j4,1,none⟩=some (.int .i64 ju):=(aA ja.out 1).trans rfl;have Jg:=aU ja.out 1;have Jh:wc.cell? ⟨j4,2,none⟩=some (.slice jr jh.length js):=(aA ja.out 2).trans rfl;have Ji:=aU ja.out 2)))|((with_reducible refine aN (f:=88) rfl ?_);refine gl_ 45 Try.func88 #[.int .i64 jQ, .int .i64 0, .int .i64 99999] ?_;(with_reducible refine (fV.calls jQ 0 99999 false _ Ye.out).mono ?_);rintro e w' ⟨rfl,⟨nd,rfl⟩⟩;refine ⟨_,rfl,?_⟩;(try (rw [oP wc];generalize hq_:World.drewN wc _=wc;replace jp:Aside0 (Kd.N k32 32 wc w.heap.size (fun k_=>(w.heap.size≤k_)∧some k_≠(.slice jr jh.length js:Value).ownBlock∧k_≠j9∧k_≠j5∧k_≠j3∧k_≠j4) (.slice ji jd.length jj) jd):=⟨by rw [← hq_];exact (aN_ jp.out)⟩;replace jq:Aside0 (Kd.N k32 32 wc w.heap.size (fun k_=>(w.heap.size≤k_)∧some k_≠(.slice ji jd.length jj:Value).ownBlock∧k_≠j9∧k_≠j5∧k_≠j3∧k_≠j4) (.slice jr jh.length js) jh):=⟨by rw [← hq_];exact (aN_ jq.out)⟩;replace j8:Aside0 (wc.heap[j9]?=some (.cells #[.int .i64 jc, .int .i64 jf, .slice (some jg) j6.length jk] 32 (0,0))):=⟨by rw [← hq_];exact (aG_ j8.out)⟩;replace jb:Aside0 (wc.heap[j5]?=some (.cells #[.int .i64 0, .int .i64 0, .slice none 0 0] 32 (0,0))):=⟨by rw [← hq_];exact (aG_ jb.out)⟩;replace j7:Aside0 (wc.heap[j3]?=some (.cells #[.int .i64 jJ, .int .i64 jH, .slice ji jd.length jj] 32 (0,0))):=⟨by rw [← hq_];exact (aG_ j7.out)⟩;replace ja:Aside0 (wc.heap[j4]?=some (.cells #[.int .i64 jM, .int .i64 ju, .slice jr jh.length js] 32 (0,0))):=⟨by rw [← hq_];exact (aG_ ja.out)⟩;replace HB:Aside0 (Below w.heap.size w wc):=⟨by rw [← hq_];exact rJ⟩;clear hq_;obtain ⟨Jj,Jk⟩:=mJ j8.out;have Jl:wc.cell? ⟨j9,1,none⟩=some (.int .i64 jf):=(aA j8.out 1).trans rfl;have Jm:=aU j8.out 1;have Jn:wc.cell? ⟨j9,2,none⟩=some (.slice (some jg) j6.length jk):=(aA j8.out 2).trans rfl;have Jo:=aU j8.out 2;obtain ⟨Jp,Jq⟩:=mJ jb.out;have Jr:wc.cell? ⟨j5,1,none⟩=some (.int .i64 0):=(aA jb.out 1).trans rfl;have Js:=aU jb.out 1;have Jt:wc.cell? ⟨j5,2,none⟩=some (.slice none 0 0):=(aA jb.out 2).trans rfl;have Ju:=aU jb.out 2;obtain ⟨Jv,Jw⟩:=mJ j7.out;have Jx:wc.cell? ⟨j3,1,none⟩=some (.int .i64 jH):=(aA j7.out 1).trans rfl;have Jy:=aU j7.out 1;have Jz:wc.cell? ⟨j3,2,none⟩=some (.slice ji jd.length jj):=(aA j7.out 2).trans rfl;have JA:=aU j7.out 2;obtain ⟨JB,JC⟩:=mJ ja.out;have JD:wc.cell? ⟨j4,1,none⟩=some (.int .i64 ju):=(aA ja.out 1).trans rfl;have JE:=aU ja.out 1;have JF:wc.cell? ⟨j4,2,none⟩=some (.slice jr jh.length js):=(aA ja.out 2).trans rfl;have JG:=aU ja.out 2)))|((with_reducible refine aN (f:=43) rfl ?_);refine gl_ 52 Try.func43 #[.int .i64 jc, .agg #[.int .i64 jJ, .int .i64 jH, .slice ji jd.length jj], .agg #[.int .i64 jM, .int .i64 ju, .slice jr jh.length js]] ?_;(with_reducible refine (kD.calls jc jJ jH (fun k_=>((w.heap.size≤k_)∧(some k_≠(.slice jr jh.length js:Value).ownBlock∧(k_≠j9∧(k_≠j5∧(k_≠j3∧k_≠j4)))))) _ _ jd jM ju (fun k_=>((w.heap.size≤k_)∧(some k_≠(.slice ji jd.length jj:Value).ownBlock∧(k_≠j9∧(k_≠j5∧(k_≠j3∧k_≠j4)))))) _ _ jh qG qH qI _ ?side1 ?side2 YY.out).mono ?_);(case side1=>exact Kd.N_V (jp.out));(case side2=>exact Kd.N_V (jq.out));rintro e Ua ⟨YZ,rfl,ho0,hb⟩;refine ⟨_,rfl,?_⟩;replace jp:=am (Kd.fM (aN_ jp.out) (by first|exact Kd.dL ho0|exact Kd.dL (Kd.R_N ho0)) hb);replace jq:=am (Kd.fM (aN_ jq.out) (by first|exact Kd.dL ho0|exact Kd.dL (Kd.R_N ho0)) hb);have qu:=am (Kd.dH (Kd.aD (ok':=fun k_=>(w.heap.size≤k_)∧k_≠j9∧k_≠j5∧k_≠j3∧k_≠j4) ho0 (fun k_ hk_=>⟨Or.elim hk_ (fun hs_=>Or.elim hs_ (fun hs_=>hs_.1) (fun hs_=>hs_.1)) (fun hn_=>(Nat.le_trans (aJ rJ) hn_)),Or.elim hk_ (fun hs_=>Or.elim hs_ (fun hs_=>hs_.2.2.1) (fun hs_=>hs_.2.2.1)) (fun hn_=>(Kd.lF (g:=j9) (o:= .cells #[.int .i64 jc, .int .i64 jf, .slice (some jg) j6.length jk] 32 (0,0)) (aG_ j8.out) k_ hn_)),Or.elim hk_ (fun hs_=>Or.elim hs_ (fun hs_=>hs_.2.2.2.1) (fun hs_=>hs_.2.2.2.1)) (fun hn_=>(Kd.lF (g:=j5) (o:= .cells #[.int .i64 0, .int .i64 0, .slice none 0 0] 32 (0,0)) (aG_ jb.out) k_ hn_)),Or.elim hk_ (fun hs_=>Or.elim hs_ (fun hs_=>hs_.2.2.2.2.1) (fun hs_=>hs_.2.2.2.2.1)) (fun hn_=>(Kd.lF (g:=j3) (o:= .cells #[.int .i64 jJ, .int .i64 jH, .slice ji jd.length jj] 32 (0,0)) (aG_ j7.out) k_ hn_)),Or.elim hk_ (fun hs_=>Or.elim hs_ (fun hs_=>hs_.2.2.2.2.2) (fun hs_=>hs_.2.2.2.2.2)) (fun hn_=>(Kd.lF (g:=j4) (o:= .cells #[.int .i64 jM, .int .i64 ju, .slice jr jh.length js] 32 (0,0)) (aG_ ja.out) k_ hn_))⟩)) (aJ rJ));replace j8:=am (bY (g:=j9) (o:= .cells #[.int .i64 jc, .int .i64 jf, .slice (some jg) j6.length jk] 32 (0,0)) (aG_ j8.out) hb);replace jb:=am (bY (g:=j5) (o:= .cells #[.int .i64 0, .int .i64 0, .slice none 0 0] 32 (0,0)) (aG_ jb.out) hb);replace j7:=am (bY (g:=j3) (o:= .cells #[.int .i64 jJ, .int .i64 jH, .slice ji jd.length jj] 32 (0,0)) (aG_ j7.out) hb);replace ja:=am (bY (g:=j4) (o:= .cells #[.int .i64 jM, .int .i64 ju, .slice jr jh.length js] 32 (0,0)) (aG_ ja.out) hb);replace HB:=am (aG rJ hb);(try clear hb);(try clear ho0);obtain ⟨QM,QN,QO,QP,QQ,QR⟩:=fZ jb.out;obtain ⟨JH,JI,ZF⟩:=Kd.dD qu.out;subst ZF))
      refine bodyPost_ret (results_cell_row rfl _ _ j5 32 #[.int .i64 qG, .int .i64 qH, .slice JH qI.length JI] (0,0) _ rfl (aM (aM (aM jb.out 0 _ rfl) 1 _ rfl) 2 _ rfl) Try.underlying32 rfl (by kernel_rfl)) rfl ?_
      exact ⟨_,iM,eO (Kd.aD (Kd.aT (p:=⟨j5,2,none⟩) (Kd.aT (p:=⟨j5,1,none⟩) (Kd.aT (p:=⟨j5,0,none⟩) (Kd.aD qu.out (fun k_ hk=>(⟨hk,hk.2.2.1⟩:_∧k_≠j5))) (fun _ hk=>hk.2) (.int .i64 qG)) (fun _ hk=>hk.2) (.int .i64 qH)) (fun _ hk=>hk.2) (.slice JH qI.length JI)) (fun _ hk=>hk.1.1)),rJ⟩
     replace Q4:=Bool.eq_false_iff.mpr Q4
     subst Q4
     rw [if_neg (show ¬ (false=true) by decide)] at H
     obtain ⟨⟨qJ,qK,qL⟩,JJ,H⟩:=bsm H
     (try dsimp only at H)
     have U0:=am JJ
     clear JJ
     simp only [Option.some.injEq,Prod.mk.injEq] at H
     obtain ⟨rfl,rfl,rfl⟩:=H
     have YD:=jF.out
     have YE:=jG.out
     have YF:=jl.out
     have YG:=jy.out
     have YH:=jn.out
     have YI:=jD.out
     obtain ⟨QS,QT,QU,QV,QW,QX⟩:=fZ j8.out
     have YJ:=jz.out
     have YK:=jm.out
     have YL:=je.out
     have YM:=jx.out
     obtain ⟨QY,QZ,Z0,Z1,Z2,Z3⟩:=fZ j7.out
     have YN:=jE.out
     have YO:=jo.out
     obtain ⟨Z4,Z5,Z6,Z7,Z8,Z9⟩:=fZ ja.out
     go_wp2_with (first|((with_reducible refine aN (f:=43) rfl ?_);refine gl_ 52 Try.func43 #[.int .i64 jc, .agg #[.int .i64 jJ, .int .i64 jH, .slice ji jd.length jj], .agg #[.int .i64 jM, .int .i64 ju, .slice jr jh.length js]] ?_;(with_reducible refine (kD.calls jc jJ jH (fun k_=>((w.heap.size≤k_)∧(some k_≠(.slice jr jh.length js:Value).ownBlock∧(k_≠j9∧(k_≠j5∧(k_≠j3∧k_≠j4)))))) _ _ jd jM ju (fun k_=>((w.heap.size≤k_)∧(some k_≠(.slice ji jd.length jj:Value).ownBlock∧(k_≠j9∧(k_≠j5∧(k_≠j3∧k_≠j4)))))) _ _ jh qJ qK qL _ ?side1 ?side2 U0.out).mono ?_);(case side1=>exact Kd.N_V (jp.out));(case side2=>exact Kd.N_V (jq.out));rintro e Ub ⟨U1,rfl,ho0,hb⟩;refine ⟨_,rfl,?_⟩;replace jp:=am (Kd.fM (aN_ jp.out) (by first|exact Kd.dL ho0|exact Kd.dL (Kd.R_N ho0)) hb);replace jq:=am (Kd.fM (aN_ jq.out) (by first|exact Kd.dL ho0|exact Kd.dL (Kd.R_N ho0)) hb);have qv:=am (Kd.dH (Kd.aD (ok':=fun k_=>(w.heap.size≤k_)∧k_≠j9∧k_≠j5∧k_≠j3∧k_≠j4) ho0 (fun k_ hk_=>⟨Or.elim hk_ (fun hs_=>Or.elim hs_ (fun hs_=>hs_.1) (fun hs_=>hs_.1)) (fun hn_=>(Nat.le_trans (aJ rJ) hn_)),Or.elim hk_ (fun hs_=>Or.elim hs_ (fun hs_=>hs_.2.2.1) (fun hs_=>hs_.2.2.1)) (fun hn_=>(Kd.lF (g:=j9) (o:= .cells #[.int .i64 jc, .int .i64 jf, .slice (some jg) j6.length jk] 32 (0,0)) (aG_ j8.out) k_ hn_)),Or.elim hk_ (fun hs_=>Or.elim hs_ (fun hs_=>hs_.2.2.2.1) (fun hs_=>hs_.2.2.2.1)) (fun hn_=>(Kd.lF (g:=j5) (o:= .cells #[.int .i64 0, .int .i64 0, .slice none 0 0] 32 (0,0)) (aG_ jb.out) k_ hn_)),Or.elim hk_ (fun hs_=>Or.elim hs_ (fun hs_=>hs_.2.2.2.2.1) (fun hs_=>hs_.2.2.2.2.1)) (fun hn_=>(Kd.lF (g:=j3) (o:= .cells #[.int .i64 jJ, .int .i64 jH, .slice ji jd.length jj] 32 (0,0)) (aG_ j7.out) k_ hn_)),Or.elim hk_ (fun hs_=>Or.elim hs_ (fun hs_=>hs_.2.2.2.2.2) (fun hs_=>hs_.2.2.2.2.2)) (fun hn_=>(Kd.lF (g:=j4) (o:= .cells #[.int .i64 jM, .int .i64 ju, .slice jr jh.length js] 32 (0,0)) (aG_ ja.out) k_ hn_))⟩)) (aJ rJ));replace j8:=am (bY (g:=j9) (o:= .cells #[.int .i64 jc, .int .i64 jf, .slice (some jg) j6.length jk] 32 (0,0)) (aG_ j8.out) hb);replace jb:=am (bY (g:=j5) (o:= .cells #[.int .i64 0, .int .i64 0, .slice none 0 0] 32 (0,0)) (aG_ jb.out) hb);replace j7:=am (bY (g:=j3) (o:= .cells #[.int .i64 jJ, .int .i64 jH, .slice ji jd.length jj] 32 (0,0)) (aG_ j7.out) hb);replace ja:=am (bY (g:=j4) (o:= .cells #[.int .i64 jM, .int .i64 ju, .slice jr jh.length js] 32 (0,0)) (aG_ ja.out) hb);replace HB:=am (aG rJ hb);(try clear hb);(try clear ho0);obtain ⟨Za,Zb,Zc,Zd,Ze,Zf⟩:=fZ jb.out;obtain ⟨JK,JL,ZG⟩:=Kd.dD qv.out;subst ZG))
     refine bodyPost_ret (results_cell_row rfl _ _ j5 32 #[.int .i64 qJ, .int .i64 qK, .slice JK qL.length JL] (0,0) _ rfl (aM (aM (aM jb.out 0 _ rfl) 1 _ rfl) 2 _ rfl) Try.underlying32 rfl (by kernel_rfl)) rfl ?_
     exact ⟨_,iM,eO (Kd.aD (Kd.aT (p:=⟨j5,2,none⟩) (Kd.aT (p:=⟨j5,1,none⟩) (Kd.aT (p:=⟨j5,0,none⟩) (Kd.aD qv.out (fun k_ hk=>(⟨hk,hk.2.2.1⟩:_∧k_≠j5))) (fun _ hk=>hk.2) (.int .i64 qJ)) (fun _ hk=>hk.2) (.int .i64 qK)) (fun _ hk=>hk.2) (.slice JK qL.length JL)) (fun _ hk=>hk.1.1)),rJ⟩
  rw [if_neg qV] at H
  exact absurd H (by simp)
 rw [if_neg qR] at H
 exact absurd H (by simp)
theorem bM.mono_all:∀ k,(∀ a b c,LeO (bM.l0 k a b c) (bM.l0 (k + 1) a b c))∧(∀ a,LeO (bM.f k a) (bM.f (k + 1) a))∧(∀ s,LeO (gJ.f k s) (gJ.f (k + 1) s))
 |0=>⟨fun _ _ _ r h=>by simp [bM.l0] at h,fun _ r h=>by simp [bM.f] at h,fun _ r h=>by simp [gJ.f] at h⟩
 |k + 1=>by
  obtain ⟨i0,i1,i2⟩:=bM.mono_all k
  refine ⟨fun a b c=>?_,fun a=>?_,fun s=>?_⟩
  ·unfold bM.l0
   refine LeO.ite (LeO.ite (LeO.bind (i2 _) (fun _=>LeO.ite (i0 _ _ _) (LeO.none _))) (LeO.none _)) (LeO.refl _)
  ·unfold bM.f
   exact i0 _ _ _
  ·unfold gJ.f
   exact LeO.bind (eP.mono _ _ _ _) (fun _=>LeO.bind (i1 _) (fun _=>LeO.bind (i1 _) (fun _=>LeO.refl _)))
theorem bM.mono:∀ a k,LeO (bM.f k a) (bM.f (k + 1) a):=fun a k=>(bM.mono_all k).2.1 a
abbrev bM.fK (k:Nat):Prop:=∀ (A0:Option Addr) (c0:Nat) (l0:List S35) (r:List S35) (w:World) (hr0:Kd.C k35 w A0 l0.length l0) (hc0:l0.length≤c0) (h:bM.f k l0=some r),
  Calls Try.prog 48 #[.slice A0 l0.length c0] w fun e w'=>∃ v0_:Value,e= .returned v0_∧Kd.N k35 35 w' w.heap.size (fun k_=>(w.heap.size≤k_)) v0_ r∧Below w.heap.size w w'
abbrev gJ.fK (k:Nat):Prop:=∀ (x:S35) (A5:Option Addr) (c5:Nat) (A6:Option Addr) (c6:Nat) (A7:Option Addr) (c7:Nat) (r:List S35) (w:World) (h5:Kd.C k32 w A5 x.f3.f2.length x.f3.f2) (l5:x.f3.f2.length≤c5) (h6:Kd.C k35 w A6 x.f4.length x.f4) (l6:x.f4.length≤c6) (h7:Kd.C k35 w A7 x.f5.length x.f5) (l7:x.f5.length≤c7) (h:gJ.f k x=some r),
  Calls Try.prog 81 #[.agg #[.int .i64 x.f0, .int .i64 x.f1, .int .i64 x.f2, .int .i64 x.f3.f0, .int .i64 x.f3.f1, .slice A5 x.f3.f2.length c5, .slice A6 x.f4.length c6, .slice A7 x.f5.length c7]] w fun e w'=>∃ v0_:Value,e= .returned v0_∧Kd.N k35 35 w' w.heap.size (fun k_=>(w.heap.size≤k_)) v0_ r∧Below w.heap.size w w'
theorem gJ.step (k:Nat) (ihA:∀ m,m < k→bM.fK m):gJ.fK k:=by
  intro x A5 c5 A6 c6 A7 c7 r w h5 q5 h6 q6 h7 q7 h
  cases k with
  |zero=>exact absurd h (by simp [gJ.f])
  |succ k=>
  simp only [gJ.f] at h
  replace h:=Option.bind_eq_some_iff.mp h
  obtain ⟨⟨op,n,la⟩,he,h⟩:=h
  replace h:=Option.bind_eq_some_iff.mp h
  obtain ⟨lb,hb6,h⟩:=h
  replace h:=Option.bind_eq_some_iff.mp h
  obtain ⟨le,hb7,h⟩:=h
  obtain rfl:=Option.some.inj h
  have H5:=am h5
  have H6:=am h6
  have H7:=am h7
  have L5:=am q5
  have L6:=am q6
  have L7:=am q7
  have HE:=am he
  have j3:=am hb6
  have j4:=am hb7
  clear h h5 h6 h7 q5 q6 q7 he hb6 hb7
  go_enter Try.func81,Try.ntmps81
  go_upto_region 1 with (first|((with_reducible refine bQ (N:=1) rfl ?_);refine dJ (N:=1) rfl rfl (cs:=#[(.int .i64 x.f0),(.int .i64 x.f1),(.int .i64 x.f2),(.int .i64 x.f3.f0),(.int .i64 x.f3.f1),(.slice A5 x.f3.f2.length c5),(.slice A6 x.f4.length c6),(.slice A7 x.f5.length c7)]) (t:=35) rn_ ?_;intro gb hg w1 hbox hb;have GE:=am (hg:_=_);have X:=am hbox;have BW:=am hb;clear hbox hb hg)|fail)
  have GW:Aside0 (w.heap.size≤gb):=⟨Nat.le_of_eq GE.out.symm⟩
  have GL:=am (gQ X.out)
  have p3:w1.cell? ⟨gb,3,none⟩=some (.int .i64 x.f3.f0):=aA X.out 3
  have p4:w1.cell? ⟨gb,4,none⟩=some (.int .i64 x.f3.f1):=aA X.out 4
  have p5:w1.cell? ⟨gb,5,none⟩=some (.slice A5 x.f3.f2.length c5):=aA X.out 5
  go_upto_region 2 with (first|((with_reducible refine aN (f:=96) rfl ?_);refine sN (some 6) rfl rfl Try.func96 (by kernel_rfl) rfl #[.agg #[(.int .i64 x.f3.f0),(.int .i64 x.f3.f1),(.slice A5 x.f3.f2.length c5)]] rfl (by (try simp only [List.map_toArray,List.map_cons,List.map_nil]);first|done|rfl) ?_;(with_reducible refine (eP.calls k _ _ A5 c5 _ op n la _ (Kd.aV H5.out BW.out) L5.out HE.out).mono ?_);rintro e w2 ⟨v5,rfl,hn,hb⟩;refine ⟨_,rfl,?_⟩;obtain ⟨B5,d5,rfl⟩:=Kd.dD hn;have N5:=am (Kd.aD (ok':=fun q=>w.heap.size≤q∧q≠gb) (Kd.dH hn BW.out.size) (fun q hq=>⟨Nat.le_trans BW.out.size hq,fun e=>by have:=GL.out;omega⟩));have X2:=am (bY X.out hb);have B2:=am (aG BW.out hb);clear hn hb p3 p4 p5 X BW;have p3:w2.cell? ⟨gb,3,none⟩=some (.int .i64 x.f3.f0):=aA X2.out 3;have p4:w2.cell? ⟨gb,4,none⟩=some (.int .i64 x.f3.f1):=aA X2.out 4;have p5:w2.cell? ⟨gb,5,none⟩=some (.slice A5 x.f3.f2.length c5):=aA X2.out 5;have f3:=aU X2.out 3;have f4:=aU X2.out 4;have f5:=aU X2.out 5)|fail)
  have X:=am (aM (cs':=#[(.int .i64 x.f0),(.int .i64 x.f1),(.int .i64 x.f2),(.int .i64 op),(.int .i64 n),(.slice B5 la.length d5),(.slice A6 x.f4.length c6),(.slice A7 x.f5.length c7)]) (aM (cs':=#[(.int .i64 x.f0),(.int .i64 x.f1),(.int .i64 x.f2),(.int .i64 op),(.int .i64 n),(.slice A5 x.f3.f2.length c5),(.slice A6 x.f4.length c6),(.slice A7 x.f5.length c7)]) (aM (cs':=#[(.int .i64 x.f0),(.int .i64 x.f1),(.int .i64 x.f2),(.int .i64 op),(.int .i64 x.f3.f1),(.slice A5 x.f3.f2.length c5),(.slice A6 x.f4.length c6),(.slice A7 x.f5.length c7)]) X2.out 3 (.int .i64 op) rfl) 4 (.int .i64 n) rfl) 5 (.slice B5 la.length d5) rfl)
  have BW:=am (below_set (j:=5) (v:=(.slice B5 la.length d5)) (below_set (j:=4) (v:=(.int .i64 n)) (below_set (j:=3) (v:=(.int .i64 op)) B2.out GW.out) GW.out) GW.out)
  have N5_:=am (Kd.aT (p:=⟨gb,5,none⟩) (Kd.aT (p:=⟨gb,4,none⟩) (Kd.aT (p:=⟨gb,3,none⟩) N5.out (fun _ hq=>hq.2) (.int .i64 op)) (fun _ hq=>hq.2) (.int .i64 n)) (fun _ hq=>hq.2) (.slice B5 la.length d5))
  clear p3 p4 p5 f3 f4 f5 X2 B2 N5
  generalize (((w2.setCell ⟨gb,3,none⟩ (.int .i64 op)).setCell ⟨gb,4,none⟩ (.int .i64 n)).setCell ⟨gb,5,none⟩ (.slice B5 la.length d5))=w3 at X BW N5_ ⊢
  have N5:=N5_
  clear N5_
  have p6:w3.cell? ⟨gb,6,none⟩=some (.slice A6 x.f4.length c6):=aA X.out 6
  go_upto_region 3 with (first|((with_reducible refine aN (f:=48) rfl ?_);refine sN (some 10) rfl rfl Try.func48 (by kernel_rfl) rfl #[.slice A6 x.f4.length c6] rfl (by (try simp only [List.map_toArray,List.map_cons,List.map_nil]);first|done|rfl) ?_;(with_reducible refine (ihA k (Nat.lt_succ_self k) A6 c6 x.f4 lb _ (Kd.aV H6.out BW.out) L6.out j3.out).mono ?_);rintro e w4 ⟨v5,rfl,hn,hb⟩;refine ⟨_,rfl,?_⟩;obtain ⟨B6,d6,rfl⟩:=Kd.dD hn;have GL2:=gQ X.out;have hle:=BW.out.size;have N6:=am (Kd.aD (ok':=fun q=>w.heap.size≤q∧q≠gb) (Kd.dH hn hle) (fun q hq=>⟨Nat.le_trans hle hq,fun e=>by omega⟩));have tN5:=am (Kd.dG N5.out hb);have X2:=am (bY X.out hb);have B2:=am (aG BW.out hb);clear hn hb hle GL2 p6 X BW N5;have N5:=tN5;clear tN5;have p6:w4.cell? ⟨gb,6,none⟩=some (.slice A6 x.f4.length c6):=aA X2.out 6;have f6:=aU X2.out 6)|fail)
  have X:=am (aM (cs':=#[(.int .i64 x.f0),(.int .i64 x.f1),(.int .i64 x.f2),(.int .i64 op),(.int .i64 n),(.slice B5 la.length d5),(.slice B6 lb.length d6),(.slice A7 x.f5.length c7)]) X2.out 6 (.slice B6 lb.length d6) rfl)
  have BW:=am (below_set (j:=6) (v:=(.slice B6 lb.length d6)) B2.out GW.out)
  have tN5:=am (Kd.aT (p:=⟨gb,6,none⟩) N5.out (fun _ hq=>hq.2) (.slice B6 lb.length d6))
  have tN6:=am (Kd.aT (p:=⟨gb,6,none⟩) N6.out (fun _ hq=>hq.2) (.slice B6 lb.length d6))
  clear p6 f6 X2 B2 N5 N6
  generalize (w4.setCell ⟨gb,6,none⟩ (.slice B6 lb.length d6))=w5 at X BW tN5 tN6 ⊢
  have N5:=tN5
  have N6:=tN6
  clear tN5 tN6
  have p7:w5.cell? ⟨gb,7,none⟩=some (.slice A7 x.f5.length c7):=aA X.out 7
  go_upto_region 4 with (first|((with_reducible refine aN (f:=48) rfl ?_);refine sN (some 14) rfl rfl Try.func48 (by kernel_rfl) rfl #[.slice A7 x.f5.length c7] rfl (by (try simp only [List.map_toArray,List.map_cons,List.map_nil]);first|done|rfl) ?_;(with_reducible refine (ihA k (Nat.lt_succ_self k) A7 c7 x.f5 le _ (Kd.aV H7.out BW.out) L7.out j4.out).mono ?_);rintro e w6 ⟨v5,rfl,hn,hb⟩;refine ⟨_,rfl,?_⟩;obtain ⟨B7,d7,rfl⟩:=Kd.dD hn;have GL2:=gQ X.out;have hle:=BW.out.size;have N7:=am (Kd.aD (ok':=fun q=>w.heap.size≤q∧q≠gb) (Kd.dH hn hle) (fun q hq=>⟨Nat.le_trans hle hq,fun e=>by omega⟩));have tN5:=am (Kd.dG N5.out hb);have tN6:=am (Kd.dG N6.out hb);have X2:=am (bY X.out hb);have B2:=am (aG BW.out hb);clear hn hb hle GL2 p7 X BW N5 N6;have N5:=tN5;clear tN5;have N6:=tN6;clear tN6;have p7:w6.cell? ⟨gb,7,none⟩=some (.slice A7 x.f5.length c7):=aA X2.out 7;have f7:=aU X2.out 7)|fail)
  have X:=am (aM (cs':=#[(.int .i64 x.f0),(.int .i64 x.f1),(.int .i64 x.f2),(.int .i64 op),(.int .i64 n),(.slice B5 la.length d5),(.slice B6 lb.length d6),(.slice B7 le.length d7)]) X2.out 7 (.slice B7 le.length d7) rfl)
  have BW:=am (below_set (j:=7) (v:=(.slice B7 le.length d7)) B2.out GW.out)
  have tN5:=am (Kd.aT (p:=⟨gb,7,none⟩) N5.out (fun _ hq=>hq.2) (.slice B7 le.length d7))
  have tN6:=am (Kd.aT (p:=⟨gb,7,none⟩) N6.out (fun _ hq=>hq.2) (.slice B7 le.length d7))
  have tN7:=am (Kd.aT (p:=⟨gb,7,none⟩) N7.out (fun _ hq=>hq.2) (.slice B7 le.length d7))
  clear p7 f7 X2 B2 N5 N6 N7
  generalize (w6.setCell ⟨gb,7,none⟩ (.slice B7 le.length d7))=w7 at X BW tN5 tN6 tN7 ⊢
  have N5:=tN5
  have N6:=tN6
  have N7:=tN7
  clear tN5 tN6 tN7
  have p0:w7.cell? ⟨gb,0,none⟩=some (.int .i64 x.f0):=aA X.out 0
  have p1:w7.cell? ⟨gb,1,none⟩=some (.int .i64 x.f1):=aA X.out 1
  have p2:w7.cell? ⟨gb,2,none⟩=some (.int .i64 x.f2):=aA X.out 2
  have p3:w7.cell? ⟨gb,3,none⟩=some (.int .i64 op):=aA X.out 3
  have p4:w7.cell? ⟨gb,4,none⟩=some (.int .i64 n):=aA X.out 4
  have p5:w7.cell? ⟨gb,5,none⟩=some (.slice B5 la.length d5):=aA X.out 5
  have p6:w7.cell? ⟨gb,6,none⟩=some (.slice B6 lb.length d6):=aA X.out 6
  have p7:w7.cell? ⟨gb,7,none⟩=some (.slice B7 le.length d7):=aA X.out 7
  have HX:=X
  clear X GE GL GW HE j3 j4 H5 H6 H7 L5 L6 L7 ihA
  by_cases k2:x.f0=2 <;> by_cases k3:x.f0=3 <;> by_cases k0:op=0 <;> by_cases kn:n=0
  all_goals first
    |(exact absurd (k2.symm.trans k3) (by decide))
    | ((first|have e2:(x.f0 == 2)=true:=beq_iff_eq.mpr k2|have e2:(x.f0 == 2)=false:=beq_eq_false_iff_ne.mpr k2)
       (first|have e3:(x.f0 == 3)=true:=beq_iff_eq.mpr k3|have e3:(x.f0 == 3)=false:=beq_eq_false_iff_ne.mpr k3)
       (first|have e0:(op == 0)=true:=beq_iff_eq.mpr k0|have e0:(op == 0)=false:=beq_eq_false_iff_ne.mpr k0)
       (first|have en:(n == 0)=true:=beq_iff_eq.mpr kn|have en:(n == 0)=false:=beq_eq_false_iff_ne.mpr kn)
       (first|have em:(n != 0)=true:=bne_iff_ne.mpr kn|have em:(n != 0)=false:=bne_eq_false_iff_eq.mpr kn)
       clear k2 k3 k0 kn
       go_wp2_with (first|((with_reducible refine bQ (N:=54) rfl ?_);refine Kd.oQ k35 w7.heap.size 35 rfl (N':=54) rfl (w0:=w7) (xs:=([]:List S35)) (inner:=[]) (ok:=fun q=>w7.heap.size≤q) (okp:=fun _=>False) ?hr (eY.none _ _) (fun _ hq=>hq.elim) (Nat.le_refl _) (Below.refl _ _) (Nat.le_refl _) (by simp) ?_;(case hr=>first|(go_simp;done)|(go_simp;rfl));intro v9 w8 hn hb _ _;obtain ⟨B9,d9,rfl⟩:=Kd.dD hn;have N9:=am hn;have B9_:=am hb;clear hn hb)|((with_reducible refine bQ (N:=56) rfl ?_);refine Kd.oQ k35 w7.heap.size 35 rfl (N':=56) rfl (w0:=w7) (xs:=[(⟨x.f0,x.f1,x.f2,⟨op,n,la⟩,lb,le⟩:S35)]) (inner:=[(.int .i64 x.f0),(.int .i64 x.f1),(.int .i64 x.f2),(.int .i64 op),(.int .i64 n),(.slice B5 la.length d5),(.slice B6 lb.length d6),(.slice B7 le.length d7)]) (ok:=fun q=>w.heap.size≤q) (okp:=fun q=>w.heap.size≤q∧q≠gb) ?hr (eY.c8 (show Kd.FK k35 _ _ (⟨x.f0,x.f1,x.f2,⟨op,n,la⟩,lb,le⟩:S35) [(.int .i64 x.f0),(.int .i64 x.f1),(.int .i64 x.f2),(.int .i64 op),(.int .i64 n),(.slice B5 la.length d5),(.slice B6 lb.length d6),(.slice B7 le.length d7)] from kY _ _ (⟨x.f0,x.f1,x.f2,⟨op,n,la⟩,lb,le⟩:S35) (Kd.bN N5.out).2.1 (Kd.N_F N5.out) (Kd.bN N6.out).2.1 (Kd.N_F N6.out) (Kd.bN N7.out).2.1 (Kd.N_F N7.out)) (eY.none _ _)) (fun _ hq=>hq.1) BW.out.size (Below.refl _ _) (Nat.le_refl _) (by simp) ?_;(case hr=>first|(go_simp;done)|(go_simp;rfl));intro v9 w8 hn hb _ _;obtain ⟨B9,d9,rfl⟩:=Kd.dD hn;have N9:=am hn;have B9_:=am hb;clear hn hb)|fail)
       go_ret
       first
       |exact ⟨_,rfl,by (simp only [IJ,e2,e3,e0,en,em,Bool.true_and,Bool.and_true,Bool.false_and,Bool.and_false,if_true,if_false,Bool.false_eq_true]);exact (Kd.aD N6.out (fun _ hq=>hq.1)),BW.out⟩
       |exact ⟨_,rfl,by (simp only [IJ,e2,e3,e0,en,em,Bool.true_and,Bool.and_true,Bool.false_and,Bool.and_false,if_true,if_false,Bool.false_eq_true]);exact (Kd.aD N7.out (fun _ hq=>hq.1)),BW.out⟩
       |exact ⟨_,rfl,by (simp only [IJ,e2,e3,e0,en,em,Bool.true_and,Bool.and_true,Bool.false_and,Bool.and_false,if_true,if_false,Bool.false_eq_true]);exact (Kd.aD (Kd.dH N9.out BW.out.size) (fun _ hq=>Nat.le_trans BW.out.size hq)),(aG BW.out B9_.out)⟩
       | exact ⟨_,rfl,by (simp only [IJ,e2,e3,e0,en,em,Bool.true_and,Bool.and_true,Bool.false_and,Bool.and_false,if_true,if_false,Bool.false_eq_true]);exact (Kd.dH N9.out BW.out.size),(aG BW.out B9_.out)⟩)
theorem bM.step (k:Nat) (ihT:∀ m,m < k→gJ.fK m):bM.fK k:=by
 intro A0 c0 l0 r w hr0 hc0 h
 cases k with
 |zero=>exact absurd h (by simp [bM.f])
 |succ k=>
 simp only [bM.f] at h
 have j6:=am hr0
 have ja:=am hc0
 have H':=am h
 clear hr0 hc0 h
 go_enter Try.func48,Try.ntmps48
 go_wp2_with (first|((with_reducible refine bQ (N:=5) rfl ?_);refine Kd.oQ k35 w.heap.size 35 rfl (N':=5) rfl (w0:=w) (xs:=([]:List S35)) (inner:=[]) (ok:=fun q=>w.heap.size≤q) (okp:=fun _=>False) ?hr (eY.none _ _) (fun _ hq=>hq.elim) (Nat.le_refl _) (Below.refl _ _) (Nat.le_refl _) (by simp) ?_;(case hr=>first|(go_simp;done)|(go_simp;rfl));intro v3 w4 hn hb hg_ hnew_;clear hg_ hnew_;have HO:=am hn;have HB:=am hb;clear hn hb)|fail)
 go_loopg [3,4] k (fun kq v3 v4 w'=>∃ (x3:List S35) (x4:Int),v4= .int .i64 x4∧Aside0 (bM.l0 kq l0 x3 x4=some r)∧Aside0 (kq≤k)∧Aside0 (Kd.N k35 35 w' w.heap.size (fun q=>w.heap.size≤q) v3 x3)∧Aside0 (Below w.heap.size w w'))
 case atStart=>exact ⟨_,0,rfl,H',⟨Nat.le_refl _⟩,HO,HB⟩
 case round=>
  clear H'
  (try clear HO HB)
  obtain ⟨x3,x4,rfl,HA,j4,HO,HB⟩:=hrel
  obtain ⟨B3,d3,rfl⟩:=Kd.dD HO.out
  cases gk with
  |zero=>exact absurd HA.out (by simp [bM.l0])
  |succ k1=>
   have H:=HA.out
   clear HA
   simp only [bM.l0] at H
   by_cases c6:x4 < (l0.length:Int)
   ·rw [if_pos c6] at H
    by_cases c7:0≤x4
    ·rw [if_pos c7] at H
     obtain ⟨y,hs,H⟩:=bsm H
     by_cases c9:x3.length + y.length < 1256584717458
     ·rw [if_pos c9] at H
      have HS:=am hs
      have H':=am H
      clear hs H
      obtain ⟨ad,A5,c5,A6,d6,A7,d7,e0,x0,x1,x2,y3,y4,y5,y6,y7,l5,g5,l6,g6,l7,g7⟩:=uS j6.out x4 c7 c6
      cases e0
      replace x0:=(HB.out.cell (World.block_lt_of_cell? w _ x0)).trans x0
      replace x1:=(HB.out.cell (World.block_lt_of_cell? w _ x1)).trans x1
      replace x2:=(HB.out.cell (World.block_lt_of_cell? w _ x2)).trans x2
      replace y3:=(HB.out.cell (World.block_lt_of_cell? w _ y3)).trans y3
      replace y4:=(HB.out.cell (World.block_lt_of_cell? w _ y4)).trans y4
      replace y5:=(HB.out.cell (World.block_lt_of_cell? w _ y5)).trans y5
      replace y6:=(HB.out.cell (World.block_lt_of_cell? w _ y6)).trans y6
      replace y7:=(HB.out.cell (World.block_lt_of_cell? w _ y7)).trans y7
      have G5:=am (Kd.aV g5 HB.out)
      have G6:=am (Kd.aV g6 HB.out)
      have G7:=am (Kd.aV g7 HB.out)
      have L5:=am l5
      have L6:=am l6
      have L7:=am l7
      have C9:=am c9
      have j7:decide (x4 < (l0.length:Int))=true:=decide_eq_true c6
      have q0:=eq_true c7
      have q1:=eq_true c6
      clear g5 g6 g7 l5 l6 l7 c6 c7 c9
      go_wp2_with (first|((with_reducible refine aN (f:=81) rfl ?_);refine sN (some 17) rfl rfl Try.func81 (by kernel_rfl) rfl #[.agg #[(.int .i64 (aC l0 x4).f0),(.int .i64 (aC l0 x4).f1),(.int .i64 (aC l0 x4).f2),(.int .i64 (aC l0 x4).f3.f0),(.int .i64 (aC l0 x4).f3.f1),(.slice A5 (aC l0 x4).f3.f2.length c5),(.slice A6 (aC l0 x4).f4.length d6),(.slice A7 (aC l0 x4).f5.length d7)]] rfl (by (try simp only [List.map_toArray,List.map_cons,List.map_nil]);first|done|rfl) ?_;(with_reducible refine (ihT k1 (by have:=j4.out;omega) (aC l0 x4) A5 c5 A6 d6 A7 d7 y _ G5.out L5.out G6.out L6.out G7.out L7.out HS.out).mono ?_);rintro e jb ⟨jc,rfl,hn,hb⟩;refine ⟨_,rfl,?_⟩;obtain ⟨j8,j9,rfl⟩:=Kd.dD hn;have j5:=am hn;have OL:=am (Kd.iH HO.out);have OE:=am (Kd.dG HO.out hb);have j3:=am (aG HB.out hb);have SZ:=am HB.out.size;clear hn hb HO HB)|((with_reducible refine bQ (N:=18) rfl ?_);refine Kd.oC k35 (w0:=w) w.heap.size rfl (.tmp 12) (.tmp 17) 23 35 (.agg #[(.int .i64 0),(.int .i64 0),(.int .i64 0),(.int .i64 0),(.int .i64 0),(.slice none 0 0),(.slice none 0 0),(.slice none 0 0)]) 112 rfl Try.underlying23 tN rfl (by decide) (by omega) (.slice B3 x3.length d3) x3 y j8 y.length j9 (fun q=>w.heap.size≤q) _ rfl rfl OE.out (Kd.N_F j5.out) ?aK ?aF j3.out j3.out.size ?aL ?_;(case aK=>exact fun q hq=>⟨Nat.le_trans SZ.out hq,fun e=>by have:=OL.out q e.symm;omega⟩);(case aF=>exact fun q hq=>Nat.le_trans j3.out.size hq);(case aL=>(have:=C9.out;omega));intro jd je hn hb hg_ hat_;clear hg_ hat_;have HO:=am hn;have HB:=am hb;clear hn hb OE OL j3 j5 SZ)|fail)
      go_roundg k1
      case measure=>have:=j4.out;omega
      case rel=>exact ⟨_,wrap64 (x4 + 1),sd_,H',⟨by have:=j4.out;omega⟩,HO,HB⟩
     rw [if_neg c9] at H
     exact absurd H (by simp)
    rw [if_neg c7] at H
    exact absurd H (by simp)
   rw [if_neg c6] at H
   have j7:decide (x4 < (l0.length:Int))=false:=decide_eq_false c6
   clear c6
   obtain rfl:=Option.some.inj H
   go_wp2
   go_ret
   exact ⟨_,rfl,HO.out,HB.out⟩
theorem bM.calls_all (k:Nat):bM.fK k∧gJ.fK k:=by
 induction k using Nat.strongRecOn with
 | _ k ih=>exact ⟨bM.step k (fun m hm=>(ih m hm).2),gJ.step k (fun m hm=>(ih m hm).1)⟩
theorem bM.calls (k:Nat):bM.fK k:=(bM.calls_all k).1
theorem gX.mono_l:∀ k,(∀ y0 y1 y2 y3,LeO (gX.f k y0 y1 y2 y3) (gX.f (k + 1) y0 y1 y2 y3))
 |0=>fun _ _ _ _ r h=>by simp [gX.f] at h
 |k + 1=>by
  have ih0:=gX.mono_l k
  ·intro y0 y1 y2 y3
   unfold gX.f
   exact mo_
theorem gX.mono:∀ a0 a1 a2 a3 k,LeO (gX.f k a0 a1 a2 a3) (gX.f (k + 1) a0 a1 a2 a3):=by
 intro a0 a1 a2 a3 k
 have ih0:=gX.mono_l k
 exact ih0 a0 a1 a2 a3
theorem gX.calls (k:Nat):∀ (j4:Int) (j8:Int) (jg:Option Addr) (jh:Nat) (j3:List (S32)) (a1:Int) (r:Bool) (w:World) (hr0_2:Kd.C k32 w jg j3.length j3) (hc0_2:j3.length≤jh) (h:gX.f k j4 j8 j3 a1=some r),
  Calls Try.prog 116 #[.agg #[.int .i64 j4, .int .i64 j8, .slice jg j3.length jh], .int .i64 a1] w fun e w'=>e= .returned (.bool r)∧Below w.heap.size w w':=by
 induction k using Nat.strongRecOn with
 | _ k ih=>
 intro j4 j8 jg jh j3 a1 r w hr0_2 hc0_2 h
 cases k with
 |zero=>exact absurd h (by simp [gX.f])
 |succ k=>
 simp only [gX.f] at h
 have hu32:=Try.underlying32
 have jf:=am hr0_2
 have qQ:=am hc0_2
 clear hr0_2 hc0_2
 have HB:=am (Below.refl w.heap.size w)
 have H:(if a1 < 1 then (some false) else (if j4=0 then ((fV.f j8 0 99999).bind fun qx=>(if qx=true then (some ((j3.length:Int) == 0)) else (some false))) else (if j4=13 then ((fV.f j8 0 3).bind fun qy=>(if qy=true then (some ((j3.length:Int) == 0)) else (some false))) else ((iD.f j4).bind fun qz=>(if qz=true then (if j8=0 then (if (j3.length:Int)=2 then (if 0 < (j3.length:Int) then ((gX.f k ((aY j3 0).f0) ((aY j3 0).f1) ((aY j3 0).f2) (wrap64 (a1 - 1))).bind fun qA=>(if qA=true then (if 1 < (j3.length:Int) then ((gX.f k ((aY j3 1).f0) ((aY j3 1).f1) ((aY j3 1).f2) (wrap64 (a1 - 1))).bind fun qB=>(some qB)) else (none)) else (some false))) else (none)) else (some false)) else (some false)) else (some false))))))=some r:=h
 clear h
 have HH_:=am H
 clear H
 go_enter Try.func116,Try.ntmps116
 go_upto_region 1 with (first|((with_reducible refine bQ (N:=2) rfl ?_);(try (refine kQ (by rfl) ?_;dsimp only));refine dJ rfl (N:=2) rfl (cs:=#[.int .i64 j4, .int .i64 j8, .slice jg j3.length jh]) (t:=32) rn_ ?_;intro jp hg w4 hbox hb;have j9:=am (hbox);have z3:=am ((by rw [hg];exact (aJ gK):w.heap.size≤jp));have GE43:=am ((by rw [hg];exact (aJ gK):w.heap.size≤jp));replace HB:=am (aG gK hb);clear hb hbox hg))
 have H:=HH_.out
 clear HH_
 by_cases c3:a1 < 1
 ·rw [if_pos c3] at H
  have qC:decide (a1 < 1)=true:=decide_eq_true c3
  clear c3
  obtain rfl:=Option.some.inj H
  go_wp2
  go_ret
  exact ⟨rr_,mH⟩
 rw [if_neg c3] at H
 have qC:decide (a1 < 1)=false:=decide_eq_false c3
 clear c3
 by_cases c5:j4=0
 ·rw [if_pos c5] at H
  have qD:(j4 == 0)=true:=beq_iff_eq.mpr c5
  have qE:(j4 != 0)=false:=bne_eq_false_iff_eq.mpr c5
  clear c5
  obtain ⟨qx,A6,H⟩:=bsa H
  (try dsimp only at H)
  by_cases c7:qx=true
  ·subst c7
   rw [if_pos rfl] at H
   obtain rfl:=Option.some.inj H
   obtain ⟨qF,qG,qH,qI,qJ,qK⟩:=fZ j9.out
   go_wp2_with (first|((with_reducible refine aN (f:=88) rfl ?_);refine gl_ 12 Try.func88 #[.int .i64 j8, .int .i64 0, .int .i64 99999] ?_;(with_reducible refine (fV.calls j8 0 99999 true _ A6.out).mono ?_);rintro e w' ⟨rfl,⟨nd,rfl⟩⟩;refine ⟨_,rfl,?_⟩))
   go_ret
   exact ⟨rr_,mH⟩
  replace c7:=Bool.eq_false_iff.mpr c7
  subst c7
  rw [if_neg (show ¬ (false=true) by decide)] at H
  obtain rfl:=Option.some.inj H
  obtain ⟨jA,jB,jC,jD,jE,jF⟩:=fZ j9.out
  go_wp2_with (first|((with_reducible refine aN (f:=88) rfl ?_);refine gl_ 12 Try.func88 #[.int .i64 j8, .int .i64 0, .int .i64 99999] ?_;(with_reducible refine (fV.calls j8 0 99999 false _ A6.out).mono ?_);rintro e w' ⟨rfl,⟨nd,rfl⟩⟩;refine ⟨_,rfl,?_⟩))
  go_ret
  exact ⟨rr_,mH⟩
 rw [if_neg c5] at H
 have qD:(j4 == 0)=false:=beq_eq_false_iff_ne.mpr c5
 have qE:(j4 != 0)=true:=bne_iff_ne.mpr c5
 by_cases ji:j4=13
 ·rw [if_pos ji] at H
  have jq:(j4 == 13)=true:=beq_iff_eq.mpr ji
  have jr:(j4 != 13)=false:=bne_eq_false_iff_eq.mpr ji
  clear ji
  obtain ⟨qy,qR,H⟩:=bsm H
  (try dsimp only at H)
  have qS:=am qR
  clear qR
  by_cases jG:qy=true
  ·subst jG
   rw [if_pos rfl] at H
   obtain rfl:=Option.some.inj H
   obtain ⟨jH,jI,jJ,jK,jL,jM⟩:=fZ j9.out
   go_wp2_with (first|((with_reducible refine aN (f:=88) rfl ?_);refine gl_ 24 Try.func88 #[.int .i64 j8, .int .i64 0, .int .i64 3] ?_;(with_reducible refine (fV.calls j8 0 3 true _ qS.out).mono ?_);rintro e w' ⟨rfl,⟨nd,rfl⟩⟩;refine ⟨_,rfl,?_⟩))
   go_ret
   exact ⟨rr_,mH⟩
  replace jG:=Bool.eq_false_iff.mpr jG
  subst jG
  rw [if_neg (show ¬ (false=true) by decide)] at H
  obtain rfl:=Option.some.inj H
  obtain ⟨jN,jO,jP,jQ,jR,jS⟩:=fZ j9.out
  go_wp2_with (first|((with_reducible refine aN (f:=88) rfl ?_);refine gl_ 24 Try.func88 #[.int .i64 j8, .int .i64 0, .int .i64 3] ?_;(with_reducible refine (fV.calls j8 0 3 false _ qS.out).mono ?_);rintro e w' ⟨rfl,⟨nd,rfl⟩⟩;refine ⟨_,rfl,?_⟩))
  go_ret
  exact ⟨rr_,mH⟩
 rw [if_neg ji] at H
 have jq:(j4 == 13)=false:=beq_eq_false_iff_ne.mpr ji
 have jr:(j4 != 13)=true:=bne_iff_ne.mpr ji
 obtain ⟨qz,qT,H⟩:=bsm H
 (try dsimp only at H)
 have js:=am qT
 clear qT
 by_cases jT:qz=true
 ·subst jT
  rw [if_pos rfl] at H
  by_cases jj:j8=0
  ·rw [if_pos jj] at H
   have jt:(j8 == 0)=true:=beq_iff_eq.mpr jj
   have ju:(j8 != 0)=false:=bne_eq_false_iff_eq.mpr jj
   clear jj
   by_cases jk:(j3.length:Int)=2
   ·rw [if_pos jk] at H
    have jv:((j3.length:Int) == 2)=true:=beq_iff_eq.mpr jk
    have jw:((j3.length:Int) != 2)=false:=bne_eq_false_iff_eq.mpr jk
    clear jk
    by_cases jU:0 < (j3.length:Int)
    ·rw [if_pos jU] at H
     have qU:decide (0 < (j3.length:Int))=true:=decide_eq_true jU
     have qV:decide (0 < j3.length)=true:=decide_eq_true (by omega)
     clear jU
     obtain ⟨qA,qW,H⟩:=bsm H
     (try dsimp only at H)
     have qX:=am qW
     clear qW
     by_cases jV:qA=true
     ·subst jV
      rw [if_pos rfl] at H
      by_cases jW:1 < (j3.length:Int)
      ·rw [if_pos jW] at H
       have qY:decide (1 < (j3.length:Int))=true:=decide_eq_true jW
       have qZ:decide (1 < j3.length)=true:=decide_eq_true (by omega)
       clear jW
       obtain ⟨qB,z0,H⟩:=bsm H
       (try dsimp only at H)
       have z4:=am z0
       clear z0
       obtain rfl:=Option.some.inj H
       obtain ⟨jX,jY,jZ,q0,q1,q2⟩:=fZ j9.out
       go_wp2_with (first|((with_reducible refine aN (f:=117) rfl ?_);refine gl_ 33 Try.func117 #[.int .i64 j4] ?_;(with_reducible refine (iD.calls j4 true _ js.out).mono ?_);rintro e w' ⟨rfl,⟨nd,rfl⟩⟩;refine ⟨_,rfl,?_⟩;have jl:0≤(0:Int):=(by omega);have jm:0 < (j3.length:Int):=of_decide_eq_true gL;obtain ⟨jx,jy,jz,qL,j5,j6,j7,hl48_2,hi48_2⟩:=rC jf.out 0 jl jm;cases qL;have qM:(0 < j3.length)=True:=eq_true (by omega);(try rw [show ((0:Int)).toNat=0 from rfl] at j5);(try rw [show 0 * 3=0 from rfl] at j5);(try rw [Addr.add_zero'] at j5);(try rw [show ((0:Int)).toNat=0 from rfl] at j6);(try rw [show 0 * 3=0 from rfl] at j6);(try rw [Addr.add_zero'] at j6);(try rw [show ((0:Int)).toNat=0 from rfl] at j7);(try rw [show 0 * 3=0 from rfl] at j7);(try rw [Addr.add_zero'] at j7);replace j5:=(HB.out.cell (World.block_lt_of_cell? w _ j5)).trans j5;replace j6:=(HB.out.cell (World.block_lt_of_cell? w _ j6)).trans j6;replace j7:=(HB.out.cell (World.block_lt_of_cell? w _ j7)).trans j7;have jd:=am hi48_2;have je:=am hl48_2;clear hi48_2 hl48_2;replace jl:=eq_true jl;replace jm:=eq_true jm)|(go_at_call 116;(with_reducible refine (ih k (by omega) ((aY j3 0).f0) ((aY j3 0).f1) _ _ ((aY j3 0).f2) (wrap64 (a1 - 1)) true _ (aC_ (Kd.aV jd.out mH)) je.out qX.out).mono ?_);rintro e z7 ⟨rfl,hb⟩;replace j9:=bbP j9 hb;replace HB:=am (aG mH hb);(try clear hb);obtain ⟨q3,q4,q5,q6,q7,q8⟩:=fZ j9.out;have qN:0≤(1:Int):=(by omega);have qO:1 < (j3.length:Int):=of_decide_eq_true gL;obtain ⟨qP,z1,z2,z5,ja,jb,jc,hl49_2,hi49_2⟩:=rC jf.out 1 qN qO;obtain rfl:jx=qP:=(by injection z5);(try simp only [show (1:Int).toNat=1 from rfl,Nat.reduceMul,Nat.reduceEqDiff,Go.Addr.add,↓reduceIte] at ja);(try simp only [show (1:Int).toNat=1 from rfl,Nat.reduceMul,Nat.reduceEqDiff,Go.Addr.add,↓reduceIte] at jb);(try simp only [show (1:Int).toNat=1 from rfl,Nat.reduceMul,Nat.reduceEqDiff,Go.Addr.add,↓reduceIte] at jc);have z6:(1 < j3.length)=True:=eq_true (by omega);(try rw [show ((1:Int)).toNat=1 from rfl] at ja);(try rw [show 1 * 3=3 from rfl] at ja);(try rw [show ((1:Int)).toNat=1 from rfl] at jb);(try rw [show 1 * 3=3 from rfl] at jb);(try rw [show ((1:Int)).toNat=1 from rfl] at jc);(try rw [show 1 * 3=3 from rfl] at jc);replace ja:=(HB.out.cell (World.block_lt_of_cell? w _ ja)).trans ja;replace jb:=(HB.out.cell (World.block_lt_of_cell? w _ jb)).trans jb;replace jc:=(HB.out.cell (World.block_lt_of_cell? w _ jc)).trans jc;have jn:=am hi49_2;have jo:=am hl49_2;clear hi49_2 hl49_2;replace qN:=eq_true qN;replace qO:=eq_true qO)|(go_at_call 116;(with_reducible refine (ih k (by omega) ((aY j3 1).f0) ((aY j3 1).f1) _ _ ((aY j3 1).f2) (wrap64 (a1 - 1)) qB _ (aC_ (Kd.aV jn.out HB.out)) jo.out z4.out).mono ?_);rintro e z8 ⟨rfl,hb⟩;replace j9:=bbP j9 hb;replace HB:=am (aG mH hb);(try clear hb)))
       go_ret
       exact ⟨rr_,mH⟩
      rw [if_neg jW] at H
      exact absurd H (by simp)
     replace jV:=Bool.eq_false_iff.mpr jV
     subst jV
     rw [if_neg (show ¬ (false=true) by decide)] at H
     obtain rfl:=Option.some.inj H
     obtain ⟨q9,qa,qb,qc,qd,qe⟩:=fZ j9.out
     go_wp2_with (first|((with_reducible refine aN (f:=117) rfl ?_);refine gl_ 33 Try.func117 #[.int .i64 j4] ?_;(with_reducible refine (iD.calls j4 true _ js.out).mono ?_);rintro e w' ⟨rfl,⟨nd,rfl⟩⟩;refine ⟨_,rfl,?_⟩;have jl:0≤(0:Int):=(by omega);have jm:0 < (j3.length:Int):=of_decide_eq_true gL;obtain ⟨jx,jy,jz,qL,j5,j6,j7,hl48_2,hi48_2⟩:=rC jf.out 0 jl jm;cases qL;have qM:(0 < j3.length)=True:=eq_true (by omega);(try rw [show ((0:Int)).toNat=0 from rfl] at j5);(try rw [show 0 * 3=0 from rfl] at j5);(try rw [Addr.add_zero'] at j5);(try rw [show ((0:Int)).toNat=0 from rfl] at j6);(try rw [show 0 * 3=0 from rfl] at j6);(try rw [Addr.add_zero'] at j6);(try rw [show ((0:Int)).toNat=0 from rfl] at j7);(try rw [show 0 * 3=0 from rfl] at j7);(try rw [Addr.add_zero'] at j7);replace j5:=(HB.out.cell (World.block_lt_of_cell? w _ j5)).trans j5;replace j6:=(HB.out.cell (World.block_lt_of_cell? w _ j6)).trans j6;replace j7:=(HB.out.cell (World.block_lt_of_cell? w _ j7)).trans j7;have jd:=am hi48_2;have je:=am hl48_2;clear hi48_2 hl48_2;replace jl:=eq_true jl;replace jm:=eq_true jm)|(go_at_call 116;(with_reducible refine (ih k (by omega) ((aY j3 0).f0) ((aY j3 0).f1) _ _ ((aY j3 0).f2) (wrap64 (a1 - 1)) false _ (aC_ (Kd.aV jd.out mH)) je.out qX.out).mono ?_);rintro e z9 ⟨rfl,hb⟩;replace j9:=bbP j9 hb;replace HB:=am (aG mH hb);(try clear hb)))
     go_ret
     exact ⟨rr_,mH⟩
    rw [if_neg jU] at H
    exact absurd H (by simp)
   rw [if_neg jk] at H
   have jv:((j3.length:Int) == 2)=false:=beq_eq_false_iff_ne.mpr jk
   have jw:((j3.length:Int) != 2)=true:=bne_iff_ne.mpr jk
   obtain rfl:=Option.some.inj H
   obtain ⟨qf,qg,qh,qi,qj,qk⟩:=fZ j9.out
   go_wp2_with (first|((with_reducible refine aN (f:=117) rfl ?_);refine gl_ 33 Try.func117 #[.int .i64 j4] ?_;(with_reducible refine (iD.calls j4 true _ js.out).mono ?_);rintro e w' ⟨rfl,⟨nd,rfl⟩⟩;refine ⟨_,rfl,?_⟩))
   go_ret
   exact ⟨rr_,mH⟩
  rw [if_neg jj] at H
  have jt:(j8 == 0)=false:=beq_eq_false_iff_ne.mpr jj
  have ju:(j8 != 0)=true:=bne_iff_ne.mpr jj
  obtain rfl:=Option.some.inj H
  obtain ⟨ql,qm,qn,qo,qp,qq⟩:=fZ j9.out
  go_wp2_with (first|((with_reducible refine aN (f:=117) rfl ?_);refine gl_ 33 Try.func117 #[.int .i64 j4] ?_;(with_reducible refine (iD.calls j4 true _ js.out).mono ?_);rintro e w' ⟨rfl,⟨nd,rfl⟩⟩;refine ⟨_,rfl,?_⟩))
  go_ret
  exact ⟨rr_,mH⟩
 replace jT:=Bool.eq_false_iff.mpr jT
 subst jT
 rw [if_neg (show ¬ (false=true) by decide)] at H
 obtain rfl:=Option.some.inj H
 obtain ⟨qr,qs,qt,qu,qv,qw⟩:=fZ j9.out
 go_wp2_with (first|((with_reducible refine aN (f:=117) rfl ?_);refine gl_ 33 Try.func117 #[.int .i64 j4] ?_;(with_reducible refine (iD.calls j4 false _ js.out).mono ?_);rintro e w' ⟨rfl,⟨nd,rfl⟩⟩;refine ⟨_,rfl,?_⟩))
 go_ret
 exact ⟨rr_,mH⟩
theorem fA.mono:∀ a0 a1 a2 k,LeO (fA.f k a0 a1 a2) (fA.f (k + 1) a0 a1 a2):=by
 intro a0 a1 a2 k
 unfold fA.f
 have m0:=@gX.mono
 exact mo_
theorem fA.calls (k:Nat) (j4:Int) (j5:Int) (j6:Option Addr) (j7:Nat) (j3:List (S32)) (r:Bool) (w:World) (hr0_2:Kd.C k32 w j6 j3.length j3) (hc0_2:j3.length≤j7) (h:fA.f k j4 j5 j3=some r):
  Calls Try.prog 111 #[.agg #[.int .i64 j4, .int .i64 j5, .slice j6 j3.length j7]] w fun e w'=>e= .returned (.bool r)∧Below w.heap.size w w':=by
 have hu32:=Try.underlying32
 have j9:=am hr0_2
 have ja:=am hc0_2
 clear hr0_2 hc0_2
 have HB:=am (Below.refl w.heap.size w)
 have H:((gX.f k j4 j5 j3 5).bind fun jc=>(some jc))=some r:=h
 clear h
 obtain ⟨jc,A2,H⟩:=bsa H
 (try dsimp only at H)
 obtain rfl:=Option.some.inj H
 go_enter Try.func111,Try.ntmps111
 go_wp2_with (first|((with_reducible refine bQ (N:=1) rfl ?_);refine dJ rfl (N:=1) rfl (cs:=#[.int .i64 j4, .int .i64 j5, .slice j6 j3.length j7]) (t:=32) rn_ ?_;intro jb hg w3 hbox hb;have j8:=am (hbox);have jj:=am ((by rw [hg];exact (aJ gK):w.heap.size≤jb));have GE22:=am ((by rw [hg];exact (aJ gK):w.heap.size≤jb));replace HB:=am (aG gK hb);clear hb hbox hg;obtain ⟨jd,je,jf,jg,jh,ji⟩:=fZ j8.out)|((with_reducible refine aN (f:=116) rfl ?_);refine gl_ 4 Try.func116 #[.agg #[.int .i64 j4, .int .i64 j5, .slice j6 j3.length j7], .int .i64 5] ?_;(with_reducible refine (gX.calls k j4 j5 _ _ j3 5 jc _ (aC_ (Kd.aV j9.out HB.out)) ja.out A2.out).mono ?_);rintro e w5 ⟨rfl,hb⟩;refine ⟨_,rfl,?_⟩;replace j8:=bbP j8 hb;replace HB:=am (aG uD hb);(try clear hb)))
 go_ret
 exact ⟨rr_,uD⟩
theorem fH.calls (j7:Int) (j3:Int) (j8:Int) (j9:Int) (ja:Int) (jb:Option Addr) (jc:Nat) (j4:List (S32)) (jd:Option Addr) (je:Nat) (j5:List (S35)) (jf:Option Addr) (jg:Nat) (j6:List (S35)) (a1:Bool) (r:Bool) (w:World) (hr0_5:Kd.C k32 w jb j4.length j4) (hc0_5:j4.length≤jc) (hr0_6:Kd.C k35 w jd j5.length j5) (hc0_6:j5.length≤je) (hr0_7:Kd.C k35 w jf j6.length j6) (hc0_7:j6.length≤jg) (h:fH.f j7 j3 j8 j9 ja j4 j5 j6 a1=some r):
  Calls Try.prog 109 #[.agg #[.int .i64 j7, .int .i64 j3, .int .i64 j8, .int .i64 j9, .int .i64 ja, .slice jb j4.length jc, .slice jd j5.length je, .slice jf j6.length jg], .bool a1] w fun e w'=>e= .returned (.bool r)∧Below w.heap.size w w':=by
 have hu35:=Try.underlying35
 have jA:=am hr0_5
 have jB:=am hc0_5
 clear hr0_5 hc0_5
 have jC:=am hr0_6
 have jD:=am hc0_6
 clear hr0_6 hc0_6
 have jE:=am hr0_7
 have jF:=am hc0_7
 clear hr0_7 hc0_7
 have HB:=am (Below.refl w.heap.size w)
 have H:(if a1=true then ((fV.f j3 0 3).bind fun ji=>(some ji)) else (some (j3 == 0)))=some r:=h
 clear h
 have HH_:=am H
 clear H
 go_enter Try.func109,Try.ntmps109
 go_upto_region 1 with (first|((with_reducible refine bQ (N:=2) rfl ?_);refine dJ rfl (N:=2) rfl (cs:=#[.int .i64 j7, .int .i64 j3, .int .i64 j8, .int .i64 j9, .int .i64 ja, .slice jb j4.length jc, .slice jd j5.length je, .slice jf j6.length jg]) (t:=35) rn_ ?_;intro jh hg w5 hbox hb;have jj:=am (hbox);have jG:=am ((by rw [hg];exact (aJ gK):w.heap.size≤jh));have GE21:=am ((by rw [hg];exact (aJ gK):w.heap.size≤jh));replace HB:=am (aG gK hb);clear hb hbox hg;obtain ⟨jk,jl,jm,jn,jo,jp,jq,jr,js,jt,ju,jv,jw,jx,jy,jz⟩:=eX jj.out))
 have H:=HH_.out
 clear HH_
 by_cases c3:a1=true
 ·subst c3
  rw [if_pos rfl] at H
  obtain ⟨ji,A4,H⟩:=bsa H
  (try dsimp only at H)
  obtain rfl:=Option.some.inj H
  go_wp2_with (first|((with_reducible refine aN (f:=88) rfl ?_);refine gl_ 8 Try.func88 #[.int .i64 j3, .int .i64 0, .int .i64 3] ?_;(with_reducible refine (fV.calls j3 0 3 ji _ A4.out).mono ?_);rintro e w' ⟨rfl,⟨nd,rfl⟩⟩;refine ⟨_,rfl,?_⟩))
  go_ret
  exact ⟨rr_,wI⟩
 replace c3:=Bool.eq_false_iff.mpr c3
 subst c3
 rw [if_neg (show ¬ (false=true) by decide)] at H
 obtain rfl:=Option.some.inj H
 go_wp2
 go_ret
 exact ⟨rr_,wI⟩
theorem gD.calls (j7:Int) (j8:Int) (j3:Int) (j9:Int) (ja:Int) (jb:Option Addr) (jc:Nat) (j4:List (S32)) (jd:Option Addr) (je:Nat) (j5:List (S35)) (jf:Option Addr) (jg:Nat) (j6:List (S35)) (a1:Bool) (r:Bool) (w:World) (hr0_5:Kd.C k32 w jb j4.length j4) (hc0_5:j4.length≤jc) (hr0_6:Kd.C k35 w jd j5.length j5) (hc0_6:j5.length≤je) (hr0_7:Kd.C k35 w jf j6.length j6) (hc0_7:j6.length≤jg) (h:gD.f j7 j8 j3 j9 ja j4 j5 j6 a1=some r):
  Calls Try.prog 110 #[.agg #[.int .i64 j7, .int .i64 j8, .int .i64 j3, .int .i64 j9, .int .i64 ja, .slice jb j4.length jc, .slice jd j5.length je, .slice jf j6.length jg], .bool a1] w fun e w'=>e= .returned (.bool r)∧Below w.heap.size w w':=by
 have hu35:=Try.underlying35
 have jA:=am hr0_5
 have jB:=am hc0_5
 clear hr0_5 hc0_5
 have jC:=am hr0_6
 have jD:=am hc0_6
 clear hr0_6 hc0_6
 have jE:=am hr0_7
 have jF:=am hc0_7
 clear hr0_7 hc0_7
 have HB:=am (Below.refl w.heap.size w)
 have H:(if a1=true then ((fV.f j3 0 2).bind fun ji=>(some ji)) else (some (j3 == 0)))=some r:=h
 clear h
 have HH_:=am H
 clear H
 go_enter Try.func110,Try.ntmps110
 go_upto_region 1 with (first|((with_reducible refine bQ (N:=2) rfl ?_);refine dJ rfl (N:=2) rfl (cs:=#[.int .i64 j7, .int .i64 j8, .int .i64 j3, .int .i64 j9, .int .i64 ja, .slice jb j4.length jc, .slice jd j5.length je, .slice jf j6.length jg]) (t:=35) rn_ ?_;intro jh hg w5 hbox hb;have jj:=am (hbox);have jG:=am ((by rw [hg];exact (aJ gK):w.heap.size≤jh));have GE21:=am ((by rw [hg];exact (aJ gK):w.heap.size≤jh));replace HB:=am (aG gK hb);clear hb hbox hg;obtain ⟨jk,jl,jm,jn,jo,jp,jq,jr,js,jt,ju,jv,jw,jx,jy,jz⟩:=eX jj.out))
 have H:=HH_.out
 clear HH_
 by_cases c3:a1=true
 ·subst c3
  rw [if_pos rfl] at H
  obtain ⟨ji,A4,H⟩:=bsa H
  (try dsimp only at H)
  obtain rfl:=Option.some.inj H
  go_wp2_with (first|((with_reducible refine aN (f:=88) rfl ?_);refine gl_ 8 Try.func88 #[.int .i64 j3, .int .i64 0, .int .i64 2] ?_;(with_reducible refine (fV.calls j3 0 2 ji _ A4.out).mono ?_);rintro e w' ⟨rfl,⟨nd,rfl⟩⟩;refine ⟨_,rfl,?_⟩))
  go_ret
  exact ⟨rr_,wI⟩
 replace c3:=Bool.eq_false_iff.mpr c3
 subst c3
 rw [if_neg (show ¬ (false=true) by decide)] at H
 obtain rfl:=Option.some.inj H
 go_wp2
 go_ret
 exact ⟨rr_,wI⟩
theorem lN.calls (j3:Int) (j4:Int) (j6:Option Addr) (j7:Nat) (j5:List (S32)) (r:Bool) (w:World) (hr0_2:Kd.C k32 w j6 j5.length j5) (hc0_2:j5.length≤j7) (h:lN.f j3 j4 j5=some r):
  Calls Try.prog 115 #[.agg #[.int .i64 j3, .int .i64 j4, .slice j6 j5.length j7]] w fun e w'=>e= .returned (.bool r)∧Below w.heap.size w w':=by
 have hu32:=Try.underlying32
 have jk:=am hr0_2
 have jl:=am hc0_2
 clear hr0_2 hc0_2
 have HB:=am (Below.refl w.heap.size w)
 have H:(if j3=0 then (if j4=0 then (some ((j5.length:Int) == 0)) else (some false)) else (some false))=some r:=h
 clear h
 have HH_:=am H
 clear H
 go_enter Try.func115,Try.ntmps115
 go_upto_region 1 with (first|((with_reducible refine bQ (N:=1) rfl ?_);(try (refine kQ (by rfl) ?_;dsimp only));refine dJ rfl (N:=1) rfl (cs:=#[.int .i64 j3, .int .i64 j4, .slice j6 j5.length j7]) (t:=32) rn_ ?_;intro j8 hg w4 hbox hb;have j9:=am (hbox);have jm:=am ((by rw [hg];exact (aJ gK):w.heap.size≤j8));have GE20:=am ((by rw [hg];exact (aJ gK):w.heap.size≤j8));replace HB:=am (aG gK hb);clear hb hbox hg;obtain ⟨ja,jb,jc,jd,je,jf⟩:=fZ j9.out))
 have H:=HH_.out
 clear HH_
 by_cases c2:j3=0
 ·rw [if_pos c2] at H
  have jg:(j3 == 0)=true:=beq_iff_eq.mpr c2
  have jh:(j3 != 0)=false:=bne_eq_false_iff_eq.mpr c2
  clear c2
  by_cases c3:j4=0
  ·rw [if_pos c3] at H
   have ji:(j4 == 0)=true:=beq_iff_eq.mpr c3
   have jj:(j4 != 0)=false:=bne_eq_false_iff_eq.mpr c3
   clear c3
   obtain rfl:=Option.some.inj H
   go_wp2
   go_ret
   exact ⟨rr_,ND⟩
  rw [if_neg c3] at H
  have ji:(j4 == 0)=false:=beq_eq_false_iff_ne.mpr c3
  have jj:(j4 != 0)=true:=bne_iff_ne.mpr c3
  obtain rfl:=Option.some.inj H
  go_wp2
  go_ret
  exact ⟨rr_,ND⟩
 rw [if_neg c2] at H
 have jg:(j3 == 0)=false:=beq_eq_false_iff_ne.mpr c2
 have jh:(j3 != 0)=true:=bne_iff_ne.mpr c2
 obtain rfl:=Option.some.inj H
 go_wp2
 go_ret
 exact ⟨rr_,ND⟩
theorem dY.mono_l:∀ k,(∀ y0 y1 y2 y3 y4 y5 y6 y7 y8,LeO (dY.j0 k y0 y1 y2 y3 y4 y5 y6 y7 y8) (dY.j0 (k + 1) y0 y1 y2 y3 y4 y5 y6 y7 y8))
 |0=>fun _ _ _ _ _ _ _ _ _ r h=>by simp [dY.j0] at h
 |k + 1=>by
  have ih0:=dY.mono_l k
  ·intro y0 y1 y2 y3 y4 y5 y6 y7 y8
   unfold dY.j0
   have m0:=@fA.mono
   exact mo_
theorem dY.mono:∀ a0 a1 a2 a3 a4 a5 a6 a7 k,LeO (dY.f k a0 a1 a2 a3 a4 a5 a6 a7) (dY.f (k + 1) a0 a1 a2 a3 a4 a5 a6 a7):=by
 intro a0 a1 a2 a3 a4 a5 a6 a7 k
 have ih0:=dY.mono_l k
 unfold dY.f
 have m0:=@fA.mono
 exact mo_
theorem dY.calls (k:Nat) (j4:Int) (ja:Int) (jb:Int) (j7:Int) (j8:Int) (ji:Option Addr) (jj:Nat) (j6:List (S32)) (jk:Option Addr) (jl:Nat) (j5:List (S35)) (jm:Option Addr) (jn:Nat) (j9:List (S35)) (r:Bool) (w:World) (hr0_5:Kd.C k32 w ji j6.length j6) (hc0_5:j6.length≤jj) (hr0_6:Kd.C k35 w jk j5.length j5) (hc0_6:j5.length≤jl) (hr0_7:Kd.C k35 w jm j9.length j9) (hc0_7:j9.length≤jn) (h:dY.f k j4 ja jb j7 j8 j6 j5 j9=some r):
  Calls Try.prog 108 #[.agg #[.int .i64 j4, .int .i64 ja, .int .i64 jb, .int .i64 j7, .int .i64 j8, .slice ji j6.length jj, .slice jk j5.length jl, .slice jm j9.length jn]] w fun e w'=>e= .returned (.bool r)∧Below w.heap.size w w':=by
 have hu35:=Try.underlying35
 have hu32:=Try.underlying32
 have jc:=am hr0_5
 have jd:=am hc0_5
 clear hr0_5 hc0_5
 have je:=am hr0_6
 have jf:=am hc0_6
 clear hr0_6 hc0_6
 have jg:=am hr0_7
 have jh:=am hc0_7
 clear hr0_7 hc0_7
 have HB:=am (Below.refl w.heap.size w)
 have H:(if (j5.length:Int) > 0 then (dY.j0 k true j4 ja jb j7 j8 j6 j5 j9) else (dY.j0 k (decide ((j9.length:Int) > 0)) j4 ja jb j7 j8 j6 j5 j9))=some r:=h
 clear h
 have VZ:=am H
 clear H
 go_enter Try.func108,Try.ntmps108
 go_upto_region 1 with (first|((with_reducible refine bQ (N:=1) rfl ?_);(try (refine kQ (by rfl) ?_;dsimp only));refine dJ rfl (N:=1) rfl (cs:=#[.int .i64 j4, .int .i64 ja, .int .i64 jb, .int .i64 j7, .int .i64 j8, .slice ji j6.length jj, .slice jk j5.length jl, .slice jm j9.length jn]) (t:=35) rn_ ?_;intro jq hg w3 hbox hb;have j3:=am (hbox);have XY:=am ((by rw [hg];exact (aJ gK):w.heap.size≤jq));have GE99:=am ((by rw [hg];exact (aJ gK):w.heap.size≤jq));replace HB:=am (aG gK hb);clear hb hbox hg))
 (try simp only [Act.put,List.setIfInBounds_toArray,List.set_cons_zero,List.set_cons_succ])
 go_cut [12] (fun XZ wc=>∃ (kq:Nat) (jo:Bool),XZ= .bool jo∧Aside0 (dY.j0 kq jo j4 ja jb j7 j8 j6 j5 j9=some r)∧Aside0 (kq≤k)∧Aside0 (wc.heap[jq]?=some (.cells #[.int .i64 j4, .int .i64 ja, .int .i64 jb, .int .i64 j7, .int .i64 j8,(.slice ji j6.length jj),(.slice jk j5.length jl),(.slice jm j9.length jn)] 35 (0,0)))∧Aside0 (Below w.heap.size w wc))
 case first=>
  have H:=VZ.out
  clear VZ
  by_cases c4:(j5.length:Int) > 0
  ·rw [if_pos c4] at H
   have jp:decide (0 < (j5.length:Int))=true:=decide_eq_true c4
   have X0:decide (0 < j5.length)=true:=decide_eq_true (by omega)
   clear c4
   (first|rw [jp]|(simp only [dS,dV];rw [jp])|skip)
   have H':=am H
   clear H
   obtain ⟨X1,X2,X3,X4,X5,X6,X7,X8,X9,Xa,Xb,Xc,Xd,Xe,Xf,Xg⟩:=eX j3.out
   go_wp2
   go_meet
   case rel=>exact ⟨_,(true),sd_,H',⟨by first|omega|exact Nat.le_refl _⟩,⟨by (with_reducible repeat (first|refine dQ ?_ _|refine bT ?_|refine dF ?_ _));exact j3.out⟩,⟨kX⟩⟩
  rw [if_neg c4] at H
  have jp:decide (0 < (j5.length:Int))=false:=decide_eq_false c4
  have X0:decide (0 < j5.length)=false:=decide_eq_false (by omega)
  clear c4
  (first|rw [jp]|(simp only [dS,dV];rw [jp])|skip)
  have H':=am H
  clear H
  obtain ⟨Xh,Xi,Xj,Xk,Xl,Xm,Xn,Xo,Xp,Xq,Xr,Xs,Xt,Xu,Xv,Xw⟩:=eX j3.out
  go_wp2
  go_meet
  case rel=>exact ⟨_,(decide ((j9.length:Int) > 0)),sd_,H',⟨by first|omega|exact Nat.le_refl _⟩,⟨by (with_reducible repeat (first|refine dQ ?_ _|refine bT ?_|refine dF ?_ _));exact j3.out⟩,⟨kX⟩⟩
 case rest=>
  clear VZ
  obtain ⟨kq,jo,rfl,HA,HJ1,j3,HB⟩:=hcut
  cases kq with
  |zero=>exact absurd HA.out (by simp [dY.j0])
  |succ Xx=>
   have H:=HA.out
   clear HA
   simp only [dY.j0] at H
   by_cases c7:jo=true
   ·subst c7
    rw [if_pos rfl] at H
    obtain rfl:=Option.some.inj H
    go_wp2
    go_ret
    exact ⟨rr_,kX⟩
   replace c7:=Bool.eq_false_iff.mpr c7
   subst c7
   rw [if_neg (show ¬ (false=true) by decide)] at H
   by_cases c8:j4=1
   ·rw [if_pos c8] at H
    have Xy:(j4 == 1)=true:=beq_iff_eq.mpr c8
    have Xz:(j4 != 1)=false:=bne_eq_false_iff_eq.mpr c8
    clear c8
    obtain ⟨XA,A9,H⟩:=bsa H
    (try dsimp only at H)
    by_cases c10:XA=true
    ·subst c10
     rw [if_pos rfl] at H
     obtain ⟨XB,XT,H⟩:=bsa H
     (try dsimp only at H)
     by_cases jQ:XB=true
     ·subst jQ
      rw [if_pos rfl] at H
      obtain ⟨XC,jv,H⟩:=bsm H
      (try dsimp only at H)
      have P0:=am jv
      clear jv
      obtain rfl:=Option.some.inj H
      obtain ⟨jR,jS,jT,jU,jV,jW,jX,jY,jZ,q0,q1,q2,q3,q4,q5,q6⟩:=eX j3.out
      go_wp2_with (first|((with_reducible refine aN (f:=109) rfl ?_);refine gl_ 18 Try.func109 #[.agg #[.int .i64 j4, .int .i64 ja, .int .i64 jb, .int .i64 j7, .int .i64 j8, .slice ji j6.length jj, .slice jk j5.length jl, .slice jm j9.length jn], .bool true] ?_;(with_reducible refine (fH.calls j4 ja jb j7 j8 _ _ j6 _ _ j5 _ _ j9 true true _ (aC_ (Kd.aV jc.out HB.out)) jd.out (aC_ (Kd.aV je.out HB.out)) jf.out (aC_ (Kd.aV jg.out HB.out)) jh.out A9.out).mono ?_);rintro e P5 ⟨rfl,hb⟩;refine ⟨_,rfl,?_⟩;replace j3:=bbP j3 hb;replace HB:=am (aG kX hb);(try clear hb);obtain ⟨q7,q8,q9,qa,qb,qc,qd,qe,qf,qg,qh,qi,qj,qk,ql,qm⟩:=eX j3.out)|(go_at_call 110;(with_reducible refine (gD.calls j4 ja jb j7 j8 _ _ j6 _ _ j5 _ _ j9 false true _ (aC_ (Kd.aV jc.out HB.out)) jd.out (aC_ (Kd.aV je.out HB.out)) jf.out (aC_ (Kd.aV jg.out HB.out)) jh.out XT.out).mono ?_);rintro e P6 ⟨rfl,hb⟩;replace j3:=bbP j3 hb;replace HB:=am (aG kX hb);(try clear hb);obtain ⟨qn,qo,qp,qq,qr,qs,qt,qu,qv,qw,qx,qy,qz,qA,qB,qC⟩:=eX j3.out)|(go_at_call 111;(with_reducible refine (fA.calls Xx j7 j8 _ _ j6 XC _ (aC_ (Kd.aV jc.out HB.out)) jd.out P0.out).mono ?_);rintro e P7 ⟨rfl,hb⟩;replace j3:=bbP j3 hb;replace HB:=am (aG kX hb);(try clear hb)))
      go_ret
      exact ⟨rr_,kX⟩
     replace jQ:=Bool.eq_false_iff.mpr jQ
     subst jQ
     rw [if_neg (show ¬ (false=true) by decide)] at H
     obtain rfl:=Option.some.inj H
     obtain ⟨qD,qE,qF,qG,qH,qI,qJ,qK,qL,qM,qN,qO,qP,qQ,qR,qS⟩:=eX j3.out
     go_wp2_with (first|((with_reducible refine aN (f:=109) rfl ?_);refine gl_ 18 Try.func109 #[.agg #[.int .i64 j4, .int .i64 ja, .int .i64 jb, .int .i64 j7, .int .i64 j8, .slice ji j6.length jj, .slice jk j5.length jl, .slice jm j9.length jn], .bool true] ?_;(with_reducible refine (fH.calls j4 ja jb j7 j8 _ _ j6 _ _ j5 _ _ j9 true true _ (aC_ (Kd.aV jc.out HB.out)) jd.out (aC_ (Kd.aV je.out HB.out)) jf.out (aC_ (Kd.aV jg.out HB.out)) jh.out A9.out).mono ?_);rintro e P8 ⟨rfl,hb⟩;refine ⟨_,rfl,?_⟩;replace j3:=bbP j3 hb;replace HB:=am (aG kX hb);(try clear hb);obtain ⟨qT,qU,qV,qW,qX,qY,qZ,z0,z1,z2,z3,z4,z5,z6,z7,z8⟩:=eX j3.out)|(go_at_call 110;(with_reducible refine (gD.calls j4 ja jb j7 j8 _ _ j6 _ _ j5 _ _ j9 false false _ (aC_ (Kd.aV jc.out HB.out)) jd.out (aC_ (Kd.aV je.out HB.out)) jf.out (aC_ (Kd.aV jg.out HB.out)) jh.out XT.out).mono ?_);rintro e P9 ⟨rfl,hb⟩;replace j3:=bbP j3 hb;replace HB:=am (aG kX hb);(try clear hb)))
     go_ret
     exact ⟨rr_,kX⟩
    replace c10:=Bool.eq_false_iff.mpr c10
    subst c10
    rw [if_neg (show ¬ (false=true) by decide)] at H
    obtain rfl:=Option.some.inj H
    obtain ⟨z9,za,zb,zc,zd,ze,zf,zg,zh,zi,zj,zk,zl,zm,zn,zo⟩:=eX j3.out
    go_wp2_with (first|((with_reducible refine aN (f:=109) rfl ?_);refine gl_ 18 Try.func109 #[.agg #[.int .i64 j4, .int .i64 ja, .int .i64 jb, .int .i64 j7, .int .i64 j8, .slice ji j6.length jj, .slice jk j5.length jl, .slice jm j9.length jn], .bool true] ?_;(with_reducible refine (fH.calls j4 ja jb j7 j8 _ _ j6 _ _ j5 _ _ j9 true false _ (aC_ (Kd.aV jc.out HB.out)) jd.out (aC_ (Kd.aV je.out HB.out)) jf.out (aC_ (Kd.aV jg.out HB.out)) jh.out A9.out).mono ?_);rintro e Pa ⟨rfl,hb⟩;refine ⟨_,rfl,?_⟩;replace j3:=bbP j3 hb;replace HB:=am (aG kX hb);(try clear hb)))
    go_ret
    exact ⟨rr_,kX⟩
   rw [if_neg c8] at H
   have Xy:(j4 == 1)=false:=beq_eq_false_iff_ne.mpr c8
   have Xz:(j4 != 1)=true:=bne_iff_ne.mpr c8
   by_cases jr:j4=4
   ·rw [if_pos jr] at H
    have jw:(j4 == 4)=true:=beq_iff_eq.mpr jr
    have jx:(j4 != 4)=false:=bne_eq_false_iff_eq.mpr jr
    clear jr
    obtain ⟨XD,jy,H⟩:=bsm H
    (try dsimp only at H)
    have XE:=am jy
    clear jy
    by_cases zp:XD=true
    ·subst zp
     rw [if_pos rfl] at H
     obtain ⟨XF,jz,H⟩:=bsm H
     (try dsimp only at H)
     have XU:=am jz
     clear jz
     by_cases zq:XF=true
     ·subst zq
      rw [if_pos rfl] at H
      obtain ⟨XG,jA,H⟩:=bsm H
      (try dsimp only at H)
      have P1:=am jA
      clear jA
      obtain rfl:=Option.some.inj H
      obtain ⟨zr,zs,zt,zu,zv,zw,zx,zy,zz,zA,zB,zC,zD,zE,zF,zG⟩:=eX j3.out
      go_wp2_with (first|((with_reducible refine aN (f:=109) rfl ?_);refine gl_ 31 Try.func109 #[.agg #[.int .i64 j4, .int .i64 ja, .int .i64 jb, .int .i64 j7, .int .i64 j8, .slice ji j6.length jj, .slice jk j5.length jl, .slice jm j9.length jn], .bool false] ?_;(with_reducible refine (fH.calls j4 ja jb j7 j8 _ _ j6 _ _ j5 _ _ j9 false true _ (aC_ (Kd.aV jc.out HB.out)) jd.out (aC_ (Kd.aV je.out HB.out)) jf.out (aC_ (Kd.aV jg.out HB.out)) jh.out XE.out).mono ?_);rintro e Pb ⟨rfl,hb⟩;refine ⟨_,rfl,?_⟩;replace j3:=bbP j3 hb;replace HB:=am (aG kX hb);(try clear hb);obtain ⟨zH,zI,zJ,zK,zL,zM,zN,zO,zP,zQ,zR,zS,zT,zU,zV,zW⟩:=eX j3.out)|(go_at_call 110;(with_reducible refine (gD.calls j4 ja jb j7 j8 _ _ j6 _ _ j5 _ _ j9 true true _ (aC_ (Kd.aV jc.out HB.out)) jd.out (aC_ (Kd.aV je.out HB.out)) jf.out (aC_ (Kd.aV jg.out HB.out)) jh.out XU.out).mono ?_);rintro e Pc ⟨rfl,hb⟩;replace j3:=bbP j3 hb;replace HB:=am (aG kX hb);(try clear hb);obtain ⟨zX,zY,zZ,J0,J1,J2,J3,J4,J5,J6,J7,J8,J9,Ja,Jb,Jc⟩:=eX j3.out)|(go_at_call 111;(with_reducible refine (fA.calls Xx j7 j8 _ _ j6 XG _ (aC_ (Kd.aV jc.out HB.out)) jd.out P1.out).mono ?_);rintro e Pd ⟨rfl,hb⟩;replace j3:=bbP j3 hb;replace HB:=am (aG kX hb);(try clear hb)))
      go_ret
      exact ⟨rr_,kX⟩
     replace zq:=Bool.eq_false_iff.mpr zq
     subst zq
     rw [if_neg (show ¬ (false=true) by decide)] at H
     obtain rfl:=Option.some.inj H
     obtain ⟨Jd,Je,Jf,Jg,Jh,Ji,Jj,Jk,Jl,Jm,Jn,Jo,Jp,Jq,Jr,Js⟩:=eX j3.out
     go_wp2_with (first|((with_reducible refine aN (f:=109) rfl ?_);refine gl_ 31 Try.func109 #[.agg #[.int .i64 j4, .int .i64 ja, .int .i64 jb, .int .i64 j7, .int .i64 j8, .slice ji j6.length jj, .slice jk j5.length jl, .slice jm j9.length jn], .bool false] ?_;(with_reducible refine (fH.calls j4 ja jb j7 j8 _ _ j6 _ _ j5 _ _ j9 false true _ (aC_ (Kd.aV jc.out HB.out)) jd.out (aC_ (Kd.aV je.out HB.out)) jf.out (aC_ (Kd.aV jg.out HB.out)) jh.out XE.out).mono ?_);rintro e Pe ⟨rfl,hb⟩;refine ⟨_,rfl,?_⟩;replace j3:=bbP j3 hb;replace HB:=am (aG kX hb);(try clear hb);obtain ⟨Jt,Ju,Jv,Jw,Jx,Jy,Jz,JA,JB,JC,JD,JE,JF,JG,JH,JI⟩:=eX j3.out)|(go_at_call 110;(with_reducible refine (gD.calls j4 ja jb j7 j8 _ _ j6 _ _ j5 _ _ j9 true false _ (aC_ (Kd.aV jc.out HB.out)) jd.out (aC_ (Kd.aV je.out HB.out)) jf.out (aC_ (Kd.aV jg.out HB.out)) jh.out XU.out).mono ?_);rintro e Pf ⟨rfl,hb⟩;replace j3:=bbP j3 hb;replace HB:=am (aG kX hb);(try clear hb)))
     go_ret
     exact ⟨rr_,kX⟩
    replace zp:=Bool.eq_false_iff.mpr zp
    subst zp
    rw [if_neg (show ¬ (false=true) by decide)] at H
    obtain rfl:=Option.some.inj H
    obtain ⟨JJ,JK,JL,JM,JN,JO,JP,JQ,JR,JS,JT,JU,JV,JW,JX,JY⟩:=eX j3.out
    go_wp2_with (first|((with_reducible refine aN (f:=109) rfl ?_);refine gl_ 31 Try.func109 #[.agg #[.int .i64 j4, .int .i64 ja, .int .i64 jb, .int .i64 j7, .int .i64 j8, .slice ji j6.length jj, .slice jk j5.length jl, .slice jm j9.length jn], .bool false] ?_;(with_reducible refine (fH.calls j4 ja jb j7 j8 _ _ j6 _ _ j5 _ _ j9 false false _ (aC_ (Kd.aV jc.out HB.out)) jd.out (aC_ (Kd.aV je.out HB.out)) jf.out (aC_ (Kd.aV jg.out HB.out)) jh.out XE.out).mono ?_);rintro e Pg ⟨rfl,hb⟩;refine ⟨_,rfl,?_⟩;replace j3:=bbP j3 hb;replace HB:=am (aG kX hb);(try clear hb)))
    go_ret
    exact ⟨rr_,kX⟩
   rw [if_neg jr] at H
   have jw:(j4 == 4)=false:=beq_eq_false_iff_ne.mpr jr
   have jx:(j4 != 4)=true:=bne_iff_ne.mpr jr
   by_cases js:j4=5
   ·rw [if_pos js] at H
    have jB:(j4 == 5)=true:=beq_iff_eq.mpr js
    have jC:(j4 != 5)=false:=bne_eq_false_iff_eq.mpr js
    clear js
    obtain ⟨XH,jD,H⟩:=bsm H
    (try dsimp only at H)
    have XI:=am jD
    clear jD
    by_cases JZ:XH=true
    ·subst JZ
     rw [if_pos rfl] at H
     obtain ⟨XJ,jE,H⟩:=bsm H
     (try dsimp only at H)
     have XV:=am jE
     clear jE
     by_cases Q0:XJ=true
     ·subst Q0
      rw [if_pos rfl] at H
      obtain ⟨XK,jF,H⟩:=bsm H
      (try dsimp only at H)
      have P2:=am jF
      clear jF
      obtain rfl:=Option.some.inj H
      obtain ⟨Q1,Q2,Q3,Q4,Q5,Q6,Q7,Q8,Q9,Qa,Qb,Qc,Qd,Qe,Qf,Qg⟩:=eX j3.out
      go_wp2_with (first|((with_reducible refine aN (f:=109) rfl ?_);refine gl_ 44 Try.func109 #[.agg #[.int .i64 j4, .int .i64 ja, .int .i64 jb, .int .i64 j7, .int .i64 j8, .slice ji j6.length jj, .slice jk j5.length jl, .slice jm j9.length jn], .bool true] ?_;(with_reducible refine (fH.calls j4 ja jb j7 j8 _ _ j6 _ _ j5 _ _ j9 true true _ (aC_ (Kd.aV jc.out HB.out)) jd.out (aC_ (Kd.aV je.out HB.out)) jf.out (aC_ (Kd.aV jg.out HB.out)) jh.out XI.out).mono ?_);rintro e Ph ⟨rfl,hb⟩;refine ⟨_,rfl,?_⟩;replace j3:=bbP j3 hb;replace HB:=am (aG kX hb);(try clear hb);obtain ⟨Qh,Qi,Qj,Qk,Ql,Qm,Qn,Qo,Qp,Qq,Qr,Qs,Qt,Qu,Qv,Qw⟩:=eX j3.out)|(go_at_call 110;(with_reducible refine (gD.calls j4 ja jb j7 j8 _ _ j6 _ _ j5 _ _ j9 true true _ (aC_ (Kd.aV jc.out HB.out)) jd.out (aC_ (Kd.aV je.out HB.out)) jf.out (aC_ (Kd.aV jg.out HB.out)) jh.out XV.out).mono ?_);rintro e Pi ⟨rfl,hb⟩;replace j3:=bbP j3 hb;replace HB:=am (aG kX hb);(try clear hb);obtain ⟨Qx,Qy,Qz,QA,QB,QC,QD,QE,QF,QG,QH,QI,QJ,QK,QL,QM⟩:=eX j3.out)|(go_at_call 115;(with_reducible refine (lN.calls j7 j8 _ _ j6 XK _ (aC_ (Kd.aV jc.out HB.out)) jd.out P2.out).mono ?_);rintro e Pj ⟨rfl,hb⟩;replace j3:=bbP j3 hb;replace HB:=am (aG kX hb);(try clear hb)))
      go_ret
      exact ⟨rr_,kX⟩
     replace Q0:=Bool.eq_false_iff.mpr Q0
     subst Q0
     rw [if_neg (show ¬ (false=true) by decide)] at H
     obtain rfl:=Option.some.inj H
     obtain ⟨QN,QO,QP,QQ,QR,QS,QT,QU,QV,QW,QX,QY,QZ,Z0,Z1,Z2⟩:=eX j3.out
     go_wp2_with (first|((with_reducible refine aN (f:=109) rfl ?_);refine gl_ 44 Try.func109 #[.agg #[.int .i64 j4, .int .i64 ja, .int .i64 jb, .int .i64 j7, .int .i64 j8, .slice ji j6.length jj, .slice jk j5.length jl, .slice jm j9.length jn], .bool true] ?_;(with_reducible refine (fH.calls j4 ja jb j7 j8 _ _ j6 _ _ j5 _ _ j9 true true _ (aC_ (Kd.aV jc.out HB.out)) jd.out (aC_ (Kd.aV je.out HB.out)) jf.out (aC_ (Kd.aV jg.out HB.out)) jh.out XI.out).mono ?_);rintro e Pk ⟨rfl,hb⟩;refine ⟨_,rfl,?_⟩;replace j3:=bbP j3 hb;replace HB:=am (aG kX hb);(try clear hb);obtain ⟨Z3,Z4,Z5,Z6,Z7,Z8,Z9,Za,Zb,Zc,Zd,Ze,Zf,Zg,Zh,Zi⟩:=eX j3.out)|(go_at_call 110;(with_reducible refine (gD.calls j4 ja jb j7 j8 _ _ j6 _ _ j5 _ _ j9 true false _ (aC_ (Kd.aV jc.out HB.out)) jd.out (aC_ (Kd.aV je.out HB.out)) jf.out (aC_ (Kd.aV jg.out HB.out)) jh.out XV.out).mono ?_);rintro e Pl ⟨rfl,hb⟩;replace j3:=bbP j3 hb;replace HB:=am (aG kX hb);(try clear hb)))
     go_ret
     exact ⟨rr_,kX⟩
    replace JZ:=Bool.eq_false_iff.mpr JZ
    subst JZ
    rw [if_neg (show ¬ (false=true) by decide)] at H
    obtain rfl:=Option.some.inj H
    obtain ⟨Zj,Zk,Zl,Zm,Zn,Zo,Zp,Zq,Zr,Zs,Zt,Zu,Zv,Zw,Zx,Zy⟩:=eX j3.out
    go_wp2_with (first|((with_reducible refine aN (f:=109) rfl ?_);refine gl_ 44 Try.func109 #[.agg #[.int .i64 j4, .int .i64 ja, .int .i64 jb, .int .i64 j7, .int .i64 j8, .slice ji j6.length jj, .slice jk j5.length jl, .slice jm j9.length jn], .bool true] ?_;(with_reducible refine (fH.calls j4 ja jb j7 j8 _ _ j6 _ _ j5 _ _ j9 true false _ (aC_ (Kd.aV jc.out HB.out)) jd.out (aC_ (Kd.aV je.out HB.out)) jf.out (aC_ (Kd.aV jg.out HB.out)) jh.out XI.out).mono ?_);rintro e Pm ⟨rfl,hb⟩;refine ⟨_,rfl,?_⟩;replace j3:=bbP j3 hb;replace HB:=am (aG kX hb);(try clear hb)))
    go_ret
    exact ⟨rr_,kX⟩
   rw [if_neg js] at H
   have jB:(j4 == 5)=false:=beq_eq_false_iff_ne.mpr js
   have jC:(j4 != 5)=true:=bne_iff_ne.mpr js
   by_cases jt:j4=6
   ·rw [if_pos jt] at H
    have jG:(j4 == 6)=true:=beq_iff_eq.mpr jt
    have jH:(j4 != 6)=false:=bne_eq_false_iff_eq.mpr jt
    clear jt
    obtain ⟨XL,jI,H⟩:=bsm H
    (try dsimp only at H)
    have XM:=am jI
    clear jI
    by_cases Zz:XL=true
    ·subst Zz
     rw [if_pos rfl] at H
     obtain ⟨XN,jJ,H⟩:=bsm H
     (try dsimp only at H)
     have XW:=am jJ
     clear jJ
     by_cases ZA:XN=true
     ·subst ZA
      rw [if_pos rfl] at H
      obtain ⟨XO,jK,H⟩:=bsm H
      (try dsimp only at H)
      have P3:=am jK
      clear jK
      obtain rfl:=Option.some.inj H
      obtain ⟨ZB,ZC,ZD,ZE,ZF,ZG,ZH,ZI,ZJ,ZK,ZL,ZM,ZN,ZO,ZP,ZQ⟩:=eX j3.out
      go_wp2_with (first|((with_reducible refine aN (f:=109) rfl ?_);refine gl_ 57 Try.func109 #[.agg #[.int .i64 j4, .int .i64 ja, .int .i64 jb, .int .i64 j7, .int .i64 j8, .slice ji j6.length jj, .slice jk j5.length jl, .slice jm j9.length jn], .bool false] ?_;(with_reducible refine (fH.calls j4 ja jb j7 j8 _ _ j6 _ _ j5 _ _ j9 false true _ (aC_ (Kd.aV jc.out HB.out)) jd.out (aC_ (Kd.aV je.out HB.out)) jf.out (aC_ (Kd.aV jg.out HB.out)) jh.out XM.out).mono ?_);rintro e Pn ⟨rfl,hb⟩;refine ⟨_,rfl,?_⟩;replace j3:=bbP j3 hb;replace HB:=am (aG kX hb);(try clear hb);obtain ⟨ZR,ZS,ZT,ZU,ZV,ZW,ZX,ZY,ZZ,Y0,Y1,Y2,Y3,Y4,Y5,Y6⟩:=eX j3.out)|(go_at_call 110;(with_reducible refine (gD.calls j4 ja jb j7 j8 _ _ j6 _ _ j5 _ _ j9 false true _ (aC_ (Kd.aV jc.out HB.out)) jd.out (aC_ (Kd.aV je.out HB.out)) jf.out (aC_ (Kd.aV jg.out HB.out)) jh.out XW.out).mono ?_);rintro e Po ⟨rfl,hb⟩;replace j3:=bbP j3 hb;replace HB:=am (aG kX hb);(try clear hb);obtain ⟨Y7,Y8,Y9,Ya,Yb,Yc,Yd,Ye,Yf,Yg,Yh,Yi,Yj,Yk,Yl,Ym⟩:=eX j3.out)|(go_at_call 115;(with_reducible refine (lN.calls j7 j8 _ _ j6 XO _ (aC_ (Kd.aV jc.out HB.out)) jd.out P3.out).mono ?_);rintro e Pp ⟨rfl,hb⟩;replace j3:=bbP j3 hb;replace HB:=am (aG kX hb);(try clear hb)))
      go_ret
      exact ⟨rr_,kX⟩
     replace ZA:=Bool.eq_false_iff.mpr ZA
     subst ZA
     rw [if_neg (show ¬ (false=true) by decide)] at H
     obtain rfl:=Option.some.inj H
     obtain ⟨Yn,Yo,Yp,Yq,Yr,Ys,Yt,Yu,Yv,Yw,Yx,Yy,Yz,YA,YB,YC⟩:=eX j3.out
     go_wp2_with (first|((with_reducible refine aN (f:=109) rfl ?_);refine gl_ 57 Try.func109 #[.agg #[.int .i64 j4, .int .i64 ja, .int .i64 jb, .int .i64 j7, .int .i64 j8, .slice ji j6.length jj, .slice jk j5.length jl, .slice jm j9.length jn], .bool false] ?_;(with_reducible refine (fH.calls j4 ja jb j7 j8 _ _ j6 _ _ j5 _ _ j9 false true _ (aC_ (Kd.aV jc.out HB.out)) jd.out (aC_ (Kd.aV je.out HB.out)) jf.out (aC_ (Kd.aV jg.out HB.out)) jh.out XM.out).mono ?_);rintro e Pq ⟨rfl,hb⟩;refine ⟨_,rfl,?_⟩;replace j3:=bbP j3 hb;replace HB:=am (aG kX hb);(try clear hb);obtain ⟨YD,YE,YF,YG,YH,YI,YJ,YK,YL,YM,YN,YO,YP,YQ,YR,YS⟩:=eX j3.out)|(go_at_call 110;(with_reducible refine (gD.calls j4 ja jb j7 j8 _ _ j6 _ _ j5 _ _ j9 false false _ (aC_ (Kd.aV jc.out HB.out)) jd.out (aC_ (Kd.aV je.out HB.out)) jf.out (aC_ (Kd.aV jg.out HB.out)) jh.out XW.out).mono ?_);rintro e Pr ⟨rfl,hb⟩;replace j3:=bbP j3 hb;replace HB:=am (aG kX hb);(try clear hb)))
     go_ret
     exact ⟨rr_,kX⟩
    replace Zz:=Bool.eq_false_iff.mpr Zz
    subst Zz
    rw [if_neg (show ¬ (false=true) by decide)] at H
    obtain rfl:=Option.some.inj H
    obtain ⟨YT,YU,YV,YW,YX,YY,YZ,U0,U1,U2,U3,U4,U5,U6,U7,U8⟩:=eX j3.out
    go_wp2_with (first|((with_reducible refine aN (f:=109) rfl ?_);refine gl_ 57 Try.func109 #[.agg #[.int .i64 j4, .int .i64 ja, .int .i64 jb, .int .i64 j7, .int .i64 j8, .slice ji j6.length jj, .slice jk j5.length jl, .slice jm j9.length jn], .bool false] ?_;(with_reducible refine (fH.calls j4 ja jb j7 j8 _ _ j6 _ _ j5 _ _ j9 false false _ (aC_ (Kd.aV jc.out HB.out)) jd.out (aC_ (Kd.aV je.out HB.out)) jf.out (aC_ (Kd.aV jg.out HB.out)) jh.out XM.out).mono ?_);rintro e Ps ⟨rfl,hb⟩;refine ⟨_,rfl,?_⟩;replace j3:=bbP j3 hb;replace HB:=am (aG kX hb);(try clear hb)))
    go_ret
    exact ⟨rr_,kX⟩
   rw [if_neg jt] at H
   have jG:(j4 == 6)=false:=beq_eq_false_iff_ne.mpr jt
   have jH:(j4 != 6)=true:=bne_iff_ne.mpr jt
   by_cases ju:j4=7
   ·rw [if_pos ju] at H
    have jL:(j4 == 7)=true:=beq_iff_eq.mpr ju
    have jM:(j4 != 7)=false:=bne_eq_false_iff_eq.mpr ju
    clear ju
    obtain ⟨XP,jN,H⟩:=bsm H
    (try dsimp only at H)
    have XQ:=am jN
    clear jN
    by_cases U9:XP=true
    ·subst U9
     rw [if_pos rfl] at H
     obtain ⟨XR,jO,H⟩:=bsm H
     (try dsimp only at H)
     have XX:=am jO
     clear jO
     by_cases Ua:XR=true
     ·subst Ua
      rw [if_pos rfl] at H
      obtain ⟨XS,jP,H⟩:=bsm H
      (try dsimp only at H)
      have P4:=am jP
      clear jP
      obtain rfl:=Option.some.inj H
      obtain ⟨Ub,Uc,Ud,Ue,Uf,Ug,Uh,Ui,Uj,Uk,Ul,Um,Un,Uo,Up,Uq⟩:=eX j3.out
      go_wp2_with (first|((with_reducible refine aN (f:=109) rfl ?_);refine gl_ 70 Try.func109 #[.agg #[.int .i64 j4, .int .i64 ja, .int .i64 jb, .int .i64 j7, .int .i64 j8, .slice ji j6.length jj, .slice jk j5.length jl, .slice jm j9.length jn], .bool false] ?_;(with_reducible refine (fH.calls j4 ja jb j7 j8 _ _ j6 _ _ j5 _ _ j9 false true _ (aC_ (Kd.aV jc.out HB.out)) jd.out (aC_ (Kd.aV je.out HB.out)) jf.out (aC_ (Kd.aV jg.out HB.out)) jh.out XQ.out).mono ?_);rintro e Pt ⟨rfl,hb⟩;refine ⟨_,rfl,?_⟩;replace j3:=bbP j3 hb;replace HB:=am (aG kX hb);(try clear hb);obtain ⟨Ur,Us,Ut,Uu,Uv,Uw,Ux,Uy,Uz,UA,UB,UC,UD,UE,UF,UG⟩:=eX j3.out)|(go_at_call 110;(with_reducible refine (gD.calls j4 ja jb j7 j8 _ _ j6 _ _ j5 _ _ j9 false true _ (aC_ (Kd.aV jc.out HB.out)) jd.out (aC_ (Kd.aV je.out HB.out)) jf.out (aC_ (Kd.aV jg.out HB.out)) jh.out XX.out).mono ?_);rintro e Pu ⟨rfl,hb⟩;replace j3:=bbP j3 hb;replace HB:=am (aG kX hb);(try clear hb);obtain ⟨UH,UI,UJ,UK,UL,UM,UN,UO,UP,UQ,UR,US,UT,UU,UV,UW⟩:=eX j3.out)|(go_at_call 111;(with_reducible refine (fA.calls Xx j7 j8 _ _ j6 XS _ (aC_ (Kd.aV jc.out HB.out)) jd.out P4.out).mono ?_);rintro e Pv ⟨rfl,hb⟩;replace j3:=bbP j3 hb;replace HB:=am (aG kX hb);(try clear hb)))
      go_ret
      exact ⟨rr_,kX⟩
     replace Ua:=Bool.eq_false_iff.mpr Ua
     subst Ua
     rw [if_neg (show ¬ (false=true) by decide)] at H
     obtain rfl:=Option.some.inj H
     obtain ⟨UX,UY,UZ,V0,V1,V2,V3,V4,V5,V6,V7,V8,V9,Va,Vb,Vc⟩:=eX j3.out
     go_wp2_with (first|((with_reducible refine aN (f:=109) rfl ?_);refine gl_ 70 Try.func109 #[.agg #[.int .i64 j4, .int .i64 ja, .int .i64 jb, .int .i64 j7, .int .i64 j8, .slice ji j6.length jj, .slice jk j5.length jl, .slice jm j9.length jn], .bool false] ?_;(with_reducible refine (fH.calls j4 ja jb j7 j8 _ _ j6 _ _ j5 _ _ j9 false true _ (aC_ (Kd.aV jc.out HB.out)) jd.out (aC_ (Kd.aV je.out HB.out)) jf.out (aC_ (Kd.aV jg.out HB.out)) jh.out XQ.out).mono ?_);rintro e Pw ⟨rfl,hb⟩;refine ⟨_,rfl,?_⟩;replace j3:=bbP j3 hb;replace HB:=am (aG kX hb);(try clear hb);obtain ⟨Vd,Ve,Vf,Vg,Vh,Vi,Vj,Vk,Vl,Vm,Vn,Vo,Vp,Vq,Vr,Vs⟩:=eX j3.out)|(go_at_call 110;(with_reducible refine (gD.calls j4 ja jb j7 j8 _ _ j6 _ _ j5 _ _ j9 false false _ (aC_ (Kd.aV jc.out HB.out)) jd.out (aC_ (Kd.aV je.out HB.out)) jf.out (aC_ (Kd.aV jg.out HB.out)) jh.out XX.out).mono ?_);rintro e Px ⟨rfl,hb⟩;replace j3:=bbP j3 hb;replace HB:=am (aG kX hb);(try clear hb)))
     go_ret
     exact ⟨rr_,kX⟩
    replace U9:=Bool.eq_false_iff.mpr U9
    subst U9
    rw [if_neg (show ¬ (false=true) by decide)] at H
    obtain rfl:=Option.some.inj H
    obtain ⟨Vt,Vu,Vv,Vw,Vx,Vy,Vz,VA,VB,VC,VD,VE,VF,VG,VH,VI⟩:=eX j3.out
    go_wp2_with (first|((with_reducible refine aN (f:=109) rfl ?_);refine gl_ 70 Try.func109 #[.agg #[.int .i64 j4, .int .i64 ja, .int .i64 jb, .int .i64 j7, .int .i64 j8, .slice ji j6.length jj, .slice jk j5.length jl, .slice jm j9.length jn], .bool false] ?_;(with_reducible refine (fH.calls j4 ja jb j7 j8 _ _ j6 _ _ j5 _ _ j9 false false _ (aC_ (Kd.aV jc.out HB.out)) jd.out (aC_ (Kd.aV je.out HB.out)) jf.out (aC_ (Kd.aV jg.out HB.out)) jh.out XQ.out).mono ?_);rintro e Py ⟨rfl,hb⟩;refine ⟨_,rfl,?_⟩;replace j3:=bbP j3 hb;replace HB:=am (aG kX hb);(try clear hb)))
    go_ret
    exact ⟨rr_,kX⟩
   rw [if_neg ju] at H
   have jL:(j4 == 7)=false:=beq_eq_false_iff_ne.mpr ju
   have jM:(j4 != 7)=true:=bne_iff_ne.mpr ju
   obtain rfl:=Option.some.inj H
   obtain ⟨VJ,VK,VL,VM,VN,VO,VP,VQ,VR,VS,VT,VU,VV,VW,VX,VY⟩:=eX j3.out
   go_wp2
   go_ret
   exact ⟨rr_,kX⟩
theorem dI.mono_all:∀ k,(∀ y0 y1 y2 y3 y4 y5 y6 y7 y8,LeO (dI.f k y0 y1 y2 y3 y4 y5 y6 y7 y8) (dI.f (k + 1) y0 y1 y2 y3 y4 y5 y6 y7 y8))∧(∀ y0 y1 y2 y3 y4 y5 y6 y7 y8 y9,LeO (dI.j0 k y0 y1 y2 y3 y4 y5 y6 y7 y8 y9) (dI.j0 (k + 1) y0 y1 y2 y3 y4 y5 y6 y7 y8 y9))∧(∀ y0 y1 y2 y3 y4 y5 y6 y7 y8 y9,LeO (dI.j1 k y0 y1 y2 y3 y4 y5 y6 y7 y8 y9) (dI.j1 (k + 1) y0 y1 y2 y3 y4 y5 y6 y7 y8 y9))∧(∀ y0 y1,LeO (dB.f k y0 y1) (dB.f (k + 1) y0 y1))∧(∀ y0 y1 y2,LeO (dB.l0 k y0 y1 y2) (dB.l0 (k + 1) y0 y1 y2))
 |0=>⟨fun _ _ _ _ _ _ _ _ _ r h=>by simp [dI.f] at h,fun _ _ _ _ _ _ _ _ _ _ r h=>by simp [dI.j0] at h,fun _ _ _ _ _ _ _ _ _ _ r h=>by simp [dI.j1] at h,fun _ _ r h=>by simp [dB.f] at h,fun _ _ _ r h=>by simp [dB.l0] at h⟩
 |k + 1=>by
  obtain ⟨ih0,ih1,ih2,ih3,ih4⟩:=dI.mono_all k
  refine ⟨?_,?_,?_,?_,?_⟩
  ·intro y0 y1 y2 y3 y4 y5 y6 y7 y8
   unfold dI.f
   have m0:=@fA.mono
   have m1:=@dY.mono
   exact mo_
  ·intro y0 y1 y2 y3 y4 y5 y6 y7 y8 y9
   unfold dI.j0
   have m0:=@fA.mono
   have m1:=@dY.mono
   exact mo_
  ·intro y0 y1 y2 y3 y4 y5 y6 y7 y8 y9
   unfold dI.j1
   have m0:=@fA.mono
   have m1:=@dY.mono
   exact mo_
  ·intro y0 y1
   unfold dB.f
   have m0:=@fA.mono
   have m1:=@dY.mono
   exact mo_
  ·intro y0 y1 y2
   unfold dB.l0
   have m0:=@fA.mono
   have m1:=@dY.mono
   exact mo_
theorem dI.mono:∀ a0 a1 a2 a3 a4 a5 a6 a7 a8 k,LeO (dI.f k a0 a1 a2 a3 a4 a5 a6 a7 a8) (dI.f (k + 1) a0 a1 a2 a3 a4 a5 a6 a7 a8):=by
 intro a0 a1 a2 a3 a4 a5 a6 a7 a8 k
 obtain ⟨ih0,ih1,ih2,ih3,ih4⟩:=dI.mono_all k
 exact ih0 a0 a1 a2 a3 a4 a5 a6 a7 a8
theorem dB.mono:∀ a0 a1 k,LeO (dB.f k a0 a1) (dB.f (k + 1) a0 a1):=by
 intro a0 a1 k
 obtain ⟨ih0,ih1,ih2,ih3,ih4⟩:=dI.mono_all k
 exact ih3 a0 a1
abbrev dI.fK (k:Nat):Prop:=∀ (a0_0:Int) (a0_1:Int) (a0_2:Int) (a0_3:Int) (a0_4:Int) (A0_5:Option Addr) (c0_5:Nat) (l0_5:List (S32)) (A0_6:Option Addr) (c0_6:Nat) (l0_6:List (S35)) (A0_7:Option Addr) (c0_7:Nat) (l0_7:List (S35)) (a1:Int) (r:Bool) (w:World) (hr0_5:Kd.C k32 w A0_5 l0_5.length l0_5) (hc0_5:l0_5.length≤c0_5) (hr0_6:Kd.C k35 w A0_6 l0_6.length l0_6) (hc0_6:l0_6.length≤c0_6) (hr0_7:Kd.C k35 w A0_7 l0_7.length l0_7) (hc0_7:l0_7.length≤c0_7) (h:dI.f k a0_0 a0_1 a0_2 a0_3 a0_4 l0_5 l0_6 l0_7 a1=some r),
  Calls Try.prog 95 #[.agg #[.int .i64 a0_0, .int .i64 a0_1, .int .i64 a0_2, .int .i64 a0_3, .int .i64 a0_4, .slice A0_5 l0_5.length c0_5, .slice A0_6 l0_6.length c0_6, .slice A0_7 l0_7.length c0_7], .int .i64 a1] w fun e w'=>e= .returned (.bool r)∧Below w.heap.size w w'
abbrev dB.fK (k:Nat):Prop:=∀ (A0:Option Addr) (c0:Nat) (l0:List (S35)) (a1:Int) (r:Bool) (w:World) (hr0:Kd.C k35 w A0 l0.length l0) (hc0:l0.length≤c0) (h:dB.f k l0 a1=some r),
  Calls Try.prog 79 #[.slice A0 l0.length c0, .int .i64 a1] w fun e w'=>e= .returned (.bool r)∧Below w.heap.size w w'
theorem dI.step (k:Nat) (ih_spec_l11Ok:∀ m,m < k→dI.fK m) (ih_spec_l11Blocks:∀ m,m < k→dB.fK m):dI.fK k:=by
 intro j4 ja jb j5 j6 ji jj j7 jk jl j8 jm jn j9 a1 r w hr0_5 hc0_5 hr0_6 hc0_6 hr0_7 hc0_7 h
 cases k with
 |zero=>exact absurd h (by simp [dI.f])
 |succ k=>
 simp only [dI.f] at h
 have hu35:=Try.underlying35
 have hu32:=Try.underlying32
 have jc:=am hr0_5
 have jd:=am hc0_5
 clear hr0_5 hc0_5
 have je:=am hr0_6
 have jf:=am hc0_6
 clear hr0_6 hc0_6
 have jg:=am hr0_7
 have jh:=am hc0_7
 clear hr0_7 hc0_7
 have HB:=am (Below.refl w.heap.size w)
 have H:(if j4=2 then (dI.j0 k a1 false j4 ja jb j5 j6 j7 j8 j9) else (dI.j0 k a1 (j4 != 3) j4 ja jb j5 j6 j7 j8 j9))=some r:=h
 clear h
 have Zk:=am H
 clear H
 go_enter Try.func95,Try.ntmps95
 go_upto_region 1 with (first|((with_reducible refine bQ (N:=2) rfl ?_);(try (refine kQ (by rfl) ?_;dsimp only));refine dJ rfl (N:=2) rfl (cs:=#[.int .i64 j4, .int .i64 ja, .int .i64 jb, .int .i64 j5, .int .i64 j6, .slice ji j7.length jj, .slice jk j8.length jl, .slice jm j9.length jn]) (t:=35) rn_ ?_;intro jt hg w4 hbox hb;have j3:=am (hbox);have GW57:=am ((by rw [hg];exact (aJ gK):w.heap.size≤jt));have GE57:=am ((by rw [hg];exact (aJ gK):w.heap.size≤jt));replace HB:=am (aG gK hb);clear hb hbox hg))
 (try simp only [Act.put,List.setIfInBounds_toArray,List.set_cons_zero,List.set_cons_succ])
 go_cut [12] (fun Y0 wc=>∃ (kq:Nat) (jq:Bool),Y0= .bool jq∧Aside0 (dI.j0 kq a1 jq j4 ja jb j5 j6 j7 j8 j9=some r)∧Aside0 (kq≤k)∧Aside0 (wc.heap[jt]?=some (.cells #[.int .i64 j4, .int .i64 ja, .int .i64 jb, .int .i64 j5, .int .i64 j6,(.slice ji j7.length jj),(.slice jk j8.length jl),(.slice jm j9.length jn)] 35 (0,0)))∧Aside0 (Below w.heap.size w wc))
 case first=>
  have H:=Zk.out
  clear Zk
  by_cases c5:j4=2
  ·rw [if_pos c5] at H
   have js:(j4 == 2)=true:=beq_iff_eq.mpr c5
   have Zl:(j4 != 2)=false:=bne_eq_false_iff_eq.mpr c5
   clear c5
   (first|rw [js]|(simp only [dS,dV];rw [js])|skip)
   have H':=am H
   clear H
   obtain ⟨Zm,Zn,Zo,Zp,Zq,Zr,Zs,Zt,Zu,Zv,Zw,Zx,Zy,Zz,ZA,ZB⟩:=eX j3.out
   go_wp2
   go_meet
   case rel=>exact ⟨_,(false),sd_,H',⟨by first|omega|exact Nat.le_refl _⟩,⟨by (with_reducible repeat (first|refine dQ ?_ _|refine bT ?_|refine dF ?_ _));exact j3.out⟩,⟨mI⟩⟩
  rw [if_neg c5] at H
  have js:(j4 == 2)=false:=beq_eq_false_iff_ne.mpr c5
  have Zl:(j4 != 2)=true:=bne_iff_ne.mpr c5
  (first|rw [js]|(simp only [dS,dV];rw [js])|skip)
  have H':=am H
  clear H
  obtain ⟨ZC,ZD,ZE,ZF,ZG,ZH,ZI,ZJ,ZK,ZL,ZM,ZN,ZO,ZP,ZQ,ZR⟩:=eX j3.out
  go_wp2
  go_meet
  case rel=>exact ⟨_,((j4 != 3)),sd_,H',⟨by first|omega|exact Nat.le_refl _⟩,⟨by (with_reducible repeat (first|refine dQ ?_ _|refine bT ?_|refine dF ?_ _));exact j3.out⟩,⟨mI⟩⟩
 case rest=>
  clear Zk
  obtain ⟨kq,jq,rfl,HA,HJ2,j3,HB⟩:=hcut
  cases kq with
  |zero=>exact absurd HA.out (by simp [dI.j0])
  |succ ZT=>
   have H:=HA.out
   clear HA
   simp only [dI.j0] at H
   by_cases c8:jq=true
   ·subst c8
    rw [if_pos rfl] at H
    obtain ⟨Y1,A9,H⟩:=bsa H
    (try dsimp only at H)
    obtain rfl:=Option.some.inj H
    obtain ⟨jA,jB,jC,jD,jE,jF,jG,jH,jI,jJ,jK,jL,jM,jN,jO,jP⟩:=eX j3.out
    go_wp2_with (first|((with_reducible refine aN (f:=108) rfl ?_);refine gl_ 14 Try.func108 #[.agg #[.int .i64 j4, .int .i64 ja, .int .i64 jb, .int .i64 j5, .int .i64 j6, .slice ji j7.length jj, .slice jk j8.length jl, .slice jm j9.length jn]] ?_;(with_reducible refine (dY.calls ZT j4 ja jb j5 j6 _ _ j7 _ _ j8 _ _ j9 Y1 _ (aC_ (Kd.aV jc.out HB.out)) jd.out (aC_ (Kd.aV je.out HB.out)) jf.out (aC_ (Kd.aV jg.out HB.out)) jh.out A9.out).mono ?_);rintro e Y9 ⟨rfl,hb⟩;refine ⟨_,rfl,?_⟩;replace j3:=bbP j3 hb;replace HB:=am (aG mI hb);(try clear hb)))
    go_ret
    exact ⟨rr_,mI⟩
   replace c8:=Bool.eq_false_iff.mpr c8
   subst c8
   rw [if_neg (show ¬ (false=true) by decide)] at H
   have ju:=am H
   clear H
   go_upto_region 3 with (fail)
   go_cut [27] (fun Y2 wc=>∃ (kq:Nat) (jo:Bool),Y2= .bool jo∧Aside0 (dI.j1 kq a1 jo j4 ja jb j5 j6 j7 j8 j9=some r)∧Aside0 (kq≤ZT)∧Aside0 (wc.heap[jt]?=some (.cells #[.int .i64 j4, .int .i64 ja, .int .i64 jb, .int .i64 j5, .int .i64 j6,(.slice ji j7.length jj),(.slice jk j8.length jl),(.slice jm j9.length jn)] 35 (0,0)))∧Aside0 (Below w.heap.size w wc))
   case first=>
    have H:=ju.out
    clear ju
    by_cases jw:a1 < 1
    ·rw [if_pos jw] at H
     have jp:decide (a1 < 1)=true:=decide_eq_true jw
     clear jw
     (first|rw [jp]|(simp only [dS,dV];rw [jp])|skip)
     have H':=am H
     clear H
     go_wp2
     go_meet
     case rel=>exact ⟨_,(true),sd_,H',⟨by have:=HJ2.out;first|omega|exact Nat.le_refl _⟩,⟨by (with_reducible repeat (first|refine dQ ?_ _|refine bT ?_|refine dF ?_ _));exact j3.out⟩,⟨mI⟩⟩
    rw [if_neg jw] at H
    have jp:decide (a1 < 1)=false:=decide_eq_false jw
    clear jw
    (first|rw [jp]|(simp only [dS,dV];rw [jp])|skip)
    by_cases jv:j4=3
    ·rw [if_pos jv] at H
     have jx:(j4 == 3)=true:=beq_iff_eq.mpr jv
     have jy:(j4 != 3)=false:=bne_eq_false_iff_eq.mpr jv
     clear jv
     have H':=am H
     clear H
     obtain ⟨jQ,jR,jS,jT,jU,jV,jW,jX,jY,jZ,q0,q1,q2,q3,q4,q5⟩:=eX j3.out
     go_wp2
     go_meet
     case rel=>exact ⟨_,(decide ((j9.length:Int) > 0)),sd_,H',⟨by have:=HJ2.out;first|omega|exact Nat.le_refl _⟩,⟨by (with_reducible repeat (first|refine dQ ?_ _|refine bT ?_|refine dF ?_ _));exact j3.out⟩,⟨mI⟩⟩
    rw [if_neg jv] at H
    have jx:(j4 == 3)=false:=beq_eq_false_iff_ne.mpr jv
    have jy:(j4 != 3)=true:=bne_iff_ne.mpr jv
    have H':=am H
    clear H
    obtain ⟨q6,q7,q8,q9,qa,qb,qc,qd,qe,qf,qg,qh,qi,qj,qk,ql⟩:=eX j3.out
    go_wp2
    go_meet
    case rel=>exact ⟨_,(false),sd_,H',⟨by have:=HJ2.out;first|omega|exact Nat.le_refl _⟩,⟨by (with_reducible repeat (first|refine dQ ?_ _|refine bT ?_|refine dF ?_ _));exact j3.out⟩,⟨mI⟩⟩
   case rest=>
    clear ju
    try clear c8
    obtain ⟨kq,jo,rfl,HA,HJ11,j3,HB⟩:=hcut
    cases kq with
    |zero=>exact absurd HA.out (by simp [dI.j1])
    |succ jr=>
     have H:=HA.out
     clear HA
     simp only [dI.j1] at H
     by_cases qm:jo=true
     ·subst qm
      rw [if_pos rfl] at H
      obtain rfl:=Option.some.inj H
      go_wp2
      go_ret
      exact ⟨rr_,mI⟩
     replace qm:=Bool.eq_false_iff.mpr qm
     subst qm
     rw [if_neg (show ¬ (false=true) by decide)] at H
     obtain ⟨Y3,ZU,H⟩:=bsm H
     (try dsimp only at H)
     have jz:=am ZU
     clear ZU
     by_cases qn:Y3=true
     ·subst qn
      rw [if_pos rfl] at H
      obtain ⟨Y4,ZV,H⟩:=bsm H
      (try dsimp only at H)
      have qo:=am ZV
      clear ZV
      by_cases qp:Y4=true
      ·subst qp
       rw [if_pos rfl] at H
       obtain ⟨Y5,ZW,H⟩:=bsm H
       (try dsimp only at H)
       have ZS:=am ZW
       clear ZW
       by_cases qq:Y5=true
       ·subst qq
        rw [if_pos rfl] at H
        obtain ⟨Y6,ZX,H⟩:=bsm H
        (try dsimp only at H)
        have ZY:=am ZX
        clear ZX
        by_cases qr:Y6=true
        ·subst qr
         rw [if_pos rfl] at H
         obtain ⟨Y7,ZZ,H⟩:=bsm H
         (try dsimp only at H)
         have Y8:=am ZZ
         clear ZZ
         obtain rfl:=Option.some.inj H
         obtain ⟨qs,qt,qu,qv,qw,qx,qy,qz,qA,qB,qC,qD,qE,qF,qG,qH⟩:=eX j3.out
         go_wp2_with (first|((with_reducible refine aN (f:=109) rfl ?_);refine gl_ 29 Try.func109 #[.agg #[.int .i64 j4, .int .i64 ja, .int .i64 jb, .int .i64 j5, .int .i64 j6, .slice ji j7.length jj, .slice jk j8.length jl, .slice jm j9.length jn], .bool false] ?_;(with_reducible refine (fH.calls j4 ja jb j5 j6 _ _ j7 _ _ j8 _ _ j9 false true _ (aC_ (Kd.aV jc.out HB.out)) jd.out (aC_ (Kd.aV je.out HB.out)) jf.out (aC_ (Kd.aV jg.out HB.out)) jh.out jz.out).mono ?_);rintro e Ya ⟨rfl,hb⟩;refine ⟨_,rfl,?_⟩;replace j3:=bbP j3 hb;replace HB:=am (aG mI hb);(try clear hb);obtain ⟨qI,qJ,qK,qL,qM,qN,qO,qP,qQ,qR,qS,qT,qU,qV,qW,qX⟩:=eX j3.out)|(go_at_call 110;(with_reducible refine (gD.calls j4 ja jb j5 j6 _ _ j7 _ _ j8 _ _ j9 false true _ (aC_ (Kd.aV jc.out HB.out)) jd.out (aC_ (Kd.aV je.out HB.out)) jf.out (aC_ (Kd.aV jg.out HB.out)) jh.out qo.out).mono ?_);rintro e Yb ⟨rfl,hb⟩;replace j3:=bbP j3 hb;replace HB:=am (aG mI hb);(try clear hb);obtain ⟨qY,qZ,z0,z1,z2,z3,z4,z5,z6,z7,z8,z9,za,zb,zc,zd⟩:=eX j3.out)|(go_at_call 111;(with_reducible refine (fA.calls jr j5 j6 _ _ j7 true _ (aC_ (Kd.aV jc.out HB.out)) jd.out ZS.out).mono ?_);rintro e Yc ⟨rfl,hb⟩;replace j3:=bbP j3 hb;replace HB:=am (aG mI hb);(try clear hb);obtain ⟨ze,zf,zg,zh,zi,zj,zk,zl,zm,zn,zo,zp,zq,zr,zs,zt⟩:=eX j3.out)|(go_at_call 79;(with_reducible refine (ih_spec_l11Blocks jr (by have:=HJ2.out;have:=HJ11.out;omega) _ _ j8 (wrap64 (a1 - 1)) true _ (aC_ (Kd.aV je.out HB.out)) jf.out ZY.out).mono ?_);rintro e Yd ⟨rfl,hb⟩;replace j3:=bbP j3 hb;replace HB:=am (aG mI hb);(try clear hb);obtain ⟨zu,zv,zw,zx,zy,zz,zA,zB,zC,zD,zE,zF,zG,zH,zI,zJ⟩:=eX j3.out)|(go_at_call 79;(with_reducible refine (ih_spec_l11Blocks jr (by have:=HJ2.out;have:=HJ11.out;omega) _ _ j9 (wrap64 (a1 - 1)) Y7 _ (aC_ (Kd.aV jg.out HB.out)) jh.out Y8.out).mono ?_);rintro e Ye ⟨rfl,hb⟩;replace j3:=bbP j3 hb;replace HB:=am (aG mI hb);(try clear hb)))
         go_ret
         exact ⟨rr_,mI⟩
        replace qr:=Bool.eq_false_iff.mpr qr
        subst qr
        rw [if_neg (show ¬ (false=true) by decide)] at H
        obtain rfl:=Option.some.inj H
        obtain ⟨zK,zL,zM,zN,zO,zP,zQ,zR,zS,zT,zU,zV,zW,zX,zY,zZ⟩:=eX j3.out
        go_wp2_with (first|((with_reducible refine aN (f:=109) rfl ?_);refine gl_ 29 Try.func109 #[.agg #[.int .i64 j4, .int .i64 ja, .int .i64 jb, .int .i64 j5, .int .i64 j6, .slice ji j7.length jj, .slice jk j8.length jl, .slice jm j9.length jn], .bool false] ?_;(with_reducible refine (fH.calls j4 ja jb j5 j6 _ _ j7 _ _ j8 _ _ j9 false true _ (aC_ (Kd.aV jc.out HB.out)) jd.out (aC_ (Kd.aV je.out HB.out)) jf.out (aC_ (Kd.aV jg.out HB.out)) jh.out jz.out).mono ?_);rintro e Yf ⟨rfl,hb⟩;refine ⟨_,rfl,?_⟩;replace j3:=bbP j3 hb;replace HB:=am (aG mI hb);(try clear hb);obtain ⟨J0,J1,J2,J3,J4,J5,J6,J7,J8,J9,Ja,Jb,Jc,Jd,Je,Jf⟩:=eX j3.out)|(go_at_call 110;(with_reducible refine (gD.calls j4 ja jb j5 j6 _ _ j7 _ _ j8 _ _ j9 false true _ (aC_ (Kd.aV jc.out HB.out)) jd.out (aC_ (Kd.aV je.out HB.out)) jf.out (aC_ (Kd.aV jg.out HB.out)) jh.out qo.out).mono ?_);rintro e Yg ⟨rfl,hb⟩;replace j3:=bbP j3 hb;replace HB:=am (aG mI hb);(try clear hb);obtain ⟨Jg,Jh,Ji,Jj,Jk,Jl,Jm,Jn,Jo,Jp,Jq,Jr,Js,Jt,Ju,Jv⟩:=eX j3.out)|(go_at_call 111;(with_reducible refine (fA.calls jr j5 j6 _ _ j7 true _ (aC_ (Kd.aV jc.out HB.out)) jd.out ZS.out).mono ?_);rintro e Yh ⟨rfl,hb⟩;replace j3:=bbP j3 hb;replace HB:=am (aG mI hb);(try clear hb);obtain ⟨Jw,Jx,Jy,Jz,JA,JB,JC,JD,JE,JF,JG,JH,JI,JJ,JK,JL⟩:=eX j3.out)|(go_at_call 79;(with_reducible refine (ih_spec_l11Blocks jr (by have:=HJ2.out;have:=HJ11.out;omega) _ _ j8 (wrap64 (a1 - 1)) false _ (aC_ (Kd.aV je.out HB.out)) jf.out ZY.out).mono ?_);rintro e Yi ⟨rfl,hb⟩;replace j3:=bbP j3 hb;replace HB:=am (aG mI hb);(try clear hb)))
        go_ret
        exact ⟨rr_,mI⟩
       replace qq:=Bool.eq_false_iff.mpr qq
       subst qq
       rw [if_neg (show ¬ (false=true) by decide)] at H
       obtain rfl:=Option.some.inj H
       obtain ⟨JM,JN,JO,JP,JQ,JR,JS,JT,JU,JV,JW,JX,JY,JZ,Q0,Q1⟩:=eX j3.out
       go_wp2_with (first|((with_reducible refine aN (f:=109) rfl ?_);refine gl_ 29 Try.func109 #[.agg #[.int .i64 j4, .int .i64 ja, .int .i64 jb, .int .i64 j5, .int .i64 j6, .slice ji j7.length jj, .slice jk j8.length jl, .slice jm j9.length jn], .bool false] ?_;(with_reducible refine (fH.calls j4 ja jb j5 j6 _ _ j7 _ _ j8 _ _ j9 false true _ (aC_ (Kd.aV jc.out HB.out)) jd.out (aC_ (Kd.aV je.out HB.out)) jf.out (aC_ (Kd.aV jg.out HB.out)) jh.out jz.out).mono ?_);rintro e Yj ⟨rfl,hb⟩;refine ⟨_,rfl,?_⟩;replace j3:=bbP j3 hb;replace HB:=am (aG mI hb);(try clear hb);obtain ⟨Q2,Q3,Q4,Q5,Q6,Q7,Q8,Q9,Qa,Qb,Qc,Qd,Qe,Qf,Qg,Qh⟩:=eX j3.out)|(go_at_call 110;(with_reducible refine (gD.calls j4 ja jb j5 j6 _ _ j7 _ _ j8 _ _ j9 false true _ (aC_ (Kd.aV jc.out HB.out)) jd.out (aC_ (Kd.aV je.out HB.out)) jf.out (aC_ (Kd.aV jg.out HB.out)) jh.out qo.out).mono ?_);rintro e Yk ⟨rfl,hb⟩;replace j3:=bbP j3 hb;replace HB:=am (aG mI hb);(try clear hb);obtain ⟨Qi,Qj,Qk,Ql,Qm,Qn,Qo,Qp,Qq,Qr,Qs,Qt,Qu,Qv,Qw,Qx⟩:=eX j3.out)|(go_at_call 111;(with_reducible refine (fA.calls jr j5 j6 _ _ j7 false _ (aC_ (Kd.aV jc.out HB.out)) jd.out ZS.out).mono ?_);rintro e Yl ⟨rfl,hb⟩;replace j3:=bbP j3 hb;replace HB:=am (aG mI hb);(try clear hb)))
       go_ret
       exact ⟨rr_,mI⟩
      replace qp:=Bool.eq_false_iff.mpr qp
      subst qp
      rw [if_neg (show ¬ (false=true) by decide)] at H
      obtain rfl:=Option.some.inj H
      obtain ⟨Qy,Qz,QA,QB,QC,QD,QE,QF,QG,QH,QI,QJ,QK,QL,QM,QN⟩:=eX j3.out
      go_wp2_with (first|((with_reducible refine aN (f:=109) rfl ?_);refine gl_ 29 Try.func109 #[.agg #[.int .i64 j4, .int .i64 ja, .int .i64 jb, .int .i64 j5, .int .i64 j6, .slice ji j7.length jj, .slice jk j8.length jl, .slice jm j9.length jn], .bool false] ?_;(with_reducible refine (fH.calls j4 ja jb j5 j6 _ _ j7 _ _ j8 _ _ j9 false true _ (aC_ (Kd.aV jc.out HB.out)) jd.out (aC_ (Kd.aV je.out HB.out)) jf.out (aC_ (Kd.aV jg.out HB.out)) jh.out jz.out).mono ?_);rintro e Ym ⟨rfl,hb⟩;refine ⟨_,rfl,?_⟩;replace j3:=bbP j3 hb;replace HB:=am (aG mI hb);(try clear hb);obtain ⟨QO,QP,QQ,QR,QS,QT,QU,QV,QW,QX,QY,QZ,Z0,Z1,Z2,Z3⟩:=eX j3.out)|(go_at_call 110;(with_reducible refine (gD.calls j4 ja jb j5 j6 _ _ j7 _ _ j8 _ _ j9 false false _ (aC_ (Kd.aV jc.out HB.out)) jd.out (aC_ (Kd.aV je.out HB.out)) jf.out (aC_ (Kd.aV jg.out HB.out)) jh.out qo.out).mono ?_);rintro e Yn ⟨rfl,hb⟩;replace j3:=bbP j3 hb;replace HB:=am (aG mI hb);(try clear hb)))
      go_ret
      exact ⟨rr_,mI⟩
     replace qn:=Bool.eq_false_iff.mpr qn
     subst qn
     rw [if_neg (show ¬ (false=true) by decide)] at H
     obtain rfl:=Option.some.inj H
     obtain ⟨Z4,Z5,Z6,Z7,Z8,Z9,Za,Zb,Zc,Zd,Ze,Zf,Zg,Zh,Zi,Zj⟩:=eX j3.out
     go_wp2_with (first|((with_reducible refine aN (f:=109) rfl ?_);refine gl_ 29 Try.func109 #[.agg #[.int .i64 j4, .int .i64 ja, .int .i64 jb, .int .i64 j5, .int .i64 j6, .slice ji j7.length jj, .slice jk j8.length jl, .slice jm j9.length jn], .bool false] ?_;(with_reducible refine (fH.calls j4 ja jb j5 j6 _ _ j7 _ _ j8 _ _ j9 false false _ (aC_ (Kd.aV jc.out HB.out)) jd.out (aC_ (Kd.aV je.out HB.out)) jf.out (aC_ (Kd.aV jg.out HB.out)) jh.out jz.out).mono ?_);rintro e Yo ⟨rfl,hb⟩;refine ⟨_,rfl,?_⟩;replace j3:=bbP j3 hb;replace HB:=am (aG mI hb);(try clear hb)))
     go_ret
     exact ⟨rr_,mI⟩
theorem dB.step (k:Nat) (ih_spec_l11Ok:∀ m,m < k→dI.fK m) (ih_spec_l11Blocks:∀ m,m < k→dB.fK m):dB.fK k:=by
 intro A0 c0 l0 a1 r w hr0 hc0 h
 cases k with
 |zero=>exact absurd h (by simp [dB.f])
 |succ k=>
 simp only [dB.f] at h
 have hu35:=Try.underlying35
 have ju:=am hr0
 have jx:=am hc0
 clear hr0 hc0
 have HB:=am (Below.refl w.heap.size w)
 have H:(dB.l0 k l0 a1 0)=some r:=h
 clear h
 have H':=am H
 clear H
 go_enter Try.func79,Try.ntmps79
 go_wp2
 go_loopg [5] k (fun kq v5 w'=>∃ (j3:Int),v5= .int .i64 j3∧Aside0 (dB.l0 kq l0 a1 j3=some r)∧Aside0 (kq≤k)∧Aside0 (Below w.heap.size w w'))
 case atStart=>exact ⟨(0),sd_,H',⟨Nat.le_refl _⟩,⟨gK⟩⟩
 case round=>
  clear H'
  obtain ⟨j3,rfl,HA,jq,HB⟩:=hrel
  cases gk with
  |zero=>exact absurd HA.out (by simp [dB.l0])
  |succ k1=>
   have H:=HA.out
   clear HA
   simp only [dB.l0] at H
   by_cases c3:j3 < (l0.length:Int)
   ·rw [if_pos c3] at H
    have jr:decide (j3 < (l0.length:Int))=true:=decide_eq_true c3
    clear c3
    by_cases c4:0≤j3
    ·rw [if_pos c4] at H
     have jv:decide (0≤j3)=true:=decide_eq_true c4
     clear c4
     obtain ⟨jw,A5,H⟩:=bsa H
     (try dsimp only at H)
     by_cases c6:jw=true
     ·subst c6
      rw [if_pos rfl] at H
      have H':=am H
      clear H
      have jo:0≤(j3:Int):=of_decide_eq_true gL
      have jp:j3 < (l0.length:Int):=of_decide_eq_true gL
      obtain ⟨js,ji,jj,jk,jl,jm,jn,jt,j4,j5,j6,j7,j8,j9,ja,jb,hl21_5,hi21_5,hl21_6,hi21_6,hl21_7,hi21_7⟩:=uS ju.out j3 jo jp
      cases jt
      replace j4:=(HB.out.cell (World.block_lt_of_cell? w _ j4)).trans j4
      replace j5:=(HB.out.cell (World.block_lt_of_cell? w _ j5)).trans j5
      replace j6:=(HB.out.cell (World.block_lt_of_cell? w _ j6)).trans j6
      replace j7:=(HB.out.cell (World.block_lt_of_cell? w _ j7)).trans j7
      replace j8:=(HB.out.cell (World.block_lt_of_cell? w _ j8)).trans j8
      replace j9:=(HB.out.cell (World.block_lt_of_cell? w _ j9)).trans j9
      replace ja:=(HB.out.cell (World.block_lt_of_cell? w _ ja)).trans ja
      replace jb:=(HB.out.cell (World.block_lt_of_cell? w _ jb)).trans jb
      have jc:=am hi21_5
      have jd:=am hl21_5
      clear hi21_5 hl21_5
      have je:=am hi21_6
      have jf:=am hl21_6
      clear hi21_6 hl21_6
      have jg:=am hi21_7
      have jh:=am hl21_7
      clear hi21_7 hl21_7
      replace jo:=eq_true jo
      replace jp:=eq_true jp
      go_wp2_with (first|((with_reducible refine aN (f:=95) rfl ?_);refine gl_ 17 Try.func95 #[.agg #[.int .i64 ((aC l0 j3).f0), .int .i64 ((aC l0 j3).f1), .int .i64 ((aC l0 j3).f2), .int .i64 ((aC l0 j3).f3.f0), .int .i64 ((aC l0 j3).f3.f1), .slice ji ((aC l0 j3).f3.f2).length jj, .slice jk ((aC l0 j3).f4).length jl, .slice jm ((aC l0 j3).f5).length jn], .int .i64 a1] ?_;(with_reducible refine (ih_spec_l11Ok k1 (by have:=jq.out;omega) ((aC l0 j3).f0) ((aC l0 j3).f1) ((aC l0 j3).f2) ((aC l0 j3).f3.f0) ((aC l0 j3).f3.f1) _ _ ((aC l0 j3).f3.f2) _ _ ((aC l0 j3).f4) _ _ ((aC l0 j3).f5) a1 true _ (aC_ (Kd.aV jc.out HB.out)) jd.out (aC_ (Kd.aV je.out HB.out)) jf.out (aC_ (Kd.aV jg.out HB.out)) jh.out A5.out).mono ?_);rintro e w7 ⟨rfl,hb⟩;refine ⟨_,rfl,?_⟩;replace HB:=am (aG gK hb);(try clear hb)))
      go_roundg k1
      case measure=>have:=jq.out;omega
      case rel=>exact ⟨(wrap64 (j3 + 1)),sd_,H',⟨by have:=jq.out;omega⟩,⟨gK⟩⟩
     replace c6:=Bool.eq_false_iff.mpr c6
     subst c6
     rw [if_neg (show ¬ (false=true) by decide)] at H
     obtain rfl:=Option.some.inj H
     have jo:0≤(j3:Int):=of_decide_eq_true gL
     have jp:j3 < (l0.length:Int):=of_decide_eq_true gL
     obtain ⟨js,ji,jj,jk,jl,jm,jn,jt,j4,j5,j6,j7,j8,j9,ja,jb,hl21_5,hi21_5,hl21_6,hi21_6,hl21_7,hi21_7⟩:=uS ju.out j3 jo jp
     cases jt
     replace j4:=(HB.out.cell (World.block_lt_of_cell? w _ j4)).trans j4
     replace j5:=(HB.out.cell (World.block_lt_of_cell? w _ j5)).trans j5
     replace j6:=(HB.out.cell (World.block_lt_of_cell? w _ j6)).trans j6
     replace j7:=(HB.out.cell (World.block_lt_of_cell? w _ j7)).trans j7
     replace j8:=(HB.out.cell (World.block_lt_of_cell? w _ j8)).trans j8
     replace j9:=(HB.out.cell (World.block_lt_of_cell? w _ j9)).trans j9
     replace ja:=(HB.out.cell (World.block_lt_of_cell? w _ ja)).trans ja
     replace jb:=(HB.out.cell (World.block_lt_of_cell? w _ jb)).trans jb
     have jc:=am hi21_5
     have jd:=am hl21_5
     clear hi21_5 hl21_5
     have je:=am hi21_6
     have jf:=am hl21_6
     clear hi21_6 hl21_6
     have jg:=am hi21_7
     have jh:=am hl21_7
     clear hi21_7 hl21_7
     replace jo:=eq_true jo
     replace jp:=eq_true jp
     go_wp2_with (first|((with_reducible refine aN (f:=95) rfl ?_);refine gl_ 17 Try.func95 #[.agg #[.int .i64 ((aC l0 j3).f0), .int .i64 ((aC l0 j3).f1), .int .i64 ((aC l0 j3).f2), .int .i64 ((aC l0 j3).f3.f0), .int .i64 ((aC l0 j3).f3.f1), .slice ji ((aC l0 j3).f3.f2).length jj, .slice jk ((aC l0 j3).f4).length jl, .slice jm ((aC l0 j3).f5).length jn], .int .i64 a1] ?_;(with_reducible refine (ih_spec_l11Ok k1 (by have:=jq.out;omega) ((aC l0 j3).f0) ((aC l0 j3).f1) ((aC l0 j3).f2) ((aC l0 j3).f3.f0) ((aC l0 j3).f3.f1) _ _ ((aC l0 j3).f3.f2) _ _ ((aC l0 j3).f4) _ _ ((aC l0 j3).f5) a1 false _ (aC_ (Kd.aV jc.out HB.out)) jd.out (aC_ (Kd.aV je.out HB.out)) jf.out (aC_ (Kd.aV jg.out HB.out)) jh.out A5.out).mono ?_);rintro e w8 ⟨rfl,hb⟩;refine ⟨_,rfl,?_⟩;replace HB:=am (aG gK hb);(try clear hb)))
     go_ret
     exact ⟨rr_,gK⟩
    rw [if_neg c4] at H
    exact absurd H (by simp)
   rw [if_neg c3] at H
   have jr:decide (j3 < (l0.length:Int))=false:=decide_eq_false c3
   clear c3
   obtain rfl:=Option.some.inj H
   go_wp2
   go_ret
   exact ⟨rr_,gK⟩
theorem dI.calls_all (k:Nat):dI.fK k∧dB.fK k:=by
 induction k using Nat.strongRecOn with
 | _ k ih=>exact ⟨dI.step k (ih_spec_l11Ok:=fun m hm=>(ih m hm).1) (ih_spec_l11Blocks:=fun m hm=>(ih m hm).2),dB.step k (ih_spec_l11Ok:=fun m hm=>(ih m hm).1) (ih_spec_l11Blocks:=fun m hm=>(ih m hm).2)⟩
theorem dI.calls (k:Nat):dI.fK k:=(dI.calls_all k).1
theorem dB.calls (k:Nat):dB.fK k:=(dI.calls_all k).2
theorem gI.mono:∀ a0 k,LeO (gI.f k a0) (gI.f (k + 1) a0):=by
 intro a0 k
 unfold gI.f
 have m0:=@dB.mono
 have m1:=@bX.mono
 exact mo_
theorem gI.calls (k:Nat) (A0:Option Addr) (c0:Nat) (l0:List (S35)) (r:Bool) (w:World) (hr0:Kd.C k35 w A0 l0.length l0) (hc0:l0.length≤c0) (h:gI.f k l0=some r):
  Calls Try.prog 47 #[.slice A0 l0.length c0] w fun e w'=>e= .returned (.bool r)∧Below w.heap.size w w':=by
 have j3:=am hr0
 have j4:=am hc0
 clear hr0 hc0
 have HB:=am (Below.refl w.heap.size w)
 have H:((dB.f k l0 3).bind fun j5=>(if j5=true then ((bX.f k l0).bind fun j6=>(some (decide (j6≤16)))) else (some false)))=some r:=h
 clear h
 obtain ⟨j5,A2,H⟩:=bsa H
 (try dsimp only at H)
 by_cases c3:j5=true
 ·subst c3
  rw [if_pos rfl] at H
  obtain ⟨j6,A4,H⟩:=bsa H
  (try dsimp only at H)
  obtain rfl:=Option.some.inj H
  go_enter Try.func47,Try.ntmps47
  go_wp2_with (first|((with_reducible refine aN (f:=79) rfl ?_);refine gl_ 4 Try.func79 #[.slice A0 l0.length c0, .int .i64 3] ?_;(with_reducible refine (dB.calls k _ _ l0 3 true _ (aC_ j3.out) j4.out A2.out).mono ?_);rintro e w5 ⟨rfl,hb⟩;refine ⟨_,rfl,?_⟩;replace HB:=am (aG gK hb);(try clear hb))|(go_at_call 80;(with_reducible refine (bX.calls k _ _ l0 j6 _ (aC_ (Kd.aV j3.out HB.out)) j4.out A4.out).mono ?_);rintro e w6 ⟨rfl,hb⟩;replace HB:=am (aG gK hb);(try clear hb)))
  go_ret
  exact ⟨rr_,gK⟩
 replace c3:=Bool.eq_false_iff.mpr c3
 subst c3
 rw [if_neg (show ¬ (false=true) by decide)] at H
 obtain rfl:=Option.some.inj H
 go_enter Try.func47,Try.ntmps47
 go_wp2_with (first|((with_reducible refine aN (f:=79) rfl ?_);refine gl_ 4 Try.func79 #[.slice A0 l0.length c0, .int .i64 3] ?_;(with_reducible refine (dB.calls k _ _ l0 3 false _ (aC_ j3.out) j4.out A2.out).mono ?_);rintro e w7 ⟨rfl,hb⟩;refine ⟨_,rfl,?_⟩;replace HB:=am (aG gK hb);(try clear hb)))
 go_ret
 exact ⟨rr_,gK⟩
theorem eG.mono_l:∀ k,(∀ y0 y1,LeO (eG.l0 k y0 y1) (eG.l0 (k + 1) y0 y1))
 |0=>fun _ _ r h=>by simp [eG.l0] at h
 |k + 1=>by
  have ih0:=eG.mono_l k
  ·intro y0 y1
   unfold eG.l0
   exact mo_
theorem eG.mono:∀ a0 k,LeO (eG.f k a0) (eG.f (k + 1) a0):=by
 intro a0 k
 have ih0:=eG.mono_l k
 unfold eG.f
 exact mo_
theorem eG.calls (k:Nat) (A0:Option Addr) (c0:Nat) (l0:List Int) (r:Bool) (w:World) (hr0:Kd.C (Kd.int .i64) w A0 l0.length l0) (hc0:l0.length≤c0) (h:eG.f k l0=some r):
  Calls Try.prog 87 #[.slice A0 l0.length c0] w fun e w'=>e= .returned (.bool r)∧iX w w':=by
 have ja:=am hr0
 have je:=am hc0
 clear hr0 hc0
 have H:(eG.l0 k l0 0)=some r:=h
 clear h
 have H':=am H
 clear H
 go_enter Try.func87,Try.ntmps87
 go_wp2
 go_loopg [3] k (fun kq v3 w'=>∃ (j3:Int),v3= .int .i64 j3∧Aside0 (eG.l0 kq l0 j3=some r)∧Aside0 (kq≤k)∧iX w w')
 case atStart=>exact ⟨(0),sd_,H',⟨Nat.le_refl _⟩,gM⟩
 case round=>
  clear H'
  obtain ⟨j3,rfl,HA,jb,⟨m1,rfl⟩⟩:=hrel
  cases gk with
  |zero=>exact absurd HA.out (by simp [eG.l0])
  |succ k1=>
   have H:=HA.out
   clear HA
   simp only [eG.l0] at H
   by_cases c2:j3 < (l0.length:Int)
   ·rw [if_pos c2] at H
    have j7:decide (j3 < (l0.length:Int))=true:=decide_eq_true c2
    clear c2
    by_cases c3:0≤j3
    ·rw [if_pos c3] at H
     have jc:decide (0≤j3)=true:=decide_eq_true c3
     clear c3
     obtain ⟨jd,A4,H⟩:=bsa H
     (try dsimp only at H)
     by_cases c5:jd=true
     ·subst c5
      rw [if_pos rfl] at H
      have H':=am H
      clear H
      have j4:0≤(j3:Int):=of_decide_eq_true gL
      have j5:j3 < (l0.length:Int):=of_decide_eq_true gL
      obtain ⟨j8,j9,j6⟩:=Kd.nJ ja.out j3 j4 j5
      cases j9
      replace j4:=eq_true j4
      replace j5:=eq_true j5
      go_wp2_with (first|((with_reducible refine aN (f:=88) rfl ?_);refine gl_ 14 Try.func88 #[.int .i64 (rd l0 j3), .int .i64 1, .int .i64 4] ?_;(with_reducible refine (fV.calls (rd l0 j3) 1 4 true _ A4.out).mono ?_);rintro e w' ⟨rfl,⟨nd,rfl⟩⟩;refine ⟨_,rfl,?_⟩))
      go_roundg k1
      case measure=>have:=jb.out;omega
      case rel=>exact ⟨(wrap64 (j3 + 1)),sd_,H',⟨by have:=jb.out;omega⟩,gM⟩
     replace c5:=Bool.eq_false_iff.mpr c5
     subst c5
     rw [if_neg (show ¬ (false=true) by decide)] at H
     obtain rfl:=Option.some.inj H
     have j4:0≤(j3:Int):=of_decide_eq_true gL
     have j5:j3 < (l0.length:Int):=of_decide_eq_true gL
     obtain ⟨j8,j9,j6⟩:=Kd.nJ ja.out j3 j4 j5
     cases j9
     replace j4:=eq_true j4
     replace j5:=eq_true j5
     go_wp2_with (first|((with_reducible refine aN (f:=88) rfl ?_);refine gl_ 14 Try.func88 #[.int .i64 (rd l0 j3), .int .i64 1, .int .i64 4] ?_;(with_reducible refine (fV.calls (rd l0 j3) 1 4 false _ A4.out).mono ?_);rintro e w' ⟨rfl,⟨nd,rfl⟩⟩;refine ⟨_,rfl,?_⟩))
     go_ret
     exact ⟨sd_,gM⟩
    rw [if_neg c3] at H
    exact absurd H (by simp)
   rw [if_neg c2] at H
   have j7:decide (j3 < (l0.length:Int))=false:=decide_eq_false c2
   clear c2
   obtain rfl:=Option.some.inj H
   go_wp2
   go_ret
   exact ⟨sd_,gM⟩
theorem bW.mono_l:∀ k,(∀ y0 y1,LeO (bW.f k y0 y1) (bW.f (k + 1) y0 y1))∧(∀ y0 y1 y2,LeO (bW.l0 k y0 y1 y2) (bW.l0 (k + 1) y0 y1 y2))∧(∀ y0 y1 y2 y3 y4 y5 y6 y7 y8 y9 j3 j4,LeO (bW.j1 k y0 y1 y2 y3 y4 y5 y6 y7 y8 y9 j3 j4) (bW.j1 (k + 1) y0 y1 y2 y3 y4 y5 y6 y7 y8 y9 j3 j4))
 |0=>⟨fun _ _ r h=>by simp [bW.f] at h,fun _ _ _ r h=>by simp [bW.l0] at h,fun _ _ _ _ _ _ _ _ _ _ _ _ r h=>by simp [bW.j1] at h⟩
 |k + 1=>by
  obtain ⟨ih0,ih1,ih2⟩:=bW.mono_l k
  refine ⟨?_,?_,?_⟩
  ·intro y0 y1
   unfold bW.f
   exact mo_
  ·intro y0 y1 y2
   unfold bW.l0
   exact mo_
  ·intro y0 y1 y2 y3 y4 y5 y6 y7 y8 y9 j3 j4
   unfold bW.j1
   exact mo_
theorem bW.mono:∀ a0 a1 k,LeO (bW.f k a0 a1) (bW.f (k + 1) a0 a1):=by
 intro a0 a1 k
 obtain ⟨ih0,ih1,ih2⟩:=bW.mono_l k
 exact ih0 a0 a1
theorem bW.calls (k:Nat):∀ (A0:Option Addr) (c0:Nat) (l0:List (S35)) (a1:Int) (r:Bool) (w:World) (hr0:Kd.C k35 w A0 l0.length l0) (hc0:l0.length≤c0) (h:bW.f k l0 a1=some r),
  Calls Try.prog 89 #[.slice A0 l0.length c0, .int .i64 a1] w fun e w'=>e= .returned (.bool r)∧Below w.heap.size w w':=by
 induction k using Nat.strongRecOn with
 | _ k ih=>
 intro A0 c0 l0 a1 r w hr0 hc0 h
 cases k with
 |zero=>exact absurd h (by simp [bW.f])
 |succ k=>
 simp only [bW.f] at h
 have hu35:=Try.underlying35
 have J3:=am hr0
 have J9:=am hc0
 clear hr0 hc0
 have HB:=am (Below.refl w.heap.size w)
 have H:(bW.l0 k l0 a1 0)=some r:=h
 clear h
 have H':=am H
 clear H
 go_enter Try.func89,Try.ntmps89
 go_wp2
 go_loopg [5] k (fun kq v5 w'=>∃ (j3:Int),v5= .int .i64 j3∧Aside0 (bW.l0 kq l0 a1 j3=some r)∧Aside0 (kq≤k)∧Aside0 (Below w.heap.size w w'))
 case atStart=>exact ⟨(0),sd_,H',⟨Nat.le_refl _⟩,⟨gK⟩⟩
 case round=>
  clear H'
  obtain ⟨j3,rfl,HA,jl,HB⟩:=hrel
  cases gk with
  |zero=>exact absurd HA.out (by simp [bW.l0])
  |succ k1=>
   have H:=HA.out
   clear HA
   simp only [bW.l0] at H
   by_cases c3:j3 < (l0.length:Int)
   ·rw [if_pos c3] at H
    have jE:decide (j3 < (l0.length:Int))=true:=decide_eq_true c3
    clear c3
    by_cases c4:0≤j3
    ·rw [if_pos c4] at H
     have zE:decide (0≤j3)=true:=decide_eq_true c4
     clear c4
     have zF:=am H
     clear H
     have jL:0≤(j3:Int):=of_decide_eq_true gL
     have jM:j3 < (l0.length:Int):=of_decide_eq_true gL
     obtain ⟨J4,jF,jG,jf,jg,jH,jI,J5,j5,j6,j7,j8,j9,ja,jb,jc,hl28_5,hi28_5,hl28_6,hi28_6,hl28_7,hi28_7⟩:=uS J3.out j3 jL jM
     cases J5
     replace j5:=(HB.out.cell (World.block_lt_of_cell? w _ j5)).trans j5
     replace j6:=(HB.out.cell (World.block_lt_of_cell? w _ j6)).trans j6
     replace j7:=(HB.out.cell (World.block_lt_of_cell? w _ j7)).trans j7
     replace j8:=(HB.out.cell (World.block_lt_of_cell? w _ j8)).trans j8
     replace j9:=(HB.out.cell (World.block_lt_of_cell? w _ j9)).trans j9
     replace ja:=(HB.out.cell (World.block_lt_of_cell? w _ ja)).trans ja
     replace jb:=(HB.out.cell (World.block_lt_of_cell? w _ jb)).trans jb
     replace jc:=(HB.out.cell (World.block_lt_of_cell? w _ jc)).trans jc
     have zG:=am hi28_5
     have zH:=am hl28_5
     clear hi28_5 hl28_5
     have jd:=am hi28_6
     have je:=am hl28_6
     clear hi28_6 hl28_6
     have ji:=am hi28_7
     have jj:=am hl28_7
     clear hi28_7 hl28_7
     replace jL:=eq_true jL
     replace jM:=eq_true jM
     go_upto_region 5 with (first|((with_reducible refine bQ (N:=6) rfl ?_);refine dJ rfl (N:=6) rfl (cs:=#[.int .i64 0, .int .i64 0, .int .i64 0, .int .i64 0, .int .i64 0, .slice none 0 0, .slice none 0 0, .slice none 0 0]) (t:=35) rn_ ?_;intro jm hg w6 hbox hb;have j4:=am (hbox);have GW29:=am ((by rw [hg];exact (aJ gK):w.heap.size≤jm));have GE29:=am ((by rw [hg];exact (aJ gK):w.heap.size≤jm));replace HB:=am (aG gK hb);clear hb hbox hg;obtain ⟨jn,jo,jp,jq,jr,js,jt,ju,jv,jw,jx,jy,jz,jA,jB,jC⟩:=eX j4.out))
     (try simp only [Act.put,List.setIfInBounds_toArray,List.set_cons_zero,List.set_cons_succ])
     go_cut [30] (fun J6 wc=>∃ (kq:Nat) (jh:Bool),J6= .bool jh∧Aside0 (bW.j1 kq l0 a1 j3 jh ((aC l0 j3).f0) ((aC l0 j3).f1) ((aC l0 j3).f2) ((aC l0 j3).f3.f0) ((aC l0 j3).f3.f1) ((aC l0 j3).f3.f2) ((aC l0 j3).f4) ((aC l0 j3).f5)=some r)∧Aside0 (kq≤k1)∧Aside0 (wc.heap[jm]?=some (.cells #[.int .i64 ((aC l0 j3).f0), .int .i64 ((aC l0 j3).f1), .int .i64 ((aC l0 j3).f2), .int .i64 ((aC l0 j3).f3.f0), .int .i64 ((aC l0 j3).f3.f1),(.slice jF ((aC l0 j3).f3.f2).length jG),(.slice jf ((aC l0 j3).f4).length jg),(.slice jH ((aC l0 j3).f5).length jI)] 35 (0,0)))∧Aside0 (Below w.heap.size w wc))
     case first=>
      have H:=zF.out
      clear zF
      by_cases c8:((aC l0 j3).f0)=4
      ·rw [if_pos c8] at H
       have jk:(((aC l0 j3).f0) == 4)=true:=beq_iff_eq.mpr c8
       have zI:(((aC l0 j3).f0) != 4)=false:=bne_eq_false_iff_eq.mpr c8
       clear c8
       (first|rw [jk]|(simp only [dS,dV];rw [jk])|skip)
       have H':=am H
       clear H
       obtain ⟨zJ,zK,zL,zM,zN,zO,zP,zQ,zR,zS,zT,zU,zV,zW,zX,zY⟩:=eX j4.out
       go_wp2
       go_meet
       case rel=>exact ⟨_,(decide (((aC l0 j3).f2)≥a1)),sd_,H',⟨by have:=jl.out;first|omega|exact Nat.le_refl _⟩,⟨(aM (aM (aM (aM (aM (aM (aM (aM j4.out 0 _ rfl) 1 _ rfl) 2 _ rfl) 3 _ rfl) 4 _ rfl) 5 _ rfl) 6 _ rfl) 7 _ rfl)⟩,⟨vS⟩⟩
      rw [if_neg c8] at H
      have jk:(((aC l0 j3).f0) == 4)=false:=beq_eq_false_iff_ne.mpr c8
      have zI:(((aC l0 j3).f0) != 4)=true:=bne_iff_ne.mpr c8
      (first|rw [jk]|(simp only [dS,dV];rw [jk])|skip)
      by_cases c10:((aC l0 j3).f0)=5
      ·rw [if_pos c10] at H
       have jJ:(((aC l0 j3).f0) == 5)=true:=beq_iff_eq.mpr c10
       have jK:(((aC l0 j3).f0) != 5)=false:=bne_eq_false_iff_eq.mpr c10
       clear c10
       have H':=am H
       clear H
       obtain ⟨jN,jO,jP,jQ,jR,jS,jT,jU,jV,jW,jX,jY,jZ,q0,q1,q2⟩:=eX j4.out
       go_wp2
       go_meet
       case rel=>exact ⟨_,(decide (((aC l0 j3).f2)≥a1)),sd_,H',⟨by have:=jl.out;first|omega|exact Nat.le_refl _⟩,⟨(aM (aM (aM (aM (aM (aM (aM (aM j4.out 0 _ rfl) 1 _ rfl) 2 _ rfl) 3 _ rfl) 4 _ rfl) 5 _ rfl) 6 _ rfl) 7 _ rfl)⟩,⟨vS⟩⟩
      rw [if_neg c10] at H
      have jJ:(((aC l0 j3).f0) == 5)=false:=beq_eq_false_iff_ne.mpr c10
      have jK:(((aC l0 j3).f0) != 5)=true:=bne_iff_ne.mpr c10
      have H':=am H
      clear H
      obtain ⟨q3,q4,q5,q6,q7,q8,q9,qa,qb,qc,qd,qe,qf,qg,qh,qi⟩:=eX j4.out
      go_wp2
      go_meet
      case rel=>exact ⟨_,(false),sd_,H',⟨by have:=jl.out;first|omega|exact Nat.le_refl _⟩,⟨(aM (aM (aM (aM (aM (aM (aM (aM j4.out 0 _ rfl) 1 _ rfl) 2 _ rfl) 3 _ rfl) 4 _ rfl) 5 _ rfl) 6 _ rfl) 7 _ rfl)⟩,⟨vS⟩⟩
     case rest=>
      clear zF
      try clear c3
      try clear jE
      try clear c4
      try clear zE
      try clear jn
      try clear jo
      try clear jp
      try clear jq
      try clear jr
      try clear js
      try clear jt
      try clear ju
      try clear jv
      try clear jw
      try clear jx
      try clear jy
      try clear jz
      try clear jA
      try clear jB
      try clear jC
      try clear j5
      try clear j6
      try clear j7
      try clear j8
      try clear j9
      try clear ja
      try clear jb
      try clear jc
      try clear jL
      try clear jM
      obtain ⟨kq,jh,rfl,HA,HJ4,j4,HB⟩:=hcut
      cases kq with
      |zero=>exact absurd HA.out (by simp [bW.j1])
      |succ jD=>
       have H:=HA.out
       clear HA
       simp only [bW.j1] at H
       by_cases qj:jh=true
       ·subst qj
        rw [if_pos rfl] at H
        obtain rfl:=Option.some.inj H
        go_wp2
        go_ret
        exact ⟨rr_,vS⟩
       replace qj:=Bool.eq_false_iff.mpr qj
       subst qj
       rw [if_neg (show ¬ (false=true) by decide)] at H
       obtain ⟨J7,J0,H⟩:=bsm H
       (try dsimp only at H)
       have zZ:=am J0
       clear J0
       by_cases qk:J7=true
       ·subst qk
        rw [if_pos rfl] at H
        obtain ⟨J8,J1,H⟩:=bsm H
        (try dsimp only at H)
        have J2:=am J1
        clear J1
        by_cases ql:J8=true
        ·subst ql
         rw [if_pos rfl] at H
         have H':=am H
         clear H
         obtain ⟨qm,qn,qo,qp,qq,qr,qs,qt,qu,qv,qw,qx,qy,qz,qA,qB⟩:=eX j4.out
         go_wp2_with (first|((with_reducible refine aN (f:=89) rfl ?_);refine gl_ 34 Try.func89 #[.slice jf ((aC l0 j3).f4).length jg, .int .i64 a1] ?_;(with_reducible refine (ih jD (by have:=jl.out;have:=HJ4.out;omega) _ _ ((aC l0 j3).f4) a1 true _ (aC_ (Kd.aV jd.out HB.out)) je.out zZ.out).mono ?_);rintro e Ja ⟨rfl,hb⟩;refine ⟨_,rfl,?_⟩;replace j4:=bbP j4 hb;replace HB:=am (aG vS hb);(try clear hb);obtain ⟨qC,qD,qE,qF,qG,qH,qI,qJ,qK,qL,qM,qN,qO,qP,qQ,qR⟩:=eX j4.out)|(go_at_call 89;(with_reducible refine (ih jD (by have:=jl.out;have:=HJ4.out;omega) _ _ ((aC l0 j3).f5) a1 true _ (aC_ (Kd.aV ji.out HB.out)) jj.out J2.out).mono ?_);rintro e Jb ⟨rfl,hb⟩;replace j4:=bbP j4 hb;replace HB:=am (aG vS hb);(try clear hb)))
         go_roundg jD
         case measure=>have:=jl.out;have:=HJ4.out;omega
         case rel=>exact ⟨(wrap64 (j3 + 1)),sd_,H',⟨by have:=jl.out;have:=HJ4.out;omega⟩,⟨vS⟩⟩
        replace ql:=Bool.eq_false_iff.mpr ql
        subst ql
        rw [if_neg (show ¬ (false=true) by decide)] at H
        obtain rfl:=Option.some.inj H
        obtain ⟨qS,qT,qU,qV,qW,qX,qY,qZ,z0,z1,z2,z3,z4,z5,z6,z7⟩:=eX j4.out
        go_wp2_with (first|((with_reducible refine aN (f:=89) rfl ?_);refine gl_ 34 Try.func89 #[.slice jf ((aC l0 j3).f4).length jg, .int .i64 a1] ?_;(with_reducible refine (ih jD (by have:=jl.out;have:=HJ4.out;omega) _ _ ((aC l0 j3).f4) a1 true _ (aC_ (Kd.aV jd.out HB.out)) je.out zZ.out).mono ?_);rintro e Jc ⟨rfl,hb⟩;refine ⟨_,rfl,?_⟩;replace j4:=bbP j4 hb;replace HB:=am (aG vS hb);(try clear hb);obtain ⟨z8,z9,za,zb,zc,zd,ze,zf,zg,zh,zi,zj,zk,zl,zm,zn⟩:=eX j4.out)|(go_at_call 89;(with_reducible refine (ih jD (by have:=jl.out;have:=HJ4.out;omega) _ _ ((aC l0 j3).f5) a1 false _ (aC_ (Kd.aV ji.out HB.out)) jj.out J2.out).mono ?_);rintro e Jd ⟨rfl,hb⟩;replace j4:=bbP j4 hb;replace HB:=am (aG vS hb);(try clear hb)))
        go_ret
        exact ⟨rr_,vS⟩
       replace qk:=Bool.eq_false_iff.mpr qk
       subst qk
       rw [if_neg (show ¬ (false=true) by decide)] at H
       obtain rfl:=Option.some.inj H
       obtain ⟨zo,zp,zq,zr,zs,zt,zu,zv,zw,zx,zy,zz,zA,zB,zC,zD⟩:=eX j4.out
       go_wp2_with (first|((with_reducible refine aN (f:=89) rfl ?_);refine gl_ 34 Try.func89 #[.slice jf ((aC l0 j3).f4).length jg, .int .i64 a1] ?_;(with_reducible refine (ih jD (by have:=jl.out;have:=HJ4.out;omega) _ _ ((aC l0 j3).f4) a1 false _ (aC_ (Kd.aV jd.out HB.out)) je.out zZ.out).mono ?_);rintro e Je ⟨rfl,hb⟩;refine ⟨_,rfl,?_⟩;replace j4:=bbP j4 hb;replace HB:=am (aG vS hb);(try clear hb)))
       go_ret
       exact ⟨rr_,vS⟩
    rw [if_neg c4] at H
    exact absurd H (by simp)
   rw [if_neg c3] at H
   have jE:decide (j3 < (l0.length:Int))=false:=decide_eq_false c3
   clear c3
   obtain rfl:=Option.some.inj H
   go_wp2
   go_ret
   exact ⟨rr_,gK⟩
theorem bC.mono_l:∀ k,(∀ y0 y1 y2,LeO (bC.j0 k y0 y1 y2) (bC.j0 (k + 1) y0 y1 y2))∧(∀ y0 y1 y2,LeO (bC.l0 k y0 y1 y2) (bC.l0 (k + 1) y0 y1 y2))
 |0=>⟨fun _ _ _ r h=>by simp [bC.j0] at h,fun _ _ _ r h=>by simp [bC.l0] at h⟩
 |k + 1=>by
  obtain ⟨ih0,ih1⟩:=bC.mono_l k
  refine ⟨?_,?_⟩
  ·intro y0 y1 y2
   unfold bC.j0
   have m0:=@gI.mono
   have m1:=@bW.mono
   have m2:=@eG.mono
   exact mo_
  ·intro y0 y1 y2
   unfold bC.l0
   have m0:=@gI.mono
   have m1:=@bW.mono
   have m2:=@eG.mono
   exact mo_
theorem bC.mono:∀ a0 a1 k,LeO (bC.f k a0 a1) (bC.f (k + 1) a0 a1):=by
 intro a0 a1 k
 obtain ⟨ih0,ih1⟩:=bC.mono_l k
 unfold bC.f
 have m0:=@gI.mono
 have m1:=@bW.mono
 have m2:=@eG.mono
 exact mo_
def bC.T6:Bool × List (List Nat × List Nat):=(true,[([],[]),([0],[0]),([],[]),([1,2],[1,2]),([3],[3]),([4],[4]),([5],[5]),([6,5],[6]),([7],[7]),([8,7],[7,8]),([7],[7]),([9,10,7],[7,9,10]),([11,7],[7,11]),([7],[7]),([13,7],[7,13]),([14,7],[7,14]),([12,15,7,7],[7,12,15]),([16,7],[7,16]),([7,17],[7,17])])
def bC.B6:List Nat:=[0,1,0,7,15,31,63,127,255,511,255,2047,4095,255,8447,24831,65535,131071,262143]
theorem bC.CJ:lJ .any (opsOf Try.f59 6)=bC.T6:=by kernel_rfl
theorem bC.uW:iW bC.T6.2 bC.B6=true:=by kernel_rfl
theorem bC.calls (k:Nat) (je:Option Addr) (jf:Nat) (j7:List Int) (jl:Option Addr) (jh:Nat) (j5:List (List (S35))) (r:Bool) (w:World) (hr0_0:Kd.C (Kd.int .i64) w je j7.length j7) (hc0_0:j7.length≤jf) (hr0_1:Kd.C (Kd.slice 35 k35) w jl j5.length j5) (hc0_1:j5.length≤jh) (h:bC.f k j7 j5=some r):
  Calls Try.prog 59 #[.agg #[.slice je j7.length jf, .slice jl j5.length jh]] w fun e w'=>e= .returned (.bool r)∧Below w.heap.size w w':=by
 have hu46:=Try.underlying46
 have jq:=am hr0_0
 have jr:=am hc0_0
 clear hr0_0 hc0_0
 have ji:=am hr0_1
 have q4:=am hc0_1
 clear hr0_1 hc0_1
 have HB:=am (Below.refl w.heap.size w)
 have H:((eG.f k j7).bind fun jS=>(if jS=true then ((fV.f (j5.length:Int) 1 3).bind fun jy=>(bC.j0 k (!jy) j7 j5)) else (bC.j0 k true j7 j5)))=some r:=h
 clear h
 have jT:=am H
 clear H
 go_enter Try.func59,Try.ntmps59
 go_upto_region 1 with (first|((with_reducible refine bQ (N:=1) rfl ?_);(try (refine kQ (by rfl) ?_;dsimp only));refine dJ rfl (N:=1) rfl (cs:=#[.slice je j7.length jf, .slice jl j5.length jh]) (t:=46) rn_ ?_;intro jg hg w3 hbox hb;have j3:=am (hbox);have qb:=am ((by rw [hg];exact (aJ gK):w.heap.size≤jg));have GE43:=am ((by rw [hg];exact (aJ gK):w.heap.size≤jg));replace HB:=am (aG gK hb);clear hb hbox hg))
 (try simp only [Act.put,List.setIfInBounds_toArray,List.set_cons_zero,List.set_cons_succ])
 go_cut [14] (fun qc wc=>∃ (kq:Nat) (jk:Bool),qc= .bool jk∧Aside0 (bC.j0 kq jk j7 j5=some r)∧Aside0 (kq≤k)∧Aside0 (wc.heap[jg]?=some (.cells #[(.slice je j7.length jf),(.slice jl j5.length jh)] 46 (0,0)))∧Aside0 (Below w.heap.size w wc))
 case first=>
  have H:=jT.out
  clear jT
  obtain ⟨jS,A4,H⟩:=bsa H
  (try dsimp only at H)
  by_cases c5:jS=true
  ·subst c5
   rw [if_pos rfl] at H
   obtain ⟨jy,A6,H⟩:=bsa H
   (try dsimp only at H)
   have H':=am H
   clear H
   obtain ⟨jU,jV,jW,jX⟩:=fT j3.out
   go_wp2_with (first|((with_reducible refine aN (f:=87) rfl ?_);refine gl_ 6 Try.func87 #[.slice je j7.length jf] ?_;(with_reducible refine (eG.calls k _ _ j7 true _ (aC_ (Kd.aV jq.out HB.out)) jr.out A4.out).mono ?_);rintro e w' ⟨rfl,⟨nd,rfl⟩⟩;refine ⟨_,rfl,?_⟩)|(go_at_call 88;(with_reducible refine (fV.calls (j5.length:Int) 1 3 jy _ A6.out).mono ?_);rintro e w' ⟨rfl,⟨nd,rfl⟩⟩))
   go_meet
   case rel=>exact ⟨_,(!jy),sd_,H',⟨by first|omega|exact Nat.le_refl _⟩,⟨by (with_reducible repeat (first|refine dQ ?_ _|refine bT ?_|refine dF ?_ _));exact j3.out⟩,⟨mH⟩⟩
  replace c5:=Bool.eq_false_iff.mpr c5
  subst c5
  rw [if_neg (show ¬ (false=true) by decide)] at H
  have H':=am H
  clear H
  obtain ⟨jY,jZ,q0,q1⟩:=fT j3.out
  go_wp2_with (first|((with_reducible refine aN (f:=87) rfl ?_);refine gl_ 6 Try.func87 #[.slice je j7.length jf] ?_;(with_reducible refine (eG.calls k _ _ j7 false _ (aC_ (Kd.aV jq.out HB.out)) jr.out A4.out).mono ?_);rintro e w' ⟨rfl,⟨nd,rfl⟩⟩;refine ⟨_,rfl,?_⟩))
  go_meet
  case rel=>exact ⟨_,(true),sd_,H',⟨by first|omega|exact Nat.le_refl _⟩,⟨by (with_reducible repeat (first|refine dQ ?_ _|refine bT ?_|refine dF ?_ _));exact j3.out⟩,⟨mH⟩⟩
 case rest=>
  clear jT
  obtain ⟨kq,jk,rfl,HA,HJ1,j3,HB⟩:=hcut
  cases kq with
  |zero=>exact absurd HA.out (by simp [bC.j0])
  |succ q5=>
   have H:=HA.out
   clear HA
   simp only [bC.j0] at H
   by_cases c9:jk=true
   ·subst c9
    rw [if_pos rfl] at H
    obtain rfl:=Option.some.inj H
    go_wp2
    go_ret
    exact ⟨rr_,mH⟩
   replace c9:=Bool.eq_false_iff.mpr c9
   subst c9
   rw [if_neg (show ¬ (false=true) by decide)] at H
   have H':=am H
   clear H
   go_wp2
   go_loopg [3] q5 (fun kq v3 w'=>∃ (j4:Int),v3= .int .i64 j4∧Aside0 (bC.l0 kq j4 j7 j5=some r)∧Aside0 (kq≤q5)∧Aside0 (w'.heap[jg]?=some (.cells #[(.slice je j7.length jf),(.slice jl j5.length jh)] 46 (0,0)))∧Aside0 (Below w.heap.size w w'))
   case atStart=>exact ⟨(0),sd_,H',⟨Nat.le_refl _⟩,⟨by (with_reducible repeat (first|refine dQ ?_ _|refine bT ?_|refine dF ?_ _));exact j3.out⟩,⟨mH⟩⟩
   case round=>
    clear H'
    try clear c9
    obtain ⟨j4,rfl,HA,q6,j3,HB⟩:=hrel
    cases gk with
    |zero=>exact absurd HA.out (by simp [bC.l0])
    |succ k2=>
     have H:=HA.out
     clear HA
     simp only [bC.l0] at H
     by_cases c10:j4 < (j5.length:Int)
     ·rw [if_pos c10] at H
      have jw:decide (j4 < (j5.length:Int))=true:=decide_eq_true c10
      clear c10
      by_cases jz:0≤j4
      ·rw [if_pos jz] at H
       have q7:decide (0≤j4)=true:=decide_eq_true jz
       clear jz
       obtain ⟨qd,q8,H⟩:=bsm H
       (try dsimp only at H)
       have q2:=am q8
       clear q8
       by_cases jA:qd=true
       ·subst jA
        rw [if_pos rfl] at H
        obtain ⟨qe,q9,H⟩:=bsm H
        (try dsimp only at H)
        have qa:=am q9
        clear q9
        by_cases jB:qe=true
        ·subst jB
         rw [if_pos rfl] at H
         have H':=am H
         clear H
         obtain ⟨jC,jD,jE,jF⟩:=fT j3.out
         try go_wp2
         replace j3:=am (bT j3.out)
         replace HB:=am (bG HB.out)
         have jm:0≤(j4:Int):=of_decide_eq_true gL
         have jn:j4 < (j5.length:Int):=of_decide_eq_true gL
         obtain ⟨jd,ja,jb,jx,j6,hl50_0,hi50_0⟩:=sF ji.out j4 jm jn
         have hw50_0:=j6
         cases jx
         replace j6:=(HB.out.cell (World.block_lt_of_cell? w _ j6)).trans j6
         have j9:=am hi50_0
         have jc:=am hl50_0
         clear hi50_0 hl50_0
         replace jm:=eq_true jm
         replace jn:=eq_true jn
         have js:0≤(j4:Int):=of_decide_eq_true gL
         have jt:j4 < (j5.length:Int):=of_decide_eq_true gL
         obtain ⟨ju,jo,jp,q3,j8,hl51_0,hi51_0⟩:=sF ji.out j4 js jt
         have hw51_0:=j8
         obtain rfl:jd=ju:=(by injection q3)
         replace j8:=(HB.out.cell (World.block_lt_of_cell? w _ j8)).trans j8
         have jj:=am hi51_0
         have jv:=am hl51_0
         clear hi51_0 hl51_0
         replace js:=eq_true js
         replace jt:=eq_true jt
         refine mR (n:=19) (S:=fun w'=>w'.cell? ⟨jg,0,none⟩=some (.slice je j7.length jf)∧w'.cell? ⟨jg,1,none⟩=some (.slice (some jd) j5.length jh)∧w'.cell? (jd.add (j4).toNat)=some (.slice ja (fJ j5 j4).length jb)∧w'.cell? (jd.add (j4).toNat)=some (.slice jo (fJ j5 j4).length jp)) (ds:=[]) (bz 19 0) (by kernel_rfl) rfl rfl ⟨(aA j3.out 0).trans rfl,(aA j3.out 1).trans rfl,((HB.out.cell (World.block_lt_of_cell? w _ hw50_0)).trans hw50_0),((HB.out.cell (World.block_lt_of_cell? w _ hw51_0)).trans hw51_0)⟩ (fun hHeld=>?_);refine kE bC.CJ bC.uW (fun HT_ HW_=>?_)
         generalize wr.drew=qf at j3 HB j9 jj j6 j8 hHeld ⊢
         refine pr_ 0 22 (bz 19 1) HT_ ?_
         refine pr_ 2 24 (bz 19 5) HT_ ?_
         refine GH 1 23 (bz 19 7) HT_ HW_ hHeld ?_
         refine pr_ 3 25 (bz 19 15) HT_ ?_
         refine GH 4 26 (bz 19 31) HT_ HW_ hHeld ?_
         refine lH (i:=5) (N:=some 27) (bz 19 63) rfl rfl (gG HT_.out (by kernel_rfl)) (by decide) (fun K hK=>?_)
         refine kU Try.func47 (by kernel_rfl) rfl #[.slice ja (fJ j5 j4).length jb] (by rfl) rfl rfl nX ?_
         with_reducible refine (gI.calls k2 _ _ (fJ j5 j4) true _ (aC_ (Kd.aV j9.out HB.out)) jc.out q2.out).mono ?_
         rintro e qg ⟨rfl,hb⟩
         refine ⟨_,rfl,?_⟩
         replace j3:=bbP j3 hb
         replace HB:=am (aG mH hb)
         (try clear hb)
         (try clear hb2)
         (try clear hk)
         (try clear hi)
         refine hK.out _ _ ⟨(aA j3.out 0).trans rfl,(aA j3.out 1).trans rfl,((HB.out.cell (World.block_lt_of_cell? w _ hw50_0)).trans hw50_0),((HB.out.cell (World.block_lt_of_cell? w _ hw51_0)).trans hw51_0)⟩ (fun hHeld=>?_)
         clear hK K
         refine fB (a':=?_) ?_ ?_
         rotate_left
         ·show Act.put _ (some 27) _=_
          simp only [Act.put,List.setIfInBounds_toArray,List.set_cons_zero,List.set_cons_succ,dS,dV]
          rfl
         refine pr_ 6 28 (bz 19 127) HT_ ?_
         refine pr_ 7 29 (bz 19 255) HT_ ?_
         refine pr_ 8 30 (bz 19 511) HT_ ?_
         refine pr_ 10 32 (bz 19 1535) HT_ ?_
         refine pr_ 13 35 (bz 19 9727) HT_ ?_
         refine GH 9 31 (bz 19 10239) HT_ HW_ hHeld ?_
         refine pr_ 11 33 (bz 19 12287) HT_ ?_
         refine GH 12 34 (bz 19 16383) HT_ HW_ hHeld ?_
         refine GH 14 36 (bz 19 32767) HT_ HW_ hHeld ?_
         refine pr_ 15 37 (bz 19 65535) HT_ ?_
         refine lH (i:=16) (N:=some 38) (bz 19 131071) rfl rfl (gG HT_.out (by kernel_rfl)) (by decide) (fun K hK=>?_)
         refine kU Try.func89 (by kernel_rfl) rfl #[.slice ja (fJ j5 j4).length jb, .int .i64 (j7.length:Int)] (by rfl) rfl rfl nX ?_
         with_reducible refine (bW.calls k2 _ _ (fJ j5 j4) (j7.length:Int) true _ (aC_ (Kd.aV j9.out HB.out)) jc.out qa.out).mono ?_
         rintro e qh ⟨rfl,hb⟩
         refine ⟨_,rfl,?_⟩
         replace j3:=bbP j3 hb
         replace HB:=am (aG mH hb)
         (try clear hb)
         (try clear hb2)
         (try clear hk)
         (try clear hi)
         refine hK.out _ _ ⟨(aA j3.out 0).trans rfl,(aA j3.out 1).trans rfl,((HB.out.cell (World.block_lt_of_cell? w _ hw50_0)).trans hw50_0),((HB.out.cell (World.block_lt_of_cell? w _ hw51_0)).trans hw51_0)⟩ (fun hHeld=>?_)
         clear hK K
         refine fB (a':=?_) ?_ ?_
         rotate_left
         ·show Act.put _ (some 38) _=_
          simp only [Act.put,List.setIfInBounds_toArray,List.set_cons_zero,List.set_cons_succ,dS,dV]
          rfl
         refine pr_ 17 39 (bz 19 262143) HT_ ?_
         refine pr_ 18 40 (bz 19 524287) HT_ ?_
         refine pE (lV HT_.out (by kernel_rfl)) ?_
         try go_wp2
         go_roundg k2
         case measure=>have:=HJ1.out;have:=q6.out;omega
         case rel=>exact ⟨(wrap64 (j4 + 1)),sd_,H',⟨by have:=HJ1.out;have:=q6.out;omega⟩,⟨by (with_reducible repeat (first|refine dQ ?_ _|refine bT ?_|refine dF ?_ _));exact j3.out⟩,⟨mH⟩⟩
        replace jB:=Bool.eq_false_iff.mpr jB
        subst jB
        rw [if_neg (show ¬ (false=true) by decide)] at H
        obtain rfl:=Option.some.inj H
        obtain ⟨jG,jH,jI,jJ⟩:=fT j3.out
        try go_wp2
        replace j3:=am (bT j3.out)
        replace HB:=am (bG HB.out)
        have jm:0≤(j4:Int):=of_decide_eq_true gL
        have jn:j4 < (j5.length:Int):=of_decide_eq_true gL
        obtain ⟨jd,ja,jb,jx,j6,hl50_0,hi50_0⟩:=sF ji.out j4 jm jn
        have hw50_0:=j6
        cases jx
        replace j6:=(HB.out.cell (World.block_lt_of_cell? w _ j6)).trans j6
        have j9:=am hi50_0
        have jc:=am hl50_0
        clear hi50_0 hl50_0
        replace jm:=eq_true jm
        replace jn:=eq_true jn
        have js:0≤(j4:Int):=of_decide_eq_true gL
        have jt:j4 < (j5.length:Int):=of_decide_eq_true gL
        obtain ⟨ju,jo,jp,q3,j8,hl51_0,hi51_0⟩:=sF ji.out j4 js jt
        have hw51_0:=j8
        obtain rfl:jd=ju:=(by injection q3)
        replace j8:=(HB.out.cell (World.block_lt_of_cell? w _ j8)).trans j8
        have jj:=am hi51_0
        have jv:=am hl51_0
        clear hi51_0 hl51_0
        replace js:=eq_true js
        replace jt:=eq_true jt
        refine mR (n:=19) (S:=fun w'=>w'.cell? ⟨jg,0,none⟩=some (.slice je j7.length jf)∧w'.cell? ⟨jg,1,none⟩=some (.slice (some jd) j5.length jh)∧w'.cell? (jd.add (j4).toNat)=some (.slice ja (fJ j5 j4).length jb)∧w'.cell? (jd.add (j4).toNat)=some (.slice jo (fJ j5 j4).length jp)) (ds:=[]) (bz 19 0) (by kernel_rfl) rfl rfl ⟨(aA j3.out 0).trans rfl,(aA j3.out 1).trans rfl,((HB.out.cell (World.block_lt_of_cell? w _ hw50_0)).trans hw50_0),((HB.out.cell (World.block_lt_of_cell? w _ hw51_0)).trans hw51_0)⟩ (fun hHeld=>?_);refine kE bC.CJ bC.uW (fun HT_ HW_=>?_)
        generalize wr.drew=qi at j3 HB j9 jj j6 j8 hHeld ⊢
        refine pr_ 0 22 (bz 19 1) HT_ ?_
        refine pr_ 2 24 (bz 19 5) HT_ ?_
        refine GH 1 23 (bz 19 7) HT_ HW_ hHeld ?_
        refine pr_ 3 25 (bz 19 15) HT_ ?_
        refine GH 4 26 (bz 19 31) HT_ HW_ hHeld ?_
        refine lH (i:=5) (N:=some 27) (bz 19 63) rfl rfl (gG HT_.out (by kernel_rfl)) (by decide) (fun K hK=>?_)
        refine kU Try.func47 (by kernel_rfl) rfl #[.slice ja (fJ j5 j4).length jb] (by rfl) rfl rfl nX ?_
        with_reducible refine (gI.calls k2 _ _ (fJ j5 j4) true _ (aC_ (Kd.aV j9.out HB.out)) jc.out q2.out).mono ?_
        rintro e qj ⟨rfl,hb⟩
        refine ⟨_,rfl,?_⟩
        replace j3:=bbP j3 hb
        replace HB:=am (aG mH hb)
        (try clear hb)
        (try clear hb2)
        (try clear hk)
        (try clear hi)
        refine hK.out _ _ ⟨(aA j3.out 0).trans rfl,(aA j3.out 1).trans rfl,((HB.out.cell (World.block_lt_of_cell? w _ hw50_0)).trans hw50_0),((HB.out.cell (World.block_lt_of_cell? w _ hw51_0)).trans hw51_0)⟩ (fun hHeld=>?_)
        clear hK K
        refine fB (a':=?_) ?_ ?_
        rotate_left
        ·show Act.put _ (some 27) _=_
         simp only [Act.put,List.setIfInBounds_toArray,List.set_cons_zero,List.set_cons_succ,dS,dV]
         rfl
        refine pr_ 6 28 (bz 19 127) HT_ ?_
        refine pr_ 7 29 (bz 19 255) HT_ ?_
        refine pr_ 8 30 (bz 19 511) HT_ ?_
        refine pr_ 10 32 (bz 19 1535) HT_ ?_
        refine pr_ 13 35 (bz 19 9727) HT_ ?_
        refine GH 9 31 (bz 19 10239) HT_ HW_ hHeld ?_
        refine pr_ 11 33 (bz 19 12287) HT_ ?_
        refine GH 12 34 (bz 19 16383) HT_ HW_ hHeld ?_
        refine GH 14 36 (bz 19 32767) HT_ HW_ hHeld ?_
        refine pr_ 15 37 (bz 19 65535) HT_ ?_
        refine lH (i:=16) (N:=some 38) (bz 19 131071) rfl rfl (gG HT_.out (by kernel_rfl)) (by decide) (fun K hK=>?_)
        refine kU Try.func89 (by kernel_rfl) rfl #[.slice ja (fJ j5 j4).length jb, .int .i64 (j7.length:Int)] (by rfl) rfl rfl nX ?_
        with_reducible refine (bW.calls k2 _ _ (fJ j5 j4) (j7.length:Int) false _ (aC_ (Kd.aV j9.out HB.out)) jc.out qa.out).mono ?_
        rintro e qk ⟨rfl,hb⟩
        refine ⟨_,rfl,?_⟩
        replace j3:=bbP j3 hb
        replace HB:=am (aG mH hb)
        (try clear hb)
        (try clear hb2)
        (try clear hk)
        (try clear hi)
        refine hK.out _ _ ⟨(aA j3.out 0).trans rfl,(aA j3.out 1).trans rfl,((HB.out.cell (World.block_lt_of_cell? w _ hw50_0)).trans hw50_0),((HB.out.cell (World.block_lt_of_cell? w _ hw51_0)).trans hw51_0)⟩ (fun hHeld=>?_)
        clear hK K
        refine fB (a':=?_) ?_ ?_
        rotate_left
        ·show Act.put _ (some 38) _=_
         simp only [Act.put,List.setIfInBounds_toArray,List.set_cons_zero,List.set_cons_succ,dS,dV]
         rfl
        refine pr_ 17 39 (bz 19 262143) HT_ ?_
        refine pr_ 18 40 (bz 19 524287) HT_ ?_
        refine pE (lV HT_.out (by kernel_rfl)) ?_
        try go_wp2
        go_ret
        exact ⟨rr_,mH⟩
       replace jA:=Bool.eq_false_iff.mpr jA
       subst jA
       rw [if_neg (show ¬ (false=true) by decide)] at H
       obtain rfl:=Option.some.inj H
       obtain ⟨jK,jL,jM,jN⟩:=fT j3.out
       try go_wp2
       replace j3:=am (bT j3.out)
       replace HB:=am (bG HB.out)
       have jm:0≤(j4:Int):=of_decide_eq_true gL
       have jn:j4 < (j5.length:Int):=of_decide_eq_true gL
       obtain ⟨jd,ja,jb,jx,j6,hl50_0,hi50_0⟩:=sF ji.out j4 jm jn
       have hw50_0:=j6
       cases jx
       replace j6:=(HB.out.cell (World.block_lt_of_cell? w _ j6)).trans j6
       have j9:=am hi50_0
       have jc:=am hl50_0
       clear hi50_0 hl50_0
       replace jm:=eq_true jm
       replace jn:=eq_true jn
       refine mR (n:=19) (S:=fun w'=>w'.cell? ⟨jg,0,none⟩=some (.slice je j7.length jf)∧w'.cell? ⟨jg,1,none⟩=some (.slice (some jd) j5.length jh)∧w'.cell? (jd.add (j4).toNat)=some (.slice ja (fJ j5 j4).length jb)) (ds:=[]) (bz 19 0) (by kernel_rfl) rfl rfl ⟨(aA j3.out 0).trans rfl,(aA j3.out 1).trans rfl,((HB.out.cell (World.block_lt_of_cell? w _ hw50_0)).trans hw50_0)⟩ (fun hHeld=>?_);refine kE bC.CJ bC.uW (fun HT_ HW_=>?_)
       generalize wr.drew=ql at j3 HB j9 j6 hHeld ⊢
       refine pr_ 0 22 (bz 19 1) HT_ ?_
       refine pr_ 2 24 (bz 19 5) HT_ ?_
       refine aAw 1 23 (bz 19 7) HT_ HW_ hHeld ?_
       refine pr_ 3 25 (bz 19 15) HT_ ?_
       refine aAw 4 26 (bz 19 31) HT_ HW_ hHeld ?_
       refine lH (i:=5) (N:=some 27) (bz 19 63) rfl rfl (gG HT_.out (by kernel_rfl)) (by decide) (fun K hK=>?_)
       refine kU Try.func47 (by kernel_rfl) rfl #[.slice ja (fJ j5 j4).length jb] (by rfl) rfl rfl nX ?_
       with_reducible refine (gI.calls k2 _ _ (fJ j5 j4) false _ (aC_ (Kd.aV j9.out HB.out)) jc.out q2.out).mono ?_
       rintro e qm ⟨rfl,hb⟩
       refine ⟨_,rfl,?_⟩
       replace j3:=bbP j3 hb
       replace HB:=am (aG mH hb)
       (try clear hb)
       (try clear hb2)
       (try clear hk)
       (try clear hi)
       refine hK.out _ _ ⟨(aA j3.out 0).trans rfl,(aA j3.out 1).trans rfl,((HB.out.cell (World.block_lt_of_cell? w _ hw50_0)).trans hw50_0)⟩ (fun hHeld=>?_)
       clear hK K
       refine fB (a':=?_) ?_ ?_
       rotate_left
       ·show Act.put _ (some 27) _=_
        simp only [Act.put,List.setIfInBounds_toArray,List.set_cons_zero,List.set_cons_succ,dS,dV]
        rfl
       refine pr_ 6 28 (bz 19 127) HT_ ?_
       refine pr_ 7 29 (bz 19 255) HT_ ?_
       refine pu_ 8 30 (bz 19 511) HT_ ?_
       refine pu_ 9 31 (bz 19 1023) HT_ ?_
       refine pu_ 10 32 (bz 19 2047) HT_ ?_
       refine pu_ 11 33 (bz 19 4095) HT_ ?_
       refine pu_ 12 34 (bz 19 8191) HT_ ?_
       refine pu_ 13 35 (bz 19 16383) HT_ ?_
       refine pu_ 14 36 (bz 19 32767) HT_ ?_
       refine pu_ 15 37 (bz 19 65535) HT_ ?_
       refine pu_ 16 38 (bz 19 131071) HT_ ?_
       refine pu_ 17 39 (bz 19 262143) HT_ ?_
       refine pr_ 18 40 (bz 19 524287) HT_ ?_
       refine pE (lV HT_.out (by kernel_rfl)) ?_
       try go_wp2
       go_ret
       exact ⟨rr_,mH⟩
      rw [if_neg jz] at H
      exact absurd H (by simp)
     rw [if_neg c10] at H
     have jw:decide (j4 < (j5.length:Int))=false:=decide_eq_false c10
     clear c10
     obtain rfl:=Option.some.inj H
     obtain ⟨jO,jP,jQ,jR⟩:=fT j3.out
     go_wp2
     go_ret
     exact ⟨rr_,mH⟩
theorem bL.mono_l:∀ k,(∀ y0 y1 y2 y3 y4,LeO (bL.l0 k y0 y1 y2 y3 y4) (bL.l0 (k + 1) y0 y1 y2 y3 y4))
 |0=>fun _ _ _ _ _ r h=>by simp [bL.l0] at h
 |k + 1=>by
  have ih0:=bL.mono_l k
  ·intro y0 y1 y2 y3 y4
   unfold bL.l0
   have m0:=@bC.mono
   have m1:=@bM.mono
   exact mo_
theorem bL.mono:∀ a0 a1 k,LeO (bL.f k a0 a1) (bL.f (k + 1) a0 a1):=by
 intro a0 a1 k
 have ih0:=bL.mono_l k
 unfold bL.f
 have m0:=@bC.mono
 have m1:=@bM.mono
 exact mo_
def bL.T7:Bool × List (List Nat × List Nat):=(true,[([],[]),([0],[0]),([],[]),([2],[2]),([],[]),([3,4],[3,4]),([5],[5]),([6],[6]),([7],[7]),([1,8,7],[1,8]),([0,1,2,3,4,5,6,7,8,9],[]),([10,9,9,0,1,2,3,4,5,6,7,8,9],[9,10])])
def bL.B7:List Nat:=[0,1,0,4,0,28,60,124,252,511,1023,2047]
theorem bL.aCd:lJ .any (opsOf Try.f28 7)=bL.T7:=by kernel_rfl
theorem bL.TB:iW bL.T7.2 bL.B7=true:=by kernel_rfl
theorem bL.calls (k:Nat) (jm:Option Addr) (jn:Nat) (j5:List Int) (js:Option Addr) (jo:Nat) (j6:List (List (S35))) (r1:List Int) (r2:List (List (S35))) (r3:Bool) (w:World) (hr0_0:Kd.C (Kd.int .i64) w jm j5.length j5) (hc0_0:j5.length≤jn) (hr0_1:Kd.C (Kd.slice 35 k35) w js j6.length j6) (hc0_1:j6.length≤jo) (h:bL.f k j5 j6=some (r1,r2,r3)):
  Calls Try.prog 28 #[.agg #[.slice jm j5.length jn, .slice js j6.length jo]] w fun e w'=>∃ v0_ v1_:Value,e= .returned (.tuple #[.agg #[v0_,v1_], .bool r3])∧Kd.R (Kd.int .i64) 3 w' w.heap.size (fun k_=>(w.heap.size≤k_)) v0_ r1∧Kd.N (Kd.slice 35 k35) 23 w' w.heap.size (fun k_=>(w.heap.size≤k_)∧some k_≠(v0_:Value).ownBlock) v1_ r2∧Below w.heap.size w w':=by
 have hu46:=Try.underlying46
 have ju:=am hr0_0
 have jI:=am hc0_0
 clear hr0_0 hc0_0
 have jv:=am hr0_1
 have jJ:=am hc0_1
 clear hr0_1 hc0_1
 have HB:=am (Below.refl w.heap.size w)
 have H:((bC.f k j5 j6).bind fun qw=>(if qw=true then ((some (([]:List Int):List Int)).bind fun jK=>(if jK.length + j5.length < 17592186044416 then (bL.l0 k 0 j5 j6 (jK ++ j5) (([]:List (List (S35))))) else (none))) else (some (([]:List Int),([]:List (List (S35))),false))))=some (r1,r2,r3):=h
 clear h
 obtain ⟨qw,A2,H⟩:=bsa H
 (try dsimp only at H)
 have HH_:=am H
 clear H
 go_enter Try.func28,Try.ntmps28
 go_upto_region 1 with (first|((with_reducible refine bQ (N:=1) rfl ?_);refine dJ rfl (N:=1) rfl (cs:=#[.slice jm j5.length jn, .slice js j6.length jo]) (t:=46) rn_ ?_;intro jb hg w5 hbox hb;have j3:=am (hbox);have qZ:=am ((by rw [hg];exact (aJ gK):w.heap.size≤jb));have GE49:=am ((by rw [hg];exact (aJ gK):w.heap.size≤jb));replace HB:=am (aG gK hb);clear hb hbox hg)|((with_reducible refine bQ (N:=2) rfl ?_);refine dJ rfl (N:=2) rfl (cs:=#[.slice none 0 0, .slice none 0 0]) (t:=46) rn_ ?_;intro j9 hg w6 hbox hb;have j4:=am (hbox);have z0:=am ((by rw [hg];exact (aJ NP):w.heap.size≤j9));have GE50:=am ((by rw [hg];exact (aJ NP):w.heap.size≤j9));replace HB:=am (aG NP hb);have jp:=am ((by rw [hg];exact Nat.ne_of_lt (fO j3.out):jb≠j9));have jq:=am ((by rw [hg];exact Nat.ne_of_gt (fO j3.out):j9≠jb));replace j3:=bbP j3 hb;clear hb hbox hg;have z1:=jp.out;have z2:=jq.out;obtain ⟨jN,jO,jP,jQ⟩:=fT j3.out))
 have H:=HH_.out
 clear HH_
 by_cases c3:qw=true
 ·subst c3
  rw [if_pos rfl] at H
  obtain ⟨jK,hy_⟩:∃ y_:List Int,y_=(([]:List Int)):=⟨_,rfl⟩
  replace H:(if jK.length + j5.length < 17592186044416 then (bL.l0 k 0 j5 j6 (jK ++ j5) (([]:List (List (S35))))) else (none))=some (r1,r2,r3):=rx_
  have q0:=am hy_
  clear hy_
  by_cases c4:jK.length + j5.length < 17592186044416
  ·rw [if_pos c4] at H
   have qx:=am c4
   clear c4
   obtain ⟨jl,hy_⟩:∃ y_:List Int,y_=(jK ++ j5):=⟨_,rfl⟩
   replace H:(bL.l0 k 0 j5 j6 jl (([]:List (List (S35)))))=some (r1,r2,r3):=rx_
   have qy:=am hy_
   clear hy_
   obtain ⟨q1,hy_⟩:∃ y_:List (List (S35)),y_=(([]:List (List (S35)))):=⟨_,rfl⟩
   replace H:(bL.l0 k 0 j5 j6 jl q1)=some (r1,r2,r3):=rx_
   have q2:=am hy_
   clear hy_
   have H':=am H
   clear H
   go_wp2_with (first|((with_reducible refine aN (f:=59) rfl ?_);refine gl_ 7 Try.func59 #[.agg #[.slice jm j5.length jn, .slice js j6.length jo]] ?_;(with_reducible refine (bC.calls k _ _ j5 _ _ j6 true _ (aC_ (Kd.aV ju.out HB.out)) jI.out (aC_ (Kd.aV jv.out HB.out)) jJ.out A2.out).mono ?_);rintro e w9 ⟨rfl,hb⟩;refine ⟨_,rfl,?_⟩;replace j3:=bbP j3 hb;replace j4:=bbP j4 hb;replace HB:=am (aG tJ hb);(try clear hb))|((with_reducible refine bQ (N:=10) rfl ?_);refine Kd.CP (Kd.int .i64) _ 3 rfl (N:=10) rfl (xs:=([]:List Int)) (inner:=[]) (ok:=fun _=>True) (okp:=fun _=>True) rn_ ?hp (fun _ hk=>hk) trivial (Below.refl _ _) (Nat.le_refl _) (by simp) ?_;(case hp=>exact (eY.none _ _));intro z3 za ho11 hb hg_ hnew_;clear hg_ hnew_;(first|rw [← q0.out] at ho11|(simp only [Int.reduceToNat] at ho11;rw [← q0.out] at ho11));have jx:=am (Kd.kC (Kd.yJ (M:=fun k_=>(w.heap.size≤k_)) ho11 (aJ tJ) (fun k_ h_=>h_)) (aJ tJ));replace j3:=bbP j3 hb;replace j4:=bbP j4 hb;replace HB:=am (aG tJ hb);clear hb ho11;obtain ⟨jy,jz,jA,jB⟩:=fT j3.out)|((with_reducible refine lG (b:= .append) (xs:=#[.tmp 10, .tmp 12]) rfl ?_);at_builtin;refine Kd.uQ (Kd.int .i64) (w0:=w) w.heap.size rfl (.tmp 10) (.tmp 12) 43 3 (.int .i64 0) 8 rfl Try.underlying43 info3 rfl (by decide) (by omega) z3 jK j5 _ _ _ (fun k_=>(w.heap.size≤k_)) (fun _=>False) rfl rfl ?aO ?aR (fun _ _ h=>h) (fun _ h=>h.elim) ?aF ?aB ?aS ?aL ?_;(case aR=>repeat (first|exact (Kd.aV ju.out HB.out)|(with_reducible refine Kd.wV ?_ _)|(with_reducible refine Kd.tZ ?_ _)|(with_reducible refine Kd.vY ?_)));(case aB=>exact tJ);(case aF=>exact (fun k_ hk=>(Nat.le_trans (aJ tJ) hk)));(case aO=>exact (iC (Kd.cZ jx.out (fun _ hk=>hk.1))));(case aS=>exact (aJ tJ));(case aL=>have:=qx.out;omega);intro qz z4 ho hb hg hat;rw [← qy.out] at ho;replace j3:=am (gV (g:=jb) (o:= .cells #[.slice jm j5.length jn, .slice js j6.length jo] 46 (0,0)) (aG_ j3.out) hg (Kd.RD jx.out j3.out (by decide)));replace j4:=am (gV (g:=j9) (o:= .cells #[.slice none 0 0, .slice none 0 0] 46 (0,0)) (aG_ j4.out) hg (Kd.RD jx.out j4.out (by decide)));replace HB:=am (hb);have jt:=am (ho);clear jx ho hb hg hat)|((with_reducible refine bQ (N:=14) rfl ?_);refine Kd.oQ (Kd.slice 35 k35) _ 23 rfl (N':=14) rfl (xs:=([]:List (List (S35)))) (inner:=[]) (ok:=(fun k_=>(w.heap.size≤k_)∧some k_≠(qz:Value).ownBlock∧k_≠jb∧k_≠j9)) (okp:=(fun k_=>(w.heap.size≤k_)∧some k_≠(qz:Value).ownBlock∧k_≠jb∧k_≠j9)) rn_ ?hp (fun _ hk=>hk) ((show ∀ k_,z4.heap.size≤k_→(fun k_=>(w.heap.size≤k_)∧some k_≠(qz:Value).ownBlock∧k_≠jb∧k_≠j9) k_ from fun k_ hk=>⟨(Nat.le_trans (aJ tJ) hk),Kd.fresh' (Kd.iY (aR_ jt.out)) k_ hk,fG j3.out k_ hk,fG j4.out k_ hk⟩) _ (Nat.le_refl _)) (Below.refl _ _) (Nat.le_refl _) (by simp) ?_;(case hp=>exact (eY.none _ _));intro zb zc ho15 hb hg_ hnew_;clear hg_ hnew_;(first|rw [← q2.out] at ho15|(simp only [Int.reduceToNat] at ho15;rw [← q2.out] at ho15));replace jt:=am (Kd.dW (aR_ jt.out) hb);have jC:=am (Kd.dH ho15 (aJ tJ));replace j3:=bbP j3 hb;replace j4:=bbP j4 hb;replace HB:=am (aG tJ hb);clear hb ho15;obtain ⟨jR,jS,qA⟩:=Kd.dD jC.out;subst qA;obtain ⟨jg,jh,qB⟩:=Kd.kP jt.out;subst qB)|((with_reducible refine bQ (N:=4) rfl ?_);refine dJ rfl (N:=4) rfl (cs:=#[.slice none 0 0, .slice none 0 0]) (t:=46) rn_ ?_;intro j8 hg zd hbox hb;replace jt:=am (Kd.dW (aR_ jt.out) hb);replace jC:=am (Kd.dG (Kd.fC (aN_ jC.out) j8 (Nat.le_of_eq hg.symm)) hb);have j7:=am (hbox);have z5:=am ((by rw [hg];exact (aJ tJ):w.heap.size≤j8));have GE61:=am ((by rw [hg];exact (aJ tJ):w.heap.size≤j8));replace HB:=am (aG tJ hb);have jc:=am ((by rw [hg];exact Nat.ne_of_lt (fO j3.out):jb≠j8));have jj:=am ((by rw [hg];exact Nat.ne_of_gt (fO j3.out):j8≠jb));replace j3:=bbP j3 hb;have jf:=am ((by rw [hg];exact Nat.ne_of_lt (fO j4.out):j9≠j8));have jr:=am ((by rw [hg];exact Nat.ne_of_gt (fO j4.out):j8≠j9));replace j4:=bbP j4 hb;clear hb hbox hg;have qI:=jj.out;have qJ:=jc.out;have qK:=jr.out;have qL:=jf.out;obtain ⟨jD,jE,jF,jG⟩:=fT j7.out))
   go_loopg [5] k (fun kq v5 w'=>∃ (jd:Int) (ji:List (List (S35))) (u62:Value),v5= .int .i64 jd∧Aside0 (bL.l0 kq jd j5 j6 jl ji=some (r1,r2,r3))∧Aside0 (kq≤k)∧Aside0 (Kd.R (Kd.int .i64) 3 w' w.heap.size (fun k_=>(w.heap.size≤k_)) (.slice jg jl.length jh) jl)∧Aside0 (Kd.N (Kd.slice 35 k35) 23 w' w.heap.size (fun k_=>(w.heap.size≤k_)∧some k_≠((.slice jg jl.length jh):Value).ownBlock∧k_≠jb∧k_≠j9∧k_≠j8) u62 ji)∧Aside0 (w'.heap[jb]?=some (.cells #[(.slice jm j5.length jn),(.slice js j6.length jo)] 46 (0,0)))∧Aside0 (w'.heap[j9]?=some (.cells #[(.slice none 0 0),(.slice none 0 0)] 46 (0,0)))∧Aside0 (w'.heap[j8]?=some (.cells #[(.slice jg jl.length jh),u62] 46 (0,0)))∧Aside0 (Below w.heap.size w w'))
   case atStart=>exact ⟨(0),(q1),(.slice jR q1.length jS),sd_,H',⟨Nat.le_refl _⟩,⟨iC (Kd.cZ (Kd.dM (p:=⟨j8,1,none⟩) (Kd.dM (p:=⟨j8,0,none⟩) (Kd.eF jt.out j7.out (by decide)) (fun _ hk=>hk.2) (.slice jg jl.length jh)) (fun _ hk=>hk.2) (.slice jR q1.length jS)) (fun _ hk=>hk.1))⟩,⟨eO (Kd.aD (Kd.aT (p:=⟨j8,1,none⟩) (Kd.aT (p:=⟨j8,0,none⟩) (Kd.aD jC.out (fun k_ hk=>(⟨hk,hk.2⟩:_∧k_≠j8))) (fun _ hk=>hk.2) (.slice jg jl.length jh)) (fun _ hk=>hk.2) (.slice jR q1.length jS)) (fun _ hk=>⟨hk.1.1.1,⟨hk.1.1.2.1,⟨hk.1.1.2.2.1,⟨hk.1.1.2.2.2,hk.1.2⟩⟩⟩⟩))⟩,⟨(aZ (aZ j3.out jc.out _) jc.out _)⟩,⟨(aZ (aZ j4.out jf.out _) jf.out _)⟩,⟨(aM (aM j7.out 0 _ rfl) 1 _ rfl)⟩,⟨AB⟩⟩
   case round=>
    clear H'
    try clear c3
    try clear c4
    try clear jy
    try clear jz
    try clear jD
    try clear jE
    try clear jN
    try clear jO
    try clear jA
    try clear jB
    try clear jF
    try clear jG
    try clear jP
    try clear jQ
    obtain ⟨jd,ji,u62,rfl,HA,qM,je,ja,j3,j4,j7,HB⟩:=hrel
    cases gk with
    |zero=>exact absurd HA.out (by simp [bL.l0])
    |succ k1=>
     have H:=HA.out
     clear HA
     simp only [bL.l0] at H
     by_cases jZ:jd < (j6.length:Int)
     ·rw [if_pos jZ] at H
      have q3:decide (jd < (j6.length:Int))=true:=decide_eq_true jZ
      clear jZ
      by_cases q9:0≤jd
      ·rw [if_pos q9] at H
       have qN:decide (0≤jd)=true:=decide_eq_true q9
       clear q9
       obtain ⟨qa,qO,H⟩:=bsm H
       (try dsimp only at H)
       have z6:=am qO
       clear qO
       by_cases qb:ji.length < 5864062014805
       ·rw [if_pos qb] at H
        have q4:=am qb
        clear qb
        obtain ⟨q5,hy_⟩:∃ y_:List (List (S35)),y_=(ji ++ [qa]):=⟨_,rfl⟩
        replace H:(bL.l0 k1 (wrap64 (jd + 1)) j5 j6 jl q5)=some (r1,r2,r3):=rx_
        have qC:=am hy_
        clear hy_
        have H':=am H
        clear H
        have qP:=jp.out
        have qQ:=jq.out
        have qR:=jc.out
        have qS:=jj.out
        obtain ⟨qc,qd,qe,qf⟩:=fT j3.out
        try go_wp2
        replace je:=am (Kd.vC je.out)
        replace ja:=am (Kd.nO ja.out)
        replace j3:=am (bT j3.out)
        replace j4:=am (bT j4.out)
        replace j7:=am (bT j7.out)
        replace HB:=am (bG HB.out)
        have qD:0≤(jd:Int):=of_decide_eq_true gL
        have qE:jd < (j6.length:Int):=of_decide_eq_true gL
        obtain ⟨jT,jL,jM,z7,jk,hl68_0,hi68_0⟩:=sF jv.out jd qD qE
        have hw68_0:=jk
        cases z7
        replace jk:=(HB.out.cell (World.block_lt_of_cell? w _ jk)).trans jk
        have jw:=am hi68_0
        have jU:=am hl68_0
        clear hi68_0 hl68_0
        replace qD:=eq_true qD
        replace qE:=eq_true qE
        refine mR (n:=12) (S:=fun w'=>w'.cell? ⟨j8,0,none⟩=some (.slice jg jl.length jh)∧w'.cell? ⟨j8,1,none⟩=some (u62)∧w'.cell? ⟨jb,0,none⟩=some (.slice jm j5.length jn)∧w'.cell? ⟨jb,1,none⟩=some (.slice (some jT) j6.length jo)∧w'.cell? (jT.add (jd).toNat)=some (.slice jL (fJ j6 jd).length jM)) (ds:=[11]) (bz 12 0) (by kernel_rfl) rfl rfl ⟨(aA j7.out 0).trans rfl,(aA j7.out 1).trans rfl,(aA j3.out 0).trans rfl,(aA j3.out 1).trans rfl,((HB.out.cell (World.block_lt_of_cell? w _ hw68_0)).trans hw68_0)⟩ (fun hHeld=>?_);refine kE bL.aCd bL.TB (fun HT_ HW_=>?_)
        generalize wr.drew=ze at je ja j3 j4 j7 HB jw jk hHeld ⊢
        refine pr_ 0 23 (bz 12 1) HT_ ?_
        refine pr_ 2 25 (bz 12 5) HT_ ?_
        refine pr_ 4 27 (bz 12 21) HT_ ?_
        refine GI 1 24 (bz 12 23) HT_ HW_ hHeld ?_
        refine GI 3 26 (bz 12 31) HT_ HW_ hHeld ?_
        refine pr_ 5 28 (bz 12 63) HT_ ?_
        refine GI 6 29 (bz 12 127) HT_ HW_ hHeld ?_
        refine lH (i:=7) (N:=some 30) (bz 12 255) rfl rfl (gG HT_.out (by kernel_rfl)) (by decide) (fun K hK=>?_)
        refine kU Try.func48 (by kernel_rfl) rfl #[.slice jL (fJ j6 jd).length jM] (by rfl) rfl rfl nX ?_
        with_reducible refine (bM.calls k1 _ _ (fJ j6 jd) qa _ (aC_ (Kd.aV jw.out HB.out)) jU.out z6.out).mono ?_
        rintro e zf ⟨zg,rfl,ho0,hb⟩
        refine ⟨_,rfl,?_⟩
        have jH:=am (Kd.dH (Kd.aD (ok':=fun k_=>(w.heap.size≤k_)∧some k_≠(.slice jg jl.length jh:Value).ownBlock∧some k_≠(u62:Value).ownBlock∧k_≠jb∧k_≠j9∧k_≠j8) ho0 (fun k_ hk_=>⟨(Nat.le_trans (aJ AB) hk_),(Kd.fresh' (Kd.iY (aR_ je.out)) k_ hk_),(Kd.fresh' (Kd.iH (aN_ ja.out)) k_ hk_),(fG j3.out k_ hk_),(fG j4.out k_ hk_),(fG j7.out k_ hk_)⟩)) (aJ AB))
        replace je:=am (Kd.dW (aR_ je.out) hb)
        replace ja:=am (Kd.fM (aN_ ja.out) (by first|exact Kd.dL ho0|exact Kd.dL (Kd.R_N ho0)) hb)
        replace j3:=bbP j3 hb
        replace j4:=bbP j4 hb
        replace j7:=bbP j7 hb
        replace HB:=am (aG AB hb)
        (try clear hb)
        (try clear hb2)
        (try clear hk)
        (try clear hi)
        (try clear ho0)
        obtain ⟨qF,qG,q6⟩:=Kd.dD jH.out
        (first|subst q6|(injection q6 with f1_ f2_ f3_;have f4_:=f1_.symm;have f5_:=f3_.symm;clear f1_ f2_ f3_;subst f4_;subst f5_))
        refine hK.out _ _ ⟨(aA j7.out 0).trans rfl,(aA j7.out 1).trans rfl,(aA j3.out 0).trans rfl,(aA j3.out 1).trans rfl,((HB.out.cell (World.block_lt_of_cell? w _ hw68_0)).trans hw68_0)⟩ (fun hHeld=>?_)
        clear hK K
        refine fB (a':=?_) ?_ ?_
        rotate_left
        ·show Act.put _ (some 30) _=_
         simp only [Act.put,List.setIfInBounds_toArray,List.set_cons_zero,List.set_cons_succ,dS,dV]
         rfl
        refine lH (i:=8) (N:=some 31) (bz 12 511) rfl rfl (gG HT_.out (by kernel_rfl)) (by decide) (fun K hK=>?_)
        refine CO (w1:=?_) (v:=?_) (by rfl) rfl ?_ ?_
        rotate_left 2
        ·go_simp
         constructor
         ·rfl
         ·rfl
        refine hK.out _ _ ⟨(aA (dF j7.out _) 0).trans rfl,(aA (dF j7.out _) 1).trans rfl,(aA (dF j3.out _) 0).trans rfl,(aA (dF j3.out _) 1).trans rfl,(World.cell?_alloc_lt _ _ _ (World.block_lt_of_cell? _ _ (((HB.out.cell (World.block_lt_of_cell? w _ hw68_0)).trans hw68_0)))).trans (((HB.out.cell (World.block_lt_of_cell? w _ hw68_0)).trans hw68_0))⟩ (fun hHeld=>?_)
        clear hK K
        refine fB (a':=?_) ?_ ?_
        rotate_left
        ·show Act.put _ (some 31) _=_
         simp only [Act.put,List.setIfInBounds_toArray,List.set_cons_zero,List.set_cons_succ,dS,dV]
         rfl
        refine lH (i:=9) (N:=some 32) (bz 12 1023) rfl rfl (gG HT_.out (by kernel_rfl)) (by decide) (fun K hK=>?_)
        refine Kd.uO (Kd.slice 35 k35) (w0:=w) w.heap.size (by rfl) (.tmp 24) (.tmp 31) 44 23 (.slice none 0 0) 24 rfl Try.underlying44 ET rfl (by decide) (by omega) u62 ji qa [.slice qF qa.length qG] (fun k_=>(w.heap.size≤k_)∧some k_≠(.slice jg jl.length jh:Value).ownBlock∧k_≠jb∧k_≠j9∧k_≠j8) (fun k_=>((fun k_=>(w.heap.size≤k_)∧some k_≠(.slice jg jl.length jh:Value).ownBlock∧k_≠jb∧k_≠j9∧k_≠j8)) k_∧some k_≠(u62:Value).ownBlock) rfl rfl ?aP (fun _ hk=>hk) ?aF ?aO ?aB ?aS ?aL ?_
        (case aP=>exact (Kd.kW (Kd.bN (Kd.aD (ok':=(fun k_=>((fun k_=>(w.heap.size≤k_)∧some k_≠(.slice jg jl.length jh:Value).ownBlock∧k_≠jb∧k_≠j9∧k_≠j8)) k_∧some k_≠(u62:Value).ownBlock)) (jH.out) (fun k_ hk=>⟨⟨hk.1,⟨hk.2.1,⟨hk.2.2.2.1,⟨hk.2.2.2.2.1,hk.2.2.2.2.2⟩⟩⟩⟩,hk.2.2.1⟩))).2.1 (Kd.N_F (Kd.aD (ok':=(fun k_=>((fun k_=>(w.heap.size≤k_)∧some k_≠(.slice jg jl.length jh:Value).ownBlock∧k_≠jb∧k_≠j9∧k_≠j8)) k_∧some k_≠(u62:Value).ownBlock)) (jH.out) (fun k_ hk=>⟨⟨hk.1,⟨hk.2.1,⟨hk.2.2.2.1,⟨hk.2.2.2.2.1,hk.2.2.2.2.2⟩⟩⟩⟩,hk.2.2.1⟩)))))
        (case aB=>exact AB)
        (case aF=>exact (fun k_ hk=>⟨(Nat.le_trans (aJ AB) hk),Kd.fresh' (Kd.iY (aR_ je.out)) k_ hk,fG j3.out k_ hk,fG j4.out k_ hk,fG j7.out k_ hk⟩))
        (case aO=>exact (eO (Kd.aD ja.out (fun _ hk=>⟨hk.1.1,⟨hk.1.2.1,⟨hk.1.2.2.1,⟨hk.1.2.2.2.1,hk.1.2.2.2.2⟩⟩⟩⟩))))
        (case aS=>exact (aJ AB))
        (case aL=>have:=q4.out;omega)
        intro zh z8 ho hb hg hat
        rw [← qC.out] at ho
        replace je:=am (Kd.wW (aR_ je.out) (Kd.vB (aN_ ja.out)) (by decide) hg)
        replace j3:=am (gV (g:=jb) (o:= .cells #[.slice jm j5.length jn, .slice (some jT) j6.length jo] 46 (0,0)) (aG_ j3.out) hg (Kd.BN ja.out j3.out (by decide)))
        replace j4:=am (gV (g:=j9) (o:= .cells #[.slice none 0 0, .slice none 0 0] 46 (0,0)) (aG_ j4.out) hg (Kd.BN ja.out j4.out (by decide)))
        replace j7:=am (gV (g:=j8) (o:= .cells #[.slice jg jl.length jh,u62] 46 (0,0)) (aG_ j7.out) hg (Kd.BN ja.out j7.out (by decide)))
        replace HB:=am (hb)
        have q7:=am (ho)
        clear ja jH
        clear ho hb hg hat
        obtain ⟨jV,jW,q8⟩:=Kd.dD q7.out
        (first|subst q8|(injection q8 with f1_ f2_ f3_;have f4_:=f1_.symm;have f5_:=f3_.symm;clear f1_ f2_ f3_;subst f4_;subst f5_))
        refine hK.out _ _ ⟨(aA j7.out 0).trans rfl,(aA j7.out 1).trans rfl,(aA j3.out 0).trans rfl,(aA j3.out 1).trans rfl,((HB.out.cell (World.block_lt_of_cell? w _ hw68_0)).trans hw68_0)⟩ (fun hHeld=>?_)
        clear hK K
        refine fB (a':=?_) ?_ ?_
        rotate_left
        ·show Act.put _ (some 32) _=_
         simp only [Act.put,List.setIfInBounds_toArray,List.set_cons_zero,List.set_cons_succ,dS,dV]
         rfl
        refine pr_ 10 33 (bz 12 2047) HT_ ?_
        refine wN (i:=11) (N:=none) (bz 12 4095) rfl rfl (gG HT_.out (by kernel_rfl)) (by decide) (fun K hK=>?_)
        have z9:z8.cell? ⟨j8,1,none⟩=some (u62):=(aA j7.out 1).trans rfl
        have hfs34:=aU j7.out 1
        have hns34_0:=jc.out
        have hns34_1:=jf.out
        have hms34_0:=jj.out
        have hms34_1:=jr.out
        refine rO (w1:=?_) (by rfl) rfl ?_ ?_
        rotate_left
        ·go_simp
         rfl
        refine hK.out _ _ ?_
        clear hK K
        refine pE (lV HT_.out (by kernel_rfl)) ?_
        try go_wp2
        go_roundg k1
        case measure=>have:=qM.out;omega
        case rel=>exact ⟨(wrap64 (jd + 1)),(q5),(.slice jV q5.length jW),sd_,H',⟨by have:=qM.out;omega⟩,⟨iC (Kd.cZ (Kd.dM (p:=⟨j8,1,none⟩) (Kd.eF je.out j7.out (by decide)) (fun _ hk=>hk.2) (.slice jV q5.length jW)) (fun _ hk=>hk.1))⟩,⟨eO (Kd.aD (Kd.aT (p:=⟨j8,1,none⟩) (Kd.aD q7.out (fun k_ hk=>(⟨hk,hk.2.2.2.2⟩:_∧k_≠j8))) (fun _ hk=>hk.2) (.slice jV q5.length jW)) (fun _ hk=>⟨hk.1.1,⟨hk.1.2.1,⟨hk.1.2.2.1,⟨hk.1.2.2.2.1,hk.1.2.2.2.2⟩⟩⟩⟩))⟩,⟨(aZ j3.out jc.out _)⟩,⟨(aZ j4.out jf.out _)⟩,⟨(aM j7.out 1 _ rfl)⟩,⟨AB⟩⟩
       rw [if_neg qb] at H
       exact absurd H (by simp)
      rw [if_neg q9] at H
      exact absurd H (by simp)
     rw [if_neg jZ] at H
     have q3:decide (jd < (j6.length:Int))=false:=decide_eq_false jZ
     clear jZ
     simp only [Option.some.injEq,Prod.mk.injEq] at H
     obtain ⟨rfl,rfl,rfl⟩:=H
     have qT:=jp.out
     have qU:=jq.out
     have qV:=jc.out
     have qW:=jj.out
     obtain ⟨qg,qh,qi,qj⟩:=fT j3.out
     have qX:=jr.out
     have qY:=jf.out
     obtain ⟨qk,ql,qm,qn⟩:=fT j7.out
     obtain ⟨qo,qp,qq,qr⟩:=fT j4.out
     obtain ⟨jX,jY,qH⟩:=Kd.dD ja.out
     subst qH
     go_wp2
     refine bodyPost_ret (vK rfl _ _ j9 46 #[.slice jg jl.length jh, .slice jX ji.length jY] (0,0) _ rfl (aM (aM j4.out 0 _ rfl) 1 _ rfl) Try.underlying46 rfl (by kernel_rfl)) rfl ?_
     exact ⟨_,_,iM,iC (Kd.cZ (Kd.dM (p:=⟨j9,1,none⟩) (Kd.dM (p:=⟨j9,0,none⟩) (Kd.eF je.out j4.out (by decide)) (fun _ hk=>hk.2) (.slice jg jl.length jh)) (fun _ hk=>hk.2) (.slice jX ji.length jY)) (fun _ hk=>hk.1)),eO (Kd.aD (Kd.aT (p:=⟨j9,1,none⟩) (Kd.aT (p:=⟨j9,0,none⟩) (Kd.aD ja.out (fun k_ hk=>(⟨hk,hk.2.2.2.1⟩:_∧k_≠j9))) (fun _ hk=>hk.2) (.slice jg jl.length jh)) (fun _ hk=>hk.2) (.slice jX ji.length jY)) (fun _ hk=>⟨hk.1.1,hk.1.2.1⟩)),AB⟩
  rw [if_neg c4] at H
  exact absurd H (by simp)
 replace c3:=Bool.eq_false_iff.mpr c3
 subst c3
 rw [if_neg (show ¬ (false=true) by decide)] at H
 simp only [Option.some.injEq,Prod.mk.injEq] at H
 obtain ⟨rfl,rfl,rfl⟩:=H
 go_wp2_with (first|((with_reducible refine aN (f:=59) rfl ?_);refine gl_ 7 Try.func59 #[.agg #[.slice jm j5.length jn, .slice js j6.length jo]] ?_;(with_reducible refine (bC.calls k _ _ j5 _ _ j6 false _ (aC_ (Kd.aV ju.out HB.out)) jI.out (aC_ (Kd.aV jv.out HB.out)) jJ.out A2.out).mono ?_);rintro e zi ⟨rfl,hb⟩;refine ⟨_,rfl,?_⟩;replace j3:=bbP j3 hb;replace j4:=bbP j4 hb;replace HB:=am (aG tJ hb);(try clear hb);obtain ⟨qs,qt,qu,qv⟩:=fT j4.out))
 refine bodyPost_ret (vK rfl _ _ j9 46 #[.slice none 0 0, .slice none 0 0] (0,0) _ rfl (aM (aM j4.out 0 _ rfl) 1 _ rfl) Try.underlying46 rfl (by kernel_rfl)) rfl ?_
 exact ⟨_,_,iM,by first|exact Kd.oU _ _ _ _ _|exact Kd.sP _ _ _ _ _|exact Kd.sU _ _ _ _ _|exact Kd.sQ _ _ _ _ _|exact Kd.sS _ _ _ _ _,by first|exact Kd.oU _ _ _ _ _|exact Kd.sP _ _ _ _ _|exact Kd.sU _ _ _ _ _|exact Kd.sQ _ _ _ _ _|exact Kd.sS _ _ _ _ _,tJ⟩
theorem bH.mono_l:∀ k,(∀ y0 y1 y2 y3 y4 y5,LeO (bH.f k y0 y1 y2 y3 y4 y5) (bH.f (k + 1) y0 y1 y2 y3 y4 y5))∧(∀ y0 y1 y2 y3 y4 y5 y6,LeO (bH.j0 k y0 y1 y2 y3 y4 y5 y6) (bH.j0 (k + 1) y0 y1 y2 y3 y4 y5 y6))∧(∀ y0 y1 y2 y3 y4 y5 y6,LeO (bH.l0 k y0 y1 y2 y3 y4 y5 y6) (bH.l0 (k + 1) y0 y1 y2 y3 y4 y5 y6))
 |0=>⟨fun _ _ _ _ _ _ r h=>by simp [bH.f] at h,fun _ _ _ _ _ _ _ r h=>by simp [bH.j0] at h,fun _ _ _ _ _ _ _ r h=>by simp [bH.l0] at h⟩
 |k + 1=>by
  obtain ⟨ih0,ih1,ih2⟩:=bH.mono_l k
  refine ⟨?_,?_,?_⟩
  ·intro y0 y1 y2 y3 y4 y5
   unfold bH.f
   exact mo_
  ·intro y0 y1 y2 y3 y4 y5 y6
   unfold bH.j0
   exact mo_
  ·intro y0 y1 y2 y3 y4 y5 y6
   unfold bH.l0
   exact mo_
theorem bH.mono:∀ a0 a1 a2 a3 a4 a5 k,LeO (bH.f k a0 a1 a2 a3 a4 a5) (bH.f (k + 1) a0 a1 a2 a3 a4 a5):=by
 intro a0 a1 a2 a3 a4 a5 k
 obtain ⟨ih0,ih1,ih2⟩:=bH.mono_l k
 exact ih0 a0 a1 a2 a3 a4 a5
def bH.T6:Bool × List (List Nat × List Nat):=(true,[([],[]),([0],[0]),([],[]),([1,2],[1,2]),([3],[3]),([],[]),([5],[5]),([],[]),([6,7],[6,7]),([8],[8]),([4,9],[4,9]),([10],[10])])
def bH.B6:List Nat:=[0,1,0,7,15,0,32,0,224,480,1023,2047]
theorem bH.CJ:lJ .any (opsOf Try.f49 6)=bH.T6:=by kernel_rfl
theorem bH.uW:iW bH.T6.2 bH.B6=true:=by kernel_rfl
theorem bH.calls (k:Nat):∀ (je:Int) (jf:Int) (jz:Option Addr) (jq:Nat) (j4:List (S32)) (jg:Int) (jh:Int) (jA:Option Addr) (jr:Nat) (j5:List (S32)) (r:Bool) (w:World) (hr0_2:Kd.C k32 w jz j4.length j4) (hc0_2:j4.length≤jq) (hr1_2:Kd.C k32 w jA j5.length j5) (hc1_2:j5.length≤jr) (h:bH.f k je jf j4 jg jh j5=some r),
  Calls Try.prog 49 #[.agg #[.int .i64 je, .int .i64 jf, .slice jz j4.length jq], .agg #[.int .i64 jg, .int .i64 jh, .slice jA j5.length jr]] w fun e w'=>e= .returned (.bool r)∧Below w.heap.size w w':=by
 induction k using Nat.strongRecOn with
 | _ k ih=>
 intro je jf jz jq j4 jg jh jA jr j5 r w hr0_2 hc0_2 hr1_2 hc1_2 h
 cases k with
 |zero=>exact absurd h (by simp [bH.f])
 |succ k=>
 simp only [bH.f] at h
 have hu32:=Try.underlying32
 have jC:=am hr0_2
 have qN:=am hc0_2
 clear hr0_2 hc0_2
 have jD:=am hr1_2
 have qO:=am hc1_2
 clear hr1_2 hc1_2
 have HB:=am (Below.refl w.heap.size w)
 have H:(if je=jg then (if jf=jh then (bH.j0 k ((j4.length:Int) != (j5.length:Int)) je jf j4 jg jh j5) else (bH.j0 k true je jf j4 jg jh j5)) else (bH.j0 k true je jf j4 jg jh j5))=some r:=h
 clear h
 have qB:=am H
 clear H
 go_enter Try.func49,Try.ntmps49
 go_upto_region 1 with (first|((with_reducible refine bQ (N:=2) rfl ?_);(try (refine kQ (by rfl) ?_;dsimp only));refine dJ rfl (N:=2) rfl (cs:=#[.int .i64 je, .int .i64 jf, .slice jz j4.length jq]) (t:=32) rn_ ?_;intro jm hg w4 hbox hb;have j6:=am (hbox);have z4:=am ((by rw [hg];exact (aJ gK):w.heap.size≤jm));have GE33:=am ((by rw [hg];exact (aJ gK):w.heap.size≤jm));replace HB:=am (aG gK hb);clear hb hbox hg)|((with_reducible refine bQ (N:=3) rfl ?_);(try (refine kQ (by rfl) ?_;dsimp only));refine dJ rfl (N:=3) rfl (cs:=#[.int .i64 jg, .int .i64 jh, .slice jA j5.length jr]) (t:=32) rn_ ?_;intro jn hg w5 hbox hb;have j7:=am (hbox);have z5:=am ((by rw [hg];exact (aJ NJ):w.heap.size≤jn));have GE46:=am ((by rw [hg];exact (aJ NJ):w.heap.size≤jn));replace HB:=am (aG NJ hb);have ji:=am ((by rw [hg];exact Nat.ne_of_lt (fO j6.out):jm≠jn));have jj:=am ((by rw [hg];exact Nat.ne_of_gt (fO j6.out):jn≠jm));replace j6:=bbP j6 hb;clear hb hbox hg))
 (try simp only [Act.put,List.setIfInBounds_toArray,List.set_cons_zero,List.set_cons_succ])
 go_cut [26] (fun z6 wc=>∃ (kq:Nat) (jy:Bool),z6= .bool jy∧Aside0 (bH.j0 kq jy je jf j4 jg jh j5=some r)∧Aside0 (kq≤k)∧Aside0 (wc.heap[jm]?=some (.cells #[.int .i64 je, .int .i64 jf,(.slice jz j4.length jq)] 32 (0,0)))∧Aside0 (wc.heap[jn]?=some (.cells #[.int .i64 jg, .int .i64 jh,(.slice jA j5.length jr)] 32 (0,0)))∧Aside0 (Below w.heap.size w wc))
 case first=>
  have H:=qB.out
  clear qB
  by_cases c6:je=jg
  ·rw [if_pos c6] at H
   have jB:(je == jg)=true:=beq_iff_eq.mpr c6
   have qC:(je != jg)=false:=bne_eq_false_iff_eq.mpr c6
   clear c6
   (first|rw [jB]|(simp only [dS,dV];rw [jB])|skip)
   by_cases c7:jf=jh
   ·rw [if_pos c7] at H
    have qD:(jf == jh)=true:=beq_iff_eq.mpr c7
    have qE:(jf != jh)=false:=bne_eq_false_iff_eq.mpr c7
    clear c7
    have H':=am H
    clear H
    have z7:=ji.out
    have z8:=jj.out
    obtain ⟨qF,qG,qH,qI,qJ,qK⟩:=fZ j6.out
    obtain ⟨jL,jM,jN,jO,jP,jQ⟩:=fZ j7.out
    go_wp2
    go_meet
    case rel=>exact ⟨_,(((j4.length:Int) != (j5.length:Int))),sd_,H',⟨by first|omega|exact Nat.le_refl _⟩,⟨by (with_reducible repeat (first|refine dQ ?_ _|refine bT ?_|refine dF ?_ _));exact j6.out⟩,⟨by (with_reducible repeat (first|refine dQ ?_ _|refine bT ?_|refine dF ?_ _));exact j7.out⟩,⟨xR⟩⟩
   rw [if_neg c7] at H
   have qD:(jf == jh)=false:=beq_eq_false_iff_ne.mpr c7
   have qE:(jf != jh)=true:=bne_iff_ne.mpr c7
   have H':=am H
   clear H
   have qP:=ji.out
   have qQ:=jj.out
   obtain ⟨jR,jS,jT,jU,jV,jW⟩:=fZ j6.out
   obtain ⟨jX,jY,jZ,q0,q1,q2⟩:=fZ j7.out
   go_wp2
   go_meet
   case rel=>exact ⟨_,(true),sd_,H',⟨by first|omega|exact Nat.le_refl _⟩,⟨by (with_reducible repeat (first|refine dQ ?_ _|refine bT ?_|refine dF ?_ _));exact j6.out⟩,⟨by (with_reducible repeat (first|refine dQ ?_ _|refine bT ?_|refine dF ?_ _));exact j7.out⟩,⟨xR⟩⟩
  rw [if_neg c6] at H
  have jB:(je == jg)=false:=beq_eq_false_iff_ne.mpr c6
  have qC:(je != jg)=true:=bne_iff_ne.mpr c6
  (first|rw [jB]|(simp only [dS,dV];rw [jB])|skip)
  have H':=am H
  clear H
  have qR:=ji.out
  have qS:=jj.out
  obtain ⟨q3,q4,q5,q6,q7,q8⟩:=fZ j6.out
  obtain ⟨q9,qa,qb,qc,qd,qe⟩:=fZ j7.out
  go_wp2
  go_meet
  case rel=>exact ⟨_,(true),sd_,H',⟨by first|omega|exact Nat.le_refl _⟩,⟨by (with_reducible repeat (first|refine dQ ?_ _|refine bT ?_|refine dF ?_ _));exact j6.out⟩,⟨by (with_reducible repeat (first|refine dQ ?_ _|refine bT ?_|refine dF ?_ _));exact j7.out⟩,⟨xR⟩⟩
 case rest=>
  clear qB
  obtain ⟨kq,jy,rfl,HA,HJ2,j6,j7,HB⟩:=hcut
  cases kq with
  |zero=>exact absurd HA.out (by simp [bH.j0])
  |succ qT=>
   have H:=HA.out
   clear HA
   simp only [bH.j0] at H
   by_cases jJ:jy=true
   ·subst jJ
    rw [if_pos rfl] at H
    obtain rfl:=Option.some.inj H
    go_wp2
    go_ret
    exact ⟨rr_,xR⟩
   replace jJ:=Bool.eq_false_iff.mpr jJ
   subst jJ
   rw [if_neg (show ¬ (false=true) by decide)] at H
   have H':=am H
   clear H
   go_wp2
   go_loopg [5] qT (fun kq v5 w'=>∃ (j3:Int),v5= .int .i64 j3∧Aside0 (bH.l0 kq j3 je jf j4 jg jh j5=some r)∧Aside0 (kq≤qT)∧Aside0 (w'.heap[jm]?=some (.cells #[.int .i64 je, .int .i64 jf,(.slice jz j4.length jq)] 32 (0,0)))∧Aside0 (w'.heap[jn]?=some (.cells #[.int .i64 jg, .int .i64 jh,(.slice jA j5.length jr)] 32 (0,0)))∧Aside0 (Below w.heap.size w w'))
   case atStart=>exact ⟨(0),sd_,H',⟨Nat.le_refl _⟩,⟨by (with_reducible repeat (first|refine dQ ?_ _|refine bT ?_|refine dF ?_ _));exact j6.out⟩,⟨by (with_reducible repeat (first|refine dQ ?_ _|refine bT ?_|refine dF ?_ _));exact j7.out⟩,⟨xR⟩⟩
   case round=>
    clear H'
    try clear jJ
    obtain ⟨j3,rfl,HA,qf,j6,j7,HB⟩:=hrel
    cases gk with
    |zero=>exact absurd HA.out (by simp [bH.l0])
    |succ k2=>
     have H:=HA.out
     clear HA
     simp only [bH.l0] at H
     by_cases jI:j3 < (j4.length:Int)
     ·rw [if_pos jI] at H
      have jK:decide (j3 < (j4.length:Int))=true:=decide_eq_true jI
      clear jI
      by_cases qg:0≤j3
      ·rw [if_pos qg] at H
       have qU:decide (0≤j3)=true:=decide_eq_true qg
       clear qg
       by_cases qh:j3 < (j5.length:Int)
       ·rw [if_pos qh] at H
        have qV:decide (j3 < (j5.length:Int))=true:=decide_eq_true qh
        clear qh
        obtain ⟨z9,qW,H⟩:=bsm H
        (try dsimp only at H)
        have qX:=am qW
        clear qW
        by_cases qi:z9=true
        ·subst qi
         rw [if_pos rfl] at H
         have H':=am H
         clear H
         have qY:=ji.out
         have qZ:=jj.out
         obtain ⟨qj,qk,ql,qm,qn,qo⟩:=fZ j6.out
         try go_wp2
         replace j6:=am (bT j6.out)
         replace j7:=am (bT j7.out)
         replace HB:=am (bG HB.out)
         have jE:0≤(j3:Int):=of_decide_eq_true gL
         have jF:j3 < (j4.length:Int):=of_decide_eq_true gL
         obtain ⟨jk,js,jt,qL,j8,j9,ja,hl50_2,hi50_2⟩:=rC jC.out j3 jE jF
         have hw50_2:=ja
         have hw50_1:=j9
         have hw50_0:=j8
         cases qL
         replace j8:=(HB.out.cell (World.block_lt_of_cell? w _ j8)).trans j8
         replace j9:=(HB.out.cell (World.block_lt_of_cell? w _ j9)).trans j9
         replace ja:=(HB.out.cell (World.block_lt_of_cell? w _ ja)).trans ja
         have jo:=am hi50_2
         have jw:=am hl50_2
         clear hi50_2 hl50_2
         replace jE:=eq_true jE
         replace jF:=eq_true jF
         have jG:0≤(j3:Int):=of_decide_eq_true gL
         have jH:j3 < (j5.length:Int):=of_decide_eq_true gL
         obtain ⟨jl,ju,jv,qM,jb,jc,jd,hl51_2,hi51_2⟩:=rC jD.out j3 jG jH
         have hw51_2:=jd
         have hw51_1:=jc
         have hw51_0:=jb
         cases qM
         replace jb:=(HB.out.cell (World.block_lt_of_cell? w _ jb)).trans jb
         replace jc:=(HB.out.cell (World.block_lt_of_cell? w _ jc)).trans jc
         replace jd:=(HB.out.cell (World.block_lt_of_cell? w _ jd)).trans jd
         have jp:=am hi51_2
         have jx:=am hl51_2
         clear hi51_2 hl51_2
         replace jG:=eq_true jG
         replace jH:=eq_true jH
         refine mR (n:=12) (S:=fun w'=>w'.cell? ⟨jm,0,none⟩=some (.int .i64 je)∧w'.cell? ⟨jm,1,none⟩=some (.int .i64 jf)∧w'.cell? ⟨jm,2,none⟩=some (.slice (some jk) j4.length jq)∧w'.cell? ⟨jn,0,none⟩=some (.int .i64 jg)∧w'.cell? ⟨jn,1,none⟩=some (.int .i64 jh)∧w'.cell? ⟨jn,2,none⟩=some (.slice (some jl) j5.length jr)∧w'.cell? (jk.add ((j3).toNat * 3))=some (.int .i64 ((aY j4 j3).f0))∧w'.cell? ⟨(jk.add ((j3).toNat * 3)).block,(jk.add ((j3).toNat * 3)).off + 1,none⟩=some (.int .i64 ((aY j4 j3).f1))∧w'.cell? ⟨(jk.add ((j3).toNat * 3)).block,(jk.add ((j3).toNat * 3)).off + 2,none⟩=some (.slice js ((aY j4 j3).f2).length jt)∧w'.cell? (jl.add ((j3).toNat * 3))=some (.int .i64 ((aY j5 j3).f0))∧w'.cell? ⟨(jl.add ((j3).toNat * 3)).block,(jl.add ((j3).toNat * 3)).off + 1,none⟩=some (.int .i64 ((aY j5 j3).f1))∧w'.cell? ⟨(jl.add ((j3).toNat * 3)).block,(jl.add ((j3).toNat * 3)).off + 2,none⟩=some (.slice ju ((aY j5 j3).f2).length jv)) (ds:=[]) (bz 12 0) (by kernel_rfl) rfl rfl ⟨(aA j6.out 0).trans rfl,(aA j6.out 1).trans rfl,(aA j6.out 2).trans rfl,(aA j7.out 0).trans rfl,(aA j7.out 1).trans rfl,(aA j7.out 2).trans rfl,((HB.out.cell (World.block_lt_of_cell? w _ hw50_0)).trans hw50_0),((HB.out.cell (World.block_lt_of_cell? w _ hw50_1)).trans hw50_1),((HB.out.cell (World.block_lt_of_cell? w _ hw50_2)).trans hw50_2),((HB.out.cell (World.block_lt_of_cell? w _ hw51_0)).trans hw51_0),((HB.out.cell (World.block_lt_of_cell? w _ hw51_1)).trans hw51_1),((HB.out.cell (World.block_lt_of_cell? w _ hw51_2)).trans hw51_2)⟩ (fun hHeld=>?_);refine kE bH.CJ bH.uW (fun HT_ HW_=>?_)
         generalize wr.drew=za at j6 j7 HB jo jp j8 j9 ja jb jc jd hHeld ⊢
         refine pr_ 0 34 (bz 12 1) HT_ ?_
         refine pr_ 2 36 (bz 12 5) HT_ ?_
         refine pr_ 5 39 (bz 12 37) HT_ ?_
         refine pr_ 7 41 (bz 12 165) HT_ ?_
         refine DK 1 35 (bz 12 167) HT_ HW_ hHeld ?_
         refine pr_ 3 37 (bz 12 175) HT_ ?_
         refine DK 4 38 (bz 12 191) HT_ HW_ hHeld ?_
         refine DK 6 40 (bz 12 255) HT_ HW_ hHeld ?_
         refine pr_ 8 42 (bz 12 511) HT_ ?_
         refine DK 9 43 (bz 12 1023) HT_ HW_ hHeld ?_
         refine lH (i:=10) (N:=some 44) (bz 12 2047) rfl rfl (gG HT_.out (by kernel_rfl)) (by decide) (fun K hK=>?_)
         refine kU Try.func49 (by kernel_rfl) rfl #[.agg #[.int .i64 ((aY j4 j3).f0), .int .i64 ((aY j4 j3).f1), .slice js ((aY j4 j3).f2).length jt], .agg #[.int .i64 ((aY j5 j3).f0), .int .i64 ((aY j5 j3).f1), .slice ju ((aY j5 j3).f2).length jv]] (by rfl) rfl rfl nX ?_
         with_reducible refine (ih k2 (by have:=HJ2.out;have:=qf.out;omega) ((aY j4 j3).f0) ((aY j4 j3).f1) _ _ ((aY j4 j3).f2) ((aY j5 j3).f0) ((aY j5 j3).f1) _ _ ((aY j5 j3).f2) true _ (aC_ (Kd.aV jo.out HB.out)) jw.out (aC_ (Kd.aV jp.out HB.out)) jx.out qX.out).mono ?_
         rintro e zb ⟨rfl,hb⟩
         refine ⟨_,rfl,?_⟩
         replace j6:=bbP j6 hb
         replace j7:=bbP j7 hb
         replace HB:=am (aG xR hb)
         (try clear hb)
         (try clear hb2)
         (try clear hk)
         (try clear hi)
         refine hK.out _ _ ⟨(aA j6.out 0).trans rfl,(aA j6.out 1).trans rfl,(aA j6.out 2).trans rfl,(aA j7.out 0).trans rfl,(aA j7.out 1).trans rfl,(aA j7.out 2).trans rfl,((HB.out.cell (World.block_lt_of_cell? w _ hw50_0)).trans hw50_0),((HB.out.cell (World.block_lt_of_cell? w _ hw50_1)).trans hw50_1),((HB.out.cell (World.block_lt_of_cell? w _ hw50_2)).trans hw50_2),((HB.out.cell (World.block_lt_of_cell? w _ hw51_0)).trans hw51_0),((HB.out.cell (World.block_lt_of_cell? w _ hw51_1)).trans hw51_1),((HB.out.cell (World.block_lt_of_cell? w _ hw51_2)).trans hw51_2)⟩ (fun hHeld=>?_)
         clear hK K
         refine fB (a':=?_) ?_ ?_
         rotate_left
         ·show Act.put _ (some 44) _=_
          simp only [Act.put,List.setIfInBounds_toArray,List.set_cons_zero,List.set_cons_succ,dS,dV]
          rfl
         refine pr_ 11 45 (bz 12 4095) HT_ ?_
         refine pE (lV HT_.out (by kernel_rfl)) ?_
         try go_wp2
         go_roundg k2
         case measure=>have:=HJ2.out;have:=qf.out;omega
         case rel=>exact ⟨(wrap64 (j3 + 1)),sd_,H',⟨by have:=HJ2.out;have:=qf.out;omega⟩,⟨by (with_reducible repeat (first|refine dQ ?_ _|refine bT ?_|refine dF ?_ _));exact j6.out⟩,⟨by (with_reducible repeat (first|refine dQ ?_ _|refine bT ?_|refine dF ?_ _));exact j7.out⟩,⟨xR⟩⟩
        replace qi:=Bool.eq_false_iff.mpr qi
        subst qi
        rw [if_neg (show ¬ (false=true) by decide)] at H
        obtain rfl:=Option.some.inj H
        have z0:=ji.out
        have z1:=jj.out
        obtain ⟨qp,qq,qr,qs,qt,qu⟩:=fZ j6.out
        try go_wp2
        replace j6:=am (bT j6.out)
        replace j7:=am (bT j7.out)
        replace HB:=am (bG HB.out)
        have jE:0≤(j3:Int):=of_decide_eq_true gL
        have jF:j3 < (j4.length:Int):=of_decide_eq_true gL
        obtain ⟨jk,js,jt,qL,j8,j9,ja,hl50_2,hi50_2⟩:=rC jC.out j3 jE jF
        have hw50_2:=ja
        have hw50_1:=j9
        have hw50_0:=j8
        cases qL
        replace j8:=(HB.out.cell (World.block_lt_of_cell? w _ j8)).trans j8
        replace j9:=(HB.out.cell (World.block_lt_of_cell? w _ j9)).trans j9
        replace ja:=(HB.out.cell (World.block_lt_of_cell? w _ ja)).trans ja
        have jo:=am hi50_2
        have jw:=am hl50_2
        clear hi50_2 hl50_2
        replace jE:=eq_true jE
        replace jF:=eq_true jF
        have jG:0≤(j3:Int):=of_decide_eq_true gL
        have jH:j3 < (j5.length:Int):=of_decide_eq_true gL
        obtain ⟨jl,ju,jv,qM,jb,jc,jd,hl51_2,hi51_2⟩:=rC jD.out j3 jG jH
        have hw51_2:=jd
        have hw51_1:=jc
        have hw51_0:=jb
        cases qM
        replace jb:=(HB.out.cell (World.block_lt_of_cell? w _ jb)).trans jb
        replace jc:=(HB.out.cell (World.block_lt_of_cell? w _ jc)).trans jc
        replace jd:=(HB.out.cell (World.block_lt_of_cell? w _ jd)).trans jd
        have jp:=am hi51_2
        have jx:=am hl51_2
        clear hi51_2 hl51_2
        replace jG:=eq_true jG
        replace jH:=eq_true jH
        refine mR (n:=12) (S:=fun w'=>w'.cell? ⟨jm,0,none⟩=some (.int .i64 je)∧w'.cell? ⟨jm,1,none⟩=some (.int .i64 jf)∧w'.cell? ⟨jm,2,none⟩=some (.slice (some jk) j4.length jq)∧w'.cell? ⟨jn,0,none⟩=some (.int .i64 jg)∧w'.cell? ⟨jn,1,none⟩=some (.int .i64 jh)∧w'.cell? ⟨jn,2,none⟩=some (.slice (some jl) j5.length jr)∧w'.cell? (jk.add ((j3).toNat * 3))=some (.int .i64 ((aY j4 j3).f0))∧w'.cell? ⟨(jk.add ((j3).toNat * 3)).block,(jk.add ((j3).toNat * 3)).off + 1,none⟩=some (.int .i64 ((aY j4 j3).f1))∧w'.cell? ⟨(jk.add ((j3).toNat * 3)).block,(jk.add ((j3).toNat * 3)).off + 2,none⟩=some (.slice js ((aY j4 j3).f2).length jt)∧w'.cell? (jl.add ((j3).toNat * 3))=some (.int .i64 ((aY j5 j3).f0))∧w'.cell? ⟨(jl.add ((j3).toNat * 3)).block,(jl.add ((j3).toNat * 3)).off + 1,none⟩=some (.int .i64 ((aY j5 j3).f1))∧w'.cell? ⟨(jl.add ((j3).toNat * 3)).block,(jl.add ((j3).toNat * 3)).off + 2,none⟩=some (.slice ju ((aY j5 j3).f2).length jv)) (ds:=[]) (bz 12 0) (by kernel_rfl) rfl rfl ⟨(aA j6.out 0).trans rfl,(aA j6.out 1).trans rfl,(aA j6.out 2).trans rfl,(aA j7.out 0).trans rfl,(aA j7.out 1).trans rfl,(aA j7.out 2).trans rfl,((HB.out.cell (World.block_lt_of_cell? w _ hw50_0)).trans hw50_0),((HB.out.cell (World.block_lt_of_cell? w _ hw50_1)).trans hw50_1),((HB.out.cell (World.block_lt_of_cell? w _ hw50_2)).trans hw50_2),((HB.out.cell (World.block_lt_of_cell? w _ hw51_0)).trans hw51_0),((HB.out.cell (World.block_lt_of_cell? w _ hw51_1)).trans hw51_1),((HB.out.cell (World.block_lt_of_cell? w _ hw51_2)).trans hw51_2)⟩ (fun hHeld=>?_);refine kE bH.CJ bH.uW (fun HT_ HW_=>?_)
        generalize wr.drew=zc at j6 j7 HB jo jp j8 j9 ja jb jc jd hHeld ⊢
        refine pr_ 0 34 (bz 12 1) HT_ ?_
        refine pr_ 2 36 (bz 12 5) HT_ ?_
        refine pr_ 5 39 (bz 12 37) HT_ ?_
        refine pr_ 7 41 (bz 12 165) HT_ ?_
        refine DK 1 35 (bz 12 167) HT_ HW_ hHeld ?_
        refine pr_ 3 37 (bz 12 175) HT_ ?_
        refine DK 4 38 (bz 12 191) HT_ HW_ hHeld ?_
        refine DK 6 40 (bz 12 255) HT_ HW_ hHeld ?_
        refine pr_ 8 42 (bz 12 511) HT_ ?_
        refine DK 9 43 (bz 12 1023) HT_ HW_ hHeld ?_
        refine lH (i:=10) (N:=some 44) (bz 12 2047) rfl rfl (gG HT_.out (by kernel_rfl)) (by decide) (fun K hK=>?_)
        refine kU Try.func49 (by kernel_rfl) rfl #[.agg #[.int .i64 ((aY j4 j3).f0), .int .i64 ((aY j4 j3).f1), .slice js ((aY j4 j3).f2).length jt], .agg #[.int .i64 ((aY j5 j3).f0), .int .i64 ((aY j5 j3).f1), .slice ju ((aY j5 j3).f2).length jv]] (by rfl) rfl rfl nX ?_
        with_reducible refine (ih k2 (by have:=HJ2.out;have:=qf.out;omega) ((aY j4 j3).f0) ((aY j4 j3).f1) _ _ ((aY j4 j3).f2) ((aY j5 j3).f0) ((aY j5 j3).f1) _ _ ((aY j5 j3).f2) false _ (aC_ (Kd.aV jo.out HB.out)) jw.out (aC_ (Kd.aV jp.out HB.out)) jx.out qX.out).mono ?_
        rintro e zd ⟨rfl,hb⟩
        refine ⟨_,rfl,?_⟩
        replace j6:=bbP j6 hb
        replace j7:=bbP j7 hb
        replace HB:=am (aG xR hb)
        (try clear hb)
        (try clear hb2)
        (try clear hk)
        (try clear hi)
        refine hK.out _ _ ⟨(aA j6.out 0).trans rfl,(aA j6.out 1).trans rfl,(aA j6.out 2).trans rfl,(aA j7.out 0).trans rfl,(aA j7.out 1).trans rfl,(aA j7.out 2).trans rfl,((HB.out.cell (World.block_lt_of_cell? w _ hw50_0)).trans hw50_0),((HB.out.cell (World.block_lt_of_cell? w _ hw50_1)).trans hw50_1),((HB.out.cell (World.block_lt_of_cell? w _ hw50_2)).trans hw50_2),((HB.out.cell (World.block_lt_of_cell? w _ hw51_0)).trans hw51_0),((HB.out.cell (World.block_lt_of_cell? w _ hw51_1)).trans hw51_1),((HB.out.cell (World.block_lt_of_cell? w _ hw51_2)).trans hw51_2)⟩ (fun hHeld=>?_)
        clear hK K
        refine fB (a':=?_) ?_ ?_
        rotate_left
        ·show Act.put _ (some 44) _=_
         simp only [Act.put,List.setIfInBounds_toArray,List.set_cons_zero,List.set_cons_succ,dS,dV]
         rfl
        refine pr_ 11 45 (bz 12 4095) HT_ ?_
        refine pE (lV HT_.out (by kernel_rfl)) ?_
        try go_wp2
        go_ret
        exact ⟨rr_,xR⟩
       rw [if_neg qh] at H
       exact absurd H (by simp)
      rw [if_neg qg] at H
      exact absurd H (by simp)
     rw [if_neg jI] at H
     have jK:decide (j3 < (j4.length:Int))=false:=decide_eq_false jI
     clear jI
     obtain rfl:=Option.some.inj H
     have z2:=ji.out
     have z3:=jj.out
     obtain ⟨qv,qw,qx,qy,qz,qA⟩:=fZ j6.out
     go_wp2
     go_ret
     exact ⟨rr_,xR⟩
theorem bE.mono_l:∀ k,(∀ y0 y1,LeO (bE.f k y0 y1) (bE.f (k + 1) y0 y1))∧(∀ y0 y1 y2,LeO (bE.l0 k y0 y1 y2) (bE.l0 (k + 1) y0 y1 y2))∧(∀ y0 y1 y2 y3 y4 y5 y6 y7 y8 y9 j3 j4 j5 j6 j7 j8 j9 ja jb jc,LeO (bE.j1 k y0 y1 y2 y3 y4 y5 y6 y7 y8 y9 j3 j4 j5 j6 j7 j8 j9 ja jb jc) (bE.j1 (k + 1) y0 y1 y2 y3 y4 y5 y6 y7 y8 y9 j3 j4 j5 j6 j7 j8 j9 ja jb jc))
 |0=>⟨fun _ _ r h=>by simp [bE.f] at h,fun _ _ _ r h=>by simp [bE.l0] at h,fun _ _ _ _ _ _ _ _ _ _ _ _ _ _ _ _ _ _ _ _ r h=>by simp [bE.j1] at h⟩
 |k + 1=>by
  obtain ⟨ih0,ih1,ih2⟩:=bE.mono_l k
  refine ⟨?_,?_,?_⟩
  ·intro y0 y1
   unfold bE.f
   have m0:=@bH.mono
   exact mo_
  ·intro y0 y1 y2
   unfold bE.l0
   have m0:=@bH.mono
   exact mo_
  ·intro y0 y1 y2 y3 y4 y5 y6 y7 y8 y9 j3 j4 j5 j6 j7 j8 j9 ja jb jc
   unfold bE.j1
   have m0:=@bH.mono
   exact mo_
theorem bE.mono:∀ a0 a1 k,LeO (bE.f k a0 a1) (bE.f (k + 1) a0 a1):=by
 intro a0 a1 k
 obtain ⟨ih0,ih1,ih2⟩:=bE.mono_l k
 exact ih0 a0 a1
theorem bE.calls (k:Nat):∀ (A0:Option Addr) (c0:Nat) (l0:List (S35)) (A1:Option Addr) (c1:Nat) (l1:List (S35)) (r:Bool) (w:World) (hr0:Kd.C k35 w A0 l0.length l0) (hc0:l0.length≤c0) (hr1:Kd.C k35 w A1 l1.length l1) (hc1:l1.length≤c1) (h:bE.f k l0 l1=some r),
  Calls Try.prog 15 #[.slice A0 l0.length c0, .slice A1 l1.length c1] w fun e w'=>e= .returned (.bool r)∧Below w.heap.size w w':=by
 induction k using Nat.strongRecOn with
 | _ k ih=>
 intro A0 c0 l0 A1 c1 l1 r w hr0 hc0 hr1 hc1 h
 cases k with
 |zero=>exact absurd h (by simp [bE.f])
 |succ k=>
 simp only [bE.f] at h
 have hu35:=Try.underlying35
 have hu32:=Try.underlying32
 have YT:=am hr0
 have U2:=am hc0
 clear hr0 hc0
 have YU:=am hr1
 have U3:=am hc1
 clear hr1 hc1
 have HB:=am (Below.refl w.heap.size w)
 have H:(if (l0.length:Int)=(l1.length:Int) then (bE.l0 k l0 l1 0) else (some false))=some r:=h
 clear h
 by_cases c3:(l0.length:Int)=(l1.length:Int)
 ·rw [if_pos c3] at H
  have q6:((l0.length:Int) == (l1.length:Int))=true:=beq_iff_eq.mpr c3
  have q7:((l0.length:Int) != (l1.length:Int))=false:=bne_eq_false_iff_eq.mpr c3
  have q8:(l0.length == l1.length)=true:=by first|simpa using c3|(simp at c3 ⊢;omega)
  clear c3
  have H':=am H
  clear H
  go_enter Try.func15,Try.ntmps15
  go_wp2
  go_loopg [5] k (fun kq v5 w'=>∃ (j3:Int),v5= .int .i64 j3∧Aside0 (bE.l0 kq l0 l1 j3=some r)∧Aside0 (kq≤k)∧Aside0 (Below w.heap.size w w'))
  case atStart=>exact ⟨(0),sd_,H',⟨Nat.le_refl _⟩,⟨gK⟩⟩
  case round=>
   clear H'
   try clear c1
   try clear c3
   try clear q6
   try clear q7
   try clear q8
   obtain ⟨j3,rfl,HA,jH,HB⟩:=hrel
   cases gk with
   |zero=>exact absurd HA.out (by simp [bE.l0])
   |succ k1=>
    have H:=HA.out
    clear HA
    simp only [bE.l0] at H
    by_cases c4:j3 < (l0.length:Int)
    ·rw [if_pos c4] at H
     have qE:decide (j3 < (l0.length:Int))=true:=decide_eq_true c4
     clear c4
     by_cases c5:0≤j3
     ·rw [if_pos c5] at H
      have Yv:decide (0≤j3)=true:=decide_eq_true c5
      clear c5
      by_cases c6:j3 < (l1.length:Int)
      ·rw [if_pos c6] at H
       have Yw:decide (j3 < (l1.length:Int))=true:=decide_eq_true c6
       clear c6
       have Yx:=am H
       clear H
       have qK:0≤(j3:Int):=of_decide_eq_true gL
       have qL:j3 < (l0.length:Int):=of_decide_eq_true gL
       obtain ⟨YV,jk,jl,jb,jc,jm,jn,YW,jo,jp,jq,jr,js,jt,ju,jv,hl54_5,hi54_5,hl54_6,hi54_6,hl54_7,hi54_7⟩:=uS YT.out j3 qK qL
       cases YW
       replace jo:=(HB.out.cell (World.block_lt_of_cell? w _ jo)).trans jo
       replace jp:=(HB.out.cell (World.block_lt_of_cell? w _ jp)).trans jp
       replace jq:=(HB.out.cell (World.block_lt_of_cell? w _ jq)).trans jq
       replace jr:=(HB.out.cell (World.block_lt_of_cell? w _ jr)).trans jr
       replace js:=(HB.out.cell (World.block_lt_of_cell? w _ js)).trans js
       replace jt:=(HB.out.cell (World.block_lt_of_cell? w _ jt)).trans jt
       replace ju:=(HB.out.cell (World.block_lt_of_cell? w _ ju)).trans ju
       replace jv:=(HB.out.cell (World.block_lt_of_cell? w _ jv)).trans jv
       have q9:=am hi54_5
       have qa:=am hl54_5
       clear hi54_5 hl54_5
       have jB:=am hi54_6
       have jC:=am hl54_6
       clear hi54_6 hl54_6
       have jI:=am hi54_7
       have jJ:=am hl54_7
       clear hi54_7 hl54_7
       replace qK:=eq_true qK
       replace qL:=eq_true qL
       go_upto_region 8 with (first|((with_reducible refine bQ (N:=6) rfl ?_);refine dJ rfl (N:=6) rfl (cs:=#[.int .i64 0, .int .i64 0, .int .i64 0, .int .i64 0, .int .i64 0, .slice none 0 0, .slice none 0 0, .slice none 0 0]) (t:=35) rn_ ?_;intro j8 hg w8 hbox hb;have j5:=am (hbox);have jw:=am ((by rw [hg];exact (aJ gK):w.heap.size≤j8));have GE55:=am ((by rw [hg];exact (aJ gK):w.heap.size≤j8));replace HB:=am (aG gK hb);clear hb hbox hg;obtain ⟨qb,qc,qd,qe,qf,qg,qh,qi,qj,qk,ql,qm,qn,qo,qp,qq⟩:=eX j5.out;have qM:0≤(j3:Int):=of_decide_eq_true gL;have qN:j3 < (l1.length:Int):=of_decide_eq_true gL;obtain ⟨jx,q2,q3,jy,jz,q4,q5,YX,j6,jd,je,jf,jg,jh,ji,jj,hl56_5,hi56_5,hl56_6,hi56_6,hl56_7,hi56_7⟩:=uS YU.out j3 qM qN;cases YX;have ja:jx.block≠j8:=Nat.ne_of_lt (Nat.lt_of_lt_of_le (by have:=World.block_lt_of_cell? _ _ j6;first|rwa [add_block] at this|exact this) jw.out);have qr:jx.block≠j8:=Nat.ne_of_lt (Nat.lt_of_lt_of_le (by have:=World.block_lt_of_cell? _ _ j6;first|rwa [add_block] at this|exact this) jw.out);have qs:jx.block≠j8:=Nat.ne_of_lt (Nat.lt_of_lt_of_le (by have:=World.block_lt_of_cell? _ _ j6;first|rwa [add_block] at this|exact this) jw.out);have qt:jx.block≠j8:=Nat.ne_of_lt (Nat.lt_of_lt_of_le (by have:=World.block_lt_of_cell? _ _ j6;first|rwa [add_block] at this|exact this) jw.out);have qu:jx.block≠j8:=Nat.ne_of_lt (Nat.lt_of_lt_of_le (by have:=World.block_lt_of_cell? _ _ j6;first|rwa [add_block] at this|exact this) jw.out);have qv:jx.block≠j8:=Nat.ne_of_lt (Nat.lt_of_lt_of_le (by have:=World.block_lt_of_cell? _ _ j6;first|rwa [add_block] at this|exact this) jw.out);have qw:jx.block≠j8:=Nat.ne_of_lt (Nat.lt_of_lt_of_le (by have:=World.block_lt_of_cell? _ _ j6;first|rwa [add_block] at this|exact this) jw.out);have qx:jx.block≠j8:=Nat.ne_of_lt (Nat.lt_of_lt_of_le (by have:=World.block_lt_of_cell? _ _ j6;first|rwa [add_block] at this|exact this) jw.out);replace j6:=(HB.out.cell (World.block_lt_of_cell? w _ j6)).trans j6;replace jd:=(HB.out.cell (World.block_lt_of_cell? w _ jd)).trans jd;replace je:=(HB.out.cell (World.block_lt_of_cell? w _ je)).trans je;replace jf:=(HB.out.cell (World.block_lt_of_cell? w _ jf)).trans jf;replace jg:=(HB.out.cell (World.block_lt_of_cell? w _ jg)).trans jg;replace jh:=(HB.out.cell (World.block_lt_of_cell? w _ jh)).trans jh;replace ji:=(HB.out.cell (World.block_lt_of_cell? w _ ji)).trans ji;replace jj:=(HB.out.cell (World.block_lt_of_cell? w _ jj)).trans jj;have qy:=am hi56_5;have qz:=am hl56_5;clear hi56_5 hl56_5;have jD:=am hi56_6;have jE:=am hl56_6;clear hi56_6 hl56_6;have jK:=am hi56_7;have jL:=am hl56_7;clear hi56_7 hl56_7;have FR_:=fun {W_:World} {a_:Addr} {x_:Value} (b_:a_.block≠j8) (h_:W_.cell? a_=some x_)=>((cell_far (p:=⟨j8,7,none⟩) b_ (.slice jm ((aC l0 j3).f5).length jn)).trans ((cell_far (p:=⟨j8,6,none⟩) b_ (.slice jb ((aC l0 j3).f4).length jc)).trans ((cell_far (p:=⟨j8,5,none⟩) b_ (.slice jk ((aC l0 j3).f3.f2).length jl)).trans ((cell_far (p:=⟨j8,4,none⟩) b_ (.int .i64 ((aC l0 j3).f3.f1))).trans ((cell_far (p:=⟨j8,3,none⟩) b_ (.int .i64 ((aC l0 j3).f3.f0))).trans ((cell_far (p:=⟨j8,2,none⟩) b_ (.int .i64 ((aC l0 j3).f2))).trans ((cell_far (p:=⟨j8,1,none⟩) b_ (.int .i64 ((aC l0 j3).f1))).trans ((cell_far (p:=⟨j8,0,none⟩) b_ (.int .i64 ((aC l0 j3).f0))).trans h_))))))));replace j6:=FR_ (nb_ ja) j6;replace jd:=FR_ (nb_ ja) jd;replace je:=FR_ (nb_ ja) je;replace jf:=FR_ (nb_ ja) jf;replace jg:=FR_ (nb_ ja) jg;replace jh:=FR_ (nb_ ja) jh;replace ji:=FR_ (nb_ ja) ji;replace jj:=FR_ (nb_ ja) jj;clear FR_;clear ja qr qs qt qu qv qw qx;replace qM:=eq_true qM;replace qN:=eq_true qN)|((with_reducible refine bQ (N:=7) rfl ?_);refine dJ rfl (N:=7) rfl (cs:=#[.int .i64 0, .int .i64 0, .int .i64 0, .int .i64 0, .int .i64 0, .slice none 0 0, .slice none 0 0, .slice none 0 0]) (t:=35) rn_ ?_;intro jG hg U4 hbox hb;have j7:=am (hbox);have GW57:=am ((by rw [hg];exact (aJ NK):w.heap.size≤jG));have GE57:=am ((by rw [hg];exact (aJ NK):w.heap.size≤jG));replace HB:=am (aG NK hb);have j4:=am ((by rw [hg];exact Nat.ne_of_lt (gQ (g:=j8) (o:= .cells #[.int .i64 ((aC l0 j3).f0), .int .i64 ((aC l0 j3).f1), .int .i64 ((aC l0 j3).f2), .int .i64 ((aC l0 j3).f3.f0), .int .i64 ((aC l0 j3).f3.f1), .slice jk ((aC l0 j3).f3.f2).length jl, .slice jb ((aC l0 j3).f4).length jc, .slice jm ((aC l0 j3).f5).length jn] 35 (0,0)) (aM (aM (aM (aM (aM (aM (aM (aM j5.out 0 _ rfl) 1 _ rfl) 2 _ rfl) 3 _ rfl) 4 _ rfl) 5 _ rfl) 6 _ rfl) 7 _ rfl)):j8≠jG));have j9:=am ((by rw [hg];exact Nat.ne_of_gt (gQ (g:=j8) (o:= .cells #[.int .i64 ((aC l0 j3).f0), .int .i64 ((aC l0 j3).f1), .int .i64 ((aC l0 j3).f2), .int .i64 ((aC l0 j3).f3.f0), .int .i64 ((aC l0 j3).f3.f1), .slice jk ((aC l0 j3).f3.f2).length jl, .slice jb ((aC l0 j3).f4).length jc, .slice jm ((aC l0 j3).f5).length jn] 35 (0,0)) (aM (aM (aM (aM (aM (aM (aM (aM j5.out 0 _ rfl) 1 _ rfl) 2 _ rfl) 3 _ rfl) 4 _ rfl) 5 _ rfl) 6 _ rfl) 7 _ rfl)):jG≠j8));replace j5:=am (bY (g:=j8) (o:= .cells #[.int .i64 ((aC l0 j3).f0), .int .i64 ((aC l0 j3).f1), .int .i64 ((aC l0 j3).f2), .int .i64 ((aC l0 j3).f3.f0), .int .i64 ((aC l0 j3).f3.f1), .slice jk ((aC l0 j3).f3.f2).length jl, .slice jb ((aC l0 j3).f4).length jc, .slice jm ((aC l0 j3).f5).length jn] 35 (0,0)) (aM (aM (aM (aM (aM (aM (aM (aM j5.out 0 _ rfl) 1 _ rfl) 2 _ rfl) 3 _ rfl) 4 _ rfl) 5 _ rfl) 6 _ rfl) 7 _ rfl) hb);clear hb hbox hg;have Yz:=j9.out;have YA:=j4.out;obtain ⟨jM,jN,jO,jP,jQ,jR,jS,jT,jU,jV,jW,jX,jY,jZ,q0,q1⟩:=eX j7.out))
       (try simp only [Act.put,List.setIfInBounds_toArray,List.set_cons_zero,List.set_cons_succ])
       go_cut [53] (fun YY wc=>∃ (kq:Nat) (jF:Bool),YY= .bool jF∧Aside0 (bE.j1 kq l0 l1 j3 jF ((aC l0 j3).f0) ((aC l0 j3).f1) ((aC l0 j3).f2) ((aC l0 j3).f3.f0) ((aC l0 j3).f3.f1) ((aC l0 j3).f3.f2) ((aC l0 j3).f4) ((aC l0 j3).f5) ((aC l1 j3).f0) ((aC l1 j3).f1) ((aC l1 j3).f2) ((aC l1 j3).f3.f0) ((aC l1 j3).f3.f1) ((aC l1 j3).f3.f2) ((aC l1 j3).f4) ((aC l1 j3).f5)=some r)∧Aside0 (kq≤k1)∧Aside0 (wc.heap[j8]?=some (.cells #[.int .i64 ((aC l0 j3).f0), .int .i64 ((aC l0 j3).f1), .int .i64 ((aC l0 j3).f2), .int .i64 ((aC l0 j3).f3.f0), .int .i64 ((aC l0 j3).f3.f1),(.slice jk ((aC l0 j3).f3.f2).length jl),(.slice jb ((aC l0 j3).f4).length jc),(.slice jm ((aC l0 j3).f5).length jn)] 35 (0,0)))∧Aside0 (wc.heap[jG]?=some (.cells #[.int .i64 ((aC l1 j3).f0), .int .i64 ((aC l1 j3).f1), .int .i64 ((aC l1 j3).f2), .int .i64 ((aC l1 j3).f3.f0), .int .i64 ((aC l1 j3).f3.f1),(.slice q2 ((aC l1 j3).f3.f2).length q3),(.slice jy ((aC l1 j3).f4).length jz),(.slice q4 ((aC l1 j3).f5).length q5)] 35 (0,0)))∧Aside0 (Below w.heap.size w wc))
       case first=>
        have H:=Yx.out
        clear Yx
        by_cases qA:((aC l0 j3).f0)=((aC l1 j3).f0)
        ·rw [if_pos qA] at H
         have jA:(((aC l0 j3).f0) == ((aC l1 j3).f0))=true:=beq_iff_eq.mpr qA
         have qF:(((aC l0 j3).f0) != ((aC l1 j3).f0))=false:=bne_eq_false_iff_eq.mpr qA
         clear qA
         (first|rw [jA]|(simp only [dS,dV];rw [jA])|skip)
         by_cases qB:((aC l0 j3).f1)=((aC l1 j3).f1)
         ·rw [if_pos qB] at H
          have qG:(((aC l0 j3).f1) == ((aC l1 j3).f1))=true:=beq_iff_eq.mpr qB
          have qH:(((aC l0 j3).f1) != ((aC l1 j3).f1))=false:=bne_eq_false_iff_eq.mpr qB
          clear qB
          by_cases qC:((aC l0 j3).f2)=((aC l1 j3).f2)
          ·rw [if_pos qC] at H
           have qI:(((aC l0 j3).f2) == ((aC l1 j3).f2))=true:=beq_iff_eq.mpr qC
           have qJ:(((aC l0 j3).f2) != ((aC l1 j3).f2))=false:=bne_eq_false_iff_eq.mpr qC
           clear qC
           obtain ⟨YB,YZ,H⟩:=bsa H
           (try dsimp only at H)
           have H':=am H
           clear H
           have YC:=j4.out
           have YD:=j9.out
           obtain ⟨qO,qP,qQ,qR,qS,qT,qU,qV,qW,qX,qY,qZ,z0,z1,z2,z3⟩:=eX j5.out
           obtain ⟨z4,z5,z6,z7,z8,z9,za,zb,zc,zd,ze,zf,zg,zh,zi,zj⟩:=eX j7.out
           go_wp2_with (first|(go_at_call 49;(with_reducible refine (bH.calls k1 ((aC l0 j3).f3.f0) ((aC l0 j3).f3.f1) _ _ ((aC l0 j3).f3.f2) ((aC l1 j3).f3.f0) ((aC l1 j3).f3.f1) _ _ ((aC l1 j3).f3.f2) YB _ ?side1 qa.out ?side3 qz.out YZ.out).mono ?_);(case side1=>exact Kd.aV q9.out sV);(case side3=>exact Kd.aV qy.out sV);rintro e U5 ⟨rfl,hb⟩;replace j5:=am (bY (g:=j8) (o:= .cells #[.int .i64 ((aC l0 j3).f0), .int .i64 ((aC l0 j3).f1), .int .i64 ((aC l0 j3).f2), .int .i64 ((aC l0 j3).f3.f0), .int .i64 ((aC l0 j3).f3.f1), .slice jk ((aC l0 j3).f3.f2).length jl, .slice jb ((aC l0 j3).f4).length jc, .slice jm ((aC l0 j3).f5).length jn] 35 (0,0)) (aZ (aZ (aZ (aZ (aZ (aZ (aZ (aZ j5.out j4.out _) j4.out _) j4.out _) j4.out _) j4.out _) j4.out _) j4.out _) j4.out _) hb);replace j7:=am (bY (g:=jG) (o:= .cells #[.int .i64 ((aC l1 j3).f0), .int .i64 ((aC l1 j3).f1), .int .i64 ((aC l1 j3).f2), .int .i64 ((aC l1 j3).f3.f0), .int .i64 ((aC l1 j3).f3.f1), .slice q2 ((aC l1 j3).f3.f2).length q3, .slice jy ((aC l1 j3).f4).length jz, .slice q4 ((aC l1 j3).f5).length q5] 35 (0,0)) (aM (aM (aM (aM (aM (aM (aM (aM j7.out 0 _ rfl) 1 _ rfl) 2 _ rfl) 3 _ rfl) 4 _ rfl) 5 _ rfl) 6 _ rfl) 7 _ rfl) hb);replace HB:=am (aG sV hb);(try clear hb)))
           go_meet
           case rel=>exact ⟨_,(!YB),sd_,H',⟨by have:=jH.out;first|omega|exact Nat.le_refl _⟩,⟨by (with_reducible repeat (first|refine dQ ?_ _|refine bT ?_|refine dF ?_ _));exact j5.out⟩,⟨by (with_reducible repeat (first|refine dQ ?_ _|refine bT ?_|refine dF ?_ _));exact j7.out⟩,⟨sV⟩⟩
          rw [if_neg qC] at H
          have qI:(((aC l0 j3).f2) == ((aC l1 j3).f2))=false:=beq_eq_false_iff_ne.mpr qC
          have qJ:(((aC l0 j3).f2) != ((aC l1 j3).f2))=true:=bne_iff_ne.mpr qC
          have H':=am H
          clear H
          have YE:=j4.out
          have YF:=j9.out
          obtain ⟨zk,zl,zm,zn,zo,zp,zq,zr,zs,zt,zu,zv,zw,zx,zy,zz⟩:=eX j5.out
          obtain ⟨zA,zB,zC,zD,zE,zF,zG,zH,zI,zJ,zK,zL,zM,zN,zO,zP⟩:=eX j7.out
          go_wp2
          go_meet
          case rel=>exact ⟨_,(true),sd_,H',⟨by have:=jH.out;first|omega|exact Nat.le_refl _⟩,⟨(aZ (aZ (aZ (aZ (aZ (aZ (aZ (aZ j5.out j4.out _) j4.out _) j4.out _) j4.out _) j4.out _) j4.out _) j4.out _) j4.out _)⟩,⟨(aM (aM (aM (aM (aM (aM (aM (aM j7.out 0 _ rfl) 1 _ rfl) 2 _ rfl) 3 _ rfl) 4 _ rfl) 5 _ rfl) 6 _ rfl) 7 _ rfl)⟩,⟨sV⟩⟩
         rw [if_neg qB] at H
         have qG:(((aC l0 j3).f1) == ((aC l1 j3).f1))=false:=beq_eq_false_iff_ne.mpr qB
         have qH:(((aC l0 j3).f1) != ((aC l1 j3).f1))=true:=bne_iff_ne.mpr qB
         have H':=am H
         clear H
         have YG:=j4.out
         have YH:=j9.out
         obtain ⟨zQ,zR,zS,zT,zU,zV,zW,zX,zY,zZ,J0,J1,J2,J3,J4,J5⟩:=eX j5.out
         obtain ⟨J6,J7,J8,J9,Ja,Jb,Jc,Jd,Je,Jf,Jg,Jh,Ji,Jj,Jk,Jl⟩:=eX j7.out
         go_wp2
         go_meet
         case rel=>exact ⟨_,(true),sd_,H',⟨by have:=jH.out;first|omega|exact Nat.le_refl _⟩,⟨(aZ (aZ (aZ (aZ (aZ (aZ (aZ (aZ j5.out j4.out _) j4.out _) j4.out _) j4.out _) j4.out _) j4.out _) j4.out _) j4.out _)⟩,⟨(aM (aM (aM (aM (aM (aM (aM (aM j7.out 0 _ rfl) 1 _ rfl) 2 _ rfl) 3 _ rfl) 4 _ rfl) 5 _ rfl) 6 _ rfl) 7 _ rfl)⟩,⟨sV⟩⟩
        rw [if_neg qA] at H
        have jA:(((aC l0 j3).f0) == ((aC l1 j3).f0))=false:=beq_eq_false_iff_ne.mpr qA
        have qF:(((aC l0 j3).f0) != ((aC l1 j3).f0))=true:=bne_iff_ne.mpr qA
        (first|rw [jA]|(simp only [dS,dV];rw [jA])|skip)
        have H':=am H
        clear H
        have YI:=j4.out
        have YJ:=j9.out
        obtain ⟨Jm,Jn,Jo,Jp,Jq,Jr,Js,Jt,Ju,Jv,Jw,Jx,Jy,Jz,JA,JB⟩:=eX j5.out
        obtain ⟨JC,JD,JE,JF,JG,JH,JI,JJ,JK,JL,JM,JN,JO,JP,JQ,JR⟩:=eX j7.out
        go_wp2
        go_meet
        case rel=>exact ⟨_,(true),sd_,H',⟨by have:=jH.out;first|omega|exact Nat.le_refl _⟩,⟨(aZ (aZ (aZ (aZ (aZ (aZ (aZ (aZ j5.out j4.out _) j4.out _) j4.out _) j4.out _) j4.out _) j4.out _) j4.out _) j4.out _)⟩,⟨(aM (aM (aM (aM (aM (aM (aM (aM j7.out 0 _ rfl) 1 _ rfl) 2 _ rfl) 3 _ rfl) 4 _ rfl) 5 _ rfl) 6 _ rfl) 7 _ rfl)⟩,⟨sV⟩⟩
       case rest=>
        clear Yx
        try clear c1
        try clear c3
        try clear q6
        try clear q7
        try clear q8
        try clear c4
        try clear qE
        try clear c5
        try clear Yv
        try clear c6
        try clear Yw
        try clear jM
        try clear jN
        try clear jO
        try clear jP
        try clear jQ
        try clear jR
        try clear jS
        try clear jT
        try clear qb
        try clear qc
        try clear qd
        try clear qe
        try clear qf
        try clear qg
        try clear qh
        try clear qi
        try clear jU
        try clear jV
        try clear jW
        try clear jX
        try clear jY
        try clear jZ
        try clear q0
        try clear q1
        try clear qj
        try clear qk
        try clear ql
        try clear qm
        try clear qn
        try clear qo
        try clear qp
        try clear qq
        try clear jo
        try clear jp
        try clear jq
        try clear jr
        try clear js
        try clear jt
        try clear ju
        try clear jv
        try clear j6
        try clear jd
        try clear je
        try clear jf
        try clear jg
        try clear jh
        try clear ji
        try clear jj
        try clear qK
        try clear qM
        try clear qL
        try clear qN
        obtain ⟨kq,jF,rfl,HA,HJ6,j5,j7,HB⟩:=hcut
        cases kq with
        |zero=>exact absurd HA.out (by simp [bE.j1])
        |succ qD=>
         have H:=HA.out
         clear HA
         simp only [bE.j1] at H
         by_cases JS:jF=true
         ·subst JS
          rw [if_pos rfl] at H
          obtain rfl:=Option.some.inj H
          go_wp2
          go_ret
          exact ⟨rr_,sV⟩
         replace JS:=Bool.eq_false_iff.mpr JS
         subst JS
         rw [if_neg (show ¬ (false=true) by decide)] at H
         obtain ⟨U0,YK,H⟩:=bsm H
         (try dsimp only at H)
         have Yy:=am YK
         clear YK
         by_cases JT:U0=true
         ·subst JT
          rw [if_pos rfl] at H
          obtain ⟨U1,YL,H⟩:=bsm H
          (try dsimp only at H)
          have YM:=am YL
          clear YL
          by_cases JU:U1=true
          ·subst JU
           rw [if_pos rfl] at H
           have H':=am H
           clear H
           have YN:=j4.out
           have YO:=j9.out
           obtain ⟨JV,JW,JX,JY,JZ,Q0,Q1,Q2,Q3,Q4,Q5,Q6,Q7,Q8,Q9,Qa⟩:=eX j5.out
           obtain ⟨Qb,Qc,Qd,Qe,Qf,Qg,Qh,Qi,Qj,Qk,Ql,Qm,Qn,Qo,Qp,Qq⟩:=eX j7.out
           go_wp2_with (first|((with_reducible refine aN (f:=15) rfl ?_);refine gl_ 58 Try.func15 #[.slice jb ((aC l0 j3).f4).length jc, .slice jy ((aC l1 j3).f4).length jz] ?_;(with_reducible refine (ih qD (by have:=jH.out;have:=HJ6.out;omega) _ _ ((aC l0 j3).f4) _ _ ((aC l1 j3).f4) true _ (aC_ (Kd.aV jB.out HB.out)) jC.out (aC_ (Kd.aV jD.out HB.out)) jE.out Yy.out).mono ?_);rintro e U6 ⟨rfl,hb⟩;refine ⟨_,rfl,?_⟩;replace j5:=bbP j5 hb;replace j7:=bbP j7 hb;replace HB:=am (aG sV hb);(try clear hb);obtain ⟨Qr,Qs,Qt,Qu,Qv,Qw,Qx,Qy,Qz,QA,QB,QC,QD,QE,QF,QG⟩:=eX j5.out;obtain ⟨QH,QI,QJ,QK,QL,QM,QN,QO,QP,QQ,QR,QS,QT,QU,QV,QW⟩:=eX j7.out)|(go_at_call 15;(with_reducible refine (ih qD (by have:=jH.out;have:=HJ6.out;omega) _ _ ((aC l0 j3).f5) _ _ ((aC l1 j3).f5) true _ (aC_ (Kd.aV jI.out HB.out)) jJ.out (aC_ (Kd.aV jK.out HB.out)) jL.out YM.out).mono ?_);rintro e U7 ⟨rfl,hb⟩;replace j5:=bbP j5 hb;replace j7:=bbP j7 hb;replace HB:=am (aG sV hb);(try clear hb)))
           go_roundg qD
           case measure=>have:=jH.out;have:=HJ6.out;omega
           case rel=>exact ⟨(wrap64 (j3 + 1)),sd_,H',⟨by have:=jH.out;have:=HJ6.out;omega⟩,⟨sV⟩⟩
          replace JU:=Bool.eq_false_iff.mpr JU
          subst JU
          rw [if_neg (show ¬ (false=true) by decide)] at H
          obtain rfl:=Option.some.inj H
          have YP:=j4.out
          have YQ:=j9.out
          obtain ⟨QX,QY,QZ,Z0,Z1,Z2,Z3,Z4,Z5,Z6,Z7,Z8,Z9,Za,Zb,Zc⟩:=eX j5.out
          obtain ⟨Zd,Ze,Zf,Zg,Zh,Zi,Zj,Zk,Zl,Zm,Zn,Zo,Zp,Zq,Zr,Zs⟩:=eX j7.out
          go_wp2_with (first|((with_reducible refine aN (f:=15) rfl ?_);refine gl_ 58 Try.func15 #[.slice jb ((aC l0 j3).f4).length jc, .slice jy ((aC l1 j3).f4).length jz] ?_;(with_reducible refine (ih qD (by have:=jH.out;have:=HJ6.out;omega) _ _ ((aC l0 j3).f4) _ _ ((aC l1 j3).f4) true _ (aC_ (Kd.aV jB.out HB.out)) jC.out (aC_ (Kd.aV jD.out HB.out)) jE.out Yy.out).mono ?_);rintro e U8 ⟨rfl,hb⟩;refine ⟨_,rfl,?_⟩;replace j5:=bbP j5 hb;replace j7:=bbP j7 hb;replace HB:=am (aG sV hb);(try clear hb);obtain ⟨Zt,Zu,Zv,Zw,Zx,Zy,Zz,ZA,ZB,ZC,ZD,ZE,ZF,ZG,ZH,ZI⟩:=eX j5.out;obtain ⟨ZJ,ZK,ZL,ZM,ZN,ZO,ZP,ZQ,ZR,ZS,ZT,ZU,ZV,ZW,ZX,ZY⟩:=eX j7.out)|(go_at_call 15;(with_reducible refine (ih qD (by have:=jH.out;have:=HJ6.out;omega) _ _ ((aC l0 j3).f5) _ _ ((aC l1 j3).f5) false _ (aC_ (Kd.aV jI.out HB.out)) jJ.out (aC_ (Kd.aV jK.out HB.out)) jL.out YM.out).mono ?_);rintro e U9 ⟨rfl,hb⟩;replace j5:=bbP j5 hb;replace j7:=bbP j7 hb;replace HB:=am (aG sV hb);(try clear hb)))
          go_ret
          exact ⟨rr_,sV⟩
         replace JT:=Bool.eq_false_iff.mpr JT
         subst JT
         rw [if_neg (show ¬ (false=true) by decide)] at H
         obtain rfl:=Option.some.inj H
         have YR:=j4.out
         have YS:=j9.out
         obtain ⟨ZZ,Y0,Y1,Y2,Y3,Y4,Y5,Y6,Y7,Y8,Y9,Ya,Yb,Yc,Yd,Ye⟩:=eX j5.out
         obtain ⟨Yf,Yg,Yh,Yi,Yj,Yk,Yl,Ym,Yn,Yo,Yp,Yq,Yr,Ys,Yt,Yu⟩:=eX j7.out
         go_wp2_with (first|((with_reducible refine aN (f:=15) rfl ?_);refine gl_ 58 Try.func15 #[.slice jb ((aC l0 j3).f4).length jc, .slice jy ((aC l1 j3).f4).length jz] ?_;(with_reducible refine (ih qD (by have:=jH.out;have:=HJ6.out;omega) _ _ ((aC l0 j3).f4) _ _ ((aC l1 j3).f4) false _ (aC_ (Kd.aV jB.out HB.out)) jC.out (aC_ (Kd.aV jD.out HB.out)) jE.out Yy.out).mono ?_);rintro e Ua ⟨rfl,hb⟩;refine ⟨_,rfl,?_⟩;replace j5:=bbP j5 hb;replace j7:=bbP j7 hb;replace HB:=am (aG sV hb);(try clear hb)))
         go_ret
         exact ⟨rr_,sV⟩
      rw [if_neg c6] at H
      exact absurd H (by simp)
     rw [if_neg c5] at H
     exact absurd H (by simp)
    rw [if_neg c4] at H
    have qE:decide (j3 < (l0.length:Int))=false:=decide_eq_false c4
    clear c4
    obtain rfl:=Option.some.inj H
    go_wp2
    go_ret
    exact ⟨rr_,gK⟩
 rw [if_neg c3] at H
 have q6:((l0.length:Int) == (l1.length:Int))=false:=beq_eq_false_iff_ne.mpr c3
 have q7:((l0.length:Int) != (l1.length:Int))=true:=bne_iff_ne.mpr c3
 have q8:(l0.length == l1.length)=false:=by first|simpa using c3|(simp at c3 ⊢;omega)
 obtain rfl:=Option.some.inj H
 go_enter Try.func15,Try.ntmps15
 go_wp2
 go_ret
 exact ⟨rr_,gK⟩
theorem eD.mono_l:∀ k,(∀ y0 y1 y2,LeO (eD.l0 k y0 y1 y2) (eD.l0 (k + 1) y0 y1 y2))
 |0=>fun _ _ _ r h=>by simp [eD.l0] at h
 |k + 1=>by
  have ih0:=eD.mono_l k
  ·intro y0 y1 y2
   unfold eD.l0
   exact mo_
theorem eD.mono:∀ a0 a1 k,LeO (eD.f k a0 a1) (eD.f (k + 1) a0 a1):=by
 intro a0 a1 k
 have ih0:=eD.mono_l k
 unfold eD.f
 exact mo_
theorem eD.calls (k:Nat) (A0:Option Addr) (c0:Nat) (l0:List Int) (A1:Option Addr) (c1:Nat) (l1:List Int) (r:Bool) (w:World) (hr0:Kd.C (Kd.int .i64) w A0 l0.length l0) (hc0:l0.length≤c0) (hr1:Kd.C (Kd.int .i64) w A1 l1.length l1) (hc1:l1.length≤c1) (h:eD.f k l0 l1=some r):
  Calls Try.prog 32 #[.slice A0 l0.length c0, .slice A1 l1.length c1] w fun e w'=>e= .returned (.bool r)∧iX w w':=by
 have jk:=am hr0
 have jp:=am hc0
 clear hr0 hc0
 have jl:=am hr1
 have jq:=am hc1
 clear hr1 hc1
 have H:(if (l0.length:Int)=(l1.length:Int) then (eD.l0 k l0 l1 0) else (some false))=some r:=h
 clear h
 by_cases c3:(l0.length:Int)=(l1.length:Int)
 ·rw [if_pos c3] at H
  have ja:((l0.length:Int) == (l1.length:Int))=true:=beq_iff_eq.mpr c3
  have jb:((l0.length:Int) != (l1.length:Int))=false:=bne_eq_false_iff_eq.mpr c3
  have jc:(l0.length == l1.length)=true:=by first|simpa using c3|(simp at c3 ⊢;omega)
  clear c3
  have H':=am H
  clear H
  go_enter Try.func32,Try.ntmps32
  go_wp2
  repeat (go_quiet (fail);try go_wp2)
  go_loopg [5] k (fun kq v5 w'=>∃ (j3:Int),v5= .int .i64 j3∧Aside0 (eD.l0 kq l0 l1 j3=some r)∧Aside0 (kq≤k)∧iX w w')
  case atStart=>exact ⟨(0),sd_,H',⟨Nat.le_refl _⟩,gM⟩
  case round=>
   clear H'
   try clear c1
   try clear c3
   try clear ja
   try clear jb
   try clear jc
   obtain ⟨j3,rfl,HA,jm,⟨m1,rfl⟩⟩:=hrel
   cases gk with
   |zero=>exact absurd HA.out (by simp [eD.l0])
   |succ k1=>
    have H:=HA.out
    clear HA
    simp only [eD.l0] at H
    by_cases c4:j3 < (l0.length:Int)
    ·rw [if_pos c4] at H
     have jd:decide (j3 < (l0.length:Int))=true:=decide_eq_true c4
     clear c4
     by_cases c5:0≤j3
     ·rw [if_pos c5] at H
      have jn:decide (0≤j3)=true:=decide_eq_true c5
      clear c5
      by_cases c6:j3 < (l1.length:Int)
      ·rw [if_pos c6] at H
       have jo:decide (j3 < (l1.length:Int))=true:=decide_eq_true c6
       clear c6
       by_cases c7:(rd l0 j3)=(rd l1 j3)
       ·rw [if_pos c7] at H
        have je:((rd l0 j3) == (rd l1 j3))=true:=beq_iff_eq.mpr c7
        have jf:((rd l0 j3) != (rd l1 j3))=false:=bne_eq_false_iff_eq.mpr c7
        clear c7
        have H':=am H
        clear H
        have j4:0≤(j3:Int):=of_decide_eq_true gL
        have j5:j3 < (l0.length:Int):=of_decide_eq_true gL
        obtain ⟨jg,jh,j6⟩:=Kd.nJ jk.out j3 j4 j5
        cases jh
        replace j4:=eq_true j4
        replace j5:=eq_true j5
        have j7:0≤(j3:Int):=of_decide_eq_true gL
        have j8:j3 < (l1.length:Int):=of_decide_eq_true gL
        obtain ⟨ji,jj,j9⟩:=Kd.nJ jl.out j3 j7 j8
        cases jj
        replace j7:=eq_true j7
        replace j8:=eq_true j8
        go_wp2
        repeat (go_quiet (fail);try go_wp2)
        go_roundg k1
        case measure=>have:=jm.out;omega
        case rel=>exact ⟨(wrap64 (j3 + 1)),sd_,H',⟨by have:=jm.out;omega⟩,gM⟩
       rw [if_neg c7] at H
       have je:((rd l0 j3) == (rd l1 j3))=false:=beq_eq_false_iff_ne.mpr c7
       have jf:((rd l0 j3) != (rd l1 j3))=true:=bne_iff_ne.mpr c7
       obtain rfl:=Option.some.inj H
       have j4:0≤(j3:Int):=of_decide_eq_true gL
       have j5:j3 < (l0.length:Int):=of_decide_eq_true gL
       obtain ⟨jg,jh,j6⟩:=Kd.nJ jk.out j3 j4 j5
       cases jh
       replace j4:=eq_true j4
       replace j5:=eq_true j5
       have j7:0≤(j3:Int):=of_decide_eq_true gL
       have j8:j3 < (l1.length:Int):=of_decide_eq_true gL
       obtain ⟨ji,jj,j9⟩:=Kd.nJ jl.out j3 j7 j8
       cases jj
       replace j7:=eq_true j7
       replace j8:=eq_true j8
       go_wp2
       repeat (go_quiet (fail);try go_wp2)
       go_ret
       exact ⟨sd_,gM⟩
      rw [if_neg c6] at H
      exact absurd H (by simp)
     rw [if_neg c5] at H
     exact absurd H (by simp)
    rw [if_neg c4] at H
    have jd:decide (j3 < (l0.length:Int))=false:=decide_eq_false c4
    clear c4
    obtain rfl:=Option.some.inj H
    go_wp2
    repeat (go_quiet (fail);try go_wp2)
    go_ret
    exact ⟨sd_,gM⟩
 rw [if_neg c3] at H
 have ja:((l0.length:Int) == (l1.length:Int))=false:=beq_eq_false_iff_ne.mpr c3
 have jb:((l0.length:Int) != (l1.length:Int))=true:=bne_iff_ne.mpr c3
 have jc:(l0.length == l1.length)=false:=by first|simpa using c3|(simp at c3 ⊢;omega)
 obtain rfl:=Option.some.inj H
 go_enter Try.func32,Try.ntmps32
 go_wp2
 repeat (go_quiet (fail);try go_wp2)
 go_ret
 exact ⟨sd_,gM⟩
theorem bB.mono_l:∀ k,(∀ y0 y1 y2 y3 y4,LeO (bB.j0 k y0 y1 y2 y3 y4) (bB.j0 (k + 1) y0 y1 y2 y3 y4))∧(∀ y0 y1 y2 y3 y4,LeO (bB.l0 k y0 y1 y2 y3 y4) (bB.l0 (k + 1) y0 y1 y2 y3 y4))
 |0=>⟨fun _ _ _ _ _ r h=>by simp [bB.j0] at h,fun _ _ _ _ _ r h=>by simp [bB.l0] at h⟩
 |k + 1=>by
  obtain ⟨ih0,ih1⟩:=bB.mono_l k
  refine ⟨?_,?_⟩
  ·intro y0 y1 y2 y3 y4
   unfold bB.j0
   have m0:=@eD.mono
   have m1:=@bE.mono
   exact mo_
  ·intro y0 y1 y2 y3 y4
   unfold bB.l0
   have m0:=@eD.mono
   have m1:=@bE.mono
   exact mo_
theorem bB.mono:∀ a0 a1 a2 a3 k,LeO (bB.f k a0 a1 a2 a3) (bB.f (k + 1) a0 a1 a2 a3):=by
 intro a0 a1 a2 a3 k
 obtain ⟨ih0,ih1⟩:=bB.mono_l k
 unfold bB.f
 have m0:=@eD.mono
 have m1:=@bE.mono
 exact mo_
def bB.T6:Bool × List (List Nat × List Nat):=(true,[([],[]),([0],[0]),([],[]),([1,2],[1,2]),([3],[3]),([],[]),([5],[5]),([],[]),([6,7],[6,7]),([8],[8]),([4,9],[4,9]),([10],[10])])
def bB.B6:List Nat:=[0,1,0,7,15,0,32,0,224,480,1023,2047]
theorem bB.CJ:lJ .any (opsOf Try.f29 6)=bB.T6:=by kernel_rfl
theorem bB.uW:iW bB.T6.2 bB.B6=true:=by kernel_rfl
theorem bB.calls (k:Nat) (ji:Option Addr) (jj:Nat) (ja:List Int) (jv:Option Addr) (jq:Nat) (j5:List (List (S35))) (jk:Option Addr) (jl:Nat) (jb:List Int) (jw:Option Addr) (jr:Nat) (j6:List (List (S35))) (r:Bool) (w:World) (hr0_0:Kd.C (Kd.int .i64) w ji ja.length ja) (hc0_0:ja.length≤jj) (hr0_1:Kd.C (Kd.slice 35 k35) w jv j5.length j5) (hc0_1:j5.length≤jq) (hr1_0:Kd.C (Kd.int .i64) w jk jb.length jb) (hc1_0:jb.length≤jl) (hr1_1:Kd.C (Kd.slice 35 k35) w jw j6.length j6) (hc1_1:j6.length≤jr) (h:bB.f k ja j5 jb j6=some r):
  Calls Try.prog 29 #[.agg #[.slice ji ja.length jj, .slice jv j5.length jq], .agg #[.slice jk jb.length jl, .slice jw j6.length jr]] w fun e w'=>e= .returned (.bool r)∧Below w.heap.size w w':=by
 have hu46:=Try.underlying46
 have jz:=am hr0_0
 have jA:=am hc0_0
 clear hr0_0 hc0_0
 have jB:=am hr0_1
 have ql:=am hc0_1
 clear hr0_1 hc0_1
 have jC:=am hr1_0
 have jD:=am hc1_0
 clear hr1_0 hc1_0
 have jE:=am hr1_1
 have qm:=am hc1_1
 clear hr1_1 hc1_1
 have HB:=am (Below.refl w.heap.size w)
 have H:((eD.f k ja jb).bind fun qd=>(if qd=true then (bB.j0 k ((j5.length:Int) != (j6.length:Int)) ja j5 jb j6) else (bB.j0 k true ja j5 jb j6)))=some r:=h
 clear h
 have qe:=am H
 clear H
 go_enter Try.func29,Try.ntmps29
 go_upto_region 1 with (first|((with_reducible refine bQ (N:=2) rfl ?_);(try (refine kQ (by rfl) ?_;dsimp only));refine dJ rfl (N:=2) rfl (cs:=#[.slice ji ja.length jj, .slice jv j5.length jq]) (t:=46) rn_ ?_;intro jg hg w4 hbox hb;have j4:=am (hbox);have qB:=am ((by rw [hg];exact (aJ gK):w.heap.size≤jg));have GE41:=am ((by rw [hg];exact (aJ gK):w.heap.size≤jg));replace HB:=am (aG gK hb);clear hb hbox hg)|((with_reducible refine bQ (N:=3) rfl ?_);(try (refine kQ (by rfl) ?_;dsimp only));refine dJ rfl (N:=3) rfl (cs:=#[.slice jk jb.length jl, .slice jw j6.length jr]) (t:=46) rn_ ?_;intro jh hg w5 hbox hb;have j7:=am (hbox);have qC:=am ((by rw [hg];exact (aJ NQ):w.heap.size≤jh));have GE42:=am ((by rw [hg];exact (aJ NQ):w.heap.size≤jh));replace HB:=am (aG NQ hb);have jc:=am ((by rw [hg];exact Nat.ne_of_lt (fO j4.out):jg≠jh));have jd:=am ((by rw [hg];exact Nat.ne_of_gt (fO j4.out):jh≠jg));replace j4:=bbP j4 hb;clear hb hbox hg))
 (try simp only [Act.put,List.setIfInBounds_toArray,List.set_cons_zero,List.set_cons_succ])
 go_cut [20] (fun qD wc=>∃ (kq:Nat) (ju:Bool),qD= .bool ju∧Aside0 (bB.j0 kq ju ja j5 jb j6=some r)∧Aside0 (kq≤k)∧Aside0 (wc.heap[jg]?=some (.cells #[(.slice ji ja.length jj),(.slice jv j5.length jq)] 46 (0,0)))∧Aside0 (wc.heap[jh]?=some (.cells #[(.slice jk jb.length jl),(.slice jw j6.length jr)] 46 (0,0)))∧Aside0 (Below w.heap.size w wc))
 case first=>
  have H:=qe.out
  clear qe
  obtain ⟨qd,A6,H⟩:=bsa H
  (try dsimp only at H)
  by_cases c7:qd=true
  ·subst c7
   rw [if_pos rfl] at H
   have H':=am H
   clear H
   have qE:=jc.out
   have qF:=jd.out
   obtain ⟨qf,qg,qh,qi⟩:=fT j4.out
   obtain ⟨jM,jN,jO,jP⟩:=fT j7.out
   go_wp2_with (first|((with_reducible refine aN (f:=32) rfl ?_);refine gl_ 10 Try.func32 #[.slice ji ja.length jj, .slice jk jb.length jl] ?_;(with_reducible refine (eD.calls k _ _ ja _ _ jb true _ (aC_ (Kd.aV jz.out HB.out)) jA.out (aC_ (Kd.aV jC.out HB.out)) jD.out A6.out).mono ?_);rintro e w' ⟨rfl,⟨nd,rfl⟩⟩;refine ⟨_,rfl,?_⟩))
   go_meet
   case rel=>exact ⟨_,(((j5.length:Int) != (j6.length:Int))),sd_,H',⟨by first|omega|exact Nat.le_refl _⟩,⟨by (with_reducible repeat (first|refine dQ ?_ _|refine bT ?_|refine dF ?_ _));exact j4.out⟩,⟨by (with_reducible repeat (first|refine dQ ?_ _|refine bT ?_|refine dF ?_ _));exact j7.out⟩,⟨AP⟩⟩
  replace c7:=Bool.eq_false_iff.mpr c7
  subst c7
  rw [if_neg (show ¬ (false=true) by decide)] at H
  have H':=am H
  clear H
  have qn:=jc.out
  have qo:=jd.out
  obtain ⟨jQ,jR,jS,jT⟩:=fT j4.out
  obtain ⟨jU,jV,jW,jX⟩:=fT j7.out
  go_wp2_with (first|((with_reducible refine aN (f:=32) rfl ?_);refine gl_ 10 Try.func32 #[.slice ji ja.length jj, .slice jk jb.length jl] ?_;(with_reducible refine (eD.calls k _ _ ja _ _ jb false _ (aC_ (Kd.aV jz.out HB.out)) jA.out (aC_ (Kd.aV jC.out HB.out)) jD.out A6.out).mono ?_);rintro e w' ⟨rfl,⟨nd,rfl⟩⟩;refine ⟨_,rfl,?_⟩))
  go_meet
  case rel=>exact ⟨_,(true),sd_,H',⟨by first|omega|exact Nat.le_refl _⟩,⟨by (with_reducible repeat (first|refine dQ ?_ _|refine bT ?_|refine dF ?_ _));exact j4.out⟩,⟨by (with_reducible repeat (first|refine dQ ?_ _|refine bT ?_|refine dF ?_ _));exact j7.out⟩,⟨AP⟩⟩
 case rest=>
  clear qe
  obtain ⟨kq,ju,rfl,HA,HJ2,j4,j7,HB⟩:=hcut
  cases kq with
  |zero=>exact absurd HA.out (by simp [bB.j0])
  |succ qp=>
   have H:=HA.out
   clear HA
   simp only [bB.j0] at H
   by_cases jK:ju=true
   ·subst jK
    rw [if_pos rfl] at H
    obtain rfl:=Option.some.inj H
    go_wp2
    go_ret
    exact ⟨rr_,AP⟩
   replace jK:=Bool.eq_false_iff.mpr jK
   subst jK
   rw [if_neg (show ¬ (false=true) by decide)] at H
   have H':=am H
   clear H
   go_wp2
   go_loopg [5] qp (fun kq v5 w'=>∃ (j3:Int),v5= .int .i64 j3∧Aside0 (bB.l0 kq j3 ja j5 jb j6=some r)∧Aside0 (kq≤qp)∧Aside0 (w'.heap[jg]?=some (.cells #[(.slice ji ja.length jj),(.slice jv j5.length jq)] 46 (0,0)))∧Aside0 (w'.heap[jh]?=some (.cells #[(.slice jk jb.length jl),(.slice jw j6.length jr)] 46 (0,0)))∧Aside0 (Below w.heap.size w w'))
   case atStart=>exact ⟨(0),sd_,H',⟨Nat.le_refl _⟩,⟨by (with_reducible repeat (first|refine dQ ?_ _|refine bT ?_|refine dF ?_ _));exact j4.out⟩,⟨by (with_reducible repeat (first|refine dQ ?_ _|refine bT ?_|refine dF ?_ _));exact j7.out⟩,⟨AP⟩⟩
   case round=>
    clear H'
    try clear jK
    obtain ⟨j3,rfl,HA,qq,j4,j7,HB⟩:=hrel
    cases gk with
    |zero=>exact absurd HA.out (by simp [bB.l0])
    |succ k2=>
     have H:=HA.out
     clear HA
     simp only [bB.l0] at H
     by_cases jJ:j3 < (j5.length:Int)
     ·rw [if_pos jJ] at H
      have jL:decide (j3 < (j5.length:Int))=true:=decide_eq_true jJ
      clear jJ
      by_cases jY:0≤j3
      ·rw [if_pos jY] at H
       have qr:decide (0≤j3)=true:=decide_eq_true jY
       clear jY
       by_cases jZ:j3 < (j6.length:Int)
       ·rw [if_pos jZ] at H
        have qs:decide (j3 < (j6.length:Int))=true:=decide_eq_true jZ
        clear jZ
        obtain ⟨qG,qt,H⟩:=bsm H
        (try dsimp only at H)
        have qu:=am qt
        clear qt
        by_cases q0:qG=true
        ·subst q0
         rw [if_pos rfl] at H
         have H':=am H
         clear H
         have qv:=jc.out
         have qw:=jd.out
         obtain ⟨q1,q2,q3,q4⟩:=fT j4.out
         try go_wp2
         replace j4:=am (bT j4.out)
         replace j7:=am (bT j7.out)
         replace HB:=am (bG HB.out)
         have jF:0≤(j3:Int):=of_decide_eq_true gL
         have jG:j3 < (j5.length:Int):=of_decide_eq_true gL
         obtain ⟨jx,jm,jn,qj,j8,hl45_0,hi45_0⟩:=sF jB.out j3 jF jG
         have hw45_0:=j8
         cases qj
         replace j8:=(HB.out.cell (World.block_lt_of_cell? w _ j8)).trans j8
         have je:=am hi45_0
         have js:=am hl45_0
         clear hi45_0 hl45_0
         replace jF:=eq_true jF
         replace jG:=eq_true jG
         have jH:0≤(j3:Int):=of_decide_eq_true gL
         have jI:j3 < (j6.length:Int):=of_decide_eq_true gL
         obtain ⟨jy,jo,jp,qk,j9,hl47_0,hi47_0⟩:=sF jE.out j3 jH jI
         have hw47_0:=j9
         cases qk
         replace j9:=(HB.out.cell (World.block_lt_of_cell? w _ j9)).trans j9
         have jf:=am hi47_0
         have jt:=am hl47_0
         clear hi47_0 hl47_0
         replace jH:=eq_true jH
         replace jI:=eq_true jI
         refine mR (n:=12) (S:=fun w'=>w'.cell? ⟨jg,0,none⟩=some (.slice ji ja.length jj)∧w'.cell? ⟨jg,1,none⟩=some (.slice (some jx) j5.length jq)∧w'.cell? ⟨jh,0,none⟩=some (.slice jk jb.length jl)∧w'.cell? ⟨jh,1,none⟩=some (.slice (some jy) j6.length jr)∧w'.cell? (jx.add (j3).toNat)=some (.slice jm (fJ j5 j3).length jn)∧w'.cell? (jy.add (j3).toNat)=some (.slice jo (fJ j6 j3).length jp)) (ds:=[]) (bz 12 0) (by kernel_rfl) rfl rfl ⟨(aA j4.out 0).trans rfl,(aA j4.out 1).trans rfl,(aA j7.out 0).trans rfl,(aA j7.out 1).trans rfl,((HB.out.cell (World.block_lt_of_cell? w _ hw45_0)).trans hw45_0),((HB.out.cell (World.block_lt_of_cell? w _ hw47_0)).trans hw47_0)⟩ (fun hHeld=>?_);refine kE bB.CJ bB.uW (fun HT_ HW_=>?_)
         generalize wr.drew=qH at j4 j7 HB je jf j8 j9 hHeld ⊢
         refine pr_ 0 28 (bz 12 1) HT_ ?_
         refine pr_ 2 30 (bz 12 5) HT_ ?_
         refine pr_ 5 33 (bz 12 37) HT_ ?_
         refine pr_ 7 35 (bz 12 165) HT_ ?_
         refine MX 1 29 (bz 12 167) HT_ HW_ hHeld ?_
         refine pr_ 3 31 (bz 12 175) HT_ ?_
         refine MX 4 32 (bz 12 191) HT_ HW_ hHeld ?_
         refine MX 6 34 (bz 12 255) HT_ HW_ hHeld ?_
         refine pr_ 8 36 (bz 12 511) HT_ ?_
         refine MX 9 37 (bz 12 1023) HT_ HW_ hHeld ?_
         refine lH (i:=10) (N:=some 38) (bz 12 2047) rfl rfl (gG HT_.out (by kernel_rfl)) (by decide) (fun K hK=>?_)
         refine kU Try.func15 (by kernel_rfl) rfl #[.slice jm (fJ j5 j3).length jn, .slice jo (fJ j6 j3).length jp] (by rfl) rfl rfl nX ?_
         with_reducible refine (bE.calls k2 _ _ (fJ j5 j3) _ _ (fJ j6 j3) true _ (aC_ (Kd.aV je.out HB.out)) js.out (aC_ (Kd.aV jf.out HB.out)) jt.out qu.out).mono ?_
         rintro e qI ⟨rfl,hb⟩
         refine ⟨_,rfl,?_⟩
         replace j4:=bbP j4 hb
         replace j7:=bbP j7 hb
         replace HB:=am (aG AP hb)
         (try clear hb)
         (try clear hb2)
         (try clear hk)
         (try clear hi)
         refine hK.out _ _ ⟨(aA j4.out 0).trans rfl,(aA j4.out 1).trans rfl,(aA j7.out 0).trans rfl,(aA j7.out 1).trans rfl,((HB.out.cell (World.block_lt_of_cell? w _ hw45_0)).trans hw45_0),((HB.out.cell (World.block_lt_of_cell? w _ hw47_0)).trans hw47_0)⟩ (fun hHeld=>?_)
         clear hK K
         refine fB (a':=?_) ?_ ?_
         rotate_left
         ·show Act.put _ (some 38) _=_
          simp only [Act.put,List.setIfInBounds_toArray,List.set_cons_zero,List.set_cons_succ,dS,dV]
          rfl
         refine pr_ 11 39 (bz 12 4095) HT_ ?_
         refine pE (lV HT_.out (by kernel_rfl)) ?_
         try go_wp2
         go_roundg k2
         case measure=>have:=HJ2.out;have:=qq.out;omega
         case rel=>exact ⟨(wrap64 (j3 + 1)),sd_,H',⟨by have:=HJ2.out;have:=qq.out;omega⟩,⟨by (with_reducible repeat (first|refine dQ ?_ _|refine bT ?_|refine dF ?_ _));exact j4.out⟩,⟨by (with_reducible repeat (first|refine dQ ?_ _|refine bT ?_|refine dF ?_ _));exact j7.out⟩,⟨AP⟩⟩
        replace q0:=Bool.eq_false_iff.mpr q0
        subst q0
        rw [if_neg (show ¬ (false=true) by decide)] at H
        obtain rfl:=Option.some.inj H
        have qx:=jc.out
        have qy:=jd.out
        obtain ⟨q5,q6,q7,q8⟩:=fT j4.out
        try go_wp2
        replace j4:=am (bT j4.out)
        replace j7:=am (bT j7.out)
        replace HB:=am (bG HB.out)
        have jF:0≤(j3:Int):=of_decide_eq_true gL
        have jG:j3 < (j5.length:Int):=of_decide_eq_true gL
        obtain ⟨jx,jm,jn,qj,j8,hl45_0,hi45_0⟩:=sF jB.out j3 jF jG
        have hw45_0:=j8
        cases qj
        replace j8:=(HB.out.cell (World.block_lt_of_cell? w _ j8)).trans j8
        have je:=am hi45_0
        have js:=am hl45_0
        clear hi45_0 hl45_0
        replace jF:=eq_true jF
        replace jG:=eq_true jG
        have jH:0≤(j3:Int):=of_decide_eq_true gL
        have jI:j3 < (j6.length:Int):=of_decide_eq_true gL
        obtain ⟨jy,jo,jp,qk,j9,hl47_0,hi47_0⟩:=sF jE.out j3 jH jI
        have hw47_0:=j9
        cases qk
        replace j9:=(HB.out.cell (World.block_lt_of_cell? w _ j9)).trans j9
        have jf:=am hi47_0
        have jt:=am hl47_0
        clear hi47_0 hl47_0
        replace jH:=eq_true jH
        replace jI:=eq_true jI
        refine mR (n:=12) (S:=fun w'=>w'.cell? ⟨jg,0,none⟩=some (.slice ji ja.length jj)∧w'.cell? ⟨jg,1,none⟩=some (.slice (some jx) j5.length jq)∧w'.cell? ⟨jh,0,none⟩=some (.slice jk jb.length jl)∧w'.cell? ⟨jh,1,none⟩=some (.slice (some jy) j6.length jr)∧w'.cell? (jx.add (j3).toNat)=some (.slice jm (fJ j5 j3).length jn)∧w'.cell? (jy.add (j3).toNat)=some (.slice jo (fJ j6 j3).length jp)) (ds:=[]) (bz 12 0) (by kernel_rfl) rfl rfl ⟨(aA j4.out 0).trans rfl,(aA j4.out 1).trans rfl,(aA j7.out 0).trans rfl,(aA j7.out 1).trans rfl,((HB.out.cell (World.block_lt_of_cell? w _ hw45_0)).trans hw45_0),((HB.out.cell (World.block_lt_of_cell? w _ hw47_0)).trans hw47_0)⟩ (fun hHeld=>?_);refine kE bB.CJ bB.uW (fun HT_ HW_=>?_)
        generalize wr.drew=qJ at j4 j7 HB je jf j8 j9 hHeld ⊢
        refine pr_ 0 28 (bz 12 1) HT_ ?_
        refine pr_ 2 30 (bz 12 5) HT_ ?_
        refine pr_ 5 33 (bz 12 37) HT_ ?_
        refine pr_ 7 35 (bz 12 165) HT_ ?_
        refine MX 1 29 (bz 12 167) HT_ HW_ hHeld ?_
        refine pr_ 3 31 (bz 12 175) HT_ ?_
        refine MX 4 32 (bz 12 191) HT_ HW_ hHeld ?_
        refine MX 6 34 (bz 12 255) HT_ HW_ hHeld ?_
        refine pr_ 8 36 (bz 12 511) HT_ ?_
        refine MX 9 37 (bz 12 1023) HT_ HW_ hHeld ?_
        refine lH (i:=10) (N:=some 38) (bz 12 2047) rfl rfl (gG HT_.out (by kernel_rfl)) (by decide) (fun K hK=>?_)
        refine kU Try.func15 (by kernel_rfl) rfl #[.slice jm (fJ j5 j3).length jn, .slice jo (fJ j6 j3).length jp] (by rfl) rfl rfl nX ?_
        with_reducible refine (bE.calls k2 _ _ (fJ j5 j3) _ _ (fJ j6 j3) false _ (aC_ (Kd.aV je.out HB.out)) js.out (aC_ (Kd.aV jf.out HB.out)) jt.out qu.out).mono ?_
        rintro e qK ⟨rfl,hb⟩
        refine ⟨_,rfl,?_⟩
        replace j4:=bbP j4 hb
        replace j7:=bbP j7 hb
        replace HB:=am (aG AP hb)
        (try clear hb)
        (try clear hb2)
        (try clear hk)
        (try clear hi)
        refine hK.out _ _ ⟨(aA j4.out 0).trans rfl,(aA j4.out 1).trans rfl,(aA j7.out 0).trans rfl,(aA j7.out 1).trans rfl,((HB.out.cell (World.block_lt_of_cell? w _ hw45_0)).trans hw45_0),((HB.out.cell (World.block_lt_of_cell? w _ hw47_0)).trans hw47_0)⟩ (fun hHeld=>?_)
        clear hK K
        refine fB (a':=?_) ?_ ?_
        rotate_left
        ·show Act.put _ (some 38) _=_
         simp only [Act.put,List.setIfInBounds_toArray,List.set_cons_zero,List.set_cons_succ,dS,dV]
         rfl
        refine pr_ 11 39 (bz 12 4095) HT_ ?_
        refine pE (lV HT_.out (by kernel_rfl)) ?_
        try go_wp2
        go_ret
        exact ⟨rr_,AP⟩
       rw [if_neg jZ] at H
       exact absurd H (by simp)
      rw [if_neg jY] at H
      exact absurd H (by simp)
     rw [if_neg jJ] at H
     have jL:decide (j3 < (j5.length:Int))=false:=decide_eq_false jJ
     clear jJ
     obtain rfl:=Option.some.inj H
     have qz:=jc.out
     have qA:=jd.out
     obtain ⟨q9,qa,qb,qc⟩:=fT j4.out
     go_wp2
     go_ret
     exact ⟨rr_,AP⟩
theorem dR.mono_all:∀ k,(∀ a b,LeO (dR.l0 k a b) (dR.l0 (k + 1) a b))∧(∀ s,LeO (dR.one k s) (dR.one (k + 1) s))∧(∀ a,LeO (dR.f k a) (dR.f (k + 1) a))
 |0=>⟨fun _ _ r h=>by simp [dR.l0] at h,fun _ r h=>by simp [dR.one] at h,fun _ r h=>by simp [dR.f] at h⟩
 |k + 1=>by
  obtain ⟨i0,i1,i2⟩:=dR.mono_all k
  refine ⟨fun a b=>?_,fun s=>?_,fun a=>?_⟩
  ·unfold dR.l0
   exact LeO.ite (LeO.ite (LeO.bind (i1 _) (fun _=>LeO.ite (LeO.refl _) (i0 _ _))) (LeO.none _)) (LeO.refl _)
  ·unfold dR.one
   exact LeO.ite (LeO.refl _) (LeO.bind (i2 _) (fun _=>LeO.ite (LeO.refl _) (i2 _)))
  ·unfold dR.f
   exact i0 _ _
theorem iA.mono:∀ k a b,LeO (iA.l0 k a b) (iA.l0 (k + 1) a b)
 |0,_,_=>fun r h=>by simp [iA.l0] at h
 |k + 1,a,b=>by
  unfold iA.l0
  exact LeO.ite (LeO.ite (LeO.bind ((dR.mono_all k).2.2 _) (fun _=>LeO.ite (LeO.refl _) (iA.mono k _ _))) (LeO.none _)) (LeO.refl _)
abbrev ER (k:Nat):Prop:=∀ (s:S35) (A5:Option Addr) (c5:Nat) (A6:Option Addr) (c6:Nat) (A7:Option Addr) (c7:Nat) (r:Bool) (w:World) (h6:Kd.C k35 w A6 s.f4.length s.f4) (l6:s.f4.length≤c6) (h7:Kd.C k35 w A7 s.f5.length s.f5) (l7:s.f5.length≤c7) (h:dR.one k s=some r),
  Calls Try.prog 92 #[.agg #[(.int .i64 s.f0),(.int .i64 s.f1),(.int .i64 s.f2),(.int .i64 s.f3.f0),(.int .i64 s.f3.f1),(.slice A5 s.f3.f2.length c5),(.slice A6 s.f4.length c6),(.slice A7 s.f5.length c7)]] w fun e w'=>e= .returned (.bool r)∧Below w.heap.size w w'
abbrev TQ (k:Nat):Prop:=∀ (A:Option Addr) (c:Nat) (l:List S35) (r:Bool) (w:World) (hr:Kd.C k35 w A l.length l) (hc:l.length≤c) (h:dR.f k l=some r),
  Calls Try.prog 61 #[.slice A l.length c] w fun e w'=>e= .returned (.bool r)∧Below w.heap.size w w'
abbrev LZ (k:Nat):Prop:=∀ (A:Option Addr) (c:Nat) (l:List S35) (r:Bool) (w:World) (hr:Kd.C k35 w A l.length l) (hc:l.length≤c) (h:dR.l0 k l 0=some r),
  Calls Try.prog 102 #[.slice A l.length c,(.func (.func 92) #[] #[])] w fun e w'=>∃ n:Int,e= .returned (.int .i64 n)∧decide (0≤n)=r∧Below w.heap.size w w'
theorem ER.step (k:Nat) (ih:∀ m,m < k→TQ m):ER k:=by
 intro s A5 c5 A6 c6 A7 c7 r w h6 l6 h7 l7 h
 cases k with
 |zero=>exact absurd h (by simp [dR.one])
 |succ k=>
 simp only [dR.one] at h
 have H6:=am h6
 have L6:=am l6
 have H7:=am h7
 have L7:=am l7
 clear h6 l6 h7 l7
 by_cases c3:s.f0=3
 ·rw [if_pos c3] at h
  obtain rfl:=Option.some.inj h
  have j4:(s.f0 == 3)=true:=beq_iff_eq.mpr c3
  clear c3
  go_enter Try.func92,Try.ntmps92
  go_wp2_with (first|((with_reducible refine bQ (N:=1) rfl ?_);refine dJ (N:=1) rfl rfl (cs:=#[(.int .i64 s.f0),(.int .i64 s.f1),(.int .i64 s.f2),(.int .i64 s.f3.f0),(.int .i64 s.f3.f1),(.slice A5 s.f3.f2.length c5),(.slice A6 s.f4.length c6),(.slice A7 s.f5.length c7)]) (t:=35) rn_ ?_;intro g1 hg w1 hbox hb;have B:=am hb;have X1:=am hbox;have yp0:w1.cell? ⟨g1,0,none⟩=some (.int .i64 s.f0):=aA hbox 0;have yp1:w1.cell? ⟨g1,1,none⟩=some (.int .i64 s.f1):=aA hbox 1;have yp2:w1.cell? ⟨g1,2,none⟩=some (.int .i64 s.f2):=aA hbox 2;have yp3:w1.cell? ⟨g1,3,none⟩=some (.int .i64 s.f3.f0):=aA hbox 3;have yp4:w1.cell? ⟨g1,4,none⟩=some (.int .i64 s.f3.f1):=aA hbox 4;have yp5:w1.cell? ⟨g1,5,none⟩=some (.slice A5 s.f3.f2.length c5):=aA hbox 5;have yp6:w1.cell? ⟨g1,6,none⟩=some (.slice A6 s.f4.length c6):=aA hbox 6;have yp7:w1.cell? ⟨g1,7,none⟩=some (.slice A7 s.f5.length c7):=aA hbox 7;clear hb hbox hg)|fail)
  go_ret
  exact ⟨rfl,B.out⟩
 rw [if_neg c3] at h
 have j4:(s.f0 == 3)=false:=beq_eq_false_iff_ne.mpr c3
 clear c3
 replace h:=Option.bind_eq_some_iff.mp h
 obtain ⟨b,hb,h⟩:=h
 have j3:=am hb
 clear hb
 cases b with
 |true=>
  rw [if_pos rfl] at h
  obtain rfl:=Option.some.inj h
  go_enter Try.func92,Try.ntmps92
  go_wp2_with (first|((with_reducible refine bQ (N:=1) rfl ?_);refine dJ (N:=1) rfl rfl (cs:=#[(.int .i64 s.f0),(.int .i64 s.f1),(.int .i64 s.f2),(.int .i64 s.f3.f0),(.int .i64 s.f3.f1),(.slice A5 s.f3.f2.length c5),(.slice A6 s.f4.length c6),(.slice A7 s.f5.length c7)]) (t:=35) rn_ ?_;intro g1 hg w1 hbox hb;have B:=am hb;have X1:=am hbox;have yp0:w1.cell? ⟨g1,0,none⟩=some (.int .i64 s.f0):=aA hbox 0;have yp1:w1.cell? ⟨g1,1,none⟩=some (.int .i64 s.f1):=aA hbox 1;have yp2:w1.cell? ⟨g1,2,none⟩=some (.int .i64 s.f2):=aA hbox 2;have yp3:w1.cell? ⟨g1,3,none⟩=some (.int .i64 s.f3.f0):=aA hbox 3;have yp4:w1.cell? ⟨g1,4,none⟩=some (.int .i64 s.f3.f1):=aA hbox 4;have yp5:w1.cell? ⟨g1,5,none⟩=some (.slice A5 s.f3.f2.length c5):=aA hbox 5;have yp6:w1.cell? ⟨g1,6,none⟩=some (.slice A6 s.f4.length c6):=aA hbox 6;have yp7:w1.cell? ⟨g1,7,none⟩=some (.slice A7 s.f5.length c7):=aA hbox 7;clear hb hbox hg)|((with_reducible refine (ih k (by omega) A6 c6 s.f4 true _ (Kd.aV H6.out B.out) L6.out j3.out).mono ?_);rintro e w2 ⟨rfl,hb⟩;have b_:=am (aG B.out hb);have x_:=am (bY X1.out hb);clear B X1 yp0 yp1 yp2 yp3 yp4 yp5 yp6 yp7;have B:=b_;have X1:=x_;have yp0:w2.cell? ⟨g1,0,none⟩=some (.int .i64 s.f0):=aA X1.out 0;have yp1:w2.cell? ⟨g1,1,none⟩=some (.int .i64 s.f1):=aA X1.out 1;have yp2:w2.cell? ⟨g1,2,none⟩=some (.int .i64 s.f2):=aA X1.out 2;have yp3:w2.cell? ⟨g1,3,none⟩=some (.int .i64 s.f3.f0):=aA X1.out 3;have yp4:w2.cell? ⟨g1,4,none⟩=some (.int .i64 s.f3.f1):=aA X1.out 4;have yp5:w2.cell? ⟨g1,5,none⟩=some (.slice A5 s.f3.f2.length c5):=aA X1.out 5;have yp6:w2.cell? ⟨g1,6,none⟩=some (.slice A6 s.f4.length c6):=aA X1.out 6;have yp7:w2.cell? ⟨g1,7,none⟩=some (.slice A7 s.f5.length c7):=aA X1.out 7;clear b_ x_ hb;(try dsimp only))|fail)
  go_ret
  exact ⟨rfl,B.out⟩
 |false=>
  rw [if_neg Bool.false_ne_true] at h
  have j5:=am h
  clear h
  go_enter Try.func92,Try.ntmps92
  go_wp2_with (first|((with_reducible refine bQ (N:=1) rfl ?_);refine dJ (N:=1) rfl rfl (cs:=#[(.int .i64 s.f0),(.int .i64 s.f1),(.int .i64 s.f2),(.int .i64 s.f3.f0),(.int .i64 s.f3.f1),(.slice A5 s.f3.f2.length c5),(.slice A6 s.f4.length c6),(.slice A7 s.f5.length c7)]) (t:=35) rn_ ?_;intro g1 hg w1 hbox hb;have B:=am hb;have X1:=am hbox;have yp0:w1.cell? ⟨g1,0,none⟩=some (.int .i64 s.f0):=aA hbox 0;have yp1:w1.cell? ⟨g1,1,none⟩=some (.int .i64 s.f1):=aA hbox 1;have yp2:w1.cell? ⟨g1,2,none⟩=some (.int .i64 s.f2):=aA hbox 2;have yp3:w1.cell? ⟨g1,3,none⟩=some (.int .i64 s.f3.f0):=aA hbox 3;have yp4:w1.cell? ⟨g1,4,none⟩=some (.int .i64 s.f3.f1):=aA hbox 4;have yp5:w1.cell? ⟨g1,5,none⟩=some (.slice A5 s.f3.f2.length c5):=aA hbox 5;have yp6:w1.cell? ⟨g1,6,none⟩=some (.slice A6 s.f4.length c6):=aA hbox 6;have yp7:w1.cell? ⟨g1,7,none⟩=some (.slice A7 s.f5.length c7):=aA hbox 7;clear hb hbox hg)|((with_reducible refine (ih k (by omega) A6 c6 s.f4 false _ (Kd.aV H6.out B.out) L6.out j3.out).mono ?_);rintro e w2 ⟨rfl,hb⟩;have b_:=am (aG B.out hb);have x_:=am (bY X1.out hb);clear B X1 yp0 yp1 yp2 yp3 yp4 yp5 yp6 yp7;have B:=b_;have X1:=x_;have yp0:w2.cell? ⟨g1,0,none⟩=some (.int .i64 s.f0):=aA X1.out 0;have yp1:w2.cell? ⟨g1,1,none⟩=some (.int .i64 s.f1):=aA X1.out 1;have yp2:w2.cell? ⟨g1,2,none⟩=some (.int .i64 s.f2):=aA X1.out 2;have yp3:w2.cell? ⟨g1,3,none⟩=some (.int .i64 s.f3.f0):=aA X1.out 3;have yp4:w2.cell? ⟨g1,4,none⟩=some (.int .i64 s.f3.f1):=aA X1.out 4;have yp5:w2.cell? ⟨g1,5,none⟩=some (.slice A5 s.f3.f2.length c5):=aA X1.out 5;have yp6:w2.cell? ⟨g1,6,none⟩=some (.slice A6 s.f4.length c6):=aA X1.out 6;have yp7:w2.cell? ⟨g1,7,none⟩=some (.slice A7 s.f5.length c7):=aA X1.out 7;clear b_ x_ hb;(try dsimp only))|((with_reducible refine (ih k (by omega) A7 c7 s.f5 r _ (Kd.aV H7.out B.out) L7.out j5.out).mono ?_);rintro e w3 ⟨rfl,hb⟩;have b_:=am (aG B.out hb);have x_:=am (bY X1.out hb);clear B X1 yp0 yp1 yp2 yp3 yp4 yp5 yp6 yp7;have B:=b_;have X1:=x_;have yp0:w3.cell? ⟨g1,0,none⟩=some (.int .i64 s.f0):=aA X1.out 0;have yp1:w3.cell? ⟨g1,1,none⟩=some (.int .i64 s.f1):=aA X1.out 1;have yp2:w3.cell? ⟨g1,2,none⟩=some (.int .i64 s.f2):=aA X1.out 2;have yp3:w3.cell? ⟨g1,3,none⟩=some (.int .i64 s.f3.f0):=aA X1.out 3;have yp4:w3.cell? ⟨g1,4,none⟩=some (.int .i64 s.f3.f1):=aA X1.out 4;have yp5:w3.cell? ⟨g1,5,none⟩=some (.slice A5 s.f3.f2.length c5):=aA X1.out 5;have yp6:w3.cell? ⟨g1,6,none⟩=some (.slice A6 s.f4.length c6):=aA X1.out 6;have yp7:w3.cell? ⟨g1,7,none⟩=some (.slice A7 s.f5.length c7):=aA X1.out 7;clear b_ x_ hb;(try dsimp only))|fail)
  go_ret
  exact ⟨rfl,B.out⟩
theorem LZ.step (k:Nat) (ih:∀ m,m < k→ER m):LZ k:=by
 intro A c l r w hr hc h
 have HR:=am hr
 have HC:=am hc
 have H':=am h
 clear hr hc h
 go_enter Try.func102,Try.ntmps102
 go_wp2
 go_loopg [8] k (fun kq v8 w'=>∃ (i:Int),v8= .int .i64 i∧Aside0 (dR.l0 kq l i=some r)∧Aside0 (kq≤k)∧Aside0 (Below w.heap.size w w'))
 case atStart=>exact ⟨0,rfl,H',⟨Nat.le_refl _⟩,⟨Below.refl _ _⟩⟩
 case round=>
  clear H'
  obtain ⟨i,rfl,HA,j3,HB⟩:=hrel
  cases gk with
  |zero=>exact absurd HA.out (by simp [dR.l0])
  |succ k1=>
   have H:=HA.out
   clear HA
   simp only [dR.l0] at H
   by_cases c6:i < (l.length:Int)
   ·rw [if_pos c6] at H
    by_cases c7:0≤i
    ·rw [if_pos c7] at H
     obtain ⟨b,hb,H⟩:=bsm H
     have HS:=am hb
     clear hb
     obtain ⟨ad,A5,c5,A6,d6,A7,d7,e0,x0,x1,x2,y3,y4,y5,y6,y7,l5,g5,l6,g6,l7,g7⟩:=uS HR.out i c7 c6
     cases e0
     replace x0:=(HB.out.cell (World.block_lt_of_cell? w _ x0)).trans x0
     replace x1:=(HB.out.cell (World.block_lt_of_cell? w _ x1)).trans x1
     replace x2:=(HB.out.cell (World.block_lt_of_cell? w _ x2)).trans x2
     replace y3:=(HB.out.cell (World.block_lt_of_cell? w _ y3)).trans y3
     replace y4:=(HB.out.cell (World.block_lt_of_cell? w _ y4)).trans y4
     replace y5:=(HB.out.cell (World.block_lt_of_cell? w _ y5)).trans y5
     replace y6:=(HB.out.cell (World.block_lt_of_cell? w _ y6)).trans y6
     replace y7:=(HB.out.cell (World.block_lt_of_cell? w _ y7)).trans y7
     have G6:=am (Kd.aV g6 HB.out)
     have G7:=am (Kd.aV g7 HB.out)
     have L6:=am l6
     have L7:=am l7
     have C7:=am c7
     have j5:decide (i < (l.length:Int))=true:=decide_eq_true c6
     have q0:=eq_true c7
     have q1:=eq_true c6
     clear g5 g6 g7 l5 l6 l7 c6 c7
     cases b with
     |true=>
      rw [if_pos rfl] at H
      obtain rfl:=Option.some.inj H
      go_wp2_with (first|((with_reducible refine (ih k1 (by have:=j3.out;omega) (aC l i) A5 c5 A6 d6 A7 d7 _ _ G6.out L6.out G7.out L7.out HS.out).mono ?_);rintro e w1 ⟨rfl,hb⟩;have j4:=am (aG HB.out hb);clear hb;(try dsimp only))|fail)
      go_ret
      exact ⟨_,rfl,by first|exact C7.out|exact decide_eq_true C7.out,j4.out⟩
     |false=>
      rw [if_neg Bool.false_ne_true] at H
      have H':=am H
      clear H
      go_wp2_with (first|((with_reducible refine (ih k1 (by have:=j3.out;omega) (aC l i) A5 c5 A6 d6 A7 d7 _ _ G6.out L6.out G7.out L7.out HS.out).mono ?_);rintro e w1 ⟨rfl,hb⟩;have j4:=am (aG HB.out hb);clear hb;(try dsimp only))|fail)
      go_roundg k1
      case measure=>have:=j3.out;omega
      case rel=>exact ⟨wrap64 (i + 1),sd_,H',⟨by have:=j3.out;omega⟩,j4⟩
    rw [if_neg c7] at H
    exact absurd H (by simp)
   rw [if_neg c6] at H
   have j5:decide (i < (l.length:Int))=false:=decide_eq_false c6
   clear c6
   obtain rfl:=Option.some.inj H
   go_wp2
   go_ret
   exact ⟨-1,rfl,by first|rfl|omega|decide,HB.out⟩
theorem TQ.step (k:Nat) (ih:∀ m,m < k→LZ m):TQ k:=by
 intro A c l r w hr hc h
 cases k with
 |zero=>exact absurd h (by simp [dR.f])
 |succ k=>
 simp only [dR.f] at h
 have HR:=am hr
 have HC:=am hc
 have H':=am h
 clear hr hc h
 have cont:Calls Try.prog 91 #[.slice A l.length c,(.func (.func 92) #[] #[])] w fun e w'=>e= .returned (.bool r)∧Below w.heap.size w w':=by
  go_enter Try.func91,Try.ntmps91
  go_wp2_with (first|((with_reducible refine (ih k (by omega) A c l r _ HR.out HC.out H'.out).mono ?_);rintro e w1 ⟨n,rfl,hn,hb⟩;have HN:=am hn;have HB:=am hb;clear hn hb;(try dsimp only))|fail)
  go_ret
  exact ⟨by first|(rw [← HN.out];done)|(rw [← HN.out];rfl)|simp [← HN.out],HB.out⟩
 have j3:=am cont
 clear cont
 go_enter Try.func61,Try.ntmps61
 go_wp2_with (first|((with_reducible refine j3.out.mono ?_);rintro e w1 ⟨rfl,hb⟩;have HB:=am hb;clear hb;(try dsimp only))|fail)
 go_ret
 exact ⟨rfl,HB.out⟩
theorem TP (k:Nat):TQ k∧ER k∧LZ k:=by
 induction k using Nat.strongRecOn with
 | _ k ih=>exact ⟨TQ.step k (fun m hm=>(ih m hm).2.2),ER.step k (fun m hm=>(ih m hm).1),LZ.step k (fun m hm=>(ih m hm).2.1)⟩
theorem aBq (k:Nat) (A:Option Addr) (c:Nat) (l:List (List S35)) (r:Bool) (w:World) (hr:Kd.C (Kd.slice 35 k35) w A l.length l) (hc:l.length≤c) (h:iA.l0 k l 0=some r):
  Calls Try.prog 90 #[.slice A l.length c,(.func (.func 61) #[] #[])] w fun e w'=>∃ n:Int,e= .returned (.int .i64 n)∧decide (0≤n)=r∧Below w.heap.size w w':=by
 have HR:=am hr
 have HC:=am hc
 have H':=am h
 clear hr hc h
 go_enter Try.func90,Try.ntmps90
 go_wp2
 go_loopg [8] k (fun kq v8 w'=>∃ (i:Int),v8= .int .i64 i∧Aside0 (iA.l0 kq l i=some r)∧Aside0 (kq≤k)∧Aside0 (Below w.heap.size w w'))
 case atStart=>exact ⟨0,rfl,H',⟨Nat.le_refl _⟩,⟨Below.refl _ _⟩⟩
 case round=>
  clear H'
  obtain ⟨i,rfl,HA,j4,HB⟩:=hrel
  cases gk with
  |zero=>exact absurd HA.out (by simp [iA.l0])
  |succ k1=>
   have H:=HA.out
   clear HA
   simp only [iA.l0] at H
   by_cases c6:i < (l.length:Int)
   ·rw [if_pos c6] at H
    by_cases c7:0≤i
    ·rw [if_pos c7] at H
     obtain ⟨b,hb,H⟩:=bsm H
     have HS:=am hb
     clear hb
     obtain ⟨ad,A6,d6,e0,x0,l6,g6⟩:=sF HR.out i c7 c6
     cases e0
     replace x0:=(HB.out.cell (World.block_lt_of_cell? w _ x0)).trans x0
     have G6:=am (Kd.aV g6 HB.out)
     have L6:=am l6
     have C7:=am c7
     have j5:decide (i < (l.length:Int))=true:=decide_eq_true c6
     have q0:=eq_true c7
     have q1:=eq_true c6
     clear g6 l6 c6 c7
     cases b with
     |true=>
      rw [if_pos rfl] at H
      obtain rfl:=Option.some.inj H
      go_wp2_with (first|((with_reducible refine ((TP k1).1 A6 d6 (fJ l i) _ _ G6.out L6.out HS.out).mono ?_);rintro e w1 ⟨rfl,hb⟩;have j3:=am (aG HB.out hb);clear hb;(try dsimp only))|fail)
      go_ret
      exact ⟨_,rfl,by first|exact C7.out|exact decide_eq_true C7.out,j3.out⟩
     |false=>
      rw [if_neg Bool.false_ne_true] at H
      have H':=am H
      clear H
      go_wp2_with (first|((with_reducible refine ((TP k1).1 A6 d6 (fJ l i) _ _ G6.out L6.out HS.out).mono ?_);rintro e w1 ⟨rfl,hb⟩;have j3:=am (aG HB.out hb);clear hb;(try dsimp only))|fail)
      go_roundg k1
      case measure=>have:=j4.out;omega
      case rel=>exact ⟨wrap64 (i + 1),sd_,H',⟨by have:=j4.out;omega⟩,j3⟩
    rw [if_neg c7] at H
    exact absurd H (by simp)
   rw [if_neg c6] at H
   have j5:decide (i < (l.length:Int))=false:=decide_eq_false c6
   clear c6
   obtain rfl:=Option.some.inj H
   go_wp2
   go_ret
   exact ⟨-1,rfl,by first|rfl|omega|decide,HB.out⟩
theorem LG (k:Nat) (A:Option Addr) (c:Nat) (l:List (List S35)) (r:Bool) (w:World) (hr:Kd.C (Kd.slice 35 k35) w A l.length l) (hc:l.length≤c) (h:iA.l0 k l 0=some r):
  Calls Try.prog 60 #[.slice A l.length c,(.func (.func 61) #[] #[])] w fun e w'=>e= .returned (.bool r)∧Below w.heap.size w w':=by
 have HR:=am hr
 have HC:=am hc
 have H':=am h
 clear hr hc h
 go_enter Try.func60,Try.ntmps60
 go_wp2_with (first|((with_reducible refine (aBq k A c l r _ HR.out HC.out H'.out).mono ?_);rintro e w1 ⟨n,rfl,hn,hb⟩;have HN:=am hn;have HB:=am hb;clear hn hb;(try dsimp only))|fail)
 go_ret
 exact ⟨by first|(rw [← HN.out];done)|(rw [← HN.out];rfl)|simp [← HN.out],HB.out⟩
theorem fQ.mono:∀ a b k,LeO (fQ.f k a b) (fQ.f (k + 1) a b):=by
 intro a b k
 unfold fQ.f
 exact LeO.bind (bD.mono _ _ _) (fun _=>LeO.ite (LeO.bind (iA.mono _ _ _) (fun _=>LeO.refl _)) (LeO.refl _))
theorem fQ.calls (k:Nat) (j7:Option Addr) (j8:Nat) (j4:List Int) (j5:Option Addr) (j6:Nat) (j3:List (List S35)) (r:Bool) (w:World) (hr0_0:Kd.C (Kd.int .i64) w j7 j4.length j4) (hc0_0:j4.length≤j8) (hr0_1:Kd.C (Kd.slice 35 k35) w j5 j3.length j3) (hc0_1:j3.length≤j6) (h:fQ.f k j4 j3=some r):
  Calls Try.prog 30 #[.agg #[.slice j7 j4.length j8, .slice j5 j3.length j6]] w fun e w'=>e= .returned (.bool r)∧Below w.heap.size w w':=by
 unfold fQ.f at h
 replace h:=Option.bind_eq_some_iff.mp h
 obtain ⟨v,hv,h⟩:=h
 have jb:=am hr0_0
 have jc:=am hc0_0
 have j9:=am hr0_1
 have ja:=am hc0_1
 have HV:=am hv
 clear hr0_0 hc0_0 hr0_1 hc0_1 hv
 cases v with
 |false=>
  rw [if_neg Bool.false_ne_true] at h
  obtain rfl:=Option.some.inj h
  go_enter Try.func30,Try.ntmps30
  go_wp2_with (first|((with_reducible refine bQ (N:=1) rfl ?_);refine dJ (N:=1) rfl rfl (cs:=#[(.slice j7 j4.length j8),(.slice j5 j3.length j6)]) (t:=46) rn_ ?_;intro g1 hg w1 hbox hb;have B:=am hb;have X1:=am hbox;have yp0:w1.cell? ⟨g1,0,none⟩=some (.slice j7 j4.length j8):=aA X1.out 0;have yp1:w1.cell? ⟨g1,1,none⟩=some (.slice j5 j3.length j6):=aA X1.out 1;clear hb hbox hg)|((with_reducible refine (bD.calls k j7 j8 j4 j5 j6 j3 _ _ (Kd.aV jb.out B.out) jc.out (Kd.aV j9.out B.out) ja.out HV.out).mono ?_);rintro e w2 ⟨rfl,hb⟩;have b_:=am (aG B.out hb);have x_:=am (bY X1.out hb);clear B X1 yp0 yp1;have B:=b_;have X1:=x_;have yp0:w2.cell? ⟨g1,0,none⟩=some (.slice j7 j4.length j8):=aA X1.out 0;have yp1:w2.cell? ⟨g1,1,none⟩=some (.slice j5 j3.length j6):=aA X1.out 1;clear b_ x_ hb;(try dsimp only))|fail)
  go_ret
  exact ⟨rfl,B.out⟩
 |true=>
  rw [if_pos rfl] at h
  replace h:=Option.bind_eq_some_iff.mp h
  obtain ⟨b,hb,h⟩:=h
  obtain rfl:=Option.some.inj h
  have jd:=am hb
  clear hb h
  cases b with
  |true=>
   go_enter Try.func30,Try.ntmps30
   go_wp2_with (first|((with_reducible refine bQ (N:=1) rfl ?_);refine dJ (N:=1) rfl rfl (cs:=#[(.slice j7 j4.length j8),(.slice j5 j3.length j6)]) (t:=46) rn_ ?_;intro g1 hg w1 hbox hb;have B:=am hb;have X1:=am hbox;have yp0:w1.cell? ⟨g1,0,none⟩=some (.slice j7 j4.length j8):=aA X1.out 0;have yp1:w1.cell? ⟨g1,1,none⟩=some (.slice j5 j3.length j6):=aA X1.out 1;clear hb hbox hg)|((with_reducible refine (bD.calls k j7 j8 j4 j5 j6 j3 _ _ (Kd.aV jb.out B.out) jc.out (Kd.aV j9.out B.out) ja.out HV.out).mono ?_);rintro e w2 ⟨rfl,hb⟩;have b_:=am (aG B.out hb);have x_:=am (bY X1.out hb);clear B X1 yp0 yp1;have B:=b_;have X1:=x_;have yp0:w2.cell? ⟨g1,0,none⟩=some (.slice j7 j4.length j8):=aA X1.out 0;have yp1:w2.cell? ⟨g1,1,none⟩=some (.slice j5 j3.length j6):=aA X1.out 1;clear b_ x_ hb;(try dsimp only))|((with_reducible refine (LG k j5 j6 j3 _ _ (Kd.aV j9.out B.out) ja.out jd.out).mono ?_);rintro e w3 ⟨rfl,hb⟩;have b_:=am (aG B.out hb);have x_:=am (bY X1.out hb);clear B X1 yp0 yp1;have B:=b_;have X1:=x_;have yp0:w3.cell? ⟨g1,0,none⟩=some (.slice j7 j4.length j8):=aA X1.out 0;have yp1:w3.cell? ⟨g1,1,none⟩=some (.slice j5 j3.length j6):=aA X1.out 1;clear b_ x_ hb;(try dsimp only))|fail)
   go_ret
   exact ⟨rfl,B.out⟩
  |false=>
   go_enter Try.func30,Try.ntmps30
   go_wp2_with (first|((with_reducible refine bQ (N:=1) rfl ?_);refine dJ (N:=1) rfl rfl (cs:=#[(.slice j7 j4.length j8),(.slice j5 j3.length j6)]) (t:=46) rn_ ?_;intro g1 hg w1 hbox hb;have B:=am hb;have X1:=am hbox;have yp0:w1.cell? ⟨g1,0,none⟩=some (.slice j7 j4.length j8):=aA X1.out 0;have yp1:w1.cell? ⟨g1,1,none⟩=some (.slice j5 j3.length j6):=aA X1.out 1;clear hb hbox hg)|((with_reducible refine (bD.calls k j7 j8 j4 j5 j6 j3 _ _ (Kd.aV jb.out B.out) jc.out (Kd.aV j9.out B.out) ja.out HV.out).mono ?_);rintro e w2 ⟨rfl,hb⟩;have b_:=am (aG B.out hb);have x_:=am (bY X1.out hb);clear B X1 yp0 yp1;have B:=b_;have X1:=x_;have yp0:w2.cell? ⟨g1,0,none⟩=some (.slice j7 j4.length j8):=aA X1.out 0;have yp1:w2.cell? ⟨g1,1,none⟩=some (.slice j5 j3.length j6):=aA X1.out 1;clear b_ x_ hb;(try dsimp only))|((with_reducible refine (LG k j5 j6 j3 _ _ (Kd.aV j9.out B.out) ja.out jd.out).mono ?_);rintro e w3 ⟨rfl,hb⟩;have b_:=am (aG B.out hb);have x_:=am (bY X1.out hb);clear B X1 yp0 yp1;have B:=b_;have X1:=x_;have yp0:w3.cell? ⟨g1,0,none⟩=some (.slice j7 j4.length j8):=aA X1.out 0;have yp1:w3.cell? ⟨g1,1,none⟩=some (.slice j5 j3.length j6):=aA X1.out 1;clear b_ x_ hb;(try dsimp only))|fail)
   go_ret
   exact ⟨rfl,B.out⟩
end Go.Proofs.Ytodhbeeibagiaaa.PA

